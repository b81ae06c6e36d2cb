/- Walks: each function of the program computes its plain function. -/
import Derived.Test.YtmdkdigmkcpceaaGx1
set_option linter.unusedVariables false
set_option linter.unusedSimpArgs false
set_option maxHeartbeats 4000000
namespace Gp
open Go Gw Go.Proofs
theorem torus_rings_calls (k : Nat) (p0 : List Tile) (p1 : Int) (A_p0 : Option Addr) (c_p0 : Nat) (r : (List Row)) (w : World) (hR0 : RO NoS w (rowR enc_Tile A_p0 c_p0 p0)) (hf : torus_rings k p0 p1 = some r) :
  CallsR Try.prog 62 #[(.slice A_p0 p0.length c_p0), (iv p1)] w (fun v w' => ∃ (A1_ : Option Addr), ∃ (c1_ : Nat), ∃ (h1_ : Nat → HF), v = (.slice A1_ r.length c1_) ∧ St NoS w w' [] [rowO 88 encN_Row A1_ c1_ (tag h1_ r), poolO [nestO subN_Row h1_ r]]) := by
 have hS : St NoS w w [rowR enc_Tile A_p0 c_p0 p0] [] := St.init (ro_cons hR0 (ro_nil _ _))
 refine enter 27 Try.func62 rfl Try.ntmps62 rfl ?_
 unfold torus_rings at hf
 refine WC.seq ?_
 refine WC.region ?_
 refine seg 1 [] [0, 1] [(0, (.slice A_p0 p0.length c_p0)), (1, (iv p1))] [] (fun fb => by kernel_rfl) rfl trivial ?_
 refine WL.done rfl ?_
 refine WX.next ?_
 refine WC.seq ?_
 refine WC.region ?_
 refine seg 1 [] [0, 1, 5] [(0, (.slice A_p0 p0.length c_p0)), (1, (iv p1)), (5, (.slice none 0 0))] [] (fun fb => by kernel_rfl) rfl trivial ?_
 refine WL.done rfl ?_
 refine WX.next ?_
 refine WC.seq ?_
 refine WC.seq ?_
 refine WC.region ?_
 refine seg 2 [] [5, 8, 9] [(5, (.slice none 0 0)), (8, (.slice A_p0 p0.length c_p0)), (9, (iv p1))] [] (fun fb => by kernel_rfl) rfl trivial ?_
 obtain ⟨t6016, ht6017, hf⟩ := bind_some hf
 refine WL.call (some 10) 67 #[(.slice A_p0 p0.length c_p0), (iv p1)] (fun fb => by kernel_rfl) (rows_All_calls _ p0 p1 A_p0 c_p0 t6016 _ (hS.rd 0) ht6017) (fun v w6018 hR6019 => ?_)
 obtain ⟨A6021, c6022, H6023, rfl, hk_⟩ := hR6019
 have hS6020 : St NoS w w6018 [rowR enc_Tile A_p0 c_p0 p0] [rowO 88 encN_Row A6021 c6022 (tag H6023 t6016), poolO [nestO subN_Row H6023 t6016]] := hS.call hk_ [] [] (fun g hg => hg.elim) (by simp) (by decide)
 refine ⟨trivial, ?_⟩
 refine seg 5 [] [5, 10, 11, 12] [(5, (.slice none 0 0)), (10, (.slice A6021 t6016.length c6022)), (11, (iv (t6016.length : Int))), (12, (iv 0))] [] (fun fb => by kernel_rfl) rfl trivial ?_
 refine WL.done rfl ?_
 refine WX.next ?_
 have hS6125 : St NoS w w6018 [rowR enc_Tile A_p0 c_p0 p0] [rowO 88 encN_Row none 0 (tag h0 ([] : List Row)), rowO 88 encN_Row A6021 c6022 (tag H6023 t6016), poolO [nestO subN_Row H6023 t6016]] := hS6020.nilrow 88 encN_Row
 have hS6126 := hS6125.poolNil subN_Row h0
 have hS6127 : St NoS w w6018 [rowR enc_Tile A_p0 c_p0 p0] [poolO [nestO subN_Row h0 ([] : List Row), nestO subN_Row H6023 t6016], rowO 88 encN_Row none 0 (tag h0 ([] : List Row)), rowO 88 encN_Row A6021 c6022 (tag H6023 t6016)] := hS6126.poolMerge 0 3 rfl rfl [1, 2] (by decide) (by decide)
 obtain ⟨x6137, hx6138, hf⟩ := bind_some hf
 refine WC.cutN (T := (List Row) × (Option Addr) × Nat × (Nat → HF)) (fun t => [(5, (.slice t.2.1 t.1.length t.2.2.1))]) (fun t w1 => St NoS w w1 [rowR enc_Tile A_p0 c_p0 p0] [rowO 88 encN_Row t.2.1 t.2.2.1 (tag t.2.2.2 t.1), poolO [nestO subN_Row t.2.2.2 t.1]] ∧ x6137 = t.1) (fun Kx6137 => ?_) ?_
 ·
  refine WC.block ?_
  refine WC.loop (T := ((List Row) × Int) × (Option Addr) × Nat × (Nat → HF)) (fun t => [(5, (.slice t.2.1 t.1.1.length t.2.2.1)), (10, (.slice A6021 t6016.length c6022)), (11, (iv (t6016.length : Int))), (12, (iv t.1.2))]) (fun n t w1 => St NoS w w1 [rowR enc_Tile A_p0 c_p0 p0] [rowO 88 encN_Row t.2.1 t.2.2.1 (tag t.2.2.2 t.1.1), poolO [nestO subN_Row t.2.2.2 t.1.1, nestO subN_Row H6023 t6016], rowO 88 encN_Row A6021 c6022 (tag H6023 t6016)] ∧ torus_rings.l0 n t.1.1 t.1.2 t6016 = some x6137) k ((([] : List Row), 0), none, 0, h0) [5, 10, 11, 12] rfl ⟨(hS6127.subR [0]).sub [1, 0, 2] (by decide), hx6138⟩ ?_
  rintro k6139 ⟨⟨l6130, x6132⟩, A6128, c6129, H6131⟩ w6140 ⟨hS6141, hl6142⟩
  cases k6139 with
  | zero => rw [torus_rings.l0] at hl6142; cases hl6142
  | succ k6139 =>
   rw [torus_rings.l0] at hl6142
   refine WC.seq ?_
   refine WC.region ?_
   refine seg 1 [] [5, 10, 11, 12, 13] [(5, (.slice A6128 l6130.length c6129)), (10, (.slice A6021 t6016.length c6022)), (11, (iv (t6016.length : Int))), (12, (iv x6132)), (13, (.bool (decide (x6132 < (t6016.length : Int)))))] [] (fun fb => by kernel_rfl) rfl trivial ?_
   refine WL.done rfl ?_
   refine WX.next ?_
   refine WC.seq ?_
   rcases br_some hl6142 with ⟨h6143, hl6142⟩ | ⟨h6143, hl6142⟩
   ·refine WC.condT2 (fun fb => by kernel_rfl) h6143 ?_
    refine WC.skip ?_
    refine WX.next ?_
    refine WC.seq ?_
    refine WC.block ?_
    refine WC.seq ?_
    refine WC.region ?_
    obtain ⟨h6144, hl6142⟩ := as_some hl6142
    refine seg 2 [.v (.slice ((H6023 x6132.toNat 0).1) ((rdD t6016 x6132 z_Row).Cells).length ((H6023 x6132.toNat 0).2)), .v (iv (((rdD t6016 x6132 z_Row).South).e0)), .v (iv (((rdD t6016 x6132 z_Row).South).e1)), .v (iv (((rdD t6016 x6132 z_Row).South).e2)), .v (iv (((rdD t6016 x6132 z_Row).South).e3)), .v (iv (((rdD t6016 x6132 z_Row).South).e4)), .v (iv (((rdD t6016 x6132 z_Row).South).e5)), .v (iv (((rdD t6016 x6132 z_Row).South).e6)), .v (iv (((rdD t6016 x6132 z_Row).South).e7)), .v (iv (((rdD t6016 x6132 z_Row).North).e0)), .v (iv (((rdD t6016 x6132 z_Row).North).e1)), .v (iv (((rdD t6016 x6132 z_Row).North).e2)), .v (iv (((rdD t6016 x6132 z_Row).North).e3)), .v (iv (((rdD t6016 x6132 z_Row).North).e4)), .v (iv (((rdD t6016 x6132 z_Row).North).e5)), .v (iv (((rdD t6016 x6132 z_Row).North).e6)), .v (iv (((rdD t6016 x6132 z_Row).North).e7)), .v (iv ((rdD t6016 x6132 z_Row).West)), .v (iv ((rdD t6016 x6132 z_Row).East))] [5, 10, 11, 12, 15] [(5, (.slice A6128 l6130.length c6129)), (10, (.slice A6021 t6016.length c6022)), (11, (iv (t6016.length : Int))), (12, (iv x6132)), (15, (.agg #[(.slice ((H6023 x6132.toNat 0).1) ((rdD t6016 x6132 z_Row).Cells).length ((H6023 x6132.toNat 0).2)), (iv (((rdD t6016 x6132 z_Row).South).e0)), (iv (((rdD t6016 x6132 z_Row).South).e1)), (iv (((rdD t6016 x6132 z_Row).South).e2)), (iv (((rdD t6016 x6132 z_Row).South).e3)), (iv (((rdD t6016 x6132 z_Row).South).e4)), (iv (((rdD t6016 x6132 z_Row).South).e5)), (iv (((rdD t6016 x6132 z_Row).South).e6)), (iv (((rdD t6016 x6132 z_Row).South).e7)), (iv (((rdD t6016 x6132 z_Row).North).e0)), (iv (((rdD t6016 x6132 z_Row).North).e1)), (iv (((rdD t6016 x6132 z_Row).North).e2)), (iv (((rdD t6016 x6132 z_Row).North).e3)), (iv (((rdD t6016 x6132 z_Row).North).e4)), (iv (((rdD t6016 x6132 z_Row).North).e5)), (iv (((rdD t6016 x6132 z_Row).North).e6)), (iv (((rdD t6016 x6132 z_Row).North).e7)), (iv ((rdD t6016 x6132 z_Row).West)), (iv ((rdD t6016 x6132 z_Row).East))]))] [.idx A6021 x6132 t6016.length, .cell ((adr A6021).add ((x6132).toNat * 19)) (.slice ((H6023 x6132.toNat 0).1) ((rdD t6016 x6132 z_Row).Cells).length ((H6023 x6132.toNat 0).2)), .cell (((adr A6021).add ((x6132).toNat * 19)).add 1) (iv (((rdD t6016 x6132 z_Row).South).e0)), .cell (((adr A6021).add ((x6132).toNat * 19)).add 2) (iv (((rdD t6016 x6132 z_Row).South).e1)), .cell (((adr A6021).add ((x6132).toNat * 19)).add 3) (iv (((rdD t6016 x6132 z_Row).South).e2)), .cell (((adr A6021).add ((x6132).toNat * 19)).add 4) (iv (((rdD t6016 x6132 z_Row).South).e3)), .cell (((adr A6021).add ((x6132).toNat * 19)).add 5) (iv (((rdD t6016 x6132 z_Row).South).e4)), .cell (((adr A6021).add ((x6132).toNat * 19)).add 6) (iv (((rdD t6016 x6132 z_Row).South).e5)), .cell (((adr A6021).add ((x6132).toNat * 19)).add 7) (iv (((rdD t6016 x6132 z_Row).South).e6)), .cell (((adr A6021).add ((x6132).toNat * 19)).add 8) (iv (((rdD t6016 x6132 z_Row).South).e7)), .cell (((adr A6021).add ((x6132).toNat * 19)).add 9) (iv (((rdD t6016 x6132 z_Row).North).e0)), .cell (((adr A6021).add ((x6132).toNat * 19)).add 10) (iv (((rdD t6016 x6132 z_Row).North).e1)), .cell (((adr A6021).add ((x6132).toNat * 19)).add 11) (iv (((rdD t6016 x6132 z_Row).North).e2)), .cell (((adr A6021).add ((x6132).toNat * 19)).add 12) (iv (((rdD t6016 x6132 z_Row).North).e3)), .cell (((adr A6021).add ((x6132).toNat * 19)).add 13) (iv (((rdD t6016 x6132 z_Row).North).e4)), .cell (((adr A6021).add ((x6132).toNat * 19)).add 14) (iv (((rdD t6016 x6132 z_Row).North).e5)), .cell (((adr A6021).add ((x6132).toNat * 19)).add 15) (iv (((rdD t6016 x6132 z_Row).North).e6)), .cell (((adr A6021).add ((x6132).toNat * 19)).add 16) (iv (((rdD t6016 x6132 z_Row).North).e7)), .cell (((adr A6021).add ((x6132).toNat * 19)).add 17) (iv ((rdD t6016 x6132 z_Row).West)), .cell (((adr A6021).add ((x6132).toNat * 19)).add 18) (iv ((rdD t6016 x6132 z_Row).East))] (fun fb => by kernel_rfl) rfl ⟨nrow_adr (rowO.rd (hS6141.own 2).1) h6144.1 h6144.2, nrow_cell (rowO.rd (hS6141.own 2).1) z_Row h6144.1 h6144.2 0 rfl, nrow_cell (rowO.rd (hS6141.own 2).1) z_Row h6144.1 h6144.2 1 rfl, nrow_cell (rowO.rd (hS6141.own 2).1) z_Row h6144.1 h6144.2 2 rfl, nrow_cell (rowO.rd (hS6141.own 2).1) z_Row h6144.1 h6144.2 3 rfl, nrow_cell (rowO.rd (hS6141.own 2).1) z_Row h6144.1 h6144.2 4 rfl, nrow_cell (rowO.rd (hS6141.own 2).1) z_Row h6144.1 h6144.2 5 rfl, nrow_cell (rowO.rd (hS6141.own 2).1) z_Row h6144.1 h6144.2 6 rfl, nrow_cell (rowO.rd (hS6141.own 2).1) z_Row h6144.1 h6144.2 7 rfl, nrow_cell (rowO.rd (hS6141.own 2).1) z_Row h6144.1 h6144.2 8 rfl, nrow_cell (rowO.rd (hS6141.own 2).1) z_Row h6144.1 h6144.2 9 rfl, nrow_cell (rowO.rd (hS6141.own 2).1) z_Row h6144.1 h6144.2 10 rfl, nrow_cell (rowO.rd (hS6141.own 2).1) z_Row h6144.1 h6144.2 11 rfl, nrow_cell (rowO.rd (hS6141.own 2).1) z_Row h6144.1 h6144.2 12 rfl, nrow_cell (rowO.rd (hS6141.own 2).1) z_Row h6144.1 h6144.2 13 rfl, nrow_cell (rowO.rd (hS6141.own 2).1) z_Row h6144.1 h6144.2 14 rfl, nrow_cell (rowO.rd (hS6141.own 2).1) z_Row h6144.1 h6144.2 15 rfl, nrow_cell (rowO.rd (hS6141.own 2).1) z_Row h6144.1 h6144.2 16 rfl, nrow_cell (rowO.rd (hS6141.own 2).1) z_Row h6144.1 h6144.2 17 rfl, nrow_cell (rowO.rd (hS6141.own 2).1) z_Row h6144.1 h6144.2 18 rfl, trivial⟩ ?_
    refine WL.new hS6141 7 [] (fun g => (.pointer (some ⟨g, 0, none⟩))) (.cells #[(.slice none 0 0), (iv 0), (iv 0), (iv 0), (iv 0), (iv 0), (iv 0), (iv 0), (iv 0), (iv 0), (iv 0), (iv 0), (iv 0), (iv 0), (iv 0), (iv 0), (iv 0), (iv 0), (iv 0)] 88 (0, 0)) [] (fun fb g => by kernel_rfl) trivial (fun g6145 w6146 hS6147 => ?_)
    refine ⟨trivial, ?_⟩
    refine WL.store hS6147 0 rfl [(0, (.slice ((H6023 x6132.toNat 0).1) ((rdD t6016 x6132 z_Row).Cells).length ((H6023 x6132.toNat 0).2))), (1, (iv (((rdD t6016 x6132 z_Row).South).e0))), (2, (iv (((rdD t6016 x6132 z_Row).South).e1))), (3, (iv (((rdD t6016 x6132 z_Row).South).e2))), (4, (iv (((rdD t6016 x6132 z_Row).South).e3))), (5, (iv (((rdD t6016 x6132 z_Row).South).e4))), (6, (iv (((rdD t6016 x6132 z_Row).South).e5))), (7, (iv (((rdD t6016 x6132 z_Row).South).e6))), (8, (iv (((rdD t6016 x6132 z_Row).South).e7))), (9, (iv (((rdD t6016 x6132 z_Row).North).e0))), (10, (iv (((rdD t6016 x6132 z_Row).North).e1))), (11, (iv (((rdD t6016 x6132 z_Row).North).e2))), (12, (iv (((rdD t6016 x6132 z_Row).North).e3))), (13, (iv (((rdD t6016 x6132 z_Row).North).e4))), (14, (iv (((rdD t6016 x6132 z_Row).North).e5))), (15, (iv (((rdD t6016 x6132 z_Row).North).e6))), (16, (iv (((rdD t6016 x6132 z_Row).North).e7))), (17, (iv ((rdD t6016 x6132 z_Row).West))), (18, (iv ((rdD t6016 x6132 z_Row).East)))] #[(.slice ((H6023 x6132.toNat 0).1) ((rdD t6016 x6132 z_Row).Cells).length ((H6023 x6132.toNat 0).2)), (iv (((rdD t6016 x6132 z_Row).South).e0)), (iv (((rdD t6016 x6132 z_Row).South).e1)), (iv (((rdD t6016 x6132 z_Row).South).e2)), (iv (((rdD t6016 x6132 z_Row).South).e3)), (iv (((rdD t6016 x6132 z_Row).South).e4)), (iv (((rdD t6016 x6132 z_Row).South).e5)), (iv (((rdD t6016 x6132 z_Row).South).e6)), (iv (((rdD t6016 x6132 z_Row).South).e7)), (iv (((rdD t6016 x6132 z_Row).North).e0)), (iv (((rdD t6016 x6132 z_Row).North).e1)), (iv (((rdD t6016 x6132 z_Row).North).e2)), (iv (((rdD t6016 x6132 z_Row).North).e3)), (iv (((rdD t6016 x6132 z_Row).North).e4)), (iv (((rdD t6016 x6132 z_Row).North).e5)), (iv (((rdD t6016 x6132 z_Row).North).e6)), (iv (((rdD t6016 x6132 z_Row).North).e7)), (iv ((rdD t6016 x6132 z_Row).West)), (iv ((rdD t6016 x6132 z_Row).East))] (fun fb => by kernel_rfl) (by kernel_rfl) (by kernel_rfl) [1, 2, 3] (by decide) (by decide) (fun w6149 hS6150 => ?_)
    refine ⟨trivial, ?_⟩
    refine WL.done rfl ?_
    refine WX.next ?_
    refine WC.seq ?_
    refine WC.region ?_
    refine seg 5 [.v (iv ((rdD t6016 x6132 z_Row).West)), .v (iv ((rdD t6016 x6132 z_Row).East))] [5, 7, 10, 11, 12, 20] [(5, (.slice A6128 l6130.length c6129)), (7, (pt g6145)), (10, (.slice A6021 t6016.length c6022)), (11, (iv (t6016.length : Int))), (12, (iv x6132)), (20, (.bool (((rdD t6016 x6132 z_Row).West) == ((rdD t6016 x6132 z_Row).East))))] [.cell ⟨g6145, 17, none⟩ (iv ((rdD t6016 x6132 z_Row).West)), .cell ⟨g6145, 18, none⟩ (iv ((rdD t6016 x6132 z_Row).East))] (fun fb => by kernel_rfl) rfl ⟨hS6150.cell 0 rfl 17 rfl, hS6150.cell 0 rfl 18 rfl, trivial⟩ ?_
    refine WL.done rfl ?_
    refine WX.next ?_
    obtain ⟨x6167, hx6168, hl6142⟩ := bind_some hl6142
    refine WC.cutN (T := (List Row) × (Option Addr) × Nat × (Nat → HF)) (fun t => [(5, (.slice t.2.1 t.1.length t.2.2.1)), (10, (.slice A6021 t6016.length c6022)), (11, (iv (t6016.length : Int))), (12, (iv x6132))]) (fun t w1 => St NoS w w1 [rowR enc_Tile A_p0 c_p0 p0] [rowO 88 encN_Row t.2.1 t.2.2.1 (tag t.2.2.2 t.1), poolO [nestO subN_Row t.2.2.2 t.1, nestO subN_Row H6023 t6016], rowO 88 encN_Row A6021 c6022 (tag H6023 t6016)] ∧ x6167 = t.1) (fun Kx6167 => ?_) ?_
    ·
     rcases br_some hx6168 with ⟨h6169, hx6168⟩ | ⟨h6169, hx6168⟩
     ·refine WC.condT2 (fun fb => by kernel_rfl) h6169 ?_
      refine WC.region ?_
      refine seg 2 [.v (.slice ((H6023 x6132.toNat 0).1) ((rdD t6016 x6132 z_Row).Cells).length ((H6023 x6132.toNat 0).2)), .v (iv (((rdD t6016 x6132 z_Row).South).e0)), .v (iv (((rdD t6016 x6132 z_Row).South).e1)), .v (iv (((rdD t6016 x6132 z_Row).South).e2)), .v (iv (((rdD t6016 x6132 z_Row).South).e3)), .v (iv (((rdD t6016 x6132 z_Row).South).e4)), .v (iv (((rdD t6016 x6132 z_Row).South).e5)), .v (iv (((rdD t6016 x6132 z_Row).South).e6)), .v (iv (((rdD t6016 x6132 z_Row).South).e7)), .v (iv (((rdD t6016 x6132 z_Row).North).e0)), .v (iv (((rdD t6016 x6132 z_Row).North).e1)), .v (iv (((rdD t6016 x6132 z_Row).North).e2)), .v (iv (((rdD t6016 x6132 z_Row).North).e3)), .v (iv (((rdD t6016 x6132 z_Row).North).e4)), .v (iv (((rdD t6016 x6132 z_Row).North).e5)), .v (iv (((rdD t6016 x6132 z_Row).North).e6)), .v (iv (((rdD t6016 x6132 z_Row).North).e7)), .v (iv ((rdD t6016 x6132 z_Row).West)), .v (iv ((rdD t6016 x6132 z_Row).East))] [10, 11, 12, 21, 22] [(10, (.slice A6021 t6016.length c6022)), (11, (iv (t6016.length : Int))), (12, (iv x6132)), (21, (.slice A6128 l6130.length c6129)), (22, (.agg #[(.slice ((H6023 x6132.toNat 0).1) ((rdD t6016 x6132 z_Row).Cells).length ((H6023 x6132.toNat 0).2)), (iv (((rdD t6016 x6132 z_Row).South).e0)), (iv (((rdD t6016 x6132 z_Row).South).e1)), (iv (((rdD t6016 x6132 z_Row).South).e2)), (iv (((rdD t6016 x6132 z_Row).South).e3)), (iv (((rdD t6016 x6132 z_Row).South).e4)), (iv (((rdD t6016 x6132 z_Row).South).e5)), (iv (((rdD t6016 x6132 z_Row).South).e6)), (iv (((rdD t6016 x6132 z_Row).South).e7)), (iv (((rdD t6016 x6132 z_Row).North).e0)), (iv (((rdD t6016 x6132 z_Row).North).e1)), (iv (((rdD t6016 x6132 z_Row).North).e2)), (iv (((rdD t6016 x6132 z_Row).North).e3)), (iv (((rdD t6016 x6132 z_Row).North).e4)), (iv (((rdD t6016 x6132 z_Row).North).e5)), (iv (((rdD t6016 x6132 z_Row).North).e6)), (iv (((rdD t6016 x6132 z_Row).North).e7)), (iv ((rdD t6016 x6132 z_Row).West)), (iv ((rdD t6016 x6132 z_Row).East))]))] [.cell ⟨g6145, 0, none⟩ (.slice ((H6023 x6132.toNat 0).1) ((rdD t6016 x6132 z_Row).Cells).length ((H6023 x6132.toNat 0).2)), .cell ⟨g6145, 1, none⟩ (iv (((rdD t6016 x6132 z_Row).South).e0)), .cell ⟨g6145, 2, none⟩ (iv (((rdD t6016 x6132 z_Row).South).e1)), .cell ⟨g6145, 3, none⟩ (iv (((rdD t6016 x6132 z_Row).South).e2)), .cell ⟨g6145, 4, none⟩ (iv (((rdD t6016 x6132 z_Row).South).e3)), .cell ⟨g6145, 5, none⟩ (iv (((rdD t6016 x6132 z_Row).South).e4)), .cell ⟨g6145, 6, none⟩ (iv (((rdD t6016 x6132 z_Row).South).e5)), .cell ⟨g6145, 7, none⟩ (iv (((rdD t6016 x6132 z_Row).South).e6)), .cell ⟨g6145, 8, none⟩ (iv (((rdD t6016 x6132 z_Row).South).e7)), .cell ⟨g6145, 9, none⟩ (iv (((rdD t6016 x6132 z_Row).North).e0)), .cell ⟨g6145, 10, none⟩ (iv (((rdD t6016 x6132 z_Row).North).e1)), .cell ⟨g6145, 11, none⟩ (iv (((rdD t6016 x6132 z_Row).North).e2)), .cell ⟨g6145, 12, none⟩ (iv (((rdD t6016 x6132 z_Row).North).e3)), .cell ⟨g6145, 13, none⟩ (iv (((rdD t6016 x6132 z_Row).North).e4)), .cell ⟨g6145, 14, none⟩ (iv (((rdD t6016 x6132 z_Row).North).e5)), .cell ⟨g6145, 15, none⟩ (iv (((rdD t6016 x6132 z_Row).North).e6)), .cell ⟨g6145, 16, none⟩ (iv (((rdD t6016 x6132 z_Row).North).e7)), .cell ⟨g6145, 17, none⟩ (iv ((rdD t6016 x6132 z_Row).West)), .cell ⟨g6145, 18, none⟩ (iv ((rdD t6016 x6132 z_Row).East))] (fun fb => by kernel_rfl) rfl ⟨hS6150.cell 0 rfl 0 rfl, hS6150.cell 0 rfl 1 rfl, hS6150.cell 0 rfl 2 rfl, hS6150.cell 0 rfl 3 rfl, hS6150.cell 0 rfl 4 rfl, hS6150.cell 0 rfl 5 rfl, hS6150.cell 0 rfl 6 rfl, hS6150.cell 0 rfl 7 rfl, hS6150.cell 0 rfl 8 rfl, hS6150.cell 0 rfl 9 rfl, hS6150.cell 0 rfl 10 rfl, hS6150.cell 0 rfl 11 rfl, hS6150.cell 0 rfl 12 rfl, hS6150.cell 0 rfl 13 rfl, hS6150.cell 0 rfl 14 rfl, hS6150.cell 0 rfl 15 rfl, hS6150.cell 0 rfl 16 rfl, hS6150.cell 0 rfl 17 rfl, hS6150.cell 0 rfl 18 rfl, trivial⟩ ?_
      refine WL.new hS6150 23 [] (fun g => (.slice (some ⟨g, 0, none⟩) 1 1)) (.cells #[(.slice ((H6023 x6132.toNat 0).1) ((rdD t6016 x6132 z_Row).Cells).length ((H6023 x6132.toNat 0).2)), (iv (((rdD t6016 x6132 z_Row).South).e0)), (iv (((rdD t6016 x6132 z_Row).South).e1)), (iv (((rdD t6016 x6132 z_Row).South).e2)), (iv (((rdD t6016 x6132 z_Row).South).e3)), (iv (((rdD t6016 x6132 z_Row).South).e4)), (iv (((rdD t6016 x6132 z_Row).South).e5)), (iv (((rdD t6016 x6132 z_Row).South).e6)), (iv (((rdD t6016 x6132 z_Row).South).e7)), (iv (((rdD t6016 x6132 z_Row).North).e0)), (iv (((rdD t6016 x6132 z_Row).North).e1)), (iv (((rdD t6016 x6132 z_Row).North).e2)), (iv (((rdD t6016 x6132 z_Row).North).e3)), (iv (((rdD t6016 x6132 z_Row).North).e4)), (iv (((rdD t6016 x6132 z_Row).North).e5)), (iv (((rdD t6016 x6132 z_Row).North).e6)), (iv (((rdD t6016 x6132 z_Row).North).e7)), (iv ((rdD t6016 x6132 z_Row).West)), (iv ((rdD t6016 x6132 z_Row).East))] 88 (0, 0)) [] (fun fb g => by kernel_rfl) trivial (fun g6170 w6171 hS6172 => ?_)
      refine ⟨trivial, ?_⟩
      have hS6174 : St NoS w w6171 [rowR enc_Tile A_p0 c_p0 p0] [rowO 88 encN_Row (some ⟨g6170, 0, none⟩) 1 [((hd1 ((H6023 x6132.toNat 0).1) ((H6023 x6132.toNat 0).2)), (rdD t6016 x6132 z_Row))], blk g6145 (.cells #[(.slice ((H6023 x6132.toNat 0).1) ((rdD t6016 x6132 z_Row).Cells).length ((H6023 x6132.toNat 0).2)), (iv (((rdD t6016 x6132 z_Row).South).e0)), (iv (((rdD t6016 x6132 z_Row).South).e1)), (iv (((rdD t6016 x6132 z_Row).South).e2)), (iv (((rdD t6016 x6132 z_Row).South).e3)), (iv (((rdD t6016 x6132 z_Row).South).e4)), (iv (((rdD t6016 x6132 z_Row).South).e5)), (iv (((rdD t6016 x6132 z_Row).South).e6)), (iv (((rdD t6016 x6132 z_Row).South).e7)), (iv (((rdD t6016 x6132 z_Row).North).e0)), (iv (((rdD t6016 x6132 z_Row).North).e1)), (iv (((rdD t6016 x6132 z_Row).North).e2)), (iv (((rdD t6016 x6132 z_Row).North).e3)), (iv (((rdD t6016 x6132 z_Row).North).e4)), (iv (((rdD t6016 x6132 z_Row).North).e5)), (iv (((rdD t6016 x6132 z_Row).North).e6)), (iv (((rdD t6016 x6132 z_Row).North).e7)), (iv ((rdD t6016 x6132 z_Row).West)), (iv ((rdD t6016 x6132 z_Row).East))] 88 (0, 0)), rowO 88 encN_Row A6128 c6129 (tag H6131 l6130), poolO [nestO subN_Row H6131 l6130, nestO subN_Row H6023 t6016], rowO 88 encN_Row A6021 c6022 (tag H6023 t6016)] := hS6172.map1 0 _ (fun h => rowO.ofBlk h rfl (Nat.le_of_ble_eq_true (by kernel_rfl))) (fun _ h => by obtain ⟨_, h1, h2⟩ := h; injection h1 with h1; subst h1; exact h2) [1, 2, 3, 4] (by decide) (by decide)
      obtain ⟨h6175, hx6168⟩ := as_some hx6168
      refine WL.appendN hS6174 2 (d := 24) (tS := 82) (z := (.agg #[(.slice none 0 0), (iv 0), (iv 0), (iv 0), (iv 0), (iv 0), (iv 0), (iv 0), (iv 0), (iv 0), (iv 0), (iv 0), (iv 0), (iv 0), (iv 0), (iv 0), (iv 0), (iv 0), (iv 0)])) (bytes := 168) (c2 := 1) (hx := (hd1 ((H6023 x6132.toNat 0).1) ((H6023 x6132.toNat 0).2))) (x := (rdD t6016 x6132 z_Row)) rfl (fun fb => by kernel_rfl) (rowO.rd (hS6174.own 0).1) (by kernel_rfl) (by kernel_rfl) rfl (by decide) h6175 (by decide) [0, 1, 3, 4] (by decide) (by decide) (fun A6176 c6177 w6178 hS6179 => ?_)
      have hS6180 : St NoS w w6178 [rowR enc_Tile A_p0 c_p0 p0] [poolO [nestO subN_Row (updH H6131 l6130.length (hd1 ((H6023 x6132.toNat 0).1) ((H6023 x6132.toNat 0).2))) (l6130 ++ [(rdD t6016 x6132 z_Row)]), nestO subN_Row H6023 t6016], rowO 88 encN_Row A6176 c6177 (tag (updH H6131 l6130.length (hd1 ((H6023 x6132.toNat 0).1) ((H6023 x6132.toNat 0).2))) (l6130 ++ [(rdD t6016 x6132 z_Row)])), rowO 88 encN_Row (some ⟨g6170, 0, none⟩) 1 [((hd1 ((H6023 x6132.toNat 0).1) ((H6023 x6132.toNat 0).2)), (rdD t6016 x6132 z_Row))], blk g6145 (.cells #[(.slice ((H6023 x6132.toNat 0).1) ((rdD t6016 x6132 z_Row).Cells).length ((H6023 x6132.toNat 0).2)), (iv (((rdD t6016 x6132 z_Row).South).e0)), (iv (((rdD t6016 x6132 z_Row).South).e1)), (iv (((rdD t6016 x6132 z_Row).South).e2)), (iv (((rdD t6016 x6132 z_Row).South).e3)), (iv (((rdD t6016 x6132 z_Row).South).e4)), (iv (((rdD t6016 x6132 z_Row).South).e5)), (iv (((rdD t6016 x6132 z_Row).South).e6)), (iv (((rdD t6016 x6132 z_Row).South).e7)), (iv (((rdD t6016 x6132 z_Row).North).e0)), (iv (((rdD t6016 x6132 z_Row).North).e1)), (iv (((rdD t6016 x6132 z_Row).North).e2)), (iv (((rdD t6016 x6132 z_Row).North).e3)), (iv (((rdD t6016 x6132 z_Row).North).e4)), (iv (((rdD t6016 x6132 z_Row).North).e5)), (iv (((rdD t6016 x6132 z_Row).North).e6)), (iv (((rdD t6016 x6132 z_Row).North).e7)), (iv ((rdD t6016 x6132 z_Row).West)), (iv ((rdD t6016 x6132 z_Row).East))] 88 (0, 0)), rowO 88 encN_Row A6021 c6022 (tag H6023 t6016)] := hS6179.poolPush 3 rfl 0 (by simp) rfl (hd1 ((H6023 x6132.toNat 0).1) ((H6023 x6132.toNat 0).2)) (rdD t6016 x6132 z_Row) (nestO.ro (poolO.ro (hS6179.ow 3) 1) z_Row h6144.1 h6144.2) [] (fun g hg => ⟨3, by simp, ⟨1, ⟨_, _, rdD_at (d := z_Row) h6144.1 h6144.2, hg⟩⟩⟩) _ rfl [0, 1, 2, 4] (by decide) (by decide)
      refine ⟨trivial, ?_⟩
      refine seg 5 [] [5, 10, 11, 12] [(5, (.slice A6176 (l6130 ++ [(rdD t6016 x6132 z_Row)]).length c6177)), (10, (.slice A6021 t6016.length c6022)), (11, (iv (t6016.length : Int))), (12, (iv x6132))] [] (fun fb => by kernel_rfl) rfl trivial ?_
      refine WL.done rfl ?_
      injection hx6168 with hx6168
      exact WX.to Kx6167 (l6130 ++ [(rdD t6016 x6132 z_Row)], A6176, c6177, (updH H6131 l6130.length (hd1 ((H6023 x6132.toNat 0).1) ((H6023 x6132.toNat 0).2)))) [5, 10, 11, 12] rfl ⟨(hS6180.subR [0]).sub [1, 0, 4] (by decide), hx6168.symm⟩
     refine WC.condF2 (fun fb => by kernel_rfl) h6169 ?_
     refine WC.skip ?_
     injection hx6168 with hx6168
     exact WX.to Kx6167 (l6130, A6128, c6129, H6131) [5, 10, 11, 12] rfl ⟨(hS6150.subR [0]).sub [1, 2, 3] (by decide), hx6168.symm⟩
    rintro ⟨y6184, A6163, c6164, H6166⟩ w6181 ⟨hS6182, hq6183⟩
    subst hq6183
    refine WX.blockN (WX.next ?_)
    refine WC.region ?_
    refine seg 2 [] [5, 10, 11, 12] [(5, (.slice A6163 x6167.length c6164)), (10, (.slice A6021 t6016.length c6022)), (11, (iv (t6016.length : Int))), (12, (iv (w64 (x6132 + 1))))] [] (fun fb => by kernel_rfl) rfl trivial ?_
    refine WL.done rfl ?_
    exact WX.again k6139 (Nat.lt_succ_self _) ((x6167, w64 (x6132 + 1)), A6163, c6164, H6166) [5, 10, 11, 12] rfl ⟨(hS6182.subR [0]).sub [0, 1, 2] (by decide), hl6142⟩
   refine WC.condF2 (fun fb => by kernel_rfl) h6143 ?_
   refine WC.exit ?_
   have hS6185 : St NoS w w6140 [rowR enc_Tile A_p0 c_p0 p0] [poolO [nestO subN_Row H6131 l6130], rowO 88 encN_Row A6128 c6129 (tag H6131 l6130), rowO 88 encN_Row A6021 c6022 (tag H6023 t6016)] := hS6141.poolSub 1 rfl [0] [0, 2] (by decide) (by decide)
   injection hl6142 with hl6142
   exact WX.thenX (WX.thenX (WX.blockHere (WX.to Kx6137 (l6130, A6128, c6129, H6131) [5] rfl ⟨(hS6185.subR [0]).sub [1, 0] (by decide), hl6142.symm⟩)))
 rintro ⟨y6189, A6133, c6134, H6136⟩ w6186 ⟨hS6187, hq6188⟩
 subst hq6188
 refine WX.next ?_
 refine WC.seq ?_
 refine WC.region ?_
 refine seg 2 [] [4] [(4, (.slice A6133 x6137.length c6134))] [] (fun fb => by kernel_rfl) rfl trivial ?_
 refine WL.done rfl ?_
 refine WX.next ?_
 refine WC.ret ?_
 injection hf with hf
 subst hf
 exact WX.ret_ [] (.slice A6133 x6137.length c6134) [] (fun fb => by kernel_rfl) trivial ⟨_, rfl, A6133, c6134, H6136, rfl, (hS6187.sub [0, 1] (by decide)).noR⟩
theorem torus_back_key86 : KeyK Try.prog 86 (aggI ints_A8_Int) := KeyK.array (n := 8) (by kernel_rfl) ints_A8_Int (fun _ => rfl) (fun x y h => by cases x; cases y; simp only [ints_A8_Int, List.cons.injEq, and_true] at h; obtain ⟨rfl, rfl, rfl, rfl, rfl, rfl, rfl, rfl⟩ := h; rfl)
theorem torus_back_calls (k : Nat) (p0 : List Row) (p1 : A8_Int) (p2 : Int) (A_p0 : Option Addr) (c_p0 : Nat) (H_p0 : Nat → HF) (r : (List (Option (List (A8_Int × Bool))))) (w : World) (hR0 : RO NoS w (rowR encN_Row A_p0 c_p0 (tag H_p0 p0))) (hR1 : RO NoS w (nestO subN_Row H_p0 p0)) (hf : torus_back k p0 p1 p2 = some r) :
  CallsR Try.prog 63 #[(.slice A_p0 p0.length c_p0), (.agg #[(iv p1.e0), (iv p1.e1), (iv p1.e2), (iv p1.e3), (iv p1.e4), (iv p1.e5), (iv p1.e6), (iv p1.e7)]), (iv p2)] w (fun v w' => ∃ (A1_ : Option Addr), ∃ (c1_ : Nat), ∃ (m1_ : Nat → Nat), v = (.slice A1_ r.length c1_) ∧ St NoS w w' [] [rowO 81 (encMap A8_Int Bool) A1_ c1_ (tag m1_ r), mapsO (aggI ints_A8_Int) vB m1_ r]) := by
 have hS : St NoS w w [rowR encN_Row A_p0 c_p0 (tag H_p0 p0), nestO subN_Row H_p0 p0] [] := St.init (ro_cons hR0 (ro_cons hR1 (ro_nil _ _)))
 refine enter 46 Try.func63 rfl Try.ntmps63 rfl ?_
 unfold torus_back at hf
 refine WC.seq ?_
 refine WC.region ?_
 refine WL.new hS 4 [] (fun g => (.pointer (some ⟨g, 0, none⟩))) (.cells #[(iv p1.e0), (iv p1.e1), (iv p1.e2), (iv p1.e3), (iv p1.e4), (iv p1.e5), (iv p1.e6), (iv p1.e7)] 86 (0, 0)) [] (fun fb g => by kernel_rfl) trivial (fun g6219 w6220 hS6221 => ?_)
 refine ⟨trivial, ?_⟩
 refine seg 2 [] [0, 2, 4] [(0, (.slice A_p0 p0.length c_p0)), (2, (iv p2)), (4, (pt g6219))] [] (fun fb => by kernel_rfl) rfl trivial ?_
 refine WL.done rfl ?_
 refine WX.next ?_
 refine WC.seq ?_
 refine WC.region ?_
 refine WL.new hS6221 12 [] (fun g => (.map (some g))) (mapObj (aggI ints_A8_Int) vB ([] : List (A8_Int × Bool))) [] (fun fb g => by kernel_rfl) trivial (fun g6223 w6224 hS6225 => ?_)
 refine ⟨trivial, ?_⟩
 refine seg 2 [.v (iv p1.e0), .v (iv p1.e1), .v (iv p1.e2), .v (iv p1.e3), .v (iv p1.e4), .v (iv p1.e5), .v (iv p1.e6), .v (iv p1.e7)] [0, 2, 12, 13] [(0, (.slice A_p0 p0.length c_p0)), (2, (iv p2)), (12, (.map (some g6223))), (13, (.agg #[(iv p1.e0), (iv p1.e1), (iv p1.e2), (iv p1.e3), (iv p1.e4), (iv p1.e5), (iv p1.e6), (iv p1.e7)]))] [.cell ⟨g6219, 0, none⟩ (iv p1.e0), .cell ⟨g6219, 1, none⟩ (iv p1.e1), .cell ⟨g6219, 2, none⟩ (iv p1.e2), .cell ⟨g6219, 3, none⟩ (iv p1.e3), .cell ⟨g6219, 4, none⟩ (iv p1.e4), .cell ⟨g6219, 5, none⟩ (iv p1.e5), .cell ⟨g6219, 6, none⟩ (iv p1.e6), .cell ⟨g6219, 7, none⟩ (iv p1.e7)] (fun fb => by kernel_rfl) rfl ⟨hS6225.cell 1 rfl 0 rfl, hS6225.cell 1 rfl 1 rfl, hS6225.cell 1 rfl 2 rfl, hS6225.cell 1 rfl 3 rfl, hS6225.cell 1 rfl 4 rfl, hS6225.cell 1 rfl 5 rfl, hS6225.cell 1 rfl 6 rfl, hS6225.cell 1 rfl 7 rfl, trivial⟩ ?_
 refine WL.mapput hS6225 0 (t := 81) (kT := 86) (eT := 4) (kE := (aggI ints_A8_Int)) (vE := vB) (l := ([] : List (A8_Int × Bool))) rfl p1 true (fun fb => by kernel_rfl) torus_back_key86 (by kernel_rfl) [1] (by decide) (by decide) (fun w6226 hS6227 => ?_)
 refine ⟨trivial, ?_⟩
 refine seg 4 [] [0, 2, 14] [(0, (.slice A_p0 p0.length c_p0)), (2, (iv p2)), (14, (.map (some g6223)))] [] (fun fb => by kernel_rfl) rfl trivial ?_
 refine WL.new hS6227 15 [] (fun g => (.slice (some ⟨g, 0, none⟩) 1 1)) (.cells #[(.map (some g6223))] 81 (0, 0)) [] (fun fb g => by kernel_rfl) trivial (fun g6228 w6229 hS6230 => ?_)
 refine ⟨trivial, ?_⟩
 have hS6232 : St NoS w w6229 [rowR encN_Row A_p0 c_p0 (tag H_p0 p0), nestO subN_Row H_p0 p0] [rowO 81 (encMap A8_Int Bool) (some ⟨g6228, 0, none⟩) 1 (tag (fun _ => g6223) [some (mput p1 true ([] : List (A8_Int × Bool)))]), blk g6223 (mapObj (aggI ints_A8_Int) vB (mput p1 true ([] : List (A8_Int × Bool)))), blk g6219 (.cells #[(iv p1.e0), (iv p1.e1), (iv p1.e2), (iv p1.e3), (iv p1.e4), (iv p1.e5), (iv p1.e6), (iv p1.e7)] 86 (0, 0))] := hS6230.map1 0 _ (fun h => rowO.ofBlk h rfl (Nat.le_of_ble_eq_true (by kernel_rfl))) (fun _ h => by obtain ⟨_, h1, h2⟩ := h; injection h1 with h1; subst h1; exact h2) [1, 2] (by decide) (by decide)
 have hS6233 : St NoS w w6229 [rowR encN_Row A_p0 c_p0 (tag H_p0 p0), nestO subN_Row H_p0 p0] [mapsO (aggI ints_A8_Int) vB (fun _ => g6223) [some (mput p1 true ([] : List (A8_Int × Bool)))], rowO 81 (encMap A8_Int Bool) (some ⟨g6228, 0, none⟩) 1 (tag (fun _ => g6223) [some (mput p1 true ([] : List (A8_Int × Bool)))]), blk g6219 (.cells #[(iv p1.e0), (iv p1.e1), (iv p1.e2), (iv p1.e3), (iv p1.e4), (iv p1.e5), (iv p1.e6), (iv p1.e7)] 86 (0, 0))] := hS6232.mapsOne 1 rfl [0, 2] (by decide) (by decide)
 refine seg 6 [] [0, 2, 7] [(0, (.slice A_p0 p0.length c_p0)), (2, (iv p2)), (7, (.slice (some ⟨g6228, 0, none⟩) [some (mput p1 true ([] : List (A8_Int × Bool)))].length 1))] [] (fun fb => by kernel_rfl) rfl trivial ?_
 refine WL.done rfl ?_
 refine WX.next ?_
 refine WC.seq ?_
 refine WC.seq ?_
 refine WC.region ?_
 refine seg 2 [] [0, 7, 16, 17] [(0, (.slice A_p0 p0.length c_p0)), (7, (.slice (some ⟨g6228, 0, none⟩) [some (mput p1 true ([] : List (A8_Int × Bool)))].length 1)), (16, (iv p2)), (17, (iv 0))] [] (fun fb => by kernel_rfl) rfl trivial ?_
 refine WL.done rfl ?_
 refine WX.next ?_
 obtain ⟨x6442, hx6443, hf⟩ := bind_some hf
 refine WC.cutN (T := (List (Option (List (A8_Int × Bool)))) × (Option Addr) × Nat × (Nat → Nat)) (fun t => [(7, (.slice t.2.1 t.1.length t.2.2.1))]) (fun t w1 => St NoS w w1 [rowR encN_Row A_p0 c_p0 (tag H_p0 p0), nestO subN_Row H_p0 p0] [rowO 81 (encMap A8_Int Bool) t.2.1 t.2.2.1 (tag t.2.2.2 t.1), mapsO (aggI ints_A8_Int) vB t.2.2.2 t.1] ∧ x6442 = t.1) (fun Kx6442 => ?_) ?_
 ·
  refine WC.block ?_
  refine WC.loop (T := ((List (Option (List (A8_Int × Bool)))) × Int) × (Option Addr) × Nat × (Nat → Nat)) (fun t => [(0, (.slice A_p0 p0.length c_p0)), (7, (.slice t.2.1 t.1.1.length t.2.2.1)), (16, (iv p2)), (17, (iv t.1.2))]) (fun n t w1 => St NoS w w1 [rowR encN_Row A_p0 c_p0 (tag H_p0 p0), nestO subN_Row H_p0 p0] [rowO 81 (encMap A8_Int Bool) t.2.1 t.2.2.1 (tag t.2.2.2 t.1.1), mapsO (aggI ints_A8_Int) vB t.2.2.2 t.1.1] ∧ torus_back.l0 n t.1.1 t.1.2 p0 p2 = some x6442) k (([some (mput p1 true ([] : List (A8_Int × Bool)))], 0), (some ⟨g6228, 0, none⟩), 1, (fun _ => g6223)) [0, 7, 16, 17] rfl ⟨(hS6233.subR [0, 1]).sub [1, 0] (by decide), hx6443⟩ ?_
  rintro k6444 ⟨⟨l6435, x6437⟩, A6433, c6434, H6436⟩ w6445 ⟨hS6446, hl6447⟩
  cases k6444 with
  | zero => rw [torus_back.l0] at hl6447; cases hl6447
  | succ k6444 =>
   rw [torus_back.l0] at hl6447
   refine WC.seq ?_
   refine WC.region ?_
   refine seg 1 [] [0, 7, 16, 17, 18] [(0, (.slice A_p0 p0.length c_p0)), (7, (.slice A6433 l6435.length c6434)), (16, (iv p2)), (17, (iv x6437)), (18, (.bool (decide (x6437 < p2))))] [] (fun fb => by kernel_rfl) rfl trivial ?_
   refine WL.done rfl ?_
   refine WX.next ?_
   refine WC.seq ?_
   rcases br_some hl6447 with ⟨h6448, hl6447⟩ | ⟨h6448, hl6447⟩
   ·refine WC.condT2 (fun fb => by kernel_rfl) h6448 ?_
    refine WC.skip ?_
    refine WX.next ?_
    refine WC.seq ?_
    refine WC.block ?_
    refine WC.seq ?_
    refine WC.region ?_
    refine seg 4 [] [0, 7, 16, 17, 19, 22] [(0, (.slice A_p0 p0.length c_p0)), (7, (.slice A6433 l6435.length c6434)), (16, (iv p2)), (17, (iv x6437)), (19, (.slice A6433 l6435.length c6434)), (22, (iv (w64 ((l6435.length : Int) - 1))))] [] (fun fb => by kernel_rfl) rfl trivial ?_
    obtain ⟨h6449, hl6447⟩ := as_some hl6447
    refine seg 5 [] [0, 7, 16, 17, 23] [(0, (.slice A_p0 p0.length c_p0)), (7, (.slice A6433 l6435.length c6434)), (16, (iv p2)), (17, (iv x6437)), (23, (.pointer (some ((adr A6433).add ((w64 ((l6435.length : Int) - 1)).toNat * 1)))))] [.idx A6433 (w64 ((l6435.length : Int) - 1)) l6435.length] (fun fb => by kernel_rfl) rfl ⟨nrow_adr (rowO.rd (hS6446.own 0).1) h6449.1 h6449.2, trivial⟩ ?_
    obtain ⟨m6450, hm6451, hl6447⟩ := bind_some hl6447
    refine seg 6 [.v (.map (some (H6436 (w64 ((l6435.length : Int) - 1)).toNat)))] [0, 7, 16, 17, 24] [(0, (.slice A_p0 p0.length c_p0)), (7, (.slice A6433 l6435.length c6434)), (16, (iv p2)), (17, (iv x6437)), (24, (.map (some (H6436 (w64 ((l6435.length : Int) - 1)).toNat))))] [.cell ((adr A6433).add ((w64 ((l6435.length : Int) - 1)).toNat * 1)) (.map (some (H6436 (w64 ((l6435.length : Int) - 1)).toNat)))] (fun fb => by kernel_rfl) rfl ⟨nrow_cell (rowO.rd (hS6446.own 0).1) none h6449.1 h6449.2 0 (mapV_some hm6451), trivial⟩ ?_
    refine WL.new hS6446 25 [] (fun g => (.map (some g))) (mapObj (aggI ints_A8_Int) vB ([] : List (A8_Int × Bool))) [] (fun fb g => by kernel_rfl) trivial (fun g6452 w6453 hS6454 => ?_)
    refine ⟨trivial, ?_⟩
    refine seg 9 [] [0, 7, 8, 9, 16, 17] [(0, (.slice A_p0 p0.length c_p0)), (7, (.slice A6433 l6435.length c6434)), (8, (.map (some (H6436 (w64 ((l6435.length : Int) - 1)).toNat)))), (9, (.map (some g6452))), (16, (iv p2)), (17, (iv x6437))] [] (fun fb => by kernel_rfl) rfl trivial ?_
    refine WL.done rfl ?_
    refine WX.next ?_
    refine WC.seq ?_
    refine WC.seq ?_
    refine WC.region ?_
    refine seg 3 [] [0, 7, 8, 9, 16, 17, 26, 27, 28] [(0, (.slice A_p0 p0.length c_p0)), (7, (.slice A6433 l6435.length c6434)), (8, (.map (some (H6436 (w64 ((l6435.length : Int) - 1)).toNat)))), (9, (.map (some g6452))), (16, (iv p2)), (17, (iv x6437)), (26, (.slice A_p0 p0.length c_p0)), (27, (iv (p0.length : Int))), (28, (iv 0))] [] (fun fb => by kernel_rfl) rfl trivial ?_
    refine WL.done rfl ?_
    refine WX.next ?_
    obtain ⟨x6502, hx6503, hl6447⟩ := bind_some hl6447
    refine WC.cutN (T := (List (A8_Int × Bool))) (fun t => [(0, (.slice A_p0 p0.length c_p0)), (7, (.slice A6433 l6435.length c6434)), (9, (.map (some g6452))), (16, (iv p2)), (17, (iv x6437))]) (fun t w1 => St NoS w w1 [rowR encN_Row A_p0 c_p0 (tag H_p0 p0), nestO subN_Row H_p0 p0] [rowO 81 (encMap A8_Int Bool) A6433 c6434 (tag H6436 l6435), mapsO (aggI ints_A8_Int) vB H6436 l6435, blk g6452 (mapObj (aggI ints_A8_Int) vB t)] ∧ x6502 = t) (fun Kx6502 => ?_) ?_
    ·
     refine WC.block ?_
     refine WC.loop (T := (List (A8_Int × Bool)) × Int) (fun t => [(0, (.slice A_p0 p0.length c_p0)), (7, (.slice A6433 l6435.length c6434)), (8, (.map (some (H6436 (w64 ((l6435.length : Int) - 1)).toNat)))), (9, (.map (some g6452))), (16, (iv p2)), (17, (iv x6437)), (26, (.slice A_p0 p0.length c_p0)), (27, (iv (p0.length : Int))), (28, (iv t.2))]) (fun n t w1 => St NoS w w1 [rowR encN_Row A_p0 c_p0 (tag H_p0 p0), nestO subN_Row H_p0 p0] [rowO 81 (encMap A8_Int Bool) A6433 c6434 (tag H6436 l6435), mapsO (aggI ints_A8_Int) vB H6436 l6435, blk g6452 (mapObj (aggI ints_A8_Int) vB t.1)] ∧ torus_back.l1 n t.1 t.2 p0 m6450 = some x6502) k6444 (([] : List (A8_Int × Bool)), 0) [0, 7, 8, 9, 16, 17, 26, 27, 28] rfl ⟨(hS6454.subR [0, 1]).sub [1, 2, 0] (by decide), hx6503⟩ ?_
     rintro k6504 ⟨l6499, x6500⟩ w6505 ⟨hS6506, hl6507⟩
     cases k6504 with
     | zero => rw [torus_back.l1] at hl6507; cases hl6507
     | succ k6504 =>
      rw [torus_back.l1] at hl6507
      refine WC.seq ?_
      refine WC.region ?_
      refine seg 1 [] [0, 7, 8, 9, 16, 17, 26, 27, 28, 29] [(0, (.slice A_p0 p0.length c_p0)), (7, (.slice A6433 l6435.length c6434)), (8, (.map (some (H6436 (w64 ((l6435.length : Int) - 1)).toNat)))), (9, (.map (some g6452))), (16, (iv p2)), (17, (iv x6437)), (26, (.slice A_p0 p0.length c_p0)), (27, (iv (p0.length : Int))), (28, (iv x6500)), (29, (.bool (decide (x6500 < (p0.length : Int)))))] [] (fun fb => by kernel_rfl) rfl trivial ?_
      refine WL.done rfl ?_
      refine WX.next ?_
      refine WC.seq ?_
      rcases br_some hl6507 with ⟨h6508, hl6507⟩ | ⟨h6508, hl6507⟩
      ·refine WC.condT2 (fun fb => by kernel_rfl) h6508 ?_
       refine WC.skip ?_
       refine WX.next ?_
       refine WC.seq ?_
       refine WC.block ?_
       refine WC.seq ?_
       refine WC.region ?_
       obtain ⟨h6509, hl6507⟩ := as_some hl6507
       refine seg 2 [.v (.slice ((H_p0 x6500.toNat 0).1) ((rdD p0 x6500 z_Row).Cells).length ((H_p0 x6500.toNat 0).2)), .v (iv (((rdD p0 x6500 z_Row).South).e0)), .v (iv (((rdD p0 x6500 z_Row).South).e1)), .v (iv (((rdD p0 x6500 z_Row).South).e2)), .v (iv (((rdD p0 x6500 z_Row).South).e3)), .v (iv (((rdD p0 x6500 z_Row).South).e4)), .v (iv (((rdD p0 x6500 z_Row).South).e5)), .v (iv (((rdD p0 x6500 z_Row).South).e6)), .v (iv (((rdD p0 x6500 z_Row).South).e7)), .v (iv (((rdD p0 x6500 z_Row).North).e0)), .v (iv (((rdD p0 x6500 z_Row).North).e1)), .v (iv (((rdD p0 x6500 z_Row).North).e2)), .v (iv (((rdD p0 x6500 z_Row).North).e3)), .v (iv (((rdD p0 x6500 z_Row).North).e4)), .v (iv (((rdD p0 x6500 z_Row).North).e5)), .v (iv (((rdD p0 x6500 z_Row).North).e6)), .v (iv (((rdD p0 x6500 z_Row).North).e7)), .v (iv ((rdD p0 x6500 z_Row).West)), .v (iv ((rdD p0 x6500 z_Row).East))] [0, 7, 8, 9, 16, 17, 26, 27, 28, 31] [(0, (.slice A_p0 p0.length c_p0)), (7, (.slice A6433 l6435.length c6434)), (8, (.map (some (H6436 (w64 ((l6435.length : Int) - 1)).toNat)))), (9, (.map (some g6452))), (16, (iv p2)), (17, (iv x6437)), (26, (.slice A_p0 p0.length c_p0)), (27, (iv (p0.length : Int))), (28, (iv x6500)), (31, (.agg #[(.slice ((H_p0 x6500.toNat 0).1) ((rdD p0 x6500 z_Row).Cells).length ((H_p0 x6500.toNat 0).2)), (iv (((rdD p0 x6500 z_Row).South).e0)), (iv (((rdD p0 x6500 z_Row).South).e1)), (iv (((rdD p0 x6500 z_Row).South).e2)), (iv (((rdD p0 x6500 z_Row).South).e3)), (iv (((rdD p0 x6500 z_Row).South).e4)), (iv (((rdD p0 x6500 z_Row).South).e5)), (iv (((rdD p0 x6500 z_Row).South).e6)), (iv (((rdD p0 x6500 z_Row).South).e7)), (iv (((rdD p0 x6500 z_Row).North).e0)), (iv (((rdD p0 x6500 z_Row).North).e1)), (iv (((rdD p0 x6500 z_Row).North).e2)), (iv (((rdD p0 x6500 z_Row).North).e3)), (iv (((rdD p0 x6500 z_Row).North).e4)), (iv (((rdD p0 x6500 z_Row).North).e5)), (iv (((rdD p0 x6500 z_Row).North).e6)), (iv (((rdD p0 x6500 z_Row).North).e7)), (iv ((rdD p0 x6500 z_Row).West)), (iv ((rdD p0 x6500 z_Row).East))]))] [.idx A_p0 x6500 p0.length, .cell ((adr A_p0).add ((x6500).toNat * 19)) (.slice ((H_p0 x6500.toNat 0).1) ((rdD p0 x6500 z_Row).Cells).length ((H_p0 x6500.toNat 0).2)), .cell (((adr A_p0).add ((x6500).toNat * 19)).add 1) (iv (((rdD p0 x6500 z_Row).South).e0)), .cell (((adr A_p0).add ((x6500).toNat * 19)).add 2) (iv (((rdD p0 x6500 z_Row).South).e1)), .cell (((adr A_p0).add ((x6500).toNat * 19)).add 3) (iv (((rdD p0 x6500 z_Row).South).e2)), .cell (((adr A_p0).add ((x6500).toNat * 19)).add 4) (iv (((rdD p0 x6500 z_Row).South).e3)), .cell (((adr A_p0).add ((x6500).toNat * 19)).add 5) (iv (((rdD p0 x6500 z_Row).South).e4)), .cell (((adr A_p0).add ((x6500).toNat * 19)).add 6) (iv (((rdD p0 x6500 z_Row).South).e5)), .cell (((adr A_p0).add ((x6500).toNat * 19)).add 7) (iv (((rdD p0 x6500 z_Row).South).e6)), .cell (((adr A_p0).add ((x6500).toNat * 19)).add 8) (iv (((rdD p0 x6500 z_Row).South).e7)), .cell (((adr A_p0).add ((x6500).toNat * 19)).add 9) (iv (((rdD p0 x6500 z_Row).North).e0)), .cell (((adr A_p0).add ((x6500).toNat * 19)).add 10) (iv (((rdD p0 x6500 z_Row).North).e1)), .cell (((adr A_p0).add ((x6500).toNat * 19)).add 11) (iv (((rdD p0 x6500 z_Row).North).e2)), .cell (((adr A_p0).add ((x6500).toNat * 19)).add 12) (iv (((rdD p0 x6500 z_Row).North).e3)), .cell (((adr A_p0).add ((x6500).toNat * 19)).add 13) (iv (((rdD p0 x6500 z_Row).North).e4)), .cell (((adr A_p0).add ((x6500).toNat * 19)).add 14) (iv (((rdD p0 x6500 z_Row).North).e5)), .cell (((adr A_p0).add ((x6500).toNat * 19)).add 15) (iv (((rdD p0 x6500 z_Row).North).e6)), .cell (((adr A_p0).add ((x6500).toNat * 19)).add 16) (iv (((rdD p0 x6500 z_Row).North).e7)), .cell (((adr A_p0).add ((x6500).toNat * 19)).add 17) (iv ((rdD p0 x6500 z_Row).West)), .cell (((adr A_p0).add ((x6500).toNat * 19)).add 18) (iv ((rdD p0 x6500 z_Row).East))] (fun fb => by kernel_rfl) rfl ⟨nrow_adr (hS6506.rd 0).1 h6509.1 h6509.2, nrow_cell (hS6506.rd 0).1 z_Row h6509.1 h6509.2 0 rfl, nrow_cell (hS6506.rd 0).1 z_Row h6509.1 h6509.2 1 rfl, nrow_cell (hS6506.rd 0).1 z_Row h6509.1 h6509.2 2 rfl, nrow_cell (hS6506.rd 0).1 z_Row h6509.1 h6509.2 3 rfl, nrow_cell (hS6506.rd 0).1 z_Row h6509.1 h6509.2 4 rfl, nrow_cell (hS6506.rd 0).1 z_Row h6509.1 h6509.2 5 rfl, nrow_cell (hS6506.rd 0).1 z_Row h6509.1 h6509.2 6 rfl, nrow_cell (hS6506.rd 0).1 z_Row h6509.1 h6509.2 7 rfl, nrow_cell (hS6506.rd 0).1 z_Row h6509.1 h6509.2 8 rfl, nrow_cell (hS6506.rd 0).1 z_Row h6509.1 h6509.2 9 rfl, nrow_cell (hS6506.rd 0).1 z_Row h6509.1 h6509.2 10 rfl, nrow_cell (hS6506.rd 0).1 z_Row h6509.1 h6509.2 11 rfl, nrow_cell (hS6506.rd 0).1 z_Row h6509.1 h6509.2 12 rfl, nrow_cell (hS6506.rd 0).1 z_Row h6509.1 h6509.2 13 rfl, nrow_cell (hS6506.rd 0).1 z_Row h6509.1 h6509.2 14 rfl, nrow_cell (hS6506.rd 0).1 z_Row h6509.1 h6509.2 15 rfl, nrow_cell (hS6506.rd 0).1 z_Row h6509.1 h6509.2 16 rfl, nrow_cell (hS6506.rd 0).1 z_Row h6509.1 h6509.2 17 rfl, nrow_cell (hS6506.rd 0).1 z_Row h6509.1 h6509.2 18 rfl, trivial⟩ ?_
       refine WL.new hS6506 11 [] (fun g => (.pointer (some ⟨g, 0, none⟩))) (.cells #[(.slice none 0 0), (iv 0), (iv 0), (iv 0), (iv 0), (iv 0), (iv 0), (iv 0), (iv 0), (iv 0), (iv 0), (iv 0), (iv 0), (iv 0), (iv 0), (iv 0), (iv 0), (iv 0), (iv 0)] 88 (0, 0)) [] (fun fb g => by kernel_rfl) trivial (fun g6510 w6511 hS6512 => ?_)
       refine ⟨trivial, ?_⟩
       refine WL.store hS6512 0 rfl [(0, (.slice ((H_p0 x6500.toNat 0).1) ((rdD p0 x6500 z_Row).Cells).length ((H_p0 x6500.toNat 0).2))), (1, (iv (((rdD p0 x6500 z_Row).South).e0))), (2, (iv (((rdD p0 x6500 z_Row).South).e1))), (3, (iv (((rdD p0 x6500 z_Row).South).e2))), (4, (iv (((rdD p0 x6500 z_Row).South).e3))), (5, (iv (((rdD p0 x6500 z_Row).South).e4))), (6, (iv (((rdD p0 x6500 z_Row).South).e5))), (7, (iv (((rdD p0 x6500 z_Row).South).e6))), (8, (iv (((rdD p0 x6500 z_Row).South).e7))), (9, (iv (((rdD p0 x6500 z_Row).North).e0))), (10, (iv (((rdD p0 x6500 z_Row).North).e1))), (11, (iv (((rdD p0 x6500 z_Row).North).e2))), (12, (iv (((rdD p0 x6500 z_Row).North).e3))), (13, (iv (((rdD p0 x6500 z_Row).North).e4))), (14, (iv (((rdD p0 x6500 z_Row).North).e5))), (15, (iv (((rdD p0 x6500 z_Row).North).e6))), (16, (iv (((rdD p0 x6500 z_Row).North).e7))), (17, (iv ((rdD p0 x6500 z_Row).West))), (18, (iv ((rdD p0 x6500 z_Row).East)))] #[(.slice ((H_p0 x6500.toNat 0).1) ((rdD p0 x6500 z_Row).Cells).length ((H_p0 x6500.toNat 0).2)), (iv (((rdD p0 x6500 z_Row).South).e0)), (iv (((rdD p0 x6500 z_Row).South).e1)), (iv (((rdD p0 x6500 z_Row).South).e2)), (iv (((rdD p0 x6500 z_Row).South).e3)), (iv (((rdD p0 x6500 z_Row).South).e4)), (iv (((rdD p0 x6500 z_Row).South).e5)), (iv (((rdD p0 x6500 z_Row).South).e6)), (iv (((rdD p0 x6500 z_Row).South).e7)), (iv (((rdD p0 x6500 z_Row).North).e0)), (iv (((rdD p0 x6500 z_Row).North).e1)), (iv (((rdD p0 x6500 z_Row).North).e2)), (iv (((rdD p0 x6500 z_Row).North).e3)), (iv (((rdD p0 x6500 z_Row).North).e4)), (iv (((rdD p0 x6500 z_Row).North).e5)), (iv (((rdD p0 x6500 z_Row).North).e6)), (iv (((rdD p0 x6500 z_Row).North).e7)), (iv ((rdD p0 x6500 z_Row).West)), (iv ((rdD p0 x6500 z_Row).East))] (fun fb => by kernel_rfl) (by kernel_rfl) (by kernel_rfl) [1, 2, 3] (by decide) (by decide) (fun w6514 hS6515 => ?_)
       refine ⟨trivial, ?_⟩
       refine WL.done rfl ?_
       refine WX.next ?_
       refine WC.seq ?_
       refine WC.region ?_
       refine seg 3 [.v (iv (((rdD p0 x6500 z_Row).North).e0)), .v (iv (((rdD p0 x6500 z_Row).North).e1)), .v (iv (((rdD p0 x6500 z_Row).North).e2)), .v (iv (((rdD p0 x6500 z_Row).North).e3)), .v (iv (((rdD p0 x6500 z_Row).North).e4)), .v (iv (((rdD p0 x6500 z_Row).North).e5)), .v (iv (((rdD p0 x6500 z_Row).North).e6)), .v (iv (((rdD p0 x6500 z_Row).North).e7))] [0, 7, 8, 9, 11, 16, 17, 26, 27, 28, 32, 34] [(0, (.slice A_p0 p0.length c_p0)), (7, (.slice A6433 l6435.length c6434)), (8, (.map (some (H6436 (w64 ((l6435.length : Int) - 1)).toNat)))), (9, (.map (some g6452))), (11, (pt g6510)), (16, (iv p2)), (17, (iv x6437)), (26, (.slice A_p0 p0.length c_p0)), (27, (iv (p0.length : Int))), (28, (iv x6500)), (32, (.map (some (H6436 (w64 ((l6435.length : Int) - 1)).toNat)))), (34, (.agg #[(iv (((rdD p0 x6500 z_Row).North).e0)), (iv (((rdD p0 x6500 z_Row).North).e1)), (iv (((rdD p0 x6500 z_Row).North).e2)), (iv (((rdD p0 x6500 z_Row).North).e3)), (iv (((rdD p0 x6500 z_Row).North).e4)), (iv (((rdD p0 x6500 z_Row).North).e5)), (iv (((rdD p0 x6500 z_Row).North).e6)), (iv (((rdD p0 x6500 z_Row).North).e7))]))] [.cell ⟨g6510, 9, none⟩ (iv (((rdD p0 x6500 z_Row).North).e0)), .cell ⟨g6510, 10, none⟩ (iv (((rdD p0 x6500 z_Row).North).e1)), .cell ⟨g6510, 11, none⟩ (iv (((rdD p0 x6500 z_Row).North).e2)), .cell ⟨g6510, 12, none⟩ (iv (((rdD p0 x6500 z_Row).North).e3)), .cell ⟨g6510, 13, none⟩ (iv (((rdD p0 x6500 z_Row).North).e4)), .cell ⟨g6510, 14, none⟩ (iv (((rdD p0 x6500 z_Row).North).e5)), .cell ⟨g6510, 15, none⟩ (iv (((rdD p0 x6500 z_Row).North).e6)), .cell ⟨g6510, 16, none⟩ (iv (((rdD p0 x6500 z_Row).North).e7))] (fun fb => by kernel_rfl) rfl ⟨hS6515.cell 0 rfl 9 rfl, hS6515.cell 0 rfl 10 rfl, hS6515.cell 0 rfl 11 rfl, hS6515.cell 0 rfl 12 rfl, hS6515.cell 0 rfl 13 rfl, hS6515.cell 0 rfl 14 rfl, hS6515.cell 0 rfl 15 rfl, hS6515.cell 0 rfl 16 rfl, trivial⟩ ?_
       refine WL.lookup (mapsO.at (hS6515.own 2).1 h6449.1 h6449.2 hm6451) ((rdD p0 x6500 z_Row).North) (d := 35) (c := false) (t := 81) (kT := 86) (eT := 4) (z := false) (kE := (aggI ints_A8_Int)) (vE := vB) (l := m6450) (.bool (mget ((rdD p0 x6500 z_Row).North) false m6450)) (fun fb => by kernel_rfl) torus_back_key86 (by kernel_rfl) (fun _ => by kernel_rfl) rfl ?_
       refine ⟨trivial, ?_⟩
       refine WL.done rfl ?_
       refine WX.next ?_
       obtain ⟨x6520, hx6521, hl6507⟩ := bind_some hl6507
       refine WC.cutN (T := (List (A8_Int × Bool))) (fun t => [(0, (.slice A_p0 p0.length c_p0)), (7, (.slice A6433 l6435.length c6434)), (8, (.map (some (H6436 (w64 ((l6435.length : Int) - 1)).toNat)))), (9, (.map (some g6452))), (16, (iv p2)), (17, (iv x6437)), (26, (.slice A_p0 p0.length c_p0)), (27, (iv (p0.length : Int))), (28, (iv x6500))]) (fun t w1 => St NoS w w1 [rowR encN_Row A_p0 c_p0 (tag H_p0 p0), nestO subN_Row H_p0 p0] [rowO 81 (encMap A8_Int Bool) A6433 c6434 (tag H6436 l6435), mapsO (aggI ints_A8_Int) vB H6436 l6435, blk g6452 (mapObj (aggI ints_A8_Int) vB t)] ∧ x6520 = t) (fun Kx6520 => ?_) ?_
       ·
        rcases br_some hx6521 with ⟨h6522, hx6521⟩ | ⟨h6522, hx6521⟩
        ·refine WC.condT2 (fun fb => by kernel_rfl) h6522 ?_
         refine WC.region ?_
         refine seg 3 [.v (iv (((rdD p0 x6500 z_Row).South).e0)), .v (iv (((rdD p0 x6500 z_Row).South).e1)), .v (iv (((rdD p0 x6500 z_Row).South).e2)), .v (iv (((rdD p0 x6500 z_Row).South).e3)), .v (iv (((rdD p0 x6500 z_Row).South).e4)), .v (iv (((rdD p0 x6500 z_Row).South).e5)), .v (iv (((rdD p0 x6500 z_Row).South).e6)), .v (iv (((rdD p0 x6500 z_Row).South).e7))] [0, 7, 8, 9, 16, 17, 26, 27, 28, 36, 38] [(0, (.slice A_p0 p0.length c_p0)), (7, (.slice A6433 l6435.length c6434)), (8, (.map (some (H6436 (w64 ((l6435.length : Int) - 1)).toNat)))), (9, (.map (some g6452))), (16, (iv p2)), (17, (iv x6437)), (26, (.slice A_p0 p0.length c_p0)), (27, (iv (p0.length : Int))), (28, (iv x6500)), (36, (.map (some g6452))), (38, (.agg #[(iv (((rdD p0 x6500 z_Row).South).e0)), (iv (((rdD p0 x6500 z_Row).South).e1)), (iv (((rdD p0 x6500 z_Row).South).e2)), (iv (((rdD p0 x6500 z_Row).South).e3)), (iv (((rdD p0 x6500 z_Row).South).e4)), (iv (((rdD p0 x6500 z_Row).South).e5)), (iv (((rdD p0 x6500 z_Row).South).e6)), (iv (((rdD p0 x6500 z_Row).South).e7))]))] [.cell ⟨g6510, 1, none⟩ (iv (((rdD p0 x6500 z_Row).South).e0)), .cell ⟨g6510, 2, none⟩ (iv (((rdD p0 x6500 z_Row).South).e1)), .cell ⟨g6510, 3, none⟩ (iv (((rdD p0 x6500 z_Row).South).e2)), .cell ⟨g6510, 4, none⟩ (iv (((rdD p0 x6500 z_Row).South).e3)), .cell ⟨g6510, 5, none⟩ (iv (((rdD p0 x6500 z_Row).South).e4)), .cell ⟨g6510, 6, none⟩ (iv (((rdD p0 x6500 z_Row).South).e5)), .cell ⟨g6510, 7, none⟩ (iv (((rdD p0 x6500 z_Row).South).e6)), .cell ⟨g6510, 8, none⟩ (iv (((rdD p0 x6500 z_Row).South).e7))] (fun fb => by kernel_rfl) rfl ⟨hS6515.cell 0 rfl 1 rfl, hS6515.cell 0 rfl 2 rfl, hS6515.cell 0 rfl 3 rfl, hS6515.cell 0 rfl 4 rfl, hS6515.cell 0 rfl 5 rfl, hS6515.cell 0 rfl 6 rfl, hS6515.cell 0 rfl 7 rfl, hS6515.cell 0 rfl 8 rfl, trivial⟩ ?_
         refine WL.mapput hS6515 3 (t := 81) (kT := 86) (eT := 4) (kE := (aggI ints_A8_Int)) (vE := vB) (l := l6499) rfl ((rdD p0 x6500 z_Row).South) true (fun fb => by kernel_rfl) torus_back_key86 (by kernel_rfl) [0, 1, 2] (by decide) (by decide) (fun w6523 hS6524 => ?_)
         refine ⟨trivial, ?_⟩
         refine WL.done rfl ?_
         injection hx6521 with hx6521
         exact WX.to Kx6520 (mput ((rdD p0 x6500 z_Row).South) true l6499) [0, 7, 8, 9, 16, 17, 26, 27, 28] rfl ⟨(hS6524.subR [0, 1]).sub [2, 3, 0] (by decide), hx6521.symm⟩
        refine WC.condF2 (fun fb => by kernel_rfl) h6522 ?_
        refine WC.skip ?_
        injection hx6521 with hx6521
        exact WX.to Kx6520 l6499 [0, 7, 8, 9, 16, 17, 26, 27, 28] rfl ⟨(hS6515.subR [0, 1]).sub [1, 2, 3] (by decide), hx6521.symm⟩
       rintro y6528 w6525 ⟨hS6526, hq6527⟩
       subst hq6527
       refine WX.blockN (WX.next ?_)
       refine WC.region ?_
       refine seg 2 [] [0, 7, 8, 9, 16, 17, 26, 27, 28] [(0, (.slice A_p0 p0.length c_p0)), (7, (.slice A6433 l6435.length c6434)), (8, (.map (some (H6436 (w64 ((l6435.length : Int) - 1)).toNat)))), (9, (.map (some g6452))), (16, (iv p2)), (17, (iv x6437)), (26, (.slice A_p0 p0.length c_p0)), (27, (iv (p0.length : Int))), (28, (iv (w64 (x6500 + 1))))] [] (fun fb => by kernel_rfl) rfl trivial ?_
       refine WL.done rfl ?_
       exact WX.again k6504 (Nat.lt_succ_self _) (x6520, w64 (x6500 + 1)) [0, 7, 8, 9, 16, 17, 26, 27, 28] rfl ⟨(hS6526.subR [0, 1]).sub [0, 1, 2] (by decide), hl6507⟩
      refine WC.condF2 (fun fb => by kernel_rfl) h6508 ?_
      refine WC.exit ?_
      injection hl6507 with hl6507
      exact WX.thenX (WX.thenX (WX.blockHere (WX.to Kx6502 l6499 [0, 7, 9, 16, 17] rfl ⟨(hS6506.subR [0, 1]).sub [0, 1, 2] (by decide), hl6507.symm⟩)))
    rintro y6532 w6529 ⟨hS6530, hq6531⟩
    subst hq6531
    refine WX.next ?_
    refine WC.region ?_
    refine seg 2 [] [0, 16, 17, 40, 41] [(0, (.slice A_p0 p0.length c_p0)), (16, (iv p2)), (17, (iv x6437)), (40, (.slice A6433 l6435.length c6434)), (41, (.map (some g6452)))] [] (fun fb => by kernel_rfl) rfl trivial ?_
    refine WL.new hS6530 42 [] (fun g => (.slice (some ⟨g, 0, none⟩) 1 1)) (.cells #[(.map (some g6452))] 81 (0, 0)) [] (fun fb g => by kernel_rfl) trivial (fun g6533 w6534 hS6535 => ?_)
    refine ⟨trivial, ?_⟩
    have hS6537 : St NoS w w6534 [rowR encN_Row A_p0 c_p0 (tag H_p0 p0), nestO subN_Row H_p0 p0] [rowO 81 (encMap A8_Int Bool) (some ⟨g6533, 0, none⟩) 1 (tag (fun _ => g6452) [some x6502]), rowO 81 (encMap A8_Int Bool) A6433 c6434 (tag H6436 l6435), mapsO (aggI ints_A8_Int) vB H6436 l6435, blk g6452 (mapObj (aggI ints_A8_Int) vB x6502)] := hS6535.map1 0 _ (fun h => rowO.ofBlk h rfl (Nat.le_of_ble_eq_true (by kernel_rfl))) (fun _ h => by obtain ⟨_, h1, h2⟩ := h; injection h1 with h1; subst h1; exact h2) [1, 2, 3] (by decide) (by decide)
    have hS6538 : St NoS w w6534 [rowR encN_Row A_p0 c_p0 (tag H_p0 p0), nestO subN_Row H_p0 p0] [mapsO (aggI ints_A8_Int) vB (fun _ => g6452) [some x6502], rowO 81 (encMap A8_Int Bool) (some ⟨g6533, 0, none⟩) 1 (tag (fun _ => g6452) [some x6502]), rowO 81 (encMap A8_Int Bool) A6433 c6434 (tag H6436 l6435), mapsO (aggI ints_A8_Int) vB H6436 l6435] := hS6537.mapsOne 3 rfl [0, 1, 2] (by decide) (by decide)
    obtain ⟨h6539, hl6447⟩ := as_some hl6447
    refine WL.appendN hS6538 2 (d := 43) (tS := 80) (z := (.map none)) (bytes := 8) (c2 := 1) (hx := g6452) (x := (some x6502)) rfl (fun fb => by kernel_rfl) (rowO.rd (hS6538.own 1).1) (by kernel_rfl) (by kernel_rfl) rfl (by decide) h6539 (by decide) [0, 1, 3] (by decide) (by decide) (fun A6540 c6541 w6542 hS6543 => ?_)
    have hS6544 : St NoS w w6542 [rowR encN_Row A_p0 c_p0 (tag H_p0 p0), nestO subN_Row H_p0 p0] [mapsO (aggI ints_A8_Int) vB (updH H6436 l6435.length g6452) (l6435 ++ [some x6502]), rowO 81 (encMap A8_Int Bool) A6540 c6541 (tag (updH H6436 l6435.length g6452) (l6435 ++ [some x6502])), rowO 81 (encMap A8_Int Bool) (some ⟨g6533, 0, none⟩) 1 (tag (fun _ => g6452) [some x6502])] := hS6543.mapsPush 3 1 rfl rfl (by decide) [0, 2] (by decide) (by decide)
    refine ⟨trivial, ?_⟩
    refine seg 5 [] [0, 7, 16, 17] [(0, (.slice A_p0 p0.length c_p0)), (7, (.slice A6540 (l6435 ++ [some x6502]).length c6541)), (16, (iv p2)), (17, (iv x6437))] [] (fun fb => by kernel_rfl) rfl trivial ?_
    refine WL.done rfl ?_
    refine WX.blockN (WX.next ?_)
    refine WC.region ?_
    refine seg 2 [] [0, 7, 16, 17] [(0, (.slice A_p0 p0.length c_p0)), (7, (.slice A6540 (l6435 ++ [some x6502]).length c6541)), (16, (iv p2)), (17, (iv (w64 (x6437 + 1))))] [] (fun fb => by kernel_rfl) rfl trivial ?_
    refine WL.done rfl ?_
    exact WX.again k6444 (Nat.lt_succ_self _) ((l6435 ++ [some x6502], w64 (x6437 + 1)), A6540, c6541, (updH H6436 l6435.length g6452)) [0, 7, 16, 17] rfl ⟨(hS6544.subR [0, 1]).sub [1, 0] (by decide), hl6447⟩
   refine WC.condF2 (fun fb => by kernel_rfl) h6448 ?_
   refine WC.exit ?_
   injection hl6447 with hl6447
   exact WX.thenX (WX.thenX (WX.blockHere (WX.to Kx6442 (l6435, A6433, c6434, H6436) [7] rfl ⟨(hS6446.subR [0, 1]).sub [0, 1] (by decide), hl6447.symm⟩)))
 rintro ⟨y6548, A6438, c6439, H6441⟩ w6545 ⟨hS6546, hq6547⟩
 subst hq6547
 refine WX.next ?_
 refine WC.seq ?_
 refine WC.region ?_
 refine seg 2 [] [6] [(6, (.slice A6438 x6442.length c6439))] [] (fun fb => by kernel_rfl) rfl trivial ?_
 refine WL.done rfl ?_
 refine WX.next ?_
 refine WC.ret ?_
 injection hf with hf
 subst hf
 exact WX.ret_ [] (.slice A6438 x6442.length c6439) [] (fun fb => by kernel_rfl) trivial ⟨_, rfl, A6438, c6439, H6441, rfl, (hS6546.sub [0, 1] (by decide)).noR⟩
theorem torus_find_key86 : KeyK Try.prog 86 (aggI ints_A8_Int) := KeyK.array (n := 8) (by kernel_rfl) ints_A8_Int (fun _ => rfl) (fun x y h => by cases x; cases y; simp only [ints_A8_Int, List.cons.injEq, and_true] at h; obtain ⟨rfl, rfl, rfl, rfl, rfl, rfl, rfl, rfl⟩ := h; rfl)
theorem torus_find_calls (k : Nat) (p0 : List Tile) (p1 : Int) (p2 : Int) (A_p0 : Option Addr) (c_p0 : Nat) (r : Pattern × Bool) (w : World) (hR0 : RO NoS w (rowR enc_Tile A_p0 c_p0 p0)) (hf : torus_find k p0 p1 p2 = some r) :
  CallsR Try.prog 46 #[(.slice A_p0 p0.length c_p0), (iv p1), (iv p2)] w (fun v w' => ∃ (A1_ : Option Addr), ∃ (c1_ : Nat), v = (.tuple #[(.agg #[(iv r.1.Width), (iv r.1.Height), (.slice A1_ r.1.Cells.length c1_)]), (.bool r.2)]) ∧ St NoS w w' [] [rowO 3 encInt A1_ c1_ r.1.Cells]) := by
 have hS : St NoS w w [rowR enc_Tile A_p0 c_p0 p0] [] := St.init (ro_cons hR0 (ro_nil _ _))
 refine enter 105 Try.func46 rfl Try.ntmps46 rfl ?_
 unfold torus_find at hf
 refine WC.seq ?_
 refine WC.region ?_
 refine WL.new hS 6 [] (fun g => (.pointer (some ⟨g, 0, none⟩))) (.cells #[(iv 0), (iv 0), (.slice none 0 0)] 38 (0, 0)) [] (fun fb g => by kernel_rfl) trivial (fun g6012 w6013 hS6014 => ?_)
 refine ⟨trivial, ?_⟩
 refine seg 2 [] [0, 1, 2, 6] [(0, (.slice A_p0 p0.length c_p0)), (1, (iv p1)), (2, (iv p2)), (6, (pt g6012))] [] (fun fb => by kernel_rfl) rfl trivial ?_
 refine WL.done rfl ?_
 refine WX.next ?_
 refine WC.scope ?_
 refine WC.seq ?_
 refine WC.region ?_
 refine seg 2 [] [1, 2, 6, 19, 20] [(1, (iv p1)), (2, (iv p2)), (6, (pt g6012)), (19, (.slice A_p0 p0.length c_p0)), (20, (iv p1))] [] (fun fb => by kernel_rfl) rfl trivial ?_
 obtain ⟨t6190, ht6191, hf⟩ := bind_some hf
 refine WL.call (some 21) 62 #[(.slice A_p0 p0.length c_p0), (iv p1)] (fun fb => by kernel_rfl) (torus_rings_calls _ p0 p1 A_p0 c_p0 t6190 _ (hS6014.rd 0) ht6191) (fun v w6192 hR6193 => ?_)
 obtain ⟨A6195, c6196, H6197, rfl, hk_⟩ := hR6193
 have hS6194 : St NoS w w6192 [rowR enc_Tile A_p0 c_p0 p0] [rowO 88 encN_Row A6195 c6196 (tag H6197 t6190), poolO [nestO subN_Row H6197 t6190], blk g6012 (.cells #[(iv 0), (iv 0), (.slice none 0 0)] 38 (0, 0))] := hS6014.call hk_ [] [0] (fun g hg => hg.elim) (by simp) (by decide)
 refine ⟨trivial, ?_⟩
 refine seg 4 [] [1, 2, 6, 8] [(1, (iv p1)), (2, (iv p2)), (6, (pt g6012)), (8, (.slice A6195 t6190.length c6196))] [] (fun fb => by kernel_rfl) rfl trivial ?_
 refine WL.done rfl ?_
 refine WX.next ?_
 refine WC.seq ?_
 refine WC.region ?_
 refine WL.new hS6194 22 [] (fun g => (.map (some g))) (mapObj (aggI ints_A8_Int) slV ([] : List (A8_Int × (HM × List (Option (List (A8_Int × Bool))))))) [] (fun fb g => by kernel_rfl) trivial (fun g6198 w6199 hS6200 => ?_)
 have hS6201 : St NoS w w6199 [knestO (aggI ints_A8_Int) vB ([] : List (A8_Int × (HM × List (Option (List (A8_Int × Bool)))))) ([] : List (A8_Int × List (Option (List (A8_Int × Bool))))), rowR enc_Tile A_p0 c_p0 p0] [blk g6198 (mapObj (aggI ints_A8_Int) slV ([] : List (A8_Int × (HM × List (Option (List (A8_Int × Bool))))))), rowO 88 encN_Row A6195 c6196 (tag H6197 t6190), poolO [nestO subN_Row H6197 t6190], blk g6012 (.cells #[(iv 0), (iv 0), (.slice none 0 0)] 38 (0, 0))] := hS6200.addR _ (knestO_nil _ _ _ _)
 refine ⟨trivial, ?_⟩
 refine seg 2 [] [1, 2, 6, 8, 9] [(1, (iv p1)), (2, (iv p2)), (6, (pt g6012)), (8, (.slice A6195 t6190.length c6196)), (9, (.map (some g6198)))] [] (fun fb => by kernel_rfl) rfl trivial ?_
 refine WL.done rfl ?_
 refine WX.next ?_
 refine WC.seq ?_
 refine WC.region ?_
 refine seg 3 [] [2, 6, 8, 9, 25] [(2, (iv p2)), (6, (pt g6012)), (8, (.slice A6195 t6190.length c6196)), (9, (.map (some g6198))), (25, (.agg #[(iv p1), (iv p2), (.slice none 0 0)]))] [] (fun fb => by kernel_rfl) rfl trivial ?_
 refine WL.new hS6201 10 [] (fun g => (.pointer (some ⟨g, 0, none⟩))) (.cells #[(iv 0), (iv 0), (.slice none 0 0)] 38 (0, 0)) [] (fun fb g => by kernel_rfl) trivial (fun g6202 w6203 hS6204 => ?_)
 refine ⟨trivial, ?_⟩
 refine WL.store hS6204 0 rfl [(0, (iv p1)), (1, (iv p2)), (2, (.slice none 0 0))] #[(iv p1), (iv p2), (.slice none 0 0)] (fun fb => by kernel_rfl) (by kernel_rfl) rfl [1, 2, 3, 4] (by decide) (by decide) (fun w6206 hS6207 => ?_)
 refine ⟨trivial, ?_⟩
 refine WL.done rfl ?_
 refine WX.next ?_
 refine WC.seq ?_
 refine WC.label ?_
 refine WX.next ?_
 refine WC.seq ?_
 refine WC.seq ?_
 refine WC.region ?_
 refine seg 3 [] [2, 6, 8, 9, 10, 26, 27, 28] [(2, (iv p2)), (6, (pt g6012)), (8, (.slice A6195 t6190.length c6196)), (9, (.map (some g6198))), (10, (pt g6202)), (26, (.slice A6195 t6190.length c6196)), (27, (iv (t6190.length : Int))), (28, (iv 0))] [] (fun fb => by kernel_rfl) rfl trivial ?_
 refine WL.done rfl ?_
 refine WX.next ?_
 obtain ⟨x7799, hx7800, hf⟩ := bind_some hf
 refine WC.cutN (T := Unit) (fun t => [(6, (pt g6012))]) (fun t w1 => St NoS w w1 [knestO (aggI ints_A8_Int) vB ([] : List (A8_Int × (HM × List (Option (List (A8_Int × Bool)))))) ([] : List (A8_Int × List (Option (List (A8_Int × Bool))))), rowR enc_Tile A_p0 c_p0 p0] [blk g6012 (.cells #[(iv 0), (iv 0), (.slice none 0 0)] 38 (0, 0))] ∧ x7799 = .inr t) (fun Kx7799 => ?_) ?_
 ·
  refine WC.block ?_
  refine WC.loop (T := ((List (A8_Int × List (Option (List (A8_Int × Bool))))) × Int) × (List (A8_Int × (HM × List (Option (List (A8_Int × Bool))))))) (fun t => [(2, (iv p2)), (6, (pt g6012)), (8, (.slice A6195 t6190.length c6196)), (9, (.map (some g6198))), (10, (pt g6202)), (26, (.slice A6195 t6190.length c6196)), (27, (iv (t6190.length : Int))), (28, (iv t.1.2))]) (fun n t w1 => St NoS w w1 [knestO (aggI ints_A8_Int) vB t.2 t.1.1, knestO (aggI ints_A8_Int) vB ([] : List (A8_Int × (HM × List (Option (List (A8_Int × Bool)))))) ([] : List (A8_Int × List (Option (List (A8_Int × Bool))))), rowR enc_Tile A_p0 c_p0 p0] [blk g6012 (.cells #[(iv 0), (iv 0), (.slice none 0 0)] 38 (0, 0)), rowO 88 encN_Row A6195 c6196 (tag H6197 t6190), poolO [nestO subN_Row H6197 t6190], blk g6198 (mapObj (aggI ints_A8_Int) slV t.2), blk g6202 (.cells #[(iv p1), (iv p2), (.slice none 0 0)] 38 (0, 0))] ∧ torus_find.l0 n t.1.1 t.1.2 p1 p2 t6190 = some x7799) k ((([] : List (A8_Int × List (Option (List (A8_Int × Bool))))), 0), ([] : List (A8_Int × (HM × List (Option (List (A8_Int × Bool))))))) [2, 6, 8, 9, 10, 26, 27, 28] rfl ⟨(hS6207.subR [0, 0, 1]).sub [4, 2, 3, 1, 0] (by decide), hx7800⟩ ?_
  rintro k7801 ⟨⟨l7796, x7798⟩, K7797⟩ w7802 ⟨hS7803, hl7804⟩
  cases k7801 with
  | zero => rw [torus_find.l0] at hl7804; cases hl7804
  | succ k7801 =>
   rw [torus_find.l0] at hl7804
   refine WC.seq ?_
   refine WC.region ?_
   refine seg 1 [] [2, 6, 8, 9, 10, 26, 27, 28, 29] [(2, (iv p2)), (6, (pt g6012)), (8, (.slice A6195 t6190.length c6196)), (9, (.map (some g6198))), (10, (pt g6202)), (26, (.slice A6195 t6190.length c6196)), (27, (iv (t6190.length : Int))), (28, (iv x7798)), (29, (.bool (decide (x7798 < (t6190.length : Int)))))] [] (fun fb => by kernel_rfl) rfl trivial ?_
   refine WL.done rfl ?_
   refine WX.next ?_
   refine WC.seq ?_
   rcases br_some hl7804 with ⟨h7805, hl7804⟩ | ⟨h7805, hl7804⟩
   ·refine WC.condT2 (fun fb => by kernel_rfl) h7805 ?_
    refine WC.skip ?_
    refine WX.next ?_
    refine WC.seq ?_
    refine WC.block ?_
    refine WC.seq ?_
    refine WC.region ?_
    obtain ⟨h7806, hl7804⟩ := as_some hl7804
    refine seg 2 [.v (.slice ((H6197 x7798.toNat 0).1) ((rdD t6190 x7798 z_Row).Cells).length ((H6197 x7798.toNat 0).2)), .v (iv (((rdD t6190 x7798 z_Row).South).e0)), .v (iv (((rdD t6190 x7798 z_Row).South).e1)), .v (iv (((rdD t6190 x7798 z_Row).South).e2)), .v (iv (((rdD t6190 x7798 z_Row).South).e3)), .v (iv (((rdD t6190 x7798 z_Row).South).e4)), .v (iv (((rdD t6190 x7798 z_Row).South).e5)), .v (iv (((rdD t6190 x7798 z_Row).South).e6)), .v (iv (((rdD t6190 x7798 z_Row).South).e7)), .v (iv (((rdD t6190 x7798 z_Row).North).e0)), .v (iv (((rdD t6190 x7798 z_Row).North).e1)), .v (iv (((rdD t6190 x7798 z_Row).North).e2)), .v (iv (((rdD t6190 x7798 z_Row).North).e3)), .v (iv (((rdD t6190 x7798 z_Row).North).e4)), .v (iv (((rdD t6190 x7798 z_Row).North).e5)), .v (iv (((rdD t6190 x7798 z_Row).North).e6)), .v (iv (((rdD t6190 x7798 z_Row).North).e7)), .v (iv ((rdD t6190 x7798 z_Row).West)), .v (iv ((rdD t6190 x7798 z_Row).East))] [2, 6, 8, 9, 10, 26, 27, 28, 31] [(2, (iv p2)), (6, (pt g6012)), (8, (.slice A6195 t6190.length c6196)), (9, (.map (some g6198))), (10, (pt g6202)), (26, (.slice A6195 t6190.length c6196)), (27, (iv (t6190.length : Int))), (28, (iv x7798)), (31, (.agg #[(.slice ((H6197 x7798.toNat 0).1) ((rdD t6190 x7798 z_Row).Cells).length ((H6197 x7798.toNat 0).2)), (iv (((rdD t6190 x7798 z_Row).South).e0)), (iv (((rdD t6190 x7798 z_Row).South).e1)), (iv (((rdD t6190 x7798 z_Row).South).e2)), (iv (((rdD t6190 x7798 z_Row).South).e3)), (iv (((rdD t6190 x7798 z_Row).South).e4)), (iv (((rdD t6190 x7798 z_Row).South).e5)), (iv (((rdD t6190 x7798 z_Row).South).e6)), (iv (((rdD t6190 x7798 z_Row).South).e7)), (iv (((rdD t6190 x7798 z_Row).North).e0)), (iv (((rdD t6190 x7798 z_Row).North).e1)), (iv (((rdD t6190 x7798 z_Row).North).e2)), (iv (((rdD t6190 x7798 z_Row).North).e3)), (iv (((rdD t6190 x7798 z_Row).North).e4)), (iv (((rdD t6190 x7798 z_Row).North).e5)), (iv (((rdD t6190 x7798 z_Row).North).e6)), (iv (((rdD t6190 x7798 z_Row).North).e7)), (iv ((rdD t6190 x7798 z_Row).West)), (iv ((rdD t6190 x7798 z_Row).East))]))] [.idx A6195 x7798 t6190.length, .cell ((adr A6195).add ((x7798).toNat * 19)) (.slice ((H6197 x7798.toNat 0).1) ((rdD t6190 x7798 z_Row).Cells).length ((H6197 x7798.toNat 0).2)), .cell (((adr A6195).add ((x7798).toNat * 19)).add 1) (iv (((rdD t6190 x7798 z_Row).South).e0)), .cell (((adr A6195).add ((x7798).toNat * 19)).add 2) (iv (((rdD t6190 x7798 z_Row).South).e1)), .cell (((adr A6195).add ((x7798).toNat * 19)).add 3) (iv (((rdD t6190 x7798 z_Row).South).e2)), .cell (((adr A6195).add ((x7798).toNat * 19)).add 4) (iv (((rdD t6190 x7798 z_Row).South).e3)), .cell (((adr A6195).add ((x7798).toNat * 19)).add 5) (iv (((rdD t6190 x7798 z_Row).South).e4)), .cell (((adr A6195).add ((x7798).toNat * 19)).add 6) (iv (((rdD t6190 x7798 z_Row).South).e5)), .cell (((adr A6195).add ((x7798).toNat * 19)).add 7) (iv (((rdD t6190 x7798 z_Row).South).e6)), .cell (((adr A6195).add ((x7798).toNat * 19)).add 8) (iv (((rdD t6190 x7798 z_Row).South).e7)), .cell (((adr A6195).add ((x7798).toNat * 19)).add 9) (iv (((rdD t6190 x7798 z_Row).North).e0)), .cell (((adr A6195).add ((x7798).toNat * 19)).add 10) (iv (((rdD t6190 x7798 z_Row).North).e1)), .cell (((adr A6195).add ((x7798).toNat * 19)).add 11) (iv (((rdD t6190 x7798 z_Row).North).e2)), .cell (((adr A6195).add ((x7798).toNat * 19)).add 12) (iv (((rdD t6190 x7798 z_Row).North).e3)), .cell (((adr A6195).add ((x7798).toNat * 19)).add 13) (iv (((rdD t6190 x7798 z_Row).North).e4)), .cell (((adr A6195).add ((x7798).toNat * 19)).add 14) (iv (((rdD t6190 x7798 z_Row).North).e5)), .cell (((adr A6195).add ((x7798).toNat * 19)).add 15) (iv (((rdD t6190 x7798 z_Row).North).e6)), .cell (((adr A6195).add ((x7798).toNat * 19)).add 16) (iv (((rdD t6190 x7798 z_Row).North).e7)), .cell (((adr A6195).add ((x7798).toNat * 19)).add 17) (iv ((rdD t6190 x7798 z_Row).West)), .cell (((adr A6195).add ((x7798).toNat * 19)).add 18) (iv ((rdD t6190 x7798 z_Row).East))] (fun fb => by kernel_rfl) rfl ⟨nrow_adr (rowO.rd (hS7803.own 1).1) h7806.1 h7806.2, nrow_cell (rowO.rd (hS7803.own 1).1) z_Row h7806.1 h7806.2 0 rfl, nrow_cell (rowO.rd (hS7803.own 1).1) z_Row h7806.1 h7806.2 1 rfl, nrow_cell (rowO.rd (hS7803.own 1).1) z_Row h7806.1 h7806.2 2 rfl, nrow_cell (rowO.rd (hS7803.own 1).1) z_Row h7806.1 h7806.2 3 rfl, nrow_cell (rowO.rd (hS7803.own 1).1) z_Row h7806.1 h7806.2 4 rfl, nrow_cell (rowO.rd (hS7803.own 1).1) z_Row h7806.1 h7806.2 5 rfl, nrow_cell (rowO.rd (hS7803.own 1).1) z_Row h7806.1 h7806.2 6 rfl, nrow_cell (rowO.rd (hS7803.own 1).1) z_Row h7806.1 h7806.2 7 rfl, nrow_cell (rowO.rd (hS7803.own 1).1) z_Row h7806.1 h7806.2 8 rfl, nrow_cell (rowO.rd (hS7803.own 1).1) z_Row h7806.1 h7806.2 9 rfl, nrow_cell (rowO.rd (hS7803.own 1).1) z_Row h7806.1 h7806.2 10 rfl, nrow_cell (rowO.rd (hS7803.own 1).1) z_Row h7806.1 h7806.2 11 rfl, nrow_cell (rowO.rd (hS7803.own 1).1) z_Row h7806.1 h7806.2 12 rfl, nrow_cell (rowO.rd (hS7803.own 1).1) z_Row h7806.1 h7806.2 13 rfl, nrow_cell (rowO.rd (hS7803.own 1).1) z_Row h7806.1 h7806.2 14 rfl, nrow_cell (rowO.rd (hS7803.own 1).1) z_Row h7806.1 h7806.2 15 rfl, nrow_cell (rowO.rd (hS7803.own 1).1) z_Row h7806.1 h7806.2 16 rfl, nrow_cell (rowO.rd (hS7803.own 1).1) z_Row h7806.1 h7806.2 17 rfl, nrow_cell (rowO.rd (hS7803.own 1).1) z_Row h7806.1 h7806.2 18 rfl, trivial⟩ ?_
    refine WL.new hS7803 12 [] (fun g => (.pointer (some ⟨g, 0, none⟩))) (.cells #[(.slice none 0 0), (iv 0), (iv 0), (iv 0), (iv 0), (iv 0), (iv 0), (iv 0), (iv 0), (iv 0), (iv 0), (iv 0), (iv 0), (iv 0), (iv 0), (iv 0), (iv 0), (iv 0), (iv 0)] 88 (0, 0)) [] (fun fb g => by kernel_rfl) trivial (fun g7807 w7808 hS7809 => ?_)
    refine ⟨trivial, ?_⟩
    refine WL.store hS7809 0 rfl [(0, (.slice ((H6197 x7798.toNat 0).1) ((rdD t6190 x7798 z_Row).Cells).length ((H6197 x7798.toNat 0).2))), (1, (iv (((rdD t6190 x7798 z_Row).South).e0))), (2, (iv (((rdD t6190 x7798 z_Row).South).e1))), (3, (iv (((rdD t6190 x7798 z_Row).South).e2))), (4, (iv (((rdD t6190 x7798 z_Row).South).e3))), (5, (iv (((rdD t6190 x7798 z_Row).South).e4))), (6, (iv (((rdD t6190 x7798 z_Row).South).e5))), (7, (iv (((rdD t6190 x7798 z_Row).South).e6))), (8, (iv (((rdD t6190 x7798 z_Row).South).e7))), (9, (iv (((rdD t6190 x7798 z_Row).North).e0))), (10, (iv (((rdD t6190 x7798 z_Row).North).e1))), (11, (iv (((rdD t6190 x7798 z_Row).North).e2))), (12, (iv (((rdD t6190 x7798 z_Row).North).e3))), (13, (iv (((rdD t6190 x7798 z_Row).North).e4))), (14, (iv (((rdD t6190 x7798 z_Row).North).e5))), (15, (iv (((rdD t6190 x7798 z_Row).North).e6))), (16, (iv (((rdD t6190 x7798 z_Row).North).e7))), (17, (iv ((rdD t6190 x7798 z_Row).West))), (18, (iv ((rdD t6190 x7798 z_Row).East)))] #[(.slice ((H6197 x7798.toNat 0).1) ((rdD t6190 x7798 z_Row).Cells).length ((H6197 x7798.toNat 0).2)), (iv (((rdD t6190 x7798 z_Row).South).e0)), (iv (((rdD t6190 x7798 z_Row).South).e1)), (iv (((rdD t6190 x7798 z_Row).South).e2)), (iv (((rdD t6190 x7798 z_Row).South).e3)), (iv (((rdD t6190 x7798 z_Row).South).e4)), (iv (((rdD t6190 x7798 z_Row).South).e5)), (iv (((rdD t6190 x7798 z_Row).South).e6)), (iv (((rdD t6190 x7798 z_Row).South).e7)), (iv (((rdD t6190 x7798 z_Row).North).e0)), (iv (((rdD t6190 x7798 z_Row).North).e1)), (iv (((rdD t6190 x7798 z_Row).North).e2)), (iv (((rdD t6190 x7798 z_Row).North).e3)), (iv (((rdD t6190 x7798 z_Row).North).e4)), (iv (((rdD t6190 x7798 z_Row).North).e5)), (iv (((rdD t6190 x7798 z_Row).North).e6)), (iv (((rdD t6190 x7798 z_Row).North).e7)), (iv ((rdD t6190 x7798 z_Row).West)), (iv ((rdD t6190 x7798 z_Row).East))] (fun fb => by kernel_rfl) (by kernel_rfl) (by kernel_rfl) [1, 2, 3, 4, 5] (by decide) (by decide) (fun w7811 hS7812 => ?_)
    refine ⟨trivial, ?_⟩
    refine WL.done rfl ?_
    refine WX.next ?_
    refine WC.seq ?_
    refine WC.region ?_
    refine seg 3 [.v (iv (((rdD t6190 x7798 z_Row).South).e0)), .v (iv (((rdD t6190 x7798 z_Row).South).e1)), .v (iv (((rdD t6190 x7798 z_Row).South).e2)), .v (iv (((rdD t6190 x7798 z_Row).South).e3)), .v (iv (((rdD t6190 x7798 z_Row).South).e4)), .v (iv (((rdD t6190 x7798 z_Row).South).e5)), .v (iv (((rdD t6190 x7798 z_Row).South).e6)), .v (iv (((rdD t6190 x7798 z_Row).South).e7))] [2, 6, 8, 9, 10, 12, 26, 27, 28, 33, 35] [(2, (iv p2)), (6, (pt g6012)), (8, (.slice A6195 t6190.length c6196)), (9, (.map (some g6198))), (10, (pt g6202)), (12, (pt g7807)), (26, (.slice A6195 t6190.length c6196)), (27, (iv (t6190.length : Int))), (28, (iv x7798)), (33, (.map (some g6198))), (35, (.agg #[(iv (((rdD t6190 x7798 z_Row).South).e0)), (iv (((rdD t6190 x7798 z_Row).South).e1)), (iv (((rdD t6190 x7798 z_Row).South).e2)), (iv (((rdD t6190 x7798 z_Row).South).e3)), (iv (((rdD t6190 x7798 z_Row).South).e4)), (iv (((rdD t6190 x7798 z_Row).South).e5)), (iv (((rdD t6190 x7798 z_Row).South).e6)), (iv (((rdD t6190 x7798 z_Row).South).e7))]))] [.cell ⟨g7807, 1, none⟩ (iv (((rdD t6190 x7798 z_Row).South).e0)), .cell ⟨g7807, 2, none⟩ (iv (((rdD t6190 x7798 z_Row).South).e1)), .cell ⟨g7807, 3, none⟩ (iv (((rdD t6190 x7798 z_Row).South).e2)), .cell ⟨g7807, 4, none⟩ (iv (((rdD t6190 x7798 z_Row).South).e3)), .cell ⟨g7807, 5, none⟩ (iv (((rdD t6190 x7798 z_Row).South).e4)), .cell ⟨g7807, 6, none⟩ (iv (((rdD t6190 x7798 z_Row).South).e5)), .cell ⟨g7807, 7, none⟩ (iv (((rdD t6190 x7798 z_Row).South).e6)), .cell ⟨g7807, 8, none⟩ (iv (((rdD t6190 x7798 z_Row).South).e7))] (fun fb => by kernel_rfl) rfl ⟨hS7812.cell 0 rfl 1 rfl, hS7812.cell 0 rfl 2 rfl, hS7812.cell 0 rfl 3 rfl, hS7812.cell 0 rfl 4 rfl, hS7812.cell 0 rfl 5 rfl, hS7812.cell 0 rfl 6 rfl, hS7812.cell 0 rfl 7 rfl, hS7812.cell 0 rfl 8 rfl, trivial⟩ ?_
    refine WL.lookup (hS7812.own 4).1 ((rdD t6190 x7798 z_Row).South) (d := 36) (c := true) (t := 104) (kT := 86) (eT := 80) (z := zHM) (kE := (aggI ints_A8_Int)) (vE := slV) (l := K7797) (.tuple #[(.slice ((mget ((rdD t6190 x7798 z_Row).South) zHM K7797).1.1) (mget ((rdD t6190 x7798 z_Row).South) [] l7796).length ((mget ((rdD t6190 x7798 z_Row).South) zHM K7797).1.2.1)), (.bool (mhas ((rdD t6190 x7798 z_Row).South) l7796))]) (fun fb => by kernel_rfl) torus_find_key86 (by kernel_rfl) (fun _ => by kernel_rfl) (by rw [mhas_unK, (knestO.eq (hS7812.rd 0))]; rw [slV_get _ _ (knestO.eq (hS7812.rd 0))]; rfl) ?_
    refine ⟨trivial, ?_⟩
    have hS7813 : St NoS w w7811 [rowR (encMap A8_Int Bool) ((mget ((rdD t6190 x7798 z_Row).South) zHM K7797).1.1) ((mget ((rdD t6190 x7798 z_Row).South) zHM K7797).1.2.1) (tag ((mget ((rdD t6190 x7798 z_Row).South) zHM K7797).1.2.2) (mget ((rdD t6190 x7798 z_Row).South) [] l7796)), knestO (aggI ints_A8_Int) vB K7797 l7796, knestO (aggI ints_A8_Int) vB ([] : List (A8_Int × (HM × List (Option (List (A8_Int × Bool)))))) ([] : List (A8_Int × List (Option (List (A8_Int × Bool))))), rowR enc_Tile A_p0 c_p0 p0] [blk g7807 (.cells #[(.slice ((H6197 x7798.toNat 0).1) ((rdD t6190 x7798 z_Row).Cells).length ((H6197 x7798.toNat 0).2)), (iv (((rdD t6190 x7798 z_Row).South).e0)), (iv (((rdD t6190 x7798 z_Row).South).e1)), (iv (((rdD t6190 x7798 z_Row).South).e2)), (iv (((rdD t6190 x7798 z_Row).South).e3)), (iv (((rdD t6190 x7798 z_Row).South).e4)), (iv (((rdD t6190 x7798 z_Row).South).e5)), (iv (((rdD t6190 x7798 z_Row).South).e6)), (iv (((rdD t6190 x7798 z_Row).South).e7)), (iv (((rdD t6190 x7798 z_Row).North).e0)), (iv (((rdD t6190 x7798 z_Row).North).e1)), (iv (((rdD t6190 x7798 z_Row).North).e2)), (iv (((rdD t6190 x7798 z_Row).North).e3)), (iv (((rdD t6190 x7798 z_Row).North).e4)), (iv (((rdD t6190 x7798 z_Row).North).e5)), (iv (((rdD t6190 x7798 z_Row).North).e6)), (iv (((rdD t6190 x7798 z_Row).North).e7)), (iv ((rdD t6190 x7798 z_Row).West)), (iv ((rdD t6190 x7798 z_Row).East))] 88 (0, 0)), blk g6012 (.cells #[(iv 0), (iv 0), (.slice none 0 0)] 38 (0, 0)), rowO 88 encN_Row A6195 c6196 (tag H6197 t6190), poolO [nestO subN_Row H6197 t6190], blk g6198 (mapObj (aggI ints_A8_Int) slV K7797), blk g6202 (.cells #[(iv p1), (iv p2), (.slice none 0 0)] 38 (0, 0))] := hS7812.addR _ (knestO.row (hS7812.rdL 0) ((rdD t6190 x7798 z_Row).South))
    have hS7814 : St NoS w w7811 [mapsO (aggI ints_A8_Int) vB ((mget ((rdD t6190 x7798 z_Row).South) zHM K7797).1.2.2) (mget ((rdD t6190 x7798 z_Row).South) [] l7796), rowR (encMap A8_Int Bool) ((mget ((rdD t6190 x7798 z_Row).South) zHM K7797).1.1) ((mget ((rdD t6190 x7798 z_Row).South) zHM K7797).1.2.1) (tag ((mget ((rdD t6190 x7798 z_Row).South) zHM K7797).1.2.2) (mget ((rdD t6190 x7798 z_Row).South) [] l7796)), knestO (aggI ints_A8_Int) vB K7797 l7796, knestO (aggI ints_A8_Int) vB ([] : List (A8_Int × (HM × List (Option (List (A8_Int × Bool)))))) ([] : List (A8_Int × List (Option (List (A8_Int × Bool))))), rowR enc_Tile A_p0 c_p0 p0] [blk g7807 (.cells #[(.slice ((H6197 x7798.toNat 0).1) ((rdD t6190 x7798 z_Row).Cells).length ((H6197 x7798.toNat 0).2)), (iv (((rdD t6190 x7798 z_Row).South).e0)), (iv (((rdD t6190 x7798 z_Row).South).e1)), (iv (((rdD t6190 x7798 z_Row).South).e2)), (iv (((rdD t6190 x7798 z_Row).South).e3)), (iv (((rdD t6190 x7798 z_Row).South).e4)), (iv (((rdD t6190 x7798 z_Row).South).e5)), (iv (((rdD t6190 x7798 z_Row).South).e6)), (iv (((rdD t6190 x7798 z_Row).South).e7)), (iv (((rdD t6190 x7798 z_Row).North).e0)), (iv (((rdD t6190 x7798 z_Row).North).e1)), (iv (((rdD t6190 x7798 z_Row).North).e2)), (iv (((rdD t6190 x7798 z_Row).North).e3)), (iv (((rdD t6190 x7798 z_Row).North).e4)), (iv (((rdD t6190 x7798 z_Row).North).e5)), (iv (((rdD t6190 x7798 z_Row).North).e6)), (iv (((rdD t6190 x7798 z_Row).North).e7)), (iv ((rdD t6190 x7798 z_Row).West)), (iv ((rdD t6190 x7798 z_Row).East))] 88 (0, 0)), blk g6012 (.cells #[(iv 0), (iv 0), (.slice none 0 0)] 38 (0, 0)), rowO 88 encN_Row A6195 c6196 (tag H6197 t6190), poolO [nestO subN_Row H6197 t6190], blk g6198 (mapObj (aggI ints_A8_Int) slV K7797), blk g6202 (.cells #[(iv p1), (iv p2), (.slice none 0 0)] 38 (0, 0))] := hS7813.addR _ (knestO.maps (hS7813.rdL 1) ((rdD t6190 x7798 z_Row).South))
    refine seg 9 [] [2, 6, 8, 9, 10, 12, 13, 14, 26, 27, 28] [(2, (iv p2)), (6, (pt g6012)), (8, (.slice A6195 t6190.length c6196)), (9, (.map (some g6198))), (10, (pt g6202)), (12, (pt g7807)), (13, (.slice ((mget ((rdD t6190 x7798 z_Row).South) zHM K7797).1.1) (mget ((rdD t6190 x7798 z_Row).South) [] l7796).length ((mget ((rdD t6190 x7798 z_Row).South) zHM K7797).1.2.1))), (14, (.bool (mhas ((rdD t6190 x7798 z_Row).South) l7796))), (26, (.slice A6195 t6190.length c6196)), (27, (iv (t6190.length : Int))), (28, (iv x7798))] [] (fun fb => by kernel_rfl) rfl trivial ?_
    refine WL.done rfl ?_
    refine WX.next ?_
    refine WC.seq ?_
    refine WC.seq ?_
    refine WC.region ?_
    refine seg 2 [] [2, 6, 8, 9, 10, 12, 13, 26, 27, 28, 40] [(2, (iv p2)), (6, (pt g6012)), (8, (.slice A6195 t6190.length c6196)), (9, (.map (some g6198))), (10, (pt g6202)), (12, (pt g7807)), (13, (.slice ((mget ((rdD t6190 x7798 z_Row).South) zHM K7797).1.1) (mget ((rdD t6190 x7798 z_Row).South) [] l7796).length ((mget ((rdD t6190 x7798 z_Row).South) zHM K7797).1.2.1))), (26, (.slice A6195 t6190.length c6196)), (27, (iv (t6190.length : Int))), (28, (iv x7798)), (40, (.bool (!(mhas ((rdD t6190 x7798 z_Row).South) l7796))))] [] (fun fb => by kernel_rfl) rfl trivial ?_
    refine WL.done rfl ?_
    refine WX.next ?_
    obtain ⟨x7835, hx7836, hl7804⟩ := bind_some hl7804
    refine WC.cutN (T := ((List (A8_Int × List (Option (List (A8_Int × Bool))))) × (List (Option (List (A8_Int × Bool))))) × (List (A8_Int × (HM × List (Option (List (A8_Int × Bool)))))) × (Option Addr) × Nat × (Nat → Nat)) (fun t => [(2, (iv p2)), (6, (pt g6012)), (8, (.slice A6195 t6190.length c6196)), (9, (.map (some g6198))), (10, (pt g6202)), (12, (pt g7807)), (13, (.slice t.2.2.1 t.1.2.length t.2.2.2.1)), (26, (.slice A6195 t6190.length c6196)), (27, (iv (t6190.length : Int))), (28, (iv x7798))]) (fun t w1 => St NoS w w1 [knestO (aggI ints_A8_Int) vB t.2.1 t.1.1, rowR (encMap A8_Int Bool) t.2.2.1 t.2.2.2.1 (tag t.2.2.2.2 t.1.2), mapsO (aggI ints_A8_Int) vB t.2.2.2.2 t.1.2, mapsO (aggI ints_A8_Int) vB ((mget ((rdD t6190 x7798 z_Row).South) zHM K7797).1.2.2) (mget ((rdD t6190 x7798 z_Row).South) [] l7796), rowR (encMap A8_Int Bool) ((mget ((rdD t6190 x7798 z_Row).South) zHM K7797).1.1) ((mget ((rdD t6190 x7798 z_Row).South) zHM K7797).1.2.1) (tag ((mget ((rdD t6190 x7798 z_Row).South) zHM K7797).1.2.2) (mget ((rdD t6190 x7798 z_Row).South) [] l7796)), knestO (aggI ints_A8_Int) vB K7797 l7796, knestO (aggI ints_A8_Int) vB ([] : List (A8_Int × (HM × List (Option (List (A8_Int × Bool)))))) ([] : List (A8_Int × List (Option (List (A8_Int × Bool))))), rowR enc_Tile A_p0 c_p0 p0] [blk g6012 (.cells #[(iv 0), (iv 0), (.slice none 0 0)] 38 (0, 0)), rowO 88 encN_Row A6195 c6196 (tag H6197 t6190), poolO [nestO subN_Row H6197 t6190], blk g6198 (mapObj (aggI ints_A8_Int) slV t.2.1), blk g6202 (.cells #[(iv p1), (iv p2), (.slice none 0 0)] 38 (0, 0)), blk g7807 (.cells #[(.slice ((H6197 x7798.toNat 0).1) ((rdD t6190 x7798 z_Row).Cells).length ((H6197 x7798.toNat 0).2)), (iv (((rdD t6190 x7798 z_Row).South).e0)), (iv (((rdD t6190 x7798 z_Row).South).e1)), (iv (((rdD t6190 x7798 z_Row).South).e2)), (iv (((rdD t6190 x7798 z_Row).South).e3)), (iv (((rdD t6190 x7798 z_Row).South).e4)), (iv (((rdD t6190 x7798 z_Row).South).e5)), (iv (((rdD t6190 x7798 z_Row).South).e6)), (iv (((rdD t6190 x7798 z_Row).South).e7)), (iv (((rdD t6190 x7798 z_Row).North).e0)), (iv (((rdD t6190 x7798 z_Row).North).e1)), (iv (((rdD t6190 x7798 z_Row).North).e2)), (iv (((rdD t6190 x7798 z_Row).North).e3)), (iv (((rdD t6190 x7798 z_Row).North).e4)), (iv (((rdD t6190 x7798 z_Row).North).e5)), (iv (((rdD t6190 x7798 z_Row).North).e6)), (iv (((rdD t6190 x7798 z_Row).North).e7)), (iv ((rdD t6190 x7798 z_Row).West)), (iv ((rdD t6190 x7798 z_Row).East))] 88 (0, 0))] ∧ x7835 = t.1) (fun Kx7835 => ?_) ?_
    ·
     rcases br_some hx7836 with ⟨h7837, hx7836⟩ | ⟨h7837, hx7836⟩
     ·refine WC.condT2 (fun fb => by kernel_rfl) h7837 ?_
      refine WC.seq ?_
      refine WC.region ?_
      refine seg 5 [.v (iv (((rdD t6190 x7798 z_Row).South).e0)), .v (iv (((rdD t6190 x7798 z_Row).South).e1)), .v (iv (((rdD t6190 x7798 z_Row).South).e2)), .v (iv (((rdD t6190 x7798 z_Row).South).e3)), .v (iv (((rdD t6190 x7798 z_Row).South).e4)), .v (iv (((rdD t6190 x7798 z_Row).South).e5)), .v (iv (((rdD t6190 x7798 z_Row).South).e6)), .v (iv (((rdD t6190 x7798 z_Row).South).e7))] [2, 6, 8, 9, 10, 12, 26, 27, 28, 41, 43, 45] [(2, (iv p2)), (6, (pt g6012)), (8, (.slice A6195 t6190.length c6196)), (9, (.map (some g6198))), (10, (pt g6202)), (12, (pt g7807)), (26, (.slice A6195 t6190.length c6196)), (27, (iv (t6190.length : Int))), (28, (iv x7798)), (41, (.slice A6195 t6190.length c6196)), (43, (.agg #[(iv (((rdD t6190 x7798 z_Row).South).e0)), (iv (((rdD t6190 x7798 z_Row).South).e1)), (iv (((rdD t6190 x7798 z_Row).South).e2)), (iv (((rdD t6190 x7798 z_Row).South).e3)), (iv (((rdD t6190 x7798 z_Row).South).e4)), (iv (((rdD t6190 x7798 z_Row).South).e5)), (iv (((rdD t6190 x7798 z_Row).South).e6)), (iv (((rdD t6190 x7798 z_Row).South).e7))])), (45, (iv (w64 (p2 - 1))))] [.cell ⟨g7807, 1, none⟩ (iv (((rdD t6190 x7798 z_Row).South).e0)), .cell ⟨g7807, 2, none⟩ (iv (((rdD t6190 x7798 z_Row).South).e1)), .cell ⟨g7807, 3, none⟩ (iv (((rdD t6190 x7798 z_Row).South).e2)), .cell ⟨g7807, 4, none⟩ (iv (((rdD t6190 x7798 z_Row).South).e3)), .cell ⟨g7807, 5, none⟩ (iv (((rdD t6190 x7798 z_Row).South).e4)), .cell ⟨g7807, 6, none⟩ (iv (((rdD t6190 x7798 z_Row).South).e5)), .cell ⟨g7807, 7, none⟩ (iv (((rdD t6190 x7798 z_Row).South).e6)), .cell ⟨g7807, 8, none⟩ (iv (((rdD t6190 x7798 z_Row).South).e7))] (fun fb => by kernel_rfl) rfl ⟨hS7814.cell 0 rfl 1 rfl, hS7814.cell 0 rfl 2 rfl, hS7814.cell 0 rfl 3 rfl, hS7814.cell 0 rfl 4 rfl, hS7814.cell 0 rfl 5 rfl, hS7814.cell 0 rfl 6 rfl, hS7814.cell 0 rfl 7 rfl, hS7814.cell 0 rfl 8 rfl, trivial⟩ ?_
      obtain ⟨t7838, ht7839, hx7836⟩ := bind_some hx7836
      refine WL.call (some 46) 63 #[(.slice A6195 t6190.length c6196), (.agg #[(iv (((rdD t6190 x7798 z_Row).South).e0)), (iv (((rdD t6190 x7798 z_Row).South).e1)), (iv (((rdD t6190 x7798 z_Row).South).e2)), (iv (((rdD t6190 x7798 z_Row).South).e3)), (iv (((rdD t6190 x7798 z_Row).South).e4)), (iv (((rdD t6190 x7798 z_Row).South).e5)), (iv (((rdD t6190 x7798 z_Row).South).e6)), (iv (((rdD t6190 x7798 z_Row).South).e7))]), (iv (w64 (p2 - 1)))] (fun fb => by kernel_rfl) (torus_back_calls _ t6190 ((rdD t6190 x7798 z_Row).South) (w64 (p2 - 1)) A6195 c6196 H6197 t7838 _ (hS7814.ow 2).ofO (poolO.ro (hS7814.ow 3) 0) ht7839) (fun v w7840 hR7841 => ?_)
      obtain ⟨A7843, c7844, H7845, rfl, hk_⟩ := hR7841
      have hS7842 : St NoS w w7840 [mapsO (aggI ints_A8_Int) vB ((mget ((rdD t6190 x7798 z_Row).South) zHM K7797).1.2.2) (mget ((rdD t6190 x7798 z_Row).South) [] l7796), rowR (encMap A8_Int Bool) ((mget ((rdD t6190 x7798 z_Row).South) zHM K7797).1.1) ((mget ((rdD t6190 x7798 z_Row).South) zHM K7797).1.2.1) (tag ((mget ((rdD t6190 x7798 z_Row).South) zHM K7797).1.2.2) (mget ((rdD t6190 x7798 z_Row).South) [] l7796)), knestO (aggI ints_A8_Int) vB K7797 l7796, knestO (aggI ints_A8_Int) vB ([] : List (A8_Int × (HM × List (Option (List (A8_Int × Bool)))))) ([] : List (A8_Int × List (Option (List (A8_Int × Bool))))), rowR enc_Tile A_p0 c_p0 p0] [rowO 81 (encMap A8_Int Bool) A7843 c7844 (tag H7845 t7838), mapsO (aggI ints_A8_Int) vB H7845 t7838, blk g7807 (.cells #[(.slice ((H6197 x7798.toNat 0).1) ((rdD t6190 x7798 z_Row).Cells).length ((H6197 x7798.toNat 0).2)), (iv (((rdD t6190 x7798 z_Row).South).e0)), (iv (((rdD t6190 x7798 z_Row).South).e1)), (iv (((rdD t6190 x7798 z_Row).South).e2)), (iv (((rdD t6190 x7798 z_Row).South).e3)), (iv (((rdD t6190 x7798 z_Row).South).e4)), (iv (((rdD t6190 x7798 z_Row).South).e5)), (iv (((rdD t6190 x7798 z_Row).South).e6)), (iv (((rdD t6190 x7798 z_Row).South).e7)), (iv (((rdD t6190 x7798 z_Row).North).e0)), (iv (((rdD t6190 x7798 z_Row).North).e1)), (iv (((rdD t6190 x7798 z_Row).North).e2)), (iv (((rdD t6190 x7798 z_Row).North).e3)), (iv (((rdD t6190 x7798 z_Row).North).e4)), (iv (((rdD t6190 x7798 z_Row).North).e5)), (iv (((rdD t6190 x7798 z_Row).North).e6)), (iv (((rdD t6190 x7798 z_Row).North).e7)), (iv ((rdD t6190 x7798 z_Row).West)), (iv ((rdD t6190 x7798 z_Row).East))] 88 (0, 0)), blk g6012 (.cells #[(iv 0), (iv 0), (.slice none 0 0)] 38 (0, 0)), rowO 88 encN_Row A6195 c6196 (tag H6197 t6190), poolO [nestO subN_Row H6197 t6190], blk g6198 (mapObj (aggI ints_A8_Int) slV K7797), blk g6202 (.cells #[(iv p1), (iv p2), (.slice none 0 0)] 38 (0, 0))] := hS7814.call hk_ [] [0, 1, 2, 3, 4, 5] (fun g hg => hg.elim) (by simp) (by decide)
      refine ⟨trivial, ?_⟩
      refine seg 7 [] [2, 6, 8, 9, 10, 12, 13, 26, 27, 28] [(2, (iv p2)), (6, (pt g6012)), (8, (.slice A6195 t6190.length c6196)), (9, (.map (some g6198))), (10, (pt g6202)), (12, (pt g7807)), (13, (.slice A7843 t7838.length c7844)), (26, (.slice A6195 t6190.length c6196)), (27, (iv (t6190.length : Int))), (28, (iv x7798))] [] (fun fb => by kernel_rfl) rfl trivial ?_
      refine WL.done rfl ?_
      refine WX.next ?_
      refine WC.region ?_
      refine seg 4 [.v (iv (((rdD t6190 x7798 z_Row).South).e0)), .v (iv (((rdD t6190 x7798 z_Row).South).e1)), .v (iv (((rdD t6190 x7798 z_Row).South).e2)), .v (iv (((rdD t6190 x7798 z_Row).South).e3)), .v (iv (((rdD t6190 x7798 z_Row).South).e4)), .v (iv (((rdD t6190 x7798 z_Row).South).e5)), .v (iv (((rdD t6190 x7798 z_Row).South).e6)), .v (iv (((rdD t6190 x7798 z_Row).South).e7))] [2, 6, 8, 9, 10, 12, 13, 26, 27, 28, 47, 49, 50] [(2, (iv p2)), (6, (pt g6012)), (8, (.slice A6195 t6190.length c6196)), (9, (.map (some g6198))), (10, (pt g6202)), (12, (pt g7807)), (13, (.slice A7843 t7838.length c7844)), (26, (.slice A6195 t6190.length c6196)), (27, (iv (t6190.length : Int))), (28, (iv x7798)), (47, (.map (some g6198))), (49, (.agg #[(iv (((rdD t6190 x7798 z_Row).South).e0)), (iv (((rdD t6190 x7798 z_Row).South).e1)), (iv (((rdD t6190 x7798 z_Row).South).e2)), (iv (((rdD t6190 x7798 z_Row).South).e3)), (iv (((rdD t6190 x7798 z_Row).South).e4)), (iv (((rdD t6190 x7798 z_Row).South).e5)), (iv (((rdD t6190 x7798 z_Row).South).e6)), (iv (((rdD t6190 x7798 z_Row).South).e7))])), (50, (.slice A7843 t7838.length c7844))] [.cell ⟨g7807, 1, none⟩ (iv (((rdD t6190 x7798 z_Row).South).e0)), .cell ⟨g7807, 2, none⟩ (iv (((rdD t6190 x7798 z_Row).South).e1)), .cell ⟨g7807, 3, none⟩ (iv (((rdD t6190 x7798 z_Row).South).e2)), .cell ⟨g7807, 4, none⟩ (iv (((rdD t6190 x7798 z_Row).South).e3)), .cell ⟨g7807, 5, none⟩ (iv (((rdD t6190 x7798 z_Row).South).e4)), .cell ⟨g7807, 6, none⟩ (iv (((rdD t6190 x7798 z_Row).South).e5)), .cell ⟨g7807, 7, none⟩ (iv (((rdD t6190 x7798 z_Row).South).e6)), .cell ⟨g7807, 8, none⟩ (iv (((rdD t6190 x7798 z_Row).South).e7))] (fun fb => by kernel_rfl) rfl ⟨hS7842.cell 2 rfl 1 rfl, hS7842.cell 2 rfl 2 rfl, hS7842.cell 2 rfl 3 rfl, hS7842.cell 2 rfl 4 rfl, hS7842.cell 2 rfl 5 rfl, hS7842.cell 2 rfl 6 rfl, hS7842.cell 2 rfl 7 rfl, hS7842.cell 2 rfl 8 rfl, trivial⟩ ?_
      have hS7846 : St NoS w w7840 [mapsO (aggI ints_A8_Int) vB H7845 t7838, mapsO (aggI ints_A8_Int) vB ((mget ((rdD t6190 x7798 z_Row).South) zHM K7797).1.2.2) (mget ((rdD t6190 x7798 z_Row).South) [] l7796), rowR (encMap A8_Int Bool) ((mget ((rdD t6190 x7798 z_Row).South) zHM K7797).1.1) ((mget ((rdD t6190 x7798 z_Row).South) zHM K7797).1.2.1) (tag ((mget ((rdD t6190 x7798 z_Row).South) zHM K7797).1.2.2) (mget ((rdD t6190 x7798 z_Row).South) [] l7796)), knestO (aggI ints_A8_Int) vB K7797 l7796, knestO (aggI ints_A8_Int) vB ([] : List (A8_Int × (HM × List (Option (List (A8_Int × Bool)))))) ([] : List (A8_Int × List (Option (List (A8_Int × Bool))))), rowR enc_Tile A_p0 c_p0 p0] [rowO 81 (encMap A8_Int Bool) A7843 c7844 (tag H7845 t7838), blk g7807 (.cells #[(.slice ((H6197 x7798.toNat 0).1) ((rdD t6190 x7798 z_Row).Cells).length ((H6197 x7798.toNat 0).2)), (iv (((rdD t6190 x7798 z_Row).South).e0)), (iv (((rdD t6190 x7798 z_Row).South).e1)), (iv (((rdD t6190 x7798 z_Row).South).e2)), (iv (((rdD t6190 x7798 z_Row).South).e3)), (iv (((rdD t6190 x7798 z_Row).South).e4)), (iv (((rdD t6190 x7798 z_Row).South).e5)), (iv (((rdD t6190 x7798 z_Row).South).e6)), (iv (((rdD t6190 x7798 z_Row).South).e7)), (iv (((rdD t6190 x7798 z_Row).North).e0)), (iv (((rdD t6190 x7798 z_Row).North).e1)), (iv (((rdD t6190 x7798 z_Row).North).e2)), (iv (((rdD t6190 x7798 z_Row).North).e3)), (iv (((rdD t6190 x7798 z_Row).North).e4)), (iv (((rdD t6190 x7798 z_Row).North).e5)), (iv (((rdD t6190 x7798 z_Row).North).e6)), (iv (((rdD t6190 x7798 z_Row).North).e7)), (iv ((rdD t6190 x7798 z_Row).West)), (iv ((rdD t6190 x7798 z_Row).East))] 88 (0, 0)), blk g6012 (.cells #[(iv 0), (iv 0), (.slice none 0 0)] 38 (0, 0)), rowO 88 encN_Row A6195 c6196 (tag H6197 t6190), poolO [nestO subN_Row H6197 t6190], blk g6198 (mapObj (aggI ints_A8_Int) slV K7797), blk g6202 (.cells #[(iv p1), (iv p2), (.slice none 0 0)] 38 (0, 0))] := hS7842.freezeO 1 [0, 2, 3, 4, 5, 6, 7] (by decide) (by decide)
      have hS7847 : St NoS w w7840 [rowR (encMap A8_Int Bool) A7843 c7844 (tag H7845 t7838), mapsO (aggI ints_A8_Int) vB H7845 t7838, mapsO (aggI ints_A8_Int) vB ((mget ((rdD t6190 x7798 z_Row).South) zHM K7797).1.2.2) (mget ((rdD t6190 x7798 z_Row).South) [] l7796), rowR (encMap A8_Int Bool) ((mget ((rdD t6190 x7798 z_Row).South) zHM K7797).1.1) ((mget ((rdD t6190 x7798 z_Row).South) zHM K7797).1.2.1) (tag ((mget ((rdD t6190 x7798 z_Row).South) zHM K7797).1.2.2) (mget ((rdD t6190 x7798 z_Row).South) [] l7796)), knestO (aggI ints_A8_Int) vB K7797 l7796, knestO (aggI ints_A8_Int) vB ([] : List (A8_Int × (HM × List (Option (List (A8_Int × Bool)))))) ([] : List (A8_Int × List (Option (List (A8_Int × Bool))))), rowR enc_Tile A_p0 c_p0 p0] [blk g7807 (.cells #[(.slice ((H6197 x7798.toNat 0).1) ((rdD t6190 x7798 z_Row).Cells).length ((H6197 x7798.toNat 0).2)), (iv (((rdD t6190 x7798 z_Row).South).e0)), (iv (((rdD t6190 x7798 z_Row).South).e1)), (iv (((rdD t6190 x7798 z_Row).South).e2)), (iv (((rdD t6190 x7798 z_Row).South).e3)), (iv (((rdD t6190 x7798 z_Row).South).e4)), (iv (((rdD t6190 x7798 z_Row).South).e5)), (iv (((rdD t6190 x7798 z_Row).South).e6)), (iv (((rdD t6190 x7798 z_Row).South).e7)), (iv (((rdD t6190 x7798 z_Row).North).e0)), (iv (((rdD t6190 x7798 z_Row).North).e1)), (iv (((rdD t6190 x7798 z_Row).North).e2)), (iv (((rdD t6190 x7798 z_Row).North).e3)), (iv (((rdD t6190 x7798 z_Row).North).e4)), (iv (((rdD t6190 x7798 z_Row).North).e5)), (iv (((rdD t6190 x7798 z_Row).North).e6)), (iv (((rdD t6190 x7798 z_Row).North).e7)), (iv ((rdD t6190 x7798 z_Row).West)), (iv ((rdD t6190 x7798 z_Row).East))] 88 (0, 0)), blk g6012 (.cells #[(iv 0), (iv 0), (.slice none 0 0)] 38 (0, 0)), rowO 88 encN_Row A6195 c6196 (tag H6197 t6190), poolO [nestO subN_Row H6197 t6190], blk g6198 (mapObj (aggI ints_A8_Int) slV K7797), blk g6202 (.cells #[(iv p1), (iv p2), (.slice none 0 0)] 38 (0, 0))] := hS7846.freezeRow 0 rfl [1, 2, 3, 4, 5, 6] (by decide) (by decide)
      refine WL.mapput hS7847 4 (t := 104) (kT := 86) (eT := 80) (kE := (aggI ints_A8_Int)) (vE := slV) (l := K7797) rfl ((rdD t6190 x7798 z_Row).South) ((A7843, c7844, H7845), t7838) (fun fb => by kernel_rfl) torus_find_key86 (by kernel_rfl) [0, 1, 2, 3, 5] (by decide) (by decide) (fun w7848 hS7849 => ?_)
      have hS7850 : St NoS w w7848 [knestO (aggI ints_A8_Int) vB (mput ((rdD t6190 x7798 z_Row).South) ((A7843, c7844, H7845), t7838) K7797) (mput ((rdD t6190 x7798 z_Row).South) t7838 l7796), rowR (encMap A8_Int Bool) A7843 c7844 (tag H7845 t7838), mapsO (aggI ints_A8_Int) vB H7845 t7838, mapsO (aggI ints_A8_Int) vB ((mget ((rdD t6190 x7798 z_Row).South) zHM K7797).1.2.2) (mget ((rdD t6190 x7798 z_Row).South) [] l7796), rowR (encMap A8_Int Bool) ((mget ((rdD t6190 x7798 z_Row).South) zHM K7797).1.1) ((mget ((rdD t6190 x7798 z_Row).South) zHM K7797).1.2.1) (tag ((mget ((rdD t6190 x7798 z_Row).South) zHM K7797).1.2.2) (mget ((rdD t6190 x7798 z_Row).South) [] l7796)), knestO (aggI ints_A8_Int) vB K7797 l7796, knestO (aggI ints_A8_Int) vB ([] : List (A8_Int × (HM × List (Option (List (A8_Int × Bool)))))) ([] : List (A8_Int × List (Option (List (A8_Int × Bool))))), rowR enc_Tile A_p0 c_p0 p0] [blk g6198 (mapObj (aggI ints_A8_Int) slV (mput ((rdD t6190 x7798 z_Row).South) ((A7843, c7844, H7845), t7838) K7797)), blk g7807 (.cells #[(.slice ((H6197 x7798.toNat 0).1) ((rdD t6190 x7798 z_Row).Cells).length ((H6197 x7798.toNat 0).2)), (iv (((rdD t6190 x7798 z_Row).South).e0)), (iv (((rdD t6190 x7798 z_Row).South).e1)), (iv (((rdD t6190 x7798 z_Row).South).e2)), (iv (((rdD t6190 x7798 z_Row).South).e3)), (iv (((rdD t6190 x7798 z_Row).South).e4)), (iv (((rdD t6190 x7798 z_Row).South).e5)), (iv (((rdD t6190 x7798 z_Row).South).e6)), (iv (((rdD t6190 x7798 z_Row).South).e7)), (iv (((rdD t6190 x7798 z_Row).North).e0)), (iv (((rdD t6190 x7798 z_Row).North).e1)), (iv (((rdD t6190 x7798 z_Row).North).e2)), (iv (((rdD t6190 x7798 z_Row).North).e3)), (iv (((rdD t6190 x7798 z_Row).North).e4)), (iv (((rdD t6190 x7798 z_Row).North).e5)), (iv (((rdD t6190 x7798 z_Row).North).e6)), (iv (((rdD t6190 x7798 z_Row).North).e7)), (iv ((rdD t6190 x7798 z_Row).West)), (iv ((rdD t6190 x7798 z_Row).East))] 88 (0, 0)), blk g6012 (.cells #[(iv 0), (iv 0), (.slice none 0 0)] 38 (0, 0)), rowO 88 encN_Row A6195 c6196 (tag H6197 t6190), poolO [nestO subN_Row H6197 t6190], blk g6202 (.cells #[(iv p1), (iv p2), (.slice none 0 0)] 38 (0, 0))] := hS7849.addR _ (knestO.put (hS7849.rdL 4) ((rdD t6190 x7798 z_Row).South) (hS7849.rdL 0) (hS7849.rdL 1))
      refine ⟨trivial, ?_⟩
      refine WL.done rfl ?_
      injection hx7836 with hx7836
      exact WX.to Kx7835 ((mput ((rdD t6190 x7798 z_Row).South) t7838 l7796, t7838), mput ((rdD t6190 x7798 z_Row).South) ((A7843, c7844, H7845), t7838) K7797, A7843, c7844, H7845) [2, 6, 8, 9, 10, 12, 13, 26, 27, 28] rfl ⟨(hS7850.subR [0, 1, 2, 3, 4, 5, 6, 7]).sub [2, 3, 4, 0, 5, 1] (by decide), hx7836.symm⟩
     refine WC.condF2 (fun fb => by kernel_rfl) h7837 ?_
     refine WC.skip ?_
     injection hx7836 with hx7836
     exact WX.to Kx7835 ((l7796, (mget ((rdD t6190 x7798 z_Row).South) [] l7796)), K7797, (mget ((rdD t6190 x7798 z_Row).South) zHM K7797).1.1, (mget ((rdD t6190 x7798 z_Row).South) zHM K7797).1.2.1, ((mget ((rdD t6190 x7798 z_Row).South) zHM K7797).1.2.2)) [2, 6, 8, 9, 10, 12, 13, 26, 27, 28] rfl ⟨(hS7814.subR [2, 1, 0, 0, 1, 2, 3, 4]).sub [1, 2, 3, 4, 5, 0] (by decide), hx7836.symm⟩
    rintro ⟨y7854, K7830, A7831, c7832, H7834⟩ w7851 ⟨hS7852, hq7853⟩
    subst hq7853
    refine WX.next ?_
    refine WC.seq ?_
    refine WC.seq ?_
    obtain ⟨h7863, hl7804⟩ := as_some hl7804
    obtain ⟨m7864, hm7865, hl7804⟩ := bind_some hl7804
    refine WC.regionD ([(4, ((adr A7831).add ((w64 (p2 - 1)).toNat * 1)), (.map (some (H7834 (w64 (p2 - 1)).toNat)))), (6, ⟨g7807, 9, none⟩, (iv (((rdD t6190 x7798 z_Row).North).e0))), (6, ⟨g7807, 10, none⟩, (iv (((rdD t6190 x7798 z_Row).North).e1))), (6, ⟨g7807, 11, none⟩, (iv (((rdD t6190 x7798 z_Row).North).e2))), (6, ⟨g7807, 12, none⟩, (iv (((rdD t6190 x7798 z_Row).North).e3))), (6, ⟨g7807, 13, none⟩, (iv (((rdD t6190 x7798 z_Row).North).e4))), (6, ⟨g7807, 14, none⟩, (iv (((rdD t6190 x7798 z_Row).North).e5))), (6, ⟨g7807, 15, none⟩, (iv (((rdD t6190 x7798 z_Row).North).e6))), (6, ⟨g7807, 16, none⟩, (iv (((rdD t6190 x7798 z_Row).North).e7)))], [0, 1, 2, 3, 4, 5, 6, 8], [[], [], [1], [0, 1, 2], [0, 1, 2, 3], [], [5], [0, 1, 2, 3, 4, 5, 6], [0, 1, 2, 3, 4, 5, 6, 7]]) [[0, 1, 2, 3, 4, 5, 6, 7, 8]] (by kernel_rfl) (by kernel_rfl) (NoPanic.seq (NoPanic.seq (NoPanic.block (NoPanic.seq (NoPanic.seq (NoPanic.block (NoPanic.seq (NoPanic.scope (NoPanic.body))))))))) ?_
    have hS7859 := hS7852.drew
    revert hS7859
    generalize World.drew w7851 = w7858
    intro hS7859
    refine ⟨⟨nrow_cell (hS7859.rd 1).1 none h7863.1 h7863.2 0 (mapV_some hm7865), hS7859.cell 5 rfl 9 rfl, hS7859.cell 5 rfl 10 rfl, hS7859.cell 5 rfl 11 rfl, hS7859.cell 5 rfl 12 rfl, hS7859.cell 5 rfl 13 rfl, hS7859.cell 5 rfl 14 rfl, hS7859.cell 5 rfl 15 rfl, hS7859.cell 5 rfl 16 rfl, trivial⟩, forallC ?_ (forallN)⟩
    refine segF 7 [.v (.map (some (H7834 (w64 (p2 - 1)).toNat))), .v (iv (((rdD t6190 x7798 z_Row).North).e0)), .v (iv (((rdD t6190 x7798 z_Row).North).e1)), .v (iv (((rdD t6190 x7798 z_Row).North).e2)), .v (iv (((rdD t6190 x7798 z_Row).North).e3)), .v (iv (((rdD t6190 x7798 z_Row).North).e4)), .v (iv (((rdD t6190 x7798 z_Row).North).e5)), .v (iv (((rdD t6190 x7798 z_Row).North).e6)), .v (iv (((rdD t6190 x7798 z_Row).North).e7))] [2, 6, 8, 9, 10, 12, 13, 26, 27, 28, 55, 57] [(2, (iv p2)), (6, (pt g6012)), (8, (.slice A6195 t6190.length c6196)), (9, (.map (some g6198))), (10, (pt g6202)), (12, (pt g7807)), (13, (.slice A7831 x7835.2.length c7832)), (26, (.slice A6195 t6190.length c6196)), (27, (iv (t6190.length : Int))), (28, (iv x7798)), (55, (.map (some (H7834 (w64 (p2 - 1)).toNat)))), (57, (.agg #[(iv (((rdD t6190 x7798 z_Row).North).e0)), (iv (((rdD t6190 x7798 z_Row).North).e1)), (iv (((rdD t6190 x7798 z_Row).North).e2)), (iv (((rdD t6190 x7798 z_Row).North).e3)), (iv (((rdD t6190 x7798 z_Row).North).e4)), (iv (((rdD t6190 x7798 z_Row).North).e5)), (iv (((rdD t6190 x7798 z_Row).North).e6)), (iv (((rdD t6190 x7798 z_Row).North).e7))]))] [.idx A7831 (w64 (p2 - 1)) x7835.2.length] [0, 1, 2, 3, 4, 5, 6, 7, 8] [(4, ((adr A7831).add ((w64 (p2 - 1)).toNat * 1)), (.map (some (H7834 (w64 (p2 - 1)).toNat)))), (6, ⟨g7807, 9, none⟩, (iv (((rdD t6190 x7798 z_Row).North).e0))), (6, ⟨g7807, 10, none⟩, (iv (((rdD t6190 x7798 z_Row).North).e1))), (6, ⟨g7807, 11, none⟩, (iv (((rdD t6190 x7798 z_Row).North).e2))), (6, ⟨g7807, 12, none⟩, (iv (((rdD t6190 x7798 z_Row).North).e3))), (6, ⟨g7807, 13, none⟩, (iv (((rdD t6190 x7798 z_Row).North).e4))), (6, ⟨g7807, 14, none⟩, (iv (((rdD t6190 x7798 z_Row).North).e5))), (6, ⟨g7807, 15, none⟩, (iv (((rdD t6190 x7798 z_Row).North).e6))), (6, ⟨g7807, 16, none⟩, (iv (((rdD t6190 x7798 z_Row).North).e7)))] (fun fb => by kernel_rfl) rfl ⟨nrow_adr (hS7859.rd 1).1 h7863.1 h7863.2, trivial⟩ rfl ?_
    refine WL.lookup (mapsO.at (hS7859.rd 2).1 h7863.1 h7863.2 hm7865) ((rdD t6190 x7798 z_Row).North) (d := 58) (c := false) (t := 81) (kT := 86) (eT := 4) (z := false) (kE := (aggI ints_A8_Int)) (vE := vB) (l := m7864) (.bool (mget ((rdD t6190 x7798 z_Row).North) false m7864)) (fun fb => by kernel_rfl) torus_find_key86 (by kernel_rfl) (fun _ => by kernel_rfl) rfl ?_
    refine ⟨trivial, ?_⟩
    refine seg 9 [] [2, 6, 8, 9, 10, 12, 13, 26, 27, 28, 59] [(2, (iv p2)), (6, (pt g6012)), (8, (.slice A6195 t6190.length c6196)), (9, (.map (some g6198))), (10, (pt g6202)), (12, (pt g7807)), (13, (.slice A7831 x7835.2.length c7832)), (26, (.slice A6195 t6190.length c6196)), (27, (iv (t6190.length : Int))), (28, (iv x7798)), (59, (.bool (!(mget ((rdD t6190 x7798 z_Row).North) false m7864))))] [] (fun fb => by kernel_rfl) rfl trivial ?_
    refine WL.done rfl ?_
    refine WX.next ?_
    rcases br_some hl7804 with ⟨h7866, hl7804⟩ | ⟨h7866, hl7804⟩
    ·refine WC.condT2 (fun fb => by kernel_rfl) h7866 ?_
     refine WC.exit ?_
     refine WX.thenX (WX.blockHere (WX.next ?_))
     refine WC.region ?_
     refine seg 2 [] [2, 6, 8, 9, 10, 26, 27, 28] [(2, (iv p2)), (6, (pt g6012)), (8, (.slice A6195 t6190.length c6196)), (9, (.map (some g6198))), (10, (pt g6202)), (26, (.slice A6195 t6190.length c6196)), (27, (iv (t6190.length : Int))), (28, (iv (w64 (x7798 + 1))))] [] (fun fb => by kernel_rfl) rfl trivial ?_
     refine WL.done rfl ?_
     exact WX.again k7801 (Nat.lt_succ_self _) ((x7835.1, w64 (x7798 + 1)), K7830) [2, 6, 8, 9, 10, 26, 27, 28] rfl ⟨(hS7859.subR [0, 6, 7]).sub [0, 1, 2, 3, 4] (by decide), hl7804⟩
    refine WC.condF2 (fun fb => by kernel_rfl) h7866 ?_
    refine WC.skip ?_
    refine WX.next ?_
    refine WC.seq ?_
    refine WC.region ?_
    refine seg 4 [.v (.slice none 0 0), .v (.slice ((H6197 x7798.toNat 0).1) ((rdD t6190 x7798 z_Row).Cells).length ((H6197 x7798.toNat 0).2))] [2, 6, 8, 10, 12, 13, 61, 63] [(2, (iv p2)), (6, (pt g6012)), (8, (.slice A6195 t6190.length c6196)), (10, (pt g6202)), (12, (pt g7807)), (13, (.slice A7831 x7835.2.length c7832)), (61, (.slice none 0 0)), (63, (.slice ((H6197 x7798.toNat 0).1) ((rdD t6190 x7798 z_Row).Cells).length ((H6197 x7798.toNat 0).2)))] [.cell ⟨g6202, 2, none⟩ (.slice none 0 0), .cell ⟨g7807, 0, none⟩ (.slice ((H6197 x7798.toNat 0).1) ((rdD t6190 x7798 z_Row).Cells).length ((H6197 x7798.toNat 0).2))] (fun fb => by kernel_rfl) rfl ⟨hS7859.cell 4 rfl 2 rfl, hS7859.cell 5 rfl 0 rfl, trivial⟩ ?_
    have hS7867 := hS7859.nilrow 3 encInt
    obtain ⟨h7868, hl7804⟩ := as_some hl7804
    refine WL.append hS7867 0 (d := 64) (tS := 36) (z := (iv 0)) (bytes := 8) (c2 := (H6197 x7798.toNat 0).2) rfl (fun fb => by kernel_rfl) (nestO.at ((hS7867.own 3).1 0) z_Row h7806.1 h7806.2) (by kernel_rfl) (by kernel_rfl) rfl (by decide) h7868 (by decide) [1, 2, 3, 4, 5, 6] (by decide) (by decide) (fun A7869 c7870 w7871 hS7872 => ?_)
    refine ⟨trivial, ?_⟩
    refine seg 6 [] [2, 6, 8, 10, 12, 13, 64, 65] [(2, (iv p2)), (6, (pt g6012)), (8, (.slice A6195 t6190.length c6196)), (10, (pt g6202)), (12, (pt g7807)), (13, (.slice A7831 x7835.2.length c7832)), (64, (.slice A7869 (([] : List Int) ++ ((rdD t6190 x7798 z_Row).Cells)).length c7870)), (65, (.pointer (some ⟨g6202, 2, none⟩)))] [] (fun fb => by kernel_rfl) rfl trivial ?_
    refine WL.store hS7872 5 rfl [(2, (.slice A7869 (([] : List Int) ++ ((rdD t6190 x7798 z_Row).Cells)).length c7870))] #[(iv p1), (iv p2), (.slice A7869 (([] : List Int) ++ ((rdD t6190 x7798 z_Row).Cells)).length c7870)] (fun fb => by kernel_rfl) (by kernel_rfl) rfl [0, 1, 2, 3, 4, 6] (by decide) (by decide) (fun w7873 hS7874 => ?_)
    refine ⟨trivial, ?_⟩
    refine WL.done rfl ?_
    refine WX.next ?_
    refine WC.seq ?_
    refine WC.region ?_
    refine seg 2 [.v (iv (((rdD t6190 x7798 z_Row).North).e0)), .v (iv (((rdD t6190 x7798 z_Row).North).e1)), .v (iv (((rdD t6190 x7798 z_Row).North).e2)), .v (iv (((rdD t6190 x7798 z_Row).North).e3)), .v (iv (((rdD t6190 x7798 z_Row).North).e4)), .v (iv (((rdD t6190 x7798 z_Row).North).e5)), .v (iv (((rdD t6190 x7798 z_Row).North).e6)), .v (iv (((rdD t6190 x7798 z_Row).North).e7))] [2, 6, 8, 10, 13, 67] [(2, (iv p2)), (6, (pt g6012)), (8, (.slice A6195 t6190.length c6196)), (10, (pt g6202)), (13, (.slice A7831 x7835.2.length c7832)), (67, (.agg #[(iv (((rdD t6190 x7798 z_Row).North).e0)), (iv (((rdD t6190 x7798 z_Row).North).e1)), (iv (((rdD t6190 x7798 z_Row).North).e2)), (iv (((rdD t6190 x7798 z_Row).North).e3)), (iv (((rdD t6190 x7798 z_Row).North).e4)), (iv (((rdD t6190 x7798 z_Row).North).e5)), (iv (((rdD t6190 x7798 z_Row).North).e6)), (iv (((rdD t6190 x7798 z_Row).North).e7))]))] [.cell ⟨g7807, 9, none⟩ (iv (((rdD t6190 x7798 z_Row).North).e0)), .cell ⟨g7807, 10, none⟩ (iv (((rdD t6190 x7798 z_Row).North).e1)), .cell ⟨g7807, 11, none⟩ (iv (((rdD t6190 x7798 z_Row).North).e2)), .cell ⟨g7807, 12, none⟩ (iv (((rdD t6190 x7798 z_Row).North).e3)), .cell ⟨g7807, 13, none⟩ (iv (((rdD t6190 x7798 z_Row).North).e4)), .cell ⟨g7807, 14, none⟩ (iv (((rdD t6190 x7798 z_Row).North).e5)), .cell ⟨g7807, 15, none⟩ (iv (((rdD t6190 x7798 z_Row).North).e6)), .cell ⟨g7807, 16, none⟩ (iv (((rdD t6190 x7798 z_Row).North).e7))] (fun fb => by kernel_rfl) rfl ⟨hS7874.cell 6 rfl 9 rfl, hS7874.cell 6 rfl 10 rfl, hS7874.cell 6 rfl 11 rfl, hS7874.cell 6 rfl 12 rfl, hS7874.cell 6 rfl 13 rfl, hS7874.cell 6 rfl 14 rfl, hS7874.cell 6 rfl 15 rfl, hS7874.cell 6 rfl 16 rfl, trivial⟩ ?_
    refine WL.new hS7874 15 [] (fun g => (.pointer (some ⟨g, 0, none⟩))) (.cells #[(iv 0), (iv 0), (iv 0), (iv 0), (iv 0), (iv 0), (iv 0), (iv 0)] 86 (0, 0)) [] (fun fb g => by kernel_rfl) trivial (fun g7875 w7876 hS7877 => ?_)
    refine ⟨trivial, ?_⟩
    refine WL.store hS7877 0 rfl [(0, (iv (((rdD t6190 x7798 z_Row).North).e0))), (1, (iv (((rdD t6190 x7798 z_Row).North).e1))), (2, (iv (((rdD t6190 x7798 z_Row).North).e2))), (3, (iv (((rdD t6190 x7798 z_Row).North).e3))), (4, (iv (((rdD t6190 x7798 z_Row).North).e4))), (5, (iv (((rdD t6190 x7798 z_Row).North).e5))), (6, (iv (((rdD t6190 x7798 z_Row).North).e6))), (7, (iv (((rdD t6190 x7798 z_Row).North).e7)))] #[(iv (((rdD t6190 x7798 z_Row).North).e0)), (iv (((rdD t6190 x7798 z_Row).North).e1)), (iv (((rdD t6190 x7798 z_Row).North).e2)), (iv (((rdD t6190 x7798 z_Row).North).e3)), (iv (((rdD t6190 x7798 z_Row).North).e4)), (iv (((rdD t6190 x7798 z_Row).North).e5)), (iv (((rdD t6190 x7798 z_Row).North).e6)), (iv (((rdD t6190 x7798 z_Row).North).e7))] (fun fb => by kernel_rfl) (by kernel_rfl) rfl [1, 2, 3, 4, 5, 6, 7] (by decide) (by decide) (fun w7879 hS7880 => ?_)
    refine ⟨trivial, ?_⟩
    refine WL.done rfl ?_
    refine WX.next ?_
    refine WC.seq ?_
    refine WC.seq ?_
    refine WC.region ?_
    refine seg 3 [] [6, 8, 10, 13, 15, 16] [(6, (pt g6012)), (8, (.slice A6195 t6190.length c6196)), (10, (pt g6202)), (13, (.slice A7831 x7835.2.length c7832)), (15, (pt g7875)), (16, (iv (w64 (p2 - 2))))] [] (fun fb => by kernel_rfl) rfl trivial ?_
    refine WL.done rfl ?_
    refine WX.next ?_
    obtain ⟨x8246, hx8247, hl7804⟩ := bind_some hl7804
    refine WC.cutN (T := (List Int) × (Option Addr) × Nat) (fun t => [(6, (pt g6012)), (10, (pt g6202))]) (fun t w1 => St NoS w w1 [knestO (aggI ints_A8_Int) vB K7830 x7835.1, rowR (encMap A8_Int Bool) A7831 c7832 (tag H7834 x7835.2), mapsO (aggI ints_A8_Int) vB H7834 x7835.2, mapsO (aggI ints_A8_Int) vB ((mget ((rdD t6190 x7798 z_Row).South) zHM K7797).1.2.2) (mget ((rdD t6190 x7798 z_Row).South) [] l7796), rowR (encMap A8_Int Bool) ((mget ((rdD t6190 x7798 z_Row).South) zHM K7797).1.1) ((mget ((rdD t6190 x7798 z_Row).South) zHM K7797).1.2.1) (tag ((mget ((rdD t6190 x7798 z_Row).South) zHM K7797).1.2.2) (mget ((rdD t6190 x7798 z_Row).South) [] l7796)), knestO (aggI ints_A8_Int) vB K7797 l7796, knestO (aggI ints_A8_Int) vB ([] : List (A8_Int × (HM × List (Option (List (A8_Int × Bool)))))) ([] : List (A8_Int × List (Option (List (A8_Int × Bool))))), rowR enc_Tile A_p0 c_p0 p0] [blk g6012 (.cells #[(iv 0), (iv 0), (.slice none 0 0)] 38 (0, 0)), blk g6202 (.cells #[(iv p1), (iv p2), (.slice t.2.1 t.1.length t.2.2)] 38 (0, 0)), rowO 3 encInt t.2.1 t.2.2 t.1] ∧ x8246 = t.1) (fun Kx8246 => ?_) ?_
    ·
     refine WC.block ?_
     refine WC.loop (T := ((List Int) × A8_Int × Int) × (Option Addr) × Nat) (fun t => [(6, (pt g6012)), (8, (.slice A6195 t6190.length c6196)), (10, (pt g6202)), (13, (.slice A7831 x7835.2.length c7832)), (15, (pt g7875)), (16, (iv t.1.2.2))]) (fun n t w1 => St NoS w w1 [knestO (aggI ints_A8_Int) vB K7830 x7835.1, rowR (encMap A8_Int Bool) A7831 c7832 (tag H7834 x7835.2), mapsO (aggI ints_A8_Int) vB H7834 x7835.2, mapsO (aggI ints_A8_Int) vB ((mget ((rdD t6190 x7798 z_Row).South) zHM K7797).1.2.2) (mget ((rdD t6190 x7798 z_Row).South) [] l7796), rowR (encMap A8_Int Bool) ((mget ((rdD t6190 x7798 z_Row).South) zHM K7797).1.1) ((mget ((rdD t6190 x7798 z_Row).South) zHM K7797).1.2.1) (tag ((mget ((rdD t6190 x7798 z_Row).South) zHM K7797).1.2.2) (mget ((rdD t6190 x7798 z_Row).South) [] l7796)), knestO (aggI ints_A8_Int) vB K7797 l7796, knestO (aggI ints_A8_Int) vB ([] : List (A8_Int × (HM × List (Option (List (A8_Int × Bool)))))) ([] : List (A8_Int × List (Option (List (A8_Int × Bool))))), rowR enc_Tile A_p0 c_p0 p0] [blk g6012 (.cells #[(iv 0), (iv 0), (.slice none 0 0)] 38 (0, 0)), rowO 88 encN_Row A6195 c6196 (tag H6197 t6190), poolO [nestO subN_Row H6197 t6190], blk g6202 (.cells #[(iv p1), (iv p2), (.slice t.2.1 t.1.1.length t.2.2)] 38 (0, 0)), rowO 3 encInt t.2.1 t.2.2 t.1.1, blk g7875 (.cells #[(iv t.1.2.1.e0), (iv t.1.2.1.e1), (iv t.1.2.1.e2), (iv t.1.2.1.e3), (iv t.1.2.1.e4), (iv t.1.2.1.e5), (iv t.1.2.1.e6), (iv t.1.2.1.e7)] 86 (0, 0))] ∧ torus_find.l1 n t.1.1 t.1.2.1 t.1.2.2 t6190 x7835 = some x8246) k7801 ((([] : List Int) ++ ((rdD t6190 x7798 z_Row).Cells), ((rdD t6190 x7798 z_Row).North), w64 (p2 - 2)), A7869, c7870) [6, 8, 10, 13, 15, 16] rfl ⟨(hS7880.subR [0, 1, 2, 3, 4, 5, 6, 7]).sub [3, 4, 5, 1, 2, 0] (by decide), hx8247⟩ ?_
     rintro k8248 ⟨⟨l8240, a8241, x8242⟩, A8238, c8239⟩ w8249 ⟨hS8250, hl8251⟩
     cases k8248 with
     | zero => rw [torus_find.l1] at hl8251; cases hl8251
     | succ k8248 =>
      rw [torus_find.l1] at hl8251
      refine WC.seq ?_
      refine WC.seq ?_
      refine WC.region ?_
      refine seg 2 [] [6, 8, 10, 13, 15, 16, 71] [(6, (pt g6012)), (8, (.slice A6195 t6190.length c6196)), (10, (pt g6202)), (13, (.slice A7831 x7835.2.length c7832)), (15, (pt g7875)), (16, (iv x8242)), (71, (.bool (decide (x8242 ≥ 0))))] [] (fun fb => by kernel_rfl) rfl trivial ?_
      refine WL.done rfl ?_
      refine WX.next ?_
      rcases br_some hl8251 with ⟨h8252, hl8251⟩ | ⟨h8252, hl8251⟩
      ·refine WC.condT2 (fun fb => by kernel_rfl) h8252 ?_
       refine WC.skip ?_
       refine WX.next ?_
       refine WC.seq ?_
       refine WC.block ?_
       refine WC.scope ?_
       refine WC.seq ?_
       refine WC.label ?_
       refine WX.next ?_
       refine WC.seq ?_
       refine WC.region ?_
       refine seg 3 [] [6, 8, 10, 13, 15, 16, 74, 75, 76] [(6, (pt g6012)), (8, (.slice A6195 t6190.length c6196)), (10, (pt g6202)), (13, (.slice A7831 x7835.2.length c7832)), (15, (pt g7875)), (16, (iv x8242)), (74, (.slice A6195 t6190.length c6196)), (75, (iv (t6190.length : Int))), (76, (iv 0))] [] (fun fb => by kernel_rfl) rfl trivial ?_
       refine WL.done rfl ?_
       refine WX.next ?_
       obtain ⟨x8365, hx8366, hl8251⟩ := bind_some hl8251
       refine WC.cutN (T := ((List Int) × A8_Int) × (Option Addr) × Nat) (fun t => [(6, (pt g6012)), (8, (.slice A6195 t6190.length c6196)), (10, (pt g6202)), (13, (.slice A7831 x7835.2.length c7832)), (15, (pt g7875)), (16, (iv x8242))]) (fun t w1 => St NoS w w1 [knestO (aggI ints_A8_Int) vB K7830 x7835.1, rowR (encMap A8_Int Bool) A7831 c7832 (tag H7834 x7835.2), mapsO (aggI ints_A8_Int) vB H7834 x7835.2, mapsO (aggI ints_A8_Int) vB ((mget ((rdD t6190 x7798 z_Row).South) zHM K7797).1.2.2) (mget ((rdD t6190 x7798 z_Row).South) [] l7796), rowR (encMap A8_Int Bool) ((mget ((rdD t6190 x7798 z_Row).South) zHM K7797).1.1) ((mget ((rdD t6190 x7798 z_Row).South) zHM K7797).1.2.1) (tag ((mget ((rdD t6190 x7798 z_Row).South) zHM K7797).1.2.2) (mget ((rdD t6190 x7798 z_Row).South) [] l7796)), knestO (aggI ints_A8_Int) vB K7797 l7796, knestO (aggI ints_A8_Int) vB ([] : List (A8_Int × (HM × List (Option (List (A8_Int × Bool)))))) ([] : List (A8_Int × List (Option (List (A8_Int × Bool))))), rowR enc_Tile A_p0 c_p0 p0] [blk g6012 (.cells #[(iv 0), (iv 0), (.slice none 0 0)] 38 (0, 0)), rowO 88 encN_Row A6195 c6196 (tag H6197 t6190), poolO [nestO subN_Row H6197 t6190], blk g6202 (.cells #[(iv p1), (iv p2), (.slice t.2.1 t.1.1.length t.2.2)] 38 (0, 0)), rowO 3 encInt t.2.1 t.2.2 t.1.1, blk g7875 (.cells #[(iv t.1.2.e0), (iv t.1.2.e1), (iv t.1.2.e2), (iv t.1.2.e3), (iv t.1.2.e4), (iv t.1.2.e5), (iv t.1.2.e6), (iv t.1.2.e7)] 86 (0, 0))] ∧ x8365 = t.1) (fun Kx8365 => ?_) ?_
       ·
        refine WC.block ?_
        refine WC.loop (T := Int) (fun t => [(6, (pt g6012)), (8, (.slice A6195 t6190.length c6196)), (10, (pt g6202)), (13, (.slice A7831 x7835.2.length c7832)), (15, (pt g7875)), (16, (iv x8242)), (74, (.slice A6195 t6190.length c6196)), (75, (iv (t6190.length : Int))), (76, (iv t))]) (fun n t w1 => St NoS w w1 [knestO (aggI ints_A8_Int) vB K7830 x7835.1, rowR (encMap A8_Int Bool) A7831 c7832 (tag H7834 x7835.2), mapsO (aggI ints_A8_Int) vB H7834 x7835.2, mapsO (aggI ints_A8_Int) vB ((mget ((rdD t6190 x7798 z_Row).South) zHM K7797).1.2.2) (mget ((rdD t6190 x7798 z_Row).South) [] l7796), rowR (encMap A8_Int Bool) ((mget ((rdD t6190 x7798 z_Row).South) zHM K7797).1.1) ((mget ((rdD t6190 x7798 z_Row).South) zHM K7797).1.2.1) (tag ((mget ((rdD t6190 x7798 z_Row).South) zHM K7797).1.2.2) (mget ((rdD t6190 x7798 z_Row).South) [] l7796)), knestO (aggI ints_A8_Int) vB K7797 l7796, knestO (aggI ints_A8_Int) vB ([] : List (A8_Int × (HM × List (Option (List (A8_Int × Bool)))))) ([] : List (A8_Int × List (Option (List (A8_Int × Bool))))), rowR enc_Tile A_p0 c_p0 p0] [blk g6012 (.cells #[(iv 0), (iv 0), (.slice none 0 0)] 38 (0, 0)), rowO 88 encN_Row A6195 c6196 (tag H6197 t6190), poolO [nestO subN_Row H6197 t6190], blk g6202 (.cells #[(iv p1), (iv p2), (.slice A8238 l8240.length c8239)] 38 (0, 0)), rowO 3 encInt A8238 c8239 l8240, blk g7875 (.cells #[(iv a8241.e0), (iv a8241.e1), (iv a8241.e2), (iv a8241.e3), (iv a8241.e4), (iv a8241.e5), (iv a8241.e6), (iv a8241.e7)] 86 (0, 0))] ∧ torus_find.l2 n t t6190 x7835 l8240 a8241 x8242 = some x8365) k8248 0 [6, 8, 10, 13, 15, 16, 74, 75, 76] rfl ⟨(hS8250.subR [0, 1, 2, 3, 4, 5, 6, 7]).sub [0, 1, 2, 3, 4, 5] (by decide), hx8366⟩ ?_
        rintro k8367 x8360 w8368 ⟨hS8369, hl8370⟩
        cases k8367 with
        | zero => rw [torus_find.l2] at hl8370; cases hl8370
        | succ k8367 =>
         rw [torus_find.l2] at hl8370
         refine WC.seq ?_
         refine WC.region ?_
         refine seg 1 [] [6, 8, 10, 13, 15, 16, 74, 75, 76, 77] [(6, (pt g6012)), (8, (.slice A6195 t6190.length c6196)), (10, (pt g6202)), (13, (.slice A7831 x7835.2.length c7832)), (15, (pt g7875)), (16, (iv x8242)), (74, (.slice A6195 t6190.length c6196)), (75, (iv (t6190.length : Int))), (76, (iv x8360)), (77, (.bool (decide (x8360 < (t6190.length : Int)))))] [] (fun fb => by kernel_rfl) rfl trivial ?_
         refine WL.done rfl ?_
         refine WX.next ?_
         refine WC.seq ?_
         rcases br_some hl8370 with ⟨h8371, hl8370⟩ | ⟨h8371, hl8370⟩
         ·refine WC.condT2 (fun fb => by kernel_rfl) h8371 ?_
          refine WC.skip ?_
          refine WX.next ?_
          refine WC.seq ?_
          refine WC.block ?_
          refine WC.seq ?_
          refine WC.region ?_
          obtain ⟨h8372, hl8370⟩ := as_some hl8370
          refine seg 2 [.v (.slice ((H6197 x8360.toNat 0).1) ((rdD t6190 x8360 z_Row).Cells).length ((H6197 x8360.toNat 0).2)), .v (iv (((rdD t6190 x8360 z_Row).South).e0)), .v (iv (((rdD t6190 x8360 z_Row).South).e1)), .v (iv (((rdD t6190 x8360 z_Row).South).e2)), .v (iv (((rdD t6190 x8360 z_Row).South).e3)), .v (iv (((rdD t6190 x8360 z_Row).South).e4)), .v (iv (((rdD t6190 x8360 z_Row).South).e5)), .v (iv (((rdD t6190 x8360 z_Row).South).e6)), .v (iv (((rdD t6190 x8360 z_Row).South).e7)), .v (iv (((rdD t6190 x8360 z_Row).North).e0)), .v (iv (((rdD t6190 x8360 z_Row).North).e1)), .v (iv (((rdD t6190 x8360 z_Row).North).e2)), .v (iv (((rdD t6190 x8360 z_Row).North).e3)), .v (iv (((rdD t6190 x8360 z_Row).North).e4)), .v (iv (((rdD t6190 x8360 z_Row).North).e5)), .v (iv (((rdD t6190 x8360 z_Row).North).e6)), .v (iv (((rdD t6190 x8360 z_Row).North).e7)), .v (iv ((rdD t6190 x8360 z_Row).West)), .v (iv ((rdD t6190 x8360 z_Row).East))] [6, 8, 10, 13, 15, 16, 74, 75, 76, 79] [(6, (pt g6012)), (8, (.slice A6195 t6190.length c6196)), (10, (pt g6202)), (13, (.slice A7831 x7835.2.length c7832)), (15, (pt g7875)), (16, (iv x8242)), (74, (.slice A6195 t6190.length c6196)), (75, (iv (t6190.length : Int))), (76, (iv x8360)), (79, (.agg #[(.slice ((H6197 x8360.toNat 0).1) ((rdD t6190 x8360 z_Row).Cells).length ((H6197 x8360.toNat 0).2)), (iv (((rdD t6190 x8360 z_Row).South).e0)), (iv (((rdD t6190 x8360 z_Row).South).e1)), (iv (((rdD t6190 x8360 z_Row).South).e2)), (iv (((rdD t6190 x8360 z_Row).South).e3)), (iv (((rdD t6190 x8360 z_Row).South).e4)), (iv (((rdD t6190 x8360 z_Row).South).e5)), (iv (((rdD t6190 x8360 z_Row).South).e6)), (iv (((rdD t6190 x8360 z_Row).South).e7)), (iv (((rdD t6190 x8360 z_Row).North).e0)), (iv (((rdD t6190 x8360 z_Row).North).e1)), (iv (((rdD t6190 x8360 z_Row).North).e2)), (iv (((rdD t6190 x8360 z_Row).North).e3)), (iv (((rdD t6190 x8360 z_Row).North).e4)), (iv (((rdD t6190 x8360 z_Row).North).e5)), (iv (((rdD t6190 x8360 z_Row).North).e6)), (iv (((rdD t6190 x8360 z_Row).North).e7)), (iv ((rdD t6190 x8360 z_Row).West)), (iv ((rdD t6190 x8360 z_Row).East))]))] [.idx A6195 x8360 t6190.length, .cell ((adr A6195).add ((x8360).toNat * 19)) (.slice ((H6197 x8360.toNat 0).1) ((rdD t6190 x8360 z_Row).Cells).length ((H6197 x8360.toNat 0).2)), .cell (((adr A6195).add ((x8360).toNat * 19)).add 1) (iv (((rdD t6190 x8360 z_Row).South).e0)), .cell (((adr A6195).add ((x8360).toNat * 19)).add 2) (iv (((rdD t6190 x8360 z_Row).South).e1)), .cell (((adr A6195).add ((x8360).toNat * 19)).add 3) (iv (((rdD t6190 x8360 z_Row).South).e2)), .cell (((adr A6195).add ((x8360).toNat * 19)).add 4) (iv (((rdD t6190 x8360 z_Row).South).e3)), .cell (((adr A6195).add ((x8360).toNat * 19)).add 5) (iv (((rdD t6190 x8360 z_Row).South).e4)), .cell (((adr A6195).add ((x8360).toNat * 19)).add 6) (iv (((rdD t6190 x8360 z_Row).South).e5)), .cell (((adr A6195).add ((x8360).toNat * 19)).add 7) (iv (((rdD t6190 x8360 z_Row).South).e6)), .cell (((adr A6195).add ((x8360).toNat * 19)).add 8) (iv (((rdD t6190 x8360 z_Row).South).e7)), .cell (((adr A6195).add ((x8360).toNat * 19)).add 9) (iv (((rdD t6190 x8360 z_Row).North).e0)), .cell (((adr A6195).add ((x8360).toNat * 19)).add 10) (iv (((rdD t6190 x8360 z_Row).North).e1)), .cell (((adr A6195).add ((x8360).toNat * 19)).add 11) (iv (((rdD t6190 x8360 z_Row).North).e2)), .cell (((adr A6195).add ((x8360).toNat * 19)).add 12) (iv (((rdD t6190 x8360 z_Row).North).e3)), .cell (((adr A6195).add ((x8360).toNat * 19)).add 13) (iv (((rdD t6190 x8360 z_Row).North).e4)), .cell (((adr A6195).add ((x8360).toNat * 19)).add 14) (iv (((rdD t6190 x8360 z_Row).North).e5)), .cell (((adr A6195).add ((x8360).toNat * 19)).add 15) (iv (((rdD t6190 x8360 z_Row).North).e6)), .cell (((adr A6195).add ((x8360).toNat * 19)).add 16) (iv (((rdD t6190 x8360 z_Row).North).e7)), .cell (((adr A6195).add ((x8360).toNat * 19)).add 17) (iv ((rdD t6190 x8360 z_Row).West)), .cell (((adr A6195).add ((x8360).toNat * 19)).add 18) (iv ((rdD t6190 x8360 z_Row).East))] (fun fb => by kernel_rfl) rfl ⟨nrow_adr (rowO.rd (hS8369.own 1).1) h8372.1 h8372.2, nrow_cell (rowO.rd (hS8369.own 1).1) z_Row h8372.1 h8372.2 0 rfl, nrow_cell (rowO.rd (hS8369.own 1).1) z_Row h8372.1 h8372.2 1 rfl, nrow_cell (rowO.rd (hS8369.own 1).1) z_Row h8372.1 h8372.2 2 rfl, nrow_cell (rowO.rd (hS8369.own 1).1) z_Row h8372.1 h8372.2 3 rfl, nrow_cell (rowO.rd (hS8369.own 1).1) z_Row h8372.1 h8372.2 4 rfl, nrow_cell (rowO.rd (hS8369.own 1).1) z_Row h8372.1 h8372.2 5 rfl, nrow_cell (rowO.rd (hS8369.own 1).1) z_Row h8372.1 h8372.2 6 rfl, nrow_cell (rowO.rd (hS8369.own 1).1) z_Row h8372.1 h8372.2 7 rfl, nrow_cell (rowO.rd (hS8369.own 1).1) z_Row h8372.1 h8372.2 8 rfl, nrow_cell (rowO.rd (hS8369.own 1).1) z_Row h8372.1 h8372.2 9 rfl, nrow_cell (rowO.rd (hS8369.own 1).1) z_Row h8372.1 h8372.2 10 rfl, nrow_cell (rowO.rd (hS8369.own 1).1) z_Row h8372.1 h8372.2 11 rfl, nrow_cell (rowO.rd (hS8369.own 1).1) z_Row h8372.1 h8372.2 12 rfl, nrow_cell (rowO.rd (hS8369.own 1).1) z_Row h8372.1 h8372.2 13 rfl, nrow_cell (rowO.rd (hS8369.own 1).1) z_Row h8372.1 h8372.2 14 rfl, nrow_cell (rowO.rd (hS8369.own 1).1) z_Row h8372.1 h8372.2 15 rfl, nrow_cell (rowO.rd (hS8369.own 1).1) z_Row h8372.1 h8372.2 16 rfl, nrow_cell (rowO.rd (hS8369.own 1).1) z_Row h8372.1 h8372.2 17 rfl, nrow_cell (rowO.rd (hS8369.own 1).1) z_Row h8372.1 h8372.2 18 rfl, trivial⟩ ?_
          refine WL.new hS8369 18 [] (fun g => (.pointer (some ⟨g, 0, none⟩))) (.cells #[(.slice none 0 0), (iv 0), (iv 0), (iv 0), (iv 0), (iv 0), (iv 0), (iv 0), (iv 0), (iv 0), (iv 0), (iv 0), (iv 0), (iv 0), (iv 0), (iv 0), (iv 0), (iv 0), (iv 0)] 88 (0, 0)) [] (fun fb g => by kernel_rfl) trivial (fun g8373 w8374 hS8375 => ?_)
          refine ⟨trivial, ?_⟩
          refine WL.store hS8375 0 rfl [(0, (.slice ((H6197 x8360.toNat 0).1) ((rdD t6190 x8360 z_Row).Cells).length ((H6197 x8360.toNat 0).2))), (1, (iv (((rdD t6190 x8360 z_Row).South).e0))), (2, (iv (((rdD t6190 x8360 z_Row).South).e1))), (3, (iv (((rdD t6190 x8360 z_Row).South).e2))), (4, (iv (((rdD t6190 x8360 z_Row).South).e3))), (5, (iv (((rdD t6190 x8360 z_Row).South).e4))), (6, (iv (((rdD t6190 x8360 z_Row).South).e5))), (7, (iv (((rdD t6190 x8360 z_Row).South).e6))), (8, (iv (((rdD t6190 x8360 z_Row).South).e7))), (9, (iv (((rdD t6190 x8360 z_Row).North).e0))), (10, (iv (((rdD t6190 x8360 z_Row).North).e1))), (11, (iv (((rdD t6190 x8360 z_Row).North).e2))), (12, (iv (((rdD t6190 x8360 z_Row).North).e3))), (13, (iv (((rdD t6190 x8360 z_Row).North).e4))), (14, (iv (((rdD t6190 x8360 z_Row).North).e5))), (15, (iv (((rdD t6190 x8360 z_Row).North).e6))), (16, (iv (((rdD t6190 x8360 z_Row).North).e7))), (17, (iv ((rdD t6190 x8360 z_Row).West))), (18, (iv ((rdD t6190 x8360 z_Row).East)))] #[(.slice ((H6197 x8360.toNat 0).1) ((rdD t6190 x8360 z_Row).Cells).length ((H6197 x8360.toNat 0).2)), (iv (((rdD t6190 x8360 z_Row).South).e0)), (iv (((rdD t6190 x8360 z_Row).South).e1)), (iv (((rdD t6190 x8360 z_Row).South).e2)), (iv (((rdD t6190 x8360 z_Row).South).e3)), (iv (((rdD t6190 x8360 z_Row).South).e4)), (iv (((rdD t6190 x8360 z_Row).South).e5)), (iv (((rdD t6190 x8360 z_Row).South).e6)), (iv (((rdD t6190 x8360 z_Row).South).e7)), (iv (((rdD t6190 x8360 z_Row).North).e0)), (iv (((rdD t6190 x8360 z_Row).North).e1)), (iv (((rdD t6190 x8360 z_Row).North).e2)), (iv (((rdD t6190 x8360 z_Row).North).e3)), (iv (((rdD t6190 x8360 z_Row).North).e4)), (iv (((rdD t6190 x8360 z_Row).North).e5)), (iv (((rdD t6190 x8360 z_Row).North).e6)), (iv (((rdD t6190 x8360 z_Row).North).e7)), (iv ((rdD t6190 x8360 z_Row).West)), (iv ((rdD t6190 x8360 z_Row).East))] (fun fb => by kernel_rfl) (by kernel_rfl) (by kernel_rfl) [1, 2, 3, 4, 5, 6] (by decide) (by decide) (fun w8377 hS8378 => ?_)
          refine ⟨trivial, ?_⟩
          refine WL.done rfl ?_
          refine WX.next ?_
          refine WC.seq ?_
          obtain ⟨x8394, hx8395, hl8370⟩ := bind_some hl8370
          refine WC.cutN (T := Bool) (fun t => [(6, (pt g6012)), (8, (.slice A6195 t6190.length c6196)), (10, (pt g6202)), (13, (.slice A7831 x7835.2.length c7832)), (15, (pt g7875)), (16, (iv x8242)), (18, (pt g8373)), (74, (.slice A6195 t6190.length c6196)), (75, (iv (t6190.length : Int))), (76, (iv x8360)), (92, (.bool t))]) (fun t w1 => St NoS w w1 [knestO (aggI ints_A8_Int) vB K7830 x7835.1, rowR (encMap A8_Int Bool) A7831 c7832 (tag H7834 x7835.2), mapsO (aggI ints_A8_Int) vB H7834 x7835.2, mapsO (aggI ints_A8_Int) vB ((mget ((rdD t6190 x7798 z_Row).South) zHM K7797).1.2.2) (mget ((rdD t6190 x7798 z_Row).South) [] l7796), rowR (encMap A8_Int Bool) ((mget ((rdD t6190 x7798 z_Row).South) zHM K7797).1.1) ((mget ((rdD t6190 x7798 z_Row).South) zHM K7797).1.2.1) (tag ((mget ((rdD t6190 x7798 z_Row).South) zHM K7797).1.2.2) (mget ((rdD t6190 x7798 z_Row).South) [] l7796)), knestO (aggI ints_A8_Int) vB K7797 l7796, knestO (aggI ints_A8_Int) vB ([] : List (A8_Int × (HM × List (Option (List (A8_Int × Bool)))))) ([] : List (A8_Int × List (Option (List (A8_Int × Bool))))), rowR enc_Tile A_p0 c_p0 p0] [blk g6012 (.cells #[(iv 0), (iv 0), (.slice none 0 0)] 38 (0, 0)), rowO 88 encN_Row A6195 c6196 (tag H6197 t6190), poolO [nestO subN_Row H6197 t6190], blk g6202 (.cells #[(iv p1), (iv p2), (.slice A8238 l8240.length c8239)] 38 (0, 0)), rowO 3 encInt A8238 c8239 l8240, blk g7875 (.cells #[(iv a8241.e0), (iv a8241.e1), (iv a8241.e2), (iv a8241.e3), (iv a8241.e4), (iv a8241.e5), (iv a8241.e6), (iv a8241.e7)] 86 (0, 0)), blk g8373 (.cells #[(.slice ((H6197 x8360.toNat 0).1) ((rdD t6190 x8360 z_Row).Cells).length ((H6197 x8360.toNat 0).2)), (iv (((rdD t6190 x8360 z_Row).South).e0)), (iv (((rdD t6190 x8360 z_Row).South).e1)), (iv (((rdD t6190 x8360 z_Row).South).e2)), (iv (((rdD t6190 x8360 z_Row).South).e3)), (iv (((rdD t6190 x8360 z_Row).South).e4)), (iv (((rdD t6190 x8360 z_Row).South).e5)), (iv (((rdD t6190 x8360 z_Row).South).e6)), (iv (((rdD t6190 x8360 z_Row).South).e7)), (iv (((rdD t6190 x8360 z_Row).North).e0)), (iv (((rdD t6190 x8360 z_Row).North).e1)), (iv (((rdD t6190 x8360 z_Row).North).e2)), (iv (((rdD t6190 x8360 z_Row).North).e3)), (iv (((rdD t6190 x8360 z_Row).North).e4)), (iv (((rdD t6190 x8360 z_Row).North).e5)), (iv (((rdD t6190 x8360 z_Row).North).e6)), (iv (((rdD t6190 x8360 z_Row).North).e7)), (iv ((rdD t6190 x8360 z_Row).West)), (iv ((rdD t6190 x8360 z_Row).East))] 88 (0, 0))] ∧ x8394 = t) (fun Kx8394 => ?_) ?_
          ·
           rcases br_some hx8395 with ⟨h8396, hx8395⟩ | ⟨h8396, hx8395⟩
           ·
            obtain ⟨h8405, hx8395⟩ := as_some hx8395
            obtain ⟨m8406, hm8407, hx8395⟩ := bind_some hx8395
            refine WC.regionD ([(1, ⟨g8373, 1, none⟩, (iv (((rdD t6190 x8360 z_Row).South).e0))), (1, ⟨g8373, 2, none⟩, (iv (((rdD t6190 x8360 z_Row).South).e1))), (1, ⟨g8373, 3, none⟩, (iv (((rdD t6190 x8360 z_Row).South).e2))), (1, ⟨g8373, 4, none⟩, (iv (((rdD t6190 x8360 z_Row).South).e3))), (1, ⟨g8373, 5, none⟩, (iv (((rdD t6190 x8360 z_Row).South).e4))), (1, ⟨g8373, 6, none⟩, (iv (((rdD t6190 x8360 z_Row).South).e5))), (1, ⟨g8373, 7, none⟩, (iv (((rdD t6190 x8360 z_Row).South).e6))), (1, ⟨g8373, 8, none⟩, (iv (((rdD t6190 x8360 z_Row).South).e7))), (2, ⟨g7875, 0, none⟩, (iv a8241.e0)), (2, ⟨g7875, 1, none⟩, (iv a8241.e1)), (2, ⟨g7875, 2, none⟩, (iv a8241.e2)), (2, ⟨g7875, 3, none⟩, (iv a8241.e3)), (2, ⟨g7875, 4, none⟩, (iv a8241.e4)), (2, ⟨g7875, 5, none⟩, (iv a8241.e5)), (2, ⟨g7875, 6, none⟩, (iv a8241.e6)), (2, ⟨g7875, 7, none⟩, (iv a8241.e7)), (8, ((adr A7831).add ((x8242).toNat * 1)), (.map (some (H7834 x8242.toNat)))), (10, ⟨g8373, 9, none⟩, (iv (((rdD t6190 x8360 z_Row).North).e0))), (10, ⟨g8373, 10, none⟩, (iv (((rdD t6190 x8360 z_Row).North).e1))), (10, ⟨g8373, 11, none⟩, (iv (((rdD t6190 x8360 z_Row).North).e2))), (10, ⟨g8373, 12, none⟩, (iv (((rdD t6190 x8360 z_Row).North).e3))), (10, ⟨g8373, 13, none⟩, (iv (((rdD t6190 x8360 z_Row).North).e4))), (10, ⟨g8373, 14, none⟩, (iv (((rdD t6190 x8360 z_Row).North).e5))), (10, ⟨g8373, 15, none⟩, (iv (((rdD t6190 x8360 z_Row).North).e6))), (10, ⟨g8373, 16, none⟩, (iv (((rdD t6190 x8360 z_Row).North).e7)))], [0, 1, 2, 3, 4, 5, 6, 7, 8, 9, 10, 12], [[], [0], [], [0, 1, 2], [0, 1, 2, 3], [0, 1, 2, 3, 4], [0, 1, 2, 3, 4], [0, 1, 2, 3, 4, 5, 6], [0, 1, 2, 3, 4, 5, 6, 7], [0, 1, 2, 3, 4], [0, 1, 2, 3, 4, 9], [0, 1, 2, 3, 4, 5, 6, 7, 8, 9, 10], [0, 1, 2, 3, 4, 5, 6, 7, 8, 9, 10, 11]]) [[0, 1, 2, 3, 4, 5, 6, 7, 8, 9, 10, 11, 12]] (by kernel_rfl) (by kernel_rfl) (NoPanic.seq (NoPanic.block (NoPanic.seq (NoPanic.seq (NoPanic.block (NoPanic.scope (NoPanic.block (NoPanic.seq (NoPanic.seq (NoPanic.block (NoPanic.seq (NoPanic.block (NoPanic.seq (NoPanic.seq (NoPanic.block (NoPanic.seq (NoPanic.scope (NoPanic.body)))))))))))))))))) ?_
            have hS8401 := hS8378.drew
            revert hS8401
            generalize World.drew w8377 = w8400
            intro hS8401
            refine ⟨⟨hS8401.cell 0 rfl 1 rfl, hS8401.cell 0 rfl 2 rfl, hS8401.cell 0 rfl 3 rfl, hS8401.cell 0 rfl 4 rfl, hS8401.cell 0 rfl 5 rfl, hS8401.cell 0 rfl 6 rfl, hS8401.cell 0 rfl 7 rfl, hS8401.cell 0 rfl 8 rfl, hS8401.cell 6 rfl 0 rfl, hS8401.cell 6 rfl 1 rfl, hS8401.cell 6 rfl 2 rfl, hS8401.cell 6 rfl 3 rfl, hS8401.cell 6 rfl 4 rfl, hS8401.cell 6 rfl 5 rfl, hS8401.cell 6 rfl 6 rfl, hS8401.cell 6 rfl 7 rfl, nrow_cell (hS8401.rd 1).1 none h8405.1 h8405.2 0 (mapV_some hm8407), hS8401.cell 0 rfl 9 rfl, hS8401.cell 0 rfl 10 rfl, hS8401.cell 0 rfl 11 rfl, hS8401.cell 0 rfl 12 rfl, hS8401.cell 0 rfl 13 rfl, hS8401.cell 0 rfl 14 rfl, hS8401.cell 0 rfl 15 rfl, hS8401.cell 0 rfl 16 rfl, trivial⟩, forallC ?_ (forallN)⟩
            refine segF 5 [.v (iv (((rdD t6190 x8360 z_Row).South).e0)), .v (iv (((rdD t6190 x8360 z_Row).South).e1)), .v (iv (((rdD t6190 x8360 z_Row).South).e2)), .v (iv (((rdD t6190 x8360 z_Row).South).e3)), .v (iv (((rdD t6190 x8360 z_Row).South).e4)), .v (iv (((rdD t6190 x8360 z_Row).South).e5)), .v (iv (((rdD t6190 x8360 z_Row).South).e6)), .v (iv (((rdD t6190 x8360 z_Row).South).e7)), .v (iv a8241.e0), .v (iv a8241.e1), .v (iv a8241.e2), .v (iv a8241.e3), .v (iv a8241.e4), .v (iv a8241.e5), .v (iv a8241.e6), .v (iv a8241.e7)] [6, 8, 10, 13, 15, 16, 18, 74, 75, 76, 84] [(6, (pt g6012)), (8, (.slice A6195 t6190.length c6196)), (10, (pt g6202)), (13, (.slice A7831 x7835.2.length c7832)), (15, (pt g7875)), (16, (iv x8242)), (18, (pt g8373)), (74, (.slice A6195 t6190.length c6196)), (75, (iv (t6190.length : Int))), (76, (iv x8360)), (84, (.bool ((((rdD t6190 x8360 z_Row).South).e0) == a8241.e0 && ((((rdD t6190 x8360 z_Row).South).e1) == a8241.e1 && ((((rdD t6190 x8360 z_Row).South).e2) == a8241.e2 && ((((rdD t6190 x8360 z_Row).South).e3) == a8241.e3 && ((((rdD t6190 x8360 z_Row).South).e4) == a8241.e4 && ((((rdD t6190 x8360 z_Row).South).e5) == a8241.e5 && ((((rdD t6190 x8360 z_Row).South).e6) == a8241.e6 && ((((rdD t6190 x8360 z_Row).South).e7) == a8241.e7))))))))))] [] [0, 1, 2, 3, 4, 5, 6, 7, 8, 9, 10, 11, 12, 13, 14, 15] [(1, ⟨g8373, 1, none⟩, (iv (((rdD t6190 x8360 z_Row).South).e0))), (1, ⟨g8373, 2, none⟩, (iv (((rdD t6190 x8360 z_Row).South).e1))), (1, ⟨g8373, 3, none⟩, (iv (((rdD t6190 x8360 z_Row).South).e2))), (1, ⟨g8373, 4, none⟩, (iv (((rdD t6190 x8360 z_Row).South).e3))), (1, ⟨g8373, 5, none⟩, (iv (((rdD t6190 x8360 z_Row).South).e4))), (1, ⟨g8373, 6, none⟩, (iv (((rdD t6190 x8360 z_Row).South).e5))), (1, ⟨g8373, 7, none⟩, (iv (((rdD t6190 x8360 z_Row).South).e6))), (1, ⟨g8373, 8, none⟩, (iv (((rdD t6190 x8360 z_Row).South).e7))), (2, ⟨g7875, 0, none⟩, (iv a8241.e0)), (2, ⟨g7875, 1, none⟩, (iv a8241.e1)), (2, ⟨g7875, 2, none⟩, (iv a8241.e2)), (2, ⟨g7875, 3, none⟩, (iv a8241.e3)), (2, ⟨g7875, 4, none⟩, (iv a8241.e4)), (2, ⟨g7875, 5, none⟩, (iv a8241.e5)), (2, ⟨g7875, 6, none⟩, (iv a8241.e6)), (2, ⟨g7875, 7, none⟩, (iv a8241.e7))] (fun fb => by kernel_rfl) rfl trivial rfl ?_
            refine WL.setB 84 h8396 rfl ?_
            refine segF 11 [.v (.map (some (H7834 x8242.toNat))), .v (iv (((rdD t6190 x8360 z_Row).North).e0)), .v (iv (((rdD t6190 x8360 z_Row).North).e1)), .v (iv (((rdD t6190 x8360 z_Row).North).e2)), .v (iv (((rdD t6190 x8360 z_Row).North).e3)), .v (iv (((rdD t6190 x8360 z_Row).North).e4)), .v (iv (((rdD t6190 x8360 z_Row).North).e5)), .v (iv (((rdD t6190 x8360 z_Row).North).e6)), .v (iv (((rdD t6190 x8360 z_Row).North).e7))] [6, 8, 10, 13, 15, 16, 18, 74, 75, 76, 84, 88, 90] [(6, (pt g6012)), (8, (.slice A6195 t6190.length c6196)), (10, (pt g6202)), (13, (.slice A7831 x7835.2.length c7832)), (15, (pt g7875)), (16, (iv x8242)), (18, (pt g8373)), (74, (.slice A6195 t6190.length c6196)), (75, (iv (t6190.length : Int))), (76, (iv x8360)), (84, (.bool true)), (88, (.map (some (H7834 x8242.toNat)))), (90, (.agg #[(iv (((rdD t6190 x8360 z_Row).North).e0)), (iv (((rdD t6190 x8360 z_Row).North).e1)), (iv (((rdD t6190 x8360 z_Row).North).e2)), (iv (((rdD t6190 x8360 z_Row).North).e3)), (iv (((rdD t6190 x8360 z_Row).North).e4)), (iv (((rdD t6190 x8360 z_Row).North).e5)), (iv (((rdD t6190 x8360 z_Row).North).e6)), (iv (((rdD t6190 x8360 z_Row).North).e7))]))] [.idx A7831 x8242 x7835.2.length] [16, 17, 18, 19, 20, 21, 22, 23, 24] [(8, ((adr A7831).add ((x8242).toNat * 1)), (.map (some (H7834 x8242.toNat)))), (10, ⟨g8373, 9, none⟩, (iv (((rdD t6190 x8360 z_Row).North).e0))), (10, ⟨g8373, 10, none⟩, (iv (((rdD t6190 x8360 z_Row).North).e1))), (10, ⟨g8373, 11, none⟩, (iv (((rdD t6190 x8360 z_Row).North).e2))), (10, ⟨g8373, 12, none⟩, (iv (((rdD t6190 x8360 z_Row).North).e3))), (10, ⟨g8373, 13, none⟩, (iv (((rdD t6190 x8360 z_Row).North).e4))), (10, ⟨g8373, 14, none⟩, (iv (((rdD t6190 x8360 z_Row).North).e5))), (10, ⟨g8373, 15, none⟩, (iv (((rdD t6190 x8360 z_Row).North).e6))), (10, ⟨g8373, 16, none⟩, (iv (((rdD t6190 x8360 z_Row).North).e7)))] (fun fb => by kernel_rfl) rfl ⟨nrow_adr (hS8401.rd 1).1 h8405.1 h8405.2, trivial⟩ rfl ?_
            refine WL.lookup (mapsO.at (hS8401.rd 2).1 h8405.1 h8405.2 hm8407) ((rdD t6190 x8360 z_Row).North) (d := 91) (c := false) (t := 81) (kT := 86) (eT := 4) (z := false) (kE := (aggI ints_A8_Int)) (vE := vB) (l := m8406) (.bool (mget ((rdD t6190 x8360 z_Row).North) false m8406)) (fun fb => by kernel_rfl) torus_find_key86 (by kernel_rfl) (fun _ => by kernel_rfl) rfl ?_
            refine ⟨trivial, ?_⟩
            refine seg 13 [] [6, 8, 10, 13, 15, 16, 18, 74, 75, 76, 92] [(6, (pt g6012)), (8, (.slice A6195 t6190.length c6196)), (10, (pt g6202)), (13, (.slice A7831 x7835.2.length c7832)), (15, (pt g7875)), (16, (iv x8242)), (18, (pt g8373)), (74, (.slice A6195 t6190.length c6196)), (75, (iv (t6190.length : Int))), (76, (iv x8360)), (92, (.bool (mget ((rdD t6190 x8360 z_Row).North) false m8406)))] [] (fun fb => by kernel_rfl) rfl trivial ?_
            refine WL.done rfl ?_
            injection hx8395 with hx8395
            exact WX.to Kx8394 (mget ((rdD t6190 x8360 z_Row).North) false m8406) [6, 8, 10, 13, 15, 16, 18, 74, 75, 76, 92] rfl ⟨(hS8401.subR [0, 1, 2, 3, 4, 5, 6, 7]).sub [1, 2, 3, 4, 5, 6, 0] (by decide), hx8395.symm⟩
           refine WC.regionD ([(1, ⟨g8373, 1, none⟩, (iv (((rdD t6190 x8360 z_Row).South).e0))), (1, ⟨g8373, 2, none⟩, (iv (((rdD t6190 x8360 z_Row).South).e1))), (1, ⟨g8373, 3, none⟩, (iv (((rdD t6190 x8360 z_Row).South).e2))), (1, ⟨g8373, 4, none⟩, (iv (((rdD t6190 x8360 z_Row).South).e3))), (1, ⟨g8373, 5, none⟩, (iv (((rdD t6190 x8360 z_Row).South).e4))), (1, ⟨g8373, 6, none⟩, (iv (((rdD t6190 x8360 z_Row).South).e5))), (1, ⟨g8373, 7, none⟩, (iv (((rdD t6190 x8360 z_Row).South).e6))), (1, ⟨g8373, 8, none⟩, (iv (((rdD t6190 x8360 z_Row).South).e7))), (2, ⟨g7875, 0, none⟩, (iv a8241.e0)), (2, ⟨g7875, 1, none⟩, (iv a8241.e1)), (2, ⟨g7875, 2, none⟩, (iv a8241.e2)), (2, ⟨g7875, 3, none⟩, (iv a8241.e3)), (2, ⟨g7875, 4, none⟩, (iv a8241.e4)), (2, ⟨g7875, 5, none⟩, (iv a8241.e5)), (2, ⟨g7875, 6, none⟩, (iv a8241.e6)), (2, ⟨g7875, 7, none⟩, (iv a8241.e7))], [0, 1, 2, 3, 4, 5, 6, 7, 8, 9, 10, 12], [[], [0], [], [0, 1, 2], [0, 1, 2, 3], [0, 1, 2, 3, 4], [0, 1, 2, 3, 4], [0, 1, 2, 3, 4, 5, 6], [0, 1, 2, 3, 4, 5, 6, 7], [0, 1, 2, 3, 4], [0, 1, 2, 3, 4, 9], [0, 1, 2, 3, 4, 5, 6, 7, 8, 9, 10], [0, 1, 2, 3, 4, 5, 6, 7, 8, 9, 10, 11]]) [[0, 1, 2, 3, 4, 5, 6, 7, 8, 9, 10, 11, 12]] (by kernel_rfl) (by kernel_rfl) (NoPanic.seq (NoPanic.block (NoPanic.seq (NoPanic.seq (NoPanic.block (NoPanic.scope (NoPanic.block (NoPanic.seq (NoPanic.seq (NoPanic.block (NoPanic.seq (NoPanic.block (NoPanic.seq (NoPanic.seq (NoPanic.block (NoPanic.seq (NoPanic.scope (NoPanic.body)))))))))))))))))) ?_
           have hS8409 := hS8378.drew
           revert hS8409
           generalize World.drew w8377 = w8408
           intro hS8409
           refine ⟨⟨hS8409.cell 0 rfl 1 rfl, hS8409.cell 0 rfl 2 rfl, hS8409.cell 0 rfl 3 rfl, hS8409.cell 0 rfl 4 rfl, hS8409.cell 0 rfl 5 rfl, hS8409.cell 0 rfl 6 rfl, hS8409.cell 0 rfl 7 rfl, hS8409.cell 0 rfl 8 rfl, hS8409.cell 6 rfl 0 rfl, hS8409.cell 6 rfl 1 rfl, hS8409.cell 6 rfl 2 rfl, hS8409.cell 6 rfl 3 rfl, hS8409.cell 6 rfl 4 rfl, hS8409.cell 6 rfl 5 rfl, hS8409.cell 6 rfl 6 rfl, hS8409.cell 6 rfl 7 rfl, trivial⟩, forallC ?_ (forallN)⟩
           refine segF 5 [.v (iv (((rdD t6190 x8360 z_Row).South).e0)), .v (iv (((rdD t6190 x8360 z_Row).South).e1)), .v (iv (((rdD t6190 x8360 z_Row).South).e2)), .v (iv (((rdD t6190 x8360 z_Row).South).e3)), .v (iv (((rdD t6190 x8360 z_Row).South).e4)), .v (iv (((rdD t6190 x8360 z_Row).South).e5)), .v (iv (((rdD t6190 x8360 z_Row).South).e6)), .v (iv (((rdD t6190 x8360 z_Row).South).e7)), .v (iv a8241.e0), .v (iv a8241.e1), .v (iv a8241.e2), .v (iv a8241.e3), .v (iv a8241.e4), .v (iv a8241.e5), .v (iv a8241.e6), .v (iv a8241.e7)] [6, 8, 10, 13, 15, 16, 18, 74, 75, 76, 84] [(6, (pt g6012)), (8, (.slice A6195 t6190.length c6196)), (10, (pt g6202)), (13, (.slice A7831 x7835.2.length c7832)), (15, (pt g7875)), (16, (iv x8242)), (18, (pt g8373)), (74, (.slice A6195 t6190.length c6196)), (75, (iv (t6190.length : Int))), (76, (iv x8360)), (84, (.bool ((((rdD t6190 x8360 z_Row).South).e0) == a8241.e0 && ((((rdD t6190 x8360 z_Row).South).e1) == a8241.e1 && ((((rdD t6190 x8360 z_Row).South).e2) == a8241.e2 && ((((rdD t6190 x8360 z_Row).South).e3) == a8241.e3 && ((((rdD t6190 x8360 z_Row).South).e4) == a8241.e4 && ((((rdD t6190 x8360 z_Row).South).e5) == a8241.e5 && ((((rdD t6190 x8360 z_Row).South).e6) == a8241.e6 && ((((rdD t6190 x8360 z_Row).South).e7) == a8241.e7))))))))))] [] [0, 1, 2, 3, 4, 5, 6, 7, 8, 9, 10, 11, 12, 13, 14, 15] [(1, ⟨g8373, 1, none⟩, (iv (((rdD t6190 x8360 z_Row).South).e0))), (1, ⟨g8373, 2, none⟩, (iv (((rdD t6190 x8360 z_Row).South).e1))), (1, ⟨g8373, 3, none⟩, (iv (((rdD t6190 x8360 z_Row).South).e2))), (1, ⟨g8373, 4, none⟩, (iv (((rdD t6190 x8360 z_Row).South).e3))), (1, ⟨g8373, 5, none⟩, (iv (((rdD t6190 x8360 z_Row).South).e4))), (1, ⟨g8373, 6, none⟩, (iv (((rdD t6190 x8360 z_Row).South).e5))), (1, ⟨g8373, 7, none⟩, (iv (((rdD t6190 x8360 z_Row).South).e6))), (1, ⟨g8373, 8, none⟩, (iv (((rdD t6190 x8360 z_Row).South).e7))), (2, ⟨g7875, 0, none⟩, (iv a8241.e0)), (2, ⟨g7875, 1, none⟩, (iv a8241.e1)), (2, ⟨g7875, 2, none⟩, (iv a8241.e2)), (2, ⟨g7875, 3, none⟩, (iv a8241.e3)), (2, ⟨g7875, 4, none⟩, (iv a8241.e4)), (2, ⟨g7875, 5, none⟩, (iv a8241.e5)), (2, ⟨g7875, 6, none⟩, (iv a8241.e6)), (2, ⟨g7875, 7, none⟩, (iv a8241.e7))] (fun fb => by kernel_rfl) rfl trivial rfl ?_
           refine WL.setB 84 h8396 rfl ?_
           refine seg 13 [] [6, 8, 10, 13, 15, 16, 18, 74, 75, 76, 92] [(6, (pt g6012)), (8, (.slice A6195 t6190.length c6196)), (10, (pt g6202)), (13, (.slice A7831 x7835.2.length c7832)), (15, (pt g7875)), (16, (iv x8242)), (18, (pt g8373)), (74, (.slice A6195 t6190.length c6196)), (75, (iv (t6190.length : Int))), (76, (iv x8360)), (92, (.bool false))] [] (fun fb => by kernel_rfl) rfl trivial ?_
           refine WL.done rfl ?_
           injection hx8395 with hx8395
           exact WX.to Kx8394 false [6, 8, 10, 13, 15, 16, 18, 74, 75, 76, 92] rfl ⟨(hS8409.subR [0, 1, 2, 3, 4, 5, 6, 7]).sub [1, 2, 3, 4, 5, 6, 0] (by decide), hx8395.symm⟩
          rintro y8413 w8410 ⟨hS8411, hq8412⟩
          subst hq8412
          refine WX.next ?_
          rcases br_some hl8370 with ⟨h8414, hl8370⟩ | ⟨h8414, hl8370⟩
          ·refine WC.condT2 (fun fb => by kernel_rfl) h8414 ?_
           refine WC.seq ?_
           refine WC.region ?_
           refine seg 4 [.v (.slice A8238 l8240.length c8239), .v (.slice ((H6197 x8360.toNat 0).1) ((rdD t6190 x8360 z_Row).Cells).length ((H6197 x8360.toNat 0).2))] [6, 8, 10, 13, 15, 16, 18, 94, 96] [(6, (pt g6012)), (8, (.slice A6195 t6190.length c6196)), (10, (pt g6202)), (13, (.slice A7831 x7835.2.length c7832)), (15, (pt g7875)), (16, (iv x8242)), (18, (pt g8373)), (94, (.slice A8238 l8240.length c8239)), (96, (.slice ((H6197 x8360.toNat 0).1) ((rdD t6190 x8360 z_Row).Cells).length ((H6197 x8360.toNat 0).2)))] [.cell ⟨g6202, 2, none⟩ (.slice A8238 l8240.length c8239), .cell ⟨g8373, 0, none⟩ (.slice ((H6197 x8360.toNat 0).1) ((rdD t6190 x8360 z_Row).Cells).length ((H6197 x8360.toNat 0).2))] (fun fb => by kernel_rfl) rfl ⟨hS8411.cell 3 rfl 2 rfl, hS8411.cell 6 rfl 0 rfl, trivial⟩ ?_
           obtain ⟨h8415, hl8370⟩ := as_some hl8370
           refine WL.append hS8411 4 (d := 97) (tS := 36) (z := (iv 0)) (bytes := 8) (c2 := (H6197 x8360.toNat 0).2) rfl (fun fb => by kernel_rfl) (nestO.at ((hS8411.own 2).1 0) z_Row h8372.1 h8372.2) (by kernel_rfl) (by kernel_rfl) rfl (by decide) h8415 (by decide) [0, 1, 2, 3, 5, 6] (by decide) (by decide) (fun A8416 c8417 w8418 hS8419 => ?_)
           refine ⟨trivial, ?_⟩
           refine seg 6 [] [6, 8, 10, 13, 15, 16, 18, 97, 98] [(6, (pt g6012)), (8, (.slice A6195 t6190.length c6196)), (10, (pt g6202)), (13, (.slice A7831 x7835.2.length c7832)), (15, (pt g7875)), (16, (iv x8242)), (18, (pt g8373)), (97, (.slice A8416 (l8240 ++ ((rdD t6190 x8360 z_Row).Cells)).length c8417)), (98, (.pointer (some ⟨g6202, 2, none⟩)))] [] (fun fb => by kernel_rfl) rfl trivial ?_
           refine WL.store hS8419 4 rfl [(2, (.slice A8416 (l8240 ++ ((rdD t6190 x8360 z_Row).Cells)).length c8417))] #[(iv p1), (iv p2), (.slice A8416 (l8240 ++ ((rdD t6190 x8360 z_Row).Cells)).length c8417)] (fun fb => by kernel_rfl) (by kernel_rfl) rfl [0, 1, 2, 3, 5, 6] (by decide) (by decide) (fun w8420 hS8421 => ?_)
           refine ⟨trivial, ?_⟩
           refine WL.done rfl ?_
           refine WX.next ?_
           refine WC.seq ?_
           refine WC.region ?_
           refine seg 2 [.v (iv (((rdD t6190 x8360 z_Row).North).e0)), .v (iv (((rdD t6190 x8360 z_Row).North).e1)), .v (iv (((rdD t6190 x8360 z_Row).North).e2)), .v (iv (((rdD t6190 x8360 z_Row).North).e3)), .v (iv (((rdD t6190 x8360 z_Row).North).e4)), .v (iv (((rdD t6190 x8360 z_Row).North).e5)), .v (iv (((rdD t6190 x8360 z_Row).North).e6)), .v (iv (((rdD t6190 x8360 z_Row).North).e7))] [6, 8, 10, 13, 15, 16, 100] [(6, (pt g6012)), (8, (.slice A6195 t6190.length c6196)), (10, (pt g6202)), (13, (.slice A7831 x7835.2.length c7832)), (15, (pt g7875)), (16, (iv x8242)), (100, (.agg #[(iv (((rdD t6190 x8360 z_Row).North).e0)), (iv (((rdD t6190 x8360 z_Row).North).e1)), (iv (((rdD t6190 x8360 z_Row).North).e2)), (iv (((rdD t6190 x8360 z_Row).North).e3)), (iv (((rdD t6190 x8360 z_Row).North).e4)), (iv (((rdD t6190 x8360 z_Row).North).e5)), (iv (((rdD t6190 x8360 z_Row).North).e6)), (iv (((rdD t6190 x8360 z_Row).North).e7))]))] [.cell ⟨g8373, 9, none⟩ (iv (((rdD t6190 x8360 z_Row).North).e0)), .cell ⟨g8373, 10, none⟩ (iv (((rdD t6190 x8360 z_Row).North).e1)), .cell ⟨g8373, 11, none⟩ (iv (((rdD t6190 x8360 z_Row).North).e2)), .cell ⟨g8373, 12, none⟩ (iv (((rdD t6190 x8360 z_Row).North).e3)), .cell ⟨g8373, 13, none⟩ (iv (((rdD t6190 x8360 z_Row).North).e4)), .cell ⟨g8373, 14, none⟩ (iv (((rdD t6190 x8360 z_Row).North).e5)), .cell ⟨g8373, 15, none⟩ (iv (((rdD t6190 x8360 z_Row).North).e6)), .cell ⟨g8373, 16, none⟩ (iv (((rdD t6190 x8360 z_Row).North).e7))] (fun fb => by kernel_rfl) rfl ⟨hS8421.cell 6 rfl 9 rfl, hS8421.cell 6 rfl 10 rfl, hS8421.cell 6 rfl 11 rfl, hS8421.cell 6 rfl 12 rfl, hS8421.cell 6 rfl 13 rfl, hS8421.cell 6 rfl 14 rfl, hS8421.cell 6 rfl 15 rfl, hS8421.cell 6 rfl 16 rfl, trivial⟩ ?_
           refine WL.store hS8421 5 rfl [(0, (iv (((rdD t6190 x8360 z_Row).North).e0))), (1, (iv (((rdD t6190 x8360 z_Row).North).e1))), (2, (iv (((rdD t6190 x8360 z_Row).North).e2))), (3, (iv (((rdD t6190 x8360 z_Row).North).e3))), (4, (iv (((rdD t6190 x8360 z_Row).North).e4))), (5, (iv (((rdD t6190 x8360 z_Row).North).e5))), (6, (iv (((rdD t6190 x8360 z_Row).North).e6))), (7, (iv (((rdD t6190 x8360 z_Row).North).e7)))] #[(iv (((rdD t6190 x8360 z_Row).North).e0)), (iv (((rdD t6190 x8360 z_Row).North).e1)), (iv (((rdD t6190 x8360 z_Row).North).e2)), (iv (((rdD t6190 x8360 z_Row).North).e3)), (iv (((rdD t6190 x8360 z_Row).North).e4)), (iv (((rdD t6190 x8360 z_Row).North).e5)), (iv (((rdD t6190 x8360 z_Row).North).e6)), (iv (((rdD t6190 x8360 z_Row).North).e7))] (fun fb => by kernel_rfl) (by kernel_rfl) rfl [0, 1, 2, 3, 4, 6] (by decide) (by decide) (fun w8422 hS8423 => ?_)
           refine ⟨trivial, ?_⟩
           refine WL.done rfl ?_
           refine WX.next ?_
           refine WC.exit ?_
           injection hl8370 with hl8370
           exact WX.blockPast (by decide) (WX.thenX (WX.thenX (WX.blockHere (WX.to Kx8365 ((l8240 ++ ((rdD t6190 x8360 z_Row).Cells), ((rdD t6190 x8360 z_Row).North)), A8416, c8417) [6, 8, 10, 13, 15, 16] rfl ⟨(hS8423.subR [0, 1, 2, 3, 4, 5, 6, 7]).sub [3, 4, 5, 1, 2, 0] (by decide), hl8370.symm⟩))))
          refine WC.condF2 (fun fb => by kernel_rfl) h8414 ?_
          refine WC.skip ?_
          refine WX.blockN (WX.next ?_)
          refine WC.region ?_
          refine seg 2 [] [6, 8, 10, 13, 15, 16, 74, 75, 76] [(6, (pt g6012)), (8, (.slice A6195 t6190.length c6196)), (10, (pt g6202)), (13, (.slice A7831 x7835.2.length c7832)), (15, (pt g7875)), (16, (iv x8242)), (74, (.slice A6195 t6190.length c6196)), (75, (iv (t6190.length : Int))), (76, (iv (w64 (x8360 + 1))))] [] (fun fb => by kernel_rfl) rfl trivial ?_
          refine WL.done rfl ?_
          exact WX.again k8367 (Nat.lt_succ_self _) (w64 (x8360 + 1)) [6, 8, 10, 13, 15, 16, 74, 75, 76] rfl ⟨(hS8411.subR [0, 1, 2, 3, 4, 5, 6, 7]).sub [0, 1, 2, 3, 4, 5] (by decide), hl8370⟩
         refine WC.condF2 (fun fb => by kernel_rfl) h8371 ?_
         refine WC.exit ?_
         injection hl8370 with hl8370
         exact WX.thenX (WX.thenX (WX.blockHere (WX.to Kx8365 ((l8240, a8241), A8238, c8239) [6, 8, 10, 13, 15, 16] rfl ⟨(hS8369.subR [0, 1, 2, 3, 4, 5, 6, 7]).sub [0, 1, 2, 3, 4, 5] (by decide), hl8370.symm⟩)))
       rintro ⟨y8427, A8361, c8362⟩ w8424 ⟨hS8425, hq8426⟩
       subst hq8426
       refine WX.scopeN (WX.blockN (WX.next ?_))
       refine WC.region ?_
       refine seg 3 [] [6, 8, 10, 13, 15, 16] [(6, (pt g6012)), (8, (.slice A6195 t6190.length c6196)), (10, (pt g6202)), (13, (.slice A7831 x7835.2.length c7832)), (15, (pt g7875)), (16, (iv (w64 (x8242 - 1))))] [] (fun fb => by kernel_rfl) rfl trivial ?_
       refine WL.done rfl ?_
       exact WX.again k8248 (Nat.lt_succ_self _) ((x8365.1, x8365.2, w64 (x8242 - 1)), A8361, c8362) [6, 8, 10, 13, 15, 16] rfl ⟨(hS8425.subR [0, 1, 2, 3, 4, 5, 6, 7]).sub [0, 1, 2, 3, 4, 5] (by decide), hl8251⟩
      refine WC.condF2 (fun fb => by kernel_rfl) h8252 ?_
      refine WC.exit ?_
      injection hl8251 with hl8251
      exact WX.thenX (WX.thenX (WX.blockHere (WX.to Kx8246 (l8240, A8238, c8239) [6, 10] rfl ⟨(hS8250.subR [0, 1, 2, 3, 4, 5, 6, 7]).sub [0, 3, 4] (by decide), hl8251.symm⟩)))
    rintro ⟨y8431, A8243, c8244⟩ w8428 ⟨hS8429, hq8430⟩
    subst hq8430
    refine WX.next ?_
    refine WC.seq ?_
    refine WC.region ?_
    refine seg 1 [.v (iv p1), .v (iv p2), .v (.slice A8243 x8246.length c8244)] [6, 102] [(6, (pt g6012)), (102, (.agg #[(iv p1), (iv p2), (.slice A8243 x8246.length c8244)]))] [.cell ⟨g6202, 0, none⟩ (iv p1), .cell ⟨g6202, 1, none⟩ (iv p2), .cell ⟨g6202, 2, none⟩ (.slice A8243 x8246.length c8244)] (fun fb => by kernel_rfl) rfl ⟨hS8429.cell 1 rfl 0 rfl, hS8429.cell 1 rfl 1 rfl, hS8429.cell 1 rfl 2 rfl, trivial⟩ ?_
    refine WL.store hS8429 0 rfl [(0, (iv p1)), (1, (iv p2)), (2, (.slice A8243 x8246.length c8244))] #[(iv p1), (iv p2), (.slice A8243 x8246.length c8244)] (fun fb => by kernel_rfl) (by kernel_rfl) rfl [1, 2] (by decide) (by decide) (fun w8432 hS8433 => ?_)
    refine ⟨trivial, ?_⟩
    refine seg 3 [] [6, 7] [(6, (pt g6012)), (7, (.bool true))] [] (fun fb => by kernel_rfl) rfl trivial ?_
    refine WL.done rfl ?_
    refine WX.next ?_
    refine WC.ret ?_
    injection hl7804 with hl7804
    subst hl7804
    injection hf with hf
    subst hf
    exact WX.blockR (WX.thenR (WX.thenR (WX.blockR (WX.thenR (WX.scopeR (WX.ret_ [.v (iv p1), .v (iv p2), .v (.slice A8243 x8246.length c8244)] (.tuple #[(.agg #[(iv p1), (iv p2), (.slice A8243 x8246.length c8244)]), (.bool true)]) [.cell ⟨g6012, 0, none⟩ (iv p1), .cell ⟨g6012, 1, none⟩ (iv p2), .cell ⟨g6012, 2, none⟩ (.slice A8243 x8246.length c8244)] (fun fb => by kernel_rfl) ⟨hS8433.cell 0 rfl 0 rfl, hS8433.cell 0 rfl 1 rfl, hS8433.cell 0 rfl 2 rfl, trivial⟩ ⟨_, rfl, A8243, c8244, rfl, (hS8433.sub [2] (by decide)).noR⟩))))))
   refine WC.condF2 (fun fb => by kernel_rfl) h7805 ?_
   refine WC.exit ?_
   injection hl7804 with hl7804
   exact WX.thenX (WX.thenX (WX.blockHere (WX.to Kx7799 () [6] rfl ⟨(hS7803.subR [1, 2]).sub [0] (by decide), hl7804.symm⟩)))
 rintro y8437 w8434 ⟨hS8435, hq8436⟩
 subst hq8436
 have hf := sum_inr hf
 refine WX.next ?_
 refine WC.seq ?_
 refine WC.region ?_
 refine seg 1 [] [6, 104] [(6, (pt g6012)), (104, (.agg #[(iv 0), (iv 0), (.slice none 0 0)]))] [] (fun fb => by kernel_rfl) rfl trivial ?_
 refine WL.store hS8435 0 rfl [(0, (iv 0)), (1, (iv 0)), (2, (.slice none 0 0))] #[(iv 0), (iv 0), (.slice none 0 0)] (fun fb => by kernel_rfl) (by kernel_rfl) rfl [] (by decide) (by decide) (fun w8439 hS8440 => ?_)
 refine ⟨trivial, ?_⟩
 refine seg 3 [] [6, 7] [(6, (pt g6012)), (7, (.bool false))] [] (fun fb => by kernel_rfl) rfl trivial ?_
 refine WL.done rfl ?_
 refine WX.next ?_
 refine WC.ret ?_
 have hS8441 := hS8440.nilrow 3 encInt
 injection hf with hf
 subst hf
 exact WX.scopeR (WX.ret_ [.v (iv 0), .v (iv 0), .v (.slice none 0 0)] (.tuple #[(.agg #[(iv 0), (iv 0), (.slice none ([] : List Int).length 0)]), (.bool false)]) [.cell ⟨g6012, 0, none⟩ (iv 0), .cell ⟨g6012, 1, none⟩ (iv 0), .cell ⟨g6012, 2, none⟩ (.slice none 0 0)] (fun fb => by kernel_rfl) ⟨hS8440.cell 0 rfl 0 rfl, hS8440.cell 0 rfl 1 rfl, hS8440.cell 0 rfl 2 rfl, trivial⟩ ⟨_, rfl, none, 0, rfl, (hS8441.sub [0] (by decide)).noR⟩)
theorem torus_Least_calls (k : Nat) (p0 : List Tile) (p1 : Int) (A_p0 : Option Addr) (c_p0 : Nat) (r : Pattern × Int) (w : World) (hR0 : RO NoS w (rowR enc_Tile A_p0 c_p0 p0)) (hf : torus_Least k p0 p1 = some r) :
  CallsR Try.prog 25 #[(.slice A_p0 p0.length c_p0), (iv p1)] w (fun v w' => ∃ (A1_ : Option Addr), ∃ (c1_ : Nat), v = (.tuple #[(.agg #[(iv r.1.Width), (iv r.1.Height), (.slice A1_ r.1.Cells.length c1_)]), (iv r.2)]) ∧ St NoS w w' [] [rowO 3 encInt A1_ c1_ r.1.Cells]) := by
 have hS : St NoS w w [rowR enc_Tile A_p0 c_p0 p0] [] := St.init (ro_cons hR0 (ro_nil _ _))
 refine enter 61 Try.func25 rfl Try.ntmps25 rfl ?_
 unfold torus_Least at hf
 refine WC.seq ?_
 refine WC.region ?_
 refine WL.new hS 4 [] (fun g => (.pointer (some ⟨g, 0, none⟩))) (.cells #[(iv 0), (iv 0), (.slice none 0 0)] 38 (0, 0)) [] (fun fb g => by kernel_rfl) trivial (fun g5979 w5980 hS5981 => ?_)
 refine ⟨trivial, ?_⟩
 refine seg 2 [] [0, 1, 4] [(0, (.slice A_p0 p0.length c_p0)), (1, (iv p1)), (4, (pt g5979))] [] (fun fb => by kernel_rfl) rfl trivial ?_
 refine WL.done rfl ?_
 refine WX.next ?_
 refine WC.seq ?_
 refine WC.seq ?_
 refine WC.region ?_
 refine seg 1 [] [0, 1, 4, 10] [(0, (.slice A_p0 p0.length c_p0)), (1, (iv p1)), (4, (pt g5979)), (10, (.slice A_p0 p0.length c_p0))] [] (fun fb => by kernel_rfl) rfl trivial ?_
 obtain ⟨t5983, ht5984, hf⟩ := bind_some hf
 refine WL.call (some 11) 38 #[(.slice A_p0 p0.length c_p0)] (fun fb => by kernel_rfl) (tile_Valid_calls _ p0 A_p0 c_p0 t5983 _ (hS5981.rd 0) ht5984) (fun v w5985 hR5986 => ?_)
 obtain ⟨rfl, hk_⟩ := hR5986
 have hS5987 := hS5981.keepN hk_
 refine ⟨trivial, ?_⟩
 refine seg 3 [] [0, 1, 4, 12] [(0, (.slice A_p0 p0.length c_p0)), (1, (iv p1)), (4, (pt g5979)), (12, (.bool (!t5983)))] [] (fun fb => by kernel_rfl) rfl trivial ?_
 refine WL.done rfl ?_
 refine WX.next ?_
 rcases br_some hf with ⟨h5988, hf⟩ | ⟨h5988, hf⟩
 ·refine WC.condT2 (fun fb => by kernel_rfl) h5988 ?_
  refine WC.seq ?_
  refine WC.region ?_
  refine seg 1 [] [4, 13] [(4, (pt g5979)), (13, (.agg #[(iv 0), (iv 0), (.slice none 0 0)]))] [] (fun fb => by kernel_rfl) rfl trivial ?_
  refine WL.store hS5987 0 rfl [(0, (iv 0)), (1, (iv 0)), (2, (.slice none 0 0))] #[(iv 0), (iv 0), (.slice none 0 0)] (fun fb => by kernel_rfl) (by kernel_rfl) rfl [] (by decide) (by decide) (fun w5989 hS5990 => ?_)
  refine ⟨trivial, ?_⟩
  refine seg 3 [] [4, 5] [(4, (pt g5979)), (5, (iv 1))] [] (fun fb => by kernel_rfl) rfl trivial ?_
  refine WL.done rfl ?_
  refine WX.next ?_
  refine WC.ret ?_
  have hS5991 := hS5990.nilrow 3 encInt
  injection hf with hf
  subst hf
  exact WX.thenR (WX.ret_ [.v (iv 0), .v (iv 0), .v (.slice none 0 0)] (.tuple #[(.agg #[(iv 0), (iv 0), (.slice none ([] : List Int).length 0)]), (iv 1)]) [.cell ⟨g5979, 0, none⟩ (iv 0), .cell ⟨g5979, 1, none⟩ (iv 0), .cell ⟨g5979, 2, none⟩ (.slice none 0 0)] (fun fb => by kernel_rfl) ⟨hS5990.cell 0 rfl 0 rfl, hS5990.cell 0 rfl 1 rfl, hS5990.cell 0 rfl 2 rfl, trivial⟩ ⟨_, rfl, none, 0, rfl, (hS5991.sub [0] (by decide)).noR⟩)
 refine WC.condF2 (fun fb => by kernel_rfl) h5988 ?_
 refine WC.skip ?_
 refine WX.next ?_
 refine WC.seq ?_
 refine WC.seq ?_
 refine WC.region ?_
 refine seg 3 [] [0, 1, 4, 16] [(0, (.slice A_p0 p0.length c_p0)), (1, (iv p1)), (4, (pt g5979)), (16, (.bool (decide (p1 < 1))))] [] (fun fb => by kernel_rfl) rfl trivial ?_
 refine WL.cutV (T := Bool) 6 (fun t => [(19, (.bool t)), (0, (.slice A_p0 p0.length c_p0)), (1, (iv p1)), (4, (pt g5979))]) (fun t => ((decide (p1 < 1)) || (decide (p1 > 6))) = t) (fun K => ?_) ?_
 ·
  rcases Bool.eq_false_or_eq_true (decide (p1 < 1)) with h5992 | h5992
  ·
   refine WL.setB 16 h5992 rfl ?_
   refine seg 6 [] [0, 1, 4, 19] [(0, (.slice A_p0 p0.length c_p0)), (1, (iv p1)), (4, (pt g5979)), (19, (.bool true))] [] (fun fb => by kernel_rfl) rfl trivial ?_
   exact WL.toV K true [19, 0, 1, 4] rfl (by first | (rw [h5992]; done) | (rw [h5992]; rfl))
  refine WL.setB 16 h5992 rfl ?_
  refine seg 6 [] [0, 1, 4, 19] [(0, (.slice A_p0 p0.length c_p0)), (1, (iv p1)), (4, (pt g5979)), (19, (.bool (decide (p1 > 6))))] [] (fun fb => by kernel_rfl) rfl trivial ?_
  exact WL.toV K (decide (p1 > 6)) [19, 0, 1, 4] rfl (by first | (rw [h5992]; done) | (rw [h5992]; rfl))
 rintro b5993 rfl
 refine WL.done rfl ?_
 refine WX.next ?_
 rcases br_some hf with ⟨h5994, hf⟩ | ⟨h5994, hf⟩
 ·refine WC.condT2 (fun fb => by kernel_rfl) h5994 ?_
  refine WC.seq ?_
  refine WC.region ?_
  refine seg 1 [] [4, 20] [(4, (pt g5979)), (20, (.agg #[(iv 0), (iv 0), (.slice none 0 0)]))] [] (fun fb => by kernel_rfl) rfl trivial ?_
  refine WL.store hS5987 0 rfl [(0, (iv 0)), (1, (iv 0)), (2, (.slice none 0 0))] #[(iv 0), (iv 0), (.slice none 0 0)] (fun fb => by kernel_rfl) (by kernel_rfl) rfl [] (by decide) (by decide) (fun w5995 hS5996 => ?_)
  refine ⟨trivial, ?_⟩
  refine seg 3 [] [4, 5] [(4, (pt g5979)), (5, (iv 2))] [] (fun fb => by kernel_rfl) rfl trivial ?_
  refine WL.done rfl ?_
  refine WX.next ?_
  refine WC.ret ?_
  have hS5997 := hS5996.nilrow 3 encInt
  injection hf with hf
  subst hf
  exact WX.thenR (WX.ret_ [.v (iv 0), .v (iv 0), .v (.slice none 0 0)] (.tuple #[(.agg #[(iv 0), (iv 0), (.slice none ([] : List Int).length 0)]), (iv 2)]) [.cell ⟨g5979, 0, none⟩ (iv 0), .cell ⟨g5979, 1, none⟩ (iv 0), .cell ⟨g5979, 2, none⟩ (.slice none 0 0)] (fun fb => by kernel_rfl) ⟨hS5996.cell 0 rfl 0 rfl, hS5996.cell 0 rfl 1 rfl, hS5996.cell 0 rfl 2 rfl, trivial⟩ ⟨_, rfl, none, 0, rfl, (hS5997.sub [0] (by decide)).noR⟩)
 refine WC.condF2 (fun fb => by kernel_rfl) h5994 ?_
 refine WC.skip ?_
 refine WX.next ?_
 refine WC.seq ?_
 refine WC.seq ?_
 refine WC.region ?_
 refine seg 2 [] [0, 1, 4, 21, 22] [(0, (.slice A_p0 p0.length c_p0)), (1, (iv p1)), (4, (pt g5979)), (21, (.slice A_p0 p0.length c_p0)), (22, (iv p1))] [] (fun fb => by kernel_rfl) rfl trivial ?_
 obtain ⟨t5998, ht5999, hf⟩ := bind_some hf
 refine WL.call (some 23) 45 #[(.slice A_p0 p0.length c_p0), (iv p1)] (fun fb => by kernel_rfl) (rows_Few_calls _ p0 p1 A_p0 c_p0 t5998 _ (hS5987.rd 0) ht5999) (fun v w6000 hR6001 => ?_)
 obtain ⟨rfl, hk_⟩ := hR6001
 have hS6002 := hS5987.keepN hk_
 refine ⟨trivial, ?_⟩
 refine seg 4 [] [0, 1, 4, 24] [(0, (.slice A_p0 p0.length c_p0)), (1, (iv p1)), (4, (pt g5979)), (24, (.bool (!t5998)))] [] (fun fb => by kernel_rfl) rfl trivial ?_
 refine WL.done rfl ?_
 refine WX.next ?_
 rcases br_some hf with ⟨h6003, hf⟩ | ⟨h6003, hf⟩
 ·refine WC.condT2 (fun fb => by kernel_rfl) h6003 ?_
  refine WC.seq ?_
  refine WC.region ?_
  refine seg 1 [] [4, 25] [(4, (pt g5979)), (25, (.agg #[(iv 0), (iv 0), (.slice none 0 0)]))] [] (fun fb => by kernel_rfl) rfl trivial ?_
  refine WL.store hS6002 0 rfl [(0, (iv 0)), (1, (iv 0)), (2, (.slice none 0 0))] #[(iv 0), (iv 0), (.slice none 0 0)] (fun fb => by kernel_rfl) (by kernel_rfl) rfl [] (by decide) (by decide) (fun w6004 hS6005 => ?_)
  refine ⟨trivial, ?_⟩
  refine seg 3 [] [4, 5] [(4, (pt g5979)), (5, (iv 4))] [] (fun fb => by kernel_rfl) rfl trivial ?_
  refine WL.done rfl ?_
  refine WX.next ?_
  refine WC.ret ?_
  have hS6006 := hS6005.nilrow 3 encInt
  injection hf with hf
  subst hf
  exact WX.thenR (WX.ret_ [.v (iv 0), .v (iv 0), .v (.slice none 0 0)] (.tuple #[(.agg #[(iv 0), (iv 0), (.slice none ([] : List Int).length 0)]), (iv 4)]) [.cell ⟨g5979, 0, none⟩ (iv 0), .cell ⟨g5979, 1, none⟩ (iv 0), .cell ⟨g5979, 2, none⟩ (.slice none 0 0)] (fun fb => by kernel_rfl) ⟨hS6005.cell 0 rfl 0 rfl, hS6005.cell 0 rfl 1 rfl, hS6005.cell 0 rfl 2 rfl, trivial⟩ ⟨_, rfl, none, 0, rfl, (hS6006.sub [0] (by decide)).noR⟩)
 refine WC.condF2 (fun fb => by kernel_rfl) h6003 ?_
 refine WC.skip ?_
 refine WX.next ?_
 refine WC.seq ?_
 refine WC.seq ?_
 refine WC.region ?_
 refine seg 1 [] [0, 1, 4, 6] [(0, (.slice A_p0 p0.length c_p0)), (1, (iv p1)), (4, (pt g5979)), (6, (iv 1))] [] (fun fb => by kernel_rfl) rfl trivial ?_
 refine WL.done rfl ?_
 refine WX.next ?_
 obtain ⟨x8751, hx8752, hf⟩ := bind_some hf
 refine WC.cutN (T := Unit) (fun t => [(4, (pt g5979))]) (fun t w1 => St NoS w w1 [rowR enc_Tile A_p0 c_p0 p0] [blk g5979 (.cells #[(iv 0), (iv 0), (.slice none 0 0)] 38 (0, 0))] ∧ x8751 = .inr t) (fun Kx8751 => ?_) ?_
 ·
  refine WC.block ?_
  refine WC.loop (T := Int) (fun t => [(0, (.slice A_p0 p0.length c_p0)), (1, (iv p1)), (4, (pt g5979)), (6, (iv t))]) (fun n t w1 => St NoS w w1 [rowR enc_Tile A_p0 c_p0 p0] [blk g5979 (.cells #[(iv 0), (iv 0), (.slice none 0 0)] 38 (0, 0))] ∧ torus_Least.l0 n t p0 p1 = some x8751) k 1 [0, 1, 4, 6] rfl ⟨(hS6002.subR [0]).sub [0] (by decide), hx8752⟩ ?_
  rintro k8753 x8750 w8754 ⟨hS8755, hl8756⟩
  cases k8753 with
  | zero => rw [torus_Least.l0] at hl8756; cases hl8756
  | succ k8753 =>
   rw [torus_Least.l0] at hl8756
   refine WC.seq ?_
   refine WC.seq ?_
   refine WC.region ?_
   refine seg 5 [] [0, 1, 4, 6, 30] [(0, (.slice A_p0 p0.length c_p0)), (1, (iv p1)), (4, (pt g5979)), (6, (iv x8750)), (30, (.bool (decide (x8750 ≤ w64 (p1 * p1)))))] [] (fun fb => by kernel_rfl) rfl trivial ?_
   refine WL.done rfl ?_
   refine WX.next ?_
   rcases br_some hl8756 with ⟨h8757, hl8756⟩ | ⟨h8757, hl8756⟩
   ·refine WC.condT2 (fun fb => by kernel_rfl) h8757 ?_
    refine WC.skip ?_
    refine WX.next ?_
    refine WC.seq ?_
    refine WC.block ?_
    refine WC.seq ?_
    refine WC.region ?_
    refine seg 1 [] [0, 1, 4, 6, 7] [(0, (.slice A_p0 p0.length c_p0)), (1, (iv p1)), (4, (pt g5979)), (6, (iv x8750)), (7, (iv 1))] [] (fun fb => by kernel_rfl) rfl trivial ?_
    refine WL.done rfl ?_
    refine WX.next ?_
    obtain ⟨x8854, hx8855, hl8756⟩ := bind_some hl8756
    refine WC.cutN (T := Unit) (fun t => [(0, (.slice A_p0 p0.length c_p0)), (1, (iv p1)), (4, (pt g5979)), (6, (iv x8750))]) (fun t w1 => St NoS w w1 [rowR enc_Tile A_p0 c_p0 p0] [blk g5979 (.cells #[(iv 0), (iv 0), (.slice none 0 0)] 38 (0, 0))] ∧ x8854 = .inr t) (fun Kx8854 => ?_) ?_
    ·
     refine WC.block ?_
     refine WC.loop (T := Int) (fun t => [(0, (.slice A_p0 p0.length c_p0)), (1, (iv p1)), (4, (pt g5979)), (6, (iv x8750)), (7, (iv t))]) (fun n t w1 => St NoS w w1 [rowR enc_Tile A_p0 c_p0 p0] [blk g5979 (.cells #[(iv 0), (iv 0), (.slice none 0 0)] 38 (0, 0))] ∧ torus_Least.l1 n t p0 p1 x8750 = some x8854) k8753 1 [0, 1, 4, 6, 7] rfl ⟨(hS8755.subR [0]).sub [0] (by decide), hx8855⟩ ?_
     rintro k8856 x8853 w8857 ⟨hS8858, hl8859⟩
     cases k8856 with
     | zero => rw [torus_Least.l1] at hl8859; cases hl8859
     | succ k8856 =>
      rw [torus_Least.l1] at hl8859
      refine WC.seq ?_
      refine WC.seq ?_
      refine WC.region ?_
      refine seg 3 [] [0, 1, 4, 6, 7, 35] [(0, (.slice A_p0 p0.length c_p0)), (1, (iv p1)), (4, (pt g5979)), (6, (iv x8750)), (7, (iv x8853)), (35, (.bool (decide (x8853 ≤ p1))))] [] (fun fb => by kernel_rfl) rfl trivial ?_
      refine WL.done rfl ?_
      refine WX.next ?_
      rcases br_some hl8859 with ⟨h8860, hl8859⟩ | ⟨h8860, hl8859⟩
      ·refine WC.condT2 (fun fb => by kernel_rfl) h8860 ?_
       refine WC.skip ?_
       refine WX.next ?_
       refine WC.seq ?_
       obtain ⟨x8881, hx8882, hl8859⟩ := bind_some hl8859
       refine WC.cutN (T := Unit) (fun t => [(0, (.slice A_p0 p0.length c_p0)), (1, (iv p1)), (4, (pt g5979)), (6, (iv x8750)), (7, (iv x8853))]) (fun t w1 => St NoS w w1 [rowR enc_Tile A_p0 c_p0 p0] [blk g5979 (.cells #[(iv 0), (iv 0), (.slice none 0 0)] 38 (0, 0))] ∧ x8881 = .inr t) (fun Kx8881 => ?_) ?_
       ·
        refine WC.block ?_
        refine WC.seq ?_
        refine WC.seq ?_
        refine WC.region ?_
        refine seg 2 [] [0, 1, 4, 6, 7, 38, 39] [(0, (.slice A_p0 p0.length c_p0)), (1, (iv p1)), (4, (pt g5979)), (6, (iv x8750)), (7, (iv x8853)), (38, (iv x8750)), (39, (iv x8853))] [] (fun fb => by kernel_rfl) rfl trivial ?_
        obtain ⟨h8883, hx8882⟩ := as_some hx8882
        refine seg 5 [] [0, 1, 4, 6, 7, 42] [(0, (.slice A_p0 p0.length c_p0)), (1, (iv p1)), (4, (pt g5979)), (6, (iv x8750)), (7, (iv x8853)), (42, (.bool ((Int.tmod x8750 x8853) != 0)))] [.ne x8853] (fun fb => by kernel_rfl) rfl ⟨h8883, trivial⟩ ?_
        refine WL.cutV (T := Bool) 11 (fun t => [(48, (.bool t)), (0, (.slice A_p0 p0.length c_p0)), (1, (iv p1)), (4, (pt g5979)), (6, (iv x8750)), (7, (iv x8853))]) (fun t => (((Int.tmod x8750 x8853) != 0) || (decide (w64 (Int.tdiv x8750 x8853) > p1))) = t) (fun K => ?_) ?_
        ·
         rcases Bool.eq_false_or_eq_true ((Int.tmod x8750 x8853) != 0) with h8884 | h8884
         ·
          refine WL.setB 42 h8884 rfl ?_
          refine seg 11 [] [0, 1, 4, 6, 7, 48] [(0, (.slice A_p0 p0.length c_p0)), (1, (iv p1)), (4, (pt g5979)), (6, (iv x8750)), (7, (iv x8853)), (48, (.bool true))] [] (fun fb => by kernel_rfl) rfl trivial ?_
          exact WL.toV K true [48, 0, 1, 4, 6, 7] rfl (by first | (rw [h8884]; done) | (rw [h8884]; rfl))
         refine WL.setB 42 h8884 rfl ?_
         refine seg 11 [] [0, 1, 4, 6, 7, 48] [(0, (.slice A_p0 p0.length c_p0)), (1, (iv p1)), (4, (pt g5979)), (6, (iv x8750)), (7, (iv x8853)), (48, (.bool (decide (w64 (Int.tdiv x8750 x8853) > p1))))] [.ne x8853] (fun fb => by kernel_rfl) rfl ⟨h8883, trivial⟩ ?_
         exact WL.toV K (decide (w64 (Int.tdiv x8750 x8853) > p1)) [48, 0, 1, 4, 6, 7] rfl (by first | (rw [h8884]; done) | (rw [h8884]; rfl))
        rintro b8885 rfl
        refine WL.done rfl ?_
        refine WX.next ?_
        rcases br_some hx8882 with ⟨h8886, hx8882⟩ | ⟨h8886, hx8882⟩
        ·refine WC.condT2 (fun fb => by kernel_rfl) h8886 ?_
         refine WC.exit ?_
         injection hx8882 with hx8882
         exact WX.thenX (WX.blockHere (WX.to Kx8881 () [0, 1, 4, 6, 7] rfl ⟨(hS8858.subR [0]).sub [0] (by decide), hx8882.symm⟩))
        refine WC.condF2 (fun fb => by kernel_rfl) h8886 ?_
        refine WC.skip ?_
        refine WX.next ?_
        refine WC.seq ?_
        refine WC.region ?_
        refine seg 5 [] [0, 1, 4, 6, 7, 50, 51, 54] [(0, (.slice A_p0 p0.length c_p0)), (1, (iv p1)), (4, (pt g5979)), (6, (iv x8750)), (7, (iv x8853)), (50, (.slice A_p0 p0.length c_p0)), (51, (iv x8853)), (54, (iv (w64 (Int.tdiv x8750 x8853))))] [.ne x8853] (fun fb => by kernel_rfl) rfl ⟨h8883, trivial⟩ ?_
        obtain ⟨t8887, ht8888, hx8882⟩ := bind_some hx8882
        refine WL.call (some 55) 46 #[(.slice A_p0 p0.length c_p0), (iv x8853), (iv (w64 (Int.tdiv x8750 x8853)))] (fun fb => by kernel_rfl) (torus_find_calls _ p0 x8853 (w64 (Int.tdiv x8750 x8853)) A_p0 c_p0 t8887 _ (hS8858.rd 0) ht8888) (fun v w8889 hR8890 => ?_)
        obtain ⟨A8892, c8893, rfl, hk_⟩ := hR8890
        have hS8891 : St NoS w w8889 [rowR enc_Tile A_p0 c_p0 p0] [rowO 3 encInt A8892 c8893 t8887.1.Cells, blk g5979 (.cells #[(iv 0), (iv 0), (.slice none 0 0)] 38 (0, 0))] := hS8858.call hk_ [] [0] (fun g hg => hg.elim) (by simp) (by decide)
        refine ⟨trivial, ?_⟩
        refine seg 9 [] [0, 1, 4, 6, 7, 56, 57] [(0, (.slice A_p0 p0.length c_p0)), (1, (iv p1)), (4, (pt g5979)), (6, (iv x8750)), (7, (iv x8853)), (56, (.agg #[(iv t8887.1.Width), (iv t8887.1.Height), (.slice A8892 t8887.1.Cells.length c8893)])), (57, (.bool t8887.2))] [] (fun fb => by kernel_rfl) rfl trivial ?_
        refine WL.new hS8891 8 [] (fun g => (.pointer (some ⟨g, 0, none⟩))) (.cells #[(iv 0), (iv 0), (.slice none 0 0)] 38 (0, 0)) [] (fun fb g => by kernel_rfl) trivial (fun g8894 w8895 hS8896 => ?_)
        refine ⟨trivial, ?_⟩
        refine WL.store hS8896 0 rfl [(0, (iv t8887.1.Width)), (1, (iv t8887.1.Height)), (2, (.slice A8892 t8887.1.Cells.length c8893))] #[(iv t8887.1.Width), (iv t8887.1.Height), (.slice A8892 t8887.1.Cells.length c8893)] (fun fb => by kernel_rfl) (by kernel_rfl) rfl [1, 2] (by decide) (by decide) (fun w8898 hS8899 => ?_)
        refine ⟨trivial, ?_⟩
        refine seg 12 [] [0, 1, 4, 6, 7, 8, 9] [(0, (.slice A_p0 p0.length c_p0)), (1, (iv p1)), (4, (pt g5979)), (6, (iv x8750)), (7, (iv x8853)), (8, (pt g8894)), (9, (.bool t8887.2))] [] (fun fb => by kernel_rfl) rfl trivial ?_
        refine WL.done rfl ?_
        refine WX.next ?_
        refine WC.seq ?_
        refine WC.region ?_
        refine seg 1 [] [0, 1, 4, 6, 7, 8, 58] [(0, (.slice A_p0 p0.length c_p0)), (1, (iv p1)), (4, (pt g5979)), (6, (iv x8750)), (7, (iv x8853)), (8, (pt g8894)), (58, (.bool t8887.2))] [] (fun fb => by kernel_rfl) rfl trivial ?_
        refine WL.done rfl ?_
        refine WX.next ?_
        rcases br_some hx8882 with ⟨h8900, hx8882⟩ | ⟨h8900, hx8882⟩
        ·refine WC.condT2 (fun fb => by kernel_rfl) h8900 ?_
         refine WC.seq ?_
         refine WC.region ?_
         refine seg 1 [.v (iv t8887.1.Width), .v (iv t8887.1.Height), .v (.slice A8892 t8887.1.Cells.length c8893)] [4, 59] [(4, (pt g5979)), (59, (.agg #[(iv t8887.1.Width), (iv t8887.1.Height), (.slice A8892 t8887.1.Cells.length c8893)]))] [.cell ⟨g8894, 0, none⟩ (iv t8887.1.Width), .cell ⟨g8894, 1, none⟩ (iv t8887.1.Height), .cell ⟨g8894, 2, none⟩ (.slice A8892 t8887.1.Cells.length c8893)] (fun fb => by kernel_rfl) rfl ⟨hS8899.cell 0 rfl 0 rfl, hS8899.cell 0 rfl 1 rfl, hS8899.cell 0 rfl 2 rfl, trivial⟩ ?_
         refine WL.store hS8899 2 rfl [(0, (iv t8887.1.Width)), (1, (iv t8887.1.Height)), (2, (.slice A8892 t8887.1.Cells.length c8893))] #[(iv t8887.1.Width), (iv t8887.1.Height), (.slice A8892 t8887.1.Cells.length c8893)] (fun fb => by kernel_rfl) (by kernel_rfl) rfl [0, 1] (by decide) (by decide) (fun w8901 hS8902 => ?_)
         refine ⟨trivial, ?_⟩
         refine seg 3 [] [4, 5] [(4, (pt g5979)), (5, (iv 0))] [] (fun fb => by kernel_rfl) rfl trivial ?_
         refine WL.done rfl ?_
         refine WX.next ?_
         refine WC.ret ?_
         injection hx8882 with hx8882
         subst hx8882
         injection hl8859 with hl8859
         subst hl8859
         injection hl8756 with hl8756
         subst hl8756
         injection hf with hf
         subst hf
         exact WX.blockR (WX.thenR (WX.thenR (WX.blockR (WX.blockR (WX.thenR (WX.thenR (WX.blockR (WX.thenR (WX.ret_ [.v (iv t8887.1.Width), .v (iv t8887.1.Height), .v (.slice A8892 t8887.1.Cells.length c8893)] (.tuple #[(.agg #[(iv t8887.1.Width), (iv t8887.1.Height), (.slice A8892 t8887.1.Cells.length c8893)]), (iv 0)]) [.cell ⟨g5979, 0, none⟩ (iv t8887.1.Width), .cell ⟨g5979, 1, none⟩ (iv t8887.1.Height), .cell ⟨g5979, 2, none⟩ (.slice A8892 t8887.1.Cells.length c8893)] (fun fb => by kernel_rfl) ⟨hS8902.cell 0 rfl 0 rfl, hS8902.cell 0 rfl 1 rfl, hS8902.cell 0 rfl 2 rfl, trivial⟩ ⟨_, rfl, A8892, c8893, rfl, (hS8902.sub [2] (by decide)).noR⟩)))))))))
        refine WC.condF2 (fun fb => by kernel_rfl) h8900 ?_
        refine WC.skip ?_
        injection hx8882 with hx8882
        exact WX.blockN (WX.to Kx8881 () [0, 1, 4, 6, 7] rfl ⟨(hS8899.subR [0]).sub [2] (by decide), hx8882.symm⟩)
       rintro y8906 w8903 ⟨hS8904, hq8905⟩
       subst hq8905
       have hl8859 := sum_inr hl8859
       refine WX.next ?_
       refine WC.region ?_
       refine seg 3 [] [0, 1, 4, 6, 7] [(0, (.slice A_p0 p0.length c_p0)), (1, (iv p1)), (4, (pt g5979)), (6, (iv x8750)), (7, (iv (w64 (x8853 + 1))))] [] (fun fb => by kernel_rfl) rfl trivial ?_
       refine WL.done rfl ?_
       exact WX.again k8856 (Nat.lt_succ_self _) (w64 (x8853 + 1)) [0, 1, 4, 6, 7] rfl ⟨(hS8904.subR [0]).sub [0] (by decide), hl8859⟩
      refine WC.condF2 (fun fb => by kernel_rfl) h8860 ?_
      refine WC.exit ?_
      injection hl8859 with hl8859
      exact WX.thenX (WX.thenX (WX.blockHere (WX.to Kx8854 () [0, 1, 4, 6] rfl ⟨(hS8858.subR [0]).sub [0] (by decide), hl8859.symm⟩)))
    rintro y8911 w8908 ⟨hS8909, hq8910⟩
    subst hq8910
    have hl8756 := sum_inr hl8756
    refine WX.blockN (WX.next ?_)
    refine WC.region ?_
    refine seg 3 [] [0, 1, 4, 6] [(0, (.slice A_p0 p0.length c_p0)), (1, (iv p1)), (4, (pt g5979)), (6, (iv (w64 (x8750 + 1))))] [] (fun fb => by kernel_rfl) rfl trivial ?_
    refine WL.done rfl ?_
    exact WX.again k8753 (Nat.lt_succ_self _) (w64 (x8750 + 1)) [0, 1, 4, 6] rfl ⟨(hS8909.subR [0]).sub [0] (by decide), hl8756⟩
   refine WC.condF2 (fun fb => by kernel_rfl) h8757 ?_
   refine WC.exit ?_
   injection hl8756 with hl8756
   exact WX.thenX (WX.thenX (WX.blockHere (WX.to Kx8751 () [4] rfl ⟨(hS8755.subR [0]).sub [0] (by decide), hl8756.symm⟩)))
 rintro y8916 w8913 ⟨hS8914, hq8915⟩
 subst hq8915
 have hf := sum_inr hf
 refine WX.next ?_
 refine WC.seq ?_
 refine WC.region ?_
 refine seg 1 [] [4, 60] [(4, (pt g5979)), (60, (.agg #[(iv 0), (iv 0), (.slice none 0 0)]))] [] (fun fb => by kernel_rfl) rfl trivial ?_
 refine WL.store hS8914 0 rfl [(0, (iv 0)), (1, (iv 0)), (2, (.slice none 0 0))] #[(iv 0), (iv 0), (.slice none 0 0)] (fun fb => by kernel_rfl) (by kernel_rfl) rfl [] (by decide) (by decide) (fun w8918 hS8919 => ?_)
 refine ⟨trivial, ?_⟩
 refine seg 3 [] [4, 5] [(4, (pt g5979)), (5, (iv 6))] [] (fun fb => by kernel_rfl) rfl trivial ?_
 refine WL.done rfl ?_
 refine WX.next ?_
 refine WC.ret ?_
 have hS8920 := hS8919.nilrow 3 encInt
 injection hf with hf
 subst hf
 exact WX.ret_ [.v (iv 0), .v (iv 0), .v (.slice none 0 0)] (.tuple #[(.agg #[(iv 0), (iv 0), (.slice none ([] : List Int).length 0)]), (iv 6)]) [.cell ⟨g5979, 0, none⟩ (iv 0), .cell ⟨g5979, 1, none⟩ (iv 0), .cell ⟨g5979, 2, none⟩ (.slice none 0 0)] (fun fb => by kernel_rfl) ⟨hS8919.cell 0 rfl 0 rfl, hS8919.cell 0 rfl 1 rfl, hS8919.cell 0 rfl 2 rfl, trivial⟩ ⟨_, rfl, none, 0, rfl, (hS8920.sub [0] (by decide)).noR⟩
theorem decide_Decide_calls (k : Nat) (p0 : List Tile) (A_p0 : Option Addr) (c_p0 : Nat) (r : Verdict × Int) (w : World) (hR0 : RO NoS w (rowR enc_Tile A_p0 c_p0 p0)) (hf : decide_Decide k p0 = some r) :
  CallsR Try.prog 22 #[(.slice A_p0 p0.length c_p0)] w (fun v w' => ∃ (A1_ : Option Addr), ∃ (c1_ : Nat), v = (.tuple #[(.agg #[(.bool r.1.Fills), (iv r.1.Torus.Width), (iv r.1.Torus.Height), (.slice A1_ r.1.Torus.Cells.length c1_), (iv r.1.Side)]), (iv r.2)]) ∧ St NoS w w' [] [rowO 3 encInt A1_ c1_ r.1.Torus.Cells]) := by
 have hS : St NoS w w [rowR enc_Tile A_p0 c_p0 p0] [] := St.init (ro_cons hR0 (ro_nil _ _))
 refine enter 34 Try.func22 rfl Try.ntmps22 rfl ?_
 unfold decide_Decide at hf
 refine WC.seq ?_
 refine WC.region ?_
 refine WL.new hS 2 [] (fun g => (.pointer (some ⟨g, 0, none⟩))) (.cells #[(.bool false), (iv 0), (iv 0), (.slice none 0 0), (iv 0)] 40 (0, 0)) [] (fun fb g => by kernel_rfl) trivial (fun g5 w6 hS7 => ?_)
 refine ⟨trivial, ?_⟩
 refine WL.new hS7 3 [] (fun g => (.pointer (some ⟨g, 0, none⟩))) (.cells #[(iv 0)] 25 (0, 0)) [] (fun fb g => by kernel_rfl) trivial (fun g9 w10 hS11 => ?_)
 refine ⟨trivial, ?_⟩
 refine WL.done rfl ?_
 refine WX.next ?_
 refine WC.seq ?_
 refine WC.seq ?_
 refine WC.region ?_
 refine seg 1 [] [0, 2, 3, 9] [(0, (.slice A_p0 p0.length c_p0)), (2, (pt g5)), (3, (pt g9)), (9, (.slice A_p0 p0.length c_p0))] [] (fun fb => by kernel_rfl) rfl trivial ?_
 obtain ⟨t208, ht209, hf⟩ := bind_some hf
 refine WL.call (some 10) 43 #[(.slice A_p0 p0.length c_p0)] (fun fb => by kernel_rfl) (decide_asks_calls _ p0 A_p0 c_p0 t208 _ (hS11.rd 0) ht209) (fun v w210 hR211 => ?_)
 obtain ⟨rfl, hk_⟩ := hR211
 have hS212 := hS11.keepN hk_
 refine ⟨trivial, ?_⟩
 refine seg 3 [] [0, 2, 3, 4] [(0, (.slice A_p0 p0.length c_p0)), (2, (pt g5)), (3, (pt g9)), (4, (iv t208))] [] (fun fb => by kernel_rfl) rfl trivial ?_
 refine WL.done rfl ?_
 refine WX.next ?_
 refine WC.seq ?_
 refine WC.region ?_
 refine seg 2 [] [0, 2, 3, 4, 12] [(0, (.slice A_p0 p0.length c_p0)), (2, (pt g5)), (3, (pt g9)), (4, (iv t208)), (12, (.bool (t208 != 0)))] [] (fun fb => by kernel_rfl) rfl trivial ?_
 refine WL.done rfl ?_
 refine WX.next ?_
 rcases br_some hf with ⟨h213, hf⟩ | ⟨h213, hf⟩
 ·refine WC.condT2 (fun fb => by kernel_rfl) h213 ?_
  refine WC.seq ?_
  refine WC.region ?_
  refine seg 2 [] [2, 3, 13, 14] [(2, (pt g5)), (3, (pt g9)), (13, (.agg #[(.bool false), (iv 0), (iv 0), (.slice none 0 0), (iv 0)])), (14, (iv t208))] [] (fun fb => by kernel_rfl) rfl trivial ?_
  refine WL.store hS212 1 rfl [(0, (.bool false)), (1, (iv 0)), (2, (iv 0)), (3, (.slice none 0 0)), (4, (iv 0))] #[(.bool false), (iv 0), (iv 0), (.slice none 0 0), (iv 0)] (fun fb => by kernel_rfl) (by kernel_rfl) rfl [0] (by decide) (by decide) (fun w214 hS215 => ?_)
  refine ⟨trivial, ?_⟩
  refine WL.store hS215 1 rfl [(0, (iv t208))] #[(iv t208)] (fun fb => by kernel_rfl) (by kernel_rfl) rfl [0] (by decide) (by decide) (fun w216 hS217 => ?_)
  refine ⟨trivial, ?_⟩
  refine WL.done rfl ?_
  refine WX.next ?_
  refine WC.ret ?_
  have hS218 := hS217.nilrow 3 encInt
  injection hf with hf
  subst hf
  exact WX.thenR (WX.ret_ [.v (.bool false), .v (iv 0), .v (iv 0), .v (.slice none 0 0), .v (iv 0), .v (iv t208)] (.tuple #[(.agg #[(.bool false), (iv 0), (iv 0), (.slice none ([] : List Int).length 0), (iv 0)]), (iv t208)]) [.cell ⟨g5, 0, none⟩ (.bool false), .cell ⟨g5, 1, none⟩ (iv 0), .cell ⟨g5, 2, none⟩ (iv 0), .cell ⟨g5, 3, none⟩ (.slice none 0 0), .cell ⟨g5, 4, none⟩ (iv 0), .cell ⟨g9, 0, none⟩ (iv t208)] (fun fb => by kernel_rfl) ⟨hS217.cell 1 rfl 0 rfl, hS217.cell 1 rfl 1 rfl, hS217.cell 1 rfl 2 rfl, hS217.cell 1 rfl 3 rfl, hS217.cell 1 rfl 4 rfl, hS217.cell 0 rfl 0 rfl, trivial⟩ ⟨_, rfl, none, 0, rfl, (hS218.sub [0] (by decide)).noR⟩)
 refine WC.condF2 (fun fb => by kernel_rfl) h213 ?_
 refine WC.skip ?_
 refine WX.next ?_
 refine WC.seq ?_
 refine WC.seq ?_
 refine WC.region ?_
 refine seg 1 [] [0, 2, 3, 15] [(0, (.slice A_p0 p0.length c_p0)), (2, (pt g5)), (3, (pt g9)), (15, (.slice A_p0 p0.length c_p0))] [] (fun fb => by kernel_rfl) rfl trivial ?_
 obtain ⟨t223, ht224, hf⟩ := bind_some hf
 refine WL.call (some 16) 44 #[(.slice A_p0 p0.length c_p0)] (fun fb => by kernel_rfl) (decide_sides_calls p0 A_p0 c_p0 t223 _ (hS212.rd 0) ht224) (fun v w225 hR226 => ?_)
 obtain ⟨g228, rfl, hk_⟩ := hR226
 have hS227 : St NoS w w225 [rowR enc_Tile A_p0 c_p0 p0] [blk g228 (.cells #[(.slice A_p0 p0.length c_p0)] 22 (0, 0)), blk g9 (.cells #[(iv 0)] 25 (0, 0)), blk g5 (.cells #[(.bool false), (iv 0), (iv 0), (.slice none 0 0), (iv 0)] 40 (0, 0))] := hS212.call hk_ [] [0, 1] (fun g hg => hg.elim) (by simp) (by decide)
 refine ⟨trivial, ?_⟩
 refine WL.done rfl ?_
 refine WX.next ?_
 refine WC.block ?_
 refine WC.rangeO hS227 (fun _ _ h => h) rfl (gf := 61) (lb := [(pt g228)]) (fun fb => by kernel_rfl) (fun _ => by kernel_rfl) (fun LO245 LB246 LX247 l248 D249 w250 hK251 hS252 => ?_)
 have hS255 : St NoS w w250 [rowR enc_Tile A_p0 c_p0 p0] [(fun (s_ : Int × Int) (t_ : Unit) => sepO (blk l248 (LO245 (pendN [.ret] s_.2)) :: [blk g5 (.cells #[(.bool false), (iv 0), (iv 0), (.slice none 0 0), (iv s_.1)] 40 (0, 0)), blk g9 (.cells #[(iv 0)] 25 (0, 0))])) (0, (0 : Int)) (), blk D249 (.deferred (some [])), blk g228 (.cells #[(.slice A_p0 p0.length c_p0)] 22 (0, 0))] := hS252.pack [0, 4, 3] [1, 2] (by decide) (by decide) (by decide)
 have hY258 : ∀ (x0_ : Int) (x1_ : Bool) (s_ : Int × Int) (t_ : Unit) (r_ : (Int × Int) × Bool) (w_ : World), RO (fpL [(fun (s_ : Int × Int) (t_ : Unit) => sepO (blk l248 (LO245 (pendN [.ret] s_.2)) :: [blk g5 (.cells #[(.bool false), (iv 0), (iv 0), (.slice none 0 0), (iv s_.1)] 40 (0, 0)), blk g9 (.cells #[(iv 0)] 25 (0, 0))])) s_ t_]) w_ (poolO [rowR enc_Tile A_p0 c_p0 p0]) → IoOK w_ [(fun (s_ : Int × Int) (t_ : Unit) => sepO (blk l248 (LO245 (pendN [.ret] s_.2)) :: [blk g5 (.cells #[(.bool false), (iv 0), (iv 0), (.slice none 0 0), (iv s_.1)] 40 (0, 0)), blk g9 (.cells #[(iv 0)] 25 (0, 0))])) s_ t_] → decide_Decide.b1 k  x0_ x1_ s_ = some r_ → YieldR Try.prog (.func (.yield l248) #[] #[]) #[(iv x0_), (.bool x1_)] w_ (fun v_ w' => ∃ t1_, v_ = .bool r_.2 ∧ St (fpL [(fun (s_ : Int × Int) (t_ : Unit) => sepO (blk l248 (LO245 (pendN [.ret] s_.2)) :: [blk g5 (.cells #[(.bool false), (iv 0), (iv 0), (.slice none 0 0), (iv s_.1)] 40 (0, 0)), blk g9 (.cells #[(iv 0)] 25 (0, 0))])) s_ t_]) w_ w' [] [(fun (s_ : Int × Int) (t_ : Unit) => sepO (blk l248 (LO245 (pendN [.ret] s_.2)) :: [blk g5 (.cells #[(.bool false), (iv 0), (iv 0), (.slice none 0 0), (iv s_.1)] 40 (0, 0)), blk g9 (.cells #[(iv 0)] 25 (0, 0))])) r_.1 t1_]) := by
  rintro x256 x257 ⟨x244, j259⟩ ⟨⟩ r260 w261 hRd262 hI263 hf264
  rw [decide_Decide.b1] at hf264
  obtain ⟨hj266, hf264⟩ := as_some hf264
  subst hj266
  have hRo267 := hRd262.openSep
  have hS265 : St (fpL [blk l248 (LO245 none), blk g5 (.cells #[(.bool false), (iv 0), (iv 0), (.slice none 0 0), (iv x244)] 40 (0, 0)), blk g9 (.cells #[(iv 0)] 25 (0, 0))]) w261 w261 [rowR enc_Tile A_p0 c_p0 p0] [blk l248 (LO245 none), blk g5 (.cells #[(.bool false), (iv 0), (iv 0), (.slice none 0 0), (iv x244)] 40 (0, 0)), blk g9 (.cells #[(iv 0)] 25 (0, 0))] := St.initIO (ro_cons (poolO.ro hRo267 0) (ro_nil _ _)) hI263.openSep
  refine YieldR.of_loop hK251 (hS265.blkAt 0 rfl) [(iv x256), (.bool x257)] [0, 2, 3] [(0, (.slice A_p0 p0.length c_p0)), (2, (pt g5)), (3, (pt g9))] [(18, (.bool x257)), (17, (iv x256)), (0, (.slice A_p0 p0.length c_p0)), (2, (pt g5)), (3, (pt g9))] rfl rfl rfl rfl rfl ?_
  refine WC.seq ?_
  refine WC.region ?_
  refine seg 1 [] [0, 2, 3, 5, 18] [(0, (.slice A_p0 p0.length c_p0)), (2, (pt g5)), (3, (pt g9)), (5, (iv x256)), (18, (.bool x257))] [] (fun fb => by kernel_rfl) rfl trivial ?_
  refine WL.done rfl ?_
  refine WX.next ?_
  refine WC.region ?_
  refine seg 1 [] [0, 2, 3, 5, 6] [(0, (.slice A_p0 p0.length c_p0)), (2, (pt g5)), (3, (pt g9)), (5, (iv x256)), (6, (.bool x257))] [] (fun fb => by kernel_rfl) rfl trivial ?_
  refine WL.done rfl ?_
  refine WX.begin' hK251 (hS265.blkAt 0 rfl) ?_
  have hS268 := hS265.putO 0 rfl LB246 [1, 2] (by decide) (by decide)
  revert hS268
  generalize World.putObj _ _ _ = w269
  intro hS268
  have hS270 : St (fpL [blk l248 (LO245 none), blk g5 (.cells #[(.bool false), (iv 0), (iv 0), (.slice none 0 0), (iv x244)] 40 (0, 0)), blk g9 (.cells #[(iv 0)] 25 (0, 0))]) w261 w269 [rowR enc_Tile A_p0 c_p0 p0] [blk l248 LB246, blk g5 (.cells #[(.bool false), (iv 0), (iv 0), (.slice none 0 0), (iv x244)] 40 (0, 0)), blk g9 (.cells #[(iv 0)] 25 (0, 0))] := hS268
  refine WC.block ?_
  refine WC.seq ?_
  refine WC.region ?_
  refine seg 2 [] [0, 2, 3, 5, 20] [(0, (.slice A_p0 p0.length c_p0)), (2, (pt g5)), (3, (pt g9)), (5, (iv x256)), (20, (.bool (!x257)))] [] (fun fb => by kernel_rfl) rfl trivial ?_
  refine WL.done rfl ?_
  refine WX.next ?_
  rcases br_some hf264 with ⟨h271, hf264⟩ | ⟨h271, hf264⟩
  ·refine WC.condT2 (fun fb => by kernel_rfl) h271 ?_
   refine WC.seq ?_
   refine WC.region ?_
   refine seg 2 [] [0, 2, 3, 22] [(0, (.slice A_p0 p0.length c_p0)), (2, (pt g5)), (3, (pt g9)), (22, (.agg #[(.bool false), (iv 0), (iv 0), (.slice none 0 0), (iv x256)]))] [] (fun fb => by kernel_rfl) rfl trivial ?_
   refine WL.store hS270 1 rfl [(0, (.bool false)), (1, (iv 0)), (2, (iv 0)), (3, (.slice none 0 0)), (4, (iv x256))] #[(.bool false), (iv 0), (iv 0), (.slice none 0 0), (iv x256)] (fun fb => by kernel_rfl) (by kernel_rfl) rfl [0, 2] (by decide) (by decide) (fun w272 hS273 => ?_)
   refine ⟨trivial, ?_⟩
   refine WL.store hS273 2 rfl [(0, (iv 0))] #[(iv 0)] (fun fb => by kernel_rfl) (by kernel_rfl) rfl [0, 1] (by decide) (by decide) (fun w274 hS275 => ?_)
   refine ⟨trivial, ?_⟩
   refine WL.done rfl ?_
   refine WX.next ?_
   refine WC.ret ?_
   injection hf264 with hf264
   subst hf264
   exact WX.blockR (WX.roundR' hK251 (hS275.blkAt 2 rfl) ⟨(), rfl, ((hS275.putO 2 rfl (LO245 (some .ret)) [0, 1] (by decide) (by decide)).sub [0, 2, 1] (by decide)).noR.closeSep⟩)
  refine WC.condF2 (fun fb => by kernel_rfl) h271 ?_
  refine WC.skip ?_
  injection hf264 with hf264
  subst hf264
  exact WX.blockN (WX.roundN' hK251 (hS270.blkAt 0 rfl) ⟨(), rfl, ((hS270.putO 0 rfl (LO245 none) [1, 2] (by decide) (by decide)).sub [0, 1, 2] (by decide)).noR.closeSep⟩)
 obtain ⟨t5964, ht5965, hf⟩ := bind_some hf
 refine (decide_sides_1_y_calls _ p0 (decide_Decide.b1 k ) (0, (0 : Int)) g228 A_p0 c_p0 (.func (.yield l248) #[] #[]) (fun (s_ : Int × Int) (t_ : Unit) => sepO (blk l248 (LO245 (pendN [.ret] s_.2)) :: [blk g5 (.cells #[(.bool false), (iv 0), (iv 0), (.slice none 0 0), (iv s_.1)] 40 (0, 0)), blk g9 (.cells #[(iv 0)] 25 (0, 0))])) () (poolO [rowR enc_Tile A_p0 c_p0 p0]) t5964 _ (hS255.rdP [0]) (hS255.owT [0] 2 (by decide)) (hS255.rdT [0] 0) (hS255.io [0] (by decide)) hY258 ht5965).post (fun v w5966 hR5967 => ?_)
 obtain ⟨tt5969, rfl, hk_⟩ := hR5967
 have hS5968 : St NoS w w5966 [rowR enc_Tile A_p0 c_p0 p0] [(fun (s_ : Int × Int) (t_ : Unit) => sepO (blk l248 (LO245 (pendN [.ret] s_.2)) :: [blk g5 (.cells #[(.bool false), (iv 0), (iv 0), (.slice none 0 0), (iv s_.1)] 40 (0, 0)), blk g9 (.cells #[(iv 0)] 25 (0, 0))])) t5964 tt5969, blk D249 (.deferred (some [])), blk g228 (.cells #[(.slice A_p0 p0.length c_p0)] 22 (0, 0))] := hS255.call hk_ [0] [1, 2] (fun g hg => fpL_sel g hg) (by decide) (by decide)
 have hS5970 : St NoS w w5966 [rowR enc_Tile A_p0 c_p0 p0] [blk l248 (LO245 (pendN [.ret] t5964.2)), blk g5 (.cells #[(.bool false), (iv 0), (iv 0), (.slice none 0 0), (iv t5964.1)] 40 (0, 0)), blk g9 (.cells #[(iv 0)] 25 (0, 0)), blk D249 (.deferred (some [])), blk g228 (.cells #[(.slice A_p0 p0.length c_p0)] 22 (0, 0))] := hS5968.unpack 0 rfl [1, 2] (by decide) (by decide)
 refine ⟨_, hS5970.blkAt 0 rfl, ?_⟩
 have hS5971 := (hS5970.putO 0 rfl (LX247 (pendN [.ret] t5964.2)) [1, 2, 3, 4] (by decide) (by decide)).tail
 revert hS5971
 generalize World.putObj _ _ _ = w5972
 intro hS5971
 have hS5973 : St NoS w w5972 [rowR enc_Tile A_p0 c_p0 p0] [blk g5 (.cells #[(.bool false), (iv 0), (iv 0), (.slice none 0 0), (iv t5964.1)] 40 (0, 0)), blk g9 (.cells #[(iv 0)] 25 (0, 0)), blk D249 (.deferred (some [])), blk g228 (.cells #[(.slice A_p0 p0.length c_p0)] 22 (0, 0))] := hS5971
 rcases br_some hf with ⟨h5974, hf⟩ | ⟨h5974, hf⟩
 ·
  have hj_ := eq_of_beq h5974
  rw [hj_]
  refine WC.keep [0, 2, 3, 4294967295] [(0, (.slice A_p0 p0.length c_p0)), (2, (pt g5)), (3, (pt g9)), (4294967295, (.func (.yield D249) #[] #[]))] rfl ?_
  refine WC.ret ?_
  have hS5975 := hS5973.nilrow 3 encInt
  injection hf with hf
  subst hf
  exact WX.blockR (WX.thenR (WX.retM hS5975 3 rfl rfl [0, 1, 2, 4] (by decide) (by decide) [.v (.bool false), .v (iv 0), .v (iv 0), .v (.slice none ([] : List Int).length 0), .v (iv t5964.1), .v (iv 0)] (.tuple #[(.agg #[(.bool false), (iv 0), (iv 0), (.slice none ([] : List Int).length 0), (iv t5964.1)]), (iv 0)]) [.cell ⟨g5, 0, none⟩ (.bool false), .cell ⟨g5, 1, none⟩ (iv 0), .cell ⟨g5, 2, none⟩ (iv 0), .cell ⟨g5, 3, none⟩ (.slice none ([] : List Int).length 0), .cell ⟨g5, 4, none⟩ (iv t5964.1), .cell ⟨g9, 0, none⟩ (iv 0)] (fun fb => by kernel_rfl) (fun w5977 hS5976 => ⟨⟨hS5976.cell 1 rfl 0 rfl, hS5976.cell 1 rfl 1 rfl, hS5976.cell 1 rfl 2 rfl, hS5976.cell 1 rfl 3 rfl, hS5976.cell 1 rfl 4 rfl, hS5976.cell 2 rfl 0 rfl, trivial⟩, ⟨none, 0, rfl, (hS5976.sub [0] (by decide)).noR⟩⟩)))
 obtain ⟨h5978, hf⟩ := as_some hf
 rw [h5978]
 refine WX.keep [0, 2, 3, 4294967295] [(0, (.slice A_p0 p0.length c_p0)), (2, (pt g5)), (3, (pt g9)), (4294967295, (.func (.yield D249) #[] #[]))] rfl ?_
 refine WX.blockN (WX.next ?_)
 refine WC.seq ?_
 refine WC.region ?_
 refine seg 1 [] [2, 3, 24, 4294967295] [(2, (pt g5)), (3, (pt g9)), (24, (.slice A_p0 p0.length c_p0)), (4294967295, (.func (.yield D249) #[] #[]))] [] (fun fb => by kernel_rfl) rfl trivial ?_
 obtain ⟨t8921, ht8922, hf⟩ := bind_some hf
 refine WL.call (some 25) 25 #[(.slice A_p0 p0.length c_p0), (iv 6)] (fun fb => by kernel_rfl) (torus_Least_calls _ p0 6 A_p0 c_p0 t8921 _ (hS5973.rd 0) ht8922) (fun v w8923 hR8924 => ?_)
 obtain ⟨A8926, c8927, rfl, hk_⟩ := hR8924
 have hS8925 : St NoS w w8923 [rowR enc_Tile A_p0 c_p0 p0] [rowO 3 encInt A8926 c8927 t8921.1.Cells, blk g5 (.cells #[(.bool false), (iv 0), (iv 0), (.slice none 0 0), (iv t5964.1)] 40 (0, 0)), blk g9 (.cells #[(iv 0)] 25 (0, 0)), blk D249 (.deferred (some [])), blk g228 (.cells #[(.slice A_p0 p0.length c_p0)] 22 (0, 0))] := hS5973.call hk_ [] [0, 1, 2, 3] (fun g hg => hg.elim) (by simp) (by decide)
 refine ⟨trivial, ?_⟩
 refine seg 5 [] [2, 3, 26, 27, 4294967295] [(2, (pt g5)), (3, (pt g9)), (26, (.agg #[(iv t8921.1.Width), (iv t8921.1.Height), (.slice A8926 t8921.1.Cells.length c8927)])), (27, (iv t8921.2)), (4294967295, (.func (.yield D249) #[] #[]))] [] (fun fb => by kernel_rfl) rfl trivial ?_
 refine WL.new hS8925 7 [] (fun g => (.pointer (some ⟨g, 0, none⟩))) (.cells #[(iv 0), (iv 0), (.slice none 0 0)] 38 (0, 0)) [] (fun fb g => by kernel_rfl) trivial (fun g8928 w8929 hS8930 => ?_)
 refine ⟨trivial, ?_⟩
 refine WL.store hS8930 0 rfl [(0, (iv t8921.1.Width)), (1, (iv t8921.1.Height)), (2, (.slice A8926 t8921.1.Cells.length c8927))] #[(iv t8921.1.Width), (iv t8921.1.Height), (.slice A8926 t8921.1.Cells.length c8927)] (fun fb => by kernel_rfl) (by kernel_rfl) rfl [1, 2, 3, 4, 5] (by decide) (by decide) (fun w8932 hS8933 => ?_)
 refine ⟨trivial, ?_⟩
 refine seg 8 [] [2, 3, 7, 8, 4294967295] [(2, (pt g5)), (3, (pt g9)), (7, (pt g8928)), (8, (iv t8921.2)), (4294967295, (.func (.yield D249) #[] #[]))] [] (fun fb => by kernel_rfl) rfl trivial ?_
 refine WL.done rfl ?_
 refine WX.next ?_
 refine WC.seq ?_
 refine WC.seq ?_
 refine WC.region ?_
 refine seg 2 [] [2, 3, 7, 8, 29, 4294967295] [(2, (pt g5)), (3, (pt g9)), (7, (pt g8928)), (8, (iv t8921.2)), (29, (.bool (t8921.2 != 0))), (4294967295, (.func (.yield D249) #[] #[]))] [] (fun fb => by kernel_rfl) rfl trivial ?_
 refine WL.done rfl ?_
 refine WX.next ?_
 rcases br_some hf with ⟨h8934, hf⟩ | ⟨h8934, hf⟩
 ·refine WC.condT2 (fun fb => by kernel_rfl) h8934 ?_
  refine WC.seq ?_
  refine WC.region ?_
  refine seg 2 [] [2, 3, 30, 31, 4294967295] [(2, (pt g5)), (3, (pt g9)), (30, (.agg #[(.bool false), (iv 0), (iv 0), (.slice none 0 0), (iv 0)])), (31, (iv t8921.2)), (4294967295, (.func (.yield D249) #[] #[]))] [] (fun fb => by kernel_rfl) rfl trivial ?_
  refine WL.store hS8933 2 rfl [(0, (.bool false)), (1, (iv 0)), (2, (iv 0)), (3, (.slice none 0 0)), (4, (iv 0))] #[(.bool false), (iv 0), (iv 0), (.slice none 0 0), (iv 0)] (fun fb => by kernel_rfl) (by kernel_rfl) rfl [0, 1, 3, 4, 5] (by decide) (by decide) (fun w8935 hS8936 => ?_)
  refine ⟨trivial, ?_⟩
  refine WL.store hS8936 3 rfl [(0, (iv t8921.2))] #[(iv t8921.2)] (fun fb => by kernel_rfl) (by kernel_rfl) rfl [0, 1, 2, 4, 5] (by decide) (by decide) (fun w8937 hS8938 => ?_)
  refine ⟨trivial, ?_⟩
  refine WL.done rfl ?_
  refine WX.next ?_
  refine WC.ret ?_
  have hS8939 := hS8938.nilrow 3 encInt
  injection hf with hf
  subst hf
  exact WX.thenR (WX.retM hS8939 5 rfl rfl [0, 1, 2, 3, 4, 6] (by decide) (by decide) [.v (.bool false), .v (iv 0), .v (iv 0), .v (.slice none ([] : List Int).length 0), .v (iv 0), .v (iv t8921.2)] (.tuple #[(.agg #[(.bool false), (iv 0), (iv 0), (.slice none ([] : List Int).length 0), (iv 0)]), (iv t8921.2)]) [.cell ⟨g5, 0, none⟩ (.bool false), .cell ⟨g5, 1, none⟩ (iv 0), .cell ⟨g5, 2, none⟩ (iv 0), .cell ⟨g5, 3, none⟩ (.slice none ([] : List Int).length 0), .cell ⟨g5, 4, none⟩ (iv 0), .cell ⟨g9, 0, none⟩ (iv t8921.2)] (fun fb => by kernel_rfl) (fun w8941 hS8940 => ⟨⟨hS8940.cell 2 rfl 0 rfl, hS8940.cell 2 rfl 1 rfl, hS8940.cell 2 rfl 2 rfl, hS8940.cell 2 rfl 3 rfl, hS8940.cell 2 rfl 4 rfl, hS8940.cell 1 rfl 0 rfl, trivial⟩, ⟨none, 0, rfl, (hS8940.sub [0] (by decide)).noR⟩⟩))
 refine WC.condF2 (fun fb => by kernel_rfl) h8934 ?_
 refine WC.skip ?_
 refine WX.next ?_
 refine WC.seq ?_
 refine WC.region ?_
 refine seg 2 [.v (iv t8921.1.Width), .v (iv t8921.1.Height), .v (.slice A8926 t8921.1.Cells.length c8927)] [2, 3, 33, 4294967295] [(2, (pt g5)), (3, (pt g9)), (33, (.agg #[(.bool true), (iv t8921.1.Width), (iv t8921.1.Height), (.slice A8926 t8921.1.Cells.length c8927), (iv 0)])), (4294967295, (.func (.yield D249) #[] #[]))] [.cell ⟨g8928, 0, none⟩ (iv t8921.1.Width), .cell ⟨g8928, 1, none⟩ (iv t8921.1.Height), .cell ⟨g8928, 2, none⟩ (.slice A8926 t8921.1.Cells.length c8927)] (fun fb => by kernel_rfl) rfl ⟨hS8933.cell 0 rfl 0 rfl, hS8933.cell 0 rfl 1 rfl, hS8933.cell 0 rfl 2 rfl, trivial⟩ ?_
 refine WL.store hS8933 2 rfl [(0, (.bool true)), (1, (iv t8921.1.Width)), (2, (iv t8921.1.Height)), (3, (.slice A8926 t8921.1.Cells.length c8927)), (4, (iv 0))] #[(.bool true), (iv t8921.1.Width), (iv t8921.1.Height), (.slice A8926 t8921.1.Cells.length c8927), (iv 0)] (fun fb => by kernel_rfl) (by kernel_rfl) rfl [0, 1, 3, 4, 5] (by decide) (by decide) (fun w8942 hS8943 => ?_)
 refine ⟨trivial, ?_⟩
 refine WL.store hS8943 3 rfl [(0, (iv 0))] #[(iv 0)] (fun fb => by kernel_rfl) (by kernel_rfl) rfl [0, 1, 2, 4, 5] (by decide) (by decide) (fun w8944 hS8945 => ?_)
 refine ⟨trivial, ?_⟩
 refine WL.done rfl ?_
 refine WX.next ?_
 refine WC.ret ?_
 injection hf with hf
 subst hf
 exact WX.retM hS8945 4 rfl rfl [0, 1, 2, 3, 5] (by decide) (by decide) [.v (.bool true), .v (iv t8921.1.Width), .v (iv t8921.1.Height), .v (.slice A8926 t8921.1.Cells.length c8927), .v (iv 0), .v (iv 0)] (.tuple #[(.agg #[(.bool true), (iv t8921.1.Width), (iv t8921.1.Height), (.slice A8926 t8921.1.Cells.length c8927), (iv 0)]), (iv 0)]) [.cell ⟨g5, 0, none⟩ (.bool true), .cell ⟨g5, 1, none⟩ (iv t8921.1.Width), .cell ⟨g5, 2, none⟩ (iv t8921.1.Height), .cell ⟨g5, 3, none⟩ (.slice A8926 t8921.1.Cells.length c8927), .cell ⟨g5, 4, none⟩ (iv 0), .cell ⟨g9, 0, none⟩ (iv 0)] (fun fb => by kernel_rfl) (fun w8947 hS8946 => ⟨⟨hS8946.cell 1 rfl 0 rfl, hS8946.cell 1 rfl 1 rfl, hS8946.cell 1 rfl 2 rfl, hS8946.cell 1 rfl 3 rfl, hS8946.cell 1 rfl 4 rfl, hS8946.cell 0 rfl 0 rfl, trivial⟩, ⟨A8926, c8927, rfl, (hS8946.sub [3] (by decide)).noR⟩⟩)
theorem decide_Fills_calls (k : Nat) (p0 : List Tile) (A_p0 : Option Addr) (c_p0 : Nat) (r : Bool × Int) (w : World) (hR0 : RO NoS w (rowR enc_Tile A_p0 c_p0 p0)) (hf : decide_Fills k p0 = some r) :
  CallsR Try.prog 11 #[(.slice A_p0 p0.length c_p0)] w (fun v w' => v = (.tuple #[(.bool r.1), (iv r.2)]) ∧ Keeps NoS w w') := by
 have hS : St NoS w w [rowR enc_Tile A_p0 c_p0 p0] [] := St.init (ro_cons hR0 (ro_nil _ _))
 refine enter 14 Try.func11 rfl Try.ntmps11 rfl ?_
 unfold decide_Fills at hf
 refine WC.seq ?_
 refine WC.region ?_
 refine seg 2 [] [0] [(0, (.slice A_p0 p0.length c_p0))] [] (fun fb => by kernel_rfl) rfl trivial ?_
 refine WL.done rfl ?_
 refine WX.next ?_
 refine WC.seq ?_
 refine WC.region ?_
 refine seg 1 [] [7] [(7, (.slice A_p0 p0.length c_p0))] [] (fun fb => by kernel_rfl) rfl trivial ?_
 obtain ⟨t8948, ht8949, hf⟩ := bind_some hf
 refine WL.call (some 8) 22 #[(.slice A_p0 p0.length c_p0)] (fun fb => by kernel_rfl) (decide_Decide_calls _ p0 A_p0 c_p0 t8948 _ (hS.rd 0) ht8949) (fun v w8950 hR8951 => ?_)
 obtain ⟨A8953, c8954, rfl, hk_⟩ := hR8951
 have hS8952 : St NoS w w8950 [rowR enc_Tile A_p0 c_p0 p0] [rowO 3 encInt A8953 c8954 t8948.1.Torus.Cells] := hS.call hk_ [] [] (fun g hg => hg.elim) (by simp) (by decide)
 refine ⟨trivial, ?_⟩
 refine seg 5 [] [9, 10] [(9, (.agg #[(.bool t8948.1.Fills), (iv t8948.1.Torus.Width), (iv t8948.1.Torus.Height), (.slice A8953 t8948.1.Torus.Cells.length c8954), (iv t8948.1.Side)])), (10, (iv t8948.2))] [] (fun fb => by kernel_rfl) rfl trivial ?_
 refine WL.new hS8952 4 [] (fun g => (.pointer (some ⟨g, 0, none⟩))) (.cells #[(.bool false), (iv 0), (iv 0), (.slice none 0 0), (iv 0)] 40 (0, 0)) [] (fun fb g => by kernel_rfl) trivial (fun g8955 w8956 hS8957 => ?_)
 refine ⟨trivial, ?_⟩
 refine WL.store hS8957 0 rfl [(0, (.bool t8948.1.Fills)), (1, (iv t8948.1.Torus.Width)), (2, (iv t8948.1.Torus.Height)), (3, (.slice A8953 t8948.1.Torus.Cells.length c8954)), (4, (iv t8948.1.Side))] #[(.bool t8948.1.Fills), (iv t8948.1.Torus.Width), (iv t8948.1.Torus.Height), (.slice A8953 t8948.1.Torus.Cells.length c8954), (iv t8948.1.Side)] (fun fb => by kernel_rfl) (by kernel_rfl) rfl [1] (by decide) (by decide) (fun w8959 hS8960 => ?_)
 refine ⟨trivial, ?_⟩
 refine seg 8 [] [4, 5] [(4, (pt g8955)), (5, (iv t8948.2))] [] (fun fb => by kernel_rfl) rfl trivial ?_
 refine WL.done rfl ?_
 refine WX.next ?_
 refine WC.seq ?_
 refine WC.region ?_
 refine seg 5 [.v (.bool t8948.1.Fills)] [2, 3] [(2, (.bool t8948.1.Fills)), (3, (iv t8948.2))] [.cell ⟨g8955, 0, none⟩ (.bool t8948.1.Fills)] (fun fb => by kernel_rfl) rfl ⟨hS8960.cell 0 rfl 0 rfl, trivial⟩ ?_
 refine WL.done rfl ?_
 refine WX.next ?_
 refine WC.ret ?_
 injection hf with hf
 subst hf
 exact WX.ret_ [] (.tuple #[(.bool t8948.1.Fills), (iv t8948.2)]) [] (fun fb => by kernel_rfl) trivial ⟨_, rfl, rfl, hS8960.keep⟩
theorem ref01_Index_calls (k : Nat) (p0 : List Tile) (p1 : Tile) (A_p0 : Option Addr) (c_p0 : Nat) (r : Int) (w : World) (hR0 : RO NoS w (rowR enc_Tile A_p0 c_p0 p0)) (hf : ref01_Index k p0 p1 = some r) :
  CallsR Try.prog 12 #[(.slice A_p0 p0.length c_p0), (.agg #[(iv p1.N), (iv p1.E), (iv p1.S), (iv p1.W)])] w (fun v w' => v = (iv r) ∧ Keeps NoS w w') := by
 have hS : St NoS w w [rowR enc_Tile A_p0 c_p0 p0] [] := St.init (ro_cons hR0 (ro_nil _ _))
 refine enter 19 Try.func12 rfl Try.ntmps12 rfl ?_
 unfold ref01_Index at hf
 refine WC.seq ?_
 refine WC.region ?_
 refine WL.new hS 3 [] (fun g => (.pointer (some ⟨g, 0, none⟩))) (.cells #[(iv p1.N), (iv p1.E), (iv p1.S), (iv p1.W)] 24 (0, 0)) [] (fun fb g => by kernel_rfl) trivial (fun g8968 w8969 hS8970 => ?_)
 refine ⟨trivial, ?_⟩
 refine seg 2 [] [0, 3] [(0, (.slice A_p0 p0.length c_p0)), (3, (pt g8968))] [] (fun fb => by kernel_rfl) rfl trivial ?_
 refine WL.done rfl ?_
 refine WX.next ?_
 refine WC.seq ?_
 refine WC.seq ?_
 refine WC.region ?_
 refine seg 1 [] [0, 3, 5] [(0, (.slice A_p0 p0.length c_p0)), (3, (pt g8968)), (5, (iv 0))] [] (fun fb => by kernel_rfl) rfl trivial ?_
 refine WL.done rfl ?_
 refine WX.next ?_
 obtain ⟨x8988, hx8989, hf⟩ := bind_some hf
 refine WC.cutN (T := Unit) (fun t => []) (fun t w1 => St NoS w w1 [rowR enc_Tile A_p0 c_p0 p0] [] ∧ x8988 = .inr t) (fun Kx8988 => ?_) ?_
 ·
  refine WC.block ?_
  refine WC.loop (T := Int) (fun t => [(0, (.slice A_p0 p0.length c_p0)), (3, (pt g8968)), (5, (iv t))]) (fun n t w1 => St NoS w w1 [rowR enc_Tile A_p0 c_p0 p0] [blk g8968 (.cells #[(iv p1.N), (iv p1.E), (iv p1.S), (iv p1.W)] 24 (0, 0))] ∧ ref01_Index.l0 n t p0 p1 = some x8988) k 0 [0, 3, 5] rfl ⟨(hS8970.subR [0]).sub [0] (by decide), hx8989⟩ ?_
  rintro k8990 x8987 w8991 ⟨hS8992, hl8993⟩
  cases k8990 with
  | zero => rw [ref01_Index.l0] at hl8993; cases hl8993
  | succ k8990 =>
   rw [ref01_Index.l0] at hl8993
   refine WC.seq ?_
   refine WC.seq ?_
   refine WC.region ?_
   refine seg 4 [] [0, 3, 5, 9] [(0, (.slice A_p0 p0.length c_p0)), (3, (pt g8968)), (5, (iv x8987)), (9, (.bool (decide (x8987 < (p0.length : Int)))))] [] (fun fb => by kernel_rfl) rfl trivial ?_
   refine WL.done rfl ?_
   refine WX.next ?_
   rcases br_some hl8993 with ⟨h8994, hl8993⟩ | ⟨h8994, hl8993⟩
   ·refine WC.condT2 (fun fb => by kernel_rfl) h8994 ?_
    refine WC.skip ?_
    refine WX.next ?_
    refine WC.seq ?_
    refine WC.block ?_
    refine WC.seq ?_
    obtain ⟨h8999, hl8993⟩ := as_some hl8993
    refine WC.regionD ([(3, ((adr A_p0).add ((x8987).toNat * 4)), (iv ((rdD p0 x8987 z_Tile).N))), (3, (((adr A_p0).add ((x8987).toNat * 4)).add 1), (iv ((rdD p0 x8987 z_Tile).E))), (3, (((adr A_p0).add ((x8987).toNat * 4)).add 2), (iv ((rdD p0 x8987 z_Tile).S))), (3, (((adr A_p0).add ((x8987).toNat * 4)).add 3), (iv ((rdD p0 x8987 z_Tile).W))), (4, ⟨g8968, 0, none⟩, (iv p1.N)), (4, ⟨g8968, 1, none⟩, (iv p1.E)), (4, ⟨g8968, 2, none⟩, (iv p1.S)), (4, ⟨g8968, 3, none⟩, (iv p1.W))], [0, 1, 2, 3, 4, 5], [[], [], [0, 1], [0, 1, 2], [], [0, 1, 2, 3, 4]]) [[0, 1, 2, 3, 4, 5]] (by kernel_rfl) (by kernel_rfl) (NoPanic.seq (NoPanic.block (NoPanic.seq (NoPanic.seq (NoPanic.block (NoPanic.seq (NoPanic.body))))))) ?_
    have hS8997 := hS8992.drew
    revert hS8997
    generalize World.drew w8991 = w8996
    intro hS8997
    refine ⟨⟨rowR.cell (hS8997.rd 0).1 z_Tile h8999.1 h8999.2 0 rfl, rowR.cell (hS8997.rd 0).1 z_Tile h8999.1 h8999.2 1 rfl, rowR.cell (hS8997.rd 0).1 z_Tile h8999.1 h8999.2 2 rfl, rowR.cell (hS8997.rd 0).1 z_Tile h8999.1 h8999.2 3 rfl, hS8997.cell 0 rfl 0 rfl, hS8997.cell 0 rfl 1 rfl, hS8997.cell 0 rfl 2 rfl, hS8997.cell 0 rfl 3 rfl, trivial⟩, forallC ?_ (forallN)⟩
    refine segF 6 [.v (iv ((rdD p0 x8987 z_Tile).N)), .v (iv ((rdD p0 x8987 z_Tile).E)), .v (iv ((rdD p0 x8987 z_Tile).S)), .v (iv ((rdD p0 x8987 z_Tile).W)), .v (iv p1.N), .v (iv p1.E), .v (iv p1.S), .v (iv p1.W)] [0, 3, 5, 17] [(0, (.slice A_p0 p0.length c_p0)), (3, (pt g8968)), (5, (iv x8987)), (17, (.bool (((rdD p0 x8987 z_Tile).N) == p1.N && (((rdD p0 x8987 z_Tile).E) == p1.E && (((rdD p0 x8987 z_Tile).S) == p1.S && (((rdD p0 x8987 z_Tile).W) == p1.W))))))] [.idx A_p0 x8987 p0.length] [0, 1, 2, 3, 4, 5, 6, 7] [(3, ((adr A_p0).add ((x8987).toNat * 4)), (iv ((rdD p0 x8987 z_Tile).N))), (3, (((adr A_p0).add ((x8987).toNat * 4)).add 1), (iv ((rdD p0 x8987 z_Tile).E))), (3, (((adr A_p0).add ((x8987).toNat * 4)).add 2), (iv ((rdD p0 x8987 z_Tile).S))), (3, (((adr A_p0).add ((x8987).toNat * 4)).add 3), (iv ((rdD p0 x8987 z_Tile).W))), (4, ⟨g8968, 0, none⟩, (iv p1.N)), (4, ⟨g8968, 1, none⟩, (iv p1.E)), (4, ⟨g8968, 2, none⟩, (iv p1.S)), (4, ⟨g8968, 3, none⟩, (iv p1.W))] (fun fb => by kernel_rfl) rfl ⟨rowR.adr (hS8997.rd 0).1 h8999.1 h8999.2, trivial⟩ rfl ?_
    refine WL.done rfl ?_
    refine WX.next ?_
    rcases br_some hl8993 with ⟨h9000, hl8993⟩ | ⟨h9000, hl8993⟩
    ·refine WC.condT2 (fun fb => by kernel_rfl) h9000 ?_
     refine WC.seq ?_
     refine WC.region ?_
     refine seg 2 [] [4] [(4, (iv x8987))] [] (fun fb => by kernel_rfl) rfl trivial ?_
     refine WL.done rfl ?_
     refine WX.next ?_
     refine WC.ret ?_
     injection hl8993 with hl8993
     subst hl8993
     injection hf with hf
     subst hf
     exact WX.blockR (WX.thenR (WX.thenR (WX.blockR (WX.thenR (WX.ret_ [] (iv x8987) [] (fun fb => by kernel_rfl) trivial ⟨_, rfl, rfl, hS8997.keep⟩)))))
    refine WC.condF2 (fun fb => by kernel_rfl) h9000 ?_
    refine WC.skip ?_
    refine WX.blockN (WX.next ?_)
    refine WC.region ?_
    refine seg 3 [] [0, 3, 5] [(0, (.slice A_p0 p0.length c_p0)), (3, (pt g8968)), (5, (iv (w64 (x8987 + 1))))] [] (fun fb => by kernel_rfl) rfl trivial ?_
    refine WL.done rfl ?_
    exact WX.again k8990 (Nat.lt_succ_self _) (w64 (x8987 + 1)) [0, 3, 5] rfl ⟨(hS8997.subR [0]).sub [0] (by decide), hl8993⟩
   refine WC.condF2 (fun fb => by kernel_rfl) h8994 ?_
   refine WC.exit ?_
   injection hl8993 with hl8993
   exact WX.thenX (WX.thenX (WX.blockHere (WX.to Kx8988 () [] rfl ⟨(hS8992.subR [0]).sub [] (by decide), hl8993.symm⟩)))
 rintro y9004 w9001 ⟨hS9002, hq9003⟩
 subst hq9003
 have hf := sum_inr hf
 refine WX.next ?_
 refine WC.seq ?_
 refine WC.region ?_
 refine seg 1 [] [4] [(4, (iv (-1)))] [] (fun fb => by kernel_rfl) rfl trivial ?_
 refine WL.done rfl ?_
 refine WX.next ?_
 refine WC.ret ?_
 injection hf with hf
 subst hf
 exact WX.ret_ [] (iv (-1)) [] (fun fb => by kernel_rfl) trivial ⟨_, rfl, rfl, hS9002.keep⟩
theorem ref01_colour_calls (p0 : Int)  (r : Bool) (w : World)  (hf : ref01_colour p0 = some r) :
  CallsR Try.prog 35 #[(iv p0)] w (fun v w' => v = (.bool r) ∧ Keeps NoS w w') := by
 have hS : St NoS w w [] [] := St.init (ro_nil _ _)
 refine enter 9 Try.func35 rfl Try.ntmps35 rfl ?_
 unfold ref01_colour at hf
 refine WC.seq ?_
 refine WC.region ?_
 refine seg 1 [] [0] [(0, (iv p0))] [] (fun fb => by kernel_rfl) rfl trivial ?_
 refine WL.done rfl ?_
 refine WX.next ?_
 refine WC.seq ?_
 refine WC.region ?_
 refine seg 3 [] [0, 5] [(0, (iv p0)), (5, (.bool (decide (p0 ≥ 0))))] [] (fun fb => by kernel_rfl) rfl trivial ?_
 refine WL.cutV (T := Bool) 6 (fun t => [(8, (.bool t))]) (fun t => ((decide (p0 ≥ 0)) && (decide (p0 < 1000))) = t) (fun K => ?_) ?_
 ·
  rcases Bool.eq_false_or_eq_true (decide (p0 ≥ 0)) with h9039 | h9039
  ·
   refine WL.setB 5 h9039 rfl ?_
   refine seg 6 [] [8] [(8, (.bool (decide (p0 < 1000))))] [] (fun fb => by kernel_rfl) rfl trivial ?_
   exact WL.toV K (decide (p0 < 1000)) [8] rfl (by first | (rw [h9039]; done) | (rw [h9039]; rfl))
  refine WL.setB 5 h9039 rfl ?_
  refine seg 6 [] [8] [(8, (.bool false))] [] (fun fb => by kernel_rfl) rfl trivial ?_
  exact WL.toV K false [8] rfl (by first | (rw [h9039]; done) | (rw [h9039]; rfl))
 rintro b9040 rfl
 refine seg 7 [] [2] [(2, (.bool ((decide (p0 ≥ 0)) && (decide (p0 < 1000)))))] [] (fun fb => by kernel_rfl) rfl trivial ?_
 refine WL.done rfl ?_
 refine WX.next ?_
 refine WC.ret ?_
 injection hf with hf
 subst hf
 exact WX.ret_ [] (.bool ((decide (p0 ≥ 0)) && (decide (p0 < 1000)))) [] (fun fb => by kernel_rfl) trivial ⟨_, rfl, rfl, hS.keep⟩
theorem ref01_Valid_calls (k : Nat) (p0 : List Tile) (A_p0 : Option Addr) (c_p0 : Nat) (r : Bool) (w : World) (hR0 : RO NoS w (rowR enc_Tile A_p0 c_p0 p0)) (hf : ref01_Valid k p0 = some r) :
  CallsR Try.prog 13 #[(.slice A_p0 p0.length c_p0)] w (fun v w' => v = (.bool r) ∧ Keeps NoS w w') := by
 have hS : St NoS w w [rowR enc_Tile A_p0 c_p0 p0] [] := St.init (ro_cons hR0 (ro_nil _ _))
 refine enter 48 Try.func13 rfl Try.ntmps13 rfl ?_
 unfold ref01_Valid at hf
 refine WC.seq ?_
 refine WC.region ?_
 refine seg 1 [] [0] [(0, (.slice A_p0 p0.length c_p0))] [] (fun fb => by kernel_rfl) rfl trivial ?_
 refine WL.done rfl ?_
 refine WX.next ?_
 refine WC.seq ?_
 refine WC.seq ?_
 refine WC.region ?_
 refine seg 3 [] [0, 7] [(0, (.slice A_p0 p0.length c_p0)), (7, (.bool (decide ((p0.length : Int) > 1000))))] [] (fun fb => by kernel_rfl) rfl trivial ?_
 refine WL.done rfl ?_
 refine WX.next ?_
 rcases br_some hf with ⟨h9030, hf⟩ | ⟨h9030, hf⟩
 ·refine WC.condT2 (fun fb => by kernel_rfl) h9030 ?_
  refine WC.seq ?_
  refine WC.region ?_
  refine seg 1 [] [2] [(2, (.bool false))] [] (fun fb => by kernel_rfl) rfl trivial ?_
  refine WL.done rfl ?_
  refine WX.next ?_
  refine WC.ret ?_
  injection hf with hf
  subst hf
  exact WX.thenR (WX.ret_ [] (.bool false) [] (fun fb => by kernel_rfl) trivial ⟨_, rfl, rfl, hS.keep⟩)
 refine WC.condF2 (fun fb => by kernel_rfl) h9030 ?_
 refine WC.skip ?_
 refine WX.next ?_
 refine WC.seq ?_
 refine WC.seq ?_
 refine WC.region ?_
 refine seg 1 [] [0, 3] [(0, (.slice A_p0 p0.length c_p0)), (3, (iv 0))] [] (fun fb => by kernel_rfl) rfl trivial ?_
 refine WL.done rfl ?_
 refine WX.next ?_
 obtain ⟨x9401, hx9402, hf⟩ := bind_some hf
 refine WC.cutN (T := Unit) (fun t => []) (fun t w1 => St NoS w w1 [rowR enc_Tile A_p0 c_p0 p0] [] ∧ x9401 = .inr t) (fun Kx9401 => ?_) ?_
 ·
  refine WC.block ?_
  refine WC.loop (T := Int) (fun t => [(0, (.slice A_p0 p0.length c_p0)), (3, (iv t))]) (fun n t w1 => St NoS w w1 [rowR enc_Tile A_p0 c_p0 p0] [] ∧ ref01_Valid.l0 n t p0 = some x9401) k 0 [0, 3] rfl ⟨(hS.subR [0]).sub [] (by decide), hx9402⟩ ?_
  rintro k9403 x9400 w9404 ⟨hS9405, hl9406⟩
  cases k9403 with
  | zero => rw [ref01_Valid.l0] at hl9406; cases hl9406
  | succ k9403 =>
   rw [ref01_Valid.l0] at hl9406
   refine WC.seq ?_
   refine WC.seq ?_
   refine WC.region ?_
   refine seg 4 [] [0, 3, 11] [(0, (.slice A_p0 p0.length c_p0)), (3, (iv x9400)), (11, (.bool (decide (x9400 < (p0.length : Int)))))] [] (fun fb => by kernel_rfl) rfl trivial ?_
   refine WL.done rfl ?_
   refine WX.next ?_
   rcases br_some hl9406 with ⟨h9407, hl9406⟩ | ⟨h9407, hl9406⟩
   ·refine WC.condT2 (fun fb => by kernel_rfl) h9407 ?_
    refine WC.skip ?_
    refine WX.next ?_
    refine WC.seq ?_
    refine WC.block ?_
    refine WC.seq ?_
    refine WC.region ?_
    refine seg 2 [] [0, 3, 14, 15] [(0, (.slice A_p0 p0.length c_p0)), (3, (iv x9400)), (14, (.slice A_p0 p0.length c_p0)), (15, (iv x9400))] [] (fun fb => by kernel_rfl) rfl trivial ?_
    obtain ⟨h9408, hl9406⟩ := as_some hl9406
    refine seg 4 [.v (iv ((rdD p0 x9400 z_Tile).N)), .v (iv ((rdD p0 x9400 z_Tile).E)), .v (iv ((rdD p0 x9400 z_Tile).S)), .v (iv ((rdD p0 x9400 z_Tile).W))] [0, 3, 17] [(0, (.slice A_p0 p0.length c_p0)), (3, (iv x9400)), (17, (.agg #[(iv ((rdD p0 x9400 z_Tile).N)), (iv ((rdD p0 x9400 z_Tile).E)), (iv ((rdD p0 x9400 z_Tile).S)), (iv ((rdD p0 x9400 z_Tile).W))]))] [.idx A_p0 x9400 p0.length, .cell ((adr A_p0).add ((x9400).toNat * 4)) (iv ((rdD p0 x9400 z_Tile).N)), .cell (((adr A_p0).add ((x9400).toNat * 4)).add 1) (iv ((rdD p0 x9400 z_Tile).E)), .cell (((adr A_p0).add ((x9400).toNat * 4)).add 2) (iv ((rdD p0 x9400 z_Tile).S)), .cell (((adr A_p0).add ((x9400).toNat * 4)).add 3) (iv ((rdD p0 x9400 z_Tile).W))] (fun fb => by kernel_rfl) rfl ⟨rowR.adr (hS9405.rd 0).1 h9408.1 h9408.2, rowR.cell (hS9405.rd 0).1 z_Tile h9408.1 h9408.2 0 rfl, rowR.cell (hS9405.rd 0).1 z_Tile h9408.1 h9408.2 1 rfl, rowR.cell (hS9405.rd 0).1 z_Tile h9408.1 h9408.2 2 rfl, rowR.cell (hS9405.rd 0).1 z_Tile h9408.1 h9408.2 3 rfl, trivial⟩ ?_
    refine WL.new hS9405 4 [] (fun g => (.pointer (some ⟨g, 0, none⟩))) (.cells #[(iv 0), (iv 0), (iv 0), (iv 0)] 24 (0, 0)) [] (fun fb g => by kernel_rfl) trivial (fun g9409 w9410 hS9411 => ?_)
    refine ⟨trivial, ?_⟩
    refine WL.store hS9411 0 rfl [(0, (iv ((rdD p0 x9400 z_Tile).N))), (1, (iv ((rdD p0 x9400 z_Tile).E))), (2, (iv ((rdD p0 x9400 z_Tile).S))), (3, (iv ((rdD p0 x9400 z_Tile).W)))] #[(iv ((rdD p0 x9400 z_Tile).N)), (iv ((rdD p0 x9400 z_Tile).E)), (iv ((rdD p0 x9400 z_Tile).S)), (iv ((rdD p0 x9400 z_Tile).W))] (fun fb => by kernel_rfl) (by kernel_rfl) rfl [] (by decide) (by decide) (fun w9413 hS9414 => ?_)
    refine ⟨trivial, ?_⟩
    refine WL.done rfl ?_
    refine WX.next ?_
    refine WC.seq ?_
    refine WC.regionD ([(1, ⟨g9409, 0, none⟩, (iv ((rdD p0 x9400 z_Tile).N))), (6, ⟨g9409, 1, none⟩, (iv ((rdD p0 x9400 z_Tile).E))), (12, ⟨g9409, 2, none⟩, (iv ((rdD p0 x9400 z_Tile).S))), (18, ⟨g9409, 3, none⟩, (iv ((rdD p0 x9400 z_Tile).W))), (26, ⟨g9409, 0, none⟩, (iv ((rdD p0 x9400 z_Tile).N))), (26, ⟨g9409, 1, none⟩, (iv ((rdD p0 x9400 z_Tile).E))), (26, ⟨g9409, 2, none⟩, (iv ((rdD p0 x9400 z_Tile).S))), (26, ⟨g9409, 3, none⟩, (iv ((rdD p0 x9400 z_Tile).W)))], [0, 1, 3, 4, 5, 6, 8, 9, 10, 11, 12, 14, 15, 16, 17, 18, 20, 21, 22, 23, 24, 25, 26, 28, 29], [[], [0], [0, 1], [0, 1, 2], [0, 1, 2, 3], [0, 1, 2, 3, 4], [0, 1, 2, 3, 4, 5], [0, 1, 2, 3, 4, 5, 6], [0, 1, 2, 3, 4, 5, 6, 7], [0, 1, 2, 3, 4, 5, 6, 7, 8], [0, 1, 2, 3, 4, 5, 6, 7, 8, 9], [0, 1, 2, 3, 4, 5, 6, 7, 8, 9, 10], [0, 1, 2, 3, 4, 5, 6, 7, 8, 9, 10, 11], [0, 1, 2, 3, 4, 5, 6, 7, 8, 9, 10, 11, 12], [0, 1, 2, 3, 4, 5, 6, 7, 8, 9, 10, 11, 12, 13], [0, 1, 2, 3, 4, 5, 6, 7, 8, 9, 10, 11, 12, 13, 14], [0, 1, 2, 3, 4, 5, 6, 7, 8, 9, 10, 11, 12, 13, 14, 15], [0, 1, 2, 3, 4, 5, 6, 7, 8, 9, 10, 11, 12, 13, 14, 15, 16], [0, 1, 2, 3, 4, 5, 6, 7, 8, 9, 10, 11, 12, 13, 14, 15, 16, 17], [0, 1, 2, 3, 4, 5, 6, 7, 8, 9, 10, 11, 12, 13, 14, 15, 16, 17, 18], [0, 1, 2, 3, 4, 5, 6, 7, 8, 9, 10, 11, 12, 13, 14, 15, 16, 17, 18, 19], [0, 1, 2, 3, 4, 5, 6, 7, 8, 9, 10, 11, 12, 13, 14, 15, 16, 17, 18, 19, 20], [0, 1, 2, 3, 4, 5, 6, 7, 8, 9, 10, 11, 12, 13, 14, 15, 16, 17, 18, 19, 20, 21], [0, 1, 2, 3, 4, 5, 6, 7, 8, 9, 10, 11, 12, 13, 14, 15, 16, 17, 18, 19, 20, 21, 22], [0, 1, 2, 3, 4, 5, 6, 7, 8, 9, 10, 11, 12, 13, 14, 15, 16, 17, 18, 19, 20, 21, 22], [0, 1, 2, 3, 4, 5, 6, 7, 8, 9, 10, 11, 12, 13, 14, 15, 16, 17, 18, 19, 20, 21, 22, 23, 24], [0, 1, 2, 3, 4, 5, 6, 7, 8, 9, 10, 11, 12, 13, 14, 15, 16, 17, 18, 19, 20, 21, 22], [0, 1, 2, 3, 4, 5, 6, 7, 8, 9, 10, 11, 12, 13, 14, 15, 16, 17, 18, 19, 20, 21, 22, 23, 24, 25, 26], [0, 1, 2, 3, 4, 5, 6, 7, 8, 9, 10, 11, 12, 13, 14, 15, 16, 17, 18, 19, 20, 21, 22, 23, 24, 25, 26, 27], [0, 1, 2, 3, 4, 5, 6, 7, 8, 9, 10, 11, 12, 13, 14, 15, 16, 17, 18, 19, 20, 21, 22, 23, 24, 25, 26, 27, 28]]) [[0, 1, 2, 3, 4, 5, 6, 7, 8, 9, 10, 11, 12, 13, 14, 15, 16, 17, 18, 19, 20, 21, 22, 23, 24, 25, 26, 27, 28, 29]] (by kernel_rfl) (by kernel_rfl) (NoPanic.seq (NoPanic.block (NoPanic.seq (NoPanic.seq (NoPanic.block (NoPanic.seq (NoPanic.body))))))) ?_
    have hS9501 := hS9414.drew
    revert hS9501
    generalize World.drew w9413 = w9500
    intro hS9501
    refine ⟨⟨hS9501.cell 0 rfl 0 rfl, hS9501.cell 0 rfl 1 rfl, hS9501.cell 0 rfl 2 rfl, hS9501.cell 0 rfl 3 rfl, hS9501.cell 0 rfl 0 rfl, hS9501.cell 0 rfl 1 rfl, hS9501.cell 0 rfl 2 rfl, hS9501.cell 0 rfl 3 rfl, trivial⟩, forallC ?_ (forallN)⟩
    refine segF 2 [.v (iv ((rdD p0 x9400 z_Tile).N))] [0, 3, 4, 19] [(0, (.slice A_p0 p0.length c_p0)), (3, (iv x9400)), (4, (pt g9409)), (19, (iv ((rdD p0 x9400 z_Tile).N)))] [] [0] [(1, ⟨g9409, 0, none⟩, (iv ((rdD p0 x9400 z_Tile).N)))] (fun fb => by kernel_rfl) rfl trivial rfl ?_
    obtain ⟨t9504, ht9505, hl9406⟩ := bind_some hl9406
    refine WL.call (some 20) 35 #[(iv ((rdD p0 x9400 z_Tile).N))] (fun fb => by kernel_rfl) (ref01_colour_calls ((rdD p0 x9400 z_Tile).N) t9504 _ ht9505) (fun v w9506 hR9507 => ?_)
    obtain ⟨rfl, hk_⟩ := hR9507
    have hS9508 := hS9501.keepN hk_
    refine ⟨⟨hS9508.cell 0 rfl 1 rfl, hS9508.cell 0 rfl 2 rfl, hS9508.cell 0 rfl 3 rfl, hS9508.cell 0 rfl 0 rfl, hS9508.cell 0 rfl 1 rfl, hS9508.cell 0 rfl 2 rfl, hS9508.cell 0 rfl 3 rfl, trivial⟩, ?_⟩
    refine seg 5 [] [0, 3, 4, 22] [(0, (.slice A_p0 p0.length c_p0)), (3, (iv x9400)), (4, (pt g9409)), (22, (.bool (!t9504)))] [] (fun fb => by kernel_rfl) rfl trivial ?_
    obtain ⟨x9515, hx9516, hl9406⟩ := bind_some hl9406
    refine WL.cutW (T := Bool) 10 (fun t => [(0, (.slice A_p0 p0.length c_p0)), (3, (iv x9400)), (4, (pt g9409)), (27, (.bool t))]) (fun t w1 => (St NoS w w1 [rowR enc_Tile A_p0 c_p0 p0] [blk g9409 (.cells #[(iv ((rdD p0 x9400 z_Tile).N)), (iv ((rdD p0 x9400 z_Tile).E)), (iv ((rdD p0 x9400 z_Tile).S)), (iv ((rdD p0 x9400 z_Tile).W))] 24 (0, 0))] ∧ x9515 = t) ∧ CellsOK [] w1) (fun K => ?_) ?_
    ·
     rcases br_some hx9516 with ⟨h9517, hx9516⟩ | ⟨h9517, hx9516⟩
     ·
      refine WL.setB 22 h9517 rfl ?_
      refine seg 10 [] [0, 3, 4, 27] [(0, (.slice A_p0 p0.length c_p0)), (3, (iv x9400)), (4, (pt g9409)), (27, (.bool true))] [] (fun fb => by kernel_rfl) rfl trivial ?_
      injection hx9516 with hx9516
      exact WL.to K true [0, 3, 4, 27] rfl ⟨⟨(hS9508.subR [0]).sub [0] (by decide), hx9516.symm⟩, trivial⟩
     refine WL.setB 22 h9517 rfl ?_
     refine segF 7 [.v (iv ((rdD p0 x9400 z_Tile).E))] [0, 3, 4, 22, 24] [(0, (.slice A_p0 p0.length c_p0)), (3, (iv x9400)), (4, (pt g9409)), (22, (.bool false)), (24, (iv ((rdD p0 x9400 z_Tile).E)))] [] [1] [(6, ⟨g9409, 1, none⟩, (iv ((rdD p0 x9400 z_Tile).E)))] (fun fb => by kernel_rfl) rfl trivial rfl ?_
     obtain ⟨t9518, ht9519, hx9516⟩ := bind_some hx9516
     refine WL.call (some 25) 35 #[(iv ((rdD p0 x9400 z_Tile).E))] (fun fb => by kernel_rfl) (ref01_colour_calls ((rdD p0 x9400 z_Tile).E) t9518 _ ht9519) (fun v w9520 hR9521 => ?_)
     obtain ⟨rfl, hk_⟩ := hR9521
     have hS9522 := hS9508.keepN hk_
     refine ⟨⟨hS9522.cell 0 rfl 2 rfl, hS9522.cell 0 rfl 3 rfl, hS9522.cell 0 rfl 0 rfl, hS9522.cell 0 rfl 1 rfl, hS9522.cell 0 rfl 2 rfl, hS9522.cell 0 rfl 3 rfl, trivial⟩, ?_⟩
     refine seg 10 [] [0, 3, 4, 27] [(0, (.slice A_p0 p0.length c_p0)), (3, (iv x9400)), (4, (pt g9409)), (27, (.bool (!t9518)))] [] (fun fb => by kernel_rfl) rfl trivial ?_
     injection hx9516 with hx9516
     exact WL.to K (!t9518) [0, 3, 4, 27] rfl ⟨⟨(hS9522.subR [0]).sub [0] (by decide), hx9516.symm⟩, trivial⟩
    rintro y9523 w9525 ⟨⟨hS9526, hq9524⟩, hF9527⟩
    subst hq9524
    refine seg 11 [] [0, 3, 4, 28] [(0, (.slice A_p0 p0.length c_p0)), (3, (iv x9400)), (4, (pt g9409)), (28, (.bool x9515))] [] (fun fb => by kernel_rfl) rfl trivial ?_
    obtain ⟨x9534, hx9535, hl9406⟩ := bind_some hl9406
    refine WL.cutW (T := Bool) 16 (fun t => [(0, (.slice A_p0 p0.length c_p0)), (3, (iv x9400)), (4, (pt g9409)), (33, (.bool t))]) (fun t w1 => (St NoS w w1 [rowR enc_Tile A_p0 c_p0 p0] [blk g9409 (.cells #[(iv ((rdD p0 x9400 z_Tile).N)), (iv ((rdD p0 x9400 z_Tile).E)), (iv ((rdD p0 x9400 z_Tile).S)), (iv ((rdD p0 x9400 z_Tile).W))] 24 (0, 0))] ∧ x9534 = t) ∧ CellsOK [] w1) (fun K => ?_) ?_
    ·
     rcases br_some hx9535 with ⟨h9536, hx9535⟩ | ⟨h9536, hx9535⟩
     ·
      refine WL.setB 28 h9536 rfl ?_
      refine seg 16 [] [0, 3, 4, 33] [(0, (.slice A_p0 p0.length c_p0)), (3, (iv x9400)), (4, (pt g9409)), (33, (.bool true))] [] (fun fb => by kernel_rfl) rfl trivial ?_
      injection hx9535 with hx9535
      exact WL.to K true [0, 3, 4, 33] rfl ⟨⟨(hS9526.subR [0]).sub [0] (by decide), hx9535.symm⟩, trivial⟩
     refine WL.setB 28 h9536 rfl ?_
     refine segF 13 [.v (iv ((rdD p0 x9400 z_Tile).S))] [0, 3, 4, 28, 30] [(0, (.slice A_p0 p0.length c_p0)), (3, (iv x9400)), (4, (pt g9409)), (28, (.bool false)), (30, (iv ((rdD p0 x9400 z_Tile).S)))] [] [2] [(12, ⟨g9409, 2, none⟩, (iv ((rdD p0 x9400 z_Tile).S)))] (fun fb => by kernel_rfl) rfl trivial rfl ?_
     obtain ⟨t9537, ht9538, hx9535⟩ := bind_some hx9535
     refine WL.call (some 31) 35 #[(iv ((rdD p0 x9400 z_Tile).S))] (fun fb => by kernel_rfl) (ref01_colour_calls ((rdD p0 x9400 z_Tile).S) t9537 _ ht9538) (fun v w9539 hR9540 => ?_)
     obtain ⟨rfl, hk_⟩ := hR9540
     have hS9541 := hS9526.keepN hk_
     refine ⟨⟨hS9541.cell 0 rfl 3 rfl, hS9541.cell 0 rfl 0 rfl, hS9541.cell 0 rfl 1 rfl, hS9541.cell 0 rfl 2 rfl, hS9541.cell 0 rfl 3 rfl, trivial⟩, ?_⟩
     refine seg 16 [] [0, 3, 4, 33] [(0, (.slice A_p0 p0.length c_p0)), (3, (iv x9400)), (4, (pt g9409)), (33, (.bool (!t9537)))] [] (fun fb => by kernel_rfl) rfl trivial ?_
     injection hx9535 with hx9535
     exact WL.to K (!t9537) [0, 3, 4, 33] rfl ⟨⟨(hS9541.subR [0]).sub [0] (by decide), hx9535.symm⟩, trivial⟩
    rintro y9542 w9544 ⟨⟨hS9545, hq9543⟩, hF9546⟩
    subst hq9543
    refine seg 17 [] [0, 3, 4, 34] [(0, (.slice A_p0 p0.length c_p0)), (3, (iv x9400)), (4, (pt g9409)), (34, (.bool x9534))] [] (fun fb => by kernel_rfl) rfl trivial ?_
    obtain ⟨x9553, hx9554, hl9406⟩ := bind_some hl9406
    refine WL.cutW (T := Bool) 22 (fun t => [(0, (.slice A_p0 p0.length c_p0)), (3, (iv x9400)), (4, (pt g9409)), (39, (.bool t))]) (fun t w1 => (St NoS w w1 [rowR enc_Tile A_p0 c_p0 p0] [blk g9409 (.cells #[(iv ((rdD p0 x9400 z_Tile).N)), (iv ((rdD p0 x9400 z_Tile).E)), (iv ((rdD p0 x9400 z_Tile).S)), (iv ((rdD p0 x9400 z_Tile).W))] 24 (0, 0))] ∧ x9553 = t) ∧ CellsOK [] w1) (fun K => ?_) ?_
    ·
     rcases br_some hx9554 with ⟨h9555, hx9554⟩ | ⟨h9555, hx9554⟩
     ·
      refine WL.setB 34 h9555 rfl ?_
      refine seg 22 [] [0, 3, 4, 39] [(0, (.slice A_p0 p0.length c_p0)), (3, (iv x9400)), (4, (pt g9409)), (39, (.bool true))] [] (fun fb => by kernel_rfl) rfl trivial ?_
      injection hx9554 with hx9554
      exact WL.to K true [0, 3, 4, 39] rfl ⟨⟨(hS9545.subR [0]).sub [0] (by decide), hx9554.symm⟩, trivial⟩
     refine WL.setB 34 h9555 rfl ?_
     refine segF 19 [.v (iv ((rdD p0 x9400 z_Tile).W))] [0, 3, 4, 34, 36] [(0, (.slice A_p0 p0.length c_p0)), (3, (iv x9400)), (4, (pt g9409)), (34, (.bool false)), (36, (iv ((rdD p0 x9400 z_Tile).W)))] [] [3] [(18, ⟨g9409, 3, none⟩, (iv ((rdD p0 x9400 z_Tile).W)))] (fun fb => by kernel_rfl) rfl trivial rfl ?_
     obtain ⟨t9556, ht9557, hx9554⟩ := bind_some hx9554
     refine WL.call (some 37) 35 #[(iv ((rdD p0 x9400 z_Tile).W))] (fun fb => by kernel_rfl) (ref01_colour_calls ((rdD p0 x9400 z_Tile).W) t9556 _ ht9557) (fun v w9558 hR9559 => ?_)
     obtain ⟨rfl, hk_⟩ := hR9559
     have hS9560 := hS9545.keepN hk_
     refine ⟨⟨hS9560.cell 0 rfl 0 rfl, hS9560.cell 0 rfl 1 rfl, hS9560.cell 0 rfl 2 rfl, hS9560.cell 0 rfl 3 rfl, trivial⟩, ?_⟩
     refine seg 22 [] [0, 3, 4, 39] [(0, (.slice A_p0 p0.length c_p0)), (3, (iv x9400)), (4, (pt g9409)), (39, (.bool (!t9556)))] [] (fun fb => by kernel_rfl) rfl trivial ?_
     injection hx9554 with hx9554
     exact WL.to K (!t9556) [0, 3, 4, 39] rfl ⟨⟨(hS9560.subR [0]).sub [0] (by decide), hx9554.symm⟩, trivial⟩
    rintro y9561 w9563 ⟨⟨hS9564, hq9562⟩, hF9565⟩
    subst hq9562
    refine seg 23 [] [0, 3, 4, 40] [(0, (.slice A_p0 p0.length c_p0)), (3, (iv x9400)), (4, (pt g9409)), (40, (.bool x9553))] [] (fun fb => by kernel_rfl) rfl trivial ?_
    obtain ⟨x9574, hx9575, hl9406⟩ := bind_some hl9406
    refine WL.cutW (T := Bool) 30 (fun t => [(0, (.slice A_p0 p0.length c_p0)), (3, (iv x9400)), (47, (.bool t))]) (fun t w1 => (St NoS w w1 [rowR enc_Tile A_p0 c_p0 p0] [] ∧ x9574 = t) ∧ CellsOK [] w1) (fun K => ?_) ?_
    ·
     rcases br_some hx9575 with ⟨h9576, hx9575⟩ | ⟨h9576, hx9575⟩
     ·
      refine WL.setB 40 h9576 rfl ?_
      refine seg 30 [] [0, 3, 47] [(0, (.slice A_p0 p0.length c_p0)), (3, (iv x9400)), (47, (.bool true))] [] (fun fb => by kernel_rfl) rfl trivial ?_
      injection hx9575 with hx9575
      exact WL.to K true [0, 3, 47] rfl ⟨⟨(hS9564.subR [0]).sub [] (by decide), hx9575.symm⟩, trivial⟩
     refine WL.setB 40 h9576 rfl ?_
     refine seg 25 [] [0, 3, 4, 40, 41, 42] [(0, (.slice A_p0 p0.length c_p0)), (3, (iv x9400)), (4, (pt g9409)), (40, (.bool false)), (41, (.slice A_p0 p0.length c_p0)), (42, (iv x9400))] [] (fun fb => by kernel_rfl) rfl trivial ?_
     obtain ⟨h9577, hx9575⟩ := as_some hx9575
     refine seg 26 [] [0, 3, 4, 40, 43] [(0, (.slice A_p0 p0.length c_p0)), (3, (iv x9400)), (4, (pt g9409)), (40, (.bool false)), (43, (.slice (subA A_p0 c_p0 (0 : Int).toNat 4) (x9400.toNat - (0 : Int).toNat) (c_p0 - (0 : Int).toNat)))] [.idx (some ⟨0, 0, none⟩) (0 : Int) (x9400.toNat + 1), .idx (some ⟨0, 0, none⟩) x9400 (c_p0 + 1)] (fun fb => by kernel_rfl) rfl ⟨cut1 h9577.1 h9577.2.1, cut2 h9577.1 h9577.2.1 h9577.2.2 (hS9564.rd 0).1.2, trivial⟩ ?_
     refine WL.reE [0, 3, 4, 40, 43] [(0, (.slice A_p0 p0.length c_p0)), (3, (iv x9400)), (4, (pt g9409)), (40, (.bool false)), (43, (.slice (subA A_p0 c_p0 (0 : Int).toNat 4) (x9400.toNat - (0 : Int).toNat) (c_p0 - (0 : Int).toNat)))] [(0, (.slice A_p0 p0.length c_p0)), (3, (iv x9400)), (4, (pt g9409)), (40, (.bool false)), (43, (.slice (subA A_p0 c_p0 (0 : Int).toNat 4) (cut p0 (0 : Int) x9400).length (c_p0 - (0 : Int).toNat)))] rfl (by rw [cut_length h9577.1 h9577.2.1 h9577.2.2]) ?_
     have hS9578 := hS9564.cutR 0 rfl h9577.1 h9577.2.1 h9577.2.2
     refine segF 27 [.v (iv ((rdD p0 x9400 z_Tile).N)), .v (iv ((rdD p0 x9400 z_Tile).E)), .v (iv ((rdD p0 x9400 z_Tile).S)), .v (iv ((rdD p0 x9400 z_Tile).W))] [0, 3, 40, 43, 44] [(0, (.slice A_p0 p0.length c_p0)), (3, (iv x9400)), (40, (.bool false)), (43, (.slice (subA A_p0 c_p0 (0 : Int).toNat 4) (cut p0 (0 : Int) x9400).length (c_p0 - (0 : Int).toNat))), (44, (.agg #[(iv ((rdD p0 x9400 z_Tile).N)), (iv ((rdD p0 x9400 z_Tile).E)), (iv ((rdD p0 x9400 z_Tile).S)), (iv ((rdD p0 x9400 z_Tile).W))]))] [] [4, 5, 6, 7] [(26, ⟨g9409, 0, none⟩, (iv ((rdD p0 x9400 z_Tile).N))), (26, ⟨g9409, 1, none⟩, (iv ((rdD p0 x9400 z_Tile).E))), (26, ⟨g9409, 2, none⟩, (iv ((rdD p0 x9400 z_Tile).S))), (26, ⟨g9409, 3, none⟩, (iv ((rdD p0 x9400 z_Tile).W)))] (fun fb => by kernel_rfl) rfl trivial rfl ?_
     obtain ⟨t9579, ht9580, hx9575⟩ := bind_some hx9575
     refine WL.call (some 45) 12 #[(.slice (subA A_p0 c_p0 (0 : Int).toNat 4) (cut p0 (0 : Int) x9400).length (c_p0 - (0 : Int).toNat)), (.agg #[(iv ((rdD p0 x9400 z_Tile).N)), (iv ((rdD p0 x9400 z_Tile).E)), (iv ((rdD p0 x9400 z_Tile).S)), (iv ((rdD p0 x9400 z_Tile).W))])] (fun fb => by kernel_rfl) (ref01_Index_calls _ (cut p0 (0 : Int) x9400) (rdD p0 x9400 z_Tile) (subA A_p0 c_p0 (0 : Int).toNat 4) (c_p0 - (0 : Int).toNat) t9579 _ (hS9578.rd 0) ht9580) (fun v w9581 hR9582 => ?_)
     obtain ⟨rfl, hk_⟩ := hR9582
     have hS9583 := hS9578.keepN hk_
     refine ⟨trivial, ?_⟩
     refine seg 30 [] [0, 3, 47] [(0, (.slice A_p0 p0.length c_p0)), (3, (iv x9400)), (47, (.bool (decide (t9579 ≥ 0))))] [] (fun fb => by kernel_rfl) rfl trivial ?_
     injection hx9575 with hx9575
     exact WL.to K (decide (t9579 ≥ 0)) [0, 3, 47] rfl ⟨⟨(hS9583.subR [1]).sub [] (by decide), hx9575.symm⟩, trivial⟩
    rintro y9584 w9586 ⟨⟨hS9587, hq9585⟩, hF9588⟩
    subst hq9585
    refine WL.done rfl ?_
    refine WX.next ?_
    rcases br_some hl9406 with ⟨h9589, hl9406⟩ | ⟨h9589, hl9406⟩
    ·refine WC.condT2 (fun fb => by kernel_rfl) h9589 ?_
     refine WC.seq ?_
     refine WC.region ?_
     refine seg 1 [] [2] [(2, (.bool false))] [] (fun fb => by kernel_rfl) rfl trivial ?_
     refine WL.done rfl ?_
     refine WX.next ?_
     refine WC.ret ?_
     injection hl9406 with hl9406
     subst hl9406
     injection hf with hf
     subst hf
     exact WX.blockR (WX.thenR (WX.thenR (WX.blockR (WX.thenR (WX.ret_ [] (.bool false) [] (fun fb => by kernel_rfl) trivial ⟨_, rfl, rfl, hS9587.keep⟩)))))
    refine WC.condF2 (fun fb => by kernel_rfl) h9589 ?_
    refine WC.skip ?_
    refine WX.blockN (WX.next ?_)
    refine WC.region ?_
    refine seg 3 [] [0, 3] [(0, (.slice A_p0 p0.length c_p0)), (3, (iv (w64 (x9400 + 1))))] [] (fun fb => by kernel_rfl) rfl trivial ?_
    refine WL.done rfl ?_
    exact WX.again k9403 (Nat.lt_succ_self _) (w64 (x9400 + 1)) [0, 3] rfl ⟨(hS9587.subR [0]).sub [] (by decide), hl9406⟩
   refine WC.condF2 (fun fb => by kernel_rfl) h9407 ?_
   refine WC.exit ?_
   injection hl9406 with hl9406
   exact WX.thenX (WX.thenX (WX.blockHere (WX.to Kx9401 () [] rfl ⟨(hS9405.subR [0]).sub [] (by decide), hl9406.symm⟩)))
 rintro y9593 w9590 ⟨hS9591, hq9592⟩
 subst hq9592
 have hf := sum_inr hf
 refine WX.next ?_
 refine WC.seq ?_
 refine WC.region ?_
 refine seg 1 [] [2] [(2, (.bool true))] [] (fun fb => by kernel_rfl) rfl trivial ?_
 refine WL.done rfl ?_
 refine WX.next ?_
 refine WC.ret ?_
 injection hf with hf
 subst hf
 exact WX.ret_ [] (.bool true) [] (fun fb => by kernel_rfl) trivial ⟨_, rfl, rfl, hS9591.keep⟩
end Gp
