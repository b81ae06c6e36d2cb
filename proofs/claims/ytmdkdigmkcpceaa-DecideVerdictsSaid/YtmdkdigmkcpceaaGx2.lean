/- Walks: each function of the program computes its plain function. -/
import Derived.Test.YtmdkdigmkcpceaaGx1
set_option linter.unusedVariables false
set_option linter.unusedSimpArgs false
set_option maxHeartbeats 4000000
namespace Gp
open Go Gw Go.Proofs
theorem torus_rings_calls (k : Nat) (p0 : List Tile) (p1 : Int) (A_p0 : Option Addr) (c_p0 : Nat) (r : (List Row)) (w : World) (hR0 : RO NoS w (rowR enc_Tile A_p0 c_p0 p0)) (hf : torus_rings k p0 p1 = some r) :
  CallsR Try.prog 62 #[(.slice A_p0 p0.length c_p0), (iv p1)] w (fun v w' => ∃ (A1_ : Option Addr), ∃ (c1_ : Nat), ∃ (h1_ : Nat → HF), v = (.slice A1_ r.length c1_) ∧ St NoS w w' [] [rowO 88 encN_Row A1_ c1_ (tag h1_ r), poolO [nestO subN_Row h1_ r]]) := by
 have hS : St NoS w w [rowR enc_Tile A_p0 c_p0 p0] [] := St.init (ro_cons hR0 (ro_nil _ _))
 refine enter 27 Try.func62 rfl Try.ntmps62 rfl ?_
 unfold torus_rings at hf
 refine WC.seq ?_
 refine WC.region ?_
 refine seg 1 [] [0, 1] [(0, (.slice A_p0 p0.length c_p0)), (1, (iv p1))] [] (fun fb => by kernel_rfl) rfl trivial ?_
 refine WL.done rfl ?_
 refine WX.next ?_
 refine WC.seq ?_
 refine WC.region ?_
 refine seg 1 [] [0, 1, 5] [(0, (.slice A_p0 p0.length c_p0)), (1, (iv p1)), (5, (.slice none 0 0))] [] (fun fb => by kernel_rfl) rfl trivial ?_
 refine WL.done rfl ?_
 refine WX.next ?_
 refine WC.seq ?_
 refine WC.seq ?_
 refine WC.region ?_
 refine seg 2 [] [5, 8, 9] [(5, (.slice none 0 0)), (8, (.slice A_p0 p0.length c_p0)), (9, (iv p1))] [] (fun fb => by kernel_rfl) rfl trivial ?_
 obtain ⟨t6018, ht6019, hf⟩ := bind_some hf
 refine WL.call (some 10) 67 #[(.slice A_p0 p0.length c_p0), (iv p1)] (fun fb => by kernel_rfl) (rows_All_calls _ p0 p1 A_p0 c_p0 t6018 _ (hS.rd 0) ht6019) (fun v w6020 hR6021 => ?_)
 obtain ⟨A6023, c6024, H6025, rfl, hk_⟩ := hR6021
 have hS6022 : St NoS w w6020 [rowR enc_Tile A_p0 c_p0 p0] [rowO 88 encN_Row A6023 c6024 (tag H6025 t6018), poolO [nestO subN_Row H6025 t6018]] := hS.call hk_ [] [] (fun g hg => hg.elim) (by simp) (by decide)
 refine ⟨trivial, ?_⟩
 refine seg 5 [] [5, 10, 11, 12] [(5, (.slice none 0 0)), (10, (.slice A6023 t6018.length c6024)), (11, (iv (t6018.length : Int))), (12, (iv 0))] [] (fun fb => by kernel_rfl) rfl trivial ?_
 refine WL.done rfl ?_
 refine WX.next ?_
 have hS6127 : St NoS w w6020 [rowR enc_Tile A_p0 c_p0 p0] [rowO 88 encN_Row none 0 (tag h0 ([] : List Row)), rowO 88 encN_Row A6023 c6024 (tag H6025 t6018), poolO [nestO subN_Row H6025 t6018]] := hS6022.nilrow 88 encN_Row
 have hS6128 := hS6127.poolNil subN_Row h0
 have hS6129 : St NoS w w6020 [rowR enc_Tile A_p0 c_p0 p0] [poolO [nestO subN_Row h0 ([] : List Row), nestO subN_Row H6025 t6018], rowO 88 encN_Row none 0 (tag h0 ([] : List Row)), rowO 88 encN_Row A6023 c6024 (tag H6025 t6018)] := hS6128.poolMerge 0 3 rfl rfl [1, 2] (by decide) (by decide)
 obtain ⟨x6139, hx6140, hf⟩ := bind_some hf
 refine WC.cutN (T := (List Row) × (Option Addr) × Nat × (Nat → HF)) (fun t => [(5, (.slice t.2.1 t.1.length t.2.2.1))]) (fun t w1 => St NoS w w1 [rowR enc_Tile A_p0 c_p0 p0] [rowO 88 encN_Row t.2.1 t.2.2.1 (tag t.2.2.2 t.1), poolO [nestO subN_Row t.2.2.2 t.1]] ∧ x6139 = t.1) (fun Kx6139 => ?_) ?_
 ·
  refine WC.block ?_
  refine WC.loop (T := ((List Row) × Int) × (Option Addr) × Nat × (Nat → HF)) (fun t => [(5, (.slice t.2.1 t.1.1.length t.2.2.1)), (10, (.slice A6023 t6018.length c6024)), (11, (iv (t6018.length : Int))), (12, (iv t.1.2))]) (fun n t w1 => St NoS w w1 [rowR enc_Tile A_p0 c_p0 p0] [rowO 88 encN_Row t.2.1 t.2.2.1 (tag t.2.2.2 t.1.1), poolO [nestO subN_Row t.2.2.2 t.1.1, nestO subN_Row H6025 t6018], rowO 88 encN_Row A6023 c6024 (tag H6025 t6018)] ∧ torus_rings.l0 n t.1.1 t.1.2 t6018 = some x6139) k ((([] : List Row), 0), none, 0, h0) [5, 10, 11, 12] rfl ⟨(hS6129.subR [0]).sub [1, 0, 2] (by decide), hx6140⟩ ?_
  rintro k6141 ⟨⟨l6132, x6134⟩, A6130, c6131, H6133⟩ w6142 ⟨hS6143, hl6144⟩
  cases k6141 with
  | zero => rw [torus_rings.l0] at hl6144; cases hl6144
  | succ k6141 =>
   rw [torus_rings.l0] at hl6144
   refine WC.seq ?_
   refine WC.region ?_
   refine seg 1 [] [5, 10, 11, 12, 13] [(5, (.slice A6130 l6132.length c6131)), (10, (.slice A6023 t6018.length c6024)), (11, (iv (t6018.length : Int))), (12, (iv x6134)), (13, (.bool (decide (x6134 < (t6018.length : Int)))))] [] (fun fb => by kernel_rfl) rfl trivial ?_
   refine WL.done rfl ?_
   refine WX.next ?_
   refine WC.seq ?_
   rcases br_some hl6144 with ⟨h6145, hl6144⟩ | ⟨h6145, hl6144⟩
   ·refine WC.condT2 (fun fb => by kernel_rfl) h6145 ?_
    refine WC.skip ?_
    refine WX.next ?_
    refine WC.seq ?_
    refine WC.block ?_
    refine WC.seq ?_
    refine WC.region ?_
    obtain ⟨h6146, hl6144⟩ := as_some hl6144
    refine seg 2 [.v (.slice ((H6025 x6134.toNat 0).1) ((rdD t6018 x6134 z_Row).Cells).length ((H6025 x6134.toNat 0).2)), .v (iv (((rdD t6018 x6134 z_Row).South).e0)), .v (iv (((rdD t6018 x6134 z_Row).South).e1)), .v (iv (((rdD t6018 x6134 z_Row).South).e2)), .v (iv (((rdD t6018 x6134 z_Row).South).e3)), .v (iv (((rdD t6018 x6134 z_Row).South).e4)), .v (iv (((rdD t6018 x6134 z_Row).South).e5)), .v (iv (((rdD t6018 x6134 z_Row).South).e6)), .v (iv (((rdD t6018 x6134 z_Row).South).e7)), .v (iv (((rdD t6018 x6134 z_Row).North).e0)), .v (iv (((rdD t6018 x6134 z_Row).North).e1)), .v (iv (((rdD t6018 x6134 z_Row).North).e2)), .v (iv (((rdD t6018 x6134 z_Row).North).e3)), .v (iv (((rdD t6018 x6134 z_Row).North).e4)), .v (iv (((rdD t6018 x6134 z_Row).North).e5)), .v (iv (((rdD t6018 x6134 z_Row).North).e6)), .v (iv (((rdD t6018 x6134 z_Row).North).e7)), .v (iv ((rdD t6018 x6134 z_Row).West)), .v (iv ((rdD t6018 x6134 z_Row).East))] [5, 10, 11, 12, 15] [(5, (.slice A6130 l6132.length c6131)), (10, (.slice A6023 t6018.length c6024)), (11, (iv (t6018.length : Int))), (12, (iv x6134)), (15, (.agg #[(.slice ((H6025 x6134.toNat 0).1) ((rdD t6018 x6134 z_Row).Cells).length ((H6025 x6134.toNat 0).2)), (iv (((rdD t6018 x6134 z_Row).South).e0)), (iv (((rdD t6018 x6134 z_Row).South).e1)), (iv (((rdD t6018 x6134 z_Row).South).e2)), (iv (((rdD t6018 x6134 z_Row).South).e3)), (iv (((rdD t6018 x6134 z_Row).South).e4)), (iv (((rdD t6018 x6134 z_Row).South).e5)), (iv (((rdD t6018 x6134 z_Row).South).e6)), (iv (((rdD t6018 x6134 z_Row).South).e7)), (iv (((rdD t6018 x6134 z_Row).North).e0)), (iv (((rdD t6018 x6134 z_Row).North).e1)), (iv (((rdD t6018 x6134 z_Row).North).e2)), (iv (((rdD t6018 x6134 z_Row).North).e3)), (iv (((rdD t6018 x6134 z_Row).North).e4)), (iv (((rdD t6018 x6134 z_Row).North).e5)), (iv (((rdD t6018 x6134 z_Row).North).e6)), (iv (((rdD t6018 x6134 z_Row).North).e7)), (iv ((rdD t6018 x6134 z_Row).West)), (iv ((rdD t6018 x6134 z_Row).East))]))] [.idx A6023 x6134 t6018.length, .cell ((adr A6023).add ((x6134).toNat * 19)) (.slice ((H6025 x6134.toNat 0).1) ((rdD t6018 x6134 z_Row).Cells).length ((H6025 x6134.toNat 0).2)), .cell (((adr A6023).add ((x6134).toNat * 19)).add 1) (iv (((rdD t6018 x6134 z_Row).South).e0)), .cell (((adr A6023).add ((x6134).toNat * 19)).add 2) (iv (((rdD t6018 x6134 z_Row).South).e1)), .cell (((adr A6023).add ((x6134).toNat * 19)).add 3) (iv (((rdD t6018 x6134 z_Row).South).e2)), .cell (((adr A6023).add ((x6134).toNat * 19)).add 4) (iv (((rdD t6018 x6134 z_Row).South).e3)), .cell (((adr A6023).add ((x6134).toNat * 19)).add 5) (iv (((rdD t6018 x6134 z_Row).South).e4)), .cell (((adr A6023).add ((x6134).toNat * 19)).add 6) (iv (((rdD t6018 x6134 z_Row).South).e5)), .cell (((adr A6023).add ((x6134).toNat * 19)).add 7) (iv (((rdD t6018 x6134 z_Row).South).e6)), .cell (((adr A6023).add ((x6134).toNat * 19)).add 8) (iv (((rdD t6018 x6134 z_Row).South).e7)), .cell (((adr A6023).add ((x6134).toNat * 19)).add 9) (iv (((rdD t6018 x6134 z_Row).North).e0)), .cell (((adr A6023).add ((x6134).toNat * 19)).add 10) (iv (((rdD t6018 x6134 z_Row).North).e1)), .cell (((adr A6023).add ((x6134).toNat * 19)).add 11) (iv (((rdD t6018 x6134 z_Row).North).e2)), .cell (((adr A6023).add ((x6134).toNat * 19)).add 12) (iv (((rdD t6018 x6134 z_Row).North).e3)), .cell (((adr A6023).add ((x6134).toNat * 19)).add 13) (iv (((rdD t6018 x6134 z_Row).North).e4)), .cell (((adr A6023).add ((x6134).toNat * 19)).add 14) (iv (((rdD t6018 x6134 z_Row).North).e5)), .cell (((adr A6023).add ((x6134).toNat * 19)).add 15) (iv (((rdD t6018 x6134 z_Row).North).e6)), .cell (((adr A6023).add ((x6134).toNat * 19)).add 16) (iv (((rdD t6018 x6134 z_Row).North).e7)), .cell (((adr A6023).add ((x6134).toNat * 19)).add 17) (iv ((rdD t6018 x6134 z_Row).West)), .cell (((adr A6023).add ((x6134).toNat * 19)).add 18) (iv ((rdD t6018 x6134 z_Row).East))] (fun fb => by kernel_rfl) rfl ⟨nrow_adr (rowO.rd (hS6143.own 2).1) h6146.1 h6146.2, nrow_cell (rowO.rd (hS6143.own 2).1) z_Row h6146.1 h6146.2 0 rfl, nrow_cell (rowO.rd (hS6143.own 2).1) z_Row h6146.1 h6146.2 1 rfl, nrow_cell (rowO.rd (hS6143.own 2).1) z_Row h6146.1 h6146.2 2 rfl, nrow_cell (rowO.rd (hS6143.own 2).1) z_Row h6146.1 h6146.2 3 rfl, nrow_cell (rowO.rd (hS6143.own 2).1) z_Row h6146.1 h6146.2 4 rfl, nrow_cell (rowO.rd (hS6143.own 2).1) z_Row h6146.1 h6146.2 5 rfl, nrow_cell (rowO.rd (hS6143.own 2).1) z_Row h6146.1 h6146.2 6 rfl, nrow_cell (rowO.rd (hS6143.own 2).1) z_Row h6146.1 h6146.2 7 rfl, nrow_cell (rowO.rd (hS6143.own 2).1) z_Row h6146.1 h6146.2 8 rfl, nrow_cell (rowO.rd (hS6143.own 2).1) z_Row h6146.1 h6146.2 9 rfl, nrow_cell (rowO.rd (hS6143.own 2).1) z_Row h6146.1 h6146.2 10 rfl, nrow_cell (rowO.rd (hS6143.own 2).1) z_Row h6146.1 h6146.2 11 rfl, nrow_cell (rowO.rd (hS6143.own 2).1) z_Row h6146.1 h6146.2 12 rfl, nrow_cell (rowO.rd (hS6143.own 2).1) z_Row h6146.1 h6146.2 13 rfl, nrow_cell (rowO.rd (hS6143.own 2).1) z_Row h6146.1 h6146.2 14 rfl, nrow_cell (rowO.rd (hS6143.own 2).1) z_Row h6146.1 h6146.2 15 rfl, nrow_cell (rowO.rd (hS6143.own 2).1) z_Row h6146.1 h6146.2 16 rfl, nrow_cell (rowO.rd (hS6143.own 2).1) z_Row h6146.1 h6146.2 17 rfl, nrow_cell (rowO.rd (hS6143.own 2).1) z_Row h6146.1 h6146.2 18 rfl, trivial⟩ ?_
    refine WL.new hS6143 7 [] (fun g => (.pointer (some ⟨g, 0, none⟩))) (.cells #[(.slice none 0 0), (iv 0), (iv 0), (iv 0), (iv 0), (iv 0), (iv 0), (iv 0), (iv 0), (iv 0), (iv 0), (iv 0), (iv 0), (iv 0), (iv 0), (iv 0), (iv 0), (iv 0), (iv 0)] 88 (0, 0)) [] (fun fb g => by kernel_rfl) trivial (fun g6147 w6148 hS6149 => ?_)
    refine ⟨trivial, ?_⟩
    refine WL.store hS6149 0 rfl [(0, (.slice ((H6025 x6134.toNat 0).1) ((rdD t6018 x6134 z_Row).Cells).length ((H6025 x6134.toNat 0).2))), (1, (iv (((rdD t6018 x6134 z_Row).South).e0))), (2, (iv (((rdD t6018 x6134 z_Row).South).e1))), (3, (iv (((rdD t6018 x6134 z_Row).South).e2))), (4, (iv (((rdD t6018 x6134 z_Row).South).e3))), (5, (iv (((rdD t6018 x6134 z_Row).South).e4))), (6, (iv (((rdD t6018 x6134 z_Row).South).e5))), (7, (iv (((rdD t6018 x6134 z_Row).South).e6))), (8, (iv (((rdD t6018 x6134 z_Row).South).e7))), (9, (iv (((rdD t6018 x6134 z_Row).North).e0))), (10, (iv (((rdD t6018 x6134 z_Row).North).e1))), (11, (iv (((rdD t6018 x6134 z_Row).North).e2))), (12, (iv (((rdD t6018 x6134 z_Row).North).e3))), (13, (iv (((rdD t6018 x6134 z_Row).North).e4))), (14, (iv (((rdD t6018 x6134 z_Row).North).e5))), (15, (iv (((rdD t6018 x6134 z_Row).North).e6))), (16, (iv (((rdD t6018 x6134 z_Row).North).e7))), (17, (iv ((rdD t6018 x6134 z_Row).West))), (18, (iv ((rdD t6018 x6134 z_Row).East)))] #[(.slice ((H6025 x6134.toNat 0).1) ((rdD t6018 x6134 z_Row).Cells).length ((H6025 x6134.toNat 0).2)), (iv (((rdD t6018 x6134 z_Row).South).e0)), (iv (((rdD t6018 x6134 z_Row).South).e1)), (iv (((rdD t6018 x6134 z_Row).South).e2)), (iv (((rdD t6018 x6134 z_Row).South).e3)), (iv (((rdD t6018 x6134 z_Row).South).e4)), (iv (((rdD t6018 x6134 z_Row).South).e5)), (iv (((rdD t6018 x6134 z_Row).South).e6)), (iv (((rdD t6018 x6134 z_Row).South).e7)), (iv (((rdD t6018 x6134 z_Row).North).e0)), (iv (((rdD t6018 x6134 z_Row).North).e1)), (iv (((rdD t6018 x6134 z_Row).North).e2)), (iv (((rdD t6018 x6134 z_Row).North).e3)), (iv (((rdD t6018 x6134 z_Row).North).e4)), (iv (((rdD t6018 x6134 z_Row).North).e5)), (iv (((rdD t6018 x6134 z_Row).North).e6)), (iv (((rdD t6018 x6134 z_Row).North).e7)), (iv ((rdD t6018 x6134 z_Row).West)), (iv ((rdD t6018 x6134 z_Row).East))] (fun fb => by kernel_rfl) (by kernel_rfl) (by kernel_rfl) [1, 2, 3] (by decide) (by decide) (fun w6151 hS6152 => ?_)
    refine ⟨trivial, ?_⟩
    refine WL.done rfl ?_
    refine WX.next ?_
    refine WC.seq ?_
    refine WC.region ?_
    refine seg 5 [.v (iv ((rdD t6018 x6134 z_Row).West)), .v (iv ((rdD t6018 x6134 z_Row).East))] [5, 7, 10, 11, 12, 20] [(5, (.slice A6130 l6132.length c6131)), (7, (pt g6147)), (10, (.slice A6023 t6018.length c6024)), (11, (iv (t6018.length : Int))), (12, (iv x6134)), (20, (.bool (((rdD t6018 x6134 z_Row).West) == ((rdD t6018 x6134 z_Row).East))))] [.cell ⟨g6147, 17, none⟩ (iv ((rdD t6018 x6134 z_Row).West)), .cell ⟨g6147, 18, none⟩ (iv ((rdD t6018 x6134 z_Row).East))] (fun fb => by kernel_rfl) rfl ⟨hS6152.cell 0 rfl 17 rfl, hS6152.cell 0 rfl 18 rfl, trivial⟩ ?_
    refine WL.done rfl ?_
    refine WX.next ?_
    obtain ⟨x6169, hx6170, hl6144⟩ := bind_some hl6144
    refine WC.cutN (T := (List Row) × (Option Addr) × Nat × (Nat → HF)) (fun t => [(5, (.slice t.2.1 t.1.length t.2.2.1)), (10, (.slice A6023 t6018.length c6024)), (11, (iv (t6018.length : Int))), (12, (iv x6134))]) (fun t w1 => St NoS w w1 [rowR enc_Tile A_p0 c_p0 p0] [rowO 88 encN_Row t.2.1 t.2.2.1 (tag t.2.2.2 t.1), poolO [nestO subN_Row t.2.2.2 t.1, nestO subN_Row H6025 t6018], rowO 88 encN_Row A6023 c6024 (tag H6025 t6018)] ∧ x6169 = t.1) (fun Kx6169 => ?_) ?_
    ·
     rcases br_some hx6170 with ⟨h6171, hx6170⟩ | ⟨h6171, hx6170⟩
     ·refine WC.condT2 (fun fb => by kernel_rfl) h6171 ?_
      refine WC.region ?_
      refine seg 2 [.v (.slice ((H6025 x6134.toNat 0).1) ((rdD t6018 x6134 z_Row).Cells).length ((H6025 x6134.toNat 0).2)), .v (iv (((rdD t6018 x6134 z_Row).South).e0)), .v (iv (((rdD t6018 x6134 z_Row).South).e1)), .v (iv (((rdD t6018 x6134 z_Row).South).e2)), .v (iv (((rdD t6018 x6134 z_Row).South).e3)), .v (iv (((rdD t6018 x6134 z_Row).South).e4)), .v (iv (((rdD t6018 x6134 z_Row).South).e5)), .v (iv (((rdD t6018 x6134 z_Row).South).e6)), .v (iv (((rdD t6018 x6134 z_Row).South).e7)), .v (iv (((rdD t6018 x6134 z_Row).North).e0)), .v (iv (((rdD t6018 x6134 z_Row).North).e1)), .v (iv (((rdD t6018 x6134 z_Row).North).e2)), .v (iv (((rdD t6018 x6134 z_Row).North).e3)), .v (iv (((rdD t6018 x6134 z_Row).North).e4)), .v (iv (((rdD t6018 x6134 z_Row).North).e5)), .v (iv (((rdD t6018 x6134 z_Row).North).e6)), .v (iv (((rdD t6018 x6134 z_Row).North).e7)), .v (iv ((rdD t6018 x6134 z_Row).West)), .v (iv ((rdD t6018 x6134 z_Row).East))] [10, 11, 12, 21, 22] [(10, (.slice A6023 t6018.length c6024)), (11, (iv (t6018.length : Int))), (12, (iv x6134)), (21, (.slice A6130 l6132.length c6131)), (22, (.agg #[(.slice ((H6025 x6134.toNat 0).1) ((rdD t6018 x6134 z_Row).Cells).length ((H6025 x6134.toNat 0).2)), (iv (((rdD t6018 x6134 z_Row).South).e0)), (iv (((rdD t6018 x6134 z_Row).South).e1)), (iv (((rdD t6018 x6134 z_Row).South).e2)), (iv (((rdD t6018 x6134 z_Row).South).e3)), (iv (((rdD t6018 x6134 z_Row).South).e4)), (iv (((rdD t6018 x6134 z_Row).South).e5)), (iv (((rdD t6018 x6134 z_Row).South).e6)), (iv (((rdD t6018 x6134 z_Row).South).e7)), (iv (((rdD t6018 x6134 z_Row).North).e0)), (iv (((rdD t6018 x6134 z_Row).North).e1)), (iv (((rdD t6018 x6134 z_Row).North).e2)), (iv (((rdD t6018 x6134 z_Row).North).e3)), (iv (((rdD t6018 x6134 z_Row).North).e4)), (iv (((rdD t6018 x6134 z_Row).North).e5)), (iv (((rdD t6018 x6134 z_Row).North).e6)), (iv (((rdD t6018 x6134 z_Row).North).e7)), (iv ((rdD t6018 x6134 z_Row).West)), (iv ((rdD t6018 x6134 z_Row).East))]))] [.cell ⟨g6147, 0, none⟩ (.slice ((H6025 x6134.toNat 0).1) ((rdD t6018 x6134 z_Row).Cells).length ((H6025 x6134.toNat 0).2)), .cell ⟨g6147, 1, none⟩ (iv (((rdD t6018 x6134 z_Row).South).e0)), .cell ⟨g6147, 2, none⟩ (iv (((rdD t6018 x6134 z_Row).South).e1)), .cell ⟨g6147, 3, none⟩ (iv (((rdD t6018 x6134 z_Row).South).e2)), .cell ⟨g6147, 4, none⟩ (iv (((rdD t6018 x6134 z_Row).South).e3)), .cell ⟨g6147, 5, none⟩ (iv (((rdD t6018 x6134 z_Row).South).e4)), .cell ⟨g6147, 6, none⟩ (iv (((rdD t6018 x6134 z_Row).South).e5)), .cell ⟨g6147, 7, none⟩ (iv (((rdD t6018 x6134 z_Row).South).e6)), .cell ⟨g6147, 8, none⟩ (iv (((rdD t6018 x6134 z_Row).South).e7)), .cell ⟨g6147, 9, none⟩ (iv (((rdD t6018 x6134 z_Row).North).e0)), .cell ⟨g6147, 10, none⟩ (iv (((rdD t6018 x6134 z_Row).North).e1)), .cell ⟨g6147, 11, none⟩ (iv (((rdD t6018 x6134 z_Row).North).e2)), .cell ⟨g6147, 12, none⟩ (iv (((rdD t6018 x6134 z_Row).North).e3)), .cell ⟨g6147, 13, none⟩ (iv (((rdD t6018 x6134 z_Row).North).e4)), .cell ⟨g6147, 14, none⟩ (iv (((rdD t6018 x6134 z_Row).North).e5)), .cell ⟨g6147, 15, none⟩ (iv (((rdD t6018 x6134 z_Row).North).e6)), .cell ⟨g6147, 16, none⟩ (iv (((rdD t6018 x6134 z_Row).North).e7)), .cell ⟨g6147, 17, none⟩ (iv ((rdD t6018 x6134 z_Row).West)), .cell ⟨g6147, 18, none⟩ (iv ((rdD t6018 x6134 z_Row).East))] (fun fb => by kernel_rfl) rfl ⟨hS6152.cell 0 rfl 0 rfl, hS6152.cell 0 rfl 1 rfl, hS6152.cell 0 rfl 2 rfl, hS6152.cell 0 rfl 3 rfl, hS6152.cell 0 rfl 4 rfl, hS6152.cell 0 rfl 5 rfl, hS6152.cell 0 rfl 6 rfl, hS6152.cell 0 rfl 7 rfl, hS6152.cell 0 rfl 8 rfl, hS6152.cell 0 rfl 9 rfl, hS6152.cell 0 rfl 10 rfl, hS6152.cell 0 rfl 11 rfl, hS6152.cell 0 rfl 12 rfl, hS6152.cell 0 rfl 13 rfl, hS6152.cell 0 rfl 14 rfl, hS6152.cell 0 rfl 15 rfl, hS6152.cell 0 rfl 16 rfl, hS6152.cell 0 rfl 17 rfl, hS6152.cell 0 rfl 18 rfl, trivial⟩ ?_
      refine WL.new hS6152 23 [] (fun g => (.slice (some ⟨g, 0, none⟩) 1 1)) (.cells #[(.slice ((H6025 x6134.toNat 0).1) ((rdD t6018 x6134 z_Row).Cells).length ((H6025 x6134.toNat 0).2)), (iv (((rdD t6018 x6134 z_Row).South).e0)), (iv (((rdD t6018 x6134 z_Row).South).e1)), (iv (((rdD t6018 x6134 z_Row).South).e2)), (iv (((rdD t6018 x6134 z_Row).South).e3)), (iv (((rdD t6018 x6134 z_Row).South).e4)), (iv (((rdD t6018 x6134 z_Row).South).e5)), (iv (((rdD t6018 x6134 z_Row).South).e6)), (iv (((rdD t6018 x6134 z_Row).South).e7)), (iv (((rdD t6018 x6134 z_Row).North).e0)), (iv (((rdD t6018 x6134 z_Row).North).e1)), (iv (((rdD t6018 x6134 z_Row).North).e2)), (iv (((rdD t6018 x6134 z_Row).North).e3)), (iv (((rdD t6018 x6134 z_Row).North).e4)), (iv (((rdD t6018 x6134 z_Row).North).e5)), (iv (((rdD t6018 x6134 z_Row).North).e6)), (iv (((rdD t6018 x6134 z_Row).North).e7)), (iv ((rdD t6018 x6134 z_Row).West)), (iv ((rdD t6018 x6134 z_Row).East))] 88 (0, 0)) [] (fun fb g => by kernel_rfl) trivial (fun g6172 w6173 hS6174 => ?_)
      refine ⟨trivial, ?_⟩
      have hS6176 : St NoS w w6173 [rowR enc_Tile A_p0 c_p0 p0] [rowO 88 encN_Row (some ⟨g6172, 0, none⟩) 1 [((hd1 ((H6025 x6134.toNat 0).1) ((H6025 x6134.toNat 0).2)), (rdD t6018 x6134 z_Row))], blk g6147 (.cells #[(.slice ((H6025 x6134.toNat 0).1) ((rdD t6018 x6134 z_Row).Cells).length ((H6025 x6134.toNat 0).2)), (iv (((rdD t6018 x6134 z_Row).South).e0)), (iv (((rdD t6018 x6134 z_Row).South).e1)), (iv (((rdD t6018 x6134 z_Row).South).e2)), (iv (((rdD t6018 x6134 z_Row).South).e3)), (iv (((rdD t6018 x6134 z_Row).South).e4)), (iv (((rdD t6018 x6134 z_Row).South).e5)), (iv (((rdD t6018 x6134 z_Row).South).e6)), (iv (((rdD t6018 x6134 z_Row).South).e7)), (iv (((rdD t6018 x6134 z_Row).North).e0)), (iv (((rdD t6018 x6134 z_Row).North).e1)), (iv (((rdD t6018 x6134 z_Row).North).e2)), (iv (((rdD t6018 x6134 z_Row).North).e3)), (iv (((rdD t6018 x6134 z_Row).North).e4)), (iv (((rdD t6018 x6134 z_Row).North).e5)), (iv (((rdD t6018 x6134 z_Row).North).e6)), (iv (((rdD t6018 x6134 z_Row).North).e7)), (iv ((rdD t6018 x6134 z_Row).West)), (iv ((rdD t6018 x6134 z_Row).East))] 88 (0, 0)), rowO 88 encN_Row A6130 c6131 (tag H6133 l6132), poolO [nestO subN_Row H6133 l6132, nestO subN_Row H6025 t6018], rowO 88 encN_Row A6023 c6024 (tag H6025 t6018)] := hS6174.map1 0 _ (fun h => rowO.ofBlk h rfl (Nat.le_of_ble_eq_true (by kernel_rfl))) (fun _ h => by obtain ⟨_, h1, h2⟩ := h; injection h1 with h1; subst h1; exact h2) [1, 2, 3, 4] (by decide) (by decide)
      obtain ⟨h6177, hx6170⟩ := as_some hx6170
      refine WL.appendN hS6176 2 (d := 24) (tS := 82) (z := (.agg #[(.slice none 0 0), (iv 0), (iv 0), (iv 0), (iv 0), (iv 0), (iv 0), (iv 0), (iv 0), (iv 0), (iv 0), (iv 0), (iv 0), (iv 0), (iv 0), (iv 0), (iv 0), (iv 0), (iv 0)])) (bytes := 168) (c2 := 1) (hx := (hd1 ((H6025 x6134.toNat 0).1) ((H6025 x6134.toNat 0).2))) (x := (rdD t6018 x6134 z_Row)) rfl (fun fb => by kernel_rfl) (rowO.rd (hS6176.own 0).1) (by kernel_rfl) (by kernel_rfl) rfl (by decide) h6177 (by decide) [0, 1, 3, 4] (by decide) (by decide) (fun A6178 c6179 w6180 hS6181 => ?_)
      have hS6182 : St NoS w w6180 [rowR enc_Tile A_p0 c_p0 p0] [poolO [nestO subN_Row (updH H6133 l6132.length (hd1 ((H6025 x6134.toNat 0).1) ((H6025 x6134.toNat 0).2))) (l6132 ++ [(rdD t6018 x6134 z_Row)]), nestO subN_Row H6025 t6018], rowO 88 encN_Row A6178 c6179 (tag (updH H6133 l6132.length (hd1 ((H6025 x6134.toNat 0).1) ((H6025 x6134.toNat 0).2))) (l6132 ++ [(rdD t6018 x6134 z_Row)])), rowO 88 encN_Row (some ⟨g6172, 0, none⟩) 1 [((hd1 ((H6025 x6134.toNat 0).1) ((H6025 x6134.toNat 0).2)), (rdD t6018 x6134 z_Row))], blk g6147 (.cells #[(.slice ((H6025 x6134.toNat 0).1) ((rdD t6018 x6134 z_Row).Cells).length ((H6025 x6134.toNat 0).2)), (iv (((rdD t6018 x6134 z_Row).South).e0)), (iv (((rdD t6018 x6134 z_Row).South).e1)), (iv (((rdD t6018 x6134 z_Row).South).e2)), (iv (((rdD t6018 x6134 z_Row).South).e3)), (iv (((rdD t6018 x6134 z_Row).South).e4)), (iv (((rdD t6018 x6134 z_Row).South).e5)), (iv (((rdD t6018 x6134 z_Row).South).e6)), (iv (((rdD t6018 x6134 z_Row).South).e7)), (iv (((rdD t6018 x6134 z_Row).North).e0)), (iv (((rdD t6018 x6134 z_Row).North).e1)), (iv (((rdD t6018 x6134 z_Row).North).e2)), (iv (((rdD t6018 x6134 z_Row).North).e3)), (iv (((rdD t6018 x6134 z_Row).North).e4)), (iv (((rdD t6018 x6134 z_Row).North).e5)), (iv (((rdD t6018 x6134 z_Row).North).e6)), (iv (((rdD t6018 x6134 z_Row).North).e7)), (iv ((rdD t6018 x6134 z_Row).West)), (iv ((rdD t6018 x6134 z_Row).East))] 88 (0, 0)), rowO 88 encN_Row A6023 c6024 (tag H6025 t6018)] := hS6181.poolPush 3 rfl 0 (by simp) rfl (hd1 ((H6025 x6134.toNat 0).1) ((H6025 x6134.toNat 0).2)) (rdD t6018 x6134 z_Row) (nestO.ro (poolO.ro (hS6181.ow 3) 1) z_Row h6146.1 h6146.2) [] (fun g hg => ⟨3, by simp, ⟨1, ⟨_, _, rdD_at (d := z_Row) h6146.1 h6146.2, hg⟩⟩⟩) _ rfl [0, 1, 2, 4] (by decide) (by decide)
      refine ⟨trivial, ?_⟩
      refine seg 5 [] [5, 10, 11, 12] [(5, (.slice A6178 (l6132 ++ [(rdD t6018 x6134 z_Row)]).length c6179)), (10, (.slice A6023 t6018.length c6024)), (11, (iv (t6018.length : Int))), (12, (iv x6134))] [] (fun fb => by kernel_rfl) rfl trivial ?_
      refine WL.done rfl ?_
      injection hx6170 with hx6170
      exact WX.to Kx6169 (l6132 ++ [(rdD t6018 x6134 z_Row)], A6178, c6179, (updH H6133 l6132.length (hd1 ((H6025 x6134.toNat 0).1) ((H6025 x6134.toNat 0).2)))) [5, 10, 11, 12] rfl ⟨(hS6182.subR [0]).sub [1, 0, 4] (by decide), hx6170.symm⟩
     refine WC.condF2 (fun fb => by kernel_rfl) h6171 ?_
     refine WC.skip ?_
     injection hx6170 with hx6170
     exact WX.to Kx6169 (l6132, A6130, c6131, H6133) [5, 10, 11, 12] rfl ⟨(hS6152.subR [0]).sub [1, 2, 3] (by decide), hx6170.symm⟩
    rintro ⟨y6186, A6165, c6166, H6168⟩ w6183 ⟨hS6184, hq6185⟩
    subst hq6185
    refine WX.blockN (WX.next ?_)
    refine WC.region ?_
    refine seg 2 [] [5, 10, 11, 12] [(5, (.slice A6165 x6169.length c6166)), (10, (.slice A6023 t6018.length c6024)), (11, (iv (t6018.length : Int))), (12, (iv (w64 (x6134 + 1))))] [] (fun fb => by kernel_rfl) rfl trivial ?_
    refine WL.done rfl ?_
    exact WX.again k6141 (Nat.lt_succ_self _) ((x6169, w64 (x6134 + 1)), A6165, c6166, H6168) [5, 10, 11, 12] rfl ⟨(hS6184.subR [0]).sub [0, 1, 2] (by decide), hl6144⟩
   refine WC.condF2 (fun fb => by kernel_rfl) h6145 ?_
   refine WC.exit ?_
   have hS6187 : St NoS w w6142 [rowR enc_Tile A_p0 c_p0 p0] [poolO [nestO subN_Row H6133 l6132], rowO 88 encN_Row A6130 c6131 (tag H6133 l6132), rowO 88 encN_Row A6023 c6024 (tag H6025 t6018)] := hS6143.poolSub 1 rfl [0] [0, 2] (by decide) (by decide)
   injection hl6144 with hl6144
   exact WX.thenX (WX.thenX (WX.blockHere (WX.to Kx6139 (l6132, A6130, c6131, H6133) [5] rfl ⟨(hS6187.subR [0]).sub [1, 0] (by decide), hl6144.symm⟩)))
 rintro ⟨y6191, A6135, c6136, H6138⟩ w6188 ⟨hS6189, hq6190⟩
 subst hq6190
 refine WX.next ?_
 refine WC.seq ?_
 refine WC.region ?_
 refine seg 2 [] [4] [(4, (.slice A6135 x6139.length c6136))] [] (fun fb => by kernel_rfl) rfl trivial ?_
 refine WL.done rfl ?_
 refine WX.next ?_
 refine WC.ret ?_
 injection hf with hf
 subst hf
 exact WX.ret_ [] (.slice A6135 x6139.length c6136) [] (fun fb => by kernel_rfl) trivial ⟨_, rfl, A6135, c6136, H6138, rfl, (hS6189.sub [0, 1] (by decide)).noR⟩
theorem torus_back_key86 : KeyK Try.prog 86 (aggI ints_A8_Int) := KeyK.array (n := 8) (by kernel_rfl) ints_A8_Int (fun _ => rfl) (fun x y h => by cases x; cases y; simp only [ints_A8_Int, List.cons.injEq, and_true] at h; obtain ⟨rfl, rfl, rfl, rfl, rfl, rfl, rfl, rfl⟩ := h; rfl)
theorem torus_back_calls (k : Nat) (p0 : List Row) (p1 : A8_Int) (p2 : Int) (A_p0 : Option Addr) (c_p0 : Nat) (H_p0 : Nat → HF) (r : (List (Option (List (A8_Int × Bool))))) (w : World) (hR0 : RO NoS w (rowR encN_Row A_p0 c_p0 (tag H_p0 p0))) (hR1 : RO NoS w (nestO subN_Row H_p0 p0)) (hf : torus_back k p0 p1 p2 = some r) :
  CallsR Try.prog 63 #[(.slice A_p0 p0.length c_p0), (.agg #[(iv p1.e0), (iv p1.e1), (iv p1.e2), (iv p1.e3), (iv p1.e4), (iv p1.e5), (iv p1.e6), (iv p1.e7)]), (iv p2)] w (fun v w' => ∃ (A1_ : Option Addr), ∃ (c1_ : Nat), ∃ (m1_ : Nat → Nat), v = (.slice A1_ r.length c1_) ∧ St NoS w w' [] [rowO 81 (encMap A8_Int Bool) A1_ c1_ (tag m1_ r), mapsO (aggI ints_A8_Int) vB m1_ r]) := by
 have hS : St NoS w w [rowR encN_Row A_p0 c_p0 (tag H_p0 p0), nestO subN_Row H_p0 p0] [] := St.init (ro_cons hR0 (ro_cons hR1 (ro_nil _ _)))
 refine enter 46 Try.func63 rfl Try.ntmps63 rfl ?_
 unfold torus_back at hf
 refine WC.seq ?_
 refine WC.region ?_
 refine WL.new hS 4 [] (fun g => (.pointer (some ⟨g, 0, none⟩))) (.cells #[(iv p1.e0), (iv p1.e1), (iv p1.e2), (iv p1.e3), (iv p1.e4), (iv p1.e5), (iv p1.e6), (iv p1.e7)] 86 (0, 0)) [] (fun fb g => by kernel_rfl) trivial (fun g6221 w6222 hS6223 => ?_)
 refine ⟨trivial, ?_⟩
 refine seg 2 [] [0, 2, 4] [(0, (.slice A_p0 p0.length c_p0)), (2, (iv p2)), (4, (pt g6221))] [] (fun fb => by kernel_rfl) rfl trivial ?_
 refine WL.done rfl ?_
 refine WX.next ?_
 refine WC.seq ?_
 refine WC.region ?_
 refine WL.new hS6223 12 [] (fun g => (.map (some g))) (mapObj (aggI ints_A8_Int) vB ([] : List (A8_Int × Bool))) [] (fun fb g => by kernel_rfl) trivial (fun g6225 w6226 hS6227 => ?_)
 refine ⟨trivial, ?_⟩
 refine seg 2 [.v (iv p1.e0), .v (iv p1.e1), .v (iv p1.e2), .v (iv p1.e3), .v (iv p1.e4), .v (iv p1.e5), .v (iv p1.e6), .v (iv p1.e7)] [0, 2, 12, 13] [(0, (.slice A_p0 p0.length c_p0)), (2, (iv p2)), (12, (.map (some g6225))), (13, (.agg #[(iv p1.e0), (iv p1.e1), (iv p1.e2), (iv p1.e3), (iv p1.e4), (iv p1.e5), (iv p1.e6), (iv p1.e7)]))] [.cell ⟨g6221, 0, none⟩ (iv p1.e0), .cell ⟨g6221, 1, none⟩ (iv p1.e1), .cell ⟨g6221, 2, none⟩ (iv p1.e2), .cell ⟨g6221, 3, none⟩ (iv p1.e3), .cell ⟨g6221, 4, none⟩ (iv p1.e4), .cell ⟨g6221, 5, none⟩ (iv p1.e5), .cell ⟨g6221, 6, none⟩ (iv p1.e6), .cell ⟨g6221, 7, none⟩ (iv p1.e7)] (fun fb => by kernel_rfl) rfl ⟨hS6227.cell 1 rfl 0 rfl, hS6227.cell 1 rfl 1 rfl, hS6227.cell 1 rfl 2 rfl, hS6227.cell 1 rfl 3 rfl, hS6227.cell 1 rfl 4 rfl, hS6227.cell 1 rfl 5 rfl, hS6227.cell 1 rfl 6 rfl, hS6227.cell 1 rfl 7 rfl, trivial⟩ ?_
 refine WL.mapput hS6227 0 (t := 81) (kT := 86) (eT := 4) (kE := (aggI ints_A8_Int)) (vE := vB) (l := ([] : List (A8_Int × Bool))) rfl p1 true (fun fb => by kernel_rfl) torus_back_key86 (by kernel_rfl) [1] (by decide) (by decide) (fun w6228 hS6229 => ?_)
 refine ⟨trivial, ?_⟩
 refine seg 4 [] [0, 2, 14] [(0, (.slice A_p0 p0.length c_p0)), (2, (iv p2)), (14, (.map (some g6225)))] [] (fun fb => by kernel_rfl) rfl trivial ?_
 refine WL.new hS6229 15 [] (fun g => (.slice (some ⟨g, 0, none⟩) 1 1)) (.cells #[(.map (some g6225))] 81 (0, 0)) [] (fun fb g => by kernel_rfl) trivial (fun g6230 w6231 hS6232 => ?_)
 refine ⟨trivial, ?_⟩
 have hS6234 : St NoS w w6231 [rowR encN_Row A_p0 c_p0 (tag H_p0 p0), nestO subN_Row H_p0 p0] [rowO 81 (encMap A8_Int Bool) (some ⟨g6230, 0, none⟩) 1 (tag (fun _ => g6225) [some (mput p1 true ([] : List (A8_Int × Bool)))]), blk g6225 (mapObj (aggI ints_A8_Int) vB (mput p1 true ([] : List (A8_Int × Bool)))), blk g6221 (.cells #[(iv p1.e0), (iv p1.e1), (iv p1.e2), (iv p1.e3), (iv p1.e4), (iv p1.e5), (iv p1.e6), (iv p1.e7)] 86 (0, 0))] := hS6232.map1 0 _ (fun h => rowO.ofBlk h rfl (Nat.le_of_ble_eq_true (by kernel_rfl))) (fun _ h => by obtain ⟨_, h1, h2⟩ := h; injection h1 with h1; subst h1; exact h2) [1, 2] (by decide) (by decide)
 have hS6235 : St NoS w w6231 [rowR encN_Row A_p0 c_p0 (tag H_p0 p0), nestO subN_Row H_p0 p0] [mapsO (aggI ints_A8_Int) vB (fun _ => g6225) [some (mput p1 true ([] : List (A8_Int × Bool)))], rowO 81 (encMap A8_Int Bool) (some ⟨g6230, 0, none⟩) 1 (tag (fun _ => g6225) [some (mput p1 true ([] : List (A8_Int × Bool)))]), blk g6221 (.cells #[(iv p1.e0), (iv p1.e1), (iv p1.e2), (iv p1.e3), (iv p1.e4), (iv p1.e5), (iv p1.e6), (iv p1.e7)] 86 (0, 0))] := hS6234.mapsOne 1 rfl [0, 2] (by decide) (by decide)
 refine seg 6 [] [0, 2, 7] [(0, (.slice A_p0 p0.length c_p0)), (2, (iv p2)), (7, (.slice (some ⟨g6230, 0, none⟩) [some (mput p1 true ([] : List (A8_Int × Bool)))].length 1))] [] (fun fb => by kernel_rfl) rfl trivial ?_
 refine WL.done rfl ?_
 refine WX.next ?_
 refine WC.seq ?_
 refine WC.seq ?_
 refine WC.region ?_
 refine seg 2 [] [0, 7, 16, 17] [(0, (.slice A_p0 p0.length c_p0)), (7, (.slice (some ⟨g6230, 0, none⟩) [some (mput p1 true ([] : List (A8_Int × Bool)))].length 1)), (16, (iv p2)), (17, (iv 0))] [] (fun fb => by kernel_rfl) rfl trivial ?_
 refine WL.done rfl ?_
 refine WX.next ?_
 obtain ⟨x6444, hx6445, hf⟩ := bind_some hf
 refine WC.cutN (T := (List (Option (List (A8_Int × Bool)))) × (Option Addr) × Nat × (Nat → Nat)) (fun t => [(7, (.slice t.2.1 t.1.length t.2.2.1))]) (fun t w1 => St NoS w w1 [rowR encN_Row A_p0 c_p0 (tag H_p0 p0), nestO subN_Row H_p0 p0] [rowO 81 (encMap A8_Int Bool) t.2.1 t.2.2.1 (tag t.2.2.2 t.1), mapsO (aggI ints_A8_Int) vB t.2.2.2 t.1] ∧ x6444 = t.1) (fun Kx6444 => ?_) ?_
 ·
  refine WC.block ?_
  refine WC.loop (T := ((List (Option (List (A8_Int × Bool)))) × Int) × (Option Addr) × Nat × (Nat → Nat)) (fun t => [(0, (.slice A_p0 p0.length c_p0)), (7, (.slice t.2.1 t.1.1.length t.2.2.1)), (16, (iv p2)), (17, (iv t.1.2))]) (fun n t w1 => St NoS w w1 [rowR encN_Row A_p0 c_p0 (tag H_p0 p0), nestO subN_Row H_p0 p0] [rowO 81 (encMap A8_Int Bool) t.2.1 t.2.2.1 (tag t.2.2.2 t.1.1), mapsO (aggI ints_A8_Int) vB t.2.2.2 t.1.1] ∧ torus_back.l0 n t.1.1 t.1.2 p0 p2 = some x6444) k (([some (mput p1 true ([] : List (A8_Int × Bool)))], 0), (some ⟨g6230, 0, none⟩), 1, (fun _ => g6225)) [0, 7, 16, 17] rfl ⟨(hS6235.subR [0, 1]).sub [1, 0] (by decide), hx6445⟩ ?_
  rintro k6446 ⟨⟨l6437, x6439⟩, A6435, c6436, H6438⟩ w6447 ⟨hS6448, hl6449⟩
  cases k6446 with
  | zero => rw [torus_back.l0] at hl6449; cases hl6449
  | succ k6446 =>
   rw [torus_back.l0] at hl6449
   refine WC.seq ?_
   refine WC.region ?_
   refine seg 1 [] [0, 7, 16, 17, 18] [(0, (.slice A_p0 p0.length c_p0)), (7, (.slice A6435 l6437.length c6436)), (16, (iv p2)), (17, (iv x6439)), (18, (.bool (decide (x6439 < p2))))] [] (fun fb => by kernel_rfl) rfl trivial ?_
   refine WL.done rfl ?_
   refine WX.next ?_
   refine WC.seq ?_
   rcases br_some hl6449 with ⟨h6450, hl6449⟩ | ⟨h6450, hl6449⟩
   ·refine WC.condT2 (fun fb => by kernel_rfl) h6450 ?_
    refine WC.skip ?_
    refine WX.next ?_
    refine WC.seq ?_
    refine WC.block ?_
    refine WC.seq ?_
    refine WC.region ?_
    refine seg 4 [] [0, 7, 16, 17, 19, 22] [(0, (.slice A_p0 p0.length c_p0)), (7, (.slice A6435 l6437.length c6436)), (16, (iv p2)), (17, (iv x6439)), (19, (.slice A6435 l6437.length c6436)), (22, (iv (w64 ((l6437.length : Int) - 1))))] [] (fun fb => by kernel_rfl) rfl trivial ?_
    obtain ⟨h6451, hl6449⟩ := as_some hl6449
    refine seg 5 [] [0, 7, 16, 17, 23] [(0, (.slice A_p0 p0.length c_p0)), (7, (.slice A6435 l6437.length c6436)), (16, (iv p2)), (17, (iv x6439)), (23, (.pointer (some ((adr A6435).add ((w64 ((l6437.length : Int) - 1)).toNat * 1)))))] [.idx A6435 (w64 ((l6437.length : Int) - 1)) l6437.length] (fun fb => by kernel_rfl) rfl ⟨nrow_adr (rowO.rd (hS6448.own 0).1) h6451.1 h6451.2, trivial⟩ ?_
    obtain ⟨m6452, hm6453, hl6449⟩ := bind_some hl6449
    refine seg 6 [.v (.map (some (H6438 (w64 ((l6437.length : Int) - 1)).toNat)))] [0, 7, 16, 17, 24] [(0, (.slice A_p0 p0.length c_p0)), (7, (.slice A6435 l6437.length c6436)), (16, (iv p2)), (17, (iv x6439)), (24, (.map (some (H6438 (w64 ((l6437.length : Int) - 1)).toNat))))] [.cell ((adr A6435).add ((w64 ((l6437.length : Int) - 1)).toNat * 1)) (.map (some (H6438 (w64 ((l6437.length : Int) - 1)).toNat)))] (fun fb => by kernel_rfl) rfl ⟨nrow_cell (rowO.rd (hS6448.own 0).1) none h6451.1 h6451.2 0 (mapV_some hm6453), trivial⟩ ?_
    refine WL.new hS6448 25 [] (fun g => (.map (some g))) (mapObj (aggI ints_A8_Int) vB ([] : List (A8_Int × Bool))) [] (fun fb g => by kernel_rfl) trivial (fun g6454 w6455 hS6456 => ?_)
    refine ⟨trivial, ?_⟩
    refine seg 9 [] [0, 7, 8, 9, 16, 17] [(0, (.slice A_p0 p0.length c_p0)), (7, (.slice A6435 l6437.length c6436)), (8, (.map (some (H6438 (w64 ((l6437.length : Int) - 1)).toNat)))), (9, (.map (some g6454))), (16, (iv p2)), (17, (iv x6439))] [] (fun fb => by kernel_rfl) rfl trivial ?_
    refine WL.done rfl ?_
    refine WX.next ?_
    refine WC.seq ?_
    refine WC.seq ?_
    refine WC.region ?_
    refine seg 3 [] [0, 7, 8, 9, 16, 17, 26, 27, 28] [(0, (.slice A_p0 p0.length c_p0)), (7, (.slice A6435 l6437.length c6436)), (8, (.map (some (H6438 (w64 ((l6437.length : Int) - 1)).toNat)))), (9, (.map (some g6454))), (16, (iv p2)), (17, (iv x6439)), (26, (.slice A_p0 p0.length c_p0)), (27, (iv (p0.length : Int))), (28, (iv 0))] [] (fun fb => by kernel_rfl) rfl trivial ?_
    refine WL.done rfl ?_
    refine WX.next ?_
    obtain ⟨x6504, hx6505, hl6449⟩ := bind_some hl6449
    refine WC.cutN (T := (List (A8_Int × Bool))) (fun t => [(0, (.slice A_p0 p0.length c_p0)), (7, (.slice A6435 l6437.length c6436)), (9, (.map (some g6454))), (16, (iv p2)), (17, (iv x6439))]) (fun t w1 => St NoS w w1 [rowR encN_Row A_p0 c_p0 (tag H_p0 p0), nestO subN_Row H_p0 p0] [rowO 81 (encMap A8_Int Bool) A6435 c6436 (tag H6438 l6437), mapsO (aggI ints_A8_Int) vB H6438 l6437, blk g6454 (mapObj (aggI ints_A8_Int) vB t)] ∧ x6504 = t) (fun Kx6504 => ?_) ?_
    ·
     refine WC.block ?_
     refine WC.loop (T := (List (A8_Int × Bool)) × Int) (fun t => [(0, (.slice A_p0 p0.length c_p0)), (7, (.slice A6435 l6437.length c6436)), (8, (.map (some (H6438 (w64 ((l6437.length : Int) - 1)).toNat)))), (9, (.map (some g6454))), (16, (iv p2)), (17, (iv x6439)), (26, (.slice A_p0 p0.length c_p0)), (27, (iv (p0.length : Int))), (28, (iv t.2))]) (fun n t w1 => St NoS w w1 [rowR encN_Row A_p0 c_p0 (tag H_p0 p0), nestO subN_Row H_p0 p0] [rowO 81 (encMap A8_Int Bool) A6435 c6436 (tag H6438 l6437), mapsO (aggI ints_A8_Int) vB H6438 l6437, blk g6454 (mapObj (aggI ints_A8_Int) vB t.1)] ∧ torus_back.l1 n t.1 t.2 p0 m6452 = some x6504) k6446 (([] : List (A8_Int × Bool)), 0) [0, 7, 8, 9, 16, 17, 26, 27, 28] rfl ⟨(hS6456.subR [0, 1]).sub [1, 2, 0] (by decide), hx6505⟩ ?_
     rintro k6506 ⟨l6501, x6502⟩ w6507 ⟨hS6508, hl6509⟩
     cases k6506 with
     | zero => rw [torus_back.l1] at hl6509; cases hl6509
     | succ k6506 =>
      rw [torus_back.l1] at hl6509
      refine WC.seq ?_
      refine WC.region ?_
      refine seg 1 [] [0, 7, 8, 9, 16, 17, 26, 27, 28, 29] [(0, (.slice A_p0 p0.length c_p0)), (7, (.slice A6435 l6437.length c6436)), (8, (.map (some (H6438 (w64 ((l6437.length : Int) - 1)).toNat)))), (9, (.map (some g6454))), (16, (iv p2)), (17, (iv x6439)), (26, (.slice A_p0 p0.length c_p0)), (27, (iv (p0.length : Int))), (28, (iv x6502)), (29, (.bool (decide (x6502 < (p0.length : Int)))))] [] (fun fb => by kernel_rfl) rfl trivial ?_
      refine WL.done rfl ?_
      refine WX.next ?_
      refine WC.seq ?_
      rcases br_some hl6509 with ⟨h6510, hl6509⟩ | ⟨h6510, hl6509⟩
      ·refine WC.condT2 (fun fb => by kernel_rfl) h6510 ?_
       refine WC.skip ?_
       refine WX.next ?_
       refine WC.seq ?_
       refine WC.block ?_
       refine WC.seq ?_
       refine WC.region ?_
       obtain ⟨h6511, hl6509⟩ := as_some hl6509
       refine seg 2 [.v (.slice ((H_p0 x6502.toNat 0).1) ((rdD p0 x6502 z_Row).Cells).length ((H_p0 x6502.toNat 0).2)), .v (iv (((rdD p0 x6502 z_Row).South).e0)), .v (iv (((rdD p0 x6502 z_Row).South).e1)), .v (iv (((rdD p0 x6502 z_Row).South).e2)), .v (iv (((rdD p0 x6502 z_Row).South).e3)), .v (iv (((rdD p0 x6502 z_Row).South).e4)), .v (iv (((rdD p0 x6502 z_Row).South).e5)), .v (iv (((rdD p0 x6502 z_Row).South).e6)), .v (iv (((rdD p0 x6502 z_Row).South).e7)), .v (iv (((rdD p0 x6502 z_Row).North).e0)), .v (iv (((rdD p0 x6502 z_Row).North).e1)), .v (iv (((rdD p0 x6502 z_Row).North).e2)), .v (iv (((rdD p0 x6502 z_Row).North).e3)), .v (iv (((rdD p0 x6502 z_Row).North).e4)), .v (iv (((rdD p0 x6502 z_Row).North).e5)), .v (iv (((rdD p0 x6502 z_Row).North).e6)), .v (iv (((rdD p0 x6502 z_Row).North).e7)), .v (iv ((rdD p0 x6502 z_Row).West)), .v (iv ((rdD p0 x6502 z_Row).East))] [0, 7, 8, 9, 16, 17, 26, 27, 28, 31] [(0, (.slice A_p0 p0.length c_p0)), (7, (.slice A6435 l6437.length c6436)), (8, (.map (some (H6438 (w64 ((l6437.length : Int) - 1)).toNat)))), (9, (.map (some g6454))), (16, (iv p2)), (17, (iv x6439)), (26, (.slice A_p0 p0.length c_p0)), (27, (iv (p0.length : Int))), (28, (iv x6502)), (31, (.agg #[(.slice ((H_p0 x6502.toNat 0).1) ((rdD p0 x6502 z_Row).Cells).length ((H_p0 x6502.toNat 0).2)), (iv (((rdD p0 x6502 z_Row).South).e0)), (iv (((rdD p0 x6502 z_Row).South).e1)), (iv (((rdD p0 x6502 z_Row).South).e2)), (iv (((rdD p0 x6502 z_Row).South).e3)), (iv (((rdD p0 x6502 z_Row).South).e4)), (iv (((rdD p0 x6502 z_Row).South).e5)), (iv (((rdD p0 x6502 z_Row).South).e6)), (iv (((rdD p0 x6502 z_Row).South).e7)), (iv (((rdD p0 x6502 z_Row).North).e0)), (iv (((rdD p0 x6502 z_Row).North).e1)), (iv (((rdD p0 x6502 z_Row).North).e2)), (iv (((rdD p0 x6502 z_Row).North).e3)), (iv (((rdD p0 x6502 z_Row).North).e4)), (iv (((rdD p0 x6502 z_Row).North).e5)), (iv (((rdD p0 x6502 z_Row).North).e6)), (iv (((rdD p0 x6502 z_Row).North).e7)), (iv ((rdD p0 x6502 z_Row).West)), (iv ((rdD p0 x6502 z_Row).East))]))] [.idx A_p0 x6502 p0.length, .cell ((adr A_p0).add ((x6502).toNat * 19)) (.slice ((H_p0 x6502.toNat 0).1) ((rdD p0 x6502 z_Row).Cells).length ((H_p0 x6502.toNat 0).2)), .cell (((adr A_p0).add ((x6502).toNat * 19)).add 1) (iv (((rdD p0 x6502 z_Row).South).e0)), .cell (((adr A_p0).add ((x6502).toNat * 19)).add 2) (iv (((rdD p0 x6502 z_Row).South).e1)), .cell (((adr A_p0).add ((x6502).toNat * 19)).add 3) (iv (((rdD p0 x6502 z_Row).South).e2)), .cell (((adr A_p0).add ((x6502).toNat * 19)).add 4) (iv (((rdD p0 x6502 z_Row).South).e3)), .cell (((adr A_p0).add ((x6502).toNat * 19)).add 5) (iv (((rdD p0 x6502 z_Row).South).e4)), .cell (((adr A_p0).add ((x6502).toNat * 19)).add 6) (iv (((rdD p0 x6502 z_Row).South).e5)), .cell (((adr A_p0).add ((x6502).toNat * 19)).add 7) (iv (((rdD p0 x6502 z_Row).South).e6)), .cell (((adr A_p0).add ((x6502).toNat * 19)).add 8) (iv (((rdD p0 x6502 z_Row).South).e7)), .cell (((adr A_p0).add ((x6502).toNat * 19)).add 9) (iv (((rdD p0 x6502 z_Row).North).e0)), .cell (((adr A_p0).add ((x6502).toNat * 19)).add 10) (iv (((rdD p0 x6502 z_Row).North).e1)), .cell (((adr A_p0).add ((x6502).toNat * 19)).add 11) (iv (((rdD p0 x6502 z_Row).North).e2)), .cell (((adr A_p0).add ((x6502).toNat * 19)).add 12) (iv (((rdD p0 x6502 z_Row).North).e3)), .cell (((adr A_p0).add ((x6502).toNat * 19)).add 13) (iv (((rdD p0 x6502 z_Row).North).e4)), .cell (((adr A_p0).add ((x6502).toNat * 19)).add 14) (iv (((rdD p0 x6502 z_Row).North).e5)), .cell (((adr A_p0).add ((x6502).toNat * 19)).add 15) (iv (((rdD p0 x6502 z_Row).North).e6)), .cell (((adr A_p0).add ((x6502).toNat * 19)).add 16) (iv (((rdD p0 x6502 z_Row).North).e7)), .cell (((adr A_p0).add ((x6502).toNat * 19)).add 17) (iv ((rdD p0 x6502 z_Row).West)), .cell (((adr A_p0).add ((x6502).toNat * 19)).add 18) (iv ((rdD p0 x6502 z_Row).East))] (fun fb => by kernel_rfl) rfl ⟨nrow_adr (hS6508.rd 0).1 h6511.1 h6511.2, nrow_cell (hS6508.rd 0).1 z_Row h6511.1 h6511.2 0 rfl, nrow_cell (hS6508.rd 0).1 z_Row h6511.1 h6511.2 1 rfl, nrow_cell (hS6508.rd 0).1 z_Row h6511.1 h6511.2 2 rfl, nrow_cell (hS6508.rd 0).1 z_Row h6511.1 h6511.2 3 rfl, nrow_cell (hS6508.rd 0).1 z_Row h6511.1 h6511.2 4 rfl, nrow_cell (hS6508.rd 0).1 z_Row h6511.1 h6511.2 5 rfl, nrow_cell (hS6508.rd 0).1 z_Row h6511.1 h6511.2 6 rfl, nrow_cell (hS6508.rd 0).1 z_Row h6511.1 h6511.2 7 rfl, nrow_cell (hS6508.rd 0).1 z_Row h6511.1 h6511.2 8 rfl, nrow_cell (hS6508.rd 0).1 z_Row h6511.1 h6511.2 9 rfl, nrow_cell (hS6508.rd 0).1 z_Row h6511.1 h6511.2 10 rfl, nrow_cell (hS6508.rd 0).1 z_Row h6511.1 h6511.2 11 rfl, nrow_cell (hS6508.rd 0).1 z_Row h6511.1 h6511.2 12 rfl, nrow_cell (hS6508.rd 0).1 z_Row h6511.1 h6511.2 13 rfl, nrow_cell (hS6508.rd 0).1 z_Row h6511.1 h6511.2 14 rfl, nrow_cell (hS6508.rd 0).1 z_Row h6511.1 h6511.2 15 rfl, nrow_cell (hS6508.rd 0).1 z_Row h6511.1 h6511.2 16 rfl, nrow_cell (hS6508.rd 0).1 z_Row h6511.1 h6511.2 17 rfl, nrow_cell (hS6508.rd 0).1 z_Row h6511.1 h6511.2 18 rfl, trivial⟩ ?_
       refine WL.new hS6508 11 [] (fun g => (.pointer (some ⟨g, 0, none⟩))) (.cells #[(.slice none 0 0), (iv 0), (iv 0), (iv 0), (iv 0), (iv 0), (iv 0), (iv 0), (iv 0), (iv 0), (iv 0), (iv 0), (iv 0), (iv 0), (iv 0), (iv 0), (iv 0), (iv 0), (iv 0)] 88 (0, 0)) [] (fun fb g => by kernel_rfl) trivial (fun g6512 w6513 hS6514 => ?_)
       refine ⟨trivial, ?_⟩
       refine WL.store hS6514 0 rfl [(0, (.slice ((H_p0 x6502.toNat 0).1) ((rdD p0 x6502 z_Row).Cells).length ((H_p0 x6502.toNat 0).2))), (1, (iv (((rdD p0 x6502 z_Row).South).e0))), (2, (iv (((rdD p0 x6502 z_Row).South).e1))), (3, (iv (((rdD p0 x6502 z_Row).South).e2))), (4, (iv (((rdD p0 x6502 z_Row).South).e3))), (5, (iv (((rdD p0 x6502 z_Row).South).e4))), (6, (iv (((rdD p0 x6502 z_Row).South).e5))), (7, (iv (((rdD p0 x6502 z_Row).South).e6))), (8, (iv (((rdD p0 x6502 z_Row).South).e7))), (9, (iv (((rdD p0 x6502 z_Row).North).e0))), (10, (iv (((rdD p0 x6502 z_Row).North).e1))), (11, (iv (((rdD p0 x6502 z_Row).North).e2))), (12, (iv (((rdD p0 x6502 z_Row).North).e3))), (13, (iv (((rdD p0 x6502 z_Row).North).e4))), (14, (iv (((rdD p0 x6502 z_Row).North).e5))), (15, (iv (((rdD p0 x6502 z_Row).North).e6))), (16, (iv (((rdD p0 x6502 z_Row).North).e7))), (17, (iv ((rdD p0 x6502 z_Row).West))), (18, (iv ((rdD p0 x6502 z_Row).East)))] #[(.slice ((H_p0 x6502.toNat 0).1) ((rdD p0 x6502 z_Row).Cells).length ((H_p0 x6502.toNat 0).2)), (iv (((rdD p0 x6502 z_Row).South).e0)), (iv (((rdD p0 x6502 z_Row).South).e1)), (iv (((rdD p0 x6502 z_Row).South).e2)), (iv (((rdD p0 x6502 z_Row).South).e3)), (iv (((rdD p0 x6502 z_Row).South).e4)), (iv (((rdD p0 x6502 z_Row).South).e5)), (iv (((rdD p0 x6502 z_Row).South).e6)), (iv (((rdD p0 x6502 z_Row).South).e7)), (iv (((rdD p0 x6502 z_Row).North).e0)), (iv (((rdD p0 x6502 z_Row).North).e1)), (iv (((rdD p0 x6502 z_Row).North).e2)), (iv (((rdD p0 x6502 z_Row).North).e3)), (iv (((rdD p0 x6502 z_Row).North).e4)), (iv (((rdD p0 x6502 z_Row).North).e5)), (iv (((rdD p0 x6502 z_Row).North).e6)), (iv (((rdD p0 x6502 z_Row).North).e7)), (iv ((rdD p0 x6502 z_Row).West)), (iv ((rdD p0 x6502 z_Row).East))] (fun fb => by kernel_rfl) (by kernel_rfl) (by kernel_rfl) [1, 2, 3] (by decide) (by decide) (fun w6516 hS6517 => ?_)
       refine ⟨trivial, ?_⟩
       refine WL.done rfl ?_
       refine WX.next ?_
       refine WC.seq ?_
       refine WC.region ?_
       refine seg 3 [.v (iv (((rdD p0 x6502 z_Row).North).e0)), .v (iv (((rdD p0 x6502 z_Row).North).e1)), .v (iv (((rdD p0 x6502 z_Row).North).e2)), .v (iv (((rdD p0 x6502 z_Row).North).e3)), .v (iv (((rdD p0 x6502 z_Row).North).e4)), .v (iv (((rdD p0 x6502 z_Row).North).e5)), .v (iv (((rdD p0 x6502 z_Row).North).e6)), .v (iv (((rdD p0 x6502 z_Row).North).e7))] [0, 7, 8, 9, 11, 16, 17, 26, 27, 28, 32, 34] [(0, (.slice A_p0 p0.length c_p0)), (7, (.slice A6435 l6437.length c6436)), (8, (.map (some (H6438 (w64 ((l6437.length : Int) - 1)).toNat)))), (9, (.map (some g6454))), (11, (pt g6512)), (16, (iv p2)), (17, (iv x6439)), (26, (.slice A_p0 p0.length c_p0)), (27, (iv (p0.length : Int))), (28, (iv x6502)), (32, (.map (some (H6438 (w64 ((l6437.length : Int) - 1)).toNat)))), (34, (.agg #[(iv (((rdD p0 x6502 z_Row).North).e0)), (iv (((rdD p0 x6502 z_Row).North).e1)), (iv (((rdD p0 x6502 z_Row).North).e2)), (iv (((rdD p0 x6502 z_Row).North).e3)), (iv (((rdD p0 x6502 z_Row).North).e4)), (iv (((rdD p0 x6502 z_Row).North).e5)), (iv (((rdD p0 x6502 z_Row).North).e6)), (iv (((rdD p0 x6502 z_Row).North).e7))]))] [.cell ⟨g6512, 9, none⟩ (iv (((rdD p0 x6502 z_Row).North).e0)), .cell ⟨g6512, 10, none⟩ (iv (((rdD p0 x6502 z_Row).North).e1)), .cell ⟨g6512, 11, none⟩ (iv (((rdD p0 x6502 z_Row).North).e2)), .cell ⟨g6512, 12, none⟩ (iv (((rdD p0 x6502 z_Row).North).e3)), .cell ⟨g6512, 13, none⟩ (iv (((rdD p0 x6502 z_Row).North).e4)), .cell ⟨g6512, 14, none⟩ (iv (((rdD p0 x6502 z_Row).North).e5)), .cell ⟨g6512, 15, none⟩ (iv (((rdD p0 x6502 z_Row).North).e6)), .cell ⟨g6512, 16, none⟩ (iv (((rdD p0 x6502 z_Row).North).e7))] (fun fb => by kernel_rfl) rfl ⟨hS6517.cell 0 rfl 9 rfl, hS6517.cell 0 rfl 10 rfl, hS6517.cell 0 rfl 11 rfl, hS6517.cell 0 rfl 12 rfl, hS6517.cell 0 rfl 13 rfl, hS6517.cell 0 rfl 14 rfl, hS6517.cell 0 rfl 15 rfl, hS6517.cell 0 rfl 16 rfl, trivial⟩ ?_
       refine WL.lookup (mapsO.at (hS6517.own 2).1 h6451.1 h6451.2 hm6453) ((rdD p0 x6502 z_Row).North) (d := 35) (c := false) (t := 81) (kT := 86) (eT := 4) (z := false) (kE := (aggI ints_A8_Int)) (vE := vB) (l := m6452) (.bool (mget ((rdD p0 x6502 z_Row).North) false m6452)) (fun fb => by kernel_rfl) torus_back_key86 (by kernel_rfl) (fun _ => by kernel_rfl) rfl ?_
       refine ⟨trivial, ?_⟩
       refine WL.done rfl ?_
       refine WX.next ?_
       obtain ⟨x6522, hx6523, hl6509⟩ := bind_some hl6509
       refine WC.cutN (T := (List (A8_Int × Bool))) (fun t => [(0, (.slice A_p0 p0.length c_p0)), (7, (.slice A6435 l6437.length c6436)), (8, (.map (some (H6438 (w64 ((l6437.length : Int) - 1)).toNat)))), (9, (.map (some g6454))), (16, (iv p2)), (17, (iv x6439)), (26, (.slice A_p0 p0.length c_p0)), (27, (iv (p0.length : Int))), (28, (iv x6502))]) (fun t w1 => St NoS w w1 [rowR encN_Row A_p0 c_p0 (tag H_p0 p0), nestO subN_Row H_p0 p0] [rowO 81 (encMap A8_Int Bool) A6435 c6436 (tag H6438 l6437), mapsO (aggI ints_A8_Int) vB H6438 l6437, blk g6454 (mapObj (aggI ints_A8_Int) vB t)] ∧ x6522 = t) (fun Kx6522 => ?_) ?_
       ·
        rcases br_some hx6523 with ⟨h6524, hx6523⟩ | ⟨h6524, hx6523⟩
        ·refine WC.condT2 (fun fb => by kernel_rfl) h6524 ?_
         refine WC.region ?_
         refine seg 3 [.v (iv (((rdD p0 x6502 z_Row).South).e0)), .v (iv (((rdD p0 x6502 z_Row).South).e1)), .v (iv (((rdD p0 x6502 z_Row).South).e2)), .v (iv (((rdD p0 x6502 z_Row).South).e3)), .v (iv (((rdD p0 x6502 z_Row).South).e4)), .v (iv (((rdD p0 x6502 z_Row).South).e5)), .v (iv (((rdD p0 x6502 z_Row).South).e6)), .v (iv (((rdD p0 x6502 z_Row).South).e7))] [0, 7, 8, 9, 16, 17, 26, 27, 28, 36, 38] [(0, (.slice A_p0 p0.length c_p0)), (7, (.slice A6435 l6437.length c6436)), (8, (.map (some (H6438 (w64 ((l6437.length : Int) - 1)).toNat)))), (9, (.map (some g6454))), (16, (iv p2)), (17, (iv x6439)), (26, (.slice A_p0 p0.length c_p0)), (27, (iv (p0.length : Int))), (28, (iv x6502)), (36, (.map (some g6454))), (38, (.agg #[(iv (((rdD p0 x6502 z_Row).South).e0)), (iv (((rdD p0 x6502 z_Row).South).e1)), (iv (((rdD p0 x6502 z_Row).South).e2)), (iv (((rdD p0 x6502 z_Row).South).e3)), (iv (((rdD p0 x6502 z_Row).South).e4)), (iv (((rdD p0 x6502 z_Row).South).e5)), (iv (((rdD p0 x6502 z_Row).South).e6)), (iv (((rdD p0 x6502 z_Row).South).e7))]))] [.cell ⟨g6512, 1, none⟩ (iv (((rdD p0 x6502 z_Row).South).e0)), .cell ⟨g6512, 2, none⟩ (iv (((rdD p0 x6502 z_Row).South).e1)), .cell ⟨g6512, 3, none⟩ (iv (((rdD p0 x6502 z_Row).South).e2)), .cell ⟨g6512, 4, none⟩ (iv (((rdD p0 x6502 z_Row).South).e3)), .cell ⟨g6512, 5, none⟩ (iv (((rdD p0 x6502 z_Row).South).e4)), .cell ⟨g6512, 6, none⟩ (iv (((rdD p0 x6502 z_Row).South).e5)), .cell ⟨g6512, 7, none⟩ (iv (((rdD p0 x6502 z_Row).South).e6)), .cell ⟨g6512, 8, none⟩ (iv (((rdD p0 x6502 z_Row).South).e7))] (fun fb => by kernel_rfl) rfl ⟨hS6517.cell 0 rfl 1 rfl, hS6517.cell 0 rfl 2 rfl, hS6517.cell 0 rfl 3 rfl, hS6517.cell 0 rfl 4 rfl, hS6517.cell 0 rfl 5 rfl, hS6517.cell 0 rfl 6 rfl, hS6517.cell 0 rfl 7 rfl, hS6517.cell 0 rfl 8 rfl, trivial⟩ ?_
         refine WL.mapput hS6517 3 (t := 81) (kT := 86) (eT := 4) (kE := (aggI ints_A8_Int)) (vE := vB) (l := l6501) rfl ((rdD p0 x6502 z_Row).South) true (fun fb => by kernel_rfl) torus_back_key86 (by kernel_rfl) [0, 1, 2] (by decide) (by decide) (fun w6525 hS6526 => ?_)
         refine ⟨trivial, ?_⟩
         refine WL.done rfl ?_
         injection hx6523 with hx6523
         exact WX.to Kx6522 (mput ((rdD p0 x6502 z_Row).South) true l6501) [0, 7, 8, 9, 16, 17, 26, 27, 28] rfl ⟨(hS6526.subR [0, 1]).sub [2, 3, 0] (by decide), hx6523.symm⟩
        refine WC.condF2 (fun fb => by kernel_rfl) h6524 ?_
        refine WC.skip ?_
        injection hx6523 with hx6523
        exact WX.to Kx6522 l6501 [0, 7, 8, 9, 16, 17, 26, 27, 28] rfl ⟨(hS6517.subR [0, 1]).sub [1, 2, 3] (by decide), hx6523.symm⟩
       rintro y6530 w6527 ⟨hS6528, hq6529⟩
       subst hq6529
       refine WX.blockN (WX.next ?_)
       refine WC.region ?_
       refine seg 2 [] [0, 7, 8, 9, 16, 17, 26, 27, 28] [(0, (.slice A_p0 p0.length c_p0)), (7, (.slice A6435 l6437.length c6436)), (8, (.map (some (H6438 (w64 ((l6437.length : Int) - 1)).toNat)))), (9, (.map (some g6454))), (16, (iv p2)), (17, (iv x6439)), (26, (.slice A_p0 p0.length c_p0)), (27, (iv (p0.length : Int))), (28, (iv (w64 (x6502 + 1))))] [] (fun fb => by kernel_rfl) rfl trivial ?_
       refine WL.done rfl ?_
       exact WX.again k6506 (Nat.lt_succ_self _) (x6522, w64 (x6502 + 1)) [0, 7, 8, 9, 16, 17, 26, 27, 28] rfl ⟨(hS6528.subR [0, 1]).sub [0, 1, 2] (by decide), hl6509⟩
      refine WC.condF2 (fun fb => by kernel_rfl) h6510 ?_
      refine WC.exit ?_
      injection hl6509 with hl6509
      exact WX.thenX (WX.thenX (WX.blockHere (WX.to Kx6504 l6501 [0, 7, 9, 16, 17] rfl ⟨(hS6508.subR [0, 1]).sub [0, 1, 2] (by decide), hl6509.symm⟩)))
    rintro y6534 w6531 ⟨hS6532, hq6533⟩
    subst hq6533
    refine WX.next ?_
    refine WC.region ?_
    refine seg 2 [] [0, 16, 17, 40, 41] [(0, (.slice A_p0 p0.length c_p0)), (16, (iv p2)), (17, (iv x6439)), (40, (.slice A6435 l6437.length c6436)), (41, (.map (some g6454)))] [] (fun fb => by kernel_rfl) rfl trivial ?_
    refine WL.new hS6532 42 [] (fun g => (.slice (some ⟨g, 0, none⟩) 1 1)) (.cells #[(.map (some g6454))] 81 (0, 0)) [] (fun fb g => by kernel_rfl) trivial (fun g6535 w6536 hS6537 => ?_)
    refine ⟨trivial, ?_⟩
    have hS6539 : St NoS w w6536 [rowR encN_Row A_p0 c_p0 (tag H_p0 p0), nestO subN_Row H_p0 p0] [rowO 81 (encMap A8_Int Bool) (some ⟨g6535, 0, none⟩) 1 (tag (fun _ => g6454) [some x6504]), rowO 81 (encMap A8_Int Bool) A6435 c6436 (tag H6438 l6437), mapsO (aggI ints_A8_Int) vB H6438 l6437, blk g6454 (mapObj (aggI ints_A8_Int) vB x6504)] := hS6537.map1 0 _ (fun h => rowO.ofBlk h rfl (Nat.le_of_ble_eq_true (by kernel_rfl))) (fun _ h => by obtain ⟨_, h1, h2⟩ := h; injection h1 with h1; subst h1; exact h2) [1, 2, 3] (by decide) (by decide)
    have hS6540 : St NoS w w6536 [rowR encN_Row A_p0 c_p0 (tag H_p0 p0), nestO subN_Row H_p0 p0] [mapsO (aggI ints_A8_Int) vB (fun _ => g6454) [some x6504], rowO 81 (encMap A8_Int Bool) (some ⟨g6535, 0, none⟩) 1 (tag (fun _ => g6454) [some x6504]), rowO 81 (encMap A8_Int Bool) A6435 c6436 (tag H6438 l6437), mapsO (aggI ints_A8_Int) vB H6438 l6437] := hS6539.mapsOne 3 rfl [0, 1, 2] (by decide) (by decide)
    obtain ⟨h6541, hl6449⟩ := as_some hl6449
    refine WL.appendN hS6540 2 (d := 43) (tS := 80) (z := (.map none)) (bytes := 8) (c2 := 1) (hx := g6454) (x := (some x6504)) rfl (fun fb => by kernel_rfl) (rowO.rd (hS6540.own 1).1) (by kernel_rfl) (by kernel_rfl) rfl (by decide) h6541 (by decide) [0, 1, 3] (by decide) (by decide) (fun A6542 c6543 w6544 hS6545 => ?_)
    have hS6546 : St NoS w w6544 [rowR encN_Row A_p0 c_p0 (tag H_p0 p0), nestO subN_Row H_p0 p0] [mapsO (aggI ints_A8_Int) vB (updH H6438 l6437.length g6454) (l6437 ++ [some x6504]), rowO 81 (encMap A8_Int Bool) A6542 c6543 (tag (updH H6438 l6437.length g6454) (l6437 ++ [some x6504])), rowO 81 (encMap A8_Int Bool) (some ⟨g6535, 0, none⟩) 1 (tag (fun _ => g6454) [some x6504])] := hS6545.mapsPush 3 1 rfl rfl (by decide) [0, 2] (by decide) (by decide)
    refine ⟨trivial, ?_⟩
    refine seg 5 [] [0, 7, 16, 17] [(0, (.slice A_p0 p0.length c_p0)), (7, (.slice A6542 (l6437 ++ [some x6504]).length c6543)), (16, (iv p2)), (17, (iv x6439))] [] (fun fb => by kernel_rfl) rfl trivial ?_
    refine WL.done rfl ?_
    refine WX.blockN (WX.next ?_)
    refine WC.region ?_
    refine seg 2 [] [0, 7, 16, 17] [(0, (.slice A_p0 p0.length c_p0)), (7, (.slice A6542 (l6437 ++ [some x6504]).length c6543)), (16, (iv p2)), (17, (iv (w64 (x6439 + 1))))] [] (fun fb => by kernel_rfl) rfl trivial ?_
    refine WL.done rfl ?_
    exact WX.again k6446 (Nat.lt_succ_self _) ((l6437 ++ [some x6504], w64 (x6439 + 1)), A6542, c6543, (updH H6438 l6437.length g6454)) [0, 7, 16, 17] rfl ⟨(hS6546.subR [0, 1]).sub [1, 0] (by decide), hl6449⟩
   refine WC.condF2 (fun fb => by kernel_rfl) h6450 ?_
   refine WC.exit ?_
   injection hl6449 with hl6449
   exact WX.thenX (WX.thenX (WX.blockHere (WX.to Kx6444 (l6437, A6435, c6436, H6438) [7] rfl ⟨(hS6448.subR [0, 1]).sub [0, 1] (by decide), hl6449.symm⟩)))
 rintro ⟨y6550, A6440, c6441, H6443⟩ w6547 ⟨hS6548, hq6549⟩
 subst hq6549
 refine WX.next ?_
 refine WC.seq ?_
 refine WC.region ?_
 refine seg 2 [] [6] [(6, (.slice A6440 x6444.length c6441))] [] (fun fb => by kernel_rfl) rfl trivial ?_
 refine WL.done rfl ?_
 refine WX.next ?_
 refine WC.ret ?_
 injection hf with hf
 subst hf
 exact WX.ret_ [] (.slice A6440 x6444.length c6441) [] (fun fb => by kernel_rfl) trivial ⟨_, rfl, A6440, c6441, H6443, rfl, (hS6548.sub [0, 1] (by decide)).noR⟩
theorem torus_find_key86 : KeyK Try.prog 86 (aggI ints_A8_Int) := KeyK.array (n := 8) (by kernel_rfl) ints_A8_Int (fun _ => rfl) (fun x y h => by cases x; cases y; simp only [ints_A8_Int, List.cons.injEq, and_true] at h; obtain ⟨rfl, rfl, rfl, rfl, rfl, rfl, rfl, rfl⟩ := h; rfl)
theorem torus_find_calls (k : Nat) (p0 : List Tile) (p1 : Int) (p2 : Int) (A_p0 : Option Addr) (c_p0 : Nat) (r : Pattern × Bool) (w : World) (hR0 : RO NoS w (rowR enc_Tile A_p0 c_p0 p0)) (hf : torus_find k p0 p1 p2 = some r) :
  CallsR Try.prog 46 #[(.slice A_p0 p0.length c_p0), (iv p1), (iv p2)] w (fun v w' => ∃ (A1_ : Option Addr), ∃ (c1_ : Nat), v = (.tuple #[(.agg #[(iv r.1.Width), (iv r.1.Height), (.slice A1_ r.1.Cells.length c1_)]), (.bool r.2)]) ∧ St NoS w w' [] [rowO 3 encInt A1_ c1_ r.1.Cells]) := by
 have hS : St NoS w w [rowR enc_Tile A_p0 c_p0 p0] [] := St.init (ro_cons hR0 (ro_nil _ _))
 refine enter 105 Try.func46 rfl Try.ntmps46 rfl ?_
 unfold torus_find at hf
 refine WC.seq ?_
 refine WC.region ?_
 refine WL.new hS 6 [] (fun g => (.pointer (some ⟨g, 0, none⟩))) (.cells #[(iv 0), (iv 0), (.slice none 0 0)] 38 (0, 0)) [] (fun fb g => by kernel_rfl) trivial (fun g6014 w6015 hS6016 => ?_)
 refine ⟨trivial, ?_⟩
 refine seg 2 [] [0, 1, 2, 6] [(0, (.slice A_p0 p0.length c_p0)), (1, (iv p1)), (2, (iv p2)), (6, (pt g6014))] [] (fun fb => by kernel_rfl) rfl trivial ?_
 refine WL.done rfl ?_
 refine WX.next ?_
 refine WC.scope ?_
 refine WC.seq ?_
 refine WC.region ?_
 refine seg 2 [] [1, 2, 6, 19, 20] [(1, (iv p1)), (2, (iv p2)), (6, (pt g6014)), (19, (.slice A_p0 p0.length c_p0)), (20, (iv p1))] [] (fun fb => by kernel_rfl) rfl trivial ?_
 obtain ⟨t6192, ht6193, hf⟩ := bind_some hf
 refine WL.call (some 21) 62 #[(.slice A_p0 p0.length c_p0), (iv p1)] (fun fb => by kernel_rfl) (torus_rings_calls _ p0 p1 A_p0 c_p0 t6192 _ (hS6016.rd 0) ht6193) (fun v w6194 hR6195 => ?_)
 obtain ⟨A6197, c6198, H6199, rfl, hk_⟩ := hR6195
 have hS6196 : St NoS w w6194 [rowR enc_Tile A_p0 c_p0 p0] [rowO 88 encN_Row A6197 c6198 (tag H6199 t6192), poolO [nestO subN_Row H6199 t6192], blk g6014 (.cells #[(iv 0), (iv 0), (.slice none 0 0)] 38 (0, 0))] := hS6016.call hk_ [] [0] (fun g hg => hg.elim) (by simp) (by decide)
 refine ⟨trivial, ?_⟩
 refine seg 4 [] [1, 2, 6, 8] [(1, (iv p1)), (2, (iv p2)), (6, (pt g6014)), (8, (.slice A6197 t6192.length c6198))] [] (fun fb => by kernel_rfl) rfl trivial ?_
 refine WL.done rfl ?_
 refine WX.next ?_
 refine WC.seq ?_
 refine WC.region ?_
 refine WL.new hS6196 22 [] (fun g => (.map (some g))) (mapObj (aggI ints_A8_Int) slV ([] : List (A8_Int × (HM × List (Option (List (A8_Int × Bool))))))) [] (fun fb g => by kernel_rfl) trivial (fun g6200 w6201 hS6202 => ?_)
 have hS6203 : St NoS w w6201 [knestO (aggI ints_A8_Int) vB ([] : List (A8_Int × (HM × List (Option (List (A8_Int × Bool)))))) ([] : List (A8_Int × List (Option (List (A8_Int × Bool))))), rowR enc_Tile A_p0 c_p0 p0] [blk g6200 (mapObj (aggI ints_A8_Int) slV ([] : List (A8_Int × (HM × List (Option (List (A8_Int × Bool))))))), rowO 88 encN_Row A6197 c6198 (tag H6199 t6192), poolO [nestO subN_Row H6199 t6192], blk g6014 (.cells #[(iv 0), (iv 0), (.slice none 0 0)] 38 (0, 0))] := hS6202.addR _ (knestO_nil _ _ _ _)
 refine ⟨trivial, ?_⟩
 refine seg 2 [] [1, 2, 6, 8, 9] [(1, (iv p1)), (2, (iv p2)), (6, (pt g6014)), (8, (.slice A6197 t6192.length c6198)), (9, (.map (some g6200)))] [] (fun fb => by kernel_rfl) rfl trivial ?_
 refine WL.done rfl ?_
 refine WX.next ?_
 refine WC.seq ?_
 refine WC.region ?_
 refine seg 3 [] [2, 6, 8, 9, 25] [(2, (iv p2)), (6, (pt g6014)), (8, (.slice A6197 t6192.length c6198)), (9, (.map (some g6200))), (25, (.agg #[(iv p1), (iv p2), (.slice none 0 0)]))] [] (fun fb => by kernel_rfl) rfl trivial ?_
 refine WL.new hS6203 10 [] (fun g => (.pointer (some ⟨g, 0, none⟩))) (.cells #[(iv 0), (iv 0), (.slice none 0 0)] 38 (0, 0)) [] (fun fb g => by kernel_rfl) trivial (fun g6204 w6205 hS6206 => ?_)
 refine ⟨trivial, ?_⟩
 refine WL.store hS6206 0 rfl [(0, (iv p1)), (1, (iv p2)), (2, (.slice none 0 0))] #[(iv p1), (iv p2), (.slice none 0 0)] (fun fb => by kernel_rfl) (by kernel_rfl) rfl [1, 2, 3, 4] (by decide) (by decide) (fun w6208 hS6209 => ?_)
 refine ⟨trivial, ?_⟩
 refine WL.done rfl ?_
 refine WX.next ?_
 refine WC.seq ?_
 refine WC.label ?_
 refine WX.next ?_
 refine WC.seq ?_
 refine WC.seq ?_
 refine WC.region ?_
 refine seg 3 [] [2, 6, 8, 9, 10, 26, 27, 28] [(2, (iv p2)), (6, (pt g6014)), (8, (.slice A6197 t6192.length c6198)), (9, (.map (some g6200))), (10, (pt g6204)), (26, (.slice A6197 t6192.length c6198)), (27, (iv (t6192.length : Int))), (28, (iv 0))] [] (fun fb => by kernel_rfl) rfl trivial ?_
 refine WL.done rfl ?_
 refine WX.next ?_
 obtain ⟨x7801, hx7802, hf⟩ := bind_some hf
 refine WC.cutN (T := Unit) (fun t => [(6, (pt g6014))]) (fun t w1 => St NoS w w1 [knestO (aggI ints_A8_Int) vB ([] : List (A8_Int × (HM × List (Option (List (A8_Int × Bool)))))) ([] : List (A8_Int × List (Option (List (A8_Int × Bool))))), rowR enc_Tile A_p0 c_p0 p0] [blk g6014 (.cells #[(iv 0), (iv 0), (.slice none 0 0)] 38 (0, 0))] ∧ x7801 = .inr t) (fun Kx7801 => ?_) ?_
 ·
  refine WC.block ?_
  refine WC.loop (T := ((List (A8_Int × List (Option (List (A8_Int × Bool))))) × Int) × (List (A8_Int × (HM × List (Option (List (A8_Int × Bool))))))) (fun t => [(2, (iv p2)), (6, (pt g6014)), (8, (.slice A6197 t6192.length c6198)), (9, (.map (some g6200))), (10, (pt g6204)), (26, (.slice A6197 t6192.length c6198)), (27, (iv (t6192.length : Int))), (28, (iv t.1.2))]) (fun n t w1 => St NoS w w1 [knestO (aggI ints_A8_Int) vB t.2 t.1.1, knestO (aggI ints_A8_Int) vB ([] : List (A8_Int × (HM × List (Option (List (A8_Int × Bool)))))) ([] : List (A8_Int × List (Option (List (A8_Int × Bool))))), rowR enc_Tile A_p0 c_p0 p0] [blk g6014 (.cells #[(iv 0), (iv 0), (.slice none 0 0)] 38 (0, 0)), rowO 88 encN_Row A6197 c6198 (tag H6199 t6192), poolO [nestO subN_Row H6199 t6192], blk g6200 (mapObj (aggI ints_A8_Int) slV t.2), blk g6204 (.cells #[(iv p1), (iv p2), (.slice none 0 0)] 38 (0, 0))] ∧ torus_find.l0 n t.1.1 t.1.2 p1 p2 t6192 = some x7801) k ((([] : List (A8_Int × List (Option (List (A8_Int × Bool))))), 0), ([] : List (A8_Int × (HM × List (Option (List (A8_Int × Bool))))))) [2, 6, 8, 9, 10, 26, 27, 28] rfl ⟨(hS6209.subR [0, 0, 1]).sub [4, 2, 3, 1, 0] (by decide), hx7802⟩ ?_
  rintro k7803 ⟨⟨l7798, x7800⟩, K7799⟩ w7804 ⟨hS7805, hl7806⟩
  cases k7803 with
  | zero => rw [torus_find.l0] at hl7806; cases hl7806
  | succ k7803 =>
   rw [torus_find.l0] at hl7806
   refine WC.seq ?_
   refine WC.region ?_
   refine seg 1 [] [2, 6, 8, 9, 10, 26, 27, 28, 29] [(2, (iv p2)), (6, (pt g6014)), (8, (.slice A6197 t6192.length c6198)), (9, (.map (some g6200))), (10, (pt g6204)), (26, (.slice A6197 t6192.length c6198)), (27, (iv (t6192.length : Int))), (28, (iv x7800)), (29, (.bool (decide (x7800 < (t6192.length : Int)))))] [] (fun fb => by kernel_rfl) rfl trivial ?_
   refine WL.done rfl ?_
   refine WX.next ?_
   refine WC.seq ?_
   rcases br_some hl7806 with ⟨h7807, hl7806⟩ | ⟨h7807, hl7806⟩
   ·refine WC.condT2 (fun fb => by kernel_rfl) h7807 ?_
    refine WC.skip ?_
    refine WX.next ?_
    refine WC.seq ?_
    refine WC.block ?_
    refine WC.seq ?_
    refine WC.region ?_
    obtain ⟨h7808, hl7806⟩ := as_some hl7806
    refine seg 2 [.v (.slice ((H6199 x7800.toNat 0).1) ((rdD t6192 x7800 z_Row).Cells).length ((H6199 x7800.toNat 0).2)), .v (iv (((rdD t6192 x7800 z_Row).South).e0)), .v (iv (((rdD t6192 x7800 z_Row).South).e1)), .v (iv (((rdD t6192 x7800 z_Row).South).e2)), .v (iv (((rdD t6192 x7800 z_Row).South).e3)), .v (iv (((rdD t6192 x7800 z_Row).South).e4)), .v (iv (((rdD t6192 x7800 z_Row).South).e5)), .v (iv (((rdD t6192 x7800 z_Row).South).e6)), .v (iv (((rdD t6192 x7800 z_Row).South).e7)), .v (iv (((rdD t6192 x7800 z_Row).North).e0)), .v (iv (((rdD t6192 x7800 z_Row).North).e1)), .v (iv (((rdD t6192 x7800 z_Row).North).e2)), .v (iv (((rdD t6192 x7800 z_Row).North).e3)), .v (iv (((rdD t6192 x7800 z_Row).North).e4)), .v (iv (((rdD t6192 x7800 z_Row).North).e5)), .v (iv (((rdD t6192 x7800 z_Row).North).e6)), .v (iv (((rdD t6192 x7800 z_Row).North).e7)), .v (iv ((rdD t6192 x7800 z_Row).West)), .v (iv ((rdD t6192 x7800 z_Row).East))] [2, 6, 8, 9, 10, 26, 27, 28, 31] [(2, (iv p2)), (6, (pt g6014)), (8, (.slice A6197 t6192.length c6198)), (9, (.map (some g6200))), (10, (pt g6204)), (26, (.slice A6197 t6192.length c6198)), (27, (iv (t6192.length : Int))), (28, (iv x7800)), (31, (.agg #[(.slice ((H6199 x7800.toNat 0).1) ((rdD t6192 x7800 z_Row).Cells).length ((H6199 x7800.toNat 0).2)), (iv (((rdD t6192 x7800 z_Row).South).e0)), (iv (((rdD t6192 x7800 z_Row).South).e1)), (iv (((rdD t6192 x7800 z_Row).South).e2)), (iv (((rdD t6192 x7800 z_Row).South).e3)), (iv (((rdD t6192 x7800 z_Row).South).e4)), (iv (((rdD t6192 x7800 z_Row).South).e5)), (iv (((rdD t6192 x7800 z_Row).South).e6)), (iv (((rdD t6192 x7800 z_Row).South).e7)), (iv (((rdD t6192 x7800 z_Row).North).e0)), (iv (((rdD t6192 x7800 z_Row).North).e1)), (iv (((rdD t6192 x7800 z_Row).North).e2)), (iv (((rdD t6192 x7800 z_Row).North).e3)), (iv (((rdD t6192 x7800 z_Row).North).e4)), (iv (((rdD t6192 x7800 z_Row).North).e5)), (iv (((rdD t6192 x7800 z_Row).North).e6)), (iv (((rdD t6192 x7800 z_Row).North).e7)), (iv ((rdD t6192 x7800 z_Row).West)), (iv ((rdD t6192 x7800 z_Row).East))]))] [.idx A6197 x7800 t6192.length, .cell ((adr A6197).add ((x7800).toNat * 19)) (.slice ((H6199 x7800.toNat 0).1) ((rdD t6192 x7800 z_Row).Cells).length ((H6199 x7800.toNat 0).2)), .cell (((adr A6197).add ((x7800).toNat * 19)).add 1) (iv (((rdD t6192 x7800 z_Row).South).e0)), .cell (((adr A6197).add ((x7800).toNat * 19)).add 2) (iv (((rdD t6192 x7800 z_Row).South).e1)), .cell (((adr A6197).add ((x7800).toNat * 19)).add 3) (iv (((rdD t6192 x7800 z_Row).South).e2)), .cell (((adr A6197).add ((x7800).toNat * 19)).add 4) (iv (((rdD t6192 x7800 z_Row).South).e3)), .cell (((adr A6197).add ((x7800).toNat * 19)).add 5) (iv (((rdD t6192 x7800 z_Row).South).e4)), .cell (((adr A6197).add ((x7800).toNat * 19)).add 6) (iv (((rdD t6192 x7800 z_Row).South).e5)), .cell (((adr A6197).add ((x7800).toNat * 19)).add 7) (iv (((rdD t6192 x7800 z_Row).South).e6)), .cell (((adr A6197).add ((x7800).toNat * 19)).add 8) (iv (((rdD t6192 x7800 z_Row).South).e7)), .cell (((adr A6197).add ((x7800).toNat * 19)).add 9) (iv (((rdD t6192 x7800 z_Row).North).e0)), .cell (((adr A6197).add ((x7800).toNat * 19)).add 10) (iv (((rdD t6192 x7800 z_Row).North).e1)), .cell (((adr A6197).add ((x7800).toNat * 19)).add 11) (iv (((rdD t6192 x7800 z_Row).North).e2)), .cell (((adr A6197).add ((x7800).toNat * 19)).add 12) (iv (((rdD t6192 x7800 z_Row).North).e3)), .cell (((adr A6197).add ((x7800).toNat * 19)).add 13) (iv (((rdD t6192 x7800 z_Row).North).e4)), .cell (((adr A6197).add ((x7800).toNat * 19)).add 14) (iv (((rdD t6192 x7800 z_Row).North).e5)), .cell (((adr A6197).add ((x7800).toNat * 19)).add 15) (iv (((rdD t6192 x7800 z_Row).North).e6)), .cell (((adr A6197).add ((x7800).toNat * 19)).add 16) (iv (((rdD t6192 x7800 z_Row).North).e7)), .cell (((adr A6197).add ((x7800).toNat * 19)).add 17) (iv ((rdD t6192 x7800 z_Row).West)), .cell (((adr A6197).add ((x7800).toNat * 19)).add 18) (iv ((rdD t6192 x7800 z_Row).East))] (fun fb => by kernel_rfl) rfl ⟨nrow_adr (rowO.rd (hS7805.own 1).1) h7808.1 h7808.2, nrow_cell (rowO.rd (hS7805.own 1).1) z_Row h7808.1 h7808.2 0 rfl, nrow_cell (rowO.rd (hS7805.own 1).1) z_Row h7808.1 h7808.2 1 rfl, nrow_cell (rowO.rd (hS7805.own 1).1) z_Row h7808.1 h7808.2 2 rfl, nrow_cell (rowO.rd (hS7805.own 1).1) z_Row h7808.1 h7808.2 3 rfl, nrow_cell (rowO.rd (hS7805.own 1).1) z_Row h7808.1 h7808.2 4 rfl, nrow_cell (rowO.rd (hS7805.own 1).1) z_Row h7808.1 h7808.2 5 rfl, nrow_cell (rowO.rd (hS7805.own 1).1) z_Row h7808.1 h7808.2 6 rfl, nrow_cell (rowO.rd (hS7805.own 1).1) z_Row h7808.1 h7808.2 7 rfl, nrow_cell (rowO.rd (hS7805.own 1).1) z_Row h7808.1 h7808.2 8 rfl, nrow_cell (rowO.rd (hS7805.own 1).1) z_Row h7808.1 h7808.2 9 rfl, nrow_cell (rowO.rd (hS7805.own 1).1) z_Row h7808.1 h7808.2 10 rfl, nrow_cell (rowO.rd (hS7805.own 1).1) z_Row h7808.1 h7808.2 11 rfl, nrow_cell (rowO.rd (hS7805.own 1).1) z_Row h7808.1 h7808.2 12 rfl, nrow_cell (rowO.rd (hS7805.own 1).1) z_Row h7808.1 h7808.2 13 rfl, nrow_cell (rowO.rd (hS7805.own 1).1) z_Row h7808.1 h7808.2 14 rfl, nrow_cell (rowO.rd (hS7805.own 1).1) z_Row h7808.1 h7808.2 15 rfl, nrow_cell (rowO.rd (hS7805.own 1).1) z_Row h7808.1 h7808.2 16 rfl, nrow_cell (rowO.rd (hS7805.own 1).1) z_Row h7808.1 h7808.2 17 rfl, nrow_cell (rowO.rd (hS7805.own 1).1) z_Row h7808.1 h7808.2 18 rfl, trivial⟩ ?_
    refine WL.new hS7805 12 [] (fun g => (.pointer (some ⟨g, 0, none⟩))) (.cells #[(.slice none 0 0), (iv 0), (iv 0), (iv 0), (iv 0), (iv 0), (iv 0), (iv 0), (iv 0), (iv 0), (iv 0), (iv 0), (iv 0), (iv 0), (iv 0), (iv 0), (iv 0), (iv 0), (iv 0)] 88 (0, 0)) [] (fun fb g => by kernel_rfl) trivial (fun g7809 w7810 hS7811 => ?_)
    refine ⟨trivial, ?_⟩
    refine WL.store hS7811 0 rfl [(0, (.slice ((H6199 x7800.toNat 0).1) ((rdD t6192 x7800 z_Row).Cells).length ((H6199 x7800.toNat 0).2))), (1, (iv (((rdD t6192 x7800 z_Row).South).e0))), (2, (iv (((rdD t6192 x7800 z_Row).South).e1))), (3, (iv (((rdD t6192 x7800 z_Row).South).e2))), (4, (iv (((rdD t6192 x7800 z_Row).South).e3))), (5, (iv (((rdD t6192 x7800 z_Row).South).e4))), (6, (iv (((rdD t6192 x7800 z_Row).South).e5))), (7, (iv (((rdD t6192 x7800 z_Row).South).e6))), (8, (iv (((rdD t6192 x7800 z_Row).South).e7))), (9, (iv (((rdD t6192 x7800 z_Row).North).e0))), (10, (iv (((rdD t6192 x7800 z_Row).North).e1))), (11, (iv (((rdD t6192 x7800 z_Row).North).e2))), (12, (iv (((rdD t6192 x7800 z_Row).North).e3))), (13, (iv (((rdD t6192 x7800 z_Row).North).e4))), (14, (iv (((rdD t6192 x7800 z_Row).North).e5))), (15, (iv (((rdD t6192 x7800 z_Row).North).e6))), (16, (iv (((rdD t6192 x7800 z_Row).North).e7))), (17, (iv ((rdD t6192 x7800 z_Row).West))), (18, (iv ((rdD t6192 x7800 z_Row).East)))] #[(.slice ((H6199 x7800.toNat 0).1) ((rdD t6192 x7800 z_Row).Cells).length ((H6199 x7800.toNat 0).2)), (iv (((rdD t6192 x7800 z_Row).South).e0)), (iv (((rdD t6192 x7800 z_Row).South).e1)), (iv (((rdD t6192 x7800 z_Row).South).e2)), (iv (((rdD t6192 x7800 z_Row).South).e3)), (iv (((rdD t6192 x7800 z_Row).South).e4)), (iv (((rdD t6192 x7800 z_Row).South).e5)), (iv (((rdD t6192 x7800 z_Row).South).e6)), (iv (((rdD t6192 x7800 z_Row).South).e7)), (iv (((rdD t6192 x7800 z_Row).North).e0)), (iv (((rdD t6192 x7800 z_Row).North).e1)), (iv (((rdD t6192 x7800 z_Row).North).e2)), (iv (((rdD t6192 x7800 z_Row).North).e3)), (iv (((rdD t6192 x7800 z_Row).North).e4)), (iv (((rdD t6192 x7800 z_Row).North).e5)), (iv (((rdD t6192 x7800 z_Row).North).e6)), (iv (((rdD t6192 x7800 z_Row).North).e7)), (iv ((rdD t6192 x7800 z_Row).West)), (iv ((rdD t6192 x7800 z_Row).East))] (fun fb => by kernel_rfl) (by kernel_rfl) (by kernel_rfl) [1, 2, 3, 4, 5] (by decide) (by decide) (fun w7813 hS7814 => ?_)
    refine ⟨trivial, ?_⟩
    refine WL.done rfl ?_
    refine WX.next ?_
    refine WC.seq ?_
    refine WC.region ?_
    refine seg 3 [.v (iv (((rdD t6192 x7800 z_Row).South).e0)), .v (iv (((rdD t6192 x7800 z_Row).South).e1)), .v (iv (((rdD t6192 x7800 z_Row).South).e2)), .v (iv (((rdD t6192 x7800 z_Row).South).e3)), .v (iv (((rdD t6192 x7800 z_Row).South).e4)), .v (iv (((rdD t6192 x7800 z_Row).South).e5)), .v (iv (((rdD t6192 x7800 z_Row).South).e6)), .v (iv (((rdD t6192 x7800 z_Row).South).e7))] [2, 6, 8, 9, 10, 12, 26, 27, 28, 33, 35] [(2, (iv p2)), (6, (pt g6014)), (8, (.slice A6197 t6192.length c6198)), (9, (.map (some g6200))), (10, (pt g6204)), (12, (pt g7809)), (26, (.slice A6197 t6192.length c6198)), (27, (iv (t6192.length : Int))), (28, (iv x7800)), (33, (.map (some g6200))), (35, (.agg #[(iv (((rdD t6192 x7800 z_Row).South).e0)), (iv (((rdD t6192 x7800 z_Row).South).e1)), (iv (((rdD t6192 x7800 z_Row).South).e2)), (iv (((rdD t6192 x7800 z_Row).South).e3)), (iv (((rdD t6192 x7800 z_Row).South).e4)), (iv (((rdD t6192 x7800 z_Row).South).e5)), (iv (((rdD t6192 x7800 z_Row).South).e6)), (iv (((rdD t6192 x7800 z_Row).South).e7))]))] [.cell ⟨g7809, 1, none⟩ (iv (((rdD t6192 x7800 z_Row).South).e0)), .cell ⟨g7809, 2, none⟩ (iv (((rdD t6192 x7800 z_Row).South).e1)), .cell ⟨g7809, 3, none⟩ (iv (((rdD t6192 x7800 z_Row).South).e2)), .cell ⟨g7809, 4, none⟩ (iv (((rdD t6192 x7800 z_Row).South).e3)), .cell ⟨g7809, 5, none⟩ (iv (((rdD t6192 x7800 z_Row).South).e4)), .cell ⟨g7809, 6, none⟩ (iv (((rdD t6192 x7800 z_Row).South).e5)), .cell ⟨g7809, 7, none⟩ (iv (((rdD t6192 x7800 z_Row).South).e6)), .cell ⟨g7809, 8, none⟩ (iv (((rdD t6192 x7800 z_Row).South).e7))] (fun fb => by kernel_rfl) rfl ⟨hS7814.cell 0 rfl 1 rfl, hS7814.cell 0 rfl 2 rfl, hS7814.cell 0 rfl 3 rfl, hS7814.cell 0 rfl 4 rfl, hS7814.cell 0 rfl 5 rfl, hS7814.cell 0 rfl 6 rfl, hS7814.cell 0 rfl 7 rfl, hS7814.cell 0 rfl 8 rfl, trivial⟩ ?_
    refine WL.lookup (hS7814.own 4).1 ((rdD t6192 x7800 z_Row).South) (d := 36) (c := true) (t := 104) (kT := 86) (eT := 80) (z := zHM) (kE := (aggI ints_A8_Int)) (vE := slV) (l := K7799) (.tuple #[(.slice ((mget ((rdD t6192 x7800 z_Row).South) zHM K7799).1.1) (mget ((rdD t6192 x7800 z_Row).South) [] l7798).length ((mget ((rdD t6192 x7800 z_Row).South) zHM K7799).1.2.1)), (.bool (mhas ((rdD t6192 x7800 z_Row).South) l7798))]) (fun fb => by kernel_rfl) torus_find_key86 (by kernel_rfl) (fun _ => by kernel_rfl) (by rw [mhas_unK, (knestO.eq (hS7814.rd 0))]; rw [slV_get _ _ (knestO.eq (hS7814.rd 0))]; rfl) ?_
    refine ⟨trivial, ?_⟩
    have hS7815 : St NoS w w7813 [rowR (encMap A8_Int Bool) ((mget ((rdD t6192 x7800 z_Row).South) zHM K7799).1.1) ((mget ((rdD t6192 x7800 z_Row).South) zHM K7799).1.2.1) (tag ((mget ((rdD t6192 x7800 z_Row).South) zHM K7799).1.2.2) (mget ((rdD t6192 x7800 z_Row).South) [] l7798)), knestO (aggI ints_A8_Int) vB K7799 l7798, knestO (aggI ints_A8_Int) vB ([] : List (A8_Int × (HM × List (Option (List (A8_Int × Bool)))))) ([] : List (A8_Int × List (Option (List (A8_Int × Bool))))), rowR enc_Tile A_p0 c_p0 p0] [blk g7809 (.cells #[(.slice ((H6199 x7800.toNat 0).1) ((rdD t6192 x7800 z_Row).Cells).length ((H6199 x7800.toNat 0).2)), (iv (((rdD t6192 x7800 z_Row).South).e0)), (iv (((rdD t6192 x7800 z_Row).South).e1)), (iv (((rdD t6192 x7800 z_Row).South).e2)), (iv (((rdD t6192 x7800 z_Row).South).e3)), (iv (((rdD t6192 x7800 z_Row).South).e4)), (iv (((rdD t6192 x7800 z_Row).South).e5)), (iv (((rdD t6192 x7800 z_Row).South).e6)), (iv (((rdD t6192 x7800 z_Row).South).e7)), (iv (((rdD t6192 x7800 z_Row).North).e0)), (iv (((rdD t6192 x7800 z_Row).North).e1)), (iv (((rdD t6192 x7800 z_Row).North).e2)), (iv (((rdD t6192 x7800 z_Row).North).e3)), (iv (((rdD t6192 x7800 z_Row).North).e4)), (iv (((rdD t6192 x7800 z_Row).North).e5)), (iv (((rdD t6192 x7800 z_Row).North).e6)), (iv (((rdD t6192 x7800 z_Row).North).e7)), (iv ((rdD t6192 x7800 z_Row).West)), (iv ((rdD t6192 x7800 z_Row).East))] 88 (0, 0)), blk g6014 (.cells #[(iv 0), (iv 0), (.slice none 0 0)] 38 (0, 0)), rowO 88 encN_Row A6197 c6198 (tag H6199 t6192), poolO [nestO subN_Row H6199 t6192], blk g6200 (mapObj (aggI ints_A8_Int) slV K7799), blk g6204 (.cells #[(iv p1), (iv p2), (.slice none 0 0)] 38 (0, 0))] := hS7814.addR _ (knestO.row (hS7814.rdL 0) ((rdD t6192 x7800 z_Row).South))
    have hS7816 : St NoS w w7813 [mapsO (aggI ints_A8_Int) vB ((mget ((rdD t6192 x7800 z_Row).South) zHM K7799).1.2.2) (mget ((rdD t6192 x7800 z_Row).South) [] l7798), rowR (encMap A8_Int Bool) ((mget ((rdD t6192 x7800 z_Row).South) zHM K7799).1.1) ((mget ((rdD t6192 x7800 z_Row).South) zHM K7799).1.2.1) (tag ((mget ((rdD t6192 x7800 z_Row).South) zHM K7799).1.2.2) (mget ((rdD t6192 x7800 z_Row).South) [] l7798)), knestO (aggI ints_A8_Int) vB K7799 l7798, knestO (aggI ints_A8_Int) vB ([] : List (A8_Int × (HM × List (Option (List (A8_Int × Bool)))))) ([] : List (A8_Int × List (Option (List (A8_Int × Bool))))), rowR enc_Tile A_p0 c_p0 p0] [blk g7809 (.cells #[(.slice ((H6199 x7800.toNat 0).1) ((rdD t6192 x7800 z_Row).Cells).length ((H6199 x7800.toNat 0).2)), (iv (((rdD t6192 x7800 z_Row).South).e0)), (iv (((rdD t6192 x7800 z_Row).South).e1)), (iv (((rdD t6192 x7800 z_Row).South).e2)), (iv (((rdD t6192 x7800 z_Row).South).e3)), (iv (((rdD t6192 x7800 z_Row).South).e4)), (iv (((rdD t6192 x7800 z_Row).South).e5)), (iv (((rdD t6192 x7800 z_Row).South).e6)), (iv (((rdD t6192 x7800 z_Row).South).e7)), (iv (((rdD t6192 x7800 z_Row).North).e0)), (iv (((rdD t6192 x7800 z_Row).North).e1)), (iv (((rdD t6192 x7800 z_Row).North).e2)), (iv (((rdD t6192 x7800 z_Row).North).e3)), (iv (((rdD t6192 x7800 z_Row).North).e4)), (iv (((rdD t6192 x7800 z_Row).North).e5)), (iv (((rdD t6192 x7800 z_Row).North).e6)), (iv (((rdD t6192 x7800 z_Row).North).e7)), (iv ((rdD t6192 x7800 z_Row).West)), (iv ((rdD t6192 x7800 z_Row).East))] 88 (0, 0)), blk g6014 (.cells #[(iv 0), (iv 0), (.slice none 0 0)] 38 (0, 0)), rowO 88 encN_Row A6197 c6198 (tag H6199 t6192), poolO [nestO subN_Row H6199 t6192], blk g6200 (mapObj (aggI ints_A8_Int) slV K7799), blk g6204 (.cells #[(iv p1), (iv p2), (.slice none 0 0)] 38 (0, 0))] := hS7815.addR _ (knestO.maps (hS7815.rdL 1) ((rdD t6192 x7800 z_Row).South))
    refine seg 9 [] [2, 6, 8, 9, 10, 12, 13, 14, 26, 27, 28] [(2, (iv p2)), (6, (pt g6014)), (8, (.slice A6197 t6192.length c6198)), (9, (.map (some g6200))), (10, (pt g6204)), (12, (pt g7809)), (13, (.slice ((mget ((rdD t6192 x7800 z_Row).South) zHM K7799).1.1) (mget ((rdD t6192 x7800 z_Row).South) [] l7798).length ((mget ((rdD t6192 x7800 z_Row).South) zHM K7799).1.2.1))), (14, (.bool (mhas ((rdD t6192 x7800 z_Row).South) l7798))), (26, (.slice A6197 t6192.length c6198)), (27, (iv (t6192.length : Int))), (28, (iv x7800))] [] (fun fb => by kernel_rfl) rfl trivial ?_
    refine WL.done rfl ?_
    refine WX.next ?_
    refine WC.seq ?_
    refine WC.seq ?_
    refine WC.region ?_
    refine seg 2 [] [2, 6, 8, 9, 10, 12, 13, 26, 27, 28, 40] [(2, (iv p2)), (6, (pt g6014)), (8, (.slice A6197 t6192.length c6198)), (9, (.map (some g6200))), (10, (pt g6204)), (12, (pt g7809)), (13, (.slice ((mget ((rdD t6192 x7800 z_Row).South) zHM K7799).1.1) (mget ((rdD t6192 x7800 z_Row).South) [] l7798).length ((mget ((rdD t6192 x7800 z_Row).South) zHM K7799).1.2.1))), (26, (.slice A6197 t6192.length c6198)), (27, (iv (t6192.length : Int))), (28, (iv x7800)), (40, (.bool (!(mhas ((rdD t6192 x7800 z_Row).South) l7798))))] [] (fun fb => by kernel_rfl) rfl trivial ?_
    refine WL.done rfl ?_
    refine WX.next ?_
    obtain ⟨x7837, hx7838, hl7806⟩ := bind_some hl7806
    refine WC.cutN (T := ((List (A8_Int × List (Option (List (A8_Int × Bool))))) × (List (Option (List (A8_Int × Bool))))) × (List (A8_Int × (HM × List (Option (List (A8_Int × Bool)))))) × (Option Addr) × Nat × (Nat → Nat)) (fun t => [(2, (iv p2)), (6, (pt g6014)), (8, (.slice A6197 t6192.length c6198)), (9, (.map (some g6200))), (10, (pt g6204)), (12, (pt g7809)), (13, (.slice t.2.2.1 t.1.2.length t.2.2.2.1)), (26, (.slice A6197 t6192.length c6198)), (27, (iv (t6192.length : Int))), (28, (iv x7800))]) (fun t w1 => St NoS w w1 [knestO (aggI ints_A8_Int) vB t.2.1 t.1.1, rowR (encMap A8_Int Bool) t.2.2.1 t.2.2.2.1 (tag t.2.2.2.2 t.1.2), mapsO (aggI ints_A8_Int) vB t.2.2.2.2 t.1.2, mapsO (aggI ints_A8_Int) vB ((mget ((rdD t6192 x7800 z_Row).South) zHM K7799).1.2.2) (mget ((rdD t6192 x7800 z_Row).South) [] l7798), rowR (encMap A8_Int Bool) ((mget ((rdD t6192 x7800 z_Row).South) zHM K7799).1.1) ((mget ((rdD t6192 x7800 z_Row).South) zHM K7799).1.2.1) (tag ((mget ((rdD t6192 x7800 z_Row).South) zHM K7799).1.2.2) (mget ((rdD t6192 x7800 z_Row).South) [] l7798)), knestO (aggI ints_A8_Int) vB K7799 l7798, knestO (aggI ints_A8_Int) vB ([] : List (A8_Int × (HM × List (Option (List (A8_Int × Bool)))))) ([] : List (A8_Int × List (Option (List (A8_Int × Bool))))), rowR enc_Tile A_p0 c_p0 p0] [blk g6014 (.cells #[(iv 0), (iv 0), (.slice none 0 0)] 38 (0, 0)), rowO 88 encN_Row A6197 c6198 (tag H6199 t6192), poolO [nestO subN_Row H6199 t6192], blk g6200 (mapObj (aggI ints_A8_Int) slV t.2.1), blk g6204 (.cells #[(iv p1), (iv p2), (.slice none 0 0)] 38 (0, 0)), blk g7809 (.cells #[(.slice ((H6199 x7800.toNat 0).1) ((rdD t6192 x7800 z_Row).Cells).length ((H6199 x7800.toNat 0).2)), (iv (((rdD t6192 x7800 z_Row).South).e0)), (iv (((rdD t6192 x7800 z_Row).South).e1)), (iv (((rdD t6192 x7800 z_Row).South).e2)), (iv (((rdD t6192 x7800 z_Row).South).e3)), (iv (((rdD t6192 x7800 z_Row).South).e4)), (iv (((rdD t6192 x7800 z_Row).South).e5)), (iv (((rdD t6192 x7800 z_Row).South).e6)), (iv (((rdD t6192 x7800 z_Row).South).e7)), (iv (((rdD t6192 x7800 z_Row).North).e0)), (iv (((rdD t6192 x7800 z_Row).North).e1)), (iv (((rdD t6192 x7800 z_Row).North).e2)), (iv (((rdD t6192 x7800 z_Row).North).e3)), (iv (((rdD t6192 x7800 z_Row).North).e4)), (iv (((rdD t6192 x7800 z_Row).North).e5)), (iv (((rdD t6192 x7800 z_Row).North).e6)), (iv (((rdD t6192 x7800 z_Row).North).e7)), (iv ((rdD t6192 x7800 z_Row).West)), (iv ((rdD t6192 x7800 z_Row).East))] 88 (0, 0))] ∧ x7837 = t.1) (fun Kx7837 => ?_) ?_
    ·
     rcases br_some hx7838 with ⟨h7839, hx7838⟩ | ⟨h7839, hx7838⟩
     ·refine WC.condT2 (fun fb => by kernel_rfl) h7839 ?_
      refine WC.seq ?_
      refine WC.region ?_
      refine seg 5 [.v (iv (((rdD t6192 x7800 z_Row).South).e0)), .v (iv (((rdD t6192 x7800 z_Row).South).e1)), .v (iv (((rdD t6192 x7800 z_Row).South).e2)), .v (iv (((rdD t6192 x7800 z_Row).South).e3)), .v (iv (((rdD t6192 x7800 z_Row).South).e4)), .v (iv (((rdD t6192 x7800 z_Row).South).e5)), .v (iv (((rdD t6192 x7800 z_Row).South).e6)), .v (iv (((rdD t6192 x7800 z_Row).South).e7))] [2, 6, 8, 9, 10, 12, 26, 27, 28, 41, 43, 45] [(2, (iv p2)), (6, (pt g6014)), (8, (.slice A6197 t6192.length c6198)), (9, (.map (some g6200))), (10, (pt g6204)), (12, (pt g7809)), (26, (.slice A6197 t6192.length c6198)), (27, (iv (t6192.length : Int))), (28, (iv x7800)), (41, (.slice A6197 t6192.length c6198)), (43, (.agg #[(iv (((rdD t6192 x7800 z_Row).South).e0)), (iv (((rdD t6192 x7800 z_Row).South).e1)), (iv (((rdD t6192 x7800 z_Row).South).e2)), (iv (((rdD t6192 x7800 z_Row).South).e3)), (iv (((rdD t6192 x7800 z_Row).South).e4)), (iv (((rdD t6192 x7800 z_Row).South).e5)), (iv (((rdD t6192 x7800 z_Row).South).e6)), (iv (((rdD t6192 x7800 z_Row).South).e7))])), (45, (iv (w64 (p2 - 1))))] [.cell ⟨g7809, 1, none⟩ (iv (((rdD t6192 x7800 z_Row).South).e0)), .cell ⟨g7809, 2, none⟩ (iv (((rdD t6192 x7800 z_Row).South).e1)), .cell ⟨g7809, 3, none⟩ (iv (((rdD t6192 x7800 z_Row).South).e2)), .cell ⟨g7809, 4, none⟩ (iv (((rdD t6192 x7800 z_Row).South).e3)), .cell ⟨g7809, 5, none⟩ (iv (((rdD t6192 x7800 z_Row).South).e4)), .cell ⟨g7809, 6, none⟩ (iv (((rdD t6192 x7800 z_Row).South).e5)), .cell ⟨g7809, 7, none⟩ (iv (((rdD t6192 x7800 z_Row).South).e6)), .cell ⟨g7809, 8, none⟩ (iv (((rdD t6192 x7800 z_Row).South).e7))] (fun fb => by kernel_rfl) rfl ⟨hS7816.cell 0 rfl 1 rfl, hS7816.cell 0 rfl 2 rfl, hS7816.cell 0 rfl 3 rfl, hS7816.cell 0 rfl 4 rfl, hS7816.cell 0 rfl 5 rfl, hS7816.cell 0 rfl 6 rfl, hS7816.cell 0 rfl 7 rfl, hS7816.cell 0 rfl 8 rfl, trivial⟩ ?_
      obtain ⟨t7840, ht7841, hx7838⟩ := bind_some hx7838
      refine WL.call (some 46) 63 #[(.slice A6197 t6192.length c6198), (.agg #[(iv (((rdD t6192 x7800 z_Row).South).e0)), (iv (((rdD t6192 x7800 z_Row).South).e1)), (iv (((rdD t6192 x7800 z_Row).South).e2)), (iv (((rdD t6192 x7800 z_Row).South).e3)), (iv (((rdD t6192 x7800 z_Row).South).e4)), (iv (((rdD t6192 x7800 z_Row).South).e5)), (iv (((rdD t6192 x7800 z_Row).South).e6)), (iv (((rdD t6192 x7800 z_Row).South).e7))]), (iv (w64 (p2 - 1)))] (fun fb => by kernel_rfl) (torus_back_calls _ t6192 ((rdD t6192 x7800 z_Row).South) (w64 (p2 - 1)) A6197 c6198 H6199 t7840 _ (hS7816.ow 2).ofO (poolO.ro (hS7816.ow 3) 0) ht7841) (fun v w7842 hR7843 => ?_)
      obtain ⟨A7845, c7846, H7847, rfl, hk_⟩ := hR7843
      have hS7844 : St NoS w w7842 [mapsO (aggI ints_A8_Int) vB ((mget ((rdD t6192 x7800 z_Row).South) zHM K7799).1.2.2) (mget ((rdD t6192 x7800 z_Row).South) [] l7798), rowR (encMap A8_Int Bool) ((mget ((rdD t6192 x7800 z_Row).South) zHM K7799).1.1) ((mget ((rdD t6192 x7800 z_Row).South) zHM K7799).1.2.1) (tag ((mget ((rdD t6192 x7800 z_Row).South) zHM K7799).1.2.2) (mget ((rdD t6192 x7800 z_Row).South) [] l7798)), knestO (aggI ints_A8_Int) vB K7799 l7798, knestO (aggI ints_A8_Int) vB ([] : List (A8_Int × (HM × List (Option (List (A8_Int × Bool)))))) ([] : List (A8_Int × List (Option (List (A8_Int × Bool))))), rowR enc_Tile A_p0 c_p0 p0] [rowO 81 (encMap A8_Int Bool) A7845 c7846 (tag H7847 t7840), mapsO (aggI ints_A8_Int) vB H7847 t7840, blk g7809 (.cells #[(.slice ((H6199 x7800.toNat 0).1) ((rdD t6192 x7800 z_Row).Cells).length ((H6199 x7800.toNat 0).2)), (iv (((rdD t6192 x7800 z_Row).South).e0)), (iv (((rdD t6192 x7800 z_Row).South).e1)), (iv (((rdD t6192 x7800 z_Row).South).e2)), (iv (((rdD t6192 x7800 z_Row).South).e3)), (iv (((rdD t6192 x7800 z_Row).South).e4)), (iv (((rdD t6192 x7800 z_Row).South).e5)), (iv (((rdD t6192 x7800 z_Row).South).e6)), (iv (((rdD t6192 x7800 z_Row).South).e7)), (iv (((rdD t6192 x7800 z_Row).North).e0)), (iv (((rdD t6192 x7800 z_Row).North).e1)), (iv (((rdD t6192 x7800 z_Row).North).e2)), (iv (((rdD t6192 x7800 z_Row).North).e3)), (iv (((rdD t6192 x7800 z_Row).North).e4)), (iv (((rdD t6192 x7800 z_Row).North).e5)), (iv (((rdD t6192 x7800 z_Row).North).e6)), (iv (((rdD t6192 x7800 z_Row).North).e7)), (iv ((rdD t6192 x7800 z_Row).West)), (iv ((rdD t6192 x7800 z_Row).East))] 88 (0, 0)), blk g6014 (.cells #[(iv 0), (iv 0), (.slice none 0 0)] 38 (0, 0)), rowO 88 encN_Row A6197 c6198 (tag H6199 t6192), poolO [nestO subN_Row H6199 t6192], blk g6200 (mapObj (aggI ints_A8_Int) slV K7799), blk g6204 (.cells #[(iv p1), (iv p2), (.slice none 0 0)] 38 (0, 0))] := hS7816.call hk_ [] [0, 1, 2, 3, 4, 5] (fun g hg => hg.elim) (by simp) (by decide)
      refine ⟨trivial, ?_⟩
      refine seg 7 [] [2, 6, 8, 9, 10, 12, 13, 26, 27, 28] [(2, (iv p2)), (6, (pt g6014)), (8, (.slice A6197 t6192.length c6198)), (9, (.map (some g6200))), (10, (pt g6204)), (12, (pt g7809)), (13, (.slice A7845 t7840.length c7846)), (26, (.slice A6197 t6192.length c6198)), (27, (iv (t6192.length : Int))), (28, (iv x7800))] [] (fun fb => by kernel_rfl) rfl trivial ?_
      refine WL.done rfl ?_
      refine WX.next ?_
      refine WC.region ?_
      refine seg 4 [.v (iv (((rdD t6192 x7800 z_Row).South).e0)), .v (iv (((rdD t6192 x7800 z_Row).South).e1)), .v (iv (((rdD t6192 x7800 z_Row).South).e2)), .v (iv (((rdD t6192 x7800 z_Row).South).e3)), .v (iv (((rdD t6192 x7800 z_Row).South).e4)), .v (iv (((rdD t6192 x7800 z_Row).South).e5)), .v (iv (((rdD t6192 x7800 z_Row).South).e6)), .v (iv (((rdD t6192 x7800 z_Row).South).e7))] [2, 6, 8, 9, 10, 12, 13, 26, 27, 28, 47, 49, 50] [(2, (iv p2)), (6, (pt g6014)), (8, (.slice A6197 t6192.length c6198)), (9, (.map (some g6200))), (10, (pt g6204)), (12, (pt g7809)), (13, (.slice A7845 t7840.length c7846)), (26, (.slice A6197 t6192.length c6198)), (27, (iv (t6192.length : Int))), (28, (iv x7800)), (47, (.map (some g6200))), (49, (.agg #[(iv (((rdD t6192 x7800 z_Row).South).e0)), (iv (((rdD t6192 x7800 z_Row).South).e1)), (iv (((rdD t6192 x7800 z_Row).South).e2)), (iv (((rdD t6192 x7800 z_Row).South).e3)), (iv (((rdD t6192 x7800 z_Row).South).e4)), (iv (((rdD t6192 x7800 z_Row).South).e5)), (iv (((rdD t6192 x7800 z_Row).South).e6)), (iv (((rdD t6192 x7800 z_Row).South).e7))])), (50, (.slice A7845 t7840.length c7846))] [.cell ⟨g7809, 1, none⟩ (iv (((rdD t6192 x7800 z_Row).South).e0)), .cell ⟨g7809, 2, none⟩ (iv (((rdD t6192 x7800 z_Row).South).e1)), .cell ⟨g7809, 3, none⟩ (iv (((rdD t6192 x7800 z_Row).South).e2)), .cell ⟨g7809, 4, none⟩ (iv (((rdD t6192 x7800 z_Row).South).e3)), .cell ⟨g7809, 5, none⟩ (iv (((rdD t6192 x7800 z_Row).South).e4)), .cell ⟨g7809, 6, none⟩ (iv (((rdD t6192 x7800 z_Row).South).e5)), .cell ⟨g7809, 7, none⟩ (iv (((rdD t6192 x7800 z_Row).South).e6)), .cell ⟨g7809, 8, none⟩ (iv (((rdD t6192 x7800 z_Row).South).e7))] (fun fb => by kernel_rfl) rfl ⟨hS7844.cell 2 rfl 1 rfl, hS7844.cell 2 rfl 2 rfl, hS7844.cell 2 rfl 3 rfl, hS7844.cell 2 rfl 4 rfl, hS7844.cell 2 rfl 5 rfl, hS7844.cell 2 rfl 6 rfl, hS7844.cell 2 rfl 7 rfl, hS7844.cell 2 rfl 8 rfl, trivial⟩ ?_
      have hS7848 : St NoS w w7842 [mapsO (aggI ints_A8_Int) vB H7847 t7840, mapsO (aggI ints_A8_Int) vB ((mget ((rdD t6192 x7800 z_Row).South) zHM K7799).1.2.2) (mget ((rdD t6192 x7800 z_Row).South) [] l7798), rowR (encMap A8_Int Bool) ((mget ((rdD t6192 x7800 z_Row).South) zHM K7799).1.1) ((mget ((rdD t6192 x7800 z_Row).South) zHM K7799).1.2.1) (tag ((mget ((rdD t6192 x7800 z_Row).South) zHM K7799).1.2.2) (mget ((rdD t6192 x7800 z_Row).South) [] l7798)), knestO (aggI ints_A8_Int) vB K7799 l7798, knestO (aggI ints_A8_Int) vB ([] : List (A8_Int × (HM × List (Option (List (A8_Int × Bool)))))) ([] : List (A8_Int × List (Option (List (A8_Int × Bool))))), rowR enc_Tile A_p0 c_p0 p0] [rowO 81 (encMap A8_Int Bool) A7845 c7846 (tag H7847 t7840), blk g7809 (.cells #[(.slice ((H6199 x7800.toNat 0).1) ((rdD t6192 x7800 z_Row).Cells).length ((H6199 x7800.toNat 0).2)), (iv (((rdD t6192 x7800 z_Row).South).e0)), (iv (((rdD t6192 x7800 z_Row).South).e1)), (iv (((rdD t6192 x7800 z_Row).South).e2)), (iv (((rdD t6192 x7800 z_Row).South).e3)), (iv (((rdD t6192 x7800 z_Row).South).e4)), (iv (((rdD t6192 x7800 z_Row).South).e5)), (iv (((rdD t6192 x7800 z_Row).South).e6)), (iv (((rdD t6192 x7800 z_Row).South).e7)), (iv (((rdD t6192 x7800 z_Row).North).e0)), (iv (((rdD t6192 x7800 z_Row).North).e1)), (iv (((rdD t6192 x7800 z_Row).North).e2)), (iv (((rdD t6192 x7800 z_Row).North).e3)), (iv (((rdD t6192 x7800 z_Row).North).e4)), (iv (((rdD t6192 x7800 z_Row).North).e5)), (iv (((rdD t6192 x7800 z_Row).North).e6)), (iv (((rdD t6192 x7800 z_Row).North).e7)), (iv ((rdD t6192 x7800 z_Row).West)), (iv ((rdD t6192 x7800 z_Row).East))] 88 (0, 0)), blk g6014 (.cells #[(iv 0), (iv 0), (.slice none 0 0)] 38 (0, 0)), rowO 88 encN_Row A6197 c6198 (tag H6199 t6192), poolO [nestO subN_Row H6199 t6192], blk g6200 (mapObj (aggI ints_A8_Int) slV K7799), blk g6204 (.cells #[(iv p1), (iv p2), (.slice none 0 0)] 38 (0, 0))] := hS7844.freezeO 1 [0, 2, 3, 4, 5, 6, 7] (by decide) (by decide)
      have hS7849 : St NoS w w7842 [rowR (encMap A8_Int Bool) A7845 c7846 (tag H7847 t7840), mapsO (aggI ints_A8_Int) vB H7847 t7840, mapsO (aggI ints_A8_Int) vB ((mget ((rdD t6192 x7800 z_Row).South) zHM K7799).1.2.2) (mget ((rdD t6192 x7800 z_Row).South) [] l7798), rowR (encMap A8_Int Bool) ((mget ((rdD t6192 x7800 z_Row).South) zHM K7799).1.1) ((mget ((rdD t6192 x7800 z_Row).South) zHM K7799).1.2.1) (tag ((mget ((rdD t6192 x7800 z_Row).South) zHM K7799).1.2.2) (mget ((rdD t6192 x7800 z_Row).South) [] l7798)), knestO (aggI ints_A8_Int) vB K7799 l7798, knestO (aggI ints_A8_Int) vB ([] : List (A8_Int × (HM × List (Option (List (A8_Int × Bool)))))) ([] : List (A8_Int × List (Option (List (A8_Int × Bool))))), rowR enc_Tile A_p0 c_p0 p0] [blk g7809 (.cells #[(.slice ((H6199 x7800.toNat 0).1) ((rdD t6192 x7800 z_Row).Cells).length ((H6199 x7800.toNat 0).2)), (iv (((rdD t6192 x7800 z_Row).South).e0)), (iv (((rdD t6192 x7800 z_Row).South).e1)), (iv (((rdD t6192 x7800 z_Row).South).e2)), (iv (((rdD t6192 x7800 z_Row).South).e3)), (iv (((rdD t6192 x7800 z_Row).South).e4)), (iv (((rdD t6192 x7800 z_Row).South).e5)), (iv (((rdD t6192 x7800 z_Row).South).e6)), (iv (((rdD t6192 x7800 z_Row).South).e7)), (iv (((rdD t6192 x7800 z_Row).North).e0)), (iv (((rdD t6192 x7800 z_Row).North).e1)), (iv (((rdD t6192 x7800 z_Row).North).e2)), (iv (((rdD t6192 x7800 z_Row).North).e3)), (iv (((rdD t6192 x7800 z_Row).North).e4)), (iv (((rdD t6192 x7800 z_Row).North).e5)), (iv (((rdD t6192 x7800 z_Row).North).e6)), (iv (((rdD t6192 x7800 z_Row).North).e7)), (iv ((rdD t6192 x7800 z_Row).West)), (iv ((rdD t6192 x7800 z_Row).East))] 88 (0, 0)), blk g6014 (.cells #[(iv 0), (iv 0), (.slice none 0 0)] 38 (0, 0)), rowO 88 encN_Row A6197 c6198 (tag H6199 t6192), poolO [nestO subN_Row H6199 t6192], blk g6200 (mapObj (aggI ints_A8_Int) slV K7799), blk g6204 (.cells #[(iv p1), (iv p2), (.slice none 0 0)] 38 (0, 0))] := hS7848.freezeRow 0 rfl [1, 2, 3, 4, 5, 6] (by decide) (by decide)
      refine WL.mapput hS7849 4 (t := 104) (kT := 86) (eT := 80) (kE := (aggI ints_A8_Int)) (vE := slV) (l := K7799) rfl ((rdD t6192 x7800 z_Row).South) ((A7845, c7846, H7847), t7840) (fun fb => by kernel_rfl) torus_find_key86 (by kernel_rfl) [0, 1, 2, 3, 5] (by decide) (by decide) (fun w7850 hS7851 => ?_)
      have hS7852 : St NoS w w7850 [knestO (aggI ints_A8_Int) vB (mput ((rdD t6192 x7800 z_Row).South) ((A7845, c7846, H7847), t7840) K7799) (mput ((rdD t6192 x7800 z_Row).South) t7840 l7798), rowR (encMap A8_Int Bool) A7845 c7846 (tag H7847 t7840), mapsO (aggI ints_A8_Int) vB H7847 t7840, mapsO (aggI ints_A8_Int) vB ((mget ((rdD t6192 x7800 z_Row).South) zHM K7799).1.2.2) (mget ((rdD t6192 x7800 z_Row).South) [] l7798), rowR (encMap A8_Int Bool) ((mget ((rdD t6192 x7800 z_Row).South) zHM K7799).1.1) ((mget ((rdD t6192 x7800 z_Row).South) zHM K7799).1.2.1) (tag ((mget ((rdD t6192 x7800 z_Row).South) zHM K7799).1.2.2) (mget ((rdD t6192 x7800 z_Row).South) [] l7798)), knestO (aggI ints_A8_Int) vB K7799 l7798, knestO (aggI ints_A8_Int) vB ([] : List (A8_Int × (HM × List (Option (List (A8_Int × Bool)))))) ([] : List (A8_Int × List (Option (List (A8_Int × Bool))))), rowR enc_Tile A_p0 c_p0 p0] [blk g6200 (mapObj (aggI ints_A8_Int) slV (mput ((rdD t6192 x7800 z_Row).South) ((A7845, c7846, H7847), t7840) K7799)), blk g7809 (.cells #[(.slice ((H6199 x7800.toNat 0).1) ((rdD t6192 x7800 z_Row).Cells).length ((H6199 x7800.toNat 0).2)), (iv (((rdD t6192 x7800 z_Row).South).e0)), (iv (((rdD t6192 x7800 z_Row).South).e1)), (iv (((rdD t6192 x7800 z_Row).South).e2)), (iv (((rdD t6192 x7800 z_Row).South).e3)), (iv (((rdD t6192 x7800 z_Row).South).e4)), (iv (((rdD t6192 x7800 z_Row).South).e5)), (iv (((rdD t6192 x7800 z_Row).South).e6)), (iv (((rdD t6192 x7800 z_Row).South).e7)), (iv (((rdD t6192 x7800 z_Row).North).e0)), (iv (((rdD t6192 x7800 z_Row).North).e1)), (iv (((rdD t6192 x7800 z_Row).North).e2)), (iv (((rdD t6192 x7800 z_Row).North).e3)), (iv (((rdD t6192 x7800 z_Row).North).e4)), (iv (((rdD t6192 x7800 z_Row).North).e5)), (iv (((rdD t6192 x7800 z_Row).North).e6)), (iv (((rdD t6192 x7800 z_Row).North).e7)), (iv ((rdD t6192 x7800 z_Row).West)), (iv ((rdD t6192 x7800 z_Row).East))] 88 (0, 0)), blk g6014 (.cells #[(iv 0), (iv 0), (.slice none 0 0)] 38 (0, 0)), rowO 88 encN_Row A6197 c6198 (tag H6199 t6192), poolO [nestO subN_Row H6199 t6192], blk g6204 (.cells #[(iv p1), (iv p2), (.slice none 0 0)] 38 (0, 0))] := hS7851.addR _ (knestO.put (hS7851.rdL 4) ((rdD t6192 x7800 z_Row).South) (hS7851.rdL 0) (hS7851.rdL 1))
      refine ⟨trivial, ?_⟩
      refine WL.done rfl ?_
      injection hx7838 with hx7838
      exact WX.to Kx7837 ((mput ((rdD t6192 x7800 z_Row).South) t7840 l7798, t7840), mput ((rdD t6192 x7800 z_Row).South) ((A7845, c7846, H7847), t7840) K7799, A7845, c7846, H7847) [2, 6, 8, 9, 10, 12, 13, 26, 27, 28] rfl ⟨(hS7852.subR [0, 1, 2, 3, 4, 5, 6, 7]).sub [2, 3, 4, 0, 5, 1] (by decide), hx7838.symm⟩
     refine WC.condF2 (fun fb => by kernel_rfl) h7839 ?_
     refine WC.skip ?_
     injection hx7838 with hx7838
     exact WX.to Kx7837 ((l7798, (mget ((rdD t6192 x7800 z_Row).South) [] l7798)), K7799, (mget ((rdD t6192 x7800 z_Row).South) zHM K7799).1.1, (mget ((rdD t6192 x7800 z_Row).South) zHM K7799).1.2.1, ((mget ((rdD t6192 x7800 z_Row).South) zHM K7799).1.2.2)) [2, 6, 8, 9, 10, 12, 13, 26, 27, 28] rfl ⟨(hS7816.subR [2, 1, 0, 0, 1, 2, 3, 4]).sub [1, 2, 3, 4, 5, 0] (by decide), hx7838.symm⟩
    rintro ⟨y7856, K7832, A7833, c7834, H7836⟩ w7853 ⟨hS7854, hq7855⟩
    subst hq7855
    refine WX.next ?_
    refine WC.seq ?_
    refine WC.seq ?_
    obtain ⟨h7865, hl7806⟩ := as_some hl7806
    obtain ⟨m7866, hm7867, hl7806⟩ := bind_some hl7806
    refine WC.regionD ([(4, ((adr A7833).add ((w64 (p2 - 1)).toNat * 1)), (.map (some (H7836 (w64 (p2 - 1)).toNat)))), (6, ⟨g7809, 9, none⟩, (iv (((rdD t6192 x7800 z_Row).North).e0))), (6, ⟨g7809, 10, none⟩, (iv (((rdD t6192 x7800 z_Row).North).e1))), (6, ⟨g7809, 11, none⟩, (iv (((rdD t6192 x7800 z_Row).North).e2))), (6, ⟨g7809, 12, none⟩, (iv (((rdD t6192 x7800 z_Row).North).e3))), (6, ⟨g7809, 13, none⟩, (iv (((rdD t6192 x7800 z_Row).North).e4))), (6, ⟨g7809, 14, none⟩, (iv (((rdD t6192 x7800 z_Row).North).e5))), (6, ⟨g7809, 15, none⟩, (iv (((rdD t6192 x7800 z_Row).North).e6))), (6, ⟨g7809, 16, none⟩, (iv (((rdD t6192 x7800 z_Row).North).e7)))], [0, 1, 2, 3, 4, 5, 6, 8], [[], [], [1], [0, 1, 2], [0, 1, 2, 3], [], [5], [0, 1, 2, 3, 4, 5, 6], [0, 1, 2, 3, 4, 5, 6, 7]]) [[0, 1, 2, 3, 4, 5, 6, 7, 8]] (by kernel_rfl) (by kernel_rfl) (NoPanic.seq (NoPanic.seq (NoPanic.block (NoPanic.seq (NoPanic.seq (NoPanic.block (NoPanic.seq (NoPanic.scope (NoPanic.body))))))))) ?_
    have hS7861 := hS7854.drew
    revert hS7861
    generalize World.drew w7853 = w7860
    intro hS7861
    refine ⟨⟨nrow_cell (hS7861.rd 1).1 none h7865.1 h7865.2 0 (mapV_some hm7867), hS7861.cell 5 rfl 9 rfl, hS7861.cell 5 rfl 10 rfl, hS7861.cell 5 rfl 11 rfl, hS7861.cell 5 rfl 12 rfl, hS7861.cell 5 rfl 13 rfl, hS7861.cell 5 rfl 14 rfl, hS7861.cell 5 rfl 15 rfl, hS7861.cell 5 rfl 16 rfl, trivial⟩, forallC ?_ (forallN)⟩
    refine segF 7 [.v (.map (some (H7836 (w64 (p2 - 1)).toNat))), .v (iv (((rdD t6192 x7800 z_Row).North).e0)), .v (iv (((rdD t6192 x7800 z_Row).North).e1)), .v (iv (((rdD t6192 x7800 z_Row).North).e2)), .v (iv (((rdD t6192 x7800 z_Row).North).e3)), .v (iv (((rdD t6192 x7800 z_Row).North).e4)), .v (iv (((rdD t6192 x7800 z_Row).North).e5)), .v (iv (((rdD t6192 x7800 z_Row).North).e6)), .v (iv (((rdD t6192 x7800 z_Row).North).e7))] [2, 6, 8, 9, 10, 12, 13, 26, 27, 28, 55, 57] [(2, (iv p2)), (6, (pt g6014)), (8, (.slice A6197 t6192.length c6198)), (9, (.map (some g6200))), (10, (pt g6204)), (12, (pt g7809)), (13, (.slice A7833 x7837.2.length c7834)), (26, (.slice A6197 t6192.length c6198)), (27, (iv (t6192.length : Int))), (28, (iv x7800)), (55, (.map (some (H7836 (w64 (p2 - 1)).toNat)))), (57, (.agg #[(iv (((rdD t6192 x7800 z_Row).North).e0)), (iv (((rdD t6192 x7800 z_Row).North).e1)), (iv (((rdD t6192 x7800 z_Row).North).e2)), (iv (((rdD t6192 x7800 z_Row).North).e3)), (iv (((rdD t6192 x7800 z_Row).North).e4)), (iv (((rdD t6192 x7800 z_Row).North).e5)), (iv (((rdD t6192 x7800 z_Row).North).e6)), (iv (((rdD t6192 x7800 z_Row).North).e7))]))] [.idx A7833 (w64 (p2 - 1)) x7837.2.length] [0, 1, 2, 3, 4, 5, 6, 7, 8] [(4, ((adr A7833).add ((w64 (p2 - 1)).toNat * 1)), (.map (some (H7836 (w64 (p2 - 1)).toNat)))), (6, ⟨g7809, 9, none⟩, (iv (((rdD t6192 x7800 z_Row).North).e0))), (6, ⟨g7809, 10, none⟩, (iv (((rdD t6192 x7800 z_Row).North).e1))), (6, ⟨g7809, 11, none⟩, (iv (((rdD t6192 x7800 z_Row).North).e2))), (6, ⟨g7809, 12, none⟩, (iv (((rdD t6192 x7800 z_Row).North).e3))), (6, ⟨g7809, 13, none⟩, (iv (((rdD t6192 x7800 z_Row).North).e4))), (6, ⟨g7809, 14, none⟩, (iv (((rdD t6192 x7800 z_Row).North).e5))), (6, ⟨g7809, 15, none⟩, (iv (((rdD t6192 x7800 z_Row).North).e6))), (6, ⟨g7809, 16, none⟩, (iv (((rdD t6192 x7800 z_Row).North).e7)))] (fun fb => by kernel_rfl) rfl ⟨nrow_adr (hS7861.rd 1).1 h7865.1 h7865.2, trivial⟩ rfl ?_
    refine WL.lookup (mapsO.at (hS7861.rd 2).1 h7865.1 h7865.2 hm7867) ((rdD t6192 x7800 z_Row).North) (d := 58) (c := false) (t := 81) (kT := 86) (eT := 4) (z := false) (kE := (aggI ints_A8_Int)) (vE := vB) (l := m7866) (.bool (mget ((rdD t6192 x7800 z_Row).North) false m7866)) (fun fb => by kernel_rfl) torus_find_key86 (by kernel_rfl) (fun _ => by kernel_rfl) rfl ?_
    refine ⟨trivial, ?_⟩
    refine seg 9 [] [2, 6, 8, 9, 10, 12, 13, 26, 27, 28, 59] [(2, (iv p2)), (6, (pt g6014)), (8, (.slice A6197 t6192.length c6198)), (9, (.map (some g6200))), (10, (pt g6204)), (12, (pt g7809)), (13, (.slice A7833 x7837.2.length c7834)), (26, (.slice A6197 t6192.length c6198)), (27, (iv (t6192.length : Int))), (28, (iv x7800)), (59, (.bool (!(mget ((rdD t6192 x7800 z_Row).North) false m7866))))] [] (fun fb => by kernel_rfl) rfl trivial ?_
    refine WL.done rfl ?_
    refine WX.next ?_
    rcases br_some hl7806 with ⟨h7868, hl7806⟩ | ⟨h7868, hl7806⟩
    ·refine WC.condT2 (fun fb => by kernel_rfl) h7868 ?_
     refine WC.exit ?_
     refine WX.thenX (WX.blockHere (WX.next ?_))
     refine WC.region ?_
     refine seg 2 [] [2, 6, 8, 9, 10, 26, 27, 28] [(2, (iv p2)), (6, (pt g6014)), (8, (.slice A6197 t6192.length c6198)), (9, (.map (some g6200))), (10, (pt g6204)), (26, (.slice A6197 t6192.length c6198)), (27, (iv (t6192.length : Int))), (28, (iv (w64 (x7800 + 1))))] [] (fun fb => by kernel_rfl) rfl trivial ?_
     refine WL.done rfl ?_
     exact WX.again k7803 (Nat.lt_succ_self _) ((x7837.1, w64 (x7800 + 1)), K7832) [2, 6, 8, 9, 10, 26, 27, 28] rfl ⟨(hS7861.subR [0, 6, 7]).sub [0, 1, 2, 3, 4] (by decide), hl7806⟩
    refine WC.condF2 (fun fb => by kernel_rfl) h7868 ?_
    refine WC.skip ?_
    refine WX.next ?_
    refine WC.seq ?_
    refine WC.region ?_
    refine seg 4 [.v (.slice none 0 0), .v (.slice ((H6199 x7800.toNat 0).1) ((rdD t6192 x7800 z_Row).Cells).length ((H6199 x7800.toNat 0).2))] [2, 6, 8, 10, 12, 13, 61, 63] [(2, (iv p2)), (6, (pt g6014)), (8, (.slice A6197 t6192.length c6198)), (10, (pt g6204)), (12, (pt g7809)), (13, (.slice A7833 x7837.2.length c7834)), (61, (.slice none 0 0)), (63, (.slice ((H6199 x7800.toNat 0).1) ((rdD t6192 x7800 z_Row).Cells).length ((H6199 x7800.toNat 0).2)))] [.cell ⟨g6204, 2, none⟩ (.slice none 0 0), .cell ⟨g7809, 0, none⟩ (.slice ((H6199 x7800.toNat 0).1) ((rdD t6192 x7800 z_Row).Cells).length ((H6199 x7800.toNat 0).2))] (fun fb => by kernel_rfl) rfl ⟨hS7861.cell 4 rfl 2 rfl, hS7861.cell 5 rfl 0 rfl, trivial⟩ ?_
    have hS7869 := hS7861.nilrow 3 encInt
    obtain ⟨h7870, hl7806⟩ := as_some hl7806
    refine WL.append hS7869 0 (d := 64) (tS := 36) (z := (iv 0)) (bytes := 8) (c2 := (H6199 x7800.toNat 0).2) rfl (fun fb => by kernel_rfl) (nestO.at ((hS7869.own 3).1 0) z_Row h7808.1 h7808.2) (by kernel_rfl) (by kernel_rfl) rfl (by decide) h7870 (by decide) [1, 2, 3, 4, 5, 6] (by decide) (by decide) (fun A7871 c7872 w7873 hS7874 => ?_)
    refine ⟨trivial, ?_⟩
    refine seg 6 [] [2, 6, 8, 10, 12, 13, 64, 65] [(2, (iv p2)), (6, (pt g6014)), (8, (.slice A6197 t6192.length c6198)), (10, (pt g6204)), (12, (pt g7809)), (13, (.slice A7833 x7837.2.length c7834)), (64, (.slice A7871 (([] : List Int) ++ ((rdD t6192 x7800 z_Row).Cells)).length c7872)), (65, (.pointer (some ⟨g6204, 2, none⟩)))] [] (fun fb => by kernel_rfl) rfl trivial ?_
    refine WL.store hS7874 5 rfl [(2, (.slice A7871 (([] : List Int) ++ ((rdD t6192 x7800 z_Row).Cells)).length c7872))] #[(iv p1), (iv p2), (.slice A7871 (([] : List Int) ++ ((rdD t6192 x7800 z_Row).Cells)).length c7872)] (fun fb => by kernel_rfl) (by kernel_rfl) rfl [0, 1, 2, 3, 4, 6] (by decide) (by decide) (fun w7875 hS7876 => ?_)
    refine ⟨trivial, ?_⟩
    refine WL.done rfl ?_
    refine WX.next ?_
    refine WC.seq ?_
    refine WC.region ?_
    refine seg 2 [.v (iv (((rdD t6192 x7800 z_Row).North).e0)), .v (iv (((rdD t6192 x7800 z_Row).North).e1)), .v (iv (((rdD t6192 x7800 z_Row).North).e2)), .v (iv (((rdD t6192 x7800 z_Row).North).e3)), .v (iv (((rdD t6192 x7800 z_Row).North).e4)), .v (iv (((rdD t6192 x7800 z_Row).North).e5)), .v (iv (((rdD t6192 x7800 z_Row).North).e6)), .v (iv (((rdD t6192 x7800 z_Row).North).e7))] [2, 6, 8, 10, 13, 67] [(2, (iv p2)), (6, (pt g6014)), (8, (.slice A6197 t6192.length c6198)), (10, (pt g6204)), (13, (.slice A7833 x7837.2.length c7834)), (67, (.agg #[(iv (((rdD t6192 x7800 z_Row).North).e0)), (iv (((rdD t6192 x7800 z_Row).North).e1)), (iv (((rdD t6192 x7800 z_Row).North).e2)), (iv (((rdD t6192 x7800 z_Row).North).e3)), (iv (((rdD t6192 x7800 z_Row).North).e4)), (iv (((rdD t6192 x7800 z_Row).North).e5)), (iv (((rdD t6192 x7800 z_Row).North).e6)), (iv (((rdD t6192 x7800 z_Row).North).e7))]))] [.cell ⟨g7809, 9, none⟩ (iv (((rdD t6192 x7800 z_Row).North).e0)), .cell ⟨g7809, 10, none⟩ (iv (((rdD t6192 x7800 z_Row).North).e1)), .cell ⟨g7809, 11, none⟩ (iv (((rdD t6192 x7800 z_Row).North).e2)), .cell ⟨g7809, 12, none⟩ (iv (((rdD t6192 x7800 z_Row).North).e3)), .cell ⟨g7809, 13, none⟩ (iv (((rdD t6192 x7800 z_Row).North).e4)), .cell ⟨g7809, 14, none⟩ (iv (((rdD t6192 x7800 z_Row).North).e5)), .cell ⟨g7809, 15, none⟩ (iv (((rdD t6192 x7800 z_Row).North).e6)), .cell ⟨g7809, 16, none⟩ (iv (((rdD t6192 x7800 z_Row).North).e7))] (fun fb => by kernel_rfl) rfl ⟨hS7876.cell 6 rfl 9 rfl, hS7876.cell 6 rfl 10 rfl, hS7876.cell 6 rfl 11 rfl, hS7876.cell 6 rfl 12 rfl, hS7876.cell 6 rfl 13 rfl, hS7876.cell 6 rfl 14 rfl, hS7876.cell 6 rfl 15 rfl, hS7876.cell 6 rfl 16 rfl, trivial⟩ ?_
    refine WL.new hS7876 15 [] (fun g => (.pointer (some ⟨g, 0, none⟩))) (.cells #[(iv 0), (iv 0), (iv 0), (iv 0), (iv 0), (iv 0), (iv 0), (iv 0)] 86 (0, 0)) [] (fun fb g => by kernel_rfl) trivial (fun g7877 w7878 hS7879 => ?_)
    refine ⟨trivial, ?_⟩
    refine WL.store hS7879 0 rfl [(0, (iv (((rdD t6192 x7800 z_Row).North).e0))), (1, (iv (((rdD t6192 x7800 z_Row).North).e1))), (2, (iv (((rdD t6192 x7800 z_Row).North).e2))), (3, (iv (((rdD t6192 x7800 z_Row).North).e3))), (4, (iv (((rdD t6192 x7800 z_Row).North).e4))), (5, (iv (((rdD t6192 x7800 z_Row).North).e5))), (6, (iv (((rdD t6192 x7800 z_Row).North).e6))), (7, (iv (((rdD t6192 x7800 z_Row).North).e7)))] #[(iv (((rdD t6192 x7800 z_Row).North).e0)), (iv (((rdD t6192 x7800 z_Row).North).e1)), (iv (((rdD t6192 x7800 z_Row).North).e2)), (iv (((rdD t6192 x7800 z_Row).North).e3)), (iv (((rdD t6192 x7800 z_Row).North).e4)), (iv (((rdD t6192 x7800 z_Row).North).e5)), (iv (((rdD t6192 x7800 z_Row).North).e6)), (iv (((rdD t6192 x7800 z_Row).North).e7))] (fun fb => by kernel_rfl) (by kernel_rfl) rfl [1, 2, 3, 4, 5, 6, 7] (by decide) (by decide) (fun w7881 hS7882 => ?_)
    refine ⟨trivial, ?_⟩
    refine WL.done rfl ?_
    refine WX.next ?_
    refine WC.seq ?_
    refine WC.seq ?_
    refine WC.region ?_
    refine seg 3 [] [6, 8, 10, 13, 15, 16] [(6, (pt g6014)), (8, (.slice A6197 t6192.length c6198)), (10, (pt g6204)), (13, (.slice A7833 x7837.2.length c7834)), (15, (pt g7877)), (16, (iv (w64 (p2 - 2))))] [] (fun fb => by kernel_rfl) rfl trivial ?_
    refine WL.done rfl ?_
    refine WX.next ?_
    obtain ⟨x8248, hx8249, hl7806⟩ := bind_some hl7806
    refine WC.cutN (T := (List Int) × (Option Addr) × Nat) (fun t => [(6, (pt g6014)), (10, (pt g6204))]) (fun t w1 => St NoS w w1 [knestO (aggI ints_A8_Int) vB K7832 x7837.1, rowR (encMap A8_Int Bool) A7833 c7834 (tag H7836 x7837.2), mapsO (aggI ints_A8_Int) vB H7836 x7837.2, mapsO (aggI ints_A8_Int) vB ((mget ((rdD t6192 x7800 z_Row).South) zHM K7799).1.2.2) (mget ((rdD t6192 x7800 z_Row).South) [] l7798), rowR (encMap A8_Int Bool) ((mget ((rdD t6192 x7800 z_Row).South) zHM K7799).1.1) ((mget ((rdD t6192 x7800 z_Row).South) zHM K7799).1.2.1) (tag ((mget ((rdD t6192 x7800 z_Row).South) zHM K7799).1.2.2) (mget ((rdD t6192 x7800 z_Row).South) [] l7798)), knestO (aggI ints_A8_Int) vB K7799 l7798, knestO (aggI ints_A8_Int) vB ([] : List (A8_Int × (HM × List (Option (List (A8_Int × Bool)))))) ([] : List (A8_Int × List (Option (List (A8_Int × Bool))))), rowR enc_Tile A_p0 c_p0 p0] [blk g6014 (.cells #[(iv 0), (iv 0), (.slice none 0 0)] 38 (0, 0)), blk g6204 (.cells #[(iv p1), (iv p2), (.slice t.2.1 t.1.length t.2.2)] 38 (0, 0)), rowO 3 encInt t.2.1 t.2.2 t.1] ∧ x8248 = t.1) (fun Kx8248 => ?_) ?_
    ·
     refine WC.block ?_
     refine WC.loop (T := ((List Int) × A8_Int × Int) × (Option Addr) × Nat) (fun t => [(6, (pt g6014)), (8, (.slice A6197 t6192.length c6198)), (10, (pt g6204)), (13, (.slice A7833 x7837.2.length c7834)), (15, (pt g7877)), (16, (iv t.1.2.2))]) (fun n t w1 => St NoS w w1 [knestO (aggI ints_A8_Int) vB K7832 x7837.1, rowR (encMap A8_Int Bool) A7833 c7834 (tag H7836 x7837.2), mapsO (aggI ints_A8_Int) vB H7836 x7837.2, mapsO (aggI ints_A8_Int) vB ((mget ((rdD t6192 x7800 z_Row).South) zHM K7799).1.2.2) (mget ((rdD t6192 x7800 z_Row).South) [] l7798), rowR (encMap A8_Int Bool) ((mget ((rdD t6192 x7800 z_Row).South) zHM K7799).1.1) ((mget ((rdD t6192 x7800 z_Row).South) zHM K7799).1.2.1) (tag ((mget ((rdD t6192 x7800 z_Row).South) zHM K7799).1.2.2) (mget ((rdD t6192 x7800 z_Row).South) [] l7798)), knestO (aggI ints_A8_Int) vB K7799 l7798, knestO (aggI ints_A8_Int) vB ([] : List (A8_Int × (HM × List (Option (List (A8_Int × Bool)))))) ([] : List (A8_Int × List (Option (List (A8_Int × Bool))))), rowR enc_Tile A_p0 c_p0 p0] [blk g6014 (.cells #[(iv 0), (iv 0), (.slice none 0 0)] 38 (0, 0)), rowO 88 encN_Row A6197 c6198 (tag H6199 t6192), poolO [nestO subN_Row H6199 t6192], blk g6204 (.cells #[(iv p1), (iv p2), (.slice t.2.1 t.1.1.length t.2.2)] 38 (0, 0)), rowO 3 encInt t.2.1 t.2.2 t.1.1, blk g7877 (.cells #[(iv t.1.2.1.e0), (iv t.1.2.1.e1), (iv t.1.2.1.e2), (iv t.1.2.1.e3), (iv t.1.2.1.e4), (iv t.1.2.1.e5), (iv t.1.2.1.e6), (iv t.1.2.1.e7)] 86 (0, 0))] ∧ torus_find.l1 n t.1.1 t.1.2.1 t.1.2.2 t6192 x7837 = some x8248) k7803 ((([] : List Int) ++ ((rdD t6192 x7800 z_Row).Cells), ((rdD t6192 x7800 z_Row).North), w64 (p2 - 2)), A7871, c7872) [6, 8, 10, 13, 15, 16] rfl ⟨(hS7882.subR [0, 1, 2, 3, 4, 5, 6, 7]).sub [3, 4, 5, 1, 2, 0] (by decide), hx8249⟩ ?_
     rintro k8250 ⟨⟨l8242, a8243, x8244⟩, A8240, c8241⟩ w8251 ⟨hS8252, hl8253⟩
     cases k8250 with
     | zero => rw [torus_find.l1] at hl8253; cases hl8253
     | succ k8250 =>
      rw [torus_find.l1] at hl8253
      refine WC.seq ?_
      refine WC.seq ?_
      refine WC.region ?_
      refine seg 2 [] [6, 8, 10, 13, 15, 16, 71] [(6, (pt g6014)), (8, (.slice A6197 t6192.length c6198)), (10, (pt g6204)), (13, (.slice A7833 x7837.2.length c7834)), (15, (pt g7877)), (16, (iv x8244)), (71, (.bool (decide (x8244 ≥ 0))))] [] (fun fb => by kernel_rfl) rfl trivial ?_
      refine WL.done rfl ?_
      refine WX.next ?_
      rcases br_some hl8253 with ⟨h8254, hl8253⟩ | ⟨h8254, hl8253⟩
      ·refine WC.condT2 (fun fb => by kernel_rfl) h8254 ?_
       refine WC.skip ?_
       refine WX.next ?_
       refine WC.seq ?_
       refine WC.block ?_
       refine WC.scope ?_
       refine WC.seq ?_
       refine WC.label ?_
       refine WX.next ?_
       refine WC.seq ?_
       refine WC.region ?_
       refine seg 3 [] [6, 8, 10, 13, 15, 16, 74, 75, 76] [(6, (pt g6014)), (8, (.slice A6197 t6192.length c6198)), (10, (pt g6204)), (13, (.slice A7833 x7837.2.length c7834)), (15, (pt g7877)), (16, (iv x8244)), (74, (.slice A6197 t6192.length c6198)), (75, (iv (t6192.length : Int))), (76, (iv 0))] [] (fun fb => by kernel_rfl) rfl trivial ?_
       refine WL.done rfl ?_
       refine WX.next ?_
       obtain ⟨x8367, hx8368, hl8253⟩ := bind_some hl8253
       refine WC.cutN (T := ((List Int) × A8_Int) × (Option Addr) × Nat) (fun t => [(6, (pt g6014)), (8, (.slice A6197 t6192.length c6198)), (10, (pt g6204)), (13, (.slice A7833 x7837.2.length c7834)), (15, (pt g7877)), (16, (iv x8244))]) (fun t w1 => St NoS w w1 [knestO (aggI ints_A8_Int) vB K7832 x7837.1, rowR (encMap A8_Int Bool) A7833 c7834 (tag H7836 x7837.2), mapsO (aggI ints_A8_Int) vB H7836 x7837.2, mapsO (aggI ints_A8_Int) vB ((mget ((rdD t6192 x7800 z_Row).South) zHM K7799).1.2.2) (mget ((rdD t6192 x7800 z_Row).South) [] l7798), rowR (encMap A8_Int Bool) ((mget ((rdD t6192 x7800 z_Row).South) zHM K7799).1.1) ((mget ((rdD t6192 x7800 z_Row).South) zHM K7799).1.2.1) (tag ((mget ((rdD t6192 x7800 z_Row).South) zHM K7799).1.2.2) (mget ((rdD t6192 x7800 z_Row).South) [] l7798)), knestO (aggI ints_A8_Int) vB K7799 l7798, knestO (aggI ints_A8_Int) vB ([] : List (A8_Int × (HM × List (Option (List (A8_Int × Bool)))))) ([] : List (A8_Int × List (Option (List (A8_Int × Bool))))), rowR enc_Tile A_p0 c_p0 p0] [blk g6014 (.cells #[(iv 0), (iv 0), (.slice none 0 0)] 38 (0, 0)), rowO 88 encN_Row A6197 c6198 (tag H6199 t6192), poolO [nestO subN_Row H6199 t6192], blk g6204 (.cells #[(iv p1), (iv p2), (.slice t.2.1 t.1.1.length t.2.2)] 38 (0, 0)), rowO 3 encInt t.2.1 t.2.2 t.1.1, blk g7877 (.cells #[(iv t.1.2.e0), (iv t.1.2.e1), (iv t.1.2.e2), (iv t.1.2.e3), (iv t.1.2.e4), (iv t.1.2.e5), (iv t.1.2.e6), (iv t.1.2.e7)] 86 (0, 0))] ∧ x8367 = t.1) (fun Kx8367 => ?_) ?_
       ·
        refine WC.block ?_
        refine WC.loop (T := Int) (fun t => [(6, (pt g6014)), (8, (.slice A6197 t6192.length c6198)), (10, (pt g6204)), (13, (.slice A7833 x7837.2.length c7834)), (15, (pt g7877)), (16, (iv x8244)), (74, (.slice A6197 t6192.length c6198)), (75, (iv (t6192.length : Int))), (76, (iv t))]) (fun n t w1 => St NoS w w1 [knestO (aggI ints_A8_Int) vB K7832 x7837.1, rowR (encMap A8_Int Bool) A7833 c7834 (tag H7836 x7837.2), mapsO (aggI ints_A8_Int) vB H7836 x7837.2, mapsO (aggI ints_A8_Int) vB ((mget ((rdD t6192 x7800 z_Row).South) zHM K7799).1.2.2) (mget ((rdD t6192 x7800 z_Row).South) [] l7798), rowR (encMap A8_Int Bool) ((mget ((rdD t6192 x7800 z_Row).South) zHM K7799).1.1) ((mget ((rdD t6192 x7800 z_Row).South) zHM K7799).1.2.1) (tag ((mget ((rdD t6192 x7800 z_Row).South) zHM K7799).1.2.2) (mget ((rdD t6192 x7800 z_Row).South) [] l7798)), knestO (aggI ints_A8_Int) vB K7799 l7798, knestO (aggI ints_A8_Int) vB ([] : List (A8_Int × (HM × List (Option (List (A8_Int × Bool)))))) ([] : List (A8_Int × List (Option (List (A8_Int × Bool))))), rowR enc_Tile A_p0 c_p0 p0] [blk g6014 (.cells #[(iv 0), (iv 0), (.slice none 0 0)] 38 (0, 0)), rowO 88 encN_Row A6197 c6198 (tag H6199 t6192), poolO [nestO subN_Row H6199 t6192], blk g6204 (.cells #[(iv p1), (iv p2), (.slice A8240 l8242.length c8241)] 38 (0, 0)), rowO 3 encInt A8240 c8241 l8242, blk g7877 (.cells #[(iv a8243.e0), (iv a8243.e1), (iv a8243.e2), (iv a8243.e3), (iv a8243.e4), (iv a8243.e5), (iv a8243.e6), (iv a8243.e7)] 86 (0, 0))] ∧ torus_find.l2 n t t6192 x7837 l8242 a8243 x8244 = some x8367) k8250 0 [6, 8, 10, 13, 15, 16, 74, 75, 76] rfl ⟨(hS8252.subR [0, 1, 2, 3, 4, 5, 6, 7]).sub [0, 1, 2, 3, 4, 5] (by decide), hx8368⟩ ?_
        rintro k8369 x8362 w8370 ⟨hS8371, hl8372⟩
        cases k8369 with
        | zero => rw [torus_find.l2] at hl8372; cases hl8372
        | succ k8369 =>
         rw [torus_find.l2] at hl8372
         refine WC.seq ?_
         refine WC.region ?_
         refine seg 1 [] [6, 8, 10, 13, 15, 16, 74, 75, 76, 77] [(6, (pt g6014)), (8, (.slice A6197 t6192.length c6198)), (10, (pt g6204)), (13, (.slice A7833 x7837.2.length c7834)), (15, (pt g7877)), (16, (iv x8244)), (74, (.slice A6197 t6192.length c6198)), (75, (iv (t6192.length : Int))), (76, (iv x8362)), (77, (.bool (decide (x8362 < (t6192.length : Int)))))] [] (fun fb => by kernel_rfl) rfl trivial ?_
         refine WL.done rfl ?_
         refine WX.next ?_
         refine WC.seq ?_
         rcases br_some hl8372 with ⟨h8373, hl8372⟩ | ⟨h8373, hl8372⟩
         ·refine WC.condT2 (fun fb => by kernel_rfl) h8373 ?_
          refine WC.skip ?_
          refine WX.next ?_
          refine WC.seq ?_
          refine WC.block ?_
          refine WC.seq ?_
          refine WC.region ?_
          obtain ⟨h8374, hl8372⟩ := as_some hl8372
          refine seg 2 [.v (.slice ((H6199 x8362.toNat 0).1) ((rdD t6192 x8362 z_Row).Cells).length ((H6199 x8362.toNat 0).2)), .v (iv (((rdD t6192 x8362 z_Row).South).e0)), .v (iv (((rdD t6192 x8362 z_Row).South).e1)), .v (iv (((rdD t6192 x8362 z_Row).South).e2)), .v (iv (((rdD t6192 x8362 z_Row).South).e3)), .v (iv (((rdD t6192 x8362 z_Row).South).e4)), .v (iv (((rdD t6192 x8362 z_Row).South).e5)), .v (iv (((rdD t6192 x8362 z_Row).South).e6)), .v (iv (((rdD t6192 x8362 z_Row).South).e7)), .v (iv (((rdD t6192 x8362 z_Row).North).e0)), .v (iv (((rdD t6192 x8362 z_Row).North).e1)), .v (iv (((rdD t6192 x8362 z_Row).North).e2)), .v (iv (((rdD t6192 x8362 z_Row).North).e3)), .v (iv (((rdD t6192 x8362 z_Row).North).e4)), .v (iv (((rdD t6192 x8362 z_Row).North).e5)), .v (iv (((rdD t6192 x8362 z_Row).North).e6)), .v (iv (((rdD t6192 x8362 z_Row).North).e7)), .v (iv ((rdD t6192 x8362 z_Row).West)), .v (iv ((rdD t6192 x8362 z_Row).East))] [6, 8, 10, 13, 15, 16, 74, 75, 76, 79] [(6, (pt g6014)), (8, (.slice A6197 t6192.length c6198)), (10, (pt g6204)), (13, (.slice A7833 x7837.2.length c7834)), (15, (pt g7877)), (16, (iv x8244)), (74, (.slice A6197 t6192.length c6198)), (75, (iv (t6192.length : Int))), (76, (iv x8362)), (79, (.agg #[(.slice ((H6199 x8362.toNat 0).1) ((rdD t6192 x8362 z_Row).Cells).length ((H6199 x8362.toNat 0).2)), (iv (((rdD t6192 x8362 z_Row).South).e0)), (iv (((rdD t6192 x8362 z_Row).South).e1)), (iv (((rdD t6192 x8362 z_Row).South).e2)), (iv (((rdD t6192 x8362 z_Row).South).e3)), (iv (((rdD t6192 x8362 z_Row).South).e4)), (iv (((rdD t6192 x8362 z_Row).South).e5)), (iv (((rdD t6192 x8362 z_Row).South).e6)), (iv (((rdD t6192 x8362 z_Row).South).e7)), (iv (((rdD t6192 x8362 z_Row).North).e0)), (iv (((rdD t6192 x8362 z_Row).North).e1)), (iv (((rdD t6192 x8362 z_Row).North).e2)), (iv (((rdD t6192 x8362 z_Row).North).e3)), (iv (((rdD t6192 x8362 z_Row).North).e4)), (iv (((rdD t6192 x8362 z_Row).North).e5)), (iv (((rdD t6192 x8362 z_Row).North).e6)), (iv (((rdD t6192 x8362 z_Row).North).e7)), (iv ((rdD t6192 x8362 z_Row).West)), (iv ((rdD t6192 x8362 z_Row).East))]))] [.idx A6197 x8362 t6192.length, .cell ((adr A6197).add ((x8362).toNat * 19)) (.slice ((H6199 x8362.toNat 0).1) ((rdD t6192 x8362 z_Row).Cells).length ((H6199 x8362.toNat 0).2)), .cell (((adr A6197).add ((x8362).toNat * 19)).add 1) (iv (((rdD t6192 x8362 z_Row).South).e0)), .cell (((adr A6197).add ((x8362).toNat * 19)).add 2) (iv (((rdD t6192 x8362 z_Row).South).e1)), .cell (((adr A6197).add ((x8362).toNat * 19)).add 3) (iv (((rdD t6192 x8362 z_Row).South).e2)), .cell (((adr A6197).add ((x8362).toNat * 19)).add 4) (iv (((rdD t6192 x8362 z_Row).South).e3)), .cell (((adr A6197).add ((x8362).toNat * 19)).add 5) (iv (((rdD t6192 x8362 z_Row).South).e4)), .cell (((adr A6197).add ((x8362).toNat * 19)).add 6) (iv (((rdD t6192 x8362 z_Row).South).e5)), .cell (((adr A6197).add ((x8362).toNat * 19)).add 7) (iv (((rdD t6192 x8362 z_Row).South).e6)), .cell (((adr A6197).add ((x8362).toNat * 19)).add 8) (iv (((rdD t6192 x8362 z_Row).South).e7)), .cell (((adr A6197).add ((x8362).toNat * 19)).add 9) (iv (((rdD t6192 x8362 z_Row).North).e0)), .cell (((adr A6197).add ((x8362).toNat * 19)).add 10) (iv (((rdD t6192 x8362 z_Row).North).e1)), .cell (((adr A6197).add ((x8362).toNat * 19)).add 11) (iv (((rdD t6192 x8362 z_Row).North).e2)), .cell (((adr A6197).add ((x8362).toNat * 19)).add 12) (iv (((rdD t6192 x8362 z_Row).North).e3)), .cell (((adr A6197).add ((x8362).toNat * 19)).add 13) (iv (((rdD t6192 x8362 z_Row).North).e4)), .cell (((adr A6197).add ((x8362).toNat * 19)).add 14) (iv (((rdD t6192 x8362 z_Row).North).e5)), .cell (((adr A6197).add ((x8362).toNat * 19)).add 15) (iv (((rdD t6192 x8362 z_Row).North).e6)), .cell (((adr A6197).add ((x8362).toNat * 19)).add 16) (iv (((rdD t6192 x8362 z_Row).North).e7)), .cell (((adr A6197).add ((x8362).toNat * 19)).add 17) (iv ((rdD t6192 x8362 z_Row).West)), .cell (((adr A6197).add ((x8362).toNat * 19)).add 18) (iv ((rdD t6192 x8362 z_Row).East))] (fun fb => by kernel_rfl) rfl ⟨nrow_adr (rowO.rd (hS8371.own 1).1) h8374.1 h8374.2, nrow_cell (rowO.rd (hS8371.own 1).1) z_Row h8374.1 h8374.2 0 rfl, nrow_cell (rowO.rd (hS8371.own 1).1) z_Row h8374.1 h8374.2 1 rfl, nrow_cell (rowO.rd (hS8371.own 1).1) z_Row h8374.1 h8374.2 2 rfl, nrow_cell (rowO.rd (hS8371.own 1).1) z_Row h8374.1 h8374.2 3 rfl, nrow_cell (rowO.rd (hS8371.own 1).1) z_Row h8374.1 h8374.2 4 rfl, nrow_cell (rowO.rd (hS8371.own 1).1) z_Row h8374.1 h8374.2 5 rfl, nrow_cell (rowO.rd (hS8371.own 1).1) z_Row h8374.1 h8374.2 6 rfl, nrow_cell (rowO.rd (hS8371.own 1).1) z_Row h8374.1 h8374.2 7 rfl, nrow_cell (rowO.rd (hS8371.own 1).1) z_Row h8374.1 h8374.2 8 rfl, nrow_cell (rowO.rd (hS8371.own 1).1) z_Row h8374.1 h8374.2 9 rfl, nrow_cell (rowO.rd (hS8371.own 1).1) z_Row h8374.1 h8374.2 10 rfl, nrow_cell (rowO.rd (hS8371.own 1).1) z_Row h8374.1 h8374.2 11 rfl, nrow_cell (rowO.rd (hS8371.own 1).1) z_Row h8374.1 h8374.2 12 rfl, nrow_cell (rowO.rd (hS8371.own 1).1) z_Row h8374.1 h8374.2 13 rfl, nrow_cell (rowO.rd (hS8371.own 1).1) z_Row h8374.1 h8374.2 14 rfl, nrow_cell (rowO.rd (hS8371.own 1).1) z_Row h8374.1 h8374.2 15 rfl, nrow_cell (rowO.rd (hS8371.own 1).1) z_Row h8374.1 h8374.2 16 rfl, nrow_cell (rowO.rd (hS8371.own 1).1) z_Row h8374.1 h8374.2 17 rfl, nrow_cell (rowO.rd (hS8371.own 1).1) z_Row h8374.1 h8374.2 18 rfl, trivial⟩ ?_
          refine WL.new hS8371 18 [] (fun g => (.pointer (some ⟨g, 0, none⟩))) (.cells #[(.slice none 0 0), (iv 0), (iv 0), (iv 0), (iv 0), (iv 0), (iv 0), (iv 0), (iv 0), (iv 0), (iv 0), (iv 0), (iv 0), (iv 0), (iv 0), (iv 0), (iv 0), (iv 0), (iv 0)] 88 (0, 0)) [] (fun fb g => by kernel_rfl) trivial (fun g8375 w8376 hS8377 => ?_)
          refine ⟨trivial, ?_⟩
          refine WL.store hS8377 0 rfl [(0, (.slice ((H6199 x8362.toNat 0).1) ((rdD t6192 x8362 z_Row).Cells).length ((H6199 x8362.toNat 0).2))), (1, (iv (((rdD t6192 x8362 z_Row).South).e0))), (2, (iv (((rdD t6192 x8362 z_Row).South).e1))), (3, (iv (((rdD t6192 x8362 z_Row).South).e2))), (4, (iv (((rdD t6192 x8362 z_Row).South).e3))), (5, (iv (((rdD t6192 x8362 z_Row).South).e4))), (6, (iv (((rdD t6192 x8362 z_Row).South).e5))), (7, (iv (((rdD t6192 x8362 z_Row).South).e6))), (8, (iv (((rdD t6192 x8362 z_Row).South).e7))), (9, (iv (((rdD t6192 x8362 z_Row).North).e0))), (10, (iv (((rdD t6192 x8362 z_Row).North).e1))), (11, (iv (((rdD t6192 x8362 z_Row).North).e2))), (12, (iv (((rdD t6192 x8362 z_Row).North).e3))), (13, (iv (((rdD t6192 x8362 z_Row).North).e4))), (14, (iv (((rdD t6192 x8362 z_Row).North).e5))), (15, (iv (((rdD t6192 x8362 z_Row).North).e6))), (16, (iv (((rdD t6192 x8362 z_Row).North).e7))), (17, (iv ((rdD t6192 x8362 z_Row).West))), (18, (iv ((rdD t6192 x8362 z_Row).East)))] #[(.slice ((H6199 x8362.toNat 0).1) ((rdD t6192 x8362 z_Row).Cells).length ((H6199 x8362.toNat 0).2)), (iv (((rdD t6192 x8362 z_Row).South).e0)), (iv (((rdD t6192 x8362 z_Row).South).e1)), (iv (((rdD t6192 x8362 z_Row).South).e2)), (iv (((rdD t6192 x8362 z_Row).South).e3)), (iv (((rdD t6192 x8362 z_Row).South).e4)), (iv (((rdD t6192 x8362 z_Row).South).e5)), (iv (((rdD t6192 x8362 z_Row).South).e6)), (iv (((rdD t6192 x8362 z_Row).South).e7)), (iv (((rdD t6192 x8362 z_Row).North).e0)), (iv (((rdD t6192 x8362 z_Row).North).e1)), (iv (((rdD t6192 x8362 z_Row).North).e2)), (iv (((rdD t6192 x8362 z_Row).North).e3)), (iv (((rdD t6192 x8362 z_Row).North).e4)), (iv (((rdD t6192 x8362 z_Row).North).e5)), (iv (((rdD t6192 x8362 z_Row).North).e6)), (iv (((rdD t6192 x8362 z_Row).North).e7)), (iv ((rdD t6192 x8362 z_Row).West)), (iv ((rdD t6192 x8362 z_Row).East))] (fun fb => by kernel_rfl) (by kernel_rfl) (by kernel_rfl) [1, 2, 3, 4, 5, 6] (by decide) (by decide) (fun w8379 hS8380 => ?_)
          refine ⟨trivial, ?_⟩
          refine WL.done rfl ?_
          refine WX.next ?_
          refine WC.seq ?_
          obtain ⟨x8396, hx8397, hl8372⟩ := bind_some hl8372
          refine WC.cutN (T := Bool) (fun t => [(6, (pt g6014)), (8, (.slice A6197 t6192.length c6198)), (10, (pt g6204)), (13, (.slice A7833 x7837.2.length c7834)), (15, (pt g7877)), (16, (iv x8244)), (18, (pt g8375)), (74, (.slice A6197 t6192.length c6198)), (75, (iv (t6192.length : Int))), (76, (iv x8362)), (92, (.bool t))]) (fun t w1 => St NoS w w1 [knestO (aggI ints_A8_Int) vB K7832 x7837.1, rowR (encMap A8_Int Bool) A7833 c7834 (tag H7836 x7837.2), mapsO (aggI ints_A8_Int) vB H7836 x7837.2, mapsO (aggI ints_A8_Int) vB ((mget ((rdD t6192 x7800 z_Row).South) zHM K7799).1.2.2) (mget ((rdD t6192 x7800 z_Row).South) [] l7798), rowR (encMap A8_Int Bool) ((mget ((rdD t6192 x7800 z_Row).South) zHM K7799).1.1) ((mget ((rdD t6192 x7800 z_Row).South) zHM K7799).1.2.1) (tag ((mget ((rdD t6192 x7800 z_Row).South) zHM K7799).1.2.2) (mget ((rdD t6192 x7800 z_Row).South) [] l7798)), knestO (aggI ints_A8_Int) vB K7799 l7798, knestO (aggI ints_A8_Int) vB ([] : List (A8_Int × (HM × List (Option (List (A8_Int × Bool)))))) ([] : List (A8_Int × List (Option (List (A8_Int × Bool))))), rowR enc_Tile A_p0 c_p0 p0] [blk g6014 (.cells #[(iv 0), (iv 0), (.slice none 0 0)] 38 (0, 0)), rowO 88 encN_Row A6197 c6198 (tag H6199 t6192), poolO [nestO subN_Row H6199 t6192], blk g6204 (.cells #[(iv p1), (iv p2), (.slice A8240 l8242.length c8241)] 38 (0, 0)), rowO 3 encInt A8240 c8241 l8242, blk g7877 (.cells #[(iv a8243.e0), (iv a8243.e1), (iv a8243.e2), (iv a8243.e3), (iv a8243.e4), (iv a8243.e5), (iv a8243.e6), (iv a8243.e7)] 86 (0, 0)), blk g8375 (.cells #[(.slice ((H6199 x8362.toNat 0).1) ((rdD t6192 x8362 z_Row).Cells).length ((H6199 x8362.toNat 0).2)), (iv (((rdD t6192 x8362 z_Row).South).e0)), (iv (((rdD t6192 x8362 z_Row).South).e1)), (iv (((rdD t6192 x8362 z_Row).South).e2)), (iv (((rdD t6192 x8362 z_Row).South).e3)), (iv (((rdD t6192 x8362 z_Row).South).e4)), (iv (((rdD t6192 x8362 z_Row).South).e5)), (iv (((rdD t6192 x8362 z_Row).South).e6)), (iv (((rdD t6192 x8362 z_Row).South).e7)), (iv (((rdD t6192 x8362 z_Row).North).e0)), (iv (((rdD t6192 x8362 z_Row).North).e1)), (iv (((rdD t6192 x8362 z_Row).North).e2)), (iv (((rdD t6192 x8362 z_Row).North).e3)), (iv (((rdD t6192 x8362 z_Row).North).e4)), (iv (((rdD t6192 x8362 z_Row).North).e5)), (iv (((rdD t6192 x8362 z_Row).North).e6)), (iv (((rdD t6192 x8362 z_Row).North).e7)), (iv ((rdD t6192 x8362 z_Row).West)), (iv ((rdD t6192 x8362 z_Row).East))] 88 (0, 0))] ∧ x8396 = t) (fun Kx8396 => ?_) ?_
          ·
           rcases br_some hx8397 with ⟨h8398, hx8397⟩ | ⟨h8398, hx8397⟩
           ·
            obtain ⟨h8407, hx8397⟩ := as_some hx8397
            obtain ⟨m8408, hm8409, hx8397⟩ := bind_some hx8397
            refine WC.regionD ([(1, ⟨g8375, 1, none⟩, (iv (((rdD t6192 x8362 z_Row).South).e0))), (1, ⟨g8375, 2, none⟩, (iv (((rdD t6192 x8362 z_Row).South).e1))), (1, ⟨g8375, 3, none⟩, (iv (((rdD t6192 x8362 z_Row).South).e2))), (1, ⟨g8375, 4, none⟩, (iv (((rdD t6192 x8362 z_Row).South).e3))), (1, ⟨g8375, 5, none⟩, (iv (((rdD t6192 x8362 z_Row).South).e4))), (1, ⟨g8375, 6, none⟩, (iv (((rdD t6192 x8362 z_Row).South).e5))), (1, ⟨g8375, 7, none⟩, (iv (((rdD t6192 x8362 z_Row).South).e6))), (1, ⟨g8375, 8, none⟩, (iv (((rdD t6192 x8362 z_Row).South).e7))), (2, ⟨g7877, 0, none⟩, (iv a8243.e0)), (2, ⟨g7877, 1, none⟩, (iv a8243.e1)), (2, ⟨g7877, 2, none⟩, (iv a8243.e2)), (2, ⟨g7877, 3, none⟩, (iv a8243.e3)), (2, ⟨g7877, 4, none⟩, (iv a8243.e4)), (2, ⟨g7877, 5, none⟩, (iv a8243.e5)), (2, ⟨g7877, 6, none⟩, (iv a8243.e6)), (2, ⟨g7877, 7, none⟩, (iv a8243.e7)), (8, ((adr A7833).add ((x8244).toNat * 1)), (.map (some (H7836 x8244.toNat)))), (10, ⟨g8375, 9, none⟩, (iv (((rdD t6192 x8362 z_Row).North).e0))), (10, ⟨g8375, 10, none⟩, (iv (((rdD t6192 x8362 z_Row).North).e1))), (10, ⟨g8375, 11, none⟩, (iv (((rdD t6192 x8362 z_Row).North).e2))), (10, ⟨g8375, 12, none⟩, (iv (((rdD t6192 x8362 z_Row).North).e3))), (10, ⟨g8375, 13, none⟩, (iv (((rdD t6192 x8362 z_Row).North).e4))), (10, ⟨g8375, 14, none⟩, (iv (((rdD t6192 x8362 z_Row).North).e5))), (10, ⟨g8375, 15, none⟩, (iv (((rdD t6192 x8362 z_Row).North).e6))), (10, ⟨g8375, 16, none⟩, (iv (((rdD t6192 x8362 z_Row).North).e7)))], [0, 1, 2, 3, 4, 5, 6, 7, 8, 9, 10, 12], [[], [0], [], [0, 1, 2], [0, 1, 2, 3], [0, 1, 2, 3, 4], [0, 1, 2, 3, 4], [0, 1, 2, 3, 4, 5, 6], [0, 1, 2, 3, 4, 5, 6, 7], [0, 1, 2, 3, 4], [0, 1, 2, 3, 4, 9], [0, 1, 2, 3, 4, 5, 6, 7, 8, 9, 10], [0, 1, 2, 3, 4, 5, 6, 7, 8, 9, 10, 11]]) [[0, 1, 2, 3, 4, 5, 6, 7, 8, 9, 10, 11, 12]] (by kernel_rfl) (by kernel_rfl) (NoPanic.seq (NoPanic.block (NoPanic.seq (NoPanic.seq (NoPanic.block (NoPanic.scope (NoPanic.block (NoPanic.seq (NoPanic.seq (NoPanic.block (NoPanic.seq (NoPanic.block (NoPanic.seq (NoPanic.seq (NoPanic.block (NoPanic.seq (NoPanic.scope (NoPanic.body)))))))))))))))))) ?_
            have hS8403 := hS8380.drew
            revert hS8403
            generalize World.drew w8379 = w8402
            intro hS8403
            refine ⟨⟨hS8403.cell 0 rfl 1 rfl, hS8403.cell 0 rfl 2 rfl, hS8403.cell 0 rfl 3 rfl, hS8403.cell 0 rfl 4 rfl, hS8403.cell 0 rfl 5 rfl, hS8403.cell 0 rfl 6 rfl, hS8403.cell 0 rfl 7 rfl, hS8403.cell 0 rfl 8 rfl, hS8403.cell 6 rfl 0 rfl, hS8403.cell 6 rfl 1 rfl, hS8403.cell 6 rfl 2 rfl, hS8403.cell 6 rfl 3 rfl, hS8403.cell 6 rfl 4 rfl, hS8403.cell 6 rfl 5 rfl, hS8403.cell 6 rfl 6 rfl, hS8403.cell 6 rfl 7 rfl, nrow_cell (hS8403.rd 1).1 none h8407.1 h8407.2 0 (mapV_some hm8409), hS8403.cell 0 rfl 9 rfl, hS8403.cell 0 rfl 10 rfl, hS8403.cell 0 rfl 11 rfl, hS8403.cell 0 rfl 12 rfl, hS8403.cell 0 rfl 13 rfl, hS8403.cell 0 rfl 14 rfl, hS8403.cell 0 rfl 15 rfl, hS8403.cell 0 rfl 16 rfl, trivial⟩, forallC ?_ (forallN)⟩
            refine segF 5 [.v (iv (((rdD t6192 x8362 z_Row).South).e0)), .v (iv (((rdD t6192 x8362 z_Row).South).e1)), .v (iv (((rdD t6192 x8362 z_Row).South).e2)), .v (iv (((rdD t6192 x8362 z_Row).South).e3)), .v (iv (((rdD t6192 x8362 z_Row).South).e4)), .v (iv (((rdD t6192 x8362 z_Row).South).e5)), .v (iv (((rdD t6192 x8362 z_Row).South).e6)), .v (iv (((rdD t6192 x8362 z_Row).South).e7)), .v (iv a8243.e0), .v (iv a8243.e1), .v (iv a8243.e2), .v (iv a8243.e3), .v (iv a8243.e4), .v (iv a8243.e5), .v (iv a8243.e6), .v (iv a8243.e7)] [6, 8, 10, 13, 15, 16, 18, 74, 75, 76, 84] [(6, (pt g6014)), (8, (.slice A6197 t6192.length c6198)), (10, (pt g6204)), (13, (.slice A7833 x7837.2.length c7834)), (15, (pt g7877)), (16, (iv x8244)), (18, (pt g8375)), (74, (.slice A6197 t6192.length c6198)), (75, (iv (t6192.length : Int))), (76, (iv x8362)), (84, (.bool ((((rdD t6192 x8362 z_Row).South).e0) == a8243.e0 && ((((rdD t6192 x8362 z_Row).South).e1) == a8243.e1 && ((((rdD t6192 x8362 z_Row).South).e2) == a8243.e2 && ((((rdD t6192 x8362 z_Row).South).e3) == a8243.e3 && ((((rdD t6192 x8362 z_Row).South).e4) == a8243.e4 && ((((rdD t6192 x8362 z_Row).South).e5) == a8243.e5 && ((((rdD t6192 x8362 z_Row).South).e6) == a8243.e6 && ((((rdD t6192 x8362 z_Row).South).e7) == a8243.e7))))))))))] [] [0, 1, 2, 3, 4, 5, 6, 7, 8, 9, 10, 11, 12, 13, 14, 15] [(1, ⟨g8375, 1, none⟩, (iv (((rdD t6192 x8362 z_Row).South).e0))), (1, ⟨g8375, 2, none⟩, (iv (((rdD t6192 x8362 z_Row).South).e1))), (1, ⟨g8375, 3, none⟩, (iv (((rdD t6192 x8362 z_Row).South).e2))), (1, ⟨g8375, 4, none⟩, (iv (((rdD t6192 x8362 z_Row).South).e3))), (1, ⟨g8375, 5, none⟩, (iv (((rdD t6192 x8362 z_Row).South).e4))), (1, ⟨g8375, 6, none⟩, (iv (((rdD t6192 x8362 z_Row).South).e5))), (1, ⟨g8375, 7, none⟩, (iv (((rdD t6192 x8362 z_Row).South).e6))), (1, ⟨g8375, 8, none⟩, (iv (((rdD t6192 x8362 z_Row).South).e7))), (2, ⟨g7877, 0, none⟩, (iv a8243.e0)), (2, ⟨g7877, 1, none⟩, (iv a8243.e1)), (2, ⟨g7877, 2, none⟩, (iv a8243.e2)), (2, ⟨g7877, 3, none⟩, (iv a8243.e3)), (2, ⟨g7877, 4, none⟩, (iv a8243.e4)), (2, ⟨g7877, 5, none⟩, (iv a8243.e5)), (2, ⟨g7877, 6, none⟩, (iv a8243.e6)), (2, ⟨g7877, 7, none⟩, (iv a8243.e7))] (fun fb => by kernel_rfl) rfl trivial rfl ?_
            refine WL.setB 84 h8398 rfl ?_
            refine segF 11 [.v (.map (some (H7836 x8244.toNat))), .v (iv (((rdD t6192 x8362 z_Row).North).e0)), .v (iv (((rdD t6192 x8362 z_Row).North).e1)), .v (iv (((rdD t6192 x8362 z_Row).North).e2)), .v (iv (((rdD t6192 x8362 z_Row).North).e3)), .v (iv (((rdD t6192 x8362 z_Row).North).e4)), .v (iv (((rdD t6192 x8362 z_Row).North).e5)), .v (iv (((rdD t6192 x8362 z_Row).North).e6)), .v (iv (((rdD t6192 x8362 z_Row).North).e7))] [6, 8, 10, 13, 15, 16, 18, 74, 75, 76, 84, 88, 90] [(6, (pt g6014)), (8, (.slice A6197 t6192.length c6198)), (10, (pt g6204)), (13, (.slice A7833 x7837.2.length c7834)), (15, (pt g7877)), (16, (iv x8244)), (18, (pt g8375)), (74, (.slice A6197 t6192.length c6198)), (75, (iv (t6192.length : Int))), (76, (iv x8362)), (84, (.bool true)), (88, (.map (some (H7836 x8244.toNat)))), (90, (.agg #[(iv (((rdD t6192 x8362 z_Row).North).e0)), (iv (((rdD t6192 x8362 z_Row).North).e1)), (iv (((rdD t6192 x8362 z_Row).North).e2)), (iv (((rdD t6192 x8362 z_Row).North).e3)), (iv (((rdD t6192 x8362 z_Row).North).e4)), (iv (((rdD t6192 x8362 z_Row).North).e5)), (iv (((rdD t6192 x8362 z_Row).North).e6)), (iv (((rdD t6192 x8362 z_Row).North).e7))]))] [.idx A7833 x8244 x7837.2.length] [16, 17, 18, 19, 20, 21, 22, 23, 24] [(8, ((adr A7833).add ((x8244).toNat * 1)), (.map (some (H7836 x8244.toNat)))), (10, ⟨g8375, 9, none⟩, (iv (((rdD t6192 x8362 z_Row).North).e0))), (10, ⟨g8375, 10, none⟩, (iv (((rdD t6192 x8362 z_Row).North).e1))), (10, ⟨g8375, 11, none⟩, (iv (((rdD t6192 x8362 z_Row).North).e2))), (10, ⟨g8375, 12, none⟩, (iv (((rdD t6192 x8362 z_Row).North).e3))), (10, ⟨g8375, 13, none⟩, (iv (((rdD t6192 x8362 z_Row).North).e4))), (10, ⟨g8375, 14, none⟩, (iv (((rdD t6192 x8362 z_Row).North).e5))), (10, ⟨g8375, 15, none⟩, (iv (((rdD t6192 x8362 z_Row).North).e6))), (10, ⟨g8375, 16, none⟩, (iv (((rdD t6192 x8362 z_Row).North).e7)))] (fun fb => by kernel_rfl) rfl ⟨nrow_adr (hS8403.rd 1).1 h8407.1 h8407.2, trivial⟩ rfl ?_
            refine WL.lookup (mapsO.at (hS8403.rd 2).1 h8407.1 h8407.2 hm8409) ((rdD t6192 x8362 z_Row).North) (d := 91) (c := false) (t := 81) (kT := 86) (eT := 4) (z := false) (kE := (aggI ints_A8_Int)) (vE := vB) (l := m8408) (.bool (mget ((rdD t6192 x8362 z_Row).North) false m8408)) (fun fb => by kernel_rfl) torus_find_key86 (by kernel_rfl) (fun _ => by kernel_rfl) rfl ?_
            refine ⟨trivial, ?_⟩
            refine seg 13 [] [6, 8, 10, 13, 15, 16, 18, 74, 75, 76, 92] [(6, (pt g6014)), (8, (.slice A6197 t6192.length c6198)), (10, (pt g6204)), (13, (.slice A7833 x7837.2.length c7834)), (15, (pt g7877)), (16, (iv x8244)), (18, (pt g8375)), (74, (.slice A6197 t6192.length c6198)), (75, (iv (t6192.length : Int))), (76, (iv x8362)), (92, (.bool (mget ((rdD t6192 x8362 z_Row).North) false m8408)))] [] (fun fb => by kernel_rfl) rfl trivial ?_
            refine WL.done rfl ?_
            injection hx8397 with hx8397
            exact WX.to Kx8396 (mget ((rdD t6192 x8362 z_Row).North) false m8408) [6, 8, 10, 13, 15, 16, 18, 74, 75, 76, 92] rfl ⟨(hS8403.subR [0, 1, 2, 3, 4, 5, 6, 7]).sub [1, 2, 3, 4, 5, 6, 0] (by decide), hx8397.symm⟩
           refine WC.regionD ([(1, ⟨g8375, 1, none⟩, (iv (((rdD t6192 x8362 z_Row).South).e0))), (1, ⟨g8375, 2, none⟩, (iv (((rdD t6192 x8362 z_Row).South).e1))), (1, ⟨g8375, 3, none⟩, (iv (((rdD t6192 x8362 z_Row).South).e2))), (1, ⟨g8375, 4, none⟩, (iv (((rdD t6192 x8362 z_Row).South).e3))), (1, ⟨g8375, 5, none⟩, (iv (((rdD t6192 x8362 z_Row).South).e4))), (1, ⟨g8375, 6, none⟩, (iv (((rdD t6192 x8362 z_Row).South).e5))), (1, ⟨g8375, 7, none⟩, (iv (((rdD t6192 x8362 z_Row).South).e6))), (1, ⟨g8375, 8, none⟩, (iv (((rdD t6192 x8362 z_Row).South).e7))), (2, ⟨g7877, 0, none⟩, (iv a8243.e0)), (2, ⟨g7877, 1, none⟩, (iv a8243.e1)), (2, ⟨g7877, 2, none⟩, (iv a8243.e2)), (2, ⟨g7877, 3, none⟩, (iv a8243.e3)), (2, ⟨g7877, 4, none⟩, (iv a8243.e4)), (2, ⟨g7877, 5, none⟩, (iv a8243.e5)), (2, ⟨g7877, 6, none⟩, (iv a8243.e6)), (2, ⟨g7877, 7, none⟩, (iv a8243.e7))], [0, 1, 2, 3, 4, 5, 6, 7, 8, 9, 10, 12], [[], [0], [], [0, 1, 2], [0, 1, 2, 3], [0, 1, 2, 3, 4], [0, 1, 2, 3, 4], [0, 1, 2, 3, 4, 5, 6], [0, 1, 2, 3, 4, 5, 6, 7], [0, 1, 2, 3, 4], [0, 1, 2, 3, 4, 9], [0, 1, 2, 3, 4, 5, 6, 7, 8, 9, 10], [0, 1, 2, 3, 4, 5, 6, 7, 8, 9, 10, 11]]) [[0, 1, 2, 3, 4, 5, 6, 7, 8, 9, 10, 11, 12]] (by kernel_rfl) (by kernel_rfl) (NoPanic.seq (NoPanic.block (NoPanic.seq (NoPanic.seq (NoPanic.block (NoPanic.scope (NoPanic.block (NoPanic.seq (NoPanic.seq (NoPanic.block (NoPanic.seq (NoPanic.block (NoPanic.seq (NoPanic.seq (NoPanic.block (NoPanic.seq (NoPanic.scope (NoPanic.body)))))))))))))))))) ?_
           have hS8411 := hS8380.drew
           revert hS8411
           generalize World.drew w8379 = w8410
           intro hS8411
           refine ⟨⟨hS8411.cell 0 rfl 1 rfl, hS8411.cell 0 rfl 2 rfl, hS8411.cell 0 rfl 3 rfl, hS8411.cell 0 rfl 4 rfl, hS8411.cell 0 rfl 5 rfl, hS8411.cell 0 rfl 6 rfl, hS8411.cell 0 rfl 7 rfl, hS8411.cell 0 rfl 8 rfl, hS8411.cell 6 rfl 0 rfl, hS8411.cell 6 rfl 1 rfl, hS8411.cell 6 rfl 2 rfl, hS8411.cell 6 rfl 3 rfl, hS8411.cell 6 rfl 4 rfl, hS8411.cell 6 rfl 5 rfl, hS8411.cell 6 rfl 6 rfl, hS8411.cell 6 rfl 7 rfl, trivial⟩, forallC ?_ (forallN)⟩
           refine segF 5 [.v (iv (((rdD t6192 x8362 z_Row).South).e0)), .v (iv (((rdD t6192 x8362 z_Row).South).e1)), .v (iv (((rdD t6192 x8362 z_Row).South).e2)), .v (iv (((rdD t6192 x8362 z_Row).South).e3)), .v (iv (((rdD t6192 x8362 z_Row).South).e4)), .v (iv (((rdD t6192 x8362 z_Row).South).e5)), .v (iv (((rdD t6192 x8362 z_Row).South).e6)), .v (iv (((rdD t6192 x8362 z_Row).South).e7)), .v (iv a8243.e0), .v (iv a8243.e1), .v (iv a8243.e2), .v (iv a8243.e3), .v (iv a8243.e4), .v (iv a8243.e5), .v (iv a8243.e6), .v (iv a8243.e7)] [6, 8, 10, 13, 15, 16, 18, 74, 75, 76, 84] [(6, (pt g6014)), (8, (.slice A6197 t6192.length c6198)), (10, (pt g6204)), (13, (.slice A7833 x7837.2.length c7834)), (15, (pt g7877)), (16, (iv x8244)), (18, (pt g8375)), (74, (.slice A6197 t6192.length c6198)), (75, (iv (t6192.length : Int))), (76, (iv x8362)), (84, (.bool ((((rdD t6192 x8362 z_Row).South).e0) == a8243.e0 && ((((rdD t6192 x8362 z_Row).South).e1) == a8243.e1 && ((((rdD t6192 x8362 z_Row).South).e2) == a8243.e2 && ((((rdD t6192 x8362 z_Row).South).e3) == a8243.e3 && ((((rdD t6192 x8362 z_Row).South).e4) == a8243.e4 && ((((rdD t6192 x8362 z_Row).South).e5) == a8243.e5 && ((((rdD t6192 x8362 z_Row).South).e6) == a8243.e6 && ((((rdD t6192 x8362 z_Row).South).e7) == a8243.e7))))))))))] [] [0, 1, 2, 3, 4, 5, 6, 7, 8, 9, 10, 11, 12, 13, 14, 15] [(1, ⟨g8375, 1, none⟩, (iv (((rdD t6192 x8362 z_Row).South).e0))), (1, ⟨g8375, 2, none⟩, (iv (((rdD t6192 x8362 z_Row).South).e1))), (1, ⟨g8375, 3, none⟩, (iv (((rdD t6192 x8362 z_Row).South).e2))), (1, ⟨g8375, 4, none⟩, (iv (((rdD t6192 x8362 z_Row).South).e3))), (1, ⟨g8375, 5, none⟩, (iv (((rdD t6192 x8362 z_Row).South).e4))), (1, ⟨g8375, 6, none⟩, (iv (((rdD t6192 x8362 z_Row).South).e5))), (1, ⟨g8375, 7, none⟩, (iv (((rdD t6192 x8362 z_Row).South).e6))), (1, ⟨g8375, 8, none⟩, (iv (((rdD t6192 x8362 z_Row).South).e7))), (2, ⟨g7877, 0, none⟩, (iv a8243.e0)), (2, ⟨g7877, 1, none⟩, (iv a8243.e1)), (2, ⟨g7877, 2, none⟩, (iv a8243.e2)), (2, ⟨g7877, 3, none⟩, (iv a8243.e3)), (2, ⟨g7877, 4, none⟩, (iv a8243.e4)), (2, ⟨g7877, 5, none⟩, (iv a8243.e5)), (2, ⟨g7877, 6, none⟩, (iv a8243.e6)), (2, ⟨g7877, 7, none⟩, (iv a8243.e7))] (fun fb => by kernel_rfl) rfl trivial rfl ?_
           refine WL.setB 84 h8398 rfl ?_
           refine seg 13 [] [6, 8, 10, 13, 15, 16, 18, 74, 75, 76, 92] [(6, (pt g6014)), (8, (.slice A6197 t6192.length c6198)), (10, (pt g6204)), (13, (.slice A7833 x7837.2.length c7834)), (15, (pt g7877)), (16, (iv x8244)), (18, (pt g8375)), (74, (.slice A6197 t6192.length c6198)), (75, (iv (t6192.length : Int))), (76, (iv x8362)), (92, (.bool false))] [] (fun fb => by kernel_rfl) rfl trivial ?_
           refine WL.done rfl ?_
           injection hx8397 with hx8397
           exact WX.to Kx8396 false [6, 8, 10, 13, 15, 16, 18, 74, 75, 76, 92] rfl ⟨(hS8411.subR [0, 1, 2, 3, 4, 5, 6, 7]).sub [1, 2, 3, 4, 5, 6, 0] (by decide), hx8397.symm⟩
          rintro y8415 w8412 ⟨hS8413, hq8414⟩
          subst hq8414
          refine WX.next ?_
          rcases br_some hl8372 with ⟨h8416, hl8372⟩ | ⟨h8416, hl8372⟩
          ·refine WC.condT2 (fun fb => by kernel_rfl) h8416 ?_
           refine WC.seq ?_
           refine WC.region ?_
           refine seg 4 [.v (.slice A8240 l8242.length c8241), .v (.slice ((H6199 x8362.toNat 0).1) ((rdD t6192 x8362 z_Row).Cells).length ((H6199 x8362.toNat 0).2))] [6, 8, 10, 13, 15, 16, 18, 94, 96] [(6, (pt g6014)), (8, (.slice A6197 t6192.length c6198)), (10, (pt g6204)), (13, (.slice A7833 x7837.2.length c7834)), (15, (pt g7877)), (16, (iv x8244)), (18, (pt g8375)), (94, (.slice A8240 l8242.length c8241)), (96, (.slice ((H6199 x8362.toNat 0).1) ((rdD t6192 x8362 z_Row).Cells).length ((H6199 x8362.toNat 0).2)))] [.cell ⟨g6204, 2, none⟩ (.slice A8240 l8242.length c8241), .cell ⟨g8375, 0, none⟩ (.slice ((H6199 x8362.toNat 0).1) ((rdD t6192 x8362 z_Row).Cells).length ((H6199 x8362.toNat 0).2))] (fun fb => by kernel_rfl) rfl ⟨hS8413.cell 3 rfl 2 rfl, hS8413.cell 6 rfl 0 rfl, trivial⟩ ?_
           obtain ⟨h8417, hl8372⟩ := as_some hl8372
           refine WL.append hS8413 4 (d := 97) (tS := 36) (z := (iv 0)) (bytes := 8) (c2 := (H6199 x8362.toNat 0).2) rfl (fun fb => by kernel_rfl) (nestO.at ((hS8413.own 2).1 0) z_Row h8374.1 h8374.2) (by kernel_rfl) (by kernel_rfl) rfl (by decide) h8417 (by decide) [0, 1, 2, 3, 5, 6] (by decide) (by decide) (fun A8418 c8419 w8420 hS8421 => ?_)
           refine ⟨trivial, ?_⟩
           refine seg 6 [] [6, 8, 10, 13, 15, 16, 18, 97, 98] [(6, (pt g6014)), (8, (.slice A6197 t6192.length c6198)), (10, (pt g6204)), (13, (.slice A7833 x7837.2.length c7834)), (15, (pt g7877)), (16, (iv x8244)), (18, (pt g8375)), (97, (.slice A8418 (l8242 ++ ((rdD t6192 x8362 z_Row).Cells)).length c8419)), (98, (.pointer (some ⟨g6204, 2, none⟩)))] [] (fun fb => by kernel_rfl) rfl trivial ?_
           refine WL.store hS8421 4 rfl [(2, (.slice A8418 (l8242 ++ ((rdD t6192 x8362 z_Row).Cells)).length c8419))] #[(iv p1), (iv p2), (.slice A8418 (l8242 ++ ((rdD t6192 x8362 z_Row).Cells)).length c8419)] (fun fb => by kernel_rfl) (by kernel_rfl) rfl [0, 1, 2, 3, 5, 6] (by decide) (by decide) (fun w8422 hS8423 => ?_)
           refine ⟨trivial, ?_⟩
           refine WL.done rfl ?_
           refine WX.next ?_
           refine WC.seq ?_
           refine WC.region ?_
           refine seg 2 [.v (iv (((rdD t6192 x8362 z_Row).North).e0)), .v (iv (((rdD t6192 x8362 z_Row).North).e1)), .v (iv (((rdD t6192 x8362 z_Row).North).e2)), .v (iv (((rdD t6192 x8362 z_Row).North).e3)), .v (iv (((rdD t6192 x8362 z_Row).North).e4)), .v (iv (((rdD t6192 x8362 z_Row).North).e5)), .v (iv (((rdD t6192 x8362 z_Row).North).e6)), .v (iv (((rdD t6192 x8362 z_Row).North).e7))] [6, 8, 10, 13, 15, 16, 100] [(6, (pt g6014)), (8, (.slice A6197 t6192.length c6198)), (10, (pt g6204)), (13, (.slice A7833 x7837.2.length c7834)), (15, (pt g7877)), (16, (iv x8244)), (100, (.agg #[(iv (((rdD t6192 x8362 z_Row).North).e0)), (iv (((rdD t6192 x8362 z_Row).North).e1)), (iv (((rdD t6192 x8362 z_Row).North).e2)), (iv (((rdD t6192 x8362 z_Row).North).e3)), (iv (((rdD t6192 x8362 z_Row).North).e4)), (iv (((rdD t6192 x8362 z_Row).North).e5)), (iv (((rdD t6192 x8362 z_Row).North).e6)), (iv (((rdD t6192 x8362 z_Row).North).e7))]))] [.cell ⟨g8375, 9, none⟩ (iv (((rdD t6192 x8362 z_Row).North).e0)), .cell ⟨g8375, 10, none⟩ (iv (((rdD t6192 x8362 z_Row).North).e1)), .cell ⟨g8375, 11, none⟩ (iv (((rdD t6192 x8362 z_Row).North).e2)), .cell ⟨g8375, 12, none⟩ (iv (((rdD t6192 x8362 z_Row).North).e3)), .cell ⟨g8375, 13, none⟩ (iv (((rdD t6192 x8362 z_Row).North).e4)), .cell ⟨g8375, 14, none⟩ (iv (((rdD t6192 x8362 z_Row).North).e5)), .cell ⟨g8375, 15, none⟩ (iv (((rdD t6192 x8362 z_Row).North).e6)), .cell ⟨g8375, 16, none⟩ (iv (((rdD t6192 x8362 z_Row).North).e7))] (fun fb => by kernel_rfl) rfl ⟨hS8423.cell 6 rfl 9 rfl, hS8423.cell 6 rfl 10 rfl, hS8423.cell 6 rfl 11 rfl, hS8423.cell 6 rfl 12 rfl, hS8423.cell 6 rfl 13 rfl, hS8423.cell 6 rfl 14 rfl, hS8423.cell 6 rfl 15 rfl, hS8423.cell 6 rfl 16 rfl, trivial⟩ ?_
           refine WL.store hS8423 5 rfl [(0, (iv (((rdD t6192 x8362 z_Row).North).e0))), (1, (iv (((rdD t6192 x8362 z_Row).North).e1))), (2, (iv (((rdD t6192 x8362 z_Row).North).e2))), (3, (iv (((rdD t6192 x8362 z_Row).North).e3))), (4, (iv (((rdD t6192 x8362 z_Row).North).e4))), (5, (iv (((rdD t6192 x8362 z_Row).North).e5))), (6, (iv (((rdD t6192 x8362 z_Row).North).e6))), (7, (iv (((rdD t6192 x8362 z_Row).North).e7)))] #[(iv (((rdD t6192 x8362 z_Row).North).e0)), (iv (((rdD t6192 x8362 z_Row).North).e1)), (iv (((rdD t6192 x8362 z_Row).North).e2)), (iv (((rdD t6192 x8362 z_Row).North).e3)), (iv (((rdD t6192 x8362 z_Row).North).e4)), (iv (((rdD t6192 x8362 z_Row).North).e5)), (iv (((rdD t6192 x8362 z_Row).North).e6)), (iv (((rdD t6192 x8362 z_Row).North).e7))] (fun fb => by kernel_rfl) (by kernel_rfl) rfl [0, 1, 2, 3, 4, 6] (by decide) (by decide) (fun w8424 hS8425 => ?_)
           refine ⟨trivial, ?_⟩
           refine WL.done rfl ?_
           refine WX.next ?_
           refine WC.exit ?_
           injection hl8372 with hl8372
           exact WX.blockPast (by decide) (WX.thenX (WX.thenX (WX.blockHere (WX.to Kx8367 ((l8242 ++ ((rdD t6192 x8362 z_Row).Cells), ((rdD t6192 x8362 z_Row).North)), A8418, c8419) [6, 8, 10, 13, 15, 16] rfl ⟨(hS8425.subR [0, 1, 2, 3, 4, 5, 6, 7]).sub [3, 4, 5, 1, 2, 0] (by decide), hl8372.symm⟩))))
          refine WC.condF2 (fun fb => by kernel_rfl) h8416 ?_
          refine WC.skip ?_
          refine WX.blockN (WX.next ?_)
          refine WC.region ?_
          refine seg 2 [] [6, 8, 10, 13, 15, 16, 74, 75, 76] [(6, (pt g6014)), (8, (.slice A6197 t6192.length c6198)), (10, (pt g6204)), (13, (.slice A7833 x7837.2.length c7834)), (15, (pt g7877)), (16, (iv x8244)), (74, (.slice A6197 t6192.length c6198)), (75, (iv (t6192.length : Int))), (76, (iv (w64 (x8362 + 1))))] [] (fun fb => by kernel_rfl) rfl trivial ?_
          refine WL.done rfl ?_
          exact WX.again k8369 (Nat.lt_succ_self _) (w64 (x8362 + 1)) [6, 8, 10, 13, 15, 16, 74, 75, 76] rfl ⟨(hS8413.subR [0, 1, 2, 3, 4, 5, 6, 7]).sub [0, 1, 2, 3, 4, 5] (by decide), hl8372⟩
         refine WC.condF2 (fun fb => by kernel_rfl) h8373 ?_
         refine WC.exit ?_
         injection hl8372 with hl8372
         exact WX.thenX (WX.thenX (WX.blockHere (WX.to Kx8367 ((l8242, a8243), A8240, c8241) [6, 8, 10, 13, 15, 16] rfl ⟨(hS8371.subR [0, 1, 2, 3, 4, 5, 6, 7]).sub [0, 1, 2, 3, 4, 5] (by decide), hl8372.symm⟩)))
       rintro ⟨y8429, A8363, c8364⟩ w8426 ⟨hS8427, hq8428⟩
       subst hq8428
       refine WX.scopeN (WX.blockN (WX.next ?_))
       refine WC.region ?_
       refine seg 3 [] [6, 8, 10, 13, 15, 16] [(6, (pt g6014)), (8, (.slice A6197 t6192.length c6198)), (10, (pt g6204)), (13, (.slice A7833 x7837.2.length c7834)), (15, (pt g7877)), (16, (iv (w64 (x8244 - 1))))] [] (fun fb => by kernel_rfl) rfl trivial ?_
       refine WL.done rfl ?_
       exact WX.again k8250 (Nat.lt_succ_self _) ((x8367.1, x8367.2, w64 (x8244 - 1)), A8363, c8364) [6, 8, 10, 13, 15, 16] rfl ⟨(hS8427.subR [0, 1, 2, 3, 4, 5, 6, 7]).sub [0, 1, 2, 3, 4, 5] (by decide), hl8253⟩
      refine WC.condF2 (fun fb => by kernel_rfl) h8254 ?_
      refine WC.exit ?_
      injection hl8253 with hl8253
      exact WX.thenX (WX.thenX (WX.blockHere (WX.to Kx8248 (l8242, A8240, c8241) [6, 10] rfl ⟨(hS8252.subR [0, 1, 2, 3, 4, 5, 6, 7]).sub [0, 3, 4] (by decide), hl8253.symm⟩)))
    rintro ⟨y8433, A8245, c8246⟩ w8430 ⟨hS8431, hq8432⟩
    subst hq8432
    refine WX.next ?_
    refine WC.seq ?_
    refine WC.region ?_
    refine seg 1 [.v (iv p1), .v (iv p2), .v (.slice A8245 x8248.length c8246)] [6, 102] [(6, (pt g6014)), (102, (.agg #[(iv p1), (iv p2), (.slice A8245 x8248.length c8246)]))] [.cell ⟨g6204, 0, none⟩ (iv p1), .cell ⟨g6204, 1, none⟩ (iv p2), .cell ⟨g6204, 2, none⟩ (.slice A8245 x8248.length c8246)] (fun fb => by kernel_rfl) rfl ⟨hS8431.cell 1 rfl 0 rfl, hS8431.cell 1 rfl 1 rfl, hS8431.cell 1 rfl 2 rfl, trivial⟩ ?_
    refine WL.store hS8431 0 rfl [(0, (iv p1)), (1, (iv p2)), (2, (.slice A8245 x8248.length c8246))] #[(iv p1), (iv p2), (.slice A8245 x8248.length c8246)] (fun fb => by kernel_rfl) (by kernel_rfl) rfl [1, 2] (by decide) (by decide) (fun w8434 hS8435 => ?_)
    refine ⟨trivial, ?_⟩
    refine seg 3 [] [6, 7] [(6, (pt g6014)), (7, (.bool true))] [] (fun fb => by kernel_rfl) rfl trivial ?_
    refine WL.done rfl ?_
    refine WX.next ?_
    refine WC.ret ?_
    injection hl7806 with hl7806
    subst hl7806
    injection hf with hf
    subst hf
    exact WX.blockR (WX.thenR (WX.thenR (WX.blockR (WX.thenR (WX.scopeR (WX.ret_ [.v (iv p1), .v (iv p2), .v (.slice A8245 x8248.length c8246)] (.tuple #[(.agg #[(iv p1), (iv p2), (.slice A8245 x8248.length c8246)]), (.bool true)]) [.cell ⟨g6014, 0, none⟩ (iv p1), .cell ⟨g6014, 1, none⟩ (iv p2), .cell ⟨g6014, 2, none⟩ (.slice A8245 x8248.length c8246)] (fun fb => by kernel_rfl) ⟨hS8435.cell 0 rfl 0 rfl, hS8435.cell 0 rfl 1 rfl, hS8435.cell 0 rfl 2 rfl, trivial⟩ ⟨_, rfl, A8245, c8246, rfl, (hS8435.sub [2] (by decide)).noR⟩))))))
   refine WC.condF2 (fun fb => by kernel_rfl) h7807 ?_
   refine WC.exit ?_
   injection hl7806 with hl7806
   exact WX.thenX (WX.thenX (WX.blockHere (WX.to Kx7801 () [6] rfl ⟨(hS7805.subR [1, 2]).sub [0] (by decide), hl7806.symm⟩)))
 rintro y8439 w8436 ⟨hS8437, hq8438⟩
 subst hq8438
 have hf := sum_inr hf
 refine WX.next ?_
 refine WC.seq ?_
 refine WC.region ?_
 refine seg 1 [] [6, 104] [(6, (pt g6014)), (104, (.agg #[(iv 0), (iv 0), (.slice none 0 0)]))] [] (fun fb => by kernel_rfl) rfl trivial ?_
 refine WL.store hS8437 0 rfl [(0, (iv 0)), (1, (iv 0)), (2, (.slice none 0 0))] #[(iv 0), (iv 0), (.slice none 0 0)] (fun fb => by kernel_rfl) (by kernel_rfl) rfl [] (by decide) (by decide) (fun w8441 hS8442 => ?_)
 refine ⟨trivial, ?_⟩
 refine seg 3 [] [6, 7] [(6, (pt g6014)), (7, (.bool false))] [] (fun fb => by kernel_rfl) rfl trivial ?_
 refine WL.done rfl ?_
 refine WX.next ?_
 refine WC.ret ?_
 have hS8443 := hS8442.nilrow 3 encInt
 injection hf with hf
 subst hf
 exact WX.scopeR (WX.ret_ [.v (iv 0), .v (iv 0), .v (.slice none 0 0)] (.tuple #[(.agg #[(iv 0), (iv 0), (.slice none ([] : List Int).length 0)]), (.bool false)]) [.cell ⟨g6014, 0, none⟩ (iv 0), .cell ⟨g6014, 1, none⟩ (iv 0), .cell ⟨g6014, 2, none⟩ (.slice none 0 0)] (fun fb => by kernel_rfl) ⟨hS8442.cell 0 rfl 0 rfl, hS8442.cell 0 rfl 1 rfl, hS8442.cell 0 rfl 2 rfl, trivial⟩ ⟨_, rfl, none, 0, rfl, (hS8443.sub [0] (by decide)).noR⟩)
theorem torus_Least_calls (k : Nat) (p0 : List Tile) (p1 : Int) (A_p0 : Option Addr) (c_p0 : Nat) (r : Pattern × Int) (w : World) (hR0 : RO NoS w (rowR enc_Tile A_p0 c_p0 p0)) (hf : torus_Least k p0 p1 = some r) :
  CallsR Try.prog 25 #[(.slice A_p0 p0.length c_p0), (iv p1)] w (fun v w' => ∃ (A1_ : Option Addr), ∃ (c1_ : Nat), v = (.tuple #[(.agg #[(iv r.1.Width), (iv r.1.Height), (.slice A1_ r.1.Cells.length c1_)]), (iv r.2)]) ∧ St NoS w w' [] [rowO 3 encInt A1_ c1_ r.1.Cells]) := by
 have hS : St NoS w w [rowR enc_Tile A_p0 c_p0 p0] [] := St.init (ro_cons hR0 (ro_nil _ _))
 refine enter 61 Try.func25 rfl Try.ntmps25 rfl ?_
 unfold torus_Least at hf
 refine WC.seq ?_
 refine WC.region ?_
 refine WL.new hS 4 [] (fun g => (.pointer (some ⟨g, 0, none⟩))) (.cells #[(iv 0), (iv 0), (.slice none 0 0)] 38 (0, 0)) [] (fun fb g => by kernel_rfl) trivial (fun g5981 w5982 hS5983 => ?_)
 refine ⟨trivial, ?_⟩
 refine seg 2 [] [0, 1, 4] [(0, (.slice A_p0 p0.length c_p0)), (1, (iv p1)), (4, (pt g5981))] [] (fun fb => by kernel_rfl) rfl trivial ?_
 refine WL.done rfl ?_
 refine WX.next ?_
 refine WC.seq ?_
 refine WC.seq ?_
 refine WC.region ?_
 refine seg 1 [] [0, 1, 4, 10] [(0, (.slice A_p0 p0.length c_p0)), (1, (iv p1)), (4, (pt g5981)), (10, (.slice A_p0 p0.length c_p0))] [] (fun fb => by kernel_rfl) rfl trivial ?_
 obtain ⟨t5985, ht5986, hf⟩ := bind_some hf
 refine WL.call (some 11) 38 #[(.slice A_p0 p0.length c_p0)] (fun fb => by kernel_rfl) (tile_Valid_calls _ p0 A_p0 c_p0 t5985 _ (hS5983.rd 0) ht5986) (fun v w5987 hR5988 => ?_)
 obtain ⟨rfl, hk_⟩ := hR5988
 have hS5989 := hS5983.keepN hk_
 refine ⟨trivial, ?_⟩
 refine seg 3 [] [0, 1, 4, 12] [(0, (.slice A_p0 p0.length c_p0)), (1, (iv p1)), (4, (pt g5981)), (12, (.bool (!t5985)))] [] (fun fb => by kernel_rfl) rfl trivial ?_
 refine WL.done rfl ?_
 refine WX.next ?_
 rcases br_some hf with ⟨h5990, hf⟩ | ⟨h5990, hf⟩
 ·refine WC.condT2 (fun fb => by kernel_rfl) h5990 ?_
  refine WC.seq ?_
  refine WC.region ?_
  refine seg 1 [] [4, 13] [(4, (pt g5981)), (13, (.agg #[(iv 0), (iv 0), (.slice none 0 0)]))] [] (fun fb => by kernel_rfl) rfl trivial ?_
  refine WL.store hS5989 0 rfl [(0, (iv 0)), (1, (iv 0)), (2, (.slice none 0 0))] #[(iv 0), (iv 0), (.slice none 0 0)] (fun fb => by kernel_rfl) (by kernel_rfl) rfl [] (by decide) (by decide) (fun w5991 hS5992 => ?_)
  refine ⟨trivial, ?_⟩
  refine seg 3 [] [4, 5] [(4, (pt g5981)), (5, (iv 1))] [] (fun fb => by kernel_rfl) rfl trivial ?_
  refine WL.done rfl ?_
  refine WX.next ?_
  refine WC.ret ?_
  have hS5993 := hS5992.nilrow 3 encInt
  injection hf with hf
  subst hf
  exact WX.thenR (WX.ret_ [.v (iv 0), .v (iv 0), .v (.slice none 0 0)] (.tuple #[(.agg #[(iv 0), (iv 0), (.slice none ([] : List Int).length 0)]), (iv 1)]) [.cell ⟨g5981, 0, none⟩ (iv 0), .cell ⟨g5981, 1, none⟩ (iv 0), .cell ⟨g5981, 2, none⟩ (.slice none 0 0)] (fun fb => by kernel_rfl) ⟨hS5992.cell 0 rfl 0 rfl, hS5992.cell 0 rfl 1 rfl, hS5992.cell 0 rfl 2 rfl, trivial⟩ ⟨_, rfl, none, 0, rfl, (hS5993.sub [0] (by decide)).noR⟩)
 refine WC.condF2 (fun fb => by kernel_rfl) h5990 ?_
 refine WC.skip ?_
 refine WX.next ?_
 refine WC.seq ?_
 refine WC.seq ?_
 refine WC.region ?_
 refine seg 3 [] [0, 1, 4, 16] [(0, (.slice A_p0 p0.length c_p0)), (1, (iv p1)), (4, (pt g5981)), (16, (.bool (decide (p1 < 1))))] [] (fun fb => by kernel_rfl) rfl trivial ?_
 refine WL.cutV (T := Bool) 6 (fun t => [(19, (.bool t)), (0, (.slice A_p0 p0.length c_p0)), (1, (iv p1)), (4, (pt g5981))]) (fun t => ((decide (p1 < 1)) || (decide (p1 > 6))) = t) (fun K => ?_) ?_
 ·
  rcases Bool.eq_false_or_eq_true (decide (p1 < 1)) with h5994 | h5994
  ·
   refine WL.setB 16 h5994 rfl ?_
   refine seg 6 [] [0, 1, 4, 19] [(0, (.slice A_p0 p0.length c_p0)), (1, (iv p1)), (4, (pt g5981)), (19, (.bool true))] [] (fun fb => by kernel_rfl) rfl trivial ?_
   exact WL.toV K true [19, 0, 1, 4] rfl (by first | (rw [h5994]; done) | (rw [h5994]; rfl))
  refine WL.setB 16 h5994 rfl ?_
  refine seg 6 [] [0, 1, 4, 19] [(0, (.slice A_p0 p0.length c_p0)), (1, (iv p1)), (4, (pt g5981)), (19, (.bool (decide (p1 > 6))))] [] (fun fb => by kernel_rfl) rfl trivial ?_
  exact WL.toV K (decide (p1 > 6)) [19, 0, 1, 4] rfl (by first | (rw [h5994]; done) | (rw [h5994]; rfl))
 rintro b5995 rfl
 refine WL.done rfl ?_
 refine WX.next ?_
 rcases br_some hf with ⟨h5996, hf⟩ | ⟨h5996, hf⟩
 ·refine WC.condT2 (fun fb => by kernel_rfl) h5996 ?_
  refine WC.seq ?_
  refine WC.region ?_
  refine seg 1 [] [4, 20] [(4, (pt g5981)), (20, (.agg #[(iv 0), (iv 0), (.slice none 0 0)]))] [] (fun fb => by kernel_rfl) rfl trivial ?_
  refine WL.store hS5989 0 rfl [(0, (iv 0)), (1, (iv 0)), (2, (.slice none 0 0))] #[(iv 0), (iv 0), (.slice none 0 0)] (fun fb => by kernel_rfl) (by kernel_rfl) rfl [] (by decide) (by decide) (fun w5997 hS5998 => ?_)
  refine ⟨trivial, ?_⟩
  refine seg 3 [] [4, 5] [(4, (pt g5981)), (5, (iv 2))] [] (fun fb => by kernel_rfl) rfl trivial ?_
  refine WL.done rfl ?_
  refine WX.next ?_
  refine WC.ret ?_
  have hS5999 := hS5998.nilrow 3 encInt
  injection hf with hf
  subst hf
  exact WX.thenR (WX.ret_ [.v (iv 0), .v (iv 0), .v (.slice none 0 0)] (.tuple #[(.agg #[(iv 0), (iv 0), (.slice none ([] : List Int).length 0)]), (iv 2)]) [.cell ⟨g5981, 0, none⟩ (iv 0), .cell ⟨g5981, 1, none⟩ (iv 0), .cell ⟨g5981, 2, none⟩ (.slice none 0 0)] (fun fb => by kernel_rfl) ⟨hS5998.cell 0 rfl 0 rfl, hS5998.cell 0 rfl 1 rfl, hS5998.cell 0 rfl 2 rfl, trivial⟩ ⟨_, rfl, none, 0, rfl, (hS5999.sub [0] (by decide)).noR⟩)
 refine WC.condF2 (fun fb => by kernel_rfl) h5996 ?_
 refine WC.skip ?_
 refine WX.next ?_
 refine WC.seq ?_
 refine WC.seq ?_
 refine WC.region ?_
 refine seg 2 [] [0, 1, 4, 21, 22] [(0, (.slice A_p0 p0.length c_p0)), (1, (iv p1)), (4, (pt g5981)), (21, (.slice A_p0 p0.length c_p0)), (22, (iv p1))] [] (fun fb => by kernel_rfl) rfl trivial ?_
 obtain ⟨t6000, ht6001, hf⟩ := bind_some hf
 refine WL.call (some 23) 45 #[(.slice A_p0 p0.length c_p0), (iv p1)] (fun fb => by kernel_rfl) (rows_Few_calls _ p0 p1 A_p0 c_p0 t6000 _ (hS5989.rd 0) ht6001) (fun v w6002 hR6003 => ?_)
 obtain ⟨rfl, hk_⟩ := hR6003
 have hS6004 := hS5989.keepN hk_
 refine ⟨trivial, ?_⟩
 refine seg 4 [] [0, 1, 4, 24] [(0, (.slice A_p0 p0.length c_p0)), (1, (iv p1)), (4, (pt g5981)), (24, (.bool (!t6000)))] [] (fun fb => by kernel_rfl) rfl trivial ?_
 refine WL.done rfl ?_
 refine WX.next ?_
 rcases br_some hf with ⟨h6005, hf⟩ | ⟨h6005, hf⟩
 ·refine WC.condT2 (fun fb => by kernel_rfl) h6005 ?_
  refine WC.seq ?_
  refine WC.region ?_
  refine seg 1 [] [4, 25] [(4, (pt g5981)), (25, (.agg #[(iv 0), (iv 0), (.slice none 0 0)]))] [] (fun fb => by kernel_rfl) rfl trivial ?_
  refine WL.store hS6004 0 rfl [(0, (iv 0)), (1, (iv 0)), (2, (.slice none 0 0))] #[(iv 0), (iv 0), (.slice none 0 0)] (fun fb => by kernel_rfl) (by kernel_rfl) rfl [] (by decide) (by decide) (fun w6006 hS6007 => ?_)
  refine ⟨trivial, ?_⟩
  refine seg 3 [] [4, 5] [(4, (pt g5981)), (5, (iv 4))] [] (fun fb => by kernel_rfl) rfl trivial ?_
  refine WL.done rfl ?_
  refine WX.next ?_
  refine WC.ret ?_
  have hS6008 := hS6007.nilrow 3 encInt
  injection hf with hf
  subst hf
  exact WX.thenR (WX.ret_ [.v (iv 0), .v (iv 0), .v (.slice none 0 0)] (.tuple #[(.agg #[(iv 0), (iv 0), (.slice none ([] : List Int).length 0)]), (iv 4)]) [.cell ⟨g5981, 0, none⟩ (iv 0), .cell ⟨g5981, 1, none⟩ (iv 0), .cell ⟨g5981, 2, none⟩ (.slice none 0 0)] (fun fb => by kernel_rfl) ⟨hS6007.cell 0 rfl 0 rfl, hS6007.cell 0 rfl 1 rfl, hS6007.cell 0 rfl 2 rfl, trivial⟩ ⟨_, rfl, none, 0, rfl, (hS6008.sub [0] (by decide)).noR⟩)
 refine WC.condF2 (fun fb => by kernel_rfl) h6005 ?_
 refine WC.skip ?_
 refine WX.next ?_
 refine WC.seq ?_
 refine WC.seq ?_
 refine WC.region ?_
 refine seg 1 [] [0, 1, 4, 6] [(0, (.slice A_p0 p0.length c_p0)), (1, (iv p1)), (4, (pt g5981)), (6, (iv 1))] [] (fun fb => by kernel_rfl) rfl trivial ?_
 refine WL.done rfl ?_
 refine WX.next ?_
 obtain ⟨x8753, hx8754, hf⟩ := bind_some hf
 refine WC.cutN (T := Unit) (fun t => [(4, (pt g5981))]) (fun t w1 => St NoS w w1 [rowR enc_Tile A_p0 c_p0 p0] [blk g5981 (.cells #[(iv 0), (iv 0), (.slice none 0 0)] 38 (0, 0))] ∧ x8753 = .inr t) (fun Kx8753 => ?_) ?_
 ·
  refine WC.block ?_
  refine WC.loop (T := Int) (fun t => [(0, (.slice A_p0 p0.length c_p0)), (1, (iv p1)), (4, (pt g5981)), (6, (iv t))]) (fun n t w1 => St NoS w w1 [rowR enc_Tile A_p0 c_p0 p0] [blk g5981 (.cells #[(iv 0), (iv 0), (.slice none 0 0)] 38 (0, 0))] ∧ torus_Least.l0 n t p0 p1 = some x8753) k 1 [0, 1, 4, 6] rfl ⟨(hS6004.subR [0]).sub [0] (by decide), hx8754⟩ ?_
  rintro k8755 x8752 w8756 ⟨hS8757, hl8758⟩
  cases k8755 with
  | zero => rw [torus_Least.l0] at hl8758; cases hl8758
  | succ k8755 =>
   rw [torus_Least.l0] at hl8758
   refine WC.seq ?_
   refine WC.seq ?_
   refine WC.region ?_
   refine seg 5 [] [0, 1, 4, 6, 30] [(0, (.slice A_p0 p0.length c_p0)), (1, (iv p1)), (4, (pt g5981)), (6, (iv x8752)), (30, (.bool (decide (x8752 ≤ w64 (p1 * p1)))))] [] (fun fb => by kernel_rfl) rfl trivial ?_
   refine WL.done rfl ?_
   refine WX.next ?_
   rcases br_some hl8758 with ⟨h8759, hl8758⟩ | ⟨h8759, hl8758⟩
   ·refine WC.condT2 (fun fb => by kernel_rfl) h8759 ?_
    refine WC.skip ?_
    refine WX.next ?_
    refine WC.seq ?_
    refine WC.block ?_
    refine WC.seq ?_
    refine WC.region ?_
    refine seg 1 [] [0, 1, 4, 6, 7] [(0, (.slice A_p0 p0.length c_p0)), (1, (iv p1)), (4, (pt g5981)), (6, (iv x8752)), (7, (iv 1))] [] (fun fb => by kernel_rfl) rfl trivial ?_
    refine WL.done rfl ?_
    refine WX.next ?_
    obtain ⟨x8856, hx8857, hl8758⟩ := bind_some hl8758
    refine WC.cutN (T := Unit) (fun t => [(0, (.slice A_p0 p0.length c_p0)), (1, (iv p1)), (4, (pt g5981)), (6, (iv x8752))]) (fun t w1 => St NoS w w1 [rowR enc_Tile A_p0 c_p0 p0] [blk g5981 (.cells #[(iv 0), (iv 0), (.slice none 0 0)] 38 (0, 0))] ∧ x8856 = .inr t) (fun Kx8856 => ?_) ?_
    ·
     refine WC.block ?_
     refine WC.loop (T := Int) (fun t => [(0, (.slice A_p0 p0.length c_p0)), (1, (iv p1)), (4, (pt g5981)), (6, (iv x8752)), (7, (iv t))]) (fun n t w1 => St NoS w w1 [rowR enc_Tile A_p0 c_p0 p0] [blk g5981 (.cells #[(iv 0), (iv 0), (.slice none 0 0)] 38 (0, 0))] ∧ torus_Least.l1 n t p0 p1 x8752 = some x8856) k8755 1 [0, 1, 4, 6, 7] rfl ⟨(hS8757.subR [0]).sub [0] (by decide), hx8857⟩ ?_
     rintro k8858 x8855 w8859 ⟨hS8860, hl8861⟩
     cases k8858 with
     | zero => rw [torus_Least.l1] at hl8861; cases hl8861
     | succ k8858 =>
      rw [torus_Least.l1] at hl8861
      refine WC.seq ?_
      refine WC.seq ?_
      refine WC.region ?_
      refine seg 3 [] [0, 1, 4, 6, 7, 35] [(0, (.slice A_p0 p0.length c_p0)), (1, (iv p1)), (4, (pt g5981)), (6, (iv x8752)), (7, (iv x8855)), (35, (.bool (decide (x8855 ≤ p1))))] [] (fun fb => by kernel_rfl) rfl trivial ?_
      refine WL.done rfl ?_
      refine WX.next ?_
      rcases br_some hl8861 with ⟨h8862, hl8861⟩ | ⟨h8862, hl8861⟩
      ·refine WC.condT2 (fun fb => by kernel_rfl) h8862 ?_
       refine WC.skip ?_
       refine WX.next ?_
       refine WC.seq ?_
       obtain ⟨x8883, hx8884, hl8861⟩ := bind_some hl8861
       refine WC.cutN (T := Unit) (fun t => [(0, (.slice A_p0 p0.length c_p0)), (1, (iv p1)), (4, (pt g5981)), (6, (iv x8752)), (7, (iv x8855))]) (fun t w1 => St NoS w w1 [rowR enc_Tile A_p0 c_p0 p0] [blk g5981 (.cells #[(iv 0), (iv 0), (.slice none 0 0)] 38 (0, 0))] ∧ x8883 = .inr t) (fun Kx8883 => ?_) ?_
       ·
        refine WC.block ?_
        refine WC.seq ?_
        refine WC.seq ?_
        refine WC.region ?_
        refine seg 2 [] [0, 1, 4, 6, 7, 38, 39] [(0, (.slice A_p0 p0.length c_p0)), (1, (iv p1)), (4, (pt g5981)), (6, (iv x8752)), (7, (iv x8855)), (38, (iv x8752)), (39, (iv x8855))] [] (fun fb => by kernel_rfl) rfl trivial ?_
        obtain ⟨h8885, hx8884⟩ := as_some hx8884
        refine seg 5 [] [0, 1, 4, 6, 7, 42] [(0, (.slice A_p0 p0.length c_p0)), (1, (iv p1)), (4, (pt g5981)), (6, (iv x8752)), (7, (iv x8855)), (42, (.bool ((Int.tmod x8752 x8855) != 0)))] [.ne x8855] (fun fb => by kernel_rfl) rfl ⟨h8885, trivial⟩ ?_
        refine WL.cutV (T := Bool) 11 (fun t => [(48, (.bool t)), (0, (.slice A_p0 p0.length c_p0)), (1, (iv p1)), (4, (pt g5981)), (6, (iv x8752)), (7, (iv x8855))]) (fun t => (((Int.tmod x8752 x8855) != 0) || (decide (w64 (Int.tdiv x8752 x8855) > p1))) = t) (fun K => ?_) ?_
        ·
         rcases Bool.eq_false_or_eq_true ((Int.tmod x8752 x8855) != 0) with h8886 | h8886
         ·
          refine WL.setB 42 h8886 rfl ?_
          refine seg 11 [] [0, 1, 4, 6, 7, 48] [(0, (.slice A_p0 p0.length c_p0)), (1, (iv p1)), (4, (pt g5981)), (6, (iv x8752)), (7, (iv x8855)), (48, (.bool true))] [] (fun fb => by kernel_rfl) rfl trivial ?_
          exact WL.toV K true [48, 0, 1, 4, 6, 7] rfl (by first | (rw [h8886]; done) | (rw [h8886]; rfl))
         refine WL.setB 42 h8886 rfl ?_
         refine seg 11 [] [0, 1, 4, 6, 7, 48] [(0, (.slice A_p0 p0.length c_p0)), (1, (iv p1)), (4, (pt g5981)), (6, (iv x8752)), (7, (iv x8855)), (48, (.bool (decide (w64 (Int.tdiv x8752 x8855) > p1))))] [.ne x8855] (fun fb => by kernel_rfl) rfl ⟨h8885, trivial⟩ ?_
         exact WL.toV K (decide (w64 (Int.tdiv x8752 x8855) > p1)) [48, 0, 1, 4, 6, 7] rfl (by first | (rw [h8886]; done) | (rw [h8886]; rfl))
        rintro b8887 rfl
        refine WL.done rfl ?_
        refine WX.next ?_
        rcases br_some hx8884 with ⟨h8888, hx8884⟩ | ⟨h8888, hx8884⟩
        ·refine WC.condT2 (fun fb => by kernel_rfl) h8888 ?_
         refine WC.exit ?_
         injection hx8884 with hx8884
         exact WX.thenX (WX.blockHere (WX.to Kx8883 () [0, 1, 4, 6, 7] rfl ⟨(hS8860.subR [0]).sub [0] (by decide), hx8884.symm⟩))
        refine WC.condF2 (fun fb => by kernel_rfl) h8888 ?_
        refine WC.skip ?_
        refine WX.next ?_
        refine WC.seq ?_
        refine WC.region ?_
        refine seg 5 [] [0, 1, 4, 6, 7, 50, 51, 54] [(0, (.slice A_p0 p0.length c_p0)), (1, (iv p1)), (4, (pt g5981)), (6, (iv x8752)), (7, (iv x8855)), (50, (.slice A_p0 p0.length c_p0)), (51, (iv x8855)), (54, (iv (w64 (Int.tdiv x8752 x8855))))] [.ne x8855] (fun fb => by kernel_rfl) rfl ⟨h8885, trivial⟩ ?_
        obtain ⟨t8889, ht8890, hx8884⟩ := bind_some hx8884
        refine WL.call (some 55) 46 #[(.slice A_p0 p0.length c_p0), (iv x8855), (iv (w64 (Int.tdiv x8752 x8855)))] (fun fb => by kernel_rfl) (torus_find_calls _ p0 x8855 (w64 (Int.tdiv x8752 x8855)) A_p0 c_p0 t8889 _ (hS8860.rd 0) ht8890) (fun v w8891 hR8892 => ?_)
        obtain ⟨A8894, c8895, rfl, hk_⟩ := hR8892
        have hS8893 : St NoS w w8891 [rowR enc_Tile A_p0 c_p0 p0] [rowO 3 encInt A8894 c8895 t8889.1.Cells, blk g5981 (.cells #[(iv 0), (iv 0), (.slice none 0 0)] 38 (0, 0))] := hS8860.call hk_ [] [0] (fun g hg => hg.elim) (by simp) (by decide)
        refine ⟨trivial, ?_⟩
        refine seg 9 [] [0, 1, 4, 6, 7, 56, 57] [(0, (.slice A_p0 p0.length c_p0)), (1, (iv p1)), (4, (pt g5981)), (6, (iv x8752)), (7, (iv x8855)), (56, (.agg #[(iv t8889.1.Width), (iv t8889.1.Height), (.slice A8894 t8889.1.Cells.length c8895)])), (57, (.bool t8889.2))] [] (fun fb => by kernel_rfl) rfl trivial ?_
        refine WL.new hS8893 8 [] (fun g => (.pointer (some ⟨g, 0, none⟩))) (.cells #[(iv 0), (iv 0), (.slice none 0 0)] 38 (0, 0)) [] (fun fb g => by kernel_rfl) trivial (fun g8896 w8897 hS8898 => ?_)
        refine ⟨trivial, ?_⟩
        refine WL.store hS8898 0 rfl [(0, (iv t8889.1.Width)), (1, (iv t8889.1.Height)), (2, (.slice A8894 t8889.1.Cells.length c8895))] #[(iv t8889.1.Width), (iv t8889.1.Height), (.slice A8894 t8889.1.Cells.length c8895)] (fun fb => by kernel_rfl) (by kernel_rfl) rfl [1, 2] (by decide) (by decide) (fun w8900 hS8901 => ?_)
        refine ⟨trivial, ?_⟩
        refine seg 12 [] [0, 1, 4, 6, 7, 8, 9] [(0, (.slice A_p0 p0.length c_p0)), (1, (iv p1)), (4, (pt g5981)), (6, (iv x8752)), (7, (iv x8855)), (8, (pt g8896)), (9, (.bool t8889.2))] [] (fun fb => by kernel_rfl) rfl trivial ?_
        refine WL.done rfl ?_
        refine WX.next ?_
        refine WC.seq ?_
        refine WC.region ?_
        refine seg 1 [] [0, 1, 4, 6, 7, 8, 58] [(0, (.slice A_p0 p0.length c_p0)), (1, (iv p1)), (4, (pt g5981)), (6, (iv x8752)), (7, (iv x8855)), (8, (pt g8896)), (58, (.bool t8889.2))] [] (fun fb => by kernel_rfl) rfl trivial ?_
        refine WL.done rfl ?_
        refine WX.next ?_
        rcases br_some hx8884 with ⟨h8902, hx8884⟩ | ⟨h8902, hx8884⟩
        ·refine WC.condT2 (fun fb => by kernel_rfl) h8902 ?_
         refine WC.seq ?_
         refine WC.region ?_
         refine seg 1 [.v (iv t8889.1.Width), .v (iv t8889.1.Height), .v (.slice A8894 t8889.1.Cells.length c8895)] [4, 59] [(4, (pt g5981)), (59, (.agg #[(iv t8889.1.Width), (iv t8889.1.Height), (.slice A8894 t8889.1.Cells.length c8895)]))] [.cell ⟨g8896, 0, none⟩ (iv t8889.1.Width), .cell ⟨g8896, 1, none⟩ (iv t8889.1.Height), .cell ⟨g8896, 2, none⟩ (.slice A8894 t8889.1.Cells.length c8895)] (fun fb => by kernel_rfl) rfl ⟨hS8901.cell 0 rfl 0 rfl, hS8901.cell 0 rfl 1 rfl, hS8901.cell 0 rfl 2 rfl, trivial⟩ ?_
         refine WL.store hS8901 2 rfl [(0, (iv t8889.1.Width)), (1, (iv t8889.1.Height)), (2, (.slice A8894 t8889.1.Cells.length c8895))] #[(iv t8889.1.Width), (iv t8889.1.Height), (.slice A8894 t8889.1.Cells.length c8895)] (fun fb => by kernel_rfl) (by kernel_rfl) rfl [0, 1] (by decide) (by decide) (fun w8903 hS8904 => ?_)
         refine ⟨trivial, ?_⟩
         refine seg 3 [] [4, 5] [(4, (pt g5981)), (5, (iv 0))] [] (fun fb => by kernel_rfl) rfl trivial ?_
         refine WL.done rfl ?_
         refine WX.next ?_
         refine WC.ret ?_
         injection hx8884 with hx8884
         subst hx8884
         injection hl8861 with hl8861
         subst hl8861
         injection hl8758 with hl8758
         subst hl8758
         injection hf with hf
         subst hf
         exact WX.blockR (WX.thenR (WX.thenR (WX.blockR (WX.blockR (WX.thenR (WX.thenR (WX.blockR (WX.thenR (WX.ret_ [.v (iv t8889.1.Width), .v (iv t8889.1.Height), .v (.slice A8894 t8889.1.Cells.length c8895)] (.tuple #[(.agg #[(iv t8889.1.Width), (iv t8889.1.Height), (.slice A8894 t8889.1.Cells.length c8895)]), (iv 0)]) [.cell ⟨g5981, 0, none⟩ (iv t8889.1.Width), .cell ⟨g5981, 1, none⟩ (iv t8889.1.Height), .cell ⟨g5981, 2, none⟩ (.slice A8894 t8889.1.Cells.length c8895)] (fun fb => by kernel_rfl) ⟨hS8904.cell 0 rfl 0 rfl, hS8904.cell 0 rfl 1 rfl, hS8904.cell 0 rfl 2 rfl, trivial⟩ ⟨_, rfl, A8894, c8895, rfl, (hS8904.sub [2] (by decide)).noR⟩)))))))))
        refine WC.condF2 (fun fb => by kernel_rfl) h8902 ?_
        refine WC.skip ?_
        injection hx8884 with hx8884
        exact WX.blockN (WX.to Kx8883 () [0, 1, 4, 6, 7] rfl ⟨(hS8901.subR [0]).sub [2] (by decide), hx8884.symm⟩)
       rintro y8908 w8905 ⟨hS8906, hq8907⟩
       subst hq8907
       have hl8861 := sum_inr hl8861
       refine WX.next ?_
       refine WC.region ?_
       refine seg 3 [] [0, 1, 4, 6, 7] [(0, (.slice A_p0 p0.length c_p0)), (1, (iv p1)), (4, (pt g5981)), (6, (iv x8752)), (7, (iv (w64 (x8855 + 1))))] [] (fun fb => by kernel_rfl) rfl trivial ?_
       refine WL.done rfl ?_
       exact WX.again k8858 (Nat.lt_succ_self _) (w64 (x8855 + 1)) [0, 1, 4, 6, 7] rfl ⟨(hS8906.subR [0]).sub [0] (by decide), hl8861⟩
      refine WC.condF2 (fun fb => by kernel_rfl) h8862 ?_
      refine WC.exit ?_
      injection hl8861 with hl8861
      exact WX.thenX (WX.thenX (WX.blockHere (WX.to Kx8856 () [0, 1, 4, 6] rfl ⟨(hS8860.subR [0]).sub [0] (by decide), hl8861.symm⟩)))
    rintro y8913 w8910 ⟨hS8911, hq8912⟩
    subst hq8912
    have hl8758 := sum_inr hl8758
    refine WX.blockN (WX.next ?_)
    refine WC.region ?_
    refine seg 3 [] [0, 1, 4, 6] [(0, (.slice A_p0 p0.length c_p0)), (1, (iv p1)), (4, (pt g5981)), (6, (iv (w64 (x8752 + 1))))] [] (fun fb => by kernel_rfl) rfl trivial ?_
    refine WL.done rfl ?_
    exact WX.again k8755 (Nat.lt_succ_self _) (w64 (x8752 + 1)) [0, 1, 4, 6] rfl ⟨(hS8911.subR [0]).sub [0] (by decide), hl8758⟩
   refine WC.condF2 (fun fb => by kernel_rfl) h8759 ?_
   refine WC.exit ?_
   injection hl8758 with hl8758
   exact WX.thenX (WX.thenX (WX.blockHere (WX.to Kx8753 () [4] rfl ⟨(hS8757.subR [0]).sub [0] (by decide), hl8758.symm⟩)))
 rintro y8918 w8915 ⟨hS8916, hq8917⟩
 subst hq8917
 have hf := sum_inr hf
 refine WX.next ?_
 refine WC.seq ?_
 refine WC.region ?_
 refine seg 1 [] [4, 60] [(4, (pt g5981)), (60, (.agg #[(iv 0), (iv 0), (.slice none 0 0)]))] [] (fun fb => by kernel_rfl) rfl trivial ?_
 refine WL.store hS8916 0 rfl [(0, (iv 0)), (1, (iv 0)), (2, (.slice none 0 0))] #[(iv 0), (iv 0), (.slice none 0 0)] (fun fb => by kernel_rfl) (by kernel_rfl) rfl [] (by decide) (by decide) (fun w8920 hS8921 => ?_)
 refine ⟨trivial, ?_⟩
 refine seg 3 [] [4, 5] [(4, (pt g5981)), (5, (iv 6))] [] (fun fb => by kernel_rfl) rfl trivial ?_
 refine WL.done rfl ?_
 refine WX.next ?_
 refine WC.ret ?_
 have hS8922 := hS8921.nilrow 3 encInt
 injection hf with hf
 subst hf
 exact WX.ret_ [.v (iv 0), .v (iv 0), .v (.slice none 0 0)] (.tuple #[(.agg #[(iv 0), (iv 0), (.slice none ([] : List Int).length 0)]), (iv 6)]) [.cell ⟨g5981, 0, none⟩ (iv 0), .cell ⟨g5981, 1, none⟩ (iv 0), .cell ⟨g5981, 2, none⟩ (.slice none 0 0)] (fun fb => by kernel_rfl) ⟨hS8921.cell 0 rfl 0 rfl, hS8921.cell 0 rfl 1 rfl, hS8921.cell 0 rfl 2 rfl, trivial⟩ ⟨_, rfl, none, 0, rfl, (hS8922.sub [0] (by decide)).noR⟩
theorem decide_Decide_calls (k : Nat) (p0 : List Tile) (A_p0 : Option Addr) (c_p0 : Nat) (r : Verdict × Int) (w : World) (hR0 : RO NoS w (rowR enc_Tile A_p0 c_p0 p0)) (hf : decide_Decide k p0 = some r) :
  CallsR Try.prog 22 #[(.slice A_p0 p0.length c_p0)] w (fun v w' => ∃ (A1_ : Option Addr), ∃ (c1_ : Nat), v = (.tuple #[(.agg #[(.bool r.1.Fills), (iv r.1.Torus.Width), (iv r.1.Torus.Height), (.slice A1_ r.1.Torus.Cells.length c1_), (iv r.1.Side)]), (iv r.2)]) ∧ St NoS w w' [] [rowO 3 encInt A1_ c1_ r.1.Torus.Cells]) := by
 have hS : St NoS w w [rowR enc_Tile A_p0 c_p0 p0] [] := St.init (ro_cons hR0 (ro_nil _ _))
 refine enter 34 Try.func22 rfl Try.ntmps22 rfl ?_
 unfold decide_Decide at hf
 refine WC.seq ?_
 refine WC.region ?_
 refine WL.new hS 2 [] (fun g => (.pointer (some ⟨g, 0, none⟩))) (.cells #[(.bool false), (iv 0), (iv 0), (.slice none 0 0), (iv 0)] 40 (0, 0)) [] (fun fb g => by kernel_rfl) trivial (fun g7 w8 hS9 => ?_)
 refine ⟨trivial, ?_⟩
 refine WL.new hS9 3 [] (fun g => (.pointer (some ⟨g, 0, none⟩))) (.cells #[(iv 0)] 25 (0, 0)) [] (fun fb g => by kernel_rfl) trivial (fun g11 w12 hS13 => ?_)
 refine ⟨trivial, ?_⟩
 refine WL.done rfl ?_
 refine WX.next ?_
 refine WC.seq ?_
 refine WC.seq ?_
 refine WC.region ?_
 refine seg 1 [] [0, 2, 3, 9] [(0, (.slice A_p0 p0.length c_p0)), (2, (pt g7)), (3, (pt g11)), (9, (.slice A_p0 p0.length c_p0))] [] (fun fb => by kernel_rfl) rfl trivial ?_
 obtain ⟨t210, ht211, hf⟩ := bind_some hf
 refine WL.call (some 10) 43 #[(.slice A_p0 p0.length c_p0)] (fun fb => by kernel_rfl) (decide_asks_calls _ p0 A_p0 c_p0 t210 _ (hS13.rd 0) ht211) (fun v w212 hR213 => ?_)
 obtain ⟨rfl, hk_⟩ := hR213
 have hS214 := hS13.keepN hk_
 refine ⟨trivial, ?_⟩
 refine seg 3 [] [0, 2, 3, 4] [(0, (.slice A_p0 p0.length c_p0)), (2, (pt g7)), (3, (pt g11)), (4, (iv t210))] [] (fun fb => by kernel_rfl) rfl trivial ?_
 refine WL.done rfl ?_
 refine WX.next ?_
 refine WC.seq ?_
 refine WC.region ?_
 refine seg 2 [] [0, 2, 3, 4, 12] [(0, (.slice A_p0 p0.length c_p0)), (2, (pt g7)), (3, (pt g11)), (4, (iv t210)), (12, (.bool (t210 != 0)))] [] (fun fb => by kernel_rfl) rfl trivial ?_
 refine WL.done rfl ?_
 refine WX.next ?_
 rcases br_some hf with ⟨h215, hf⟩ | ⟨h215, hf⟩
 ·refine WC.condT2 (fun fb => by kernel_rfl) h215 ?_
  refine WC.seq ?_
  refine WC.region ?_
  refine seg 2 [] [2, 3, 13, 14] [(2, (pt g7)), (3, (pt g11)), (13, (.agg #[(.bool false), (iv 0), (iv 0), (.slice none 0 0), (iv 0)])), (14, (iv t210))] [] (fun fb => by kernel_rfl) rfl trivial ?_
  refine WL.store hS214 1 rfl [(0, (.bool false)), (1, (iv 0)), (2, (iv 0)), (3, (.slice none 0 0)), (4, (iv 0))] #[(.bool false), (iv 0), (iv 0), (.slice none 0 0), (iv 0)] (fun fb => by kernel_rfl) (by kernel_rfl) rfl [0] (by decide) (by decide) (fun w216 hS217 => ?_)
  refine ⟨trivial, ?_⟩
  refine WL.store hS217 1 rfl [(0, (iv t210))] #[(iv t210)] (fun fb => by kernel_rfl) (by kernel_rfl) rfl [0] (by decide) (by decide) (fun w218 hS219 => ?_)
  refine ⟨trivial, ?_⟩
  refine WL.done rfl ?_
  refine WX.next ?_
  refine WC.ret ?_
  have hS220 := hS219.nilrow 3 encInt
  injection hf with hf
  subst hf
  exact WX.thenR (WX.ret_ [.v (.bool false), .v (iv 0), .v (iv 0), .v (.slice none 0 0), .v (iv 0), .v (iv t210)] (.tuple #[(.agg #[(.bool false), (iv 0), (iv 0), (.slice none ([] : List Int).length 0), (iv 0)]), (iv t210)]) [.cell ⟨g7, 0, none⟩ (.bool false), .cell ⟨g7, 1, none⟩ (iv 0), .cell ⟨g7, 2, none⟩ (iv 0), .cell ⟨g7, 3, none⟩ (.slice none 0 0), .cell ⟨g7, 4, none⟩ (iv 0), .cell ⟨g11, 0, none⟩ (iv t210)] (fun fb => by kernel_rfl) ⟨hS219.cell 1 rfl 0 rfl, hS219.cell 1 rfl 1 rfl, hS219.cell 1 rfl 2 rfl, hS219.cell 1 rfl 3 rfl, hS219.cell 1 rfl 4 rfl, hS219.cell 0 rfl 0 rfl, trivial⟩ ⟨_, rfl, none, 0, rfl, (hS220.sub [0] (by decide)).noR⟩)
 refine WC.condF2 (fun fb => by kernel_rfl) h215 ?_
 refine WC.skip ?_
 refine WX.next ?_
 refine WC.seq ?_
 refine WC.seq ?_
 refine WC.region ?_
 refine seg 1 [] [0, 2, 3, 15] [(0, (.slice A_p0 p0.length c_p0)), (2, (pt g7)), (3, (pt g11)), (15, (.slice A_p0 p0.length c_p0))] [] (fun fb => by kernel_rfl) rfl trivial ?_
 obtain ⟨t225, ht226, hf⟩ := bind_some hf
 refine WL.call (some 16) 44 #[(.slice A_p0 p0.length c_p0)] (fun fb => by kernel_rfl) (decide_sides_calls p0 A_p0 c_p0 t225 _ (hS214.rd 0) ht226) (fun v w227 hR228 => ?_)
 obtain ⟨g230, rfl, hk_⟩ := hR228
 have hS229 : St NoS w w227 [rowR enc_Tile A_p0 c_p0 p0] [blk g230 (.cells #[(.slice A_p0 p0.length c_p0)] 22 (0, 0)), blk g11 (.cells #[(iv 0)] 25 (0, 0)), blk g7 (.cells #[(.bool false), (iv 0), (iv 0), (.slice none 0 0), (iv 0)] 40 (0, 0))] := hS214.call hk_ [] [0, 1] (fun g hg => hg.elim) (by simp) (by decide)
 refine ⟨trivial, ?_⟩
 refine WL.done rfl ?_
 refine WX.next ?_
 refine WC.block ?_
 refine WC.rangeO hS229 (fun _ _ h => h) rfl (gf := 61) (lb := [(pt g230)]) (fun fb => by kernel_rfl) (fun _ => by kernel_rfl) (fun LO247 LB248 LX249 l250 D251 w252 hK253 hS254 => ?_)
 have hS257 : St NoS w w252 [rowR enc_Tile A_p0 c_p0 p0] [(fun (s_ : Int × Int) (t_ : Unit) => sepO (blk l250 (LO247 (pendN [.ret] s_.2)) :: [blk g7 (.cells #[(.bool false), (iv 0), (iv 0), (.slice none 0 0), (iv s_.1)] 40 (0, 0)), blk g11 (.cells #[(iv 0)] 25 (0, 0))])) (0, (0 : Int)) (), blk D251 (.deferred (some [])), blk g230 (.cells #[(.slice A_p0 p0.length c_p0)] 22 (0, 0))] := hS254.pack [0, 4, 3] [1, 2] (by decide) (by decide) (by decide)
 have hY260 : ∀ (x0_ : Int) (x1_ : Bool) (s_ : Int × Int) (t_ : Unit) (r_ : (Int × Int) × Bool) (w_ : World), RO (fpL [(fun (s_ : Int × Int) (t_ : Unit) => sepO (blk l250 (LO247 (pendN [.ret] s_.2)) :: [blk g7 (.cells #[(.bool false), (iv 0), (iv 0), (.slice none 0 0), (iv s_.1)] 40 (0, 0)), blk g11 (.cells #[(iv 0)] 25 (0, 0))])) s_ t_]) w_ (poolO [rowR enc_Tile A_p0 c_p0 p0]) → IoOK w_ [(fun (s_ : Int × Int) (t_ : Unit) => sepO (blk l250 (LO247 (pendN [.ret] s_.2)) :: [blk g7 (.cells #[(.bool false), (iv 0), (iv 0), (.slice none 0 0), (iv s_.1)] 40 (0, 0)), blk g11 (.cells #[(iv 0)] 25 (0, 0))])) s_ t_] → decide_Decide.b1 k  x0_ x1_ s_ = some r_ → YieldR Try.prog (.func (.yield l250) #[] #[]) #[(iv x0_), (.bool x1_)] w_ (fun v_ w' => ∃ t1_, v_ = .bool r_.2 ∧ St (fpL [(fun (s_ : Int × Int) (t_ : Unit) => sepO (blk l250 (LO247 (pendN [.ret] s_.2)) :: [blk g7 (.cells #[(.bool false), (iv 0), (iv 0), (.slice none 0 0), (iv s_.1)] 40 (0, 0)), blk g11 (.cells #[(iv 0)] 25 (0, 0))])) s_ t_]) w_ w' [] [(fun (s_ : Int × Int) (t_ : Unit) => sepO (blk l250 (LO247 (pendN [.ret] s_.2)) :: [blk g7 (.cells #[(.bool false), (iv 0), (iv 0), (.slice none 0 0), (iv s_.1)] 40 (0, 0)), blk g11 (.cells #[(iv 0)] 25 (0, 0))])) r_.1 t1_]) := by
  rintro x258 x259 ⟨x246, j261⟩ ⟨⟩ r262 w263 hRd264 hI265 hf266
  rw [decide_Decide.b1] at hf266
  obtain ⟨hj268, hf266⟩ := as_some hf266
  subst hj268
  have hRo269 := hRd264.openSep
  have hS267 : St (fpL [blk l250 (LO247 none), blk g7 (.cells #[(.bool false), (iv 0), (iv 0), (.slice none 0 0), (iv x246)] 40 (0, 0)), blk g11 (.cells #[(iv 0)] 25 (0, 0))]) w263 w263 [rowR enc_Tile A_p0 c_p0 p0] [blk l250 (LO247 none), blk g7 (.cells #[(.bool false), (iv 0), (iv 0), (.slice none 0 0), (iv x246)] 40 (0, 0)), blk g11 (.cells #[(iv 0)] 25 (0, 0))] := St.initIO (ro_cons (poolO.ro hRo269 0) (ro_nil _ _)) hI265.openSep
  refine YieldR.of_loop hK253 (hS267.blkAt 0 rfl) [(iv x258), (.bool x259)] [0, 2, 3] [(0, (.slice A_p0 p0.length c_p0)), (2, (pt g7)), (3, (pt g11))] [(18, (.bool x259)), (17, (iv x258)), (0, (.slice A_p0 p0.length c_p0)), (2, (pt g7)), (3, (pt g11))] rfl rfl rfl rfl rfl ?_
  refine WC.seq ?_
  refine WC.region ?_
  refine seg 1 [] [0, 2, 3, 5, 18] [(0, (.slice A_p0 p0.length c_p0)), (2, (pt g7)), (3, (pt g11)), (5, (iv x258)), (18, (.bool x259))] [] (fun fb => by kernel_rfl) rfl trivial ?_
  refine WL.done rfl ?_
  refine WX.next ?_
  refine WC.region ?_
  refine seg 1 [] [0, 2, 3, 5, 6] [(0, (.slice A_p0 p0.length c_p0)), (2, (pt g7)), (3, (pt g11)), (5, (iv x258)), (6, (.bool x259))] [] (fun fb => by kernel_rfl) rfl trivial ?_
  refine WL.done rfl ?_
  refine WX.begin' hK253 (hS267.blkAt 0 rfl) ?_
  have hS270 := hS267.putO 0 rfl LB248 [1, 2] (by decide) (by decide)
  revert hS270
  generalize World.putObj _ _ _ = w271
  intro hS270
  have hS272 : St (fpL [blk l250 (LO247 none), blk g7 (.cells #[(.bool false), (iv 0), (iv 0), (.slice none 0 0), (iv x246)] 40 (0, 0)), blk g11 (.cells #[(iv 0)] 25 (0, 0))]) w263 w271 [rowR enc_Tile A_p0 c_p0 p0] [blk l250 LB248, blk g7 (.cells #[(.bool false), (iv 0), (iv 0), (.slice none 0 0), (iv x246)] 40 (0, 0)), blk g11 (.cells #[(iv 0)] 25 (0, 0))] := hS270
  refine WC.block ?_
  refine WC.seq ?_
  refine WC.region ?_
  refine seg 2 [] [0, 2, 3, 5, 20] [(0, (.slice A_p0 p0.length c_p0)), (2, (pt g7)), (3, (pt g11)), (5, (iv x258)), (20, (.bool (!x259)))] [] (fun fb => by kernel_rfl) rfl trivial ?_
  refine WL.done rfl ?_
  refine WX.next ?_
  rcases br_some hf266 with ⟨h273, hf266⟩ | ⟨h273, hf266⟩
  ·refine WC.condT2 (fun fb => by kernel_rfl) h273 ?_
   refine WC.seq ?_
   refine WC.region ?_
   refine seg 2 [] [0, 2, 3, 22] [(0, (.slice A_p0 p0.length c_p0)), (2, (pt g7)), (3, (pt g11)), (22, (.agg #[(.bool false), (iv 0), (iv 0), (.slice none 0 0), (iv x258)]))] [] (fun fb => by kernel_rfl) rfl trivial ?_
   refine WL.store hS272 1 rfl [(0, (.bool false)), (1, (iv 0)), (2, (iv 0)), (3, (.slice none 0 0)), (4, (iv x258))] #[(.bool false), (iv 0), (iv 0), (.slice none 0 0), (iv x258)] (fun fb => by kernel_rfl) (by kernel_rfl) rfl [0, 2] (by decide) (by decide) (fun w274 hS275 => ?_)
   refine ⟨trivial, ?_⟩
   refine WL.store hS275 2 rfl [(0, (iv 0))] #[(iv 0)] (fun fb => by kernel_rfl) (by kernel_rfl) rfl [0, 1] (by decide) (by decide) (fun w276 hS277 => ?_)
   refine ⟨trivial, ?_⟩
   refine WL.done rfl ?_
   refine WX.next ?_
   refine WC.ret ?_
   injection hf266 with hf266
   subst hf266
   exact WX.blockR (WX.roundR' hK253 (hS277.blkAt 2 rfl) ⟨(), rfl, ((hS277.putO 2 rfl (LO247 (some .ret)) [0, 1] (by decide) (by decide)).sub [0, 2, 1] (by decide)).noR.closeSep⟩)
  refine WC.condF2 (fun fb => by kernel_rfl) h273 ?_
  refine WC.skip ?_
  injection hf266 with hf266
  subst hf266
  exact WX.blockN (WX.roundN' hK253 (hS272.blkAt 0 rfl) ⟨(), rfl, ((hS272.putO 0 rfl (LO247 none) [1, 2] (by decide) (by decide)).sub [0, 1, 2] (by decide)).noR.closeSep⟩)
 obtain ⟨t5966, ht5967, hf⟩ := bind_some hf
 refine (decide_sides_1_y_calls _ p0 (decide_Decide.b1 k ) (0, (0 : Int)) g230 A_p0 c_p0 (.func (.yield l250) #[] #[]) (fun (s_ : Int × Int) (t_ : Unit) => sepO (blk l250 (LO247 (pendN [.ret] s_.2)) :: [blk g7 (.cells #[(.bool false), (iv 0), (iv 0), (.slice none 0 0), (iv s_.1)] 40 (0, 0)), blk g11 (.cells #[(iv 0)] 25 (0, 0))])) () (poolO [rowR enc_Tile A_p0 c_p0 p0]) t5966 _ (hS257.rdP [0]) (hS257.owT [0] 2 (by decide)) (hS257.rdT [0] 0) (hS257.io [0] (by decide)) hY260 ht5967).post (fun v w5968 hR5969 => ?_)
 obtain ⟨tt5971, rfl, hk_⟩ := hR5969
 have hS5970 : St NoS w w5968 [rowR enc_Tile A_p0 c_p0 p0] [(fun (s_ : Int × Int) (t_ : Unit) => sepO (blk l250 (LO247 (pendN [.ret] s_.2)) :: [blk g7 (.cells #[(.bool false), (iv 0), (iv 0), (.slice none 0 0), (iv s_.1)] 40 (0, 0)), blk g11 (.cells #[(iv 0)] 25 (0, 0))])) t5966 tt5971, blk D251 (.deferred (some [])), blk g230 (.cells #[(.slice A_p0 p0.length c_p0)] 22 (0, 0))] := hS257.call hk_ [0] [1, 2] (fun g hg => fpL_sel g hg) (by decide) (by decide)
 have hS5972 : St NoS w w5968 [rowR enc_Tile A_p0 c_p0 p0] [blk l250 (LO247 (pendN [.ret] t5966.2)), blk g7 (.cells #[(.bool false), (iv 0), (iv 0), (.slice none 0 0), (iv t5966.1)] 40 (0, 0)), blk g11 (.cells #[(iv 0)] 25 (0, 0)), blk D251 (.deferred (some [])), blk g230 (.cells #[(.slice A_p0 p0.length c_p0)] 22 (0, 0))] := hS5970.unpack 0 rfl [1, 2] (by decide) (by decide)
 refine ⟨_, hS5972.blkAt 0 rfl, ?_⟩
 have hS5973 := (hS5972.putO 0 rfl (LX249 (pendN [.ret] t5966.2)) [1, 2, 3, 4] (by decide) (by decide)).tail
 revert hS5973
 generalize World.putObj _ _ _ = w5974
 intro hS5973
 have hS5975 : St NoS w w5974 [rowR enc_Tile A_p0 c_p0 p0] [blk g7 (.cells #[(.bool false), (iv 0), (iv 0), (.slice none 0 0), (iv t5966.1)] 40 (0, 0)), blk g11 (.cells #[(iv 0)] 25 (0, 0)), blk D251 (.deferred (some [])), blk g230 (.cells #[(.slice A_p0 p0.length c_p0)] 22 (0, 0))] := hS5973
 rcases br_some hf with ⟨h5976, hf⟩ | ⟨h5976, hf⟩
 ·
  have hj_ := eq_of_beq h5976
  rw [hj_]
  refine WC.keep [0, 2, 3, 4294967295] [(0, (.slice A_p0 p0.length c_p0)), (2, (pt g7)), (3, (pt g11)), (4294967295, (.func (.yield D251) #[] #[]))] rfl ?_
  refine WC.ret ?_
  have hS5977 := hS5975.nilrow 3 encInt
  injection hf with hf
  subst hf
  exact WX.blockR (WX.thenR (WX.retM hS5977 3 rfl rfl [0, 1, 2, 4] (by decide) (by decide) [.v (.bool false), .v (iv 0), .v (iv 0), .v (.slice none ([] : List Int).length 0), .v (iv t5966.1), .v (iv 0)] (.tuple #[(.agg #[(.bool false), (iv 0), (iv 0), (.slice none ([] : List Int).length 0), (iv t5966.1)]), (iv 0)]) [.cell ⟨g7, 0, none⟩ (.bool false), .cell ⟨g7, 1, none⟩ (iv 0), .cell ⟨g7, 2, none⟩ (iv 0), .cell ⟨g7, 3, none⟩ (.slice none ([] : List Int).length 0), .cell ⟨g7, 4, none⟩ (iv t5966.1), .cell ⟨g11, 0, none⟩ (iv 0)] (fun fb => by kernel_rfl) (fun w5979 hS5978 => ⟨⟨hS5978.cell 1 rfl 0 rfl, hS5978.cell 1 rfl 1 rfl, hS5978.cell 1 rfl 2 rfl, hS5978.cell 1 rfl 3 rfl, hS5978.cell 1 rfl 4 rfl, hS5978.cell 2 rfl 0 rfl, trivial⟩, ⟨none, 0, rfl, (hS5978.sub [0] (by decide)).noR⟩⟩)))
 obtain ⟨h5980, hf⟩ := as_some hf
 rw [h5980]
 refine WX.keep [0, 2, 3, 4294967295] [(0, (.slice A_p0 p0.length c_p0)), (2, (pt g7)), (3, (pt g11)), (4294967295, (.func (.yield D251) #[] #[]))] rfl ?_
 refine WX.blockN (WX.next ?_)
 refine WC.seq ?_
 refine WC.region ?_
 refine seg 1 [] [2, 3, 24, 4294967295] [(2, (pt g7)), (3, (pt g11)), (24, (.slice A_p0 p0.length c_p0)), (4294967295, (.func (.yield D251) #[] #[]))] [] (fun fb => by kernel_rfl) rfl trivial ?_
 obtain ⟨t8923, ht8924, hf⟩ := bind_some hf
 refine WL.call (some 25) 25 #[(.slice A_p0 p0.length c_p0), (iv 6)] (fun fb => by kernel_rfl) (torus_Least_calls _ p0 6 A_p0 c_p0 t8923 _ (hS5975.rd 0) ht8924) (fun v w8925 hR8926 => ?_)
 obtain ⟨A8928, c8929, rfl, hk_⟩ := hR8926
 have hS8927 : St NoS w w8925 [rowR enc_Tile A_p0 c_p0 p0] [rowO 3 encInt A8928 c8929 t8923.1.Cells, blk g7 (.cells #[(.bool false), (iv 0), (iv 0), (.slice none 0 0), (iv t5966.1)] 40 (0, 0)), blk g11 (.cells #[(iv 0)] 25 (0, 0)), blk D251 (.deferred (some [])), blk g230 (.cells #[(.slice A_p0 p0.length c_p0)] 22 (0, 0))] := hS5975.call hk_ [] [0, 1, 2, 3] (fun g hg => hg.elim) (by simp) (by decide)
 refine ⟨trivial, ?_⟩
 refine seg 5 [] [2, 3, 26, 27, 4294967295] [(2, (pt g7)), (3, (pt g11)), (26, (.agg #[(iv t8923.1.Width), (iv t8923.1.Height), (.slice A8928 t8923.1.Cells.length c8929)])), (27, (iv t8923.2)), (4294967295, (.func (.yield D251) #[] #[]))] [] (fun fb => by kernel_rfl) rfl trivial ?_
 refine WL.new hS8927 7 [] (fun g => (.pointer (some ⟨g, 0, none⟩))) (.cells #[(iv 0), (iv 0), (.slice none 0 0)] 38 (0, 0)) [] (fun fb g => by kernel_rfl) trivial (fun g8930 w8931 hS8932 => ?_)
 refine ⟨trivial, ?_⟩
 refine WL.store hS8932 0 rfl [(0, (iv t8923.1.Width)), (1, (iv t8923.1.Height)), (2, (.slice A8928 t8923.1.Cells.length c8929))] #[(iv t8923.1.Width), (iv t8923.1.Height), (.slice A8928 t8923.1.Cells.length c8929)] (fun fb => by kernel_rfl) (by kernel_rfl) rfl [1, 2, 3, 4, 5] (by decide) (by decide) (fun w8934 hS8935 => ?_)
 refine ⟨trivial, ?_⟩
 refine seg 8 [] [2, 3, 7, 8, 4294967295] [(2, (pt g7)), (3, (pt g11)), (7, (pt g8930)), (8, (iv t8923.2)), (4294967295, (.func (.yield D251) #[] #[]))] [] (fun fb => by kernel_rfl) rfl trivial ?_
 refine WL.done rfl ?_
 refine WX.next ?_
 refine WC.seq ?_
 refine WC.seq ?_
 refine WC.region ?_
 refine seg 2 [] [2, 3, 7, 8, 29, 4294967295] [(2, (pt g7)), (3, (pt g11)), (7, (pt g8930)), (8, (iv t8923.2)), (29, (.bool (t8923.2 != 0))), (4294967295, (.func (.yield D251) #[] #[]))] [] (fun fb => by kernel_rfl) rfl trivial ?_
 refine WL.done rfl ?_
 refine WX.next ?_
 rcases br_some hf with ⟨h8936, hf⟩ | ⟨h8936, hf⟩
 ·refine WC.condT2 (fun fb => by kernel_rfl) h8936 ?_
  refine WC.seq ?_
  refine WC.region ?_
  refine seg 2 [] [2, 3, 30, 31, 4294967295] [(2, (pt g7)), (3, (pt g11)), (30, (.agg #[(.bool false), (iv 0), (iv 0), (.slice none 0 0), (iv 0)])), (31, (iv t8923.2)), (4294967295, (.func (.yield D251) #[] #[]))] [] (fun fb => by kernel_rfl) rfl trivial ?_
  refine WL.store hS8935 2 rfl [(0, (.bool false)), (1, (iv 0)), (2, (iv 0)), (3, (.slice none 0 0)), (4, (iv 0))] #[(.bool false), (iv 0), (iv 0), (.slice none 0 0), (iv 0)] (fun fb => by kernel_rfl) (by kernel_rfl) rfl [0, 1, 3, 4, 5] (by decide) (by decide) (fun w8937 hS8938 => ?_)
  refine ⟨trivial, ?_⟩
  refine WL.store hS8938 3 rfl [(0, (iv t8923.2))] #[(iv t8923.2)] (fun fb => by kernel_rfl) (by kernel_rfl) rfl [0, 1, 2, 4, 5] (by decide) (by decide) (fun w8939 hS8940 => ?_)
  refine ⟨trivial, ?_⟩
  refine WL.done rfl ?_
  refine WX.next ?_
  refine WC.ret ?_
  have hS8941 := hS8940.nilrow 3 encInt
  injection hf with hf
  subst hf
  exact WX.thenR (WX.retM hS8941 5 rfl rfl [0, 1, 2, 3, 4, 6] (by decide) (by decide) [.v (.bool false), .v (iv 0), .v (iv 0), .v (.slice none ([] : List Int).length 0), .v (iv 0), .v (iv t8923.2)] (.tuple #[(.agg #[(.bool false), (iv 0), (iv 0), (.slice none ([] : List Int).length 0), (iv 0)]), (iv t8923.2)]) [.cell ⟨g7, 0, none⟩ (.bool false), .cell ⟨g7, 1, none⟩ (iv 0), .cell ⟨g7, 2, none⟩ (iv 0), .cell ⟨g7, 3, none⟩ (.slice none ([] : List Int).length 0), .cell ⟨g7, 4, none⟩ (iv 0), .cell ⟨g11, 0, none⟩ (iv t8923.2)] (fun fb => by kernel_rfl) (fun w8943 hS8942 => ⟨⟨hS8942.cell 2 rfl 0 rfl, hS8942.cell 2 rfl 1 rfl, hS8942.cell 2 rfl 2 rfl, hS8942.cell 2 rfl 3 rfl, hS8942.cell 2 rfl 4 rfl, hS8942.cell 1 rfl 0 rfl, trivial⟩, ⟨none, 0, rfl, (hS8942.sub [0] (by decide)).noR⟩⟩))
 refine WC.condF2 (fun fb => by kernel_rfl) h8936 ?_
 refine WC.skip ?_
 refine WX.next ?_
 refine WC.seq ?_
 refine WC.region ?_
 refine seg 2 [.v (iv t8923.1.Width), .v (iv t8923.1.Height), .v (.slice A8928 t8923.1.Cells.length c8929)] [2, 3, 33, 4294967295] [(2, (pt g7)), (3, (pt g11)), (33, (.agg #[(.bool true), (iv t8923.1.Width), (iv t8923.1.Height), (.slice A8928 t8923.1.Cells.length c8929), (iv 0)])), (4294967295, (.func (.yield D251) #[] #[]))] [.cell ⟨g8930, 0, none⟩ (iv t8923.1.Width), .cell ⟨g8930, 1, none⟩ (iv t8923.1.Height), .cell ⟨g8930, 2, none⟩ (.slice A8928 t8923.1.Cells.length c8929)] (fun fb => by kernel_rfl) rfl ⟨hS8935.cell 0 rfl 0 rfl, hS8935.cell 0 rfl 1 rfl, hS8935.cell 0 rfl 2 rfl, trivial⟩ ?_
 refine WL.store hS8935 2 rfl [(0, (.bool true)), (1, (iv t8923.1.Width)), (2, (iv t8923.1.Height)), (3, (.slice A8928 t8923.1.Cells.length c8929)), (4, (iv 0))] #[(.bool true), (iv t8923.1.Width), (iv t8923.1.Height), (.slice A8928 t8923.1.Cells.length c8929), (iv 0)] (fun fb => by kernel_rfl) (by kernel_rfl) rfl [0, 1, 3, 4, 5] (by decide) (by decide) (fun w8944 hS8945 => ?_)
 refine ⟨trivial, ?_⟩
 refine WL.store hS8945 3 rfl [(0, (iv 0))] #[(iv 0)] (fun fb => by kernel_rfl) (by kernel_rfl) rfl [0, 1, 2, 4, 5] (by decide) (by decide) (fun w8946 hS8947 => ?_)
 refine ⟨trivial, ?_⟩
 refine WL.done rfl ?_
 refine WX.next ?_
 refine WC.ret ?_
 injection hf with hf
 subst hf
 exact WX.retM hS8947 4 rfl rfl [0, 1, 2, 3, 5] (by decide) (by decide) [.v (.bool true), .v (iv t8923.1.Width), .v (iv t8923.1.Height), .v (.slice A8928 t8923.1.Cells.length c8929), .v (iv 0), .v (iv 0)] (.tuple #[(.agg #[(.bool true), (iv t8923.1.Width), (iv t8923.1.Height), (.slice A8928 t8923.1.Cells.length c8929), (iv 0)]), (iv 0)]) [.cell ⟨g7, 0, none⟩ (.bool true), .cell ⟨g7, 1, none⟩ (iv t8923.1.Width), .cell ⟨g7, 2, none⟩ (iv t8923.1.Height), .cell ⟨g7, 3, none⟩ (.slice A8928 t8923.1.Cells.length c8929), .cell ⟨g7, 4, none⟩ (iv 0), .cell ⟨g11, 0, none⟩ (iv 0)] (fun fb => by kernel_rfl) (fun w8949 hS8948 => ⟨⟨hS8948.cell 1 rfl 0 rfl, hS8948.cell 1 rfl 1 rfl, hS8948.cell 1 rfl 2 rfl, hS8948.cell 1 rfl 3 rfl, hS8948.cell 1 rfl 4 rfl, hS8948.cell 0 rfl 0 rfl, trivial⟩, ⟨A8928, c8929, rfl, (hS8948.sub [3] (by decide)).noR⟩⟩)
theorem law09_chess_calls   (r : (List Tile)) (w : World)  (hf : law09_chess = some r) :
  CallsR Try.prog 36 #[] w (fun v w' => ∃ (A1_ : Option Addr), ∃ (c1_ : Nat), v = (.slice A1_ r.length c1_) ∧ St NoS w w' [] [rowO 24 enc_Tile A1_ c1_ r]) := by
 have hS : St NoS w w [] [] := St.init (ro_nil _ _)
 refine enter 4 Try.func36 rfl Try.ntmps36 rfl ?_
 unfold law09_chess at hf
 refine WC.seq ?_
 refine WC.region ?_
 refine seg 1 [] [] [] [] (fun fb => by kernel_rfl) rfl trivial ?_
 refine WL.done rfl ?_
 refine WX.next ?_
 refine WC.seq ?_
 refine WC.region ?_
 refine seg 2 [] [1, 2] [(1, (.agg #[(iv 0), (iv 1), (iv 1), (iv 0)])), (2, (.agg #[(iv 1), (iv 0), (iv 0), (iv 1)]))] [] (fun fb => by kernel_rfl) rfl trivial ?_
 refine WL.new hS 3 [] (fun g => (.slice (some ⟨g, 0, none⟩) 2 2)) (.cells #[(iv 0), (iv 1), (iv 1), (iv 0), (iv 1), (iv 0), (iv 0), (iv 1)] 24 (0, 0)) [] (fun fb g => by kernel_rfl) trivial (fun g8963 w8964 hS8965 => ?_)
 refine ⟨trivial, ?_⟩
 have hS8967 : St NoS w w8964 [] [rowO 24 enc_Tile (some ⟨g8963, 0, none⟩) 2 [(Tile.mk 0 1 1 0), (Tile.mk 1 0 0 1)]] := hS8965.map1 0 _ (fun h => rowO.ofBlk h rfl (Nat.le_of_ble_eq_true (by kernel_rfl))) (fun _ h => by obtain ⟨_, h1, h2⟩ := h; injection h1 with h1; subst h1; exact h2) [] (by decide) (by decide)
 refine seg 4 [] [0] [(0, (.slice (some ⟨g8963, 0, none⟩) [(Tile.mk 0 1 1 0), (Tile.mk 1 0 0 1)].length 2))] [] (fun fb => by kernel_rfl) rfl trivial ?_
 refine WL.done rfl ?_
 refine WX.next ?_
 refine WC.ret ?_
 injection hf with hf
 subst hf
 exact WX.ret_ [] (.slice (some ⟨g8963, 0, none⟩) [(Tile.mk 0 1 1 0), (Tile.mk 1 0 0 1)].length 2) [] (fun fb => by kernel_rfl) trivial ⟨_, rfl, (some ⟨g8963, 0, none⟩), 2, rfl, (hS8967.sub [0] (by decide)).noR⟩
theorem ref01_Same_calls (k : Nat) (p0 : List Int) (p1 : List Int) (A_p0 : Option Addr) (c_p0 : Nat) (A_p1 : Option Addr) (c_p1 : Nat) (r : Bool) (w : World) (hR0 : RO NoS w (rowR encInt A_p0 c_p0 p0)) (hR1 : RO NoS w (rowR encInt A_p1 c_p1 p1)) (hf : ref01_Same k p0 p1 = some r) :
  CallsR Try.prog 47 #[(.slice A_p0 p0.length c_p0), (.slice A_p1 p1.length c_p1)] w (fun v w' => v = (.bool r) ∧ Keeps NoS w w') := by
 have hS : St NoS w w [rowR encInt A_p0 c_p0 p0, rowR encInt A_p1 c_p1 p1] [] := St.init (ro_cons hR0 (ro_cons hR1 (ro_nil _ _)))
 refine enter 26 Try.func47 rfl Try.ntmps47 rfl ?_
 unfold ref01_Same at hf
 refine WC.seq ?_
 refine WC.region ?_
 refine seg 1 [] [0, 1] [(0, (.slice A_p0 p0.length c_p0)), (1, (.slice A_p1 p1.length c_p1))] [] (fun fb => by kernel_rfl) rfl trivial ?_
 refine WL.done rfl ?_
 refine WX.next ?_
 refine WC.seq ?_
 refine WC.seq ?_
 refine WC.region ?_
 refine seg 5 [] [0, 1, 10] [(0, (.slice A_p0 p0.length c_p0)), (1, (.slice A_p1 p1.length c_p1)), (10, (.bool ((p0.length : Int) != (p1.length : Int))))] [] (fun fb => by kernel_rfl) rfl trivial ?_
 refine WL.done rfl ?_
 refine WX.next ?_
 rcases br_some hf with ⟨h9026, hf⟩ | ⟨h9026, hf⟩
 ·refine WC.condT2 (fun fb => by kernel_rfl) h9026 ?_
  refine WC.seq ?_
  refine WC.region ?_
  refine seg 1 [] [4] [(4, (.bool false))] [] (fun fb => by kernel_rfl) rfl trivial ?_
  refine WL.done rfl ?_
  refine WX.next ?_
  refine WC.ret ?_
  injection hf with hf
  subst hf
  exact WX.thenR (WX.ret_ [] (.bool false) [] (fun fb => by kernel_rfl) trivial ⟨_, rfl, rfl, hS.keep⟩)
 refine WC.condF2 (fun fb => by kernel_rfl) h9026 ?_
 refine WC.skip ?_
 refine WX.next ?_
 refine WC.seq ?_
 refine WC.seq ?_
 refine WC.region ?_
 refine seg 1 [] [0, 1, 5] [(0, (.slice A_p0 p0.length c_p0)), (1, (.slice A_p1 p1.length c_p1)), (5, (iv 0))] [] (fun fb => by kernel_rfl) rfl trivial ?_
 refine WL.done rfl ?_
 refine WX.next ?_
 obtain ⟨x9049, hx9050, hf⟩ := bind_some hf
 refine WC.cutN (T := Unit) (fun t => []) (fun t w1 => St NoS w w1 [rowR encInt A_p0 c_p0 p0, rowR encInt A_p1 c_p1 p1] [] ∧ x9049 = .inr t) (fun Kx9049 => ?_) ?_
 ·
  refine WC.block ?_
  refine WC.loop (T := Int) (fun t => [(0, (.slice A_p0 p0.length c_p0)), (1, (.slice A_p1 p1.length c_p1)), (5, (iv t))]) (fun n t w1 => St NoS w w1 [rowR encInt A_p0 c_p0 p0, rowR encInt A_p1 c_p1 p1] [] ∧ ref01_Same.l0 n t p0 p1 = some x9049) k 0 [0, 1, 5] rfl ⟨(hS.subR [0, 1]).sub [] (by decide), hx9050⟩ ?_
  rintro k9051 x9048 w9052 ⟨hS9053, hl9054⟩
  cases k9051 with
  | zero => rw [ref01_Same.l0] at hl9054; cases hl9054
  | succ k9051 =>
   rw [ref01_Same.l0] at hl9054
   refine WC.seq ?_
   refine WC.seq ?_
   refine WC.region ?_
   refine seg 4 [] [0, 1, 5, 14] [(0, (.slice A_p0 p0.length c_p0)), (1, (.slice A_p1 p1.length c_p1)), (5, (iv x9048)), (14, (.bool (decide (x9048 < (p0.length : Int)))))] [] (fun fb => by kernel_rfl) rfl trivial ?_
   refine WL.done rfl ?_
   refine WX.next ?_
   rcases br_some hl9054 with ⟨h9055, hl9054⟩ | ⟨h9055, hl9054⟩
   ·refine WC.condT2 (fun fb => by kernel_rfl) h9055 ?_
    refine WC.skip ?_
    refine WX.next ?_
    refine WC.seq ?_
    refine WC.block ?_
    refine WC.seq ?_
    obtain ⟨h9062, hl9054⟩ := as_some hl9054
    obtain ⟨h9063, hl9054⟩ := as_some hl9054
    refine WC.regionD ([(3, ((adr A_p0).add ((x9048).toNat * 1)), (iv (rdD p0 x9048 0))), (7, ((adr A_p1).add ((x9048).toNat * 1)), (iv (rdD p1 x9048 0)))], [0, 1, 2, 3, 4, 5, 6, 7, 8], [[], [], [0, 1], [0, 1, 2], [], [], [4, 5], [4, 5, 6], [0, 1, 2, 3, 4, 5, 6, 7]]) [[0, 1, 2, 3, 4, 5, 6, 7, 8]] (by kernel_rfl) (by kernel_rfl) (NoPanic.seq (NoPanic.block (NoPanic.seq (NoPanic.seq (NoPanic.block (NoPanic.seq (NoPanic.body))))))) ?_
    have hS9059 := hS9053.drew
    revert hS9059
    generalize World.drew w9052 = w9058
    intro hS9059
    refine ⟨⟨rowR.cell (hS9059.rd 0).1 0 h9062.1 h9062.2 0 rfl, rowR.cell (hS9059.rd 1).1 0 h9063.1 h9063.2 0 rfl, trivial⟩, forallC ?_ (forallN)⟩
    refine segF 9 [.v (iv (rdD p0 x9048 0)), .v (iv (rdD p1 x9048 0))] [0, 1, 5, 25] [(0, (.slice A_p0 p0.length c_p0)), (1, (.slice A_p1 p1.length c_p1)), (5, (iv x9048)), (25, (.bool ((rdD p0 x9048 0) != (rdD p1 x9048 0))))] [.idx A_p0 x9048 p0.length, .idx A_p1 x9048 p1.length] [0, 1] [(3, ((adr A_p0).add ((x9048).toNat * 1)), (iv (rdD p0 x9048 0))), (7, ((adr A_p1).add ((x9048).toNat * 1)), (iv (rdD p1 x9048 0)))] (fun fb => by kernel_rfl) rfl ⟨rowR.adr (hS9059.rd 0).1 h9062.1 h9062.2, rowR.adr (hS9059.rd 1).1 h9063.1 h9063.2, trivial⟩ rfl ?_
    refine WL.done rfl ?_
    refine WX.next ?_
    rcases br_some hl9054 with ⟨h9064, hl9054⟩ | ⟨h9064, hl9054⟩
    ·refine WC.condT2 (fun fb => by kernel_rfl) h9064 ?_
     refine WC.seq ?_
     refine WC.region ?_
     refine seg 1 [] [4] [(4, (.bool false))] [] (fun fb => by kernel_rfl) rfl trivial ?_
     refine WL.done rfl ?_
     refine WX.next ?_
     refine WC.ret ?_
     injection hl9054 with hl9054
     subst hl9054
     injection hf with hf
     subst hf
     exact WX.blockR (WX.thenR (WX.thenR (WX.blockR (WX.thenR (WX.ret_ [] (.bool false) [] (fun fb => by kernel_rfl) trivial ⟨_, rfl, rfl, hS9059.keep⟩)))))
    refine WC.condF2 (fun fb => by kernel_rfl) h9064 ?_
    refine WC.skip ?_
    refine WX.blockN (WX.next ?_)
    refine WC.region ?_
    refine seg 3 [] [0, 1, 5] [(0, (.slice A_p0 p0.length c_p0)), (1, (.slice A_p1 p1.length c_p1)), (5, (iv (w64 (x9048 + 1))))] [] (fun fb => by kernel_rfl) rfl trivial ?_
    refine WL.done rfl ?_
    exact WX.again k9051 (Nat.lt_succ_self _) (w64 (x9048 + 1)) [0, 1, 5] rfl ⟨(hS9059.subR [0, 1]).sub [] (by decide), hl9054⟩
   refine WC.condF2 (fun fb => by kernel_rfl) h9055 ?_
   refine WC.exit ?_
   injection hl9054 with hl9054
   exact WX.thenX (WX.thenX (WX.blockHere (WX.to Kx9049 () [] rfl ⟨(hS9053.subR [0, 1]).sub [] (by decide), hl9054.symm⟩)))
 rintro y9068 w9065 ⟨hS9066, hq9067⟩
 subst hq9067
 have hf := sum_inr hf
 refine WX.next ?_
 refine WC.seq ?_
 refine WC.region ?_
 refine seg 1 [] [4] [(4, (.bool true))] [] (fun fb => by kernel_rfl) rfl trivial ?_
 refine WL.done rfl ?_
 refine WX.next ?_
 refine WC.ret ?_
 injection hf with hf
 subst hf
 exact WX.ret_ [] (.bool true) [] (fun fb => by kernel_rfl) trivial ⟨_, rfl, rfl, hS9066.keep⟩
theorem ref01_SamePattern_calls (k : Nat) (p0 : Pattern) (p1 : Pattern) (A_p0_Cells : Option Addr) (c_p0_Cells : Nat) (A_p1_Cells : Option Addr) (c_p1_Cells : Nat) (r : Bool) (w : World) (hR0 : RO NoS w (rowR encInt A_p0_Cells c_p0_Cells p0.Cells)) (hR1 : RO NoS w (rowR encInt A_p1_Cells c_p1_Cells p1.Cells)) (hf : ref01_SamePattern k p0 p1 = some r) :
  CallsR Try.prog 26 #[(.agg #[(iv p0.Width), (iv p0.Height), (.slice A_p0_Cells p0.Cells.length c_p0_Cells)]), (.agg #[(iv p1.Width), (iv p1.Height), (.slice A_p1_Cells p1.Cells.length c_p1_Cells)])] w (fun v w' => v = (.bool r) ∧ Keeps NoS w w') := by
 have hS : St NoS w w [rowR encInt A_p0_Cells c_p0_Cells p0.Cells, rowR encInt A_p1_Cells c_p1_Cells p1.Cells] [] := St.init (ro_cons hR0 (ro_cons hR1 (ro_nil _ _)))
 refine enter 24 Try.func26 rfl Try.ntmps26 rfl ?_
 unfold ref01_SamePattern at hf
 refine WC.seq ?_
 refine WC.region ?_
 refine WL.new hS 2 [] (fun g => (.pointer (some ⟨g, 0, none⟩))) (.cells #[(iv p0.Width), (iv p0.Height), (.slice A_p0_Cells p0.Cells.length c_p0_Cells)] 38 (0, 0)) [] (fun fb g => by kernel_rfl) trivial (fun g9016 w9017 hS9018 => ?_)
 refine ⟨trivial, ?_⟩
 refine WL.new hS9018 3 [] (fun g => (.pointer (some ⟨g, 0, none⟩))) (.cells #[(iv p1.Width), (iv p1.Height), (.slice A_p1_Cells p1.Cells.length c_p1_Cells)] 38 (0, 0)) [] (fun fb g => by kernel_rfl) trivial (fun g9020 w9021 hS9022 => ?_)
 refine ⟨trivial, ?_⟩
 refine seg 3 [] [2, 3] [(2, (pt g9016)), (3, (pt g9020))] [] (fun fb => by kernel_rfl) rfl trivial ?_
 refine WL.done rfl ?_
 refine WX.next ?_
 refine WC.seq ?_
 refine WC.region ?_
 refine seg 6 [.v (iv p0.Width), .v (iv p1.Width)] [2, 3, 10] [(2, (pt g9016)), (3, (pt g9020)), (10, (.bool (p0.Width == p1.Width)))] [.cell ⟨g9016, 0, none⟩ (iv p0.Width), .cell ⟨g9020, 0, none⟩ (iv p1.Width)] (fun fb => by kernel_rfl) rfl ⟨hS9022.cell 1 rfl 0 rfl, hS9022.cell 0 rfl 0 rfl, trivial⟩ ?_
 refine WL.cutV (T := Bool) 12 (fun t => [(16, (.bool t)), (2, (pt g9016)), (3, (pt g9020))]) (fun t => ((p0.Width == p1.Width) && (p0.Height == p1.Height)) = t) (fun K => ?_) ?_
 ·
  rcases Bool.eq_false_or_eq_true (p0.Width == p1.Width) with h9024 | h9024
  ·
   refine WL.setB 10 h9024 rfl ?_
   refine seg 12 [.v (iv p0.Height), .v (iv p1.Height)] [2, 3, 16] [(2, (pt g9016)), (3, (pt g9020)), (16, (.bool (p0.Height == p1.Height)))] [.cell ⟨g9016, 1, none⟩ (iv p0.Height), .cell ⟨g9020, 1, none⟩ (iv p1.Height)] (fun fb => by kernel_rfl) rfl ⟨hS9022.cell 1 rfl 1 rfl, hS9022.cell 0 rfl 1 rfl, trivial⟩ ?_
   exact WL.toV K (p0.Height == p1.Height) [16, 2, 3] rfl (by first | (rw [h9024]; done) | (rw [h9024]; rfl))
  refine WL.setB 10 h9024 rfl ?_
  refine seg 12 [] [2, 3, 16] [(2, (pt g9016)), (3, (pt g9020)), (16, (.bool false))] [] (fun fb => by kernel_rfl) rfl trivial ?_
  exact WL.toV K false [16, 2, 3] rfl (by first | (rw [h9024]; done) | (rw [h9024]; rfl))
 rintro b9025 rfl
 refine seg 13 [] [2, 3, 17] [(2, (pt g9016)), (3, (pt g9020)), (17, (.bool ((p0.Width == p1.Width) && (p0.Height == p1.Height))))] [] (fun fb => by kernel_rfl) rfl trivial ?_
 obtain ⟨x9076, hx9077, hf⟩ := bind_some hf
 refine WL.cutW (T := Bool) 19 (fun t => [(23, (.bool t))]) (fun t w1 => (St NoS w w1 [rowR encInt A_p0_Cells c_p0_Cells p0.Cells, rowR encInt A_p1_Cells c_p1_Cells p1.Cells] [] ∧ x9076 = t) ∧ CellsOK [] w1) (fun K => ?_) ?_
 ·
  rcases br_some hx9077 with ⟨h9078, hx9077⟩ | ⟨h9078, hx9077⟩
  ·
   refine WL.setB 17 h9078 rfl ?_
   refine seg 17 [.v (.slice A_p0_Cells p0.Cells.length c_p0_Cells), .v (.slice A_p1_Cells p1.Cells.length c_p1_Cells)] [17, 19, 21] [(17, (.bool true)), (19, (.slice A_p0_Cells p0.Cells.length c_p0_Cells)), (21, (.slice A_p1_Cells p1.Cells.length c_p1_Cells))] [.cell ⟨g9016, 2, none⟩ (.slice A_p0_Cells p0.Cells.length c_p0_Cells), .cell ⟨g9020, 2, none⟩ (.slice A_p1_Cells p1.Cells.length c_p1_Cells)] (fun fb => by kernel_rfl) rfl ⟨hS9022.cell 1 rfl 2 rfl, hS9022.cell 0 rfl 2 rfl, trivial⟩ ?_
   obtain ⟨t9079, ht9080, hx9077⟩ := bind_some hx9077
   refine WL.call (some 22) 47 #[(.slice A_p0_Cells p0.Cells.length c_p0_Cells), (.slice A_p1_Cells p1.Cells.length c_p1_Cells)] (fun fb => by kernel_rfl) (ref01_Same_calls _ p0.Cells p1.Cells A_p0_Cells c_p0_Cells A_p1_Cells c_p1_Cells t9079 _ (hS9022.rd 0) (hS9022.rd 1) ht9080) (fun v w9081 hR9082 => ?_)
   obtain ⟨rfl, hk_⟩ := hR9082
   have hS9083 := hS9022.keepN hk_
   refine ⟨trivial, ?_⟩
   refine seg 19 [] [23] [(23, (.bool t9079))] [] (fun fb => by kernel_rfl) rfl trivial ?_
   injection hx9077 with hx9077
   exact WL.to K t9079 [23] rfl ⟨⟨(hS9083.subR [0, 1]).sub [] (by decide), hx9077.symm⟩, trivial⟩
  refine WL.setB 17 h9078 rfl ?_
  refine seg 19 [] [23] [(23, (.bool false))] [] (fun fb => by kernel_rfl) rfl trivial ?_
  injection hx9077 with hx9077
  exact WL.to K false [23] rfl ⟨⟨(hS9022.subR [0, 1]).sub [] (by decide), hx9077.symm⟩, trivial⟩
 rintro y9084 w9086 ⟨⟨hS9087, hq9085⟩, hF9088⟩
 subst hq9085
 refine seg 20 [] [4] [(4, (.bool x9076))] [] (fun fb => by kernel_rfl) rfl trivial ?_
 refine WL.done rfl ?_
 refine WX.next ?_
 refine WC.ret ?_
 injection hf with hf
 subst hf
 exact WX.ret_ [] (.bool x9076) [] (fun fb => by kernel_rfl) trivial ⟨_, rfl, rfl, hS9087.keep⟩
end Gp
