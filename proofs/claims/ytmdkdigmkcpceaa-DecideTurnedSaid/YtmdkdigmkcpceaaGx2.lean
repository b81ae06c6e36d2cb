/- Walks: each function of the program computes its plain function. -/
import Derived.Test.YtmdkdigmkcpceaaGx1
set_option linter.unusedVariables false
set_option linter.unusedSimpArgs false
set_option maxHeartbeats 4000000
namespace Gp
open Go Gw Go.Proofs
theorem torus_rings_calls (k : Nat) (p0 : List Tile) (p1 : Int) (A_p0 : Option Addr) (c_p0 : Nat) (r : (List Row)) (w : World) (hR0 : RO NoS w (rowR enc_Tile A_p0 c_p0 p0)) (hf : torus_rings k p0 p1 = some r) :
  CallsR Try.prog 62 #[(.slice A_p0 p0.length c_p0), (iv p1)] w (fun v w' => ∃ (A1_ : Option Addr), ∃ (c1_ : Nat), ∃ (h1_ : Nat → HF), v = (.slice A1_ r.length c1_) ∧ St NoS w w' [] [rowO 88 encN_Row A1_ c1_ (tag h1_ r), poolO [nestO subN_Row h1_ r]]) := by
 have hS : St NoS w w [rowR enc_Tile A_p0 c_p0 p0] [] := St.init (ro_cons hR0 (ro_nil _ _))
 refine enter 27 Try.func62 rfl Try.ntmps62 rfl ?_
 unfold torus_rings at hf
 refine WC.seq ?_
 refine WC.region ?_
 refine seg 1 [] [0, 1] [(0, (.slice A_p0 p0.length c_p0)), (1, (iv p1))] [] (fun fb => by kernel_rfl) rfl trivial ?_
 refine WL.done rfl ?_
 refine WX.next ?_
 refine WC.seq ?_
 refine WC.region ?_
 refine seg 1 [] [0, 1, 5] [(0, (.slice A_p0 p0.length c_p0)), (1, (iv p1)), (5, (.slice none 0 0))] [] (fun fb => by kernel_rfl) rfl trivial ?_
 refine WL.done rfl ?_
 refine WX.next ?_
 refine WC.seq ?_
 refine WC.seq ?_
 refine WC.region ?_
 refine seg 2 [] [5, 8, 9] [(5, (.slice none 0 0)), (8, (.slice A_p0 p0.length c_p0)), (9, (iv p1))] [] (fun fb => by kernel_rfl) rfl trivial ?_
 obtain ⟨t6012, ht6013, hf⟩ := bind_some hf
 refine WL.call (some 10) 67 #[(.slice A_p0 p0.length c_p0), (iv p1)] (fun fb => by kernel_rfl) (rows_All_calls _ p0 p1 A_p0 c_p0 t6012 _ (hS.rd 0) ht6013) (fun v w6014 hR6015 => ?_)
 obtain ⟨A6017, c6018, H6019, rfl, hk_⟩ := hR6015
 have hS6016 : St NoS w w6014 [rowR enc_Tile A_p0 c_p0 p0] [rowO 88 encN_Row A6017 c6018 (tag H6019 t6012), poolO [nestO subN_Row H6019 t6012]] := hS.call hk_ [] [] (fun g hg => hg.elim) (by simp) (by decide)
 refine ⟨trivial, ?_⟩
 refine seg 5 [] [5, 10, 11, 12] [(5, (.slice none 0 0)), (10, (.slice A6017 t6012.length c6018)), (11, (iv (t6012.length : Int))), (12, (iv 0))] [] (fun fb => by kernel_rfl) rfl trivial ?_
 refine WL.done rfl ?_
 refine WX.next ?_
 have hS6121 : St NoS w w6014 [rowR enc_Tile A_p0 c_p0 p0] [rowO 88 encN_Row none 0 (tag h0 ([] : List Row)), rowO 88 encN_Row A6017 c6018 (tag H6019 t6012), poolO [nestO subN_Row H6019 t6012]] := hS6016.nilrow 88 encN_Row
 have hS6122 := hS6121.poolNil subN_Row h0
 have hS6123 : St NoS w w6014 [rowR enc_Tile A_p0 c_p0 p0] [poolO [nestO subN_Row h0 ([] : List Row), nestO subN_Row H6019 t6012], rowO 88 encN_Row none 0 (tag h0 ([] : List Row)), rowO 88 encN_Row A6017 c6018 (tag H6019 t6012)] := hS6122.poolMerge 0 3 rfl rfl [1, 2] (by decide) (by decide)
 obtain ⟨x6133, hx6134, hf⟩ := bind_some hf
 refine WC.cutN (T := (List Row) × (Option Addr) × Nat × (Nat → HF)) (fun t => [(5, (.slice t.2.1 t.1.length t.2.2.1))]) (fun t w1 => St NoS w w1 [rowR enc_Tile A_p0 c_p0 p0] [rowO 88 encN_Row t.2.1 t.2.2.1 (tag t.2.2.2 t.1), poolO [nestO subN_Row t.2.2.2 t.1]] ∧ x6133 = t.1) (fun Kx6133 => ?_) ?_
 ·
  refine WC.block ?_
  refine WC.loop (T := ((List Row) × Int) × (Option Addr) × Nat × (Nat → HF)) (fun t => [(5, (.slice t.2.1 t.1.1.length t.2.2.1)), (10, (.slice A6017 t6012.length c6018)), (11, (iv (t6012.length : Int))), (12, (iv t.1.2))]) (fun n t w1 => St NoS w w1 [rowR enc_Tile A_p0 c_p0 p0] [rowO 88 encN_Row t.2.1 t.2.2.1 (tag t.2.2.2 t.1.1), poolO [nestO subN_Row t.2.2.2 t.1.1, nestO subN_Row H6019 t6012], rowO 88 encN_Row A6017 c6018 (tag H6019 t6012)] ∧ torus_rings.l0 n t.1.1 t.1.2 t6012 = some x6133) k ((([] : List Row), 0), none, 0, h0) [5, 10, 11, 12] rfl ⟨(hS6123.subR [0]).sub [1, 0, 2] (by decide), hx6134⟩ ?_
  rintro k6135 ⟨⟨l6126, x6128⟩, A6124, c6125, H6127⟩ w6136 ⟨hS6137, hl6138⟩
  cases k6135 with
  | zero => rw [torus_rings.l0] at hl6138; cases hl6138
  | succ k6135 =>
   rw [torus_rings.l0] at hl6138
   refine WC.seq ?_
   refine WC.region ?_
   refine seg 1 [] [5, 10, 11, 12, 13] [(5, (.slice A6124 l6126.length c6125)), (10, (.slice A6017 t6012.length c6018)), (11, (iv (t6012.length : Int))), (12, (iv x6128)), (13, (.bool (decide (x6128 < (t6012.length : Int)))))] [] (fun fb => by kernel_rfl) rfl trivial ?_
   refine WL.done rfl ?_
   refine WX.next ?_
   refine WC.seq ?_
   rcases br_some hl6138 with ⟨h6139, hl6138⟩ | ⟨h6139, hl6138⟩
   ·refine WC.condT2 (fun fb => by kernel_rfl) h6139 ?_
    refine WC.skip ?_
    refine WX.next ?_
    refine WC.seq ?_
    refine WC.block ?_
    refine WC.seq ?_
    refine WC.region ?_
    obtain ⟨h6140, hl6138⟩ := as_some hl6138
    refine seg 2 [.v (.slice ((H6019 x6128.toNat 0).1) ((rdD t6012 x6128 z_Row).Cells).length ((H6019 x6128.toNat 0).2)), .v (iv (((rdD t6012 x6128 z_Row).South).e0)), .v (iv (((rdD t6012 x6128 z_Row).South).e1)), .v (iv (((rdD t6012 x6128 z_Row).South).e2)), .v (iv (((rdD t6012 x6128 z_Row).South).e3)), .v (iv (((rdD t6012 x6128 z_Row).South).e4)), .v (iv (((rdD t6012 x6128 z_Row).South).e5)), .v (iv (((rdD t6012 x6128 z_Row).South).e6)), .v (iv (((rdD t6012 x6128 z_Row).South).e7)), .v (iv (((rdD t6012 x6128 z_Row).North).e0)), .v (iv (((rdD t6012 x6128 z_Row).North).e1)), .v (iv (((rdD t6012 x6128 z_Row).North).e2)), .v (iv (((rdD t6012 x6128 z_Row).North).e3)), .v (iv (((rdD t6012 x6128 z_Row).North).e4)), .v (iv (((rdD t6012 x6128 z_Row).North).e5)), .v (iv (((rdD t6012 x6128 z_Row).North).e6)), .v (iv (((rdD t6012 x6128 z_Row).North).e7)), .v (iv ((rdD t6012 x6128 z_Row).West)), .v (iv ((rdD t6012 x6128 z_Row).East))] [5, 10, 11, 12, 15] [(5, (.slice A6124 l6126.length c6125)), (10, (.slice A6017 t6012.length c6018)), (11, (iv (t6012.length : Int))), (12, (iv x6128)), (15, (.agg #[(.slice ((H6019 x6128.toNat 0).1) ((rdD t6012 x6128 z_Row).Cells).length ((H6019 x6128.toNat 0).2)), (iv (((rdD t6012 x6128 z_Row).South).e0)), (iv (((rdD t6012 x6128 z_Row).South).e1)), (iv (((rdD t6012 x6128 z_Row).South).e2)), (iv (((rdD t6012 x6128 z_Row).South).e3)), (iv (((rdD t6012 x6128 z_Row).South).e4)), (iv (((rdD t6012 x6128 z_Row).South).e5)), (iv (((rdD t6012 x6128 z_Row).South).e6)), (iv (((rdD t6012 x6128 z_Row).South).e7)), (iv (((rdD t6012 x6128 z_Row).North).e0)), (iv (((rdD t6012 x6128 z_Row).North).e1)), (iv (((rdD t6012 x6128 z_Row).North).e2)), (iv (((rdD t6012 x6128 z_Row).North).e3)), (iv (((rdD t6012 x6128 z_Row).North).e4)), (iv (((rdD t6012 x6128 z_Row).North).e5)), (iv (((rdD t6012 x6128 z_Row).North).e6)), (iv (((rdD t6012 x6128 z_Row).North).e7)), (iv ((rdD t6012 x6128 z_Row).West)), (iv ((rdD t6012 x6128 z_Row).East))]))] [.idx A6017 x6128 t6012.length, .cell ((adr A6017).add ((x6128).toNat * 19)) (.slice ((H6019 x6128.toNat 0).1) ((rdD t6012 x6128 z_Row).Cells).length ((H6019 x6128.toNat 0).2)), .cell (((adr A6017).add ((x6128).toNat * 19)).add 1) (iv (((rdD t6012 x6128 z_Row).South).e0)), .cell (((adr A6017).add ((x6128).toNat * 19)).add 2) (iv (((rdD t6012 x6128 z_Row).South).e1)), .cell (((adr A6017).add ((x6128).toNat * 19)).add 3) (iv (((rdD t6012 x6128 z_Row).South).e2)), .cell (((adr A6017).add ((x6128).toNat * 19)).add 4) (iv (((rdD t6012 x6128 z_Row).South).e3)), .cell (((adr A6017).add ((x6128).toNat * 19)).add 5) (iv (((rdD t6012 x6128 z_Row).South).e4)), .cell (((adr A6017).add ((x6128).toNat * 19)).add 6) (iv (((rdD t6012 x6128 z_Row).South).e5)), .cell (((adr A6017).add ((x6128).toNat * 19)).add 7) (iv (((rdD t6012 x6128 z_Row).South).e6)), .cell (((adr A6017).add ((x6128).toNat * 19)).add 8) (iv (((rdD t6012 x6128 z_Row).South).e7)), .cell (((adr A6017).add ((x6128).toNat * 19)).add 9) (iv (((rdD t6012 x6128 z_Row).North).e0)), .cell (((adr A6017).add ((x6128).toNat * 19)).add 10) (iv (((rdD t6012 x6128 z_Row).North).e1)), .cell (((adr A6017).add ((x6128).toNat * 19)).add 11) (iv (((rdD t6012 x6128 z_Row).North).e2)), .cell (((adr A6017).add ((x6128).toNat * 19)).add 12) (iv (((rdD t6012 x6128 z_Row).North).e3)), .cell (((adr A6017).add ((x6128).toNat * 19)).add 13) (iv (((rdD t6012 x6128 z_Row).North).e4)), .cell (((adr A6017).add ((x6128).toNat * 19)).add 14) (iv (((rdD t6012 x6128 z_Row).North).e5)), .cell (((adr A6017).add ((x6128).toNat * 19)).add 15) (iv (((rdD t6012 x6128 z_Row).North).e6)), .cell (((adr A6017).add ((x6128).toNat * 19)).add 16) (iv (((rdD t6012 x6128 z_Row).North).e7)), .cell (((adr A6017).add ((x6128).toNat * 19)).add 17) (iv ((rdD t6012 x6128 z_Row).West)), .cell (((adr A6017).add ((x6128).toNat * 19)).add 18) (iv ((rdD t6012 x6128 z_Row).East))] (fun fb => by kernel_rfl) rfl ⟨nrow_adr (rowO.rd (hS6137.own 2).1) h6140.1 h6140.2, nrow_cell (rowO.rd (hS6137.own 2).1) z_Row h6140.1 h6140.2 0 rfl, nrow_cell (rowO.rd (hS6137.own 2).1) z_Row h6140.1 h6140.2 1 rfl, nrow_cell (rowO.rd (hS6137.own 2).1) z_Row h6140.1 h6140.2 2 rfl, nrow_cell (rowO.rd (hS6137.own 2).1) z_Row h6140.1 h6140.2 3 rfl, nrow_cell (rowO.rd (hS6137.own 2).1) z_Row h6140.1 h6140.2 4 rfl, nrow_cell (rowO.rd (hS6137.own 2).1) z_Row h6140.1 h6140.2 5 rfl, nrow_cell (rowO.rd (hS6137.own 2).1) z_Row h6140.1 h6140.2 6 rfl, nrow_cell (rowO.rd (hS6137.own 2).1) z_Row h6140.1 h6140.2 7 rfl, nrow_cell (rowO.rd (hS6137.own 2).1) z_Row h6140.1 h6140.2 8 rfl, nrow_cell (rowO.rd (hS6137.own 2).1) z_Row h6140.1 h6140.2 9 rfl, nrow_cell (rowO.rd (hS6137.own 2).1) z_Row h6140.1 h6140.2 10 rfl, nrow_cell (rowO.rd (hS6137.own 2).1) z_Row h6140.1 h6140.2 11 rfl, nrow_cell (rowO.rd (hS6137.own 2).1) z_Row h6140.1 h6140.2 12 rfl, nrow_cell (rowO.rd (hS6137.own 2).1) z_Row h6140.1 h6140.2 13 rfl, nrow_cell (rowO.rd (hS6137.own 2).1) z_Row h6140.1 h6140.2 14 rfl, nrow_cell (rowO.rd (hS6137.own 2).1) z_Row h6140.1 h6140.2 15 rfl, nrow_cell (rowO.rd (hS6137.own 2).1) z_Row h6140.1 h6140.2 16 rfl, nrow_cell (rowO.rd (hS6137.own 2).1) z_Row h6140.1 h6140.2 17 rfl, nrow_cell (rowO.rd (hS6137.own 2).1) z_Row h6140.1 h6140.2 18 rfl, trivial⟩ ?_
    refine WL.new hS6137 7 [] (fun g => (.pointer (some ⟨g, 0, none⟩))) (.cells #[(.slice none 0 0), (iv 0), (iv 0), (iv 0), (iv 0), (iv 0), (iv 0), (iv 0), (iv 0), (iv 0), (iv 0), (iv 0), (iv 0), (iv 0), (iv 0), (iv 0), (iv 0), (iv 0), (iv 0)] 88 (0, 0)) [] (fun fb g => by kernel_rfl) trivial (fun g6141 w6142 hS6143 => ?_)
    refine ⟨trivial, ?_⟩
    refine WL.store hS6143 0 rfl [(0, (.slice ((H6019 x6128.toNat 0).1) ((rdD t6012 x6128 z_Row).Cells).length ((H6019 x6128.toNat 0).2))), (1, (iv (((rdD t6012 x6128 z_Row).South).e0))), (2, (iv (((rdD t6012 x6128 z_Row).South).e1))), (3, (iv (((rdD t6012 x6128 z_Row).South).e2))), (4, (iv (((rdD t6012 x6128 z_Row).South).e3))), (5, (iv (((rdD t6012 x6128 z_Row).South).e4))), (6, (iv (((rdD t6012 x6128 z_Row).South).e5))), (7, (iv (((rdD t6012 x6128 z_Row).South).e6))), (8, (iv (((rdD t6012 x6128 z_Row).South).e7))), (9, (iv (((rdD t6012 x6128 z_Row).North).e0))), (10, (iv (((rdD t6012 x6128 z_Row).North).e1))), (11, (iv (((rdD t6012 x6128 z_Row).North).e2))), (12, (iv (((rdD t6012 x6128 z_Row).North).e3))), (13, (iv (((rdD t6012 x6128 z_Row).North).e4))), (14, (iv (((rdD t6012 x6128 z_Row).North).e5))), (15, (iv (((rdD t6012 x6128 z_Row).North).e6))), (16, (iv (((rdD t6012 x6128 z_Row).North).e7))), (17, (iv ((rdD t6012 x6128 z_Row).West))), (18, (iv ((rdD t6012 x6128 z_Row).East)))] #[(.slice ((H6019 x6128.toNat 0).1) ((rdD t6012 x6128 z_Row).Cells).length ((H6019 x6128.toNat 0).2)), (iv (((rdD t6012 x6128 z_Row).South).e0)), (iv (((rdD t6012 x6128 z_Row).South).e1)), (iv (((rdD t6012 x6128 z_Row).South).e2)), (iv (((rdD t6012 x6128 z_Row).South).e3)), (iv (((rdD t6012 x6128 z_Row).South).e4)), (iv (((rdD t6012 x6128 z_Row).South).e5)), (iv (((rdD t6012 x6128 z_Row).South).e6)), (iv (((rdD t6012 x6128 z_Row).South).e7)), (iv (((rdD t6012 x6128 z_Row).North).e0)), (iv (((rdD t6012 x6128 z_Row).North).e1)), (iv (((rdD t6012 x6128 z_Row).North).e2)), (iv (((rdD t6012 x6128 z_Row).North).e3)), (iv (((rdD t6012 x6128 z_Row).North).e4)), (iv (((rdD t6012 x6128 z_Row).North).e5)), (iv (((rdD t6012 x6128 z_Row).North).e6)), (iv (((rdD t6012 x6128 z_Row).North).e7)), (iv ((rdD t6012 x6128 z_Row).West)), (iv ((rdD t6012 x6128 z_Row).East))] (fun fb => by kernel_rfl) (by kernel_rfl) (by kernel_rfl) [1, 2, 3] (by decide) (by decide) (fun w6145 hS6146 => ?_)
    refine ⟨trivial, ?_⟩
    refine WL.done rfl ?_
    refine WX.next ?_
    refine WC.seq ?_
    refine WC.region ?_
    refine seg 5 [.v (iv ((rdD t6012 x6128 z_Row).West)), .v (iv ((rdD t6012 x6128 z_Row).East))] [5, 7, 10, 11, 12, 20] [(5, (.slice A6124 l6126.length c6125)), (7, (pt g6141)), (10, (.slice A6017 t6012.length c6018)), (11, (iv (t6012.length : Int))), (12, (iv x6128)), (20, (.bool (((rdD t6012 x6128 z_Row).West) == ((rdD t6012 x6128 z_Row).East))))] [.cell ⟨g6141, 17, none⟩ (iv ((rdD t6012 x6128 z_Row).West)), .cell ⟨g6141, 18, none⟩ (iv ((rdD t6012 x6128 z_Row).East))] (fun fb => by kernel_rfl) rfl ⟨hS6146.cell 0 rfl 17 rfl, hS6146.cell 0 rfl 18 rfl, trivial⟩ ?_
    refine WL.done rfl ?_
    refine WX.next ?_
    obtain ⟨x6163, hx6164, hl6138⟩ := bind_some hl6138
    refine WC.cutN (T := (List Row) × (Option Addr) × Nat × (Nat → HF)) (fun t => [(5, (.slice t.2.1 t.1.length t.2.2.1)), (10, (.slice A6017 t6012.length c6018)), (11, (iv (t6012.length : Int))), (12, (iv x6128))]) (fun t w1 => St NoS w w1 [rowR enc_Tile A_p0 c_p0 p0] [rowO 88 encN_Row t.2.1 t.2.2.1 (tag t.2.2.2 t.1), poolO [nestO subN_Row t.2.2.2 t.1, nestO subN_Row H6019 t6012], rowO 88 encN_Row A6017 c6018 (tag H6019 t6012)] ∧ x6163 = t.1) (fun Kx6163 => ?_) ?_
    ·
     rcases br_some hx6164 with ⟨h6165, hx6164⟩ | ⟨h6165, hx6164⟩
     ·refine WC.condT2 (fun fb => by kernel_rfl) h6165 ?_
      refine WC.region ?_
      refine seg 2 [.v (.slice ((H6019 x6128.toNat 0).1) ((rdD t6012 x6128 z_Row).Cells).length ((H6019 x6128.toNat 0).2)), .v (iv (((rdD t6012 x6128 z_Row).South).e0)), .v (iv (((rdD t6012 x6128 z_Row).South).e1)), .v (iv (((rdD t6012 x6128 z_Row).South).e2)), .v (iv (((rdD t6012 x6128 z_Row).South).e3)), .v (iv (((rdD t6012 x6128 z_Row).South).e4)), .v (iv (((rdD t6012 x6128 z_Row).South).e5)), .v (iv (((rdD t6012 x6128 z_Row).South).e6)), .v (iv (((rdD t6012 x6128 z_Row).South).e7)), .v (iv (((rdD t6012 x6128 z_Row).North).e0)), .v (iv (((rdD t6012 x6128 z_Row).North).e1)), .v (iv (((rdD t6012 x6128 z_Row).North).e2)), .v (iv (((rdD t6012 x6128 z_Row).North).e3)), .v (iv (((rdD t6012 x6128 z_Row).North).e4)), .v (iv (((rdD t6012 x6128 z_Row).North).e5)), .v (iv (((rdD t6012 x6128 z_Row).North).e6)), .v (iv (((rdD t6012 x6128 z_Row).North).e7)), .v (iv ((rdD t6012 x6128 z_Row).West)), .v (iv ((rdD t6012 x6128 z_Row).East))] [10, 11, 12, 21, 22] [(10, (.slice A6017 t6012.length c6018)), (11, (iv (t6012.length : Int))), (12, (iv x6128)), (21, (.slice A6124 l6126.length c6125)), (22, (.agg #[(.slice ((H6019 x6128.toNat 0).1) ((rdD t6012 x6128 z_Row).Cells).length ((H6019 x6128.toNat 0).2)), (iv (((rdD t6012 x6128 z_Row).South).e0)), (iv (((rdD t6012 x6128 z_Row).South).e1)), (iv (((rdD t6012 x6128 z_Row).South).e2)), (iv (((rdD t6012 x6128 z_Row).South).e3)), (iv (((rdD t6012 x6128 z_Row).South).e4)), (iv (((rdD t6012 x6128 z_Row).South).e5)), (iv (((rdD t6012 x6128 z_Row).South).e6)), (iv (((rdD t6012 x6128 z_Row).South).e7)), (iv (((rdD t6012 x6128 z_Row).North).e0)), (iv (((rdD t6012 x6128 z_Row).North).e1)), (iv (((rdD t6012 x6128 z_Row).North).e2)), (iv (((rdD t6012 x6128 z_Row).North).e3)), (iv (((rdD t6012 x6128 z_Row).North).e4)), (iv (((rdD t6012 x6128 z_Row).North).e5)), (iv (((rdD t6012 x6128 z_Row).North).e6)), (iv (((rdD t6012 x6128 z_Row).North).e7)), (iv ((rdD t6012 x6128 z_Row).West)), (iv ((rdD t6012 x6128 z_Row).East))]))] [.cell ⟨g6141, 0, none⟩ (.slice ((H6019 x6128.toNat 0).1) ((rdD t6012 x6128 z_Row).Cells).length ((H6019 x6128.toNat 0).2)), .cell ⟨g6141, 1, none⟩ (iv (((rdD t6012 x6128 z_Row).South).e0)), .cell ⟨g6141, 2, none⟩ (iv (((rdD t6012 x6128 z_Row).South).e1)), .cell ⟨g6141, 3, none⟩ (iv (((rdD t6012 x6128 z_Row).South).e2)), .cell ⟨g6141, 4, none⟩ (iv (((rdD t6012 x6128 z_Row).South).e3)), .cell ⟨g6141, 5, none⟩ (iv (((rdD t6012 x6128 z_Row).South).e4)), .cell ⟨g6141, 6, none⟩ (iv (((rdD t6012 x6128 z_Row).South).e5)), .cell ⟨g6141, 7, none⟩ (iv (((rdD t6012 x6128 z_Row).South).e6)), .cell ⟨g6141, 8, none⟩ (iv (((rdD t6012 x6128 z_Row).South).e7)), .cell ⟨g6141, 9, none⟩ (iv (((rdD t6012 x6128 z_Row).North).e0)), .cell ⟨g6141, 10, none⟩ (iv (((rdD t6012 x6128 z_Row).North).e1)), .cell ⟨g6141, 11, none⟩ (iv (((rdD t6012 x6128 z_Row).North).e2)), .cell ⟨g6141, 12, none⟩ (iv (((rdD t6012 x6128 z_Row).North).e3)), .cell ⟨g6141, 13, none⟩ (iv (((rdD t6012 x6128 z_Row).North).e4)), .cell ⟨g6141, 14, none⟩ (iv (((rdD t6012 x6128 z_Row).North).e5)), .cell ⟨g6141, 15, none⟩ (iv (((rdD t6012 x6128 z_Row).North).e6)), .cell ⟨g6141, 16, none⟩ (iv (((rdD t6012 x6128 z_Row).North).e7)), .cell ⟨g6141, 17, none⟩ (iv ((rdD t6012 x6128 z_Row).West)), .cell ⟨g6141, 18, none⟩ (iv ((rdD t6012 x6128 z_Row).East))] (fun fb => by kernel_rfl) rfl ⟨hS6146.cell 0 rfl 0 rfl, hS6146.cell 0 rfl 1 rfl, hS6146.cell 0 rfl 2 rfl, hS6146.cell 0 rfl 3 rfl, hS6146.cell 0 rfl 4 rfl, hS6146.cell 0 rfl 5 rfl, hS6146.cell 0 rfl 6 rfl, hS6146.cell 0 rfl 7 rfl, hS6146.cell 0 rfl 8 rfl, hS6146.cell 0 rfl 9 rfl, hS6146.cell 0 rfl 10 rfl, hS6146.cell 0 rfl 11 rfl, hS6146.cell 0 rfl 12 rfl, hS6146.cell 0 rfl 13 rfl, hS6146.cell 0 rfl 14 rfl, hS6146.cell 0 rfl 15 rfl, hS6146.cell 0 rfl 16 rfl, hS6146.cell 0 rfl 17 rfl, hS6146.cell 0 rfl 18 rfl, trivial⟩ ?_
      refine WL.new hS6146 23 [] (fun g => (.slice (some ⟨g, 0, none⟩) 1 1)) (.cells #[(.slice ((H6019 x6128.toNat 0).1) ((rdD t6012 x6128 z_Row).Cells).length ((H6019 x6128.toNat 0).2)), (iv (((rdD t6012 x6128 z_Row).South).e0)), (iv (((rdD t6012 x6128 z_Row).South).e1)), (iv (((rdD t6012 x6128 z_Row).South).e2)), (iv (((rdD t6012 x6128 z_Row).South).e3)), (iv (((rdD t6012 x6128 z_Row).South).e4)), (iv (((rdD t6012 x6128 z_Row).South).e5)), (iv (((rdD t6012 x6128 z_Row).South).e6)), (iv (((rdD t6012 x6128 z_Row).South).e7)), (iv (((rdD t6012 x6128 z_Row).North).e0)), (iv (((rdD t6012 x6128 z_Row).North).e1)), (iv (((rdD t6012 x6128 z_Row).North).e2)), (iv (((rdD t6012 x6128 z_Row).North).e3)), (iv (((rdD t6012 x6128 z_Row).North).e4)), (iv (((rdD t6012 x6128 z_Row).North).e5)), (iv (((rdD t6012 x6128 z_Row).North).e6)), (iv (((rdD t6012 x6128 z_Row).North).e7)), (iv ((rdD t6012 x6128 z_Row).West)), (iv ((rdD t6012 x6128 z_Row).East))] 88 (0, 0)) [] (fun fb g => by kernel_rfl) trivial (fun g6166 w6167 hS6168 => ?_)
      refine ⟨trivial, ?_⟩
      have hS6170 : St NoS w w6167 [rowR enc_Tile A_p0 c_p0 p0] [rowO 88 encN_Row (some ⟨g6166, 0, none⟩) 1 [((hd1 ((H6019 x6128.toNat 0).1) ((H6019 x6128.toNat 0).2)), (rdD t6012 x6128 z_Row))], blk g6141 (.cells #[(.slice ((H6019 x6128.toNat 0).1) ((rdD t6012 x6128 z_Row).Cells).length ((H6019 x6128.toNat 0).2)), (iv (((rdD t6012 x6128 z_Row).South).e0)), (iv (((rdD t6012 x6128 z_Row).South).e1)), (iv (((rdD t6012 x6128 z_Row).South).e2)), (iv (((rdD t6012 x6128 z_Row).South).e3)), (iv (((rdD t6012 x6128 z_Row).South).e4)), (iv (((rdD t6012 x6128 z_Row).South).e5)), (iv (((rdD t6012 x6128 z_Row).South).e6)), (iv (((rdD t6012 x6128 z_Row).South).e7)), (iv (((rdD t6012 x6128 z_Row).North).e0)), (iv (((rdD t6012 x6128 z_Row).North).e1)), (iv (((rdD t6012 x6128 z_Row).North).e2)), (iv (((rdD t6012 x6128 z_Row).North).e3)), (iv (((rdD t6012 x6128 z_Row).North).e4)), (iv (((rdD t6012 x6128 z_Row).North).e5)), (iv (((rdD t6012 x6128 z_Row).North).e6)), (iv (((rdD t6012 x6128 z_Row).North).e7)), (iv ((rdD t6012 x6128 z_Row).West)), (iv ((rdD t6012 x6128 z_Row).East))] 88 (0, 0)), rowO 88 encN_Row A6124 c6125 (tag H6127 l6126), poolO [nestO subN_Row H6127 l6126, nestO subN_Row H6019 t6012], rowO 88 encN_Row A6017 c6018 (tag H6019 t6012)] := hS6168.map1 0 _ (fun h => rowO.ofBlk h rfl (Nat.le_of_ble_eq_true (by kernel_rfl))) (fun _ h => by obtain ⟨_, h1, h2⟩ := h; injection h1 with h1; subst h1; exact h2) [1, 2, 3, 4] (by decide) (by decide)
      obtain ⟨h6171, hx6164⟩ := as_some hx6164
      refine WL.appendN hS6170 2 (d := 24) (tS := 82) (z := (.agg #[(.slice none 0 0), (iv 0), (iv 0), (iv 0), (iv 0), (iv 0), (iv 0), (iv 0), (iv 0), (iv 0), (iv 0), (iv 0), (iv 0), (iv 0), (iv 0), (iv 0), (iv 0), (iv 0), (iv 0)])) (bytes := 168) (c2 := 1) (hx := (hd1 ((H6019 x6128.toNat 0).1) ((H6019 x6128.toNat 0).2))) (x := (rdD t6012 x6128 z_Row)) rfl (fun fb => by kernel_rfl) (rowO.rd (hS6170.own 0).1) (by kernel_rfl) (by kernel_rfl) rfl (by decide) h6171 (by decide) [0, 1, 3, 4] (by decide) (by decide) (fun A6172 c6173 w6174 hS6175 => ?_)
      have hS6176 : St NoS w w6174 [rowR enc_Tile A_p0 c_p0 p0] [poolO [nestO subN_Row (updH H6127 l6126.length (hd1 ((H6019 x6128.toNat 0).1) ((H6019 x6128.toNat 0).2))) (l6126 ++ [(rdD t6012 x6128 z_Row)]), nestO subN_Row H6019 t6012], rowO 88 encN_Row A6172 c6173 (tag (updH H6127 l6126.length (hd1 ((H6019 x6128.toNat 0).1) ((H6019 x6128.toNat 0).2))) (l6126 ++ [(rdD t6012 x6128 z_Row)])), rowO 88 encN_Row (some ⟨g6166, 0, none⟩) 1 [((hd1 ((H6019 x6128.toNat 0).1) ((H6019 x6128.toNat 0).2)), (rdD t6012 x6128 z_Row))], blk g6141 (.cells #[(.slice ((H6019 x6128.toNat 0).1) ((rdD t6012 x6128 z_Row).Cells).length ((H6019 x6128.toNat 0).2)), (iv (((rdD t6012 x6128 z_Row).South).e0)), (iv (((rdD t6012 x6128 z_Row).South).e1)), (iv (((rdD t6012 x6128 z_Row).South).e2)), (iv (((rdD t6012 x6128 z_Row).South).e3)), (iv (((rdD t6012 x6128 z_Row).South).e4)), (iv (((rdD t6012 x6128 z_Row).South).e5)), (iv (((rdD t6012 x6128 z_Row).South).e6)), (iv (((rdD t6012 x6128 z_Row).South).e7)), (iv (((rdD t6012 x6128 z_Row).North).e0)), (iv (((rdD t6012 x6128 z_Row).North).e1)), (iv (((rdD t6012 x6128 z_Row).North).e2)), (iv (((rdD t6012 x6128 z_Row).North).e3)), (iv (((rdD t6012 x6128 z_Row).North).e4)), (iv (((rdD t6012 x6128 z_Row).North).e5)), (iv (((rdD t6012 x6128 z_Row).North).e6)), (iv (((rdD t6012 x6128 z_Row).North).e7)), (iv ((rdD t6012 x6128 z_Row).West)), (iv ((rdD t6012 x6128 z_Row).East))] 88 (0, 0)), rowO 88 encN_Row A6017 c6018 (tag H6019 t6012)] := hS6175.poolPush 3 rfl 0 (by simp) rfl (hd1 ((H6019 x6128.toNat 0).1) ((H6019 x6128.toNat 0).2)) (rdD t6012 x6128 z_Row) (nestO.ro (poolO.ro (hS6175.ow 3) 1) z_Row h6140.1 h6140.2) [] (fun g hg => ⟨3, by simp, ⟨1, ⟨_, _, rdD_at (d := z_Row) h6140.1 h6140.2, hg⟩⟩⟩) _ rfl [0, 1, 2, 4] (by decide) (by decide)
      refine ⟨trivial, ?_⟩
      refine seg 5 [] [5, 10, 11, 12] [(5, (.slice A6172 (l6126 ++ [(rdD t6012 x6128 z_Row)]).length c6173)), (10, (.slice A6017 t6012.length c6018)), (11, (iv (t6012.length : Int))), (12, (iv x6128))] [] (fun fb => by kernel_rfl) rfl trivial ?_
      refine WL.done rfl ?_
      injection hx6164 with hx6164
      exact WX.to Kx6163 (l6126 ++ [(rdD t6012 x6128 z_Row)], A6172, c6173, (updH H6127 l6126.length (hd1 ((H6019 x6128.toNat 0).1) ((H6019 x6128.toNat 0).2)))) [5, 10, 11, 12] rfl ⟨(hS6176.subR [0]).sub [1, 0, 4] (by decide), hx6164.symm⟩
     refine WC.condF2 (fun fb => by kernel_rfl) h6165 ?_
     refine WC.skip ?_
     injection hx6164 with hx6164
     exact WX.to Kx6163 (l6126, A6124, c6125, H6127) [5, 10, 11, 12] rfl ⟨(hS6146.subR [0]).sub [1, 2, 3] (by decide), hx6164.symm⟩
    rintro ⟨y6180, A6159, c6160, H6162⟩ w6177 ⟨hS6178, hq6179⟩
    subst hq6179
    refine WX.blockN (WX.next ?_)
    refine WC.region ?_
    refine seg 2 [] [5, 10, 11, 12] [(5, (.slice A6159 x6163.length c6160)), (10, (.slice A6017 t6012.length c6018)), (11, (iv (t6012.length : Int))), (12, (iv (w64 (x6128 + 1))))] [] (fun fb => by kernel_rfl) rfl trivial ?_
    refine WL.done rfl ?_
    exact WX.again k6135 (Nat.lt_succ_self _) ((x6163, w64 (x6128 + 1)), A6159, c6160, H6162) [5, 10, 11, 12] rfl ⟨(hS6178.subR [0]).sub [0, 1, 2] (by decide), hl6138⟩
   refine WC.condF2 (fun fb => by kernel_rfl) h6139 ?_
   refine WC.exit ?_
   have hS6181 : St NoS w w6136 [rowR enc_Tile A_p0 c_p0 p0] [poolO [nestO subN_Row H6127 l6126], rowO 88 encN_Row A6124 c6125 (tag H6127 l6126), rowO 88 encN_Row A6017 c6018 (tag H6019 t6012)] := hS6137.poolSub 1 rfl [0] [0, 2] (by decide) (by decide)
   injection hl6138 with hl6138
   exact WX.thenX (WX.thenX (WX.blockHere (WX.to Kx6133 (l6126, A6124, c6125, H6127) [5] rfl ⟨(hS6181.subR [0]).sub [1, 0] (by decide), hl6138.symm⟩)))
 rintro ⟨y6185, A6129, c6130, H6132⟩ w6182 ⟨hS6183, hq6184⟩
 subst hq6184
 refine WX.next ?_
 refine WC.seq ?_
 refine WC.region ?_
 refine seg 2 [] [4] [(4, (.slice A6129 x6133.length c6130))] [] (fun fb => by kernel_rfl) rfl trivial ?_
 refine WL.done rfl ?_
 refine WX.next ?_
 refine WC.ret ?_
 injection hf with hf
 subst hf
 exact WX.ret_ [] (.slice A6129 x6133.length c6130) [] (fun fb => by kernel_rfl) trivial ⟨_, rfl, A6129, c6130, H6132, rfl, (hS6183.sub [0, 1] (by decide)).noR⟩
theorem torus_back_key86 : KeyK Try.prog 86 (aggI ints_A8_Int) := KeyK.array (n := 8) (by kernel_rfl) ints_A8_Int (fun _ => rfl) (fun x y h => by cases x; cases y; simp only [ints_A8_Int, List.cons.injEq, and_true] at h; obtain ⟨rfl, rfl, rfl, rfl, rfl, rfl, rfl, rfl⟩ := h; rfl)
theorem torus_back_calls (k : Nat) (p0 : List Row) (p1 : A8_Int) (p2 : Int) (A_p0 : Option Addr) (c_p0 : Nat) (H_p0 : Nat → HF) (r : (List (Option (List (A8_Int × Bool))))) (w : World) (hR0 : RO NoS w (rowR encN_Row A_p0 c_p0 (tag H_p0 p0))) (hR1 : RO NoS w (nestO subN_Row H_p0 p0)) (hf : torus_back k p0 p1 p2 = some r) :
  CallsR Try.prog 63 #[(.slice A_p0 p0.length c_p0), (.agg #[(iv p1.e0), (iv p1.e1), (iv p1.e2), (iv p1.e3), (iv p1.e4), (iv p1.e5), (iv p1.e6), (iv p1.e7)]), (iv p2)] w (fun v w' => ∃ (A1_ : Option Addr), ∃ (c1_ : Nat), ∃ (m1_ : Nat → Nat), v = (.slice A1_ r.length c1_) ∧ St NoS w w' [] [rowO 81 (encMap A8_Int Bool) A1_ c1_ (tag m1_ r), mapsO (aggI ints_A8_Int) vB m1_ r]) := by
 have hS : St NoS w w [rowR encN_Row A_p0 c_p0 (tag H_p0 p0), nestO subN_Row H_p0 p0] [] := St.init (ro_cons hR0 (ro_cons hR1 (ro_nil _ _)))
 refine enter 46 Try.func63 rfl Try.ntmps63 rfl ?_
 unfold torus_back at hf
 refine WC.seq ?_
 refine WC.region ?_
 refine WL.new hS 4 [] (fun g => (.pointer (some ⟨g, 0, none⟩))) (.cells #[(iv p1.e0), (iv p1.e1), (iv p1.e2), (iv p1.e3), (iv p1.e4), (iv p1.e5), (iv p1.e6), (iv p1.e7)] 86 (0, 0)) [] (fun fb g => by kernel_rfl) trivial (fun g6215 w6216 hS6217 => ?_)
 refine ⟨trivial, ?_⟩
 refine seg 2 [] [0, 2, 4] [(0, (.slice A_p0 p0.length c_p0)), (2, (iv p2)), (4, (pt g6215))] [] (fun fb => by kernel_rfl) rfl trivial ?_
 refine WL.done rfl ?_
 refine WX.next ?_
 refine WC.seq ?_
 refine WC.region ?_
 refine WL.new hS6217 12 [] (fun g => (.map (some g))) (mapObj (aggI ints_A8_Int) vB ([] : List (A8_Int × Bool))) [] (fun fb g => by kernel_rfl) trivial (fun g6219 w6220 hS6221 => ?_)
 refine ⟨trivial, ?_⟩
 refine seg 2 [.v (iv p1.e0), .v (iv p1.e1), .v (iv p1.e2), .v (iv p1.e3), .v (iv p1.e4), .v (iv p1.e5), .v (iv p1.e6), .v (iv p1.e7)] [0, 2, 12, 13] [(0, (.slice A_p0 p0.length c_p0)), (2, (iv p2)), (12, (.map (some g6219))), (13, (.agg #[(iv p1.e0), (iv p1.e1), (iv p1.e2), (iv p1.e3), (iv p1.e4), (iv p1.e5), (iv p1.e6), (iv p1.e7)]))] [.cell ⟨g6215, 0, none⟩ (iv p1.e0), .cell ⟨g6215, 1, none⟩ (iv p1.e1), .cell ⟨g6215, 2, none⟩ (iv p1.e2), .cell ⟨g6215, 3, none⟩ (iv p1.e3), .cell ⟨g6215, 4, none⟩ (iv p1.e4), .cell ⟨g6215, 5, none⟩ (iv p1.e5), .cell ⟨g6215, 6, none⟩ (iv p1.e6), .cell ⟨g6215, 7, none⟩ (iv p1.e7)] (fun fb => by kernel_rfl) rfl ⟨hS6221.cell 1 rfl 0 rfl, hS6221.cell 1 rfl 1 rfl, hS6221.cell 1 rfl 2 rfl, hS6221.cell 1 rfl 3 rfl, hS6221.cell 1 rfl 4 rfl, hS6221.cell 1 rfl 5 rfl, hS6221.cell 1 rfl 6 rfl, hS6221.cell 1 rfl 7 rfl, trivial⟩ ?_
 refine WL.mapput hS6221 0 (t := 81) (kT := 86) (eT := 4) (kE := (aggI ints_A8_Int)) (vE := vB) (l := ([] : List (A8_Int × Bool))) rfl p1 true (fun fb => by kernel_rfl) torus_back_key86 (by kernel_rfl) [1] (by decide) (by decide) (fun w6222 hS6223 => ?_)
 refine ⟨trivial, ?_⟩
 refine seg 4 [] [0, 2, 14] [(0, (.slice A_p0 p0.length c_p0)), (2, (iv p2)), (14, (.map (some g6219)))] [] (fun fb => by kernel_rfl) rfl trivial ?_
 refine WL.new hS6223 15 [] (fun g => (.slice (some ⟨g, 0, none⟩) 1 1)) (.cells #[(.map (some g6219))] 81 (0, 0)) [] (fun fb g => by kernel_rfl) trivial (fun g6224 w6225 hS6226 => ?_)
 refine ⟨trivial, ?_⟩
 have hS6228 : St NoS w w6225 [rowR encN_Row A_p0 c_p0 (tag H_p0 p0), nestO subN_Row H_p0 p0] [rowO 81 (encMap A8_Int Bool) (some ⟨g6224, 0, none⟩) 1 (tag (fun _ => g6219) [some (mput p1 true ([] : List (A8_Int × Bool)))]), blk g6219 (mapObj (aggI ints_A8_Int) vB (mput p1 true ([] : List (A8_Int × Bool)))), blk g6215 (.cells #[(iv p1.e0), (iv p1.e1), (iv p1.e2), (iv p1.e3), (iv p1.e4), (iv p1.e5), (iv p1.e6), (iv p1.e7)] 86 (0, 0))] := hS6226.map1 0 _ (fun h => rowO.ofBlk h rfl (Nat.le_of_ble_eq_true (by kernel_rfl))) (fun _ h => by obtain ⟨_, h1, h2⟩ := h; injection h1 with h1; subst h1; exact h2) [1, 2] (by decide) (by decide)
 have hS6229 : St NoS w w6225 [rowR encN_Row A_p0 c_p0 (tag H_p0 p0), nestO subN_Row H_p0 p0] [mapsO (aggI ints_A8_Int) vB (fun _ => g6219) [some (mput p1 true ([] : List (A8_Int × Bool)))], rowO 81 (encMap A8_Int Bool) (some ⟨g6224, 0, none⟩) 1 (tag (fun _ => g6219) [some (mput p1 true ([] : List (A8_Int × Bool)))]), blk g6215 (.cells #[(iv p1.e0), (iv p1.e1), (iv p1.e2), (iv p1.e3), (iv p1.e4), (iv p1.e5), (iv p1.e6), (iv p1.e7)] 86 (0, 0))] := hS6228.mapsOne 1 rfl [0, 2] (by decide) (by decide)
 refine seg 6 [] [0, 2, 7] [(0, (.slice A_p0 p0.length c_p0)), (2, (iv p2)), (7, (.slice (some ⟨g6224, 0, none⟩) [some (mput p1 true ([] : List (A8_Int × Bool)))].length 1))] [] (fun fb => by kernel_rfl) rfl trivial ?_
 refine WL.done rfl ?_
 refine WX.next ?_
 refine WC.seq ?_
 refine WC.seq ?_
 refine WC.region ?_
 refine seg 2 [] [0, 7, 16, 17] [(0, (.slice A_p0 p0.length c_p0)), (7, (.slice (some ⟨g6224, 0, none⟩) [some (mput p1 true ([] : List (A8_Int × Bool)))].length 1)), (16, (iv p2)), (17, (iv 0))] [] (fun fb => by kernel_rfl) rfl trivial ?_
 refine WL.done rfl ?_
 refine WX.next ?_
 obtain ⟨x6438, hx6439, hf⟩ := bind_some hf
 refine WC.cutN (T := (List (Option (List (A8_Int × Bool)))) × (Option Addr) × Nat × (Nat → Nat)) (fun t => [(7, (.slice t.2.1 t.1.length t.2.2.1))]) (fun t w1 => St NoS w w1 [rowR encN_Row A_p0 c_p0 (tag H_p0 p0), nestO subN_Row H_p0 p0] [rowO 81 (encMap A8_Int Bool) t.2.1 t.2.2.1 (tag t.2.2.2 t.1), mapsO (aggI ints_A8_Int) vB t.2.2.2 t.1] ∧ x6438 = t.1) (fun Kx6438 => ?_) ?_
 ·
  refine WC.block ?_
  refine WC.loop (T := ((List (Option (List (A8_Int × Bool)))) × Int) × (Option Addr) × Nat × (Nat → Nat)) (fun t => [(0, (.slice A_p0 p0.length c_p0)), (7, (.slice t.2.1 t.1.1.length t.2.2.1)), (16, (iv p2)), (17, (iv t.1.2))]) (fun n t w1 => St NoS w w1 [rowR encN_Row A_p0 c_p0 (tag H_p0 p0), nestO subN_Row H_p0 p0] [rowO 81 (encMap A8_Int Bool) t.2.1 t.2.2.1 (tag t.2.2.2 t.1.1), mapsO (aggI ints_A8_Int) vB t.2.2.2 t.1.1] ∧ torus_back.l0 n t.1.1 t.1.2 p0 p2 = some x6438) k (([some (mput p1 true ([] : List (A8_Int × Bool)))], 0), (some ⟨g6224, 0, none⟩), 1, (fun _ => g6219)) [0, 7, 16, 17] rfl ⟨(hS6229.subR [0, 1]).sub [1, 0] (by decide), hx6439⟩ ?_
  rintro k6440 ⟨⟨l6431, x6433⟩, A6429, c6430, H6432⟩ w6441 ⟨hS6442, hl6443⟩
  cases k6440 with
  | zero => rw [torus_back.l0] at hl6443; cases hl6443
  | succ k6440 =>
   rw [torus_back.l0] at hl6443
   refine WC.seq ?_
   refine WC.region ?_
   refine seg 1 [] [0, 7, 16, 17, 18] [(0, (.slice A_p0 p0.length c_p0)), (7, (.slice A6429 l6431.length c6430)), (16, (iv p2)), (17, (iv x6433)), (18, (.bool (decide (x6433 < p2))))] [] (fun fb => by kernel_rfl) rfl trivial ?_
   refine WL.done rfl ?_
   refine WX.next ?_
   refine WC.seq ?_
   rcases br_some hl6443 with ⟨h6444, hl6443⟩ | ⟨h6444, hl6443⟩
   ·refine WC.condT2 (fun fb => by kernel_rfl) h6444 ?_
    refine WC.skip ?_
    refine WX.next ?_
    refine WC.seq ?_
    refine WC.block ?_
    refine WC.seq ?_
    refine WC.region ?_
    refine seg 4 [] [0, 7, 16, 17, 19, 22] [(0, (.slice A_p0 p0.length c_p0)), (7, (.slice A6429 l6431.length c6430)), (16, (iv p2)), (17, (iv x6433)), (19, (.slice A6429 l6431.length c6430)), (22, (iv (w64 ((l6431.length : Int) - 1))))] [] (fun fb => by kernel_rfl) rfl trivial ?_
    obtain ⟨h6445, hl6443⟩ := as_some hl6443
    refine seg 5 [] [0, 7, 16, 17, 23] [(0, (.slice A_p0 p0.length c_p0)), (7, (.slice A6429 l6431.length c6430)), (16, (iv p2)), (17, (iv x6433)), (23, (.pointer (some ((adr A6429).add ((w64 ((l6431.length : Int) - 1)).toNat * 1)))))] [.idx A6429 (w64 ((l6431.length : Int) - 1)) l6431.length] (fun fb => by kernel_rfl) rfl ⟨nrow_adr (rowO.rd (hS6442.own 0).1) h6445.1 h6445.2, trivial⟩ ?_
    obtain ⟨m6446, hm6447, hl6443⟩ := bind_some hl6443
    refine seg 6 [.v (.map (some (H6432 (w64 ((l6431.length : Int) - 1)).toNat)))] [0, 7, 16, 17, 24] [(0, (.slice A_p0 p0.length c_p0)), (7, (.slice A6429 l6431.length c6430)), (16, (iv p2)), (17, (iv x6433)), (24, (.map (some (H6432 (w64 ((l6431.length : Int) - 1)).toNat))))] [.cell ((adr A6429).add ((w64 ((l6431.length : Int) - 1)).toNat * 1)) (.map (some (H6432 (w64 ((l6431.length : Int) - 1)).toNat)))] (fun fb => by kernel_rfl) rfl ⟨nrow_cell (rowO.rd (hS6442.own 0).1) none h6445.1 h6445.2 0 (mapV_some hm6447), trivial⟩ ?_
    refine WL.new hS6442 25 [] (fun g => (.map (some g))) (mapObj (aggI ints_A8_Int) vB ([] : List (A8_Int × Bool))) [] (fun fb g => by kernel_rfl) trivial (fun g6448 w6449 hS6450 => ?_)
    refine ⟨trivial, ?_⟩
    refine seg 9 [] [0, 7, 8, 9, 16, 17] [(0, (.slice A_p0 p0.length c_p0)), (7, (.slice A6429 l6431.length c6430)), (8, (.map (some (H6432 (w64 ((l6431.length : Int) - 1)).toNat)))), (9, (.map (some g6448))), (16, (iv p2)), (17, (iv x6433))] [] (fun fb => by kernel_rfl) rfl trivial ?_
    refine WL.done rfl ?_
    refine WX.next ?_
    refine WC.seq ?_
    refine WC.seq ?_
    refine WC.region ?_
    refine seg 3 [] [0, 7, 8, 9, 16, 17, 26, 27, 28] [(0, (.slice A_p0 p0.length c_p0)), (7, (.slice A6429 l6431.length c6430)), (8, (.map (some (H6432 (w64 ((l6431.length : Int) - 1)).toNat)))), (9, (.map (some g6448))), (16, (iv p2)), (17, (iv x6433)), (26, (.slice A_p0 p0.length c_p0)), (27, (iv (p0.length : Int))), (28, (iv 0))] [] (fun fb => by kernel_rfl) rfl trivial ?_
    refine WL.done rfl ?_
    refine WX.next ?_
    obtain ⟨x6498, hx6499, hl6443⟩ := bind_some hl6443
    refine WC.cutN (T := (List (A8_Int × Bool))) (fun t => [(0, (.slice A_p0 p0.length c_p0)), (7, (.slice A6429 l6431.length c6430)), (9, (.map (some g6448))), (16, (iv p2)), (17, (iv x6433))]) (fun t w1 => St NoS w w1 [rowR encN_Row A_p0 c_p0 (tag H_p0 p0), nestO subN_Row H_p0 p0] [rowO 81 (encMap A8_Int Bool) A6429 c6430 (tag H6432 l6431), mapsO (aggI ints_A8_Int) vB H6432 l6431, blk g6448 (mapObj (aggI ints_A8_Int) vB t)] ∧ x6498 = t) (fun Kx6498 => ?_) ?_
    ·
     refine WC.block ?_
     refine WC.loop (T := (List (A8_Int × Bool)) × Int) (fun t => [(0, (.slice A_p0 p0.length c_p0)), (7, (.slice A6429 l6431.length c6430)), (8, (.map (some (H6432 (w64 ((l6431.length : Int) - 1)).toNat)))), (9, (.map (some g6448))), (16, (iv p2)), (17, (iv x6433)), (26, (.slice A_p0 p0.length c_p0)), (27, (iv (p0.length : Int))), (28, (iv t.2))]) (fun n t w1 => St NoS w w1 [rowR encN_Row A_p0 c_p0 (tag H_p0 p0), nestO subN_Row H_p0 p0] [rowO 81 (encMap A8_Int Bool) A6429 c6430 (tag H6432 l6431), mapsO (aggI ints_A8_Int) vB H6432 l6431, blk g6448 (mapObj (aggI ints_A8_Int) vB t.1)] ∧ torus_back.l1 n t.1 t.2 p0 m6446 = some x6498) k6440 (([] : List (A8_Int × Bool)), 0) [0, 7, 8, 9, 16, 17, 26, 27, 28] rfl ⟨(hS6450.subR [0, 1]).sub [1, 2, 0] (by decide), hx6499⟩ ?_
     rintro k6500 ⟨l6495, x6496⟩ w6501 ⟨hS6502, hl6503⟩
     cases k6500 with
     | zero => rw [torus_back.l1] at hl6503; cases hl6503
     | succ k6500 =>
      rw [torus_back.l1] at hl6503
      refine WC.seq ?_
      refine WC.region ?_
      refine seg 1 [] [0, 7, 8, 9, 16, 17, 26, 27, 28, 29] [(0, (.slice A_p0 p0.length c_p0)), (7, (.slice A6429 l6431.length c6430)), (8, (.map (some (H6432 (w64 ((l6431.length : Int) - 1)).toNat)))), (9, (.map (some g6448))), (16, (iv p2)), (17, (iv x6433)), (26, (.slice A_p0 p0.length c_p0)), (27, (iv (p0.length : Int))), (28, (iv x6496)), (29, (.bool (decide (x6496 < (p0.length : Int)))))] [] (fun fb => by kernel_rfl) rfl trivial ?_
      refine WL.done rfl ?_
      refine WX.next ?_
      refine WC.seq ?_
      rcases br_some hl6503 with ⟨h6504, hl6503⟩ | ⟨h6504, hl6503⟩
      ·refine WC.condT2 (fun fb => by kernel_rfl) h6504 ?_
       refine WC.skip ?_
       refine WX.next ?_
       refine WC.seq ?_
       refine WC.block ?_
       refine WC.seq ?_
       refine WC.region ?_
       obtain ⟨h6505, hl6503⟩ := as_some hl6503
       refine seg 2 [.v (.slice ((H_p0 x6496.toNat 0).1) ((rdD p0 x6496 z_Row).Cells).length ((H_p0 x6496.toNat 0).2)), .v (iv (((rdD p0 x6496 z_Row).South).e0)), .v (iv (((rdD p0 x6496 z_Row).South).e1)), .v (iv (((rdD p0 x6496 z_Row).South).e2)), .v (iv (((rdD p0 x6496 z_Row).South).e3)), .v (iv (((rdD p0 x6496 z_Row).South).e4)), .v (iv (((rdD p0 x6496 z_Row).South).e5)), .v (iv (((rdD p0 x6496 z_Row).South).e6)), .v (iv (((rdD p0 x6496 z_Row).South).e7)), .v (iv (((rdD p0 x6496 z_Row).North).e0)), .v (iv (((rdD p0 x6496 z_Row).North).e1)), .v (iv (((rdD p0 x6496 z_Row).North).e2)), .v (iv (((rdD p0 x6496 z_Row).North).e3)), .v (iv (((rdD p0 x6496 z_Row).North).e4)), .v (iv (((rdD p0 x6496 z_Row).North).e5)), .v (iv (((rdD p0 x6496 z_Row).North).e6)), .v (iv (((rdD p0 x6496 z_Row).North).e7)), .v (iv ((rdD p0 x6496 z_Row).West)), .v (iv ((rdD p0 x6496 z_Row).East))] [0, 7, 8, 9, 16, 17, 26, 27, 28, 31] [(0, (.slice A_p0 p0.length c_p0)), (7, (.slice A6429 l6431.length c6430)), (8, (.map (some (H6432 (w64 ((l6431.length : Int) - 1)).toNat)))), (9, (.map (some g6448))), (16, (iv p2)), (17, (iv x6433)), (26, (.slice A_p0 p0.length c_p0)), (27, (iv (p0.length : Int))), (28, (iv x6496)), (31, (.agg #[(.slice ((H_p0 x6496.toNat 0).1) ((rdD p0 x6496 z_Row).Cells).length ((H_p0 x6496.toNat 0).2)), (iv (((rdD p0 x6496 z_Row).South).e0)), (iv (((rdD p0 x6496 z_Row).South).e1)), (iv (((rdD p0 x6496 z_Row).South).e2)), (iv (((rdD p0 x6496 z_Row).South).e3)), (iv (((rdD p0 x6496 z_Row).South).e4)), (iv (((rdD p0 x6496 z_Row).South).e5)), (iv (((rdD p0 x6496 z_Row).South).e6)), (iv (((rdD p0 x6496 z_Row).South).e7)), (iv (((rdD p0 x6496 z_Row).North).e0)), (iv (((rdD p0 x6496 z_Row).North).e1)), (iv (((rdD p0 x6496 z_Row).North).e2)), (iv (((rdD p0 x6496 z_Row).North).e3)), (iv (((rdD p0 x6496 z_Row).North).e4)), (iv (((rdD p0 x6496 z_Row).North).e5)), (iv (((rdD p0 x6496 z_Row).North).e6)), (iv (((rdD p0 x6496 z_Row).North).e7)), (iv ((rdD p0 x6496 z_Row).West)), (iv ((rdD p0 x6496 z_Row).East))]))] [.idx A_p0 x6496 p0.length, .cell ((adr A_p0).add ((x6496).toNat * 19)) (.slice ((H_p0 x6496.toNat 0).1) ((rdD p0 x6496 z_Row).Cells).length ((H_p0 x6496.toNat 0).2)), .cell (((adr A_p0).add ((x6496).toNat * 19)).add 1) (iv (((rdD p0 x6496 z_Row).South).e0)), .cell (((adr A_p0).add ((x6496).toNat * 19)).add 2) (iv (((rdD p0 x6496 z_Row).South).e1)), .cell (((adr A_p0).add ((x6496).toNat * 19)).add 3) (iv (((rdD p0 x6496 z_Row).South).e2)), .cell (((adr A_p0).add ((x6496).toNat * 19)).add 4) (iv (((rdD p0 x6496 z_Row).South).e3)), .cell (((adr A_p0).add ((x6496).toNat * 19)).add 5) (iv (((rdD p0 x6496 z_Row).South).e4)), .cell (((adr A_p0).add ((x6496).toNat * 19)).add 6) (iv (((rdD p0 x6496 z_Row).South).e5)), .cell (((adr A_p0).add ((x6496).toNat * 19)).add 7) (iv (((rdD p0 x6496 z_Row).South).e6)), .cell (((adr A_p0).add ((x6496).toNat * 19)).add 8) (iv (((rdD p0 x6496 z_Row).South).e7)), .cell (((adr A_p0).add ((x6496).toNat * 19)).add 9) (iv (((rdD p0 x6496 z_Row).North).e0)), .cell (((adr A_p0).add ((x6496).toNat * 19)).add 10) (iv (((rdD p0 x6496 z_Row).North).e1)), .cell (((adr A_p0).add ((x6496).toNat * 19)).add 11) (iv (((rdD p0 x6496 z_Row).North).e2)), .cell (((adr A_p0).add ((x6496).toNat * 19)).add 12) (iv (((rdD p0 x6496 z_Row).North).e3)), .cell (((adr A_p0).add ((x6496).toNat * 19)).add 13) (iv (((rdD p0 x6496 z_Row).North).e4)), .cell (((adr A_p0).add ((x6496).toNat * 19)).add 14) (iv (((rdD p0 x6496 z_Row).North).e5)), .cell (((adr A_p0).add ((x6496).toNat * 19)).add 15) (iv (((rdD p0 x6496 z_Row).North).e6)), .cell (((adr A_p0).add ((x6496).toNat * 19)).add 16) (iv (((rdD p0 x6496 z_Row).North).e7)), .cell (((adr A_p0).add ((x6496).toNat * 19)).add 17) (iv ((rdD p0 x6496 z_Row).West)), .cell (((adr A_p0).add ((x6496).toNat * 19)).add 18) (iv ((rdD p0 x6496 z_Row).East))] (fun fb => by kernel_rfl) rfl ⟨nrow_adr (hS6502.rd 0).1 h6505.1 h6505.2, nrow_cell (hS6502.rd 0).1 z_Row h6505.1 h6505.2 0 rfl, nrow_cell (hS6502.rd 0).1 z_Row h6505.1 h6505.2 1 rfl, nrow_cell (hS6502.rd 0).1 z_Row h6505.1 h6505.2 2 rfl, nrow_cell (hS6502.rd 0).1 z_Row h6505.1 h6505.2 3 rfl, nrow_cell (hS6502.rd 0).1 z_Row h6505.1 h6505.2 4 rfl, nrow_cell (hS6502.rd 0).1 z_Row h6505.1 h6505.2 5 rfl, nrow_cell (hS6502.rd 0).1 z_Row h6505.1 h6505.2 6 rfl, nrow_cell (hS6502.rd 0).1 z_Row h6505.1 h6505.2 7 rfl, nrow_cell (hS6502.rd 0).1 z_Row h6505.1 h6505.2 8 rfl, nrow_cell (hS6502.rd 0).1 z_Row h6505.1 h6505.2 9 rfl, nrow_cell (hS6502.rd 0).1 z_Row h6505.1 h6505.2 10 rfl, nrow_cell (hS6502.rd 0).1 z_Row h6505.1 h6505.2 11 rfl, nrow_cell (hS6502.rd 0).1 z_Row h6505.1 h6505.2 12 rfl, nrow_cell (hS6502.rd 0).1 z_Row h6505.1 h6505.2 13 rfl, nrow_cell (hS6502.rd 0).1 z_Row h6505.1 h6505.2 14 rfl, nrow_cell (hS6502.rd 0).1 z_Row h6505.1 h6505.2 15 rfl, nrow_cell (hS6502.rd 0).1 z_Row h6505.1 h6505.2 16 rfl, nrow_cell (hS6502.rd 0).1 z_Row h6505.1 h6505.2 17 rfl, nrow_cell (hS6502.rd 0).1 z_Row h6505.1 h6505.2 18 rfl, trivial⟩ ?_
       refine WL.new hS6502 11 [] (fun g => (.pointer (some ⟨g, 0, none⟩))) (.cells #[(.slice none 0 0), (iv 0), (iv 0), (iv 0), (iv 0), (iv 0), (iv 0), (iv 0), (iv 0), (iv 0), (iv 0), (iv 0), (iv 0), (iv 0), (iv 0), (iv 0), (iv 0), (iv 0), (iv 0)] 88 (0, 0)) [] (fun fb g => by kernel_rfl) trivial (fun g6506 w6507 hS6508 => ?_)
       refine ⟨trivial, ?_⟩
       refine WL.store hS6508 0 rfl [(0, (.slice ((H_p0 x6496.toNat 0).1) ((rdD p0 x6496 z_Row).Cells).length ((H_p0 x6496.toNat 0).2))), (1, (iv (((rdD p0 x6496 z_Row).South).e0))), (2, (iv (((rdD p0 x6496 z_Row).South).e1))), (3, (iv (((rdD p0 x6496 z_Row).South).e2))), (4, (iv (((rdD p0 x6496 z_Row).South).e3))), (5, (iv (((rdD p0 x6496 z_Row).South).e4))), (6, (iv (((rdD p0 x6496 z_Row).South).e5))), (7, (iv (((rdD p0 x6496 z_Row).South).e6))), (8, (iv (((rdD p0 x6496 z_Row).South).e7))), (9, (iv (((rdD p0 x6496 z_Row).North).e0))), (10, (iv (((rdD p0 x6496 z_Row).North).e1))), (11, (iv (((rdD p0 x6496 z_Row).North).e2))), (12, (iv (((rdD p0 x6496 z_Row).North).e3))), (13, (iv (((rdD p0 x6496 z_Row).North).e4))), (14, (iv (((rdD p0 x6496 z_Row).North).e5))), (15, (iv (((rdD p0 x6496 z_Row).North).e6))), (16, (iv (((rdD p0 x6496 z_Row).North).e7))), (17, (iv ((rdD p0 x6496 z_Row).West))), (18, (iv ((rdD p0 x6496 z_Row).East)))] #[(.slice ((H_p0 x6496.toNat 0).1) ((rdD p0 x6496 z_Row).Cells).length ((H_p0 x6496.toNat 0).2)), (iv (((rdD p0 x6496 z_Row).South).e0)), (iv (((rdD p0 x6496 z_Row).South).e1)), (iv (((rdD p0 x6496 z_Row).South).e2)), (iv (((rdD p0 x6496 z_Row).South).e3)), (iv (((rdD p0 x6496 z_Row).South).e4)), (iv (((rdD p0 x6496 z_Row).South).e5)), (iv (((rdD p0 x6496 z_Row).South).e6)), (iv (((rdD p0 x6496 z_Row).South).e7)), (iv (((rdD p0 x6496 z_Row).North).e0)), (iv (((rdD p0 x6496 z_Row).North).e1)), (iv (((rdD p0 x6496 z_Row).North).e2)), (iv (((rdD p0 x6496 z_Row).North).e3)), (iv (((rdD p0 x6496 z_Row).North).e4)), (iv (((rdD p0 x6496 z_Row).North).e5)), (iv (((rdD p0 x6496 z_Row).North).e6)), (iv (((rdD p0 x6496 z_Row).North).e7)), (iv ((rdD p0 x6496 z_Row).West)), (iv ((rdD p0 x6496 z_Row).East))] (fun fb => by kernel_rfl) (by kernel_rfl) (by kernel_rfl) [1, 2, 3] (by decide) (by decide) (fun w6510 hS6511 => ?_)
       refine ⟨trivial, ?_⟩
       refine WL.done rfl ?_
       refine WX.next ?_
       refine WC.seq ?_
       refine WC.region ?_
       refine seg 3 [.v (iv (((rdD p0 x6496 z_Row).North).e0)), .v (iv (((rdD p0 x6496 z_Row).North).e1)), .v (iv (((rdD p0 x6496 z_Row).North).e2)), .v (iv (((rdD p0 x6496 z_Row).North).e3)), .v (iv (((rdD p0 x6496 z_Row).North).e4)), .v (iv (((rdD p0 x6496 z_Row).North).e5)), .v (iv (((rdD p0 x6496 z_Row).North).e6)), .v (iv (((rdD p0 x6496 z_Row).North).e7))] [0, 7, 8, 9, 11, 16, 17, 26, 27, 28, 32, 34] [(0, (.slice A_p0 p0.length c_p0)), (7, (.slice A6429 l6431.length c6430)), (8, (.map (some (H6432 (w64 ((l6431.length : Int) - 1)).toNat)))), (9, (.map (some g6448))), (11, (pt g6506)), (16, (iv p2)), (17, (iv x6433)), (26, (.slice A_p0 p0.length c_p0)), (27, (iv (p0.length : Int))), (28, (iv x6496)), (32, (.map (some (H6432 (w64 ((l6431.length : Int) - 1)).toNat)))), (34, (.agg #[(iv (((rdD p0 x6496 z_Row).North).e0)), (iv (((rdD p0 x6496 z_Row).North).e1)), (iv (((rdD p0 x6496 z_Row).North).e2)), (iv (((rdD p0 x6496 z_Row).North).e3)), (iv (((rdD p0 x6496 z_Row).North).e4)), (iv (((rdD p0 x6496 z_Row).North).e5)), (iv (((rdD p0 x6496 z_Row).North).e6)), (iv (((rdD p0 x6496 z_Row).North).e7))]))] [.cell ⟨g6506, 9, none⟩ (iv (((rdD p0 x6496 z_Row).North).e0)), .cell ⟨g6506, 10, none⟩ (iv (((rdD p0 x6496 z_Row).North).e1)), .cell ⟨g6506, 11, none⟩ (iv (((rdD p0 x6496 z_Row).North).e2)), .cell ⟨g6506, 12, none⟩ (iv (((rdD p0 x6496 z_Row).North).e3)), .cell ⟨g6506, 13, none⟩ (iv (((rdD p0 x6496 z_Row).North).e4)), .cell ⟨g6506, 14, none⟩ (iv (((rdD p0 x6496 z_Row).North).e5)), .cell ⟨g6506, 15, none⟩ (iv (((rdD p0 x6496 z_Row).North).e6)), .cell ⟨g6506, 16, none⟩ (iv (((rdD p0 x6496 z_Row).North).e7))] (fun fb => by kernel_rfl) rfl ⟨hS6511.cell 0 rfl 9 rfl, hS6511.cell 0 rfl 10 rfl, hS6511.cell 0 rfl 11 rfl, hS6511.cell 0 rfl 12 rfl, hS6511.cell 0 rfl 13 rfl, hS6511.cell 0 rfl 14 rfl, hS6511.cell 0 rfl 15 rfl, hS6511.cell 0 rfl 16 rfl, trivial⟩ ?_
       refine WL.lookup (mapsO.at (hS6511.own 2).1 h6445.1 h6445.2 hm6447) ((rdD p0 x6496 z_Row).North) (d := 35) (c := false) (t := 81) (kT := 86) (eT := 4) (z := false) (kE := (aggI ints_A8_Int)) (vE := vB) (l := m6446) (.bool (mget ((rdD p0 x6496 z_Row).North) false m6446)) (fun fb => by kernel_rfl) torus_back_key86 (by kernel_rfl) (fun _ => by kernel_rfl) rfl ?_
       refine ⟨trivial, ?_⟩
       refine WL.done rfl ?_
       refine WX.next ?_
       obtain ⟨x6516, hx6517, hl6503⟩ := bind_some hl6503
       refine WC.cutN (T := (List (A8_Int × Bool))) (fun t => [(0, (.slice A_p0 p0.length c_p0)), (7, (.slice A6429 l6431.length c6430)), (8, (.map (some (H6432 (w64 ((l6431.length : Int) - 1)).toNat)))), (9, (.map (some g6448))), (16, (iv p2)), (17, (iv x6433)), (26, (.slice A_p0 p0.length c_p0)), (27, (iv (p0.length : Int))), (28, (iv x6496))]) (fun t w1 => St NoS w w1 [rowR encN_Row A_p0 c_p0 (tag H_p0 p0), nestO subN_Row H_p0 p0] [rowO 81 (encMap A8_Int Bool) A6429 c6430 (tag H6432 l6431), mapsO (aggI ints_A8_Int) vB H6432 l6431, blk g6448 (mapObj (aggI ints_A8_Int) vB t)] ∧ x6516 = t) (fun Kx6516 => ?_) ?_
       ·
        rcases br_some hx6517 with ⟨h6518, hx6517⟩ | ⟨h6518, hx6517⟩
        ·refine WC.condT2 (fun fb => by kernel_rfl) h6518 ?_
         refine WC.region ?_
         refine seg 3 [.v (iv (((rdD p0 x6496 z_Row).South).e0)), .v (iv (((rdD p0 x6496 z_Row).South).e1)), .v (iv (((rdD p0 x6496 z_Row).South).e2)), .v (iv (((rdD p0 x6496 z_Row).South).e3)), .v (iv (((rdD p0 x6496 z_Row).South).e4)), .v (iv (((rdD p0 x6496 z_Row).South).e5)), .v (iv (((rdD p0 x6496 z_Row).South).e6)), .v (iv (((rdD p0 x6496 z_Row).South).e7))] [0, 7, 8, 9, 16, 17, 26, 27, 28, 36, 38] [(0, (.slice A_p0 p0.length c_p0)), (7, (.slice A6429 l6431.length c6430)), (8, (.map (some (H6432 (w64 ((l6431.length : Int) - 1)).toNat)))), (9, (.map (some g6448))), (16, (iv p2)), (17, (iv x6433)), (26, (.slice A_p0 p0.length c_p0)), (27, (iv (p0.length : Int))), (28, (iv x6496)), (36, (.map (some g6448))), (38, (.agg #[(iv (((rdD p0 x6496 z_Row).South).e0)), (iv (((rdD p0 x6496 z_Row).South).e1)), (iv (((rdD p0 x6496 z_Row).South).e2)), (iv (((rdD p0 x6496 z_Row).South).e3)), (iv (((rdD p0 x6496 z_Row).South).e4)), (iv (((rdD p0 x6496 z_Row).South).e5)), (iv (((rdD p0 x6496 z_Row).South).e6)), (iv (((rdD p0 x6496 z_Row).South).e7))]))] [.cell ⟨g6506, 1, none⟩ (iv (((rdD p0 x6496 z_Row).South).e0)), .cell ⟨g6506, 2, none⟩ (iv (((rdD p0 x6496 z_Row).South).e1)), .cell ⟨g6506, 3, none⟩ (iv (((rdD p0 x6496 z_Row).South).e2)), .cell ⟨g6506, 4, none⟩ (iv (((rdD p0 x6496 z_Row).South).e3)), .cell ⟨g6506, 5, none⟩ (iv (((rdD p0 x6496 z_Row).South).e4)), .cell ⟨g6506, 6, none⟩ (iv (((rdD p0 x6496 z_Row).South).e5)), .cell ⟨g6506, 7, none⟩ (iv (((rdD p0 x6496 z_Row).South).e6)), .cell ⟨g6506, 8, none⟩ (iv (((rdD p0 x6496 z_Row).South).e7))] (fun fb => by kernel_rfl) rfl ⟨hS6511.cell 0 rfl 1 rfl, hS6511.cell 0 rfl 2 rfl, hS6511.cell 0 rfl 3 rfl, hS6511.cell 0 rfl 4 rfl, hS6511.cell 0 rfl 5 rfl, hS6511.cell 0 rfl 6 rfl, hS6511.cell 0 rfl 7 rfl, hS6511.cell 0 rfl 8 rfl, trivial⟩ ?_
         refine WL.mapput hS6511 3 (t := 81) (kT := 86) (eT := 4) (kE := (aggI ints_A8_Int)) (vE := vB) (l := l6495) rfl ((rdD p0 x6496 z_Row).South) true (fun fb => by kernel_rfl) torus_back_key86 (by kernel_rfl) [0, 1, 2] (by decide) (by decide) (fun w6519 hS6520 => ?_)
         refine ⟨trivial, ?_⟩
         refine WL.done rfl ?_
         injection hx6517 with hx6517
         exact WX.to Kx6516 (mput ((rdD p0 x6496 z_Row).South) true l6495) [0, 7, 8, 9, 16, 17, 26, 27, 28] rfl ⟨(hS6520.subR [0, 1]).sub [2, 3, 0] (by decide), hx6517.symm⟩
        refine WC.condF2 (fun fb => by kernel_rfl) h6518 ?_
        refine WC.skip ?_
        injection hx6517 with hx6517
        exact WX.to Kx6516 l6495 [0, 7, 8, 9, 16, 17, 26, 27, 28] rfl ⟨(hS6511.subR [0, 1]).sub [1, 2, 3] (by decide), hx6517.symm⟩
       rintro y6524 w6521 ⟨hS6522, hq6523⟩
       subst hq6523
       refine WX.blockN (WX.next ?_)
       refine WC.region ?_
       refine seg 2 [] [0, 7, 8, 9, 16, 17, 26, 27, 28] [(0, (.slice A_p0 p0.length c_p0)), (7, (.slice A6429 l6431.length c6430)), (8, (.map (some (H6432 (w64 ((l6431.length : Int) - 1)).toNat)))), (9, (.map (some g6448))), (16, (iv p2)), (17, (iv x6433)), (26, (.slice A_p0 p0.length c_p0)), (27, (iv (p0.length : Int))), (28, (iv (w64 (x6496 + 1))))] [] (fun fb => by kernel_rfl) rfl trivial ?_
       refine WL.done rfl ?_
       exact WX.again k6500 (Nat.lt_succ_self _) (x6516, w64 (x6496 + 1)) [0, 7, 8, 9, 16, 17, 26, 27, 28] rfl ⟨(hS6522.subR [0, 1]).sub [0, 1, 2] (by decide), hl6503⟩
      refine WC.condF2 (fun fb => by kernel_rfl) h6504 ?_
      refine WC.exit ?_
      injection hl6503 with hl6503
      exact WX.thenX (WX.thenX (WX.blockHere (WX.to Kx6498 l6495 [0, 7, 9, 16, 17] rfl ⟨(hS6502.subR [0, 1]).sub [0, 1, 2] (by decide), hl6503.symm⟩)))
    rintro y6528 w6525 ⟨hS6526, hq6527⟩
    subst hq6527
    refine WX.next ?_
    refine WC.region ?_
    refine seg 2 [] [0, 16, 17, 40, 41] [(0, (.slice A_p0 p0.length c_p0)), (16, (iv p2)), (17, (iv x6433)), (40, (.slice A6429 l6431.length c6430)), (41, (.map (some g6448)))] [] (fun fb => by kernel_rfl) rfl trivial ?_
    refine WL.new hS6526 42 [] (fun g => (.slice (some ⟨g, 0, none⟩) 1 1)) (.cells #[(.map (some g6448))] 81 (0, 0)) [] (fun fb g => by kernel_rfl) trivial (fun g6529 w6530 hS6531 => ?_)
    refine ⟨trivial, ?_⟩
    have hS6533 : St NoS w w6530 [rowR encN_Row A_p0 c_p0 (tag H_p0 p0), nestO subN_Row H_p0 p0] [rowO 81 (encMap A8_Int Bool) (some ⟨g6529, 0, none⟩) 1 (tag (fun _ => g6448) [some x6498]), rowO 81 (encMap A8_Int Bool) A6429 c6430 (tag H6432 l6431), mapsO (aggI ints_A8_Int) vB H6432 l6431, blk g6448 (mapObj (aggI ints_A8_Int) vB x6498)] := hS6531.map1 0 _ (fun h => rowO.ofBlk h rfl (Nat.le_of_ble_eq_true (by kernel_rfl))) (fun _ h => by obtain ⟨_, h1, h2⟩ := h; injection h1 with h1; subst h1; exact h2) [1, 2, 3] (by decide) (by decide)
    have hS6534 : St NoS w w6530 [rowR encN_Row A_p0 c_p0 (tag H_p0 p0), nestO subN_Row H_p0 p0] [mapsO (aggI ints_A8_Int) vB (fun _ => g6448) [some x6498], rowO 81 (encMap A8_Int Bool) (some ⟨g6529, 0, none⟩) 1 (tag (fun _ => g6448) [some x6498]), rowO 81 (encMap A8_Int Bool) A6429 c6430 (tag H6432 l6431), mapsO (aggI ints_A8_Int) vB H6432 l6431] := hS6533.mapsOne 3 rfl [0, 1, 2] (by decide) (by decide)
    obtain ⟨h6535, hl6443⟩ := as_some hl6443
    refine WL.appendN hS6534 2 (d := 43) (tS := 80) (z := (.map none)) (bytes := 8) (c2 := 1) (hx := g6448) (x := (some x6498)) rfl (fun fb => by kernel_rfl) (rowO.rd (hS6534.own 1).1) (by kernel_rfl) (by kernel_rfl) rfl (by decide) h6535 (by decide) [0, 1, 3] (by decide) (by decide) (fun A6536 c6537 w6538 hS6539 => ?_)
    have hS6540 : St NoS w w6538 [rowR encN_Row A_p0 c_p0 (tag H_p0 p0), nestO subN_Row H_p0 p0] [mapsO (aggI ints_A8_Int) vB (updH H6432 l6431.length g6448) (l6431 ++ [some x6498]), rowO 81 (encMap A8_Int Bool) A6536 c6537 (tag (updH H6432 l6431.length g6448) (l6431 ++ [some x6498])), rowO 81 (encMap A8_Int Bool) (some ⟨g6529, 0, none⟩) 1 (tag (fun _ => g6448) [some x6498])] := hS6539.mapsPush 3 1 rfl rfl (by decide) [0, 2] (by decide) (by decide)
    refine ⟨trivial, ?_⟩
    refine seg 5 [] [0, 7, 16, 17] [(0, (.slice A_p0 p0.length c_p0)), (7, (.slice A6536 (l6431 ++ [some x6498]).length c6537)), (16, (iv p2)), (17, (iv x6433))] [] (fun fb => by kernel_rfl) rfl trivial ?_
    refine WL.done rfl ?_
    refine WX.blockN (WX.next ?_)
    refine WC.region ?_
    refine seg 2 [] [0, 7, 16, 17] [(0, (.slice A_p0 p0.length c_p0)), (7, (.slice A6536 (l6431 ++ [some x6498]).length c6537)), (16, (iv p2)), (17, (iv (w64 (x6433 + 1))))] [] (fun fb => by kernel_rfl) rfl trivial ?_
    refine WL.done rfl ?_
    exact WX.again k6440 (Nat.lt_succ_self _) ((l6431 ++ [some x6498], w64 (x6433 + 1)), A6536, c6537, (updH H6432 l6431.length g6448)) [0, 7, 16, 17] rfl ⟨(hS6540.subR [0, 1]).sub [1, 0] (by decide), hl6443⟩
   refine WC.condF2 (fun fb => by kernel_rfl) h6444 ?_
   refine WC.exit ?_
   injection hl6443 with hl6443
   exact WX.thenX (WX.thenX (WX.blockHere (WX.to Kx6438 (l6431, A6429, c6430, H6432) [7] rfl ⟨(hS6442.subR [0, 1]).sub [0, 1] (by decide), hl6443.symm⟩)))
 rintro ⟨y6544, A6434, c6435, H6437⟩ w6541 ⟨hS6542, hq6543⟩
 subst hq6543
 refine WX.next ?_
 refine WC.seq ?_
 refine WC.region ?_
 refine seg 2 [] [6] [(6, (.slice A6434 x6438.length c6435))] [] (fun fb => by kernel_rfl) rfl trivial ?_
 refine WL.done rfl ?_
 refine WX.next ?_
 refine WC.ret ?_
 injection hf with hf
 subst hf
 exact WX.ret_ [] (.slice A6434 x6438.length c6435) [] (fun fb => by kernel_rfl) trivial ⟨_, rfl, A6434, c6435, H6437, rfl, (hS6542.sub [0, 1] (by decide)).noR⟩
theorem torus_find_key86 : KeyK Try.prog 86 (aggI ints_A8_Int) := KeyK.array (n := 8) (by kernel_rfl) ints_A8_Int (fun _ => rfl) (fun x y h => by cases x; cases y; simp only [ints_A8_Int, List.cons.injEq, and_true] at h; obtain ⟨rfl, rfl, rfl, rfl, rfl, rfl, rfl, rfl⟩ := h; rfl)
theorem torus_find_calls (k : Nat) (p0 : List Tile) (p1 : Int) (p2 : Int) (A_p0 : Option Addr) (c_p0 : Nat) (r : Pattern × Bool) (w : World) (hR0 : RO NoS w (rowR enc_Tile A_p0 c_p0 p0)) (hf : torus_find k p0 p1 p2 = some r) :
  CallsR Try.prog 46 #[(.slice A_p0 p0.length c_p0), (iv p1), (iv p2)] w (fun v w' => ∃ (A1_ : Option Addr), ∃ (c1_ : Nat), v = (.tuple #[(.agg #[(iv r.1.Width), (iv r.1.Height), (.slice A1_ r.1.Cells.length c1_)]), (.bool r.2)]) ∧ St NoS w w' [] [rowO 3 encInt A1_ c1_ r.1.Cells]) := by
 have hS : St NoS w w [rowR enc_Tile A_p0 c_p0 p0] [] := St.init (ro_cons hR0 (ro_nil _ _))
 refine enter 105 Try.func46 rfl Try.ntmps46 rfl ?_
 unfold torus_find at hf
 refine WC.seq ?_
 refine WC.region ?_
 refine WL.new hS 6 [] (fun g => (.pointer (some ⟨g, 0, none⟩))) (.cells #[(iv 0), (iv 0), (.slice none 0 0)] 38 (0, 0)) [] (fun fb g => by kernel_rfl) trivial (fun g6008 w6009 hS6010 => ?_)
 refine ⟨trivial, ?_⟩
 refine seg 2 [] [0, 1, 2, 6] [(0, (.slice A_p0 p0.length c_p0)), (1, (iv p1)), (2, (iv p2)), (6, (pt g6008))] [] (fun fb => by kernel_rfl) rfl trivial ?_
 refine WL.done rfl ?_
 refine WX.next ?_
 refine WC.scope ?_
 refine WC.seq ?_
 refine WC.region ?_
 refine seg 2 [] [1, 2, 6, 19, 20] [(1, (iv p1)), (2, (iv p2)), (6, (pt g6008)), (19, (.slice A_p0 p0.length c_p0)), (20, (iv p1))] [] (fun fb => by kernel_rfl) rfl trivial ?_
 obtain ⟨t6186, ht6187, hf⟩ := bind_some hf
 refine WL.call (some 21) 62 #[(.slice A_p0 p0.length c_p0), (iv p1)] (fun fb => by kernel_rfl) (torus_rings_calls _ p0 p1 A_p0 c_p0 t6186 _ (hS6010.rd 0) ht6187) (fun v w6188 hR6189 => ?_)
 obtain ⟨A6191, c6192, H6193, rfl, hk_⟩ := hR6189
 have hS6190 : St NoS w w6188 [rowR enc_Tile A_p0 c_p0 p0] [rowO 88 encN_Row A6191 c6192 (tag H6193 t6186), poolO [nestO subN_Row H6193 t6186], blk g6008 (.cells #[(iv 0), (iv 0), (.slice none 0 0)] 38 (0, 0))] := hS6010.call hk_ [] [0] (fun g hg => hg.elim) (by simp) (by decide)
 refine ⟨trivial, ?_⟩
 refine seg 4 [] [1, 2, 6, 8] [(1, (iv p1)), (2, (iv p2)), (6, (pt g6008)), (8, (.slice A6191 t6186.length c6192))] [] (fun fb => by kernel_rfl) rfl trivial ?_
 refine WL.done rfl ?_
 refine WX.next ?_
 refine WC.seq ?_
 refine WC.region ?_
 refine WL.new hS6190 22 [] (fun g => (.map (some g))) (mapObj (aggI ints_A8_Int) slV ([] : List (A8_Int × (HM × List (Option (List (A8_Int × Bool))))))) [] (fun fb g => by kernel_rfl) trivial (fun g6194 w6195 hS6196 => ?_)
 have hS6197 : St NoS w w6195 [knestO (aggI ints_A8_Int) vB ([] : List (A8_Int × (HM × List (Option (List (A8_Int × Bool)))))) ([] : List (A8_Int × List (Option (List (A8_Int × Bool))))), rowR enc_Tile A_p0 c_p0 p0] [blk g6194 (mapObj (aggI ints_A8_Int) slV ([] : List (A8_Int × (HM × List (Option (List (A8_Int × Bool))))))), rowO 88 encN_Row A6191 c6192 (tag H6193 t6186), poolO [nestO subN_Row H6193 t6186], blk g6008 (.cells #[(iv 0), (iv 0), (.slice none 0 0)] 38 (0, 0))] := hS6196.addR _ (knestO_nil _ _ _ _)
 refine ⟨trivial, ?_⟩
 refine seg 2 [] [1, 2, 6, 8, 9] [(1, (iv p1)), (2, (iv p2)), (6, (pt g6008)), (8, (.slice A6191 t6186.length c6192)), (9, (.map (some g6194)))] [] (fun fb => by kernel_rfl) rfl trivial ?_
 refine WL.done rfl ?_
 refine WX.next ?_
 refine WC.seq ?_
 refine WC.region ?_
 refine seg 3 [] [2, 6, 8, 9, 25] [(2, (iv p2)), (6, (pt g6008)), (8, (.slice A6191 t6186.length c6192)), (9, (.map (some g6194))), (25, (.agg #[(iv p1), (iv p2), (.slice none 0 0)]))] [] (fun fb => by kernel_rfl) rfl trivial ?_
 refine WL.new hS6197 10 [] (fun g => (.pointer (some ⟨g, 0, none⟩))) (.cells #[(iv 0), (iv 0), (.slice none 0 0)] 38 (0, 0)) [] (fun fb g => by kernel_rfl) trivial (fun g6198 w6199 hS6200 => ?_)
 refine ⟨trivial, ?_⟩
 refine WL.store hS6200 0 rfl [(0, (iv p1)), (1, (iv p2)), (2, (.slice none 0 0))] #[(iv p1), (iv p2), (.slice none 0 0)] (fun fb => by kernel_rfl) (by kernel_rfl) rfl [1, 2, 3, 4] (by decide) (by decide) (fun w6202 hS6203 => ?_)
 refine ⟨trivial, ?_⟩
 refine WL.done rfl ?_
 refine WX.next ?_
 refine WC.seq ?_
 refine WC.label ?_
 refine WX.next ?_
 refine WC.seq ?_
 refine WC.seq ?_
 refine WC.region ?_
 refine seg 3 [] [2, 6, 8, 9, 10, 26, 27, 28] [(2, (iv p2)), (6, (pt g6008)), (8, (.slice A6191 t6186.length c6192)), (9, (.map (some g6194))), (10, (pt g6198)), (26, (.slice A6191 t6186.length c6192)), (27, (iv (t6186.length : Int))), (28, (iv 0))] [] (fun fb => by kernel_rfl) rfl trivial ?_
 refine WL.done rfl ?_
 refine WX.next ?_
 obtain ⟨x7795, hx7796, hf⟩ := bind_some hf
 refine WC.cutN (T := Unit) (fun t => [(6, (pt g6008))]) (fun t w1 => St NoS w w1 [knestO (aggI ints_A8_Int) vB ([] : List (A8_Int × (HM × List (Option (List (A8_Int × Bool)))))) ([] : List (A8_Int × List (Option (List (A8_Int × Bool))))), rowR enc_Tile A_p0 c_p0 p0] [blk g6008 (.cells #[(iv 0), (iv 0), (.slice none 0 0)] 38 (0, 0))] ∧ x7795 = .inr t) (fun Kx7795 => ?_) ?_
 ·
  refine WC.block ?_
  refine WC.loop (T := ((List (A8_Int × List (Option (List (A8_Int × Bool))))) × Int) × (List (A8_Int × (HM × List (Option (List (A8_Int × Bool))))))) (fun t => [(2, (iv p2)), (6, (pt g6008)), (8, (.slice A6191 t6186.length c6192)), (9, (.map (some g6194))), (10, (pt g6198)), (26, (.slice A6191 t6186.length c6192)), (27, (iv (t6186.length : Int))), (28, (iv t.1.2))]) (fun n t w1 => St NoS w w1 [knestO (aggI ints_A8_Int) vB t.2 t.1.1, knestO (aggI ints_A8_Int) vB ([] : List (A8_Int × (HM × List (Option (List (A8_Int × Bool)))))) ([] : List (A8_Int × List (Option (List (A8_Int × Bool))))), rowR enc_Tile A_p0 c_p0 p0] [blk g6008 (.cells #[(iv 0), (iv 0), (.slice none 0 0)] 38 (0, 0)), rowO 88 encN_Row A6191 c6192 (tag H6193 t6186), poolO [nestO subN_Row H6193 t6186], blk g6194 (mapObj (aggI ints_A8_Int) slV t.2), blk g6198 (.cells #[(iv p1), (iv p2), (.slice none 0 0)] 38 (0, 0))] ∧ torus_find.l0 n t.1.1 t.1.2 p1 p2 t6186 = some x7795) k ((([] : List (A8_Int × List (Option (List (A8_Int × Bool))))), 0), ([] : List (A8_Int × (HM × List (Option (List (A8_Int × Bool))))))) [2, 6, 8, 9, 10, 26, 27, 28] rfl ⟨(hS6203.subR [0, 0, 1]).sub [4, 2, 3, 1, 0] (by decide), hx7796⟩ ?_
  rintro k7797 ⟨⟨l7792, x7794⟩, K7793⟩ w7798 ⟨hS7799, hl7800⟩
  cases k7797 with
  | zero => rw [torus_find.l0] at hl7800; cases hl7800
  | succ k7797 =>
   rw [torus_find.l0] at hl7800
   refine WC.seq ?_
   refine WC.region ?_
   refine seg 1 [] [2, 6, 8, 9, 10, 26, 27, 28, 29] [(2, (iv p2)), (6, (pt g6008)), (8, (.slice A6191 t6186.length c6192)), (9, (.map (some g6194))), (10, (pt g6198)), (26, (.slice A6191 t6186.length c6192)), (27, (iv (t6186.length : Int))), (28, (iv x7794)), (29, (.bool (decide (x7794 < (t6186.length : Int)))))] [] (fun fb => by kernel_rfl) rfl trivial ?_
   refine WL.done rfl ?_
   refine WX.next ?_
   refine WC.seq ?_
   rcases br_some hl7800 with ⟨h7801, hl7800⟩ | ⟨h7801, hl7800⟩
   ·refine WC.condT2 (fun fb => by kernel_rfl) h7801 ?_
    refine WC.skip ?_
    refine WX.next ?_
    refine WC.seq ?_
    refine WC.block ?_
    refine WC.seq ?_
    refine WC.region ?_
    obtain ⟨h7802, hl7800⟩ := as_some hl7800
    refine seg 2 [.v (.slice ((H6193 x7794.toNat 0).1) ((rdD t6186 x7794 z_Row).Cells).length ((H6193 x7794.toNat 0).2)), .v (iv (((rdD t6186 x7794 z_Row).South).e0)), .v (iv (((rdD t6186 x7794 z_Row).South).e1)), .v (iv (((rdD t6186 x7794 z_Row).South).e2)), .v (iv (((rdD t6186 x7794 z_Row).South).e3)), .v (iv (((rdD t6186 x7794 z_Row).South).e4)), .v (iv (((rdD t6186 x7794 z_Row).South).e5)), .v (iv (((rdD t6186 x7794 z_Row).South).e6)), .v (iv (((rdD t6186 x7794 z_Row).South).e7)), .v (iv (((rdD t6186 x7794 z_Row).North).e0)), .v (iv (((rdD t6186 x7794 z_Row).North).e1)), .v (iv (((rdD t6186 x7794 z_Row).North).e2)), .v (iv (((rdD t6186 x7794 z_Row).North).e3)), .v (iv (((rdD t6186 x7794 z_Row).North).e4)), .v (iv (((rdD t6186 x7794 z_Row).North).e5)), .v (iv (((rdD t6186 x7794 z_Row).North).e6)), .v (iv (((rdD t6186 x7794 z_Row).North).e7)), .v (iv ((rdD t6186 x7794 z_Row).West)), .v (iv ((rdD t6186 x7794 z_Row).East))] [2, 6, 8, 9, 10, 26, 27, 28, 31] [(2, (iv p2)), (6, (pt g6008)), (8, (.slice A6191 t6186.length c6192)), (9, (.map (some g6194))), (10, (pt g6198)), (26, (.slice A6191 t6186.length c6192)), (27, (iv (t6186.length : Int))), (28, (iv x7794)), (31, (.agg #[(.slice ((H6193 x7794.toNat 0).1) ((rdD t6186 x7794 z_Row).Cells).length ((H6193 x7794.toNat 0).2)), (iv (((rdD t6186 x7794 z_Row).South).e0)), (iv (((rdD t6186 x7794 z_Row).South).e1)), (iv (((rdD t6186 x7794 z_Row).South).e2)), (iv (((rdD t6186 x7794 z_Row).South).e3)), (iv (((rdD t6186 x7794 z_Row).South).e4)), (iv (((rdD t6186 x7794 z_Row).South).e5)), (iv (((rdD t6186 x7794 z_Row).South).e6)), (iv (((rdD t6186 x7794 z_Row).South).e7)), (iv (((rdD t6186 x7794 z_Row).North).e0)), (iv (((rdD t6186 x7794 z_Row).North).e1)), (iv (((rdD t6186 x7794 z_Row).North).e2)), (iv (((rdD t6186 x7794 z_Row).North).e3)), (iv (((rdD t6186 x7794 z_Row).North).e4)), (iv (((rdD t6186 x7794 z_Row).North).e5)), (iv (((rdD t6186 x7794 z_Row).North).e6)), (iv (((rdD t6186 x7794 z_Row).North).e7)), (iv ((rdD t6186 x7794 z_Row).West)), (iv ((rdD t6186 x7794 z_Row).East))]))] [.idx A6191 x7794 t6186.length, .cell ((adr A6191).add ((x7794).toNat * 19)) (.slice ((H6193 x7794.toNat 0).1) ((rdD t6186 x7794 z_Row).Cells).length ((H6193 x7794.toNat 0).2)), .cell (((adr A6191).add ((x7794).toNat * 19)).add 1) (iv (((rdD t6186 x7794 z_Row).South).e0)), .cell (((adr A6191).add ((x7794).toNat * 19)).add 2) (iv (((rdD t6186 x7794 z_Row).South).e1)), .cell (((adr A6191).add ((x7794).toNat * 19)).add 3) (iv (((rdD t6186 x7794 z_Row).South).e2)), .cell (((adr A6191).add ((x7794).toNat * 19)).add 4) (iv (((rdD t6186 x7794 z_Row).South).e3)), .cell (((adr A6191).add ((x7794).toNat * 19)).add 5) (iv (((rdD t6186 x7794 z_Row).South).e4)), .cell (((adr A6191).add ((x7794).toNat * 19)).add 6) (iv (((rdD t6186 x7794 z_Row).South).e5)), .cell (((adr A6191).add ((x7794).toNat * 19)).add 7) (iv (((rdD t6186 x7794 z_Row).South).e6)), .cell (((adr A6191).add ((x7794).toNat * 19)).add 8) (iv (((rdD t6186 x7794 z_Row).South).e7)), .cell (((adr A6191).add ((x7794).toNat * 19)).add 9) (iv (((rdD t6186 x7794 z_Row).North).e0)), .cell (((adr A6191).add ((x7794).toNat * 19)).add 10) (iv (((rdD t6186 x7794 z_Row).North).e1)), .cell (((adr A6191).add ((x7794).toNat * 19)).add 11) (iv (((rdD t6186 x7794 z_Row).North).e2)), .cell (((adr A6191).add ((x7794).toNat * 19)).add 12) (iv (((rdD t6186 x7794 z_Row).North).e3)), .cell (((adr A6191).add ((x7794).toNat * 19)).add 13) (iv (((rdD t6186 x7794 z_Row).North).e4)), .cell (((adr A6191).add ((x7794).toNat * 19)).add 14) (iv (((rdD t6186 x7794 z_Row).North).e5)), .cell (((adr A6191).add ((x7794).toNat * 19)).add 15) (iv (((rdD t6186 x7794 z_Row).North).e6)), .cell (((adr A6191).add ((x7794).toNat * 19)).add 16) (iv (((rdD t6186 x7794 z_Row).North).e7)), .cell (((adr A6191).add ((x7794).toNat * 19)).add 17) (iv ((rdD t6186 x7794 z_Row).West)), .cell (((adr A6191).add ((x7794).toNat * 19)).add 18) (iv ((rdD t6186 x7794 z_Row).East))] (fun fb => by kernel_rfl) rfl ⟨nrow_adr (rowO.rd (hS7799.own 1).1) h7802.1 h7802.2, nrow_cell (rowO.rd (hS7799.own 1).1) z_Row h7802.1 h7802.2 0 rfl, nrow_cell (rowO.rd (hS7799.own 1).1) z_Row h7802.1 h7802.2 1 rfl, nrow_cell (rowO.rd (hS7799.own 1).1) z_Row h7802.1 h7802.2 2 rfl, nrow_cell (rowO.rd (hS7799.own 1).1) z_Row h7802.1 h7802.2 3 rfl, nrow_cell (rowO.rd (hS7799.own 1).1) z_Row h7802.1 h7802.2 4 rfl, nrow_cell (rowO.rd (hS7799.own 1).1) z_Row h7802.1 h7802.2 5 rfl, nrow_cell (rowO.rd (hS7799.own 1).1) z_Row h7802.1 h7802.2 6 rfl, nrow_cell (rowO.rd (hS7799.own 1).1) z_Row h7802.1 h7802.2 7 rfl, nrow_cell (rowO.rd (hS7799.own 1).1) z_Row h7802.1 h7802.2 8 rfl, nrow_cell (rowO.rd (hS7799.own 1).1) z_Row h7802.1 h7802.2 9 rfl, nrow_cell (rowO.rd (hS7799.own 1).1) z_Row h7802.1 h7802.2 10 rfl, nrow_cell (rowO.rd (hS7799.own 1).1) z_Row h7802.1 h7802.2 11 rfl, nrow_cell (rowO.rd (hS7799.own 1).1) z_Row h7802.1 h7802.2 12 rfl, nrow_cell (rowO.rd (hS7799.own 1).1) z_Row h7802.1 h7802.2 13 rfl, nrow_cell (rowO.rd (hS7799.own 1).1) z_Row h7802.1 h7802.2 14 rfl, nrow_cell (rowO.rd (hS7799.own 1).1) z_Row h7802.1 h7802.2 15 rfl, nrow_cell (rowO.rd (hS7799.own 1).1) z_Row h7802.1 h7802.2 16 rfl, nrow_cell (rowO.rd (hS7799.own 1).1) z_Row h7802.1 h7802.2 17 rfl, nrow_cell (rowO.rd (hS7799.own 1).1) z_Row h7802.1 h7802.2 18 rfl, trivial⟩ ?_
    refine WL.new hS7799 12 [] (fun g => (.pointer (some ⟨g, 0, none⟩))) (.cells #[(.slice none 0 0), (iv 0), (iv 0), (iv 0), (iv 0), (iv 0), (iv 0), (iv 0), (iv 0), (iv 0), (iv 0), (iv 0), (iv 0), (iv 0), (iv 0), (iv 0), (iv 0), (iv 0), (iv 0)] 88 (0, 0)) [] (fun fb g => by kernel_rfl) trivial (fun g7803 w7804 hS7805 => ?_)
    refine ⟨trivial, ?_⟩
    refine WL.store hS7805 0 rfl [(0, (.slice ((H6193 x7794.toNat 0).1) ((rdD t6186 x7794 z_Row).Cells).length ((H6193 x7794.toNat 0).2))), (1, (iv (((rdD t6186 x7794 z_Row).South).e0))), (2, (iv (((rdD t6186 x7794 z_Row).South).e1))), (3, (iv (((rdD t6186 x7794 z_Row).South).e2))), (4, (iv (((rdD t6186 x7794 z_Row).South).e3))), (5, (iv (((rdD t6186 x7794 z_Row).South).e4))), (6, (iv (((rdD t6186 x7794 z_Row).South).e5))), (7, (iv (((rdD t6186 x7794 z_Row).South).e6))), (8, (iv (((rdD t6186 x7794 z_Row).South).e7))), (9, (iv (((rdD t6186 x7794 z_Row).North).e0))), (10, (iv (((rdD t6186 x7794 z_Row).North).e1))), (11, (iv (((rdD t6186 x7794 z_Row).North).e2))), (12, (iv (((rdD t6186 x7794 z_Row).North).e3))), (13, (iv (((rdD t6186 x7794 z_Row).North).e4))), (14, (iv (((rdD t6186 x7794 z_Row).North).e5))), (15, (iv (((rdD t6186 x7794 z_Row).North).e6))), (16, (iv (((rdD t6186 x7794 z_Row).North).e7))), (17, (iv ((rdD t6186 x7794 z_Row).West))), (18, (iv ((rdD t6186 x7794 z_Row).East)))] #[(.slice ((H6193 x7794.toNat 0).1) ((rdD t6186 x7794 z_Row).Cells).length ((H6193 x7794.toNat 0).2)), (iv (((rdD t6186 x7794 z_Row).South).e0)), (iv (((rdD t6186 x7794 z_Row).South).e1)), (iv (((rdD t6186 x7794 z_Row).South).e2)), (iv (((rdD t6186 x7794 z_Row).South).e3)), (iv (((rdD t6186 x7794 z_Row).South).e4)), (iv (((rdD t6186 x7794 z_Row).South).e5)), (iv (((rdD t6186 x7794 z_Row).South).e6)), (iv (((rdD t6186 x7794 z_Row).South).e7)), (iv (((rdD t6186 x7794 z_Row).North).e0)), (iv (((rdD t6186 x7794 z_Row).North).e1)), (iv (((rdD t6186 x7794 z_Row).North).e2)), (iv (((rdD t6186 x7794 z_Row).North).e3)), (iv (((rdD t6186 x7794 z_Row).North).e4)), (iv (((rdD t6186 x7794 z_Row).North).e5)), (iv (((rdD t6186 x7794 z_Row).North).e6)), (iv (((rdD t6186 x7794 z_Row).North).e7)), (iv ((rdD t6186 x7794 z_Row).West)), (iv ((rdD t6186 x7794 z_Row).East))] (fun fb => by kernel_rfl) (by kernel_rfl) (by kernel_rfl) [1, 2, 3, 4, 5] (by decide) (by decide) (fun w7807 hS7808 => ?_)
    refine ⟨trivial, ?_⟩
    refine WL.done rfl ?_
    refine WX.next ?_
    refine WC.seq ?_
    refine WC.region ?_
    refine seg 3 [.v (iv (((rdD t6186 x7794 z_Row).South).e0)), .v (iv (((rdD t6186 x7794 z_Row).South).e1)), .v (iv (((rdD t6186 x7794 z_Row).South).e2)), .v (iv (((rdD t6186 x7794 z_Row).South).e3)), .v (iv (((rdD t6186 x7794 z_Row).South).e4)), .v (iv (((rdD t6186 x7794 z_Row).South).e5)), .v (iv (((rdD t6186 x7794 z_Row).South).e6)), .v (iv (((rdD t6186 x7794 z_Row).South).e7))] [2, 6, 8, 9, 10, 12, 26, 27, 28, 33, 35] [(2, (iv p2)), (6, (pt g6008)), (8, (.slice A6191 t6186.length c6192)), (9, (.map (some g6194))), (10, (pt g6198)), (12, (pt g7803)), (26, (.slice A6191 t6186.length c6192)), (27, (iv (t6186.length : Int))), (28, (iv x7794)), (33, (.map (some g6194))), (35, (.agg #[(iv (((rdD t6186 x7794 z_Row).South).e0)), (iv (((rdD t6186 x7794 z_Row).South).e1)), (iv (((rdD t6186 x7794 z_Row).South).e2)), (iv (((rdD t6186 x7794 z_Row).South).e3)), (iv (((rdD t6186 x7794 z_Row).South).e4)), (iv (((rdD t6186 x7794 z_Row).South).e5)), (iv (((rdD t6186 x7794 z_Row).South).e6)), (iv (((rdD t6186 x7794 z_Row).South).e7))]))] [.cell ⟨g7803, 1, none⟩ (iv (((rdD t6186 x7794 z_Row).South).e0)), .cell ⟨g7803, 2, none⟩ (iv (((rdD t6186 x7794 z_Row).South).e1)), .cell ⟨g7803, 3, none⟩ (iv (((rdD t6186 x7794 z_Row).South).e2)), .cell ⟨g7803, 4, none⟩ (iv (((rdD t6186 x7794 z_Row).South).e3)), .cell ⟨g7803, 5, none⟩ (iv (((rdD t6186 x7794 z_Row).South).e4)), .cell ⟨g7803, 6, none⟩ (iv (((rdD t6186 x7794 z_Row).South).e5)), .cell ⟨g7803, 7, none⟩ (iv (((rdD t6186 x7794 z_Row).South).e6)), .cell ⟨g7803, 8, none⟩ (iv (((rdD t6186 x7794 z_Row).South).e7))] (fun fb => by kernel_rfl) rfl ⟨hS7808.cell 0 rfl 1 rfl, hS7808.cell 0 rfl 2 rfl, hS7808.cell 0 rfl 3 rfl, hS7808.cell 0 rfl 4 rfl, hS7808.cell 0 rfl 5 rfl, hS7808.cell 0 rfl 6 rfl, hS7808.cell 0 rfl 7 rfl, hS7808.cell 0 rfl 8 rfl, trivial⟩ ?_
    refine WL.lookup (hS7808.own 4).1 ((rdD t6186 x7794 z_Row).South) (d := 36) (c := true) (t := 104) (kT := 86) (eT := 80) (z := zHM) (kE := (aggI ints_A8_Int)) (vE := slV) (l := K7793) (.tuple #[(.slice ((mget ((rdD t6186 x7794 z_Row).South) zHM K7793).1.1) (mget ((rdD t6186 x7794 z_Row).South) [] l7792).length ((mget ((rdD t6186 x7794 z_Row).South) zHM K7793).1.2.1)), (.bool (mhas ((rdD t6186 x7794 z_Row).South) l7792))]) (fun fb => by kernel_rfl) torus_find_key86 (by kernel_rfl) (fun _ => by kernel_rfl) (by rw [mhas_unK, (knestO.eq (hS7808.rd 0))]; rw [slV_get _ _ (knestO.eq (hS7808.rd 0))]; rfl) ?_
    refine ⟨trivial, ?_⟩
    have hS7809 : St NoS w w7807 [rowR (encMap A8_Int Bool) ((mget ((rdD t6186 x7794 z_Row).South) zHM K7793).1.1) ((mget ((rdD t6186 x7794 z_Row).South) zHM K7793).1.2.1) (tag ((mget ((rdD t6186 x7794 z_Row).South) zHM K7793).1.2.2) (mget ((rdD t6186 x7794 z_Row).South) [] l7792)), knestO (aggI ints_A8_Int) vB K7793 l7792, knestO (aggI ints_A8_Int) vB ([] : List (A8_Int × (HM × List (Option (List (A8_Int × Bool)))))) ([] : List (A8_Int × List (Option (List (A8_Int × Bool))))), rowR enc_Tile A_p0 c_p0 p0] [blk g7803 (.cells #[(.slice ((H6193 x7794.toNat 0).1) ((rdD t6186 x7794 z_Row).Cells).length ((H6193 x7794.toNat 0).2)), (iv (((rdD t6186 x7794 z_Row).South).e0)), (iv (((rdD t6186 x7794 z_Row).South).e1)), (iv (((rdD t6186 x7794 z_Row).South).e2)), (iv (((rdD t6186 x7794 z_Row).South).e3)), (iv (((rdD t6186 x7794 z_Row).South).e4)), (iv (((rdD t6186 x7794 z_Row).South).e5)), (iv (((rdD t6186 x7794 z_Row).South).e6)), (iv (((rdD t6186 x7794 z_Row).South).e7)), (iv (((rdD t6186 x7794 z_Row).North).e0)), (iv (((rdD t6186 x7794 z_Row).North).e1)), (iv (((rdD t6186 x7794 z_Row).North).e2)), (iv (((rdD t6186 x7794 z_Row).North).e3)), (iv (((rdD t6186 x7794 z_Row).North).e4)), (iv (((rdD t6186 x7794 z_Row).North).e5)), (iv (((rdD t6186 x7794 z_Row).North).e6)), (iv (((rdD t6186 x7794 z_Row).North).e7)), (iv ((rdD t6186 x7794 z_Row).West)), (iv ((rdD t6186 x7794 z_Row).East))] 88 (0, 0)), blk g6008 (.cells #[(iv 0), (iv 0), (.slice none 0 0)] 38 (0, 0)), rowO 88 encN_Row A6191 c6192 (tag H6193 t6186), poolO [nestO subN_Row H6193 t6186], blk g6194 (mapObj (aggI ints_A8_Int) slV K7793), blk g6198 (.cells #[(iv p1), (iv p2), (.slice none 0 0)] 38 (0, 0))] := hS7808.addR _ (knestO.row (hS7808.rdL 0) ((rdD t6186 x7794 z_Row).South))
    have hS7810 : St NoS w w7807 [mapsO (aggI ints_A8_Int) vB ((mget ((rdD t6186 x7794 z_Row).South) zHM K7793).1.2.2) (mget ((rdD t6186 x7794 z_Row).South) [] l7792), rowR (encMap A8_Int Bool) ((mget ((rdD t6186 x7794 z_Row).South) zHM K7793).1.1) ((mget ((rdD t6186 x7794 z_Row).South) zHM K7793).1.2.1) (tag ((mget ((rdD t6186 x7794 z_Row).South) zHM K7793).1.2.2) (mget ((rdD t6186 x7794 z_Row).South) [] l7792)), knestO (aggI ints_A8_Int) vB K7793 l7792, knestO (aggI ints_A8_Int) vB ([] : List (A8_Int × (HM × List (Option (List (A8_Int × Bool)))))) ([] : List (A8_Int × List (Option (List (A8_Int × Bool))))), rowR enc_Tile A_p0 c_p0 p0] [blk g7803 (.cells #[(.slice ((H6193 x7794.toNat 0).1) ((rdD t6186 x7794 z_Row).Cells).length ((H6193 x7794.toNat 0).2)), (iv (((rdD t6186 x7794 z_Row).South).e0)), (iv (((rdD t6186 x7794 z_Row).South).e1)), (iv (((rdD t6186 x7794 z_Row).South).e2)), (iv (((rdD t6186 x7794 z_Row).South).e3)), (iv (((rdD t6186 x7794 z_Row).South).e4)), (iv (((rdD t6186 x7794 z_Row).South).e5)), (iv (((rdD t6186 x7794 z_Row).South).e6)), (iv (((rdD t6186 x7794 z_Row).South).e7)), (iv (((rdD t6186 x7794 z_Row).North).e0)), (iv (((rdD t6186 x7794 z_Row).North).e1)), (iv (((rdD t6186 x7794 z_Row).North).e2)), (iv (((rdD t6186 x7794 z_Row).North).e3)), (iv (((rdD t6186 x7794 z_Row).North).e4)), (iv (((rdD t6186 x7794 z_Row).North).e5)), (iv (((rdD t6186 x7794 z_Row).North).e6)), (iv (((rdD t6186 x7794 z_Row).North).e7)), (iv ((rdD t6186 x7794 z_Row).West)), (iv ((rdD t6186 x7794 z_Row).East))] 88 (0, 0)), blk g6008 (.cells #[(iv 0), (iv 0), (.slice none 0 0)] 38 (0, 0)), rowO 88 encN_Row A6191 c6192 (tag H6193 t6186), poolO [nestO subN_Row H6193 t6186], blk g6194 (mapObj (aggI ints_A8_Int) slV K7793), blk g6198 (.cells #[(iv p1), (iv p2), (.slice none 0 0)] 38 (0, 0))] := hS7809.addR _ (knestO.maps (hS7809.rdL 1) ((rdD t6186 x7794 z_Row).South))
    refine seg 9 [] [2, 6, 8, 9, 10, 12, 13, 14, 26, 27, 28] [(2, (iv p2)), (6, (pt g6008)), (8, (.slice A6191 t6186.length c6192)), (9, (.map (some g6194))), (10, (pt g6198)), (12, (pt g7803)), (13, (.slice ((mget ((rdD t6186 x7794 z_Row).South) zHM K7793).1.1) (mget ((rdD t6186 x7794 z_Row).South) [] l7792).length ((mget ((rdD t6186 x7794 z_Row).South) zHM K7793).1.2.1))), (14, (.bool (mhas ((rdD t6186 x7794 z_Row).South) l7792))), (26, (.slice A6191 t6186.length c6192)), (27, (iv (t6186.length : Int))), (28, (iv x7794))] [] (fun fb => by kernel_rfl) rfl trivial ?_
    refine WL.done rfl ?_
    refine WX.next ?_
    refine WC.seq ?_
    refine WC.seq ?_
    refine WC.region ?_
    refine seg 2 [] [2, 6, 8, 9, 10, 12, 13, 26, 27, 28, 40] [(2, (iv p2)), (6, (pt g6008)), (8, (.slice A6191 t6186.length c6192)), (9, (.map (some g6194))), (10, (pt g6198)), (12, (pt g7803)), (13, (.slice ((mget ((rdD t6186 x7794 z_Row).South) zHM K7793).1.1) (mget ((rdD t6186 x7794 z_Row).South) [] l7792).length ((mget ((rdD t6186 x7794 z_Row).South) zHM K7793).1.2.1))), (26, (.slice A6191 t6186.length c6192)), (27, (iv (t6186.length : Int))), (28, (iv x7794)), (40, (.bool (!(mhas ((rdD t6186 x7794 z_Row).South) l7792))))] [] (fun fb => by kernel_rfl) rfl trivial ?_
    refine WL.done rfl ?_
    refine WX.next ?_
    obtain ⟨x7831, hx7832, hl7800⟩ := bind_some hl7800
    refine WC.cutN (T := ((List (A8_Int × List (Option (List (A8_Int × Bool))))) × (List (Option (List (A8_Int × Bool))))) × (List (A8_Int × (HM × List (Option (List (A8_Int × Bool)))))) × (Option Addr) × Nat × (Nat → Nat)) (fun t => [(2, (iv p2)), (6, (pt g6008)), (8, (.slice A6191 t6186.length c6192)), (9, (.map (some g6194))), (10, (pt g6198)), (12, (pt g7803)), (13, (.slice t.2.2.1 t.1.2.length t.2.2.2.1)), (26, (.slice A6191 t6186.length c6192)), (27, (iv (t6186.length : Int))), (28, (iv x7794))]) (fun t w1 => St NoS w w1 [knestO (aggI ints_A8_Int) vB t.2.1 t.1.1, rowR (encMap A8_Int Bool) t.2.2.1 t.2.2.2.1 (tag t.2.2.2.2 t.1.2), mapsO (aggI ints_A8_Int) vB t.2.2.2.2 t.1.2, mapsO (aggI ints_A8_Int) vB ((mget ((rdD t6186 x7794 z_Row).South) zHM K7793).1.2.2) (mget ((rdD t6186 x7794 z_Row).South) [] l7792), rowR (encMap A8_Int Bool) ((mget ((rdD t6186 x7794 z_Row).South) zHM K7793).1.1) ((mget ((rdD t6186 x7794 z_Row).South) zHM K7793).1.2.1) (tag ((mget ((rdD t6186 x7794 z_Row).South) zHM K7793).1.2.2) (mget ((rdD t6186 x7794 z_Row).South) [] l7792)), knestO (aggI ints_A8_Int) vB K7793 l7792, knestO (aggI ints_A8_Int) vB ([] : List (A8_Int × (HM × List (Option (List (A8_Int × Bool)))))) ([] : List (A8_Int × List (Option (List (A8_Int × Bool))))), rowR enc_Tile A_p0 c_p0 p0] [blk g6008 (.cells #[(iv 0), (iv 0), (.slice none 0 0)] 38 (0, 0)), rowO 88 encN_Row A6191 c6192 (tag H6193 t6186), poolO [nestO subN_Row H6193 t6186], blk g6194 (mapObj (aggI ints_A8_Int) slV t.2.1), blk g6198 (.cells #[(iv p1), (iv p2), (.slice none 0 0)] 38 (0, 0)), blk g7803 (.cells #[(.slice ((H6193 x7794.toNat 0).1) ((rdD t6186 x7794 z_Row).Cells).length ((H6193 x7794.toNat 0).2)), (iv (((rdD t6186 x7794 z_Row).South).e0)), (iv (((rdD t6186 x7794 z_Row).South).e1)), (iv (((rdD t6186 x7794 z_Row).South).e2)), (iv (((rdD t6186 x7794 z_Row).South).e3)), (iv (((rdD t6186 x7794 z_Row).South).e4)), (iv (((rdD t6186 x7794 z_Row).South).e5)), (iv (((rdD t6186 x7794 z_Row).South).e6)), (iv (((rdD t6186 x7794 z_Row).South).e7)), (iv (((rdD t6186 x7794 z_Row).North).e0)), (iv (((rdD t6186 x7794 z_Row).North).e1)), (iv (((rdD t6186 x7794 z_Row).North).e2)), (iv (((rdD t6186 x7794 z_Row).North).e3)), (iv (((rdD t6186 x7794 z_Row).North).e4)), (iv (((rdD t6186 x7794 z_Row).North).e5)), (iv (((rdD t6186 x7794 z_Row).North).e6)), (iv (((rdD t6186 x7794 z_Row).North).e7)), (iv ((rdD t6186 x7794 z_Row).West)), (iv ((rdD t6186 x7794 z_Row).East))] 88 (0, 0))] ∧ x7831 = t.1) (fun Kx7831 => ?_) ?_
    ·
     rcases br_some hx7832 with ⟨h7833, hx7832⟩ | ⟨h7833, hx7832⟩
     ·refine WC.condT2 (fun fb => by kernel_rfl) h7833 ?_
      refine WC.seq ?_
      refine WC.region ?_
      refine seg 5 [.v (iv (((rdD t6186 x7794 z_Row).South).e0)), .v (iv (((rdD t6186 x7794 z_Row).South).e1)), .v (iv (((rdD t6186 x7794 z_Row).South).e2)), .v (iv (((rdD t6186 x7794 z_Row).South).e3)), .v (iv (((rdD t6186 x7794 z_Row).South).e4)), .v (iv (((rdD t6186 x7794 z_Row).South).e5)), .v (iv (((rdD t6186 x7794 z_Row).South).e6)), .v (iv (((rdD t6186 x7794 z_Row).South).e7))] [2, 6, 8, 9, 10, 12, 26, 27, 28, 41, 43, 45] [(2, (iv p2)), (6, (pt g6008)), (8, (.slice A6191 t6186.length c6192)), (9, (.map (some g6194))), (10, (pt g6198)), (12, (pt g7803)), (26, (.slice A6191 t6186.length c6192)), (27, (iv (t6186.length : Int))), (28, (iv x7794)), (41, (.slice A6191 t6186.length c6192)), (43, (.agg #[(iv (((rdD t6186 x7794 z_Row).South).e0)), (iv (((rdD t6186 x7794 z_Row).South).e1)), (iv (((rdD t6186 x7794 z_Row).South).e2)), (iv (((rdD t6186 x7794 z_Row).South).e3)), (iv (((rdD t6186 x7794 z_Row).South).e4)), (iv (((rdD t6186 x7794 z_Row).South).e5)), (iv (((rdD t6186 x7794 z_Row).South).e6)), (iv (((rdD t6186 x7794 z_Row).South).e7))])), (45, (iv (w64 (p2 - 1))))] [.cell ⟨g7803, 1, none⟩ (iv (((rdD t6186 x7794 z_Row).South).e0)), .cell ⟨g7803, 2, none⟩ (iv (((rdD t6186 x7794 z_Row).South).e1)), .cell ⟨g7803, 3, none⟩ (iv (((rdD t6186 x7794 z_Row).South).e2)), .cell ⟨g7803, 4, none⟩ (iv (((rdD t6186 x7794 z_Row).South).e3)), .cell ⟨g7803, 5, none⟩ (iv (((rdD t6186 x7794 z_Row).South).e4)), .cell ⟨g7803, 6, none⟩ (iv (((rdD t6186 x7794 z_Row).South).e5)), .cell ⟨g7803, 7, none⟩ (iv (((rdD t6186 x7794 z_Row).South).e6)), .cell ⟨g7803, 8, none⟩ (iv (((rdD t6186 x7794 z_Row).South).e7))] (fun fb => by kernel_rfl) rfl ⟨hS7810.cell 0 rfl 1 rfl, hS7810.cell 0 rfl 2 rfl, hS7810.cell 0 rfl 3 rfl, hS7810.cell 0 rfl 4 rfl, hS7810.cell 0 rfl 5 rfl, hS7810.cell 0 rfl 6 rfl, hS7810.cell 0 rfl 7 rfl, hS7810.cell 0 rfl 8 rfl, trivial⟩ ?_
      obtain ⟨t7834, ht7835, hx7832⟩ := bind_some hx7832
      refine WL.call (some 46) 63 #[(.slice A6191 t6186.length c6192), (.agg #[(iv (((rdD t6186 x7794 z_Row).South).e0)), (iv (((rdD t6186 x7794 z_Row).South).e1)), (iv (((rdD t6186 x7794 z_Row).South).e2)), (iv (((rdD t6186 x7794 z_Row).South).e3)), (iv (((rdD t6186 x7794 z_Row).South).e4)), (iv (((rdD t6186 x7794 z_Row).South).e5)), (iv (((rdD t6186 x7794 z_Row).South).e6)), (iv (((rdD t6186 x7794 z_Row).South).e7))]), (iv (w64 (p2 - 1)))] (fun fb => by kernel_rfl) (torus_back_calls _ t6186 ((rdD t6186 x7794 z_Row).South) (w64 (p2 - 1)) A6191 c6192 H6193 t7834 _ (hS7810.ow 2).ofO (poolO.ro (hS7810.ow 3) 0) ht7835) (fun v w7836 hR7837 => ?_)
      obtain ⟨A7839, c7840, H7841, rfl, hk_⟩ := hR7837
      have hS7838 : St NoS w w7836 [mapsO (aggI ints_A8_Int) vB ((mget ((rdD t6186 x7794 z_Row).South) zHM K7793).1.2.2) (mget ((rdD t6186 x7794 z_Row).South) [] l7792), rowR (encMap A8_Int Bool) ((mget ((rdD t6186 x7794 z_Row).South) zHM K7793).1.1) ((mget ((rdD t6186 x7794 z_Row).South) zHM K7793).1.2.1) (tag ((mget ((rdD t6186 x7794 z_Row).South) zHM K7793).1.2.2) (mget ((rdD t6186 x7794 z_Row).South) [] l7792)), knestO (aggI ints_A8_Int) vB K7793 l7792, knestO (aggI ints_A8_Int) vB ([] : List (A8_Int × (HM × List (Option (List (A8_Int × Bool)))))) ([] : List (A8_Int × List (Option (List (A8_Int × Bool))))), rowR enc_Tile A_p0 c_p0 p0] [rowO 81 (encMap A8_Int Bool) A7839 c7840 (tag H7841 t7834), mapsO (aggI ints_A8_Int) vB H7841 t7834, blk g7803 (.cells #[(.slice ((H6193 x7794.toNat 0).1) ((rdD t6186 x7794 z_Row).Cells).length ((H6193 x7794.toNat 0).2)), (iv (((rdD t6186 x7794 z_Row).South).e0)), (iv (((rdD t6186 x7794 z_Row).South).e1)), (iv (((rdD t6186 x7794 z_Row).South).e2)), (iv (((rdD t6186 x7794 z_Row).South).e3)), (iv (((rdD t6186 x7794 z_Row).South).e4)), (iv (((rdD t6186 x7794 z_Row).South).e5)), (iv (((rdD t6186 x7794 z_Row).South).e6)), (iv (((rdD t6186 x7794 z_Row).South).e7)), (iv (((rdD t6186 x7794 z_Row).North).e0)), (iv (((rdD t6186 x7794 z_Row).North).e1)), (iv (((rdD t6186 x7794 z_Row).North).e2)), (iv (((rdD t6186 x7794 z_Row).North).e3)), (iv (((rdD t6186 x7794 z_Row).North).e4)), (iv (((rdD t6186 x7794 z_Row).North).e5)), (iv (((rdD t6186 x7794 z_Row).North).e6)), (iv (((rdD t6186 x7794 z_Row).North).e7)), (iv ((rdD t6186 x7794 z_Row).West)), (iv ((rdD t6186 x7794 z_Row).East))] 88 (0, 0)), blk g6008 (.cells #[(iv 0), (iv 0), (.slice none 0 0)] 38 (0, 0)), rowO 88 encN_Row A6191 c6192 (tag H6193 t6186), poolO [nestO subN_Row H6193 t6186], blk g6194 (mapObj (aggI ints_A8_Int) slV K7793), blk g6198 (.cells #[(iv p1), (iv p2), (.slice none 0 0)] 38 (0, 0))] := hS7810.call hk_ [] [0, 1, 2, 3, 4, 5] (fun g hg => hg.elim) (by simp) (by decide)
      refine ⟨trivial, ?_⟩
      refine seg 7 [] [2, 6, 8, 9, 10, 12, 13, 26, 27, 28] [(2, (iv p2)), (6, (pt g6008)), (8, (.slice A6191 t6186.length c6192)), (9, (.map (some g6194))), (10, (pt g6198)), (12, (pt g7803)), (13, (.slice A7839 t7834.length c7840)), (26, (.slice A6191 t6186.length c6192)), (27, (iv (t6186.length : Int))), (28, (iv x7794))] [] (fun fb => by kernel_rfl) rfl trivial ?_
      refine WL.done rfl ?_
      refine WX.next ?_
      refine WC.region ?_
      refine seg 4 [.v (iv (((rdD t6186 x7794 z_Row).South).e0)), .v (iv (((rdD t6186 x7794 z_Row).South).e1)), .v (iv (((rdD t6186 x7794 z_Row).South).e2)), .v (iv (((rdD t6186 x7794 z_Row).South).e3)), .v (iv (((rdD t6186 x7794 z_Row).South).e4)), .v (iv (((rdD t6186 x7794 z_Row).South).e5)), .v (iv (((rdD t6186 x7794 z_Row).South).e6)), .v (iv (((rdD t6186 x7794 z_Row).South).e7))] [2, 6, 8, 9, 10, 12, 13, 26, 27, 28, 47, 49, 50] [(2, (iv p2)), (6, (pt g6008)), (8, (.slice A6191 t6186.length c6192)), (9, (.map (some g6194))), (10, (pt g6198)), (12, (pt g7803)), (13, (.slice A7839 t7834.length c7840)), (26, (.slice A6191 t6186.length c6192)), (27, (iv (t6186.length : Int))), (28, (iv x7794)), (47, (.map (some g6194))), (49, (.agg #[(iv (((rdD t6186 x7794 z_Row).South).e0)), (iv (((rdD t6186 x7794 z_Row).South).e1)), (iv (((rdD t6186 x7794 z_Row).South).e2)), (iv (((rdD t6186 x7794 z_Row).South).e3)), (iv (((rdD t6186 x7794 z_Row).South).e4)), (iv (((rdD t6186 x7794 z_Row).South).e5)), (iv (((rdD t6186 x7794 z_Row).South).e6)), (iv (((rdD t6186 x7794 z_Row).South).e7))])), (50, (.slice A7839 t7834.length c7840))] [.cell ⟨g7803, 1, none⟩ (iv (((rdD t6186 x7794 z_Row).South).e0)), .cell ⟨g7803, 2, none⟩ (iv (((rdD t6186 x7794 z_Row).South).e1)), .cell ⟨g7803, 3, none⟩ (iv (((rdD t6186 x7794 z_Row).South).e2)), .cell ⟨g7803, 4, none⟩ (iv (((rdD t6186 x7794 z_Row).South).e3)), .cell ⟨g7803, 5, none⟩ (iv (((rdD t6186 x7794 z_Row).South).e4)), .cell ⟨g7803, 6, none⟩ (iv (((rdD t6186 x7794 z_Row).South).e5)), .cell ⟨g7803, 7, none⟩ (iv (((rdD t6186 x7794 z_Row).South).e6)), .cell ⟨g7803, 8, none⟩ (iv (((rdD t6186 x7794 z_Row).South).e7))] (fun fb => by kernel_rfl) rfl ⟨hS7838.cell 2 rfl 1 rfl, hS7838.cell 2 rfl 2 rfl, hS7838.cell 2 rfl 3 rfl, hS7838.cell 2 rfl 4 rfl, hS7838.cell 2 rfl 5 rfl, hS7838.cell 2 rfl 6 rfl, hS7838.cell 2 rfl 7 rfl, hS7838.cell 2 rfl 8 rfl, trivial⟩ ?_
      have hS7842 : St NoS w w7836 [mapsO (aggI ints_A8_Int) vB H7841 t7834, mapsO (aggI ints_A8_Int) vB ((mget ((rdD t6186 x7794 z_Row).South) zHM K7793).1.2.2) (mget ((rdD t6186 x7794 z_Row).South) [] l7792), rowR (encMap A8_Int Bool) ((mget ((rdD t6186 x7794 z_Row).South) zHM K7793).1.1) ((mget ((rdD t6186 x7794 z_Row).South) zHM K7793).1.2.1) (tag ((mget ((rdD t6186 x7794 z_Row).South) zHM K7793).1.2.2) (mget ((rdD t6186 x7794 z_Row).South) [] l7792)), knestO (aggI ints_A8_Int) vB K7793 l7792, knestO (aggI ints_A8_Int) vB ([] : List (A8_Int × (HM × List (Option (List (A8_Int × Bool)))))) ([] : List (A8_Int × List (Option (List (A8_Int × Bool))))), rowR enc_Tile A_p0 c_p0 p0] [rowO 81 (encMap A8_Int Bool) A7839 c7840 (tag H7841 t7834), blk g7803 (.cells #[(.slice ((H6193 x7794.toNat 0).1) ((rdD t6186 x7794 z_Row).Cells).length ((H6193 x7794.toNat 0).2)), (iv (((rdD t6186 x7794 z_Row).South).e0)), (iv (((rdD t6186 x7794 z_Row).South).e1)), (iv (((rdD t6186 x7794 z_Row).South).e2)), (iv (((rdD t6186 x7794 z_Row).South).e3)), (iv (((rdD t6186 x7794 z_Row).South).e4)), (iv (((rdD t6186 x7794 z_Row).South).e5)), (iv (((rdD t6186 x7794 z_Row).South).e6)), (iv (((rdD t6186 x7794 z_Row).South).e7)), (iv (((rdD t6186 x7794 z_Row).North).e0)), (iv (((rdD t6186 x7794 z_Row).North).e1)), (iv (((rdD t6186 x7794 z_Row).North).e2)), (iv (((rdD t6186 x7794 z_Row).North).e3)), (iv (((rdD t6186 x7794 z_Row).North).e4)), (iv (((rdD t6186 x7794 z_Row).North).e5)), (iv (((rdD t6186 x7794 z_Row).North).e6)), (iv (((rdD t6186 x7794 z_Row).North).e7)), (iv ((rdD t6186 x7794 z_Row).West)), (iv ((rdD t6186 x7794 z_Row).East))] 88 (0, 0)), blk g6008 (.cells #[(iv 0), (iv 0), (.slice none 0 0)] 38 (0, 0)), rowO 88 encN_Row A6191 c6192 (tag H6193 t6186), poolO [nestO subN_Row H6193 t6186], blk g6194 (mapObj (aggI ints_A8_Int) slV K7793), blk g6198 (.cells #[(iv p1), (iv p2), (.slice none 0 0)] 38 (0, 0))] := hS7838.freezeO 1 [0, 2, 3, 4, 5, 6, 7] (by decide) (by decide)
      have hS7843 : St NoS w w7836 [rowR (encMap A8_Int Bool) A7839 c7840 (tag H7841 t7834), mapsO (aggI ints_A8_Int) vB H7841 t7834, mapsO (aggI ints_A8_Int) vB ((mget ((rdD t6186 x7794 z_Row).South) zHM K7793).1.2.2) (mget ((rdD t6186 x7794 z_Row).South) [] l7792), rowR (encMap A8_Int Bool) ((mget ((rdD t6186 x7794 z_Row).South) zHM K7793).1.1) ((mget ((rdD t6186 x7794 z_Row).South) zHM K7793).1.2.1) (tag ((mget ((rdD t6186 x7794 z_Row).South) zHM K7793).1.2.2) (mget ((rdD t6186 x7794 z_Row).South) [] l7792)), knestO (aggI ints_A8_Int) vB K7793 l7792, knestO (aggI ints_A8_Int) vB ([] : List (A8_Int × (HM × List (Option (List (A8_Int × Bool)))))) ([] : List (A8_Int × List (Option (List (A8_Int × Bool))))), rowR enc_Tile A_p0 c_p0 p0] [blk g7803 (.cells #[(.slice ((H6193 x7794.toNat 0).1) ((rdD t6186 x7794 z_Row).Cells).length ((H6193 x7794.toNat 0).2)), (iv (((rdD t6186 x7794 z_Row).South).e0)), (iv (((rdD t6186 x7794 z_Row).South).e1)), (iv (((rdD t6186 x7794 z_Row).South).e2)), (iv (((rdD t6186 x7794 z_Row).South).e3)), (iv (((rdD t6186 x7794 z_Row).South).e4)), (iv (((rdD t6186 x7794 z_Row).South).e5)), (iv (((rdD t6186 x7794 z_Row).South).e6)), (iv (((rdD t6186 x7794 z_Row).South).e7)), (iv (((rdD t6186 x7794 z_Row).North).e0)), (iv (((rdD t6186 x7794 z_Row).North).e1)), (iv (((rdD t6186 x7794 z_Row).North).e2)), (iv (((rdD t6186 x7794 z_Row).North).e3)), (iv (((rdD t6186 x7794 z_Row).North).e4)), (iv (((rdD t6186 x7794 z_Row).North).e5)), (iv (((rdD t6186 x7794 z_Row).North).e6)), (iv (((rdD t6186 x7794 z_Row).North).e7)), (iv ((rdD t6186 x7794 z_Row).West)), (iv ((rdD t6186 x7794 z_Row).East))] 88 (0, 0)), blk g6008 (.cells #[(iv 0), (iv 0), (.slice none 0 0)] 38 (0, 0)), rowO 88 encN_Row A6191 c6192 (tag H6193 t6186), poolO [nestO subN_Row H6193 t6186], blk g6194 (mapObj (aggI ints_A8_Int) slV K7793), blk g6198 (.cells #[(iv p1), (iv p2), (.slice none 0 0)] 38 (0, 0))] := hS7842.freezeRow 0 rfl [1, 2, 3, 4, 5, 6] (by decide) (by decide)
      refine WL.mapput hS7843 4 (t := 104) (kT := 86) (eT := 80) (kE := (aggI ints_A8_Int)) (vE := slV) (l := K7793) rfl ((rdD t6186 x7794 z_Row).South) ((A7839, c7840, H7841), t7834) (fun fb => by kernel_rfl) torus_find_key86 (by kernel_rfl) [0, 1, 2, 3, 5] (by decide) (by decide) (fun w7844 hS7845 => ?_)
      have hS7846 : St NoS w w7844 [knestO (aggI ints_A8_Int) vB (mput ((rdD t6186 x7794 z_Row).South) ((A7839, c7840, H7841), t7834) K7793) (mput ((rdD t6186 x7794 z_Row).South) t7834 l7792), rowR (encMap A8_Int Bool) A7839 c7840 (tag H7841 t7834), mapsO (aggI ints_A8_Int) vB H7841 t7834, mapsO (aggI ints_A8_Int) vB ((mget ((rdD t6186 x7794 z_Row).South) zHM K7793).1.2.2) (mget ((rdD t6186 x7794 z_Row).South) [] l7792), rowR (encMap A8_Int Bool) ((mget ((rdD t6186 x7794 z_Row).South) zHM K7793).1.1) ((mget ((rdD t6186 x7794 z_Row).South) zHM K7793).1.2.1) (tag ((mget ((rdD t6186 x7794 z_Row).South) zHM K7793).1.2.2) (mget ((rdD t6186 x7794 z_Row).South) [] l7792)), knestO (aggI ints_A8_Int) vB K7793 l7792, knestO (aggI ints_A8_Int) vB ([] : List (A8_Int × (HM × List (Option (List (A8_Int × Bool)))))) ([] : List (A8_Int × List (Option (List (A8_Int × Bool))))), rowR enc_Tile A_p0 c_p0 p0] [blk g6194 (mapObj (aggI ints_A8_Int) slV (mput ((rdD t6186 x7794 z_Row).South) ((A7839, c7840, H7841), t7834) K7793)), blk g7803 (.cells #[(.slice ((H6193 x7794.toNat 0).1) ((rdD t6186 x7794 z_Row).Cells).length ((H6193 x7794.toNat 0).2)), (iv (((rdD t6186 x7794 z_Row).South).e0)), (iv (((rdD t6186 x7794 z_Row).South).e1)), (iv (((rdD t6186 x7794 z_Row).South).e2)), (iv (((rdD t6186 x7794 z_Row).South).e3)), (iv (((rdD t6186 x7794 z_Row).South).e4)), (iv (((rdD t6186 x7794 z_Row).South).e5)), (iv (((rdD t6186 x7794 z_Row).South).e6)), (iv (((rdD t6186 x7794 z_Row).South).e7)), (iv (((rdD t6186 x7794 z_Row).North).e0)), (iv (((rdD t6186 x7794 z_Row).North).e1)), (iv (((rdD t6186 x7794 z_Row).North).e2)), (iv (((rdD t6186 x7794 z_Row).North).e3)), (iv (((rdD t6186 x7794 z_Row).North).e4)), (iv (((rdD t6186 x7794 z_Row).North).e5)), (iv (((rdD t6186 x7794 z_Row).North).e6)), (iv (((rdD t6186 x7794 z_Row).North).e7)), (iv ((rdD t6186 x7794 z_Row).West)), (iv ((rdD t6186 x7794 z_Row).East))] 88 (0, 0)), blk g6008 (.cells #[(iv 0), (iv 0), (.slice none 0 0)] 38 (0, 0)), rowO 88 encN_Row A6191 c6192 (tag H6193 t6186), poolO [nestO subN_Row H6193 t6186], blk g6198 (.cells #[(iv p1), (iv p2), (.slice none 0 0)] 38 (0, 0))] := hS7845.addR _ (knestO.put (hS7845.rdL 4) ((rdD t6186 x7794 z_Row).South) (hS7845.rdL 0) (hS7845.rdL 1))
      refine ⟨trivial, ?_⟩
      refine WL.done rfl ?_
      injection hx7832 with hx7832
      exact WX.to Kx7831 ((mput ((rdD t6186 x7794 z_Row).South) t7834 l7792, t7834), mput ((rdD t6186 x7794 z_Row).South) ((A7839, c7840, H7841), t7834) K7793, A7839, c7840, H7841) [2, 6, 8, 9, 10, 12, 13, 26, 27, 28] rfl ⟨(hS7846.subR [0, 1, 2, 3, 4, 5, 6, 7]).sub [2, 3, 4, 0, 5, 1] (by decide), hx7832.symm⟩
     refine WC.condF2 (fun fb => by kernel_rfl) h7833 ?_
     refine WC.skip ?_
     injection hx7832 with hx7832
     exact WX.to Kx7831 ((l7792, (mget ((rdD t6186 x7794 z_Row).South) [] l7792)), K7793, (mget ((rdD t6186 x7794 z_Row).South) zHM K7793).1.1, (mget ((rdD t6186 x7794 z_Row).South) zHM K7793).1.2.1, ((mget ((rdD t6186 x7794 z_Row).South) zHM K7793).1.2.2)) [2, 6, 8, 9, 10, 12, 13, 26, 27, 28] rfl ⟨(hS7810.subR [2, 1, 0, 0, 1, 2, 3, 4]).sub [1, 2, 3, 4, 5, 0] (by decide), hx7832.symm⟩
    rintro ⟨y7850, K7826, A7827, c7828, H7830⟩ w7847 ⟨hS7848, hq7849⟩
    subst hq7849
    refine WX.next ?_
    refine WC.seq ?_
    refine WC.seq ?_
    obtain ⟨h7859, hl7800⟩ := as_some hl7800
    obtain ⟨m7860, hm7861, hl7800⟩ := bind_some hl7800
    refine WC.regionD ([(4, ((adr A7827).add ((w64 (p2 - 1)).toNat * 1)), (.map (some (H7830 (w64 (p2 - 1)).toNat)))), (6, ⟨g7803, 9, none⟩, (iv (((rdD t6186 x7794 z_Row).North).e0))), (6, ⟨g7803, 10, none⟩, (iv (((rdD t6186 x7794 z_Row).North).e1))), (6, ⟨g7803, 11, none⟩, (iv (((rdD t6186 x7794 z_Row).North).e2))), (6, ⟨g7803, 12, none⟩, (iv (((rdD t6186 x7794 z_Row).North).e3))), (6, ⟨g7803, 13, none⟩, (iv (((rdD t6186 x7794 z_Row).North).e4))), (6, ⟨g7803, 14, none⟩, (iv (((rdD t6186 x7794 z_Row).North).e5))), (6, ⟨g7803, 15, none⟩, (iv (((rdD t6186 x7794 z_Row).North).e6))), (6, ⟨g7803, 16, none⟩, (iv (((rdD t6186 x7794 z_Row).North).e7)))], [0, 1, 2, 3, 4, 5, 6, 8], [[], [], [1], [0, 1, 2], [0, 1, 2, 3], [], [5], [0, 1, 2, 3, 4, 5, 6], [0, 1, 2, 3, 4, 5, 6, 7]]) [[0, 1, 2, 3, 4, 5, 6, 7, 8]] (by kernel_rfl) (by kernel_rfl) (NoPanic.seq (NoPanic.seq (NoPanic.block (NoPanic.seq (NoPanic.seq (NoPanic.block (NoPanic.seq (NoPanic.scope (NoPanic.body))))))))) ?_
    have hS7855 := hS7848.drew
    revert hS7855
    generalize World.drew w7847 = w7854
    intro hS7855
    refine ⟨⟨nrow_cell (hS7855.rd 1).1 none h7859.1 h7859.2 0 (mapV_some hm7861), hS7855.cell 5 rfl 9 rfl, hS7855.cell 5 rfl 10 rfl, hS7855.cell 5 rfl 11 rfl, hS7855.cell 5 rfl 12 rfl, hS7855.cell 5 rfl 13 rfl, hS7855.cell 5 rfl 14 rfl, hS7855.cell 5 rfl 15 rfl, hS7855.cell 5 rfl 16 rfl, trivial⟩, forallC ?_ (forallN)⟩
    refine segF 7 [.v (.map (some (H7830 (w64 (p2 - 1)).toNat))), .v (iv (((rdD t6186 x7794 z_Row).North).e0)), .v (iv (((rdD t6186 x7794 z_Row).North).e1)), .v (iv (((rdD t6186 x7794 z_Row).North).e2)), .v (iv (((rdD t6186 x7794 z_Row).North).e3)), .v (iv (((rdD t6186 x7794 z_Row).North).e4)), .v (iv (((rdD t6186 x7794 z_Row).North).e5)), .v (iv (((rdD t6186 x7794 z_Row).North).e6)), .v (iv (((rdD t6186 x7794 z_Row).North).e7))] [2, 6, 8, 9, 10, 12, 13, 26, 27, 28, 55, 57] [(2, (iv p2)), (6, (pt g6008)), (8, (.slice A6191 t6186.length c6192)), (9, (.map (some g6194))), (10, (pt g6198)), (12, (pt g7803)), (13, (.slice A7827 x7831.2.length c7828)), (26, (.slice A6191 t6186.length c6192)), (27, (iv (t6186.length : Int))), (28, (iv x7794)), (55, (.map (some (H7830 (w64 (p2 - 1)).toNat)))), (57, (.agg #[(iv (((rdD t6186 x7794 z_Row).North).e0)), (iv (((rdD t6186 x7794 z_Row).North).e1)), (iv (((rdD t6186 x7794 z_Row).North).e2)), (iv (((rdD t6186 x7794 z_Row).North).e3)), (iv (((rdD t6186 x7794 z_Row).North).e4)), (iv (((rdD t6186 x7794 z_Row).North).e5)), (iv (((rdD t6186 x7794 z_Row).North).e6)), (iv (((rdD t6186 x7794 z_Row).North).e7))]))] [.idx A7827 (w64 (p2 - 1)) x7831.2.length] [0, 1, 2, 3, 4, 5, 6, 7, 8] [(4, ((adr A7827).add ((w64 (p2 - 1)).toNat * 1)), (.map (some (H7830 (w64 (p2 - 1)).toNat)))), (6, ⟨g7803, 9, none⟩, (iv (((rdD t6186 x7794 z_Row).North).e0))), (6, ⟨g7803, 10, none⟩, (iv (((rdD t6186 x7794 z_Row).North).e1))), (6, ⟨g7803, 11, none⟩, (iv (((rdD t6186 x7794 z_Row).North).e2))), (6, ⟨g7803, 12, none⟩, (iv (((rdD t6186 x7794 z_Row).North).e3))), (6, ⟨g7803, 13, none⟩, (iv (((rdD t6186 x7794 z_Row).North).e4))), (6, ⟨g7803, 14, none⟩, (iv (((rdD t6186 x7794 z_Row).North).e5))), (6, ⟨g7803, 15, none⟩, (iv (((rdD t6186 x7794 z_Row).North).e6))), (6, ⟨g7803, 16, none⟩, (iv (((rdD t6186 x7794 z_Row).North).e7)))] (fun fb => by kernel_rfl) rfl ⟨nrow_adr (hS7855.rd 1).1 h7859.1 h7859.2, trivial⟩ rfl ?_
    refine WL.lookup (mapsO.at (hS7855.rd 2).1 h7859.1 h7859.2 hm7861) ((rdD t6186 x7794 z_Row).North) (d := 58) (c := false) (t := 81) (kT := 86) (eT := 4) (z := false) (kE := (aggI ints_A8_Int)) (vE := vB) (l := m7860) (.bool (mget ((rdD t6186 x7794 z_Row).North) false m7860)) (fun fb => by kernel_rfl) torus_find_key86 (by kernel_rfl) (fun _ => by kernel_rfl) rfl ?_
    refine ⟨trivial, ?_⟩
    refine seg 9 [] [2, 6, 8, 9, 10, 12, 13, 26, 27, 28, 59] [(2, (iv p2)), (6, (pt g6008)), (8, (.slice A6191 t6186.length c6192)), (9, (.map (some g6194))), (10, (pt g6198)), (12, (pt g7803)), (13, (.slice A7827 x7831.2.length c7828)), (26, (.slice A6191 t6186.length c6192)), (27, (iv (t6186.length : Int))), (28, (iv x7794)), (59, (.bool (!(mget ((rdD t6186 x7794 z_Row).North) false m7860))))] [] (fun fb => by kernel_rfl) rfl trivial ?_
    refine WL.done rfl ?_
    refine WX.next ?_
    rcases br_some hl7800 with ⟨h7862, hl7800⟩ | ⟨h7862, hl7800⟩
    ·refine WC.condT2 (fun fb => by kernel_rfl) h7862 ?_
     refine WC.exit ?_
     refine WX.thenX (WX.blockHere (WX.next ?_))
     refine WC.region ?_
     refine seg 2 [] [2, 6, 8, 9, 10, 26, 27, 28] [(2, (iv p2)), (6, (pt g6008)), (8, (.slice A6191 t6186.length c6192)), (9, (.map (some g6194))), (10, (pt g6198)), (26, (.slice A6191 t6186.length c6192)), (27, (iv (t6186.length : Int))), (28, (iv (w64 (x7794 + 1))))] [] (fun fb => by kernel_rfl) rfl trivial ?_
     refine WL.done rfl ?_
     exact WX.again k7797 (Nat.lt_succ_self _) ((x7831.1, w64 (x7794 + 1)), K7826) [2, 6, 8, 9, 10, 26, 27, 28] rfl ⟨(hS7855.subR [0, 6, 7]).sub [0, 1, 2, 3, 4] (by decide), hl7800⟩
    refine WC.condF2 (fun fb => by kernel_rfl) h7862 ?_
    refine WC.skip ?_
    refine WX.next ?_
    refine WC.seq ?_
    refine WC.region ?_
    refine seg 4 [.v (.slice none 0 0), .v (.slice ((H6193 x7794.toNat 0).1) ((rdD t6186 x7794 z_Row).Cells).length ((H6193 x7794.toNat 0).2))] [2, 6, 8, 10, 12, 13, 61, 63] [(2, (iv p2)), (6, (pt g6008)), (8, (.slice A6191 t6186.length c6192)), (10, (pt g6198)), (12, (pt g7803)), (13, (.slice A7827 x7831.2.length c7828)), (61, (.slice none 0 0)), (63, (.slice ((H6193 x7794.toNat 0).1) ((rdD t6186 x7794 z_Row).Cells).length ((H6193 x7794.toNat 0).2)))] [.cell ⟨g6198, 2, none⟩ (.slice none 0 0), .cell ⟨g7803, 0, none⟩ (.slice ((H6193 x7794.toNat 0).1) ((rdD t6186 x7794 z_Row).Cells).length ((H6193 x7794.toNat 0).2))] (fun fb => by kernel_rfl) rfl ⟨hS7855.cell 4 rfl 2 rfl, hS7855.cell 5 rfl 0 rfl, trivial⟩ ?_
    have hS7863 := hS7855.nilrow 3 encInt
    obtain ⟨h7864, hl7800⟩ := as_some hl7800
    refine WL.append hS7863 0 (d := 64) (tS := 36) (z := (iv 0)) (bytes := 8) (c2 := (H6193 x7794.toNat 0).2) rfl (fun fb => by kernel_rfl) (nestO.at ((hS7863.own 3).1 0) z_Row h7802.1 h7802.2) (by kernel_rfl) (by kernel_rfl) rfl (by decide) h7864 (by decide) [1, 2, 3, 4, 5, 6] (by decide) (by decide) (fun A7865 c7866 w7867 hS7868 => ?_)
    refine ⟨trivial, ?_⟩
    refine seg 6 [] [2, 6, 8, 10, 12, 13, 64, 65] [(2, (iv p2)), (6, (pt g6008)), (8, (.slice A6191 t6186.length c6192)), (10, (pt g6198)), (12, (pt g7803)), (13, (.slice A7827 x7831.2.length c7828)), (64, (.slice A7865 (([] : List Int) ++ ((rdD t6186 x7794 z_Row).Cells)).length c7866)), (65, (.pointer (some ⟨g6198, 2, none⟩)))] [] (fun fb => by kernel_rfl) rfl trivial ?_
    refine WL.store hS7868 5 rfl [(2, (.slice A7865 (([] : List Int) ++ ((rdD t6186 x7794 z_Row).Cells)).length c7866))] #[(iv p1), (iv p2), (.slice A7865 (([] : List Int) ++ ((rdD t6186 x7794 z_Row).Cells)).length c7866)] (fun fb => by kernel_rfl) (by kernel_rfl) rfl [0, 1, 2, 3, 4, 6] (by decide) (by decide) (fun w7869 hS7870 => ?_)
    refine ⟨trivial, ?_⟩
    refine WL.done rfl ?_
    refine WX.next ?_
    refine WC.seq ?_
    refine WC.region ?_
    refine seg 2 [.v (iv (((rdD t6186 x7794 z_Row).North).e0)), .v (iv (((rdD t6186 x7794 z_Row).North).e1)), .v (iv (((rdD t6186 x7794 z_Row).North).e2)), .v (iv (((rdD t6186 x7794 z_Row).North).e3)), .v (iv (((rdD t6186 x7794 z_Row).North).e4)), .v (iv (((rdD t6186 x7794 z_Row).North).e5)), .v (iv (((rdD t6186 x7794 z_Row).North).e6)), .v (iv (((rdD t6186 x7794 z_Row).North).e7))] [2, 6, 8, 10, 13, 67] [(2, (iv p2)), (6, (pt g6008)), (8, (.slice A6191 t6186.length c6192)), (10, (pt g6198)), (13, (.slice A7827 x7831.2.length c7828)), (67, (.agg #[(iv (((rdD t6186 x7794 z_Row).North).e0)), (iv (((rdD t6186 x7794 z_Row).North).e1)), (iv (((rdD t6186 x7794 z_Row).North).e2)), (iv (((rdD t6186 x7794 z_Row).North).e3)), (iv (((rdD t6186 x7794 z_Row).North).e4)), (iv (((rdD t6186 x7794 z_Row).North).e5)), (iv (((rdD t6186 x7794 z_Row).North).e6)), (iv (((rdD t6186 x7794 z_Row).North).e7))]))] [.cell ⟨g7803, 9, none⟩ (iv (((rdD t6186 x7794 z_Row).North).e0)), .cell ⟨g7803, 10, none⟩ (iv (((rdD t6186 x7794 z_Row).North).e1)), .cell ⟨g7803, 11, none⟩ (iv (((rdD t6186 x7794 z_Row).North).e2)), .cell ⟨g7803, 12, none⟩ (iv (((rdD t6186 x7794 z_Row).North).e3)), .cell ⟨g7803, 13, none⟩ (iv (((rdD t6186 x7794 z_Row).North).e4)), .cell ⟨g7803, 14, none⟩ (iv (((rdD t6186 x7794 z_Row).North).e5)), .cell ⟨g7803, 15, none⟩ (iv (((rdD t6186 x7794 z_Row).North).e6)), .cell ⟨g7803, 16, none⟩ (iv (((rdD t6186 x7794 z_Row).North).e7))] (fun fb => by kernel_rfl) rfl ⟨hS7870.cell 6 rfl 9 rfl, hS7870.cell 6 rfl 10 rfl, hS7870.cell 6 rfl 11 rfl, hS7870.cell 6 rfl 12 rfl, hS7870.cell 6 rfl 13 rfl, hS7870.cell 6 rfl 14 rfl, hS7870.cell 6 rfl 15 rfl, hS7870.cell 6 rfl 16 rfl, trivial⟩ ?_
    refine WL.new hS7870 15 [] (fun g => (.pointer (some ⟨g, 0, none⟩))) (.cells #[(iv 0), (iv 0), (iv 0), (iv 0), (iv 0), (iv 0), (iv 0), (iv 0)] 86 (0, 0)) [] (fun fb g => by kernel_rfl) trivial (fun g7871 w7872 hS7873 => ?_)
    refine ⟨trivial, ?_⟩
    refine WL.store hS7873 0 rfl [(0, (iv (((rdD t6186 x7794 z_Row).North).e0))), (1, (iv (((rdD t6186 x7794 z_Row).North).e1))), (2, (iv (((rdD t6186 x7794 z_Row).North).e2))), (3, (iv (((rdD t6186 x7794 z_Row).North).e3))), (4, (iv (((rdD t6186 x7794 z_Row).North).e4))), (5, (iv (((rdD t6186 x7794 z_Row).North).e5))), (6, (iv (((rdD t6186 x7794 z_Row).North).e6))), (7, (iv (((rdD t6186 x7794 z_Row).North).e7)))] #[(iv (((rdD t6186 x7794 z_Row).North).e0)), (iv (((rdD t6186 x7794 z_Row).North).e1)), (iv (((rdD t6186 x7794 z_Row).North).e2)), (iv (((rdD t6186 x7794 z_Row).North).e3)), (iv (((rdD t6186 x7794 z_Row).North).e4)), (iv (((rdD t6186 x7794 z_Row).North).e5)), (iv (((rdD t6186 x7794 z_Row).North).e6)), (iv (((rdD t6186 x7794 z_Row).North).e7))] (fun fb => by kernel_rfl) (by kernel_rfl) rfl [1, 2, 3, 4, 5, 6, 7] (by decide) (by decide) (fun w7875 hS7876 => ?_)
    refine ⟨trivial, ?_⟩
    refine WL.done rfl ?_
    refine WX.next ?_
    refine WC.seq ?_
    refine WC.seq ?_
    refine WC.region ?_
    refine seg 3 [] [6, 8, 10, 13, 15, 16] [(6, (pt g6008)), (8, (.slice A6191 t6186.length c6192)), (10, (pt g6198)), (13, (.slice A7827 x7831.2.length c7828)), (15, (pt g7871)), (16, (iv (w64 (p2 - 2))))] [] (fun fb => by kernel_rfl) rfl trivial ?_
    refine WL.done rfl ?_
    refine WX.next ?_
    obtain ⟨x8242, hx8243, hl7800⟩ := bind_some hl7800
    refine WC.cutN (T := (List Int) × (Option Addr) × Nat) (fun t => [(6, (pt g6008)), (10, (pt g6198))]) (fun t w1 => St NoS w w1 [knestO (aggI ints_A8_Int) vB K7826 x7831.1, rowR (encMap A8_Int Bool) A7827 c7828 (tag H7830 x7831.2), mapsO (aggI ints_A8_Int) vB H7830 x7831.2, mapsO (aggI ints_A8_Int) vB ((mget ((rdD t6186 x7794 z_Row).South) zHM K7793).1.2.2) (mget ((rdD t6186 x7794 z_Row).South) [] l7792), rowR (encMap A8_Int Bool) ((mget ((rdD t6186 x7794 z_Row).South) zHM K7793).1.1) ((mget ((rdD t6186 x7794 z_Row).South) zHM K7793).1.2.1) (tag ((mget ((rdD t6186 x7794 z_Row).South) zHM K7793).1.2.2) (mget ((rdD t6186 x7794 z_Row).South) [] l7792)), knestO (aggI ints_A8_Int) vB K7793 l7792, knestO (aggI ints_A8_Int) vB ([] : List (A8_Int × (HM × List (Option (List (A8_Int × Bool)))))) ([] : List (A8_Int × List (Option (List (A8_Int × Bool))))), rowR enc_Tile A_p0 c_p0 p0] [blk g6008 (.cells #[(iv 0), (iv 0), (.slice none 0 0)] 38 (0, 0)), blk g6198 (.cells #[(iv p1), (iv p2), (.slice t.2.1 t.1.length t.2.2)] 38 (0, 0)), rowO 3 encInt t.2.1 t.2.2 t.1] ∧ x8242 = t.1) (fun Kx8242 => ?_) ?_
    ·
     refine WC.block ?_
     refine WC.loop (T := ((List Int) × A8_Int × Int) × (Option Addr) × Nat) (fun t => [(6, (pt g6008)), (8, (.slice A6191 t6186.length c6192)), (10, (pt g6198)), (13, (.slice A7827 x7831.2.length c7828)), (15, (pt g7871)), (16, (iv t.1.2.2))]) (fun n t w1 => St NoS w w1 [knestO (aggI ints_A8_Int) vB K7826 x7831.1, rowR (encMap A8_Int Bool) A7827 c7828 (tag H7830 x7831.2), mapsO (aggI ints_A8_Int) vB H7830 x7831.2, mapsO (aggI ints_A8_Int) vB ((mget ((rdD t6186 x7794 z_Row).South) zHM K7793).1.2.2) (mget ((rdD t6186 x7794 z_Row).South) [] l7792), rowR (encMap A8_Int Bool) ((mget ((rdD t6186 x7794 z_Row).South) zHM K7793).1.1) ((mget ((rdD t6186 x7794 z_Row).South) zHM K7793).1.2.1) (tag ((mget ((rdD t6186 x7794 z_Row).South) zHM K7793).1.2.2) (mget ((rdD t6186 x7794 z_Row).South) [] l7792)), knestO (aggI ints_A8_Int) vB K7793 l7792, knestO (aggI ints_A8_Int) vB ([] : List (A8_Int × (HM × List (Option (List (A8_Int × Bool)))))) ([] : List (A8_Int × List (Option (List (A8_Int × Bool))))), rowR enc_Tile A_p0 c_p0 p0] [blk g6008 (.cells #[(iv 0), (iv 0), (.slice none 0 0)] 38 (0, 0)), rowO 88 encN_Row A6191 c6192 (tag H6193 t6186), poolO [nestO subN_Row H6193 t6186], blk g6198 (.cells #[(iv p1), (iv p2), (.slice t.2.1 t.1.1.length t.2.2)] 38 (0, 0)), rowO 3 encInt t.2.1 t.2.2 t.1.1, blk g7871 (.cells #[(iv t.1.2.1.e0), (iv t.1.2.1.e1), (iv t.1.2.1.e2), (iv t.1.2.1.e3), (iv t.1.2.1.e4), (iv t.1.2.1.e5), (iv t.1.2.1.e6), (iv t.1.2.1.e7)] 86 (0, 0))] ∧ torus_find.l1 n t.1.1 t.1.2.1 t.1.2.2 t6186 x7831 = some x8242) k7797 ((([] : List Int) ++ ((rdD t6186 x7794 z_Row).Cells), ((rdD t6186 x7794 z_Row).North), w64 (p2 - 2)), A7865, c7866) [6, 8, 10, 13, 15, 16] rfl ⟨(hS7876.subR [0, 1, 2, 3, 4, 5, 6, 7]).sub [3, 4, 5, 1, 2, 0] (by decide), hx8243⟩ ?_
     rintro k8244 ⟨⟨l8236, a8237, x8238⟩, A8234, c8235⟩ w8245 ⟨hS8246, hl8247⟩
     cases k8244 with
     | zero => rw [torus_find.l1] at hl8247; cases hl8247
     | succ k8244 =>
      rw [torus_find.l1] at hl8247
      refine WC.seq ?_
      refine WC.seq ?_
      refine WC.region ?_
      refine seg 2 [] [6, 8, 10, 13, 15, 16, 71] [(6, (pt g6008)), (8, (.slice A6191 t6186.length c6192)), (10, (pt g6198)), (13, (.slice A7827 x7831.2.length c7828)), (15, (pt g7871)), (16, (iv x8238)), (71, (.bool (decide (x8238 ≥ 0))))] [] (fun fb => by kernel_rfl) rfl trivial ?_
      refine WL.done rfl ?_
      refine WX.next ?_
      rcases br_some hl8247 with ⟨h8248, hl8247⟩ | ⟨h8248, hl8247⟩
      ·refine WC.condT2 (fun fb => by kernel_rfl) h8248 ?_
       refine WC.skip ?_
       refine WX.next ?_
       refine WC.seq ?_
       refine WC.block ?_
       refine WC.scope ?_
       refine WC.seq ?_
       refine WC.label ?_
       refine WX.next ?_
       refine WC.seq ?_
       refine WC.region ?_
       refine seg 3 [] [6, 8, 10, 13, 15, 16, 74, 75, 76] [(6, (pt g6008)), (8, (.slice A6191 t6186.length c6192)), (10, (pt g6198)), (13, (.slice A7827 x7831.2.length c7828)), (15, (pt g7871)), (16, (iv x8238)), (74, (.slice A6191 t6186.length c6192)), (75, (iv (t6186.length : Int))), (76, (iv 0))] [] (fun fb => by kernel_rfl) rfl trivial ?_
       refine WL.done rfl ?_
       refine WX.next ?_
       obtain ⟨x8361, hx8362, hl8247⟩ := bind_some hl8247
       refine WC.cutN (T := ((List Int) × A8_Int) × (Option Addr) × Nat) (fun t => [(6, (pt g6008)), (8, (.slice A6191 t6186.length c6192)), (10, (pt g6198)), (13, (.slice A7827 x7831.2.length c7828)), (15, (pt g7871)), (16, (iv x8238))]) (fun t w1 => St NoS w w1 [knestO (aggI ints_A8_Int) vB K7826 x7831.1, rowR (encMap A8_Int Bool) A7827 c7828 (tag H7830 x7831.2), mapsO (aggI ints_A8_Int) vB H7830 x7831.2, mapsO (aggI ints_A8_Int) vB ((mget ((rdD t6186 x7794 z_Row).South) zHM K7793).1.2.2) (mget ((rdD t6186 x7794 z_Row).South) [] l7792), rowR (encMap A8_Int Bool) ((mget ((rdD t6186 x7794 z_Row).South) zHM K7793).1.1) ((mget ((rdD t6186 x7794 z_Row).South) zHM K7793).1.2.1) (tag ((mget ((rdD t6186 x7794 z_Row).South) zHM K7793).1.2.2) (mget ((rdD t6186 x7794 z_Row).South) [] l7792)), knestO (aggI ints_A8_Int) vB K7793 l7792, knestO (aggI ints_A8_Int) vB ([] : List (A8_Int × (HM × List (Option (List (A8_Int × Bool)))))) ([] : List (A8_Int × List (Option (List (A8_Int × Bool))))), rowR enc_Tile A_p0 c_p0 p0] [blk g6008 (.cells #[(iv 0), (iv 0), (.slice none 0 0)] 38 (0, 0)), rowO 88 encN_Row A6191 c6192 (tag H6193 t6186), poolO [nestO subN_Row H6193 t6186], blk g6198 (.cells #[(iv p1), (iv p2), (.slice t.2.1 t.1.1.length t.2.2)] 38 (0, 0)), rowO 3 encInt t.2.1 t.2.2 t.1.1, blk g7871 (.cells #[(iv t.1.2.e0), (iv t.1.2.e1), (iv t.1.2.e2), (iv t.1.2.e3), (iv t.1.2.e4), (iv t.1.2.e5), (iv t.1.2.e6), (iv t.1.2.e7)] 86 (0, 0))] ∧ x8361 = t.1) (fun Kx8361 => ?_) ?_
       ·
        refine WC.block ?_
        refine WC.loop (T := Int) (fun t => [(6, (pt g6008)), (8, (.slice A6191 t6186.length c6192)), (10, (pt g6198)), (13, (.slice A7827 x7831.2.length c7828)), (15, (pt g7871)), (16, (iv x8238)), (74, (.slice A6191 t6186.length c6192)), (75, (iv (t6186.length : Int))), (76, (iv t))]) (fun n t w1 => St NoS w w1 [knestO (aggI ints_A8_Int) vB K7826 x7831.1, rowR (encMap A8_Int Bool) A7827 c7828 (tag H7830 x7831.2), mapsO (aggI ints_A8_Int) vB H7830 x7831.2, mapsO (aggI ints_A8_Int) vB ((mget ((rdD t6186 x7794 z_Row).South) zHM K7793).1.2.2) (mget ((rdD t6186 x7794 z_Row).South) [] l7792), rowR (encMap A8_Int Bool) ((mget ((rdD t6186 x7794 z_Row).South) zHM K7793).1.1) ((mget ((rdD t6186 x7794 z_Row).South) zHM K7793).1.2.1) (tag ((mget ((rdD t6186 x7794 z_Row).South) zHM K7793).1.2.2) (mget ((rdD t6186 x7794 z_Row).South) [] l7792)), knestO (aggI ints_A8_Int) vB K7793 l7792, knestO (aggI ints_A8_Int) vB ([] : List (A8_Int × (HM × List (Option (List (A8_Int × Bool)))))) ([] : List (A8_Int × List (Option (List (A8_Int × Bool))))), rowR enc_Tile A_p0 c_p0 p0] [blk g6008 (.cells #[(iv 0), (iv 0), (.slice none 0 0)] 38 (0, 0)), rowO 88 encN_Row A6191 c6192 (tag H6193 t6186), poolO [nestO subN_Row H6193 t6186], blk g6198 (.cells #[(iv p1), (iv p2), (.slice A8234 l8236.length c8235)] 38 (0, 0)), rowO 3 encInt A8234 c8235 l8236, blk g7871 (.cells #[(iv a8237.e0), (iv a8237.e1), (iv a8237.e2), (iv a8237.e3), (iv a8237.e4), (iv a8237.e5), (iv a8237.e6), (iv a8237.e7)] 86 (0, 0))] ∧ torus_find.l2 n t t6186 x7831 l8236 a8237 x8238 = some x8361) k8244 0 [6, 8, 10, 13, 15, 16, 74, 75, 76] rfl ⟨(hS8246.subR [0, 1, 2, 3, 4, 5, 6, 7]).sub [0, 1, 2, 3, 4, 5] (by decide), hx8362⟩ ?_
        rintro k8363 x8356 w8364 ⟨hS8365, hl8366⟩
        cases k8363 with
        | zero => rw [torus_find.l2] at hl8366; cases hl8366
        | succ k8363 =>
         rw [torus_find.l2] at hl8366
         refine WC.seq ?_
         refine WC.region ?_
         refine seg 1 [] [6, 8, 10, 13, 15, 16, 74, 75, 76, 77] [(6, (pt g6008)), (8, (.slice A6191 t6186.length c6192)), (10, (pt g6198)), (13, (.slice A7827 x7831.2.length c7828)), (15, (pt g7871)), (16, (iv x8238)), (74, (.slice A6191 t6186.length c6192)), (75, (iv (t6186.length : Int))), (76, (iv x8356)), (77, (.bool (decide (x8356 < (t6186.length : Int)))))] [] (fun fb => by kernel_rfl) rfl trivial ?_
         refine WL.done rfl ?_
         refine WX.next ?_
         refine WC.seq ?_
         rcases br_some hl8366 with ⟨h8367, hl8366⟩ | ⟨h8367, hl8366⟩
         ·refine WC.condT2 (fun fb => by kernel_rfl) h8367 ?_
          refine WC.skip ?_
          refine WX.next ?_
          refine WC.seq ?_
          refine WC.block ?_
          refine WC.seq ?_
          refine WC.region ?_
          obtain ⟨h8368, hl8366⟩ := as_some hl8366
          refine seg 2 [.v (.slice ((H6193 x8356.toNat 0).1) ((rdD t6186 x8356 z_Row).Cells).length ((H6193 x8356.toNat 0).2)), .v (iv (((rdD t6186 x8356 z_Row).South).e0)), .v (iv (((rdD t6186 x8356 z_Row).South).e1)), .v (iv (((rdD t6186 x8356 z_Row).South).e2)), .v (iv (((rdD t6186 x8356 z_Row).South).e3)), .v (iv (((rdD t6186 x8356 z_Row).South).e4)), .v (iv (((rdD t6186 x8356 z_Row).South).e5)), .v (iv (((rdD t6186 x8356 z_Row).South).e6)), .v (iv (((rdD t6186 x8356 z_Row).South).e7)), .v (iv (((rdD t6186 x8356 z_Row).North).e0)), .v (iv (((rdD t6186 x8356 z_Row).North).e1)), .v (iv (((rdD t6186 x8356 z_Row).North).e2)), .v (iv (((rdD t6186 x8356 z_Row).North).e3)), .v (iv (((rdD t6186 x8356 z_Row).North).e4)), .v (iv (((rdD t6186 x8356 z_Row).North).e5)), .v (iv (((rdD t6186 x8356 z_Row).North).e6)), .v (iv (((rdD t6186 x8356 z_Row).North).e7)), .v (iv ((rdD t6186 x8356 z_Row).West)), .v (iv ((rdD t6186 x8356 z_Row).East))] [6, 8, 10, 13, 15, 16, 74, 75, 76, 79] [(6, (pt g6008)), (8, (.slice A6191 t6186.length c6192)), (10, (pt g6198)), (13, (.slice A7827 x7831.2.length c7828)), (15, (pt g7871)), (16, (iv x8238)), (74, (.slice A6191 t6186.length c6192)), (75, (iv (t6186.length : Int))), (76, (iv x8356)), (79, (.agg #[(.slice ((H6193 x8356.toNat 0).1) ((rdD t6186 x8356 z_Row).Cells).length ((H6193 x8356.toNat 0).2)), (iv (((rdD t6186 x8356 z_Row).South).e0)), (iv (((rdD t6186 x8356 z_Row).South).e1)), (iv (((rdD t6186 x8356 z_Row).South).e2)), (iv (((rdD t6186 x8356 z_Row).South).e3)), (iv (((rdD t6186 x8356 z_Row).South).e4)), (iv (((rdD t6186 x8356 z_Row).South).e5)), (iv (((rdD t6186 x8356 z_Row).South).e6)), (iv (((rdD t6186 x8356 z_Row).South).e7)), (iv (((rdD t6186 x8356 z_Row).North).e0)), (iv (((rdD t6186 x8356 z_Row).North).e1)), (iv (((rdD t6186 x8356 z_Row).North).e2)), (iv (((rdD t6186 x8356 z_Row).North).e3)), (iv (((rdD t6186 x8356 z_Row).North).e4)), (iv (((rdD t6186 x8356 z_Row).North).e5)), (iv (((rdD t6186 x8356 z_Row).North).e6)), (iv (((rdD t6186 x8356 z_Row).North).e7)), (iv ((rdD t6186 x8356 z_Row).West)), (iv ((rdD t6186 x8356 z_Row).East))]))] [.idx A6191 x8356 t6186.length, .cell ((adr A6191).add ((x8356).toNat * 19)) (.slice ((H6193 x8356.toNat 0).1) ((rdD t6186 x8356 z_Row).Cells).length ((H6193 x8356.toNat 0).2)), .cell (((adr A6191).add ((x8356).toNat * 19)).add 1) (iv (((rdD t6186 x8356 z_Row).South).e0)), .cell (((adr A6191).add ((x8356).toNat * 19)).add 2) (iv (((rdD t6186 x8356 z_Row).South).e1)), .cell (((adr A6191).add ((x8356).toNat * 19)).add 3) (iv (((rdD t6186 x8356 z_Row).South).e2)), .cell (((adr A6191).add ((x8356).toNat * 19)).add 4) (iv (((rdD t6186 x8356 z_Row).South).e3)), .cell (((adr A6191).add ((x8356).toNat * 19)).add 5) (iv (((rdD t6186 x8356 z_Row).South).e4)), .cell (((adr A6191).add ((x8356).toNat * 19)).add 6) (iv (((rdD t6186 x8356 z_Row).South).e5)), .cell (((adr A6191).add ((x8356).toNat * 19)).add 7) (iv (((rdD t6186 x8356 z_Row).South).e6)), .cell (((adr A6191).add ((x8356).toNat * 19)).add 8) (iv (((rdD t6186 x8356 z_Row).South).e7)), .cell (((adr A6191).add ((x8356).toNat * 19)).add 9) (iv (((rdD t6186 x8356 z_Row).North).e0)), .cell (((adr A6191).add ((x8356).toNat * 19)).add 10) (iv (((rdD t6186 x8356 z_Row).North).e1)), .cell (((adr A6191).add ((x8356).toNat * 19)).add 11) (iv (((rdD t6186 x8356 z_Row).North).e2)), .cell (((adr A6191).add ((x8356).toNat * 19)).add 12) (iv (((rdD t6186 x8356 z_Row).North).e3)), .cell (((adr A6191).add ((x8356).toNat * 19)).add 13) (iv (((rdD t6186 x8356 z_Row).North).e4)), .cell (((adr A6191).add ((x8356).toNat * 19)).add 14) (iv (((rdD t6186 x8356 z_Row).North).e5)), .cell (((adr A6191).add ((x8356).toNat * 19)).add 15) (iv (((rdD t6186 x8356 z_Row).North).e6)), .cell (((adr A6191).add ((x8356).toNat * 19)).add 16) (iv (((rdD t6186 x8356 z_Row).North).e7)), .cell (((adr A6191).add ((x8356).toNat * 19)).add 17) (iv ((rdD t6186 x8356 z_Row).West)), .cell (((adr A6191).add ((x8356).toNat * 19)).add 18) (iv ((rdD t6186 x8356 z_Row).East))] (fun fb => by kernel_rfl) rfl ⟨nrow_adr (rowO.rd (hS8365.own 1).1) h8368.1 h8368.2, nrow_cell (rowO.rd (hS8365.own 1).1) z_Row h8368.1 h8368.2 0 rfl, nrow_cell (rowO.rd (hS8365.own 1).1) z_Row h8368.1 h8368.2 1 rfl, nrow_cell (rowO.rd (hS8365.own 1).1) z_Row h8368.1 h8368.2 2 rfl, nrow_cell (rowO.rd (hS8365.own 1).1) z_Row h8368.1 h8368.2 3 rfl, nrow_cell (rowO.rd (hS8365.own 1).1) z_Row h8368.1 h8368.2 4 rfl, nrow_cell (rowO.rd (hS8365.own 1).1) z_Row h8368.1 h8368.2 5 rfl, nrow_cell (rowO.rd (hS8365.own 1).1) z_Row h8368.1 h8368.2 6 rfl, nrow_cell (rowO.rd (hS8365.own 1).1) z_Row h8368.1 h8368.2 7 rfl, nrow_cell (rowO.rd (hS8365.own 1).1) z_Row h8368.1 h8368.2 8 rfl, nrow_cell (rowO.rd (hS8365.own 1).1) z_Row h8368.1 h8368.2 9 rfl, nrow_cell (rowO.rd (hS8365.own 1).1) z_Row h8368.1 h8368.2 10 rfl, nrow_cell (rowO.rd (hS8365.own 1).1) z_Row h8368.1 h8368.2 11 rfl, nrow_cell (rowO.rd (hS8365.own 1).1) z_Row h8368.1 h8368.2 12 rfl, nrow_cell (rowO.rd (hS8365.own 1).1) z_Row h8368.1 h8368.2 13 rfl, nrow_cell (rowO.rd (hS8365.own 1).1) z_Row h8368.1 h8368.2 14 rfl, nrow_cell (rowO.rd (hS8365.own 1).1) z_Row h8368.1 h8368.2 15 rfl, nrow_cell (rowO.rd (hS8365.own 1).1) z_Row h8368.1 h8368.2 16 rfl, nrow_cell (rowO.rd (hS8365.own 1).1) z_Row h8368.1 h8368.2 17 rfl, nrow_cell (rowO.rd (hS8365.own 1).1) z_Row h8368.1 h8368.2 18 rfl, trivial⟩ ?_
          refine WL.new hS8365 18 [] (fun g => (.pointer (some ⟨g, 0, none⟩))) (.cells #[(.slice none 0 0), (iv 0), (iv 0), (iv 0), (iv 0), (iv 0), (iv 0), (iv 0), (iv 0), (iv 0), (iv 0), (iv 0), (iv 0), (iv 0), (iv 0), (iv 0), (iv 0), (iv 0), (iv 0)] 88 (0, 0)) [] (fun fb g => by kernel_rfl) trivial (fun g8369 w8370 hS8371 => ?_)
          refine ⟨trivial, ?_⟩
          refine WL.store hS8371 0 rfl [(0, (.slice ((H6193 x8356.toNat 0).1) ((rdD t6186 x8356 z_Row).Cells).length ((H6193 x8356.toNat 0).2))), (1, (iv (((rdD t6186 x8356 z_Row).South).e0))), (2, (iv (((rdD t6186 x8356 z_Row).South).e1))), (3, (iv (((rdD t6186 x8356 z_Row).South).e2))), (4, (iv (((rdD t6186 x8356 z_Row).South).e3))), (5, (iv (((rdD t6186 x8356 z_Row).South).e4))), (6, (iv (((rdD t6186 x8356 z_Row).South).e5))), (7, (iv (((rdD t6186 x8356 z_Row).South).e6))), (8, (iv (((rdD t6186 x8356 z_Row).South).e7))), (9, (iv (((rdD t6186 x8356 z_Row).North).e0))), (10, (iv (((rdD t6186 x8356 z_Row).North).e1))), (11, (iv (((rdD t6186 x8356 z_Row).North).e2))), (12, (iv (((rdD t6186 x8356 z_Row).North).e3))), (13, (iv (((rdD t6186 x8356 z_Row).North).e4))), (14, (iv (((rdD t6186 x8356 z_Row).North).e5))), (15, (iv (((rdD t6186 x8356 z_Row).North).e6))), (16, (iv (((rdD t6186 x8356 z_Row).North).e7))), (17, (iv ((rdD t6186 x8356 z_Row).West))), (18, (iv ((rdD t6186 x8356 z_Row).East)))] #[(.slice ((H6193 x8356.toNat 0).1) ((rdD t6186 x8356 z_Row).Cells).length ((H6193 x8356.toNat 0).2)), (iv (((rdD t6186 x8356 z_Row).South).e0)), (iv (((rdD t6186 x8356 z_Row).South).e1)), (iv (((rdD t6186 x8356 z_Row).South).e2)), (iv (((rdD t6186 x8356 z_Row).South).e3)), (iv (((rdD t6186 x8356 z_Row).South).e4)), (iv (((rdD t6186 x8356 z_Row).South).e5)), (iv (((rdD t6186 x8356 z_Row).South).e6)), (iv (((rdD t6186 x8356 z_Row).South).e7)), (iv (((rdD t6186 x8356 z_Row).North).e0)), (iv (((rdD t6186 x8356 z_Row).North).e1)), (iv (((rdD t6186 x8356 z_Row).North).e2)), (iv (((rdD t6186 x8356 z_Row).North).e3)), (iv (((rdD t6186 x8356 z_Row).North).e4)), (iv (((rdD t6186 x8356 z_Row).North).e5)), (iv (((rdD t6186 x8356 z_Row).North).e6)), (iv (((rdD t6186 x8356 z_Row).North).e7)), (iv ((rdD t6186 x8356 z_Row).West)), (iv ((rdD t6186 x8356 z_Row).East))] (fun fb => by kernel_rfl) (by kernel_rfl) (by kernel_rfl) [1, 2, 3, 4, 5, 6] (by decide) (by decide) (fun w8373 hS8374 => ?_)
          refine ⟨trivial, ?_⟩
          refine WL.done rfl ?_
          refine WX.next ?_
          refine WC.seq ?_
          obtain ⟨x8390, hx8391, hl8366⟩ := bind_some hl8366
          refine WC.cutN (T := Bool) (fun t => [(6, (pt g6008)), (8, (.slice A6191 t6186.length c6192)), (10, (pt g6198)), (13, (.slice A7827 x7831.2.length c7828)), (15, (pt g7871)), (16, (iv x8238)), (18, (pt g8369)), (74, (.slice A6191 t6186.length c6192)), (75, (iv (t6186.length : Int))), (76, (iv x8356)), (92, (.bool t))]) (fun t w1 => St NoS w w1 [knestO (aggI ints_A8_Int) vB K7826 x7831.1, rowR (encMap A8_Int Bool) A7827 c7828 (tag H7830 x7831.2), mapsO (aggI ints_A8_Int) vB H7830 x7831.2, mapsO (aggI ints_A8_Int) vB ((mget ((rdD t6186 x7794 z_Row).South) zHM K7793).1.2.2) (mget ((rdD t6186 x7794 z_Row).South) [] l7792), rowR (encMap A8_Int Bool) ((mget ((rdD t6186 x7794 z_Row).South) zHM K7793).1.1) ((mget ((rdD t6186 x7794 z_Row).South) zHM K7793).1.2.1) (tag ((mget ((rdD t6186 x7794 z_Row).South) zHM K7793).1.2.2) (mget ((rdD t6186 x7794 z_Row).South) [] l7792)), knestO (aggI ints_A8_Int) vB K7793 l7792, knestO (aggI ints_A8_Int) vB ([] : List (A8_Int × (HM × List (Option (List (A8_Int × Bool)))))) ([] : List (A8_Int × List (Option (List (A8_Int × Bool))))), rowR enc_Tile A_p0 c_p0 p0] [blk g6008 (.cells #[(iv 0), (iv 0), (.slice none 0 0)] 38 (0, 0)), rowO 88 encN_Row A6191 c6192 (tag H6193 t6186), poolO [nestO subN_Row H6193 t6186], blk g6198 (.cells #[(iv p1), (iv p2), (.slice A8234 l8236.length c8235)] 38 (0, 0)), rowO 3 encInt A8234 c8235 l8236, blk g7871 (.cells #[(iv a8237.e0), (iv a8237.e1), (iv a8237.e2), (iv a8237.e3), (iv a8237.e4), (iv a8237.e5), (iv a8237.e6), (iv a8237.e7)] 86 (0, 0)), blk g8369 (.cells #[(.slice ((H6193 x8356.toNat 0).1) ((rdD t6186 x8356 z_Row).Cells).length ((H6193 x8356.toNat 0).2)), (iv (((rdD t6186 x8356 z_Row).South).e0)), (iv (((rdD t6186 x8356 z_Row).South).e1)), (iv (((rdD t6186 x8356 z_Row).South).e2)), (iv (((rdD t6186 x8356 z_Row).South).e3)), (iv (((rdD t6186 x8356 z_Row).South).e4)), (iv (((rdD t6186 x8356 z_Row).South).e5)), (iv (((rdD t6186 x8356 z_Row).South).e6)), (iv (((rdD t6186 x8356 z_Row).South).e7)), (iv (((rdD t6186 x8356 z_Row).North).e0)), (iv (((rdD t6186 x8356 z_Row).North).e1)), (iv (((rdD t6186 x8356 z_Row).North).e2)), (iv (((rdD t6186 x8356 z_Row).North).e3)), (iv (((rdD t6186 x8356 z_Row).North).e4)), (iv (((rdD t6186 x8356 z_Row).North).e5)), (iv (((rdD t6186 x8356 z_Row).North).e6)), (iv (((rdD t6186 x8356 z_Row).North).e7)), (iv ((rdD t6186 x8356 z_Row).West)), (iv ((rdD t6186 x8356 z_Row).East))] 88 (0, 0))] ∧ x8390 = t) (fun Kx8390 => ?_) ?_
          ·
           rcases br_some hx8391 with ⟨h8392, hx8391⟩ | ⟨h8392, hx8391⟩
           ·
            obtain ⟨h8401, hx8391⟩ := as_some hx8391
            obtain ⟨m8402, hm8403, hx8391⟩ := bind_some hx8391
            refine WC.regionD ([(1, ⟨g8369, 1, none⟩, (iv (((rdD t6186 x8356 z_Row).South).e0))), (1, ⟨g8369, 2, none⟩, (iv (((rdD t6186 x8356 z_Row).South).e1))), (1, ⟨g8369, 3, none⟩, (iv (((rdD t6186 x8356 z_Row).South).e2))), (1, ⟨g8369, 4, none⟩, (iv (((rdD t6186 x8356 z_Row).South).e3))), (1, ⟨g8369, 5, none⟩, (iv (((rdD t6186 x8356 z_Row).South).e4))), (1, ⟨g8369, 6, none⟩, (iv (((rdD t6186 x8356 z_Row).South).e5))), (1, ⟨g8369, 7, none⟩, (iv (((rdD t6186 x8356 z_Row).South).e6))), (1, ⟨g8369, 8, none⟩, (iv (((rdD t6186 x8356 z_Row).South).e7))), (2, ⟨g7871, 0, none⟩, (iv a8237.e0)), (2, ⟨g7871, 1, none⟩, (iv a8237.e1)), (2, ⟨g7871, 2, none⟩, (iv a8237.e2)), (2, ⟨g7871, 3, none⟩, (iv a8237.e3)), (2, ⟨g7871, 4, none⟩, (iv a8237.e4)), (2, ⟨g7871, 5, none⟩, (iv a8237.e5)), (2, ⟨g7871, 6, none⟩, (iv a8237.e6)), (2, ⟨g7871, 7, none⟩, (iv a8237.e7)), (8, ((adr A7827).add ((x8238).toNat * 1)), (.map (some (H7830 x8238.toNat)))), (10, ⟨g8369, 9, none⟩, (iv (((rdD t6186 x8356 z_Row).North).e0))), (10, ⟨g8369, 10, none⟩, (iv (((rdD t6186 x8356 z_Row).North).e1))), (10, ⟨g8369, 11, none⟩, (iv (((rdD t6186 x8356 z_Row).North).e2))), (10, ⟨g8369, 12, none⟩, (iv (((rdD t6186 x8356 z_Row).North).e3))), (10, ⟨g8369, 13, none⟩, (iv (((rdD t6186 x8356 z_Row).North).e4))), (10, ⟨g8369, 14, none⟩, (iv (((rdD t6186 x8356 z_Row).North).e5))), (10, ⟨g8369, 15, none⟩, (iv (((rdD t6186 x8356 z_Row).North).e6))), (10, ⟨g8369, 16, none⟩, (iv (((rdD t6186 x8356 z_Row).North).e7)))], [0, 1, 2, 3, 4, 5, 6, 7, 8, 9, 10, 12], [[], [0], [], [0, 1, 2], [0, 1, 2, 3], [0, 1, 2, 3, 4], [0, 1, 2, 3, 4], [0, 1, 2, 3, 4, 5, 6], [0, 1, 2, 3, 4, 5, 6, 7], [0, 1, 2, 3, 4], [0, 1, 2, 3, 4, 9], [0, 1, 2, 3, 4, 5, 6, 7, 8, 9, 10], [0, 1, 2, 3, 4, 5, 6, 7, 8, 9, 10, 11]]) [[0, 1, 2, 3, 4, 5, 6, 7, 8, 9, 10, 11, 12]] (by kernel_rfl) (by kernel_rfl) (NoPanic.seq (NoPanic.block (NoPanic.seq (NoPanic.seq (NoPanic.block (NoPanic.scope (NoPanic.block (NoPanic.seq (NoPanic.seq (NoPanic.block (NoPanic.seq (NoPanic.block (NoPanic.seq (NoPanic.seq (NoPanic.block (NoPanic.seq (NoPanic.scope (NoPanic.body)))))))))))))))))) ?_
            have hS8397 := hS8374.drew
            revert hS8397
            generalize World.drew w8373 = w8396
            intro hS8397
            refine ⟨⟨hS8397.cell 0 rfl 1 rfl, hS8397.cell 0 rfl 2 rfl, hS8397.cell 0 rfl 3 rfl, hS8397.cell 0 rfl 4 rfl, hS8397.cell 0 rfl 5 rfl, hS8397.cell 0 rfl 6 rfl, hS8397.cell 0 rfl 7 rfl, hS8397.cell 0 rfl 8 rfl, hS8397.cell 6 rfl 0 rfl, hS8397.cell 6 rfl 1 rfl, hS8397.cell 6 rfl 2 rfl, hS8397.cell 6 rfl 3 rfl, hS8397.cell 6 rfl 4 rfl, hS8397.cell 6 rfl 5 rfl, hS8397.cell 6 rfl 6 rfl, hS8397.cell 6 rfl 7 rfl, nrow_cell (hS8397.rd 1).1 none h8401.1 h8401.2 0 (mapV_some hm8403), hS8397.cell 0 rfl 9 rfl, hS8397.cell 0 rfl 10 rfl, hS8397.cell 0 rfl 11 rfl, hS8397.cell 0 rfl 12 rfl, hS8397.cell 0 rfl 13 rfl, hS8397.cell 0 rfl 14 rfl, hS8397.cell 0 rfl 15 rfl, hS8397.cell 0 rfl 16 rfl, trivial⟩, forallC ?_ (forallN)⟩
            refine segF 5 [.v (iv (((rdD t6186 x8356 z_Row).South).e0)), .v (iv (((rdD t6186 x8356 z_Row).South).e1)), .v (iv (((rdD t6186 x8356 z_Row).South).e2)), .v (iv (((rdD t6186 x8356 z_Row).South).e3)), .v (iv (((rdD t6186 x8356 z_Row).South).e4)), .v (iv (((rdD t6186 x8356 z_Row).South).e5)), .v (iv (((rdD t6186 x8356 z_Row).South).e6)), .v (iv (((rdD t6186 x8356 z_Row).South).e7)), .v (iv a8237.e0), .v (iv a8237.e1), .v (iv a8237.e2), .v (iv a8237.e3), .v (iv a8237.e4), .v (iv a8237.e5), .v (iv a8237.e6), .v (iv a8237.e7)] [6, 8, 10, 13, 15, 16, 18, 74, 75, 76, 84] [(6, (pt g6008)), (8, (.slice A6191 t6186.length c6192)), (10, (pt g6198)), (13, (.slice A7827 x7831.2.length c7828)), (15, (pt g7871)), (16, (iv x8238)), (18, (pt g8369)), (74, (.slice A6191 t6186.length c6192)), (75, (iv (t6186.length : Int))), (76, (iv x8356)), (84, (.bool ((((rdD t6186 x8356 z_Row).South).e0) == a8237.e0 && ((((rdD t6186 x8356 z_Row).South).e1) == a8237.e1 && ((((rdD t6186 x8356 z_Row).South).e2) == a8237.e2 && ((((rdD t6186 x8356 z_Row).South).e3) == a8237.e3 && ((((rdD t6186 x8356 z_Row).South).e4) == a8237.e4 && ((((rdD t6186 x8356 z_Row).South).e5) == a8237.e5 && ((((rdD t6186 x8356 z_Row).South).e6) == a8237.e6 && ((((rdD t6186 x8356 z_Row).South).e7) == a8237.e7))))))))))] [] [0, 1, 2, 3, 4, 5, 6, 7, 8, 9, 10, 11, 12, 13, 14, 15] [(1, ⟨g8369, 1, none⟩, (iv (((rdD t6186 x8356 z_Row).South).e0))), (1, ⟨g8369, 2, none⟩, (iv (((rdD t6186 x8356 z_Row).South).e1))), (1, ⟨g8369, 3, none⟩, (iv (((rdD t6186 x8356 z_Row).South).e2))), (1, ⟨g8369, 4, none⟩, (iv (((rdD t6186 x8356 z_Row).South).e3))), (1, ⟨g8369, 5, none⟩, (iv (((rdD t6186 x8356 z_Row).South).e4))), (1, ⟨g8369, 6, none⟩, (iv (((rdD t6186 x8356 z_Row).South).e5))), (1, ⟨g8369, 7, none⟩, (iv (((rdD t6186 x8356 z_Row).South).e6))), (1, ⟨g8369, 8, none⟩, (iv (((rdD t6186 x8356 z_Row).South).e7))), (2, ⟨g7871, 0, none⟩, (iv a8237.e0)), (2, ⟨g7871, 1, none⟩, (iv a8237.e1)), (2, ⟨g7871, 2, none⟩, (iv a8237.e2)), (2, ⟨g7871, 3, none⟩, (iv a8237.e3)), (2, ⟨g7871, 4, none⟩, (iv a8237.e4)), (2, ⟨g7871, 5, none⟩, (iv a8237.e5)), (2, ⟨g7871, 6, none⟩, (iv a8237.e6)), (2, ⟨g7871, 7, none⟩, (iv a8237.e7))] (fun fb => by kernel_rfl) rfl trivial rfl ?_
            refine WL.setB 84 h8392 rfl ?_
            refine segF 11 [.v (.map (some (H7830 x8238.toNat))), .v (iv (((rdD t6186 x8356 z_Row).North).e0)), .v (iv (((rdD t6186 x8356 z_Row).North).e1)), .v (iv (((rdD t6186 x8356 z_Row).North).e2)), .v (iv (((rdD t6186 x8356 z_Row).North).e3)), .v (iv (((rdD t6186 x8356 z_Row).North).e4)), .v (iv (((rdD t6186 x8356 z_Row).North).e5)), .v (iv (((rdD t6186 x8356 z_Row).North).e6)), .v (iv (((rdD t6186 x8356 z_Row).North).e7))] [6, 8, 10, 13, 15, 16, 18, 74, 75, 76, 84, 88, 90] [(6, (pt g6008)), (8, (.slice A6191 t6186.length c6192)), (10, (pt g6198)), (13, (.slice A7827 x7831.2.length c7828)), (15, (pt g7871)), (16, (iv x8238)), (18, (pt g8369)), (74, (.slice A6191 t6186.length c6192)), (75, (iv (t6186.length : Int))), (76, (iv x8356)), (84, (.bool true)), (88, (.map (some (H7830 x8238.toNat)))), (90, (.agg #[(iv (((rdD t6186 x8356 z_Row).North).e0)), (iv (((rdD t6186 x8356 z_Row).North).e1)), (iv (((rdD t6186 x8356 z_Row).North).e2)), (iv (((rdD t6186 x8356 z_Row).North).e3)), (iv (((rdD t6186 x8356 z_Row).North).e4)), (iv (((rdD t6186 x8356 z_Row).North).e5)), (iv (((rdD t6186 x8356 z_Row).North).e6)), (iv (((rdD t6186 x8356 z_Row).North).e7))]))] [.idx A7827 x8238 x7831.2.length] [16, 17, 18, 19, 20, 21, 22, 23, 24] [(8, ((adr A7827).add ((x8238).toNat * 1)), (.map (some (H7830 x8238.toNat)))), (10, ⟨g8369, 9, none⟩, (iv (((rdD t6186 x8356 z_Row).North).e0))), (10, ⟨g8369, 10, none⟩, (iv (((rdD t6186 x8356 z_Row).North).e1))), (10, ⟨g8369, 11, none⟩, (iv (((rdD t6186 x8356 z_Row).North).e2))), (10, ⟨g8369, 12, none⟩, (iv (((rdD t6186 x8356 z_Row).North).e3))), (10, ⟨g8369, 13, none⟩, (iv (((rdD t6186 x8356 z_Row).North).e4))), (10, ⟨g8369, 14, none⟩, (iv (((rdD t6186 x8356 z_Row).North).e5))), (10, ⟨g8369, 15, none⟩, (iv (((rdD t6186 x8356 z_Row).North).e6))), (10, ⟨g8369, 16, none⟩, (iv (((rdD t6186 x8356 z_Row).North).e7)))] (fun fb => by kernel_rfl) rfl ⟨nrow_adr (hS8397.rd 1).1 h8401.1 h8401.2, trivial⟩ rfl ?_
            refine WL.lookup (mapsO.at (hS8397.rd 2).1 h8401.1 h8401.2 hm8403) ((rdD t6186 x8356 z_Row).North) (d := 91) (c := false) (t := 81) (kT := 86) (eT := 4) (z := false) (kE := (aggI ints_A8_Int)) (vE := vB) (l := m8402) (.bool (mget ((rdD t6186 x8356 z_Row).North) false m8402)) (fun fb => by kernel_rfl) torus_find_key86 (by kernel_rfl) (fun _ => by kernel_rfl) rfl ?_
            refine ⟨trivial, ?_⟩
            refine seg 13 [] [6, 8, 10, 13, 15, 16, 18, 74, 75, 76, 92] [(6, (pt g6008)), (8, (.slice A6191 t6186.length c6192)), (10, (pt g6198)), (13, (.slice A7827 x7831.2.length c7828)), (15, (pt g7871)), (16, (iv x8238)), (18, (pt g8369)), (74, (.slice A6191 t6186.length c6192)), (75, (iv (t6186.length : Int))), (76, (iv x8356)), (92, (.bool (mget ((rdD t6186 x8356 z_Row).North) false m8402)))] [] (fun fb => by kernel_rfl) rfl trivial ?_
            refine WL.done rfl ?_
            injection hx8391 with hx8391
            exact WX.to Kx8390 (mget ((rdD t6186 x8356 z_Row).North) false m8402) [6, 8, 10, 13, 15, 16, 18, 74, 75, 76, 92] rfl ⟨(hS8397.subR [0, 1, 2, 3, 4, 5, 6, 7]).sub [1, 2, 3, 4, 5, 6, 0] (by decide), hx8391.symm⟩
           refine WC.regionD ([(1, ⟨g8369, 1, none⟩, (iv (((rdD t6186 x8356 z_Row).South).e0))), (1, ⟨g8369, 2, none⟩, (iv (((rdD t6186 x8356 z_Row).South).e1))), (1, ⟨g8369, 3, none⟩, (iv (((rdD t6186 x8356 z_Row).South).e2))), (1, ⟨g8369, 4, none⟩, (iv (((rdD t6186 x8356 z_Row).South).e3))), (1, ⟨g8369, 5, none⟩, (iv (((rdD t6186 x8356 z_Row).South).e4))), (1, ⟨g8369, 6, none⟩, (iv (((rdD t6186 x8356 z_Row).South).e5))), (1, ⟨g8369, 7, none⟩, (iv (((rdD t6186 x8356 z_Row).South).e6))), (1, ⟨g8369, 8, none⟩, (iv (((rdD t6186 x8356 z_Row).South).e7))), (2, ⟨g7871, 0, none⟩, (iv a8237.e0)), (2, ⟨g7871, 1, none⟩, (iv a8237.e1)), (2, ⟨g7871, 2, none⟩, (iv a8237.e2)), (2, ⟨g7871, 3, none⟩, (iv a8237.e3)), (2, ⟨g7871, 4, none⟩, (iv a8237.e4)), (2, ⟨g7871, 5, none⟩, (iv a8237.e5)), (2, ⟨g7871, 6, none⟩, (iv a8237.e6)), (2, ⟨g7871, 7, none⟩, (iv a8237.e7))], [0, 1, 2, 3, 4, 5, 6, 7, 8, 9, 10, 12], [[], [0], [], [0, 1, 2], [0, 1, 2, 3], [0, 1, 2, 3, 4], [0, 1, 2, 3, 4], [0, 1, 2, 3, 4, 5, 6], [0, 1, 2, 3, 4, 5, 6, 7], [0, 1, 2, 3, 4], [0, 1, 2, 3, 4, 9], [0, 1, 2, 3, 4, 5, 6, 7, 8, 9, 10], [0, 1, 2, 3, 4, 5, 6, 7, 8, 9, 10, 11]]) [[0, 1, 2, 3, 4, 5, 6, 7, 8, 9, 10, 11, 12]] (by kernel_rfl) (by kernel_rfl) (NoPanic.seq (NoPanic.block (NoPanic.seq (NoPanic.seq (NoPanic.block (NoPanic.scope (NoPanic.block (NoPanic.seq (NoPanic.seq (NoPanic.block (NoPanic.seq (NoPanic.block (NoPanic.seq (NoPanic.seq (NoPanic.block (NoPanic.seq (NoPanic.scope (NoPanic.body)))))))))))))))))) ?_
           have hS8405 := hS8374.drew
           revert hS8405
           generalize World.drew w8373 = w8404
           intro hS8405
           refine ⟨⟨hS8405.cell 0 rfl 1 rfl, hS8405.cell 0 rfl 2 rfl, hS8405.cell 0 rfl 3 rfl, hS8405.cell 0 rfl 4 rfl, hS8405.cell 0 rfl 5 rfl, hS8405.cell 0 rfl 6 rfl, hS8405.cell 0 rfl 7 rfl, hS8405.cell 0 rfl 8 rfl, hS8405.cell 6 rfl 0 rfl, hS8405.cell 6 rfl 1 rfl, hS8405.cell 6 rfl 2 rfl, hS8405.cell 6 rfl 3 rfl, hS8405.cell 6 rfl 4 rfl, hS8405.cell 6 rfl 5 rfl, hS8405.cell 6 rfl 6 rfl, hS8405.cell 6 rfl 7 rfl, trivial⟩, forallC ?_ (forallN)⟩
           refine segF 5 [.v (iv (((rdD t6186 x8356 z_Row).South).e0)), .v (iv (((rdD t6186 x8356 z_Row).South).e1)), .v (iv (((rdD t6186 x8356 z_Row).South).e2)), .v (iv (((rdD t6186 x8356 z_Row).South).e3)), .v (iv (((rdD t6186 x8356 z_Row).South).e4)), .v (iv (((rdD t6186 x8356 z_Row).South).e5)), .v (iv (((rdD t6186 x8356 z_Row).South).e6)), .v (iv (((rdD t6186 x8356 z_Row).South).e7)), .v (iv a8237.e0), .v (iv a8237.e1), .v (iv a8237.e2), .v (iv a8237.e3), .v (iv a8237.e4), .v (iv a8237.e5), .v (iv a8237.e6), .v (iv a8237.e7)] [6, 8, 10, 13, 15, 16, 18, 74, 75, 76, 84] [(6, (pt g6008)), (8, (.slice A6191 t6186.length c6192)), (10, (pt g6198)), (13, (.slice A7827 x7831.2.length c7828)), (15, (pt g7871)), (16, (iv x8238)), (18, (pt g8369)), (74, (.slice A6191 t6186.length c6192)), (75, (iv (t6186.length : Int))), (76, (iv x8356)), (84, (.bool ((((rdD t6186 x8356 z_Row).South).e0) == a8237.e0 && ((((rdD t6186 x8356 z_Row).South).e1) == a8237.e1 && ((((rdD t6186 x8356 z_Row).South).e2) == a8237.e2 && ((((rdD t6186 x8356 z_Row).South).e3) == a8237.e3 && ((((rdD t6186 x8356 z_Row).South).e4) == a8237.e4 && ((((rdD t6186 x8356 z_Row).South).e5) == a8237.e5 && ((((rdD t6186 x8356 z_Row).South).e6) == a8237.e6 && ((((rdD t6186 x8356 z_Row).South).e7) == a8237.e7))))))))))] [] [0, 1, 2, 3, 4, 5, 6, 7, 8, 9, 10, 11, 12, 13, 14, 15] [(1, ⟨g8369, 1, none⟩, (iv (((rdD t6186 x8356 z_Row).South).e0))), (1, ⟨g8369, 2, none⟩, (iv (((rdD t6186 x8356 z_Row).South).e1))), (1, ⟨g8369, 3, none⟩, (iv (((rdD t6186 x8356 z_Row).South).e2))), (1, ⟨g8369, 4, none⟩, (iv (((rdD t6186 x8356 z_Row).South).e3))), (1, ⟨g8369, 5, none⟩, (iv (((rdD t6186 x8356 z_Row).South).e4))), (1, ⟨g8369, 6, none⟩, (iv (((rdD t6186 x8356 z_Row).South).e5))), (1, ⟨g8369, 7, none⟩, (iv (((rdD t6186 x8356 z_Row).South).e6))), (1, ⟨g8369, 8, none⟩, (iv (((rdD t6186 x8356 z_Row).South).e7))), (2, ⟨g7871, 0, none⟩, (iv a8237.e0)), (2, ⟨g7871, 1, none⟩, (iv a8237.e1)), (2, ⟨g7871, 2, none⟩, (iv a8237.e2)), (2, ⟨g7871, 3, none⟩, (iv a8237.e3)), (2, ⟨g7871, 4, none⟩, (iv a8237.e4)), (2, ⟨g7871, 5, none⟩, (iv a8237.e5)), (2, ⟨g7871, 6, none⟩, (iv a8237.e6)), (2, ⟨g7871, 7, none⟩, (iv a8237.e7))] (fun fb => by kernel_rfl) rfl trivial rfl ?_
           refine WL.setB 84 h8392 rfl ?_
           refine seg 13 [] [6, 8, 10, 13, 15, 16, 18, 74, 75, 76, 92] [(6, (pt g6008)), (8, (.slice A6191 t6186.length c6192)), (10, (pt g6198)), (13, (.slice A7827 x7831.2.length c7828)), (15, (pt g7871)), (16, (iv x8238)), (18, (pt g8369)), (74, (.slice A6191 t6186.length c6192)), (75, (iv (t6186.length : Int))), (76, (iv x8356)), (92, (.bool false))] [] (fun fb => by kernel_rfl) rfl trivial ?_
           refine WL.done rfl ?_
           injection hx8391 with hx8391
           exact WX.to Kx8390 false [6, 8, 10, 13, 15, 16, 18, 74, 75, 76, 92] rfl ⟨(hS8405.subR [0, 1, 2, 3, 4, 5, 6, 7]).sub [1, 2, 3, 4, 5, 6, 0] (by decide), hx8391.symm⟩
          rintro y8409 w8406 ⟨hS8407, hq8408⟩
          subst hq8408
          refine WX.next ?_
          rcases br_some hl8366 with ⟨h8410, hl8366⟩ | ⟨h8410, hl8366⟩
          ·refine WC.condT2 (fun fb => by kernel_rfl) h8410 ?_
           refine WC.seq ?_
           refine WC.region ?_
           refine seg 4 [.v (.slice A8234 l8236.length c8235), .v (.slice ((H6193 x8356.toNat 0).1) ((rdD t6186 x8356 z_Row).Cells).length ((H6193 x8356.toNat 0).2))] [6, 8, 10, 13, 15, 16, 18, 94, 96] [(6, (pt g6008)), (8, (.slice A6191 t6186.length c6192)), (10, (pt g6198)), (13, (.slice A7827 x7831.2.length c7828)), (15, (pt g7871)), (16, (iv x8238)), (18, (pt g8369)), (94, (.slice A8234 l8236.length c8235)), (96, (.slice ((H6193 x8356.toNat 0).1) ((rdD t6186 x8356 z_Row).Cells).length ((H6193 x8356.toNat 0).2)))] [.cell ⟨g6198, 2, none⟩ (.slice A8234 l8236.length c8235), .cell ⟨g8369, 0, none⟩ (.slice ((H6193 x8356.toNat 0).1) ((rdD t6186 x8356 z_Row).Cells).length ((H6193 x8356.toNat 0).2))] (fun fb => by kernel_rfl) rfl ⟨hS8407.cell 3 rfl 2 rfl, hS8407.cell 6 rfl 0 rfl, trivial⟩ ?_
           obtain ⟨h8411, hl8366⟩ := as_some hl8366
           refine WL.append hS8407 4 (d := 97) (tS := 36) (z := (iv 0)) (bytes := 8) (c2 := (H6193 x8356.toNat 0).2) rfl (fun fb => by kernel_rfl) (nestO.at ((hS8407.own 2).1 0) z_Row h8368.1 h8368.2) (by kernel_rfl) (by kernel_rfl) rfl (by decide) h8411 (by decide) [0, 1, 2, 3, 5, 6] (by decide) (by decide) (fun A8412 c8413 w8414 hS8415 => ?_)
           refine ⟨trivial, ?_⟩
           refine seg 6 [] [6, 8, 10, 13, 15, 16, 18, 97, 98] [(6, (pt g6008)), (8, (.slice A6191 t6186.length c6192)), (10, (pt g6198)), (13, (.slice A7827 x7831.2.length c7828)), (15, (pt g7871)), (16, (iv x8238)), (18, (pt g8369)), (97, (.slice A8412 (l8236 ++ ((rdD t6186 x8356 z_Row).Cells)).length c8413)), (98, (.pointer (some ⟨g6198, 2, none⟩)))] [] (fun fb => by kernel_rfl) rfl trivial ?_
           refine WL.store hS8415 4 rfl [(2, (.slice A8412 (l8236 ++ ((rdD t6186 x8356 z_Row).Cells)).length c8413))] #[(iv p1), (iv p2), (.slice A8412 (l8236 ++ ((rdD t6186 x8356 z_Row).Cells)).length c8413)] (fun fb => by kernel_rfl) (by kernel_rfl) rfl [0, 1, 2, 3, 5, 6] (by decide) (by decide) (fun w8416 hS8417 => ?_)
           refine ⟨trivial, ?_⟩
           refine WL.done rfl ?_
           refine WX.next ?_
           refine WC.seq ?_
           refine WC.region ?_
           refine seg 2 [.v (iv (((rdD t6186 x8356 z_Row).North).e0)), .v (iv (((rdD t6186 x8356 z_Row).North).e1)), .v (iv (((rdD t6186 x8356 z_Row).North).e2)), .v (iv (((rdD t6186 x8356 z_Row).North).e3)), .v (iv (((rdD t6186 x8356 z_Row).North).e4)), .v (iv (((rdD t6186 x8356 z_Row).North).e5)), .v (iv (((rdD t6186 x8356 z_Row).North).e6)), .v (iv (((rdD t6186 x8356 z_Row).North).e7))] [6, 8, 10, 13, 15, 16, 100] [(6, (pt g6008)), (8, (.slice A6191 t6186.length c6192)), (10, (pt g6198)), (13, (.slice A7827 x7831.2.length c7828)), (15, (pt g7871)), (16, (iv x8238)), (100, (.agg #[(iv (((rdD t6186 x8356 z_Row).North).e0)), (iv (((rdD t6186 x8356 z_Row).North).e1)), (iv (((rdD t6186 x8356 z_Row).North).e2)), (iv (((rdD t6186 x8356 z_Row).North).e3)), (iv (((rdD t6186 x8356 z_Row).North).e4)), (iv (((rdD t6186 x8356 z_Row).North).e5)), (iv (((rdD t6186 x8356 z_Row).North).e6)), (iv (((rdD t6186 x8356 z_Row).North).e7))]))] [.cell ⟨g8369, 9, none⟩ (iv (((rdD t6186 x8356 z_Row).North).e0)), .cell ⟨g8369, 10, none⟩ (iv (((rdD t6186 x8356 z_Row).North).e1)), .cell ⟨g8369, 11, none⟩ (iv (((rdD t6186 x8356 z_Row).North).e2)), .cell ⟨g8369, 12, none⟩ (iv (((rdD t6186 x8356 z_Row).North).e3)), .cell ⟨g8369, 13, none⟩ (iv (((rdD t6186 x8356 z_Row).North).e4)), .cell ⟨g8369, 14, none⟩ (iv (((rdD t6186 x8356 z_Row).North).e5)), .cell ⟨g8369, 15, none⟩ (iv (((rdD t6186 x8356 z_Row).North).e6)), .cell ⟨g8369, 16, none⟩ (iv (((rdD t6186 x8356 z_Row).North).e7))] (fun fb => by kernel_rfl) rfl ⟨hS8417.cell 6 rfl 9 rfl, hS8417.cell 6 rfl 10 rfl, hS8417.cell 6 rfl 11 rfl, hS8417.cell 6 rfl 12 rfl, hS8417.cell 6 rfl 13 rfl, hS8417.cell 6 rfl 14 rfl, hS8417.cell 6 rfl 15 rfl, hS8417.cell 6 rfl 16 rfl, trivial⟩ ?_
           refine WL.store hS8417 5 rfl [(0, (iv (((rdD t6186 x8356 z_Row).North).e0))), (1, (iv (((rdD t6186 x8356 z_Row).North).e1))), (2, (iv (((rdD t6186 x8356 z_Row).North).e2))), (3, (iv (((rdD t6186 x8356 z_Row).North).e3))), (4, (iv (((rdD t6186 x8356 z_Row).North).e4))), (5, (iv (((rdD t6186 x8356 z_Row).North).e5))), (6, (iv (((rdD t6186 x8356 z_Row).North).e6))), (7, (iv (((rdD t6186 x8356 z_Row).North).e7)))] #[(iv (((rdD t6186 x8356 z_Row).North).e0)), (iv (((rdD t6186 x8356 z_Row).North).e1)), (iv (((rdD t6186 x8356 z_Row).North).e2)), (iv (((rdD t6186 x8356 z_Row).North).e3)), (iv (((rdD t6186 x8356 z_Row).North).e4)), (iv (((rdD t6186 x8356 z_Row).North).e5)), (iv (((rdD t6186 x8356 z_Row).North).e6)), (iv (((rdD t6186 x8356 z_Row).North).e7))] (fun fb => by kernel_rfl) (by kernel_rfl) rfl [0, 1, 2, 3, 4, 6] (by decide) (by decide) (fun w8418 hS8419 => ?_)
           refine ⟨trivial, ?_⟩
           refine WL.done rfl ?_
           refine WX.next ?_
           refine WC.exit ?_
           injection hl8366 with hl8366
           exact WX.blockPast (by decide) (WX.thenX (WX.thenX (WX.blockHere (WX.to Kx8361 ((l8236 ++ ((rdD t6186 x8356 z_Row).Cells), ((rdD t6186 x8356 z_Row).North)), A8412, c8413) [6, 8, 10, 13, 15, 16] rfl ⟨(hS8419.subR [0, 1, 2, 3, 4, 5, 6, 7]).sub [3, 4, 5, 1, 2, 0] (by decide), hl8366.symm⟩))))
          refine WC.condF2 (fun fb => by kernel_rfl) h8410 ?_
          refine WC.skip ?_
          refine WX.blockN (WX.next ?_)
          refine WC.region ?_
          refine seg 2 [] [6, 8, 10, 13, 15, 16, 74, 75, 76] [(6, (pt g6008)), (8, (.slice A6191 t6186.length c6192)), (10, (pt g6198)), (13, (.slice A7827 x7831.2.length c7828)), (15, (pt g7871)), (16, (iv x8238)), (74, (.slice A6191 t6186.length c6192)), (75, (iv (t6186.length : Int))), (76, (iv (w64 (x8356 + 1))))] [] (fun fb => by kernel_rfl) rfl trivial ?_
          refine WL.done rfl ?_
          exact WX.again k8363 (Nat.lt_succ_self _) (w64 (x8356 + 1)) [6, 8, 10, 13, 15, 16, 74, 75, 76] rfl ⟨(hS8407.subR [0, 1, 2, 3, 4, 5, 6, 7]).sub [0, 1, 2, 3, 4, 5] (by decide), hl8366⟩
         refine WC.condF2 (fun fb => by kernel_rfl) h8367 ?_
         refine WC.exit ?_
         injection hl8366 with hl8366
         exact WX.thenX (WX.thenX (WX.blockHere (WX.to Kx8361 ((l8236, a8237), A8234, c8235) [6, 8, 10, 13, 15, 16] rfl ⟨(hS8365.subR [0, 1, 2, 3, 4, 5, 6, 7]).sub [0, 1, 2, 3, 4, 5] (by decide), hl8366.symm⟩)))
       rintro ⟨y8423, A8357, c8358⟩ w8420 ⟨hS8421, hq8422⟩
       subst hq8422
       refine WX.scopeN (WX.blockN (WX.next ?_))
       refine WC.region ?_
       refine seg 3 [] [6, 8, 10, 13, 15, 16] [(6, (pt g6008)), (8, (.slice A6191 t6186.length c6192)), (10, (pt g6198)), (13, (.slice A7827 x7831.2.length c7828)), (15, (pt g7871)), (16, (iv (w64 (x8238 - 1))))] [] (fun fb => by kernel_rfl) rfl trivial ?_
       refine WL.done rfl ?_
       exact WX.again k8244 (Nat.lt_succ_self _) ((x8361.1, x8361.2, w64 (x8238 - 1)), A8357, c8358) [6, 8, 10, 13, 15, 16] rfl ⟨(hS8421.subR [0, 1, 2, 3, 4, 5, 6, 7]).sub [0, 1, 2, 3, 4, 5] (by decide), hl8247⟩
      refine WC.condF2 (fun fb => by kernel_rfl) h8248 ?_
      refine WC.exit ?_
      injection hl8247 with hl8247
      exact WX.thenX (WX.thenX (WX.blockHere (WX.to Kx8242 (l8236, A8234, c8235) [6, 10] rfl ⟨(hS8246.subR [0, 1, 2, 3, 4, 5, 6, 7]).sub [0, 3, 4] (by decide), hl8247.symm⟩)))
    rintro ⟨y8427, A8239, c8240⟩ w8424 ⟨hS8425, hq8426⟩
    subst hq8426
    refine WX.next ?_
    refine WC.seq ?_
    refine WC.region ?_
    refine seg 1 [.v (iv p1), .v (iv p2), .v (.slice A8239 x8242.length c8240)] [6, 102] [(6, (pt g6008)), (102, (.agg #[(iv p1), (iv p2), (.slice A8239 x8242.length c8240)]))] [.cell ⟨g6198, 0, none⟩ (iv p1), .cell ⟨g6198, 1, none⟩ (iv p2), .cell ⟨g6198, 2, none⟩ (.slice A8239 x8242.length c8240)] (fun fb => by kernel_rfl) rfl ⟨hS8425.cell 1 rfl 0 rfl, hS8425.cell 1 rfl 1 rfl, hS8425.cell 1 rfl 2 rfl, trivial⟩ ?_
    refine WL.store hS8425 0 rfl [(0, (iv p1)), (1, (iv p2)), (2, (.slice A8239 x8242.length c8240))] #[(iv p1), (iv p2), (.slice A8239 x8242.length c8240)] (fun fb => by kernel_rfl) (by kernel_rfl) rfl [1, 2] (by decide) (by decide) (fun w8428 hS8429 => ?_)
    refine ⟨trivial, ?_⟩
    refine seg 3 [] [6, 7] [(6, (pt g6008)), (7, (.bool true))] [] (fun fb => by kernel_rfl) rfl trivial ?_
    refine WL.done rfl ?_
    refine WX.next ?_
    refine WC.ret ?_
    injection hl7800 with hl7800
    subst hl7800
    injection hf with hf
    subst hf
    exact WX.blockR (WX.thenR (WX.thenR (WX.blockR (WX.thenR (WX.scopeR (WX.ret_ [.v (iv p1), .v (iv p2), .v (.slice A8239 x8242.length c8240)] (.tuple #[(.agg #[(iv p1), (iv p2), (.slice A8239 x8242.length c8240)]), (.bool true)]) [.cell ⟨g6008, 0, none⟩ (iv p1), .cell ⟨g6008, 1, none⟩ (iv p2), .cell ⟨g6008, 2, none⟩ (.slice A8239 x8242.length c8240)] (fun fb => by kernel_rfl) ⟨hS8429.cell 0 rfl 0 rfl, hS8429.cell 0 rfl 1 rfl, hS8429.cell 0 rfl 2 rfl, trivial⟩ ⟨_, rfl, A8239, c8240, rfl, (hS8429.sub [2] (by decide)).noR⟩))))))
   refine WC.condF2 (fun fb => by kernel_rfl) h7801 ?_
   refine WC.exit ?_
   injection hl7800 with hl7800
   exact WX.thenX (WX.thenX (WX.blockHere (WX.to Kx7795 () [6] rfl ⟨(hS7799.subR [1, 2]).sub [0] (by decide), hl7800.symm⟩)))
 rintro y8433 w8430 ⟨hS8431, hq8432⟩
 subst hq8432
 have hf := sum_inr hf
 refine WX.next ?_
 refine WC.seq ?_
 refine WC.region ?_
 refine seg 1 [] [6, 104] [(6, (pt g6008)), (104, (.agg #[(iv 0), (iv 0), (.slice none 0 0)]))] [] (fun fb => by kernel_rfl) rfl trivial ?_
 refine WL.store hS8431 0 rfl [(0, (iv 0)), (1, (iv 0)), (2, (.slice none 0 0))] #[(iv 0), (iv 0), (.slice none 0 0)] (fun fb => by kernel_rfl) (by kernel_rfl) rfl [] (by decide) (by decide) (fun w8435 hS8436 => ?_)
 refine ⟨trivial, ?_⟩
 refine seg 3 [] [6, 7] [(6, (pt g6008)), (7, (.bool false))] [] (fun fb => by kernel_rfl) rfl trivial ?_
 refine WL.done rfl ?_
 refine WX.next ?_
 refine WC.ret ?_
 have hS8437 := hS8436.nilrow 3 encInt
 injection hf with hf
 subst hf
 exact WX.scopeR (WX.ret_ [.v (iv 0), .v (iv 0), .v (.slice none 0 0)] (.tuple #[(.agg #[(iv 0), (iv 0), (.slice none ([] : List Int).length 0)]), (.bool false)]) [.cell ⟨g6008, 0, none⟩ (iv 0), .cell ⟨g6008, 1, none⟩ (iv 0), .cell ⟨g6008, 2, none⟩ (.slice none 0 0)] (fun fb => by kernel_rfl) ⟨hS8436.cell 0 rfl 0 rfl, hS8436.cell 0 rfl 1 rfl, hS8436.cell 0 rfl 2 rfl, trivial⟩ ⟨_, rfl, none, 0, rfl, (hS8437.sub [0] (by decide)).noR⟩)
theorem torus_Least_calls (k : Nat) (p0 : List Tile) (p1 : Int) (A_p0 : Option Addr) (c_p0 : Nat) (r : Pattern × Int) (w : World) (hR0 : RO NoS w (rowR enc_Tile A_p0 c_p0 p0)) (hf : torus_Least k p0 p1 = some r) :
  CallsR Try.prog 25 #[(.slice A_p0 p0.length c_p0), (iv p1)] w (fun v w' => ∃ (A1_ : Option Addr), ∃ (c1_ : Nat), v = (.tuple #[(.agg #[(iv r.1.Width), (iv r.1.Height), (.slice A1_ r.1.Cells.length c1_)]), (iv r.2)]) ∧ St NoS w w' [] [rowO 3 encInt A1_ c1_ r.1.Cells]) := by
 have hS : St NoS w w [rowR enc_Tile A_p0 c_p0 p0] [] := St.init (ro_cons hR0 (ro_nil _ _))
 refine enter 61 Try.func25 rfl Try.ntmps25 rfl ?_
 unfold torus_Least at hf
 refine WC.seq ?_
 refine WC.region ?_
 refine WL.new hS 4 [] (fun g => (.pointer (some ⟨g, 0, none⟩))) (.cells #[(iv 0), (iv 0), (.slice none 0 0)] 38 (0, 0)) [] (fun fb g => by kernel_rfl) trivial (fun g5975 w5976 hS5977 => ?_)
 refine ⟨trivial, ?_⟩
 refine seg 2 [] [0, 1, 4] [(0, (.slice A_p0 p0.length c_p0)), (1, (iv p1)), (4, (pt g5975))] [] (fun fb => by kernel_rfl) rfl trivial ?_
 refine WL.done rfl ?_
 refine WX.next ?_
 refine WC.seq ?_
 refine WC.seq ?_
 refine WC.region ?_
 refine seg 1 [] [0, 1, 4, 10] [(0, (.slice A_p0 p0.length c_p0)), (1, (iv p1)), (4, (pt g5975)), (10, (.slice A_p0 p0.length c_p0))] [] (fun fb => by kernel_rfl) rfl trivial ?_
 obtain ⟨t5979, ht5980, hf⟩ := bind_some hf
 refine WL.call (some 11) 38 #[(.slice A_p0 p0.length c_p0)] (fun fb => by kernel_rfl) (tile_Valid_calls _ p0 A_p0 c_p0 t5979 _ (hS5977.rd 0) ht5980) (fun v w5981 hR5982 => ?_)
 obtain ⟨rfl, hk_⟩ := hR5982
 have hS5983 := hS5977.keepN hk_
 refine ⟨trivial, ?_⟩
 refine seg 3 [] [0, 1, 4, 12] [(0, (.slice A_p0 p0.length c_p0)), (1, (iv p1)), (4, (pt g5975)), (12, (.bool (!t5979)))] [] (fun fb => by kernel_rfl) rfl trivial ?_
 refine WL.done rfl ?_
 refine WX.next ?_
 rcases br_some hf with ⟨h5984, hf⟩ | ⟨h5984, hf⟩
 ·refine WC.condT2 (fun fb => by kernel_rfl) h5984 ?_
  refine WC.seq ?_
  refine WC.region ?_
  refine seg 1 [] [4, 13] [(4, (pt g5975)), (13, (.agg #[(iv 0), (iv 0), (.slice none 0 0)]))] [] (fun fb => by kernel_rfl) rfl trivial ?_
  refine WL.store hS5983 0 rfl [(0, (iv 0)), (1, (iv 0)), (2, (.slice none 0 0))] #[(iv 0), (iv 0), (.slice none 0 0)] (fun fb => by kernel_rfl) (by kernel_rfl) rfl [] (by decide) (by decide) (fun w5985 hS5986 => ?_)
  refine ⟨trivial, ?_⟩
  refine seg 3 [] [4, 5] [(4, (pt g5975)), (5, (iv 1))] [] (fun fb => by kernel_rfl) rfl trivial ?_
  refine WL.done rfl ?_
  refine WX.next ?_
  refine WC.ret ?_
  have hS5987 := hS5986.nilrow 3 encInt
  injection hf with hf
  subst hf
  exact WX.thenR (WX.ret_ [.v (iv 0), .v (iv 0), .v (.slice none 0 0)] (.tuple #[(.agg #[(iv 0), (iv 0), (.slice none ([] : List Int).length 0)]), (iv 1)]) [.cell ⟨g5975, 0, none⟩ (iv 0), .cell ⟨g5975, 1, none⟩ (iv 0), .cell ⟨g5975, 2, none⟩ (.slice none 0 0)] (fun fb => by kernel_rfl) ⟨hS5986.cell 0 rfl 0 rfl, hS5986.cell 0 rfl 1 rfl, hS5986.cell 0 rfl 2 rfl, trivial⟩ ⟨_, rfl, none, 0, rfl, (hS5987.sub [0] (by decide)).noR⟩)
 refine WC.condF2 (fun fb => by kernel_rfl) h5984 ?_
 refine WC.skip ?_
 refine WX.next ?_
 refine WC.seq ?_
 refine WC.seq ?_
 refine WC.region ?_
 refine seg 3 [] [0, 1, 4, 16] [(0, (.slice A_p0 p0.length c_p0)), (1, (iv p1)), (4, (pt g5975)), (16, (.bool (decide (p1 < 1))))] [] (fun fb => by kernel_rfl) rfl trivial ?_
 refine WL.cutV (T := Bool) 6 (fun t => [(19, (.bool t)), (0, (.slice A_p0 p0.length c_p0)), (1, (iv p1)), (4, (pt g5975))]) (fun t => ((decide (p1 < 1)) || (decide (p1 > 6))) = t) (fun K => ?_) ?_
 ·
  rcases Bool.eq_false_or_eq_true (decide (p1 < 1)) with h5988 | h5988
  ·
   refine WL.setB 16 h5988 rfl ?_
   refine seg 6 [] [0, 1, 4, 19] [(0, (.slice A_p0 p0.length c_p0)), (1, (iv p1)), (4, (pt g5975)), (19, (.bool true))] [] (fun fb => by kernel_rfl) rfl trivial ?_
   exact WL.toV K true [19, 0, 1, 4] rfl (by first | (rw [h5988]; done) | (rw [h5988]; rfl))
  refine WL.setB 16 h5988 rfl ?_
  refine seg 6 [] [0, 1, 4, 19] [(0, (.slice A_p0 p0.length c_p0)), (1, (iv p1)), (4, (pt g5975)), (19, (.bool (decide (p1 > 6))))] [] (fun fb => by kernel_rfl) rfl trivial ?_
  exact WL.toV K (decide (p1 > 6)) [19, 0, 1, 4] rfl (by first | (rw [h5988]; done) | (rw [h5988]; rfl))
 rintro b5989 rfl
 refine WL.done rfl ?_
 refine WX.next ?_
 rcases br_some hf with ⟨h5990, hf⟩ | ⟨h5990, hf⟩
 ·refine WC.condT2 (fun fb => by kernel_rfl) h5990 ?_
  refine WC.seq ?_
  refine WC.region ?_
  refine seg 1 [] [4, 20] [(4, (pt g5975)), (20, (.agg #[(iv 0), (iv 0), (.slice none 0 0)]))] [] (fun fb => by kernel_rfl) rfl trivial ?_
  refine WL.store hS5983 0 rfl [(0, (iv 0)), (1, (iv 0)), (2, (.slice none 0 0))] #[(iv 0), (iv 0), (.slice none 0 0)] (fun fb => by kernel_rfl) (by kernel_rfl) rfl [] (by decide) (by decide) (fun w5991 hS5992 => ?_)
  refine ⟨trivial, ?_⟩
  refine seg 3 [] [4, 5] [(4, (pt g5975)), (5, (iv 2))] [] (fun fb => by kernel_rfl) rfl trivial ?_
  refine WL.done rfl ?_
  refine WX.next ?_
  refine WC.ret ?_
  have hS5993 := hS5992.nilrow 3 encInt
  injection hf with hf
  subst hf
  exact WX.thenR (WX.ret_ [.v (iv 0), .v (iv 0), .v (.slice none 0 0)] (.tuple #[(.agg #[(iv 0), (iv 0), (.slice none ([] : List Int).length 0)]), (iv 2)]) [.cell ⟨g5975, 0, none⟩ (iv 0), .cell ⟨g5975, 1, none⟩ (iv 0), .cell ⟨g5975, 2, none⟩ (.slice none 0 0)] (fun fb => by kernel_rfl) ⟨hS5992.cell 0 rfl 0 rfl, hS5992.cell 0 rfl 1 rfl, hS5992.cell 0 rfl 2 rfl, trivial⟩ ⟨_, rfl, none, 0, rfl, (hS5993.sub [0] (by decide)).noR⟩)
 refine WC.condF2 (fun fb => by kernel_rfl) h5990 ?_
 refine WC.skip ?_
 refine WX.next ?_
 refine WC.seq ?_
 refine WC.seq ?_
 refine WC.region ?_
 refine seg 2 [] [0, 1, 4, 21, 22] [(0, (.slice A_p0 p0.length c_p0)), (1, (iv p1)), (4, (pt g5975)), (21, (.slice A_p0 p0.length c_p0)), (22, (iv p1))] [] (fun fb => by kernel_rfl) rfl trivial ?_
 obtain ⟨t5994, ht5995, hf⟩ := bind_some hf
 refine WL.call (some 23) 45 #[(.slice A_p0 p0.length c_p0), (iv p1)] (fun fb => by kernel_rfl) (rows_Few_calls _ p0 p1 A_p0 c_p0 t5994 _ (hS5983.rd 0) ht5995) (fun v w5996 hR5997 => ?_)
 obtain ⟨rfl, hk_⟩ := hR5997
 have hS5998 := hS5983.keepN hk_
 refine ⟨trivial, ?_⟩
 refine seg 4 [] [0, 1, 4, 24] [(0, (.slice A_p0 p0.length c_p0)), (1, (iv p1)), (4, (pt g5975)), (24, (.bool (!t5994)))] [] (fun fb => by kernel_rfl) rfl trivial ?_
 refine WL.done rfl ?_
 refine WX.next ?_
 rcases br_some hf with ⟨h5999, hf⟩ | ⟨h5999, hf⟩
 ·refine WC.condT2 (fun fb => by kernel_rfl) h5999 ?_
  refine WC.seq ?_
  refine WC.region ?_
  refine seg 1 [] [4, 25] [(4, (pt g5975)), (25, (.agg #[(iv 0), (iv 0), (.slice none 0 0)]))] [] (fun fb => by kernel_rfl) rfl trivial ?_
  refine WL.store hS5998 0 rfl [(0, (iv 0)), (1, (iv 0)), (2, (.slice none 0 0))] #[(iv 0), (iv 0), (.slice none 0 0)] (fun fb => by kernel_rfl) (by kernel_rfl) rfl [] (by decide) (by decide) (fun w6000 hS6001 => ?_)
  refine ⟨trivial, ?_⟩
  refine seg 3 [] [4, 5] [(4, (pt g5975)), (5, (iv 4))] [] (fun fb => by kernel_rfl) rfl trivial ?_
  refine WL.done rfl ?_
  refine WX.next ?_
  refine WC.ret ?_
  have hS6002 := hS6001.nilrow 3 encInt
  injection hf with hf
  subst hf
  exact WX.thenR (WX.ret_ [.v (iv 0), .v (iv 0), .v (.slice none 0 0)] (.tuple #[(.agg #[(iv 0), (iv 0), (.slice none ([] : List Int).length 0)]), (iv 4)]) [.cell ⟨g5975, 0, none⟩ (iv 0), .cell ⟨g5975, 1, none⟩ (iv 0), .cell ⟨g5975, 2, none⟩ (.slice none 0 0)] (fun fb => by kernel_rfl) ⟨hS6001.cell 0 rfl 0 rfl, hS6001.cell 0 rfl 1 rfl, hS6001.cell 0 rfl 2 rfl, trivial⟩ ⟨_, rfl, none, 0, rfl, (hS6002.sub [0] (by decide)).noR⟩)
 refine WC.condF2 (fun fb => by kernel_rfl) h5999 ?_
 refine WC.skip ?_
 refine WX.next ?_
 refine WC.seq ?_
 refine WC.seq ?_
 refine WC.region ?_
 refine seg 1 [] [0, 1, 4, 6] [(0, (.slice A_p0 p0.length c_p0)), (1, (iv p1)), (4, (pt g5975)), (6, (iv 1))] [] (fun fb => by kernel_rfl) rfl trivial ?_
 refine WL.done rfl ?_
 refine WX.next ?_
 obtain ⟨x8747, hx8748, hf⟩ := bind_some hf
 refine WC.cutN (T := Unit) (fun t => [(4, (pt g5975))]) (fun t w1 => St NoS w w1 [rowR enc_Tile A_p0 c_p0 p0] [blk g5975 (.cells #[(iv 0), (iv 0), (.slice none 0 0)] 38 (0, 0))] ∧ x8747 = .inr t) (fun Kx8747 => ?_) ?_
 ·
  refine WC.block ?_
  refine WC.loop (T := Int) (fun t => [(0, (.slice A_p0 p0.length c_p0)), (1, (iv p1)), (4, (pt g5975)), (6, (iv t))]) (fun n t w1 => St NoS w w1 [rowR enc_Tile A_p0 c_p0 p0] [blk g5975 (.cells #[(iv 0), (iv 0), (.slice none 0 0)] 38 (0, 0))] ∧ torus_Least.l0 n t p0 p1 = some x8747) k 1 [0, 1, 4, 6] rfl ⟨(hS5998.subR [0]).sub [0] (by decide), hx8748⟩ ?_
  rintro k8749 x8746 w8750 ⟨hS8751, hl8752⟩
  cases k8749 with
  | zero => rw [torus_Least.l0] at hl8752; cases hl8752
  | succ k8749 =>
   rw [torus_Least.l0] at hl8752
   refine WC.seq ?_
   refine WC.seq ?_
   refine WC.region ?_
   refine seg 5 [] [0, 1, 4, 6, 30] [(0, (.slice A_p0 p0.length c_p0)), (1, (iv p1)), (4, (pt g5975)), (6, (iv x8746)), (30, (.bool (decide (x8746 ≤ w64 (p1 * p1)))))] [] (fun fb => by kernel_rfl) rfl trivial ?_
   refine WL.done rfl ?_
   refine WX.next ?_
   rcases br_some hl8752 with ⟨h8753, hl8752⟩ | ⟨h8753, hl8752⟩
   ·refine WC.condT2 (fun fb => by kernel_rfl) h8753 ?_
    refine WC.skip ?_
    refine WX.next ?_
    refine WC.seq ?_
    refine WC.block ?_
    refine WC.seq ?_
    refine WC.region ?_
    refine seg 1 [] [0, 1, 4, 6, 7] [(0, (.slice A_p0 p0.length c_p0)), (1, (iv p1)), (4, (pt g5975)), (6, (iv x8746)), (7, (iv 1))] [] (fun fb => by kernel_rfl) rfl trivial ?_
    refine WL.done rfl ?_
    refine WX.next ?_
    obtain ⟨x8850, hx8851, hl8752⟩ := bind_some hl8752
    refine WC.cutN (T := Unit) (fun t => [(0, (.slice A_p0 p0.length c_p0)), (1, (iv p1)), (4, (pt g5975)), (6, (iv x8746))]) (fun t w1 => St NoS w w1 [rowR enc_Tile A_p0 c_p0 p0] [blk g5975 (.cells #[(iv 0), (iv 0), (.slice none 0 0)] 38 (0, 0))] ∧ x8850 = .inr t) (fun Kx8850 => ?_) ?_
    ·
     refine WC.block ?_
     refine WC.loop (T := Int) (fun t => [(0, (.slice A_p0 p0.length c_p0)), (1, (iv p1)), (4, (pt g5975)), (6, (iv x8746)), (7, (iv t))]) (fun n t w1 => St NoS w w1 [rowR enc_Tile A_p0 c_p0 p0] [blk g5975 (.cells #[(iv 0), (iv 0), (.slice none 0 0)] 38 (0, 0))] ∧ torus_Least.l1 n t p0 p1 x8746 = some x8850) k8749 1 [0, 1, 4, 6, 7] rfl ⟨(hS8751.subR [0]).sub [0] (by decide), hx8851⟩ ?_
     rintro k8852 x8849 w8853 ⟨hS8854, hl8855⟩
     cases k8852 with
     | zero => rw [torus_Least.l1] at hl8855; cases hl8855
     | succ k8852 =>
      rw [torus_Least.l1] at hl8855
      refine WC.seq ?_
      refine WC.seq ?_
      refine WC.region ?_
      refine seg 3 [] [0, 1, 4, 6, 7, 35] [(0, (.slice A_p0 p0.length c_p0)), (1, (iv p1)), (4, (pt g5975)), (6, (iv x8746)), (7, (iv x8849)), (35, (.bool (decide (x8849 ≤ p1))))] [] (fun fb => by kernel_rfl) rfl trivial ?_
      refine WL.done rfl ?_
      refine WX.next ?_
      rcases br_some hl8855 with ⟨h8856, hl8855⟩ | ⟨h8856, hl8855⟩
      ·refine WC.condT2 (fun fb => by kernel_rfl) h8856 ?_
       refine WC.skip ?_
       refine WX.next ?_
       refine WC.seq ?_
       obtain ⟨x8877, hx8878, hl8855⟩ := bind_some hl8855
       refine WC.cutN (T := Unit) (fun t => [(0, (.slice A_p0 p0.length c_p0)), (1, (iv p1)), (4, (pt g5975)), (6, (iv x8746)), (7, (iv x8849))]) (fun t w1 => St NoS w w1 [rowR enc_Tile A_p0 c_p0 p0] [blk g5975 (.cells #[(iv 0), (iv 0), (.slice none 0 0)] 38 (0, 0))] ∧ x8877 = .inr t) (fun Kx8877 => ?_) ?_
       ·
        refine WC.block ?_
        refine WC.seq ?_
        refine WC.seq ?_
        refine WC.region ?_
        refine seg 2 [] [0, 1, 4, 6, 7, 38, 39] [(0, (.slice A_p0 p0.length c_p0)), (1, (iv p1)), (4, (pt g5975)), (6, (iv x8746)), (7, (iv x8849)), (38, (iv x8746)), (39, (iv x8849))] [] (fun fb => by kernel_rfl) rfl trivial ?_
        obtain ⟨h8879, hx8878⟩ := as_some hx8878
        refine seg 5 [] [0, 1, 4, 6, 7, 42] [(0, (.slice A_p0 p0.length c_p0)), (1, (iv p1)), (4, (pt g5975)), (6, (iv x8746)), (7, (iv x8849)), (42, (.bool ((Int.tmod x8746 x8849) != 0)))] [.ne x8849] (fun fb => by kernel_rfl) rfl ⟨h8879, trivial⟩ ?_
        refine WL.cutV (T := Bool) 11 (fun t => [(48, (.bool t)), (0, (.slice A_p0 p0.length c_p0)), (1, (iv p1)), (4, (pt g5975)), (6, (iv x8746)), (7, (iv x8849))]) (fun t => (((Int.tmod x8746 x8849) != 0) || (decide (w64 (Int.tdiv x8746 x8849) > p1))) = t) (fun K => ?_) ?_
        ·
         rcases Bool.eq_false_or_eq_true ((Int.tmod x8746 x8849) != 0) with h8880 | h8880
         ·
          refine WL.setB 42 h8880 rfl ?_
          refine seg 11 [] [0, 1, 4, 6, 7, 48] [(0, (.slice A_p0 p0.length c_p0)), (1, (iv p1)), (4, (pt g5975)), (6, (iv x8746)), (7, (iv x8849)), (48, (.bool true))] [] (fun fb => by kernel_rfl) rfl trivial ?_
          exact WL.toV K true [48, 0, 1, 4, 6, 7] rfl (by first | (rw [h8880]; done) | (rw [h8880]; rfl))
         refine WL.setB 42 h8880 rfl ?_
         refine seg 11 [] [0, 1, 4, 6, 7, 48] [(0, (.slice A_p0 p0.length c_p0)), (1, (iv p1)), (4, (pt g5975)), (6, (iv x8746)), (7, (iv x8849)), (48, (.bool (decide (w64 (Int.tdiv x8746 x8849) > p1))))] [.ne x8849] (fun fb => by kernel_rfl) rfl ⟨h8879, trivial⟩ ?_
         exact WL.toV K (decide (w64 (Int.tdiv x8746 x8849) > p1)) [48, 0, 1, 4, 6, 7] rfl (by first | (rw [h8880]; done) | (rw [h8880]; rfl))
        rintro b8881 rfl
        refine WL.done rfl ?_
        refine WX.next ?_
        rcases br_some hx8878 with ⟨h8882, hx8878⟩ | ⟨h8882, hx8878⟩
        ·refine WC.condT2 (fun fb => by kernel_rfl) h8882 ?_
         refine WC.exit ?_
         injection hx8878 with hx8878
         exact WX.thenX (WX.blockHere (WX.to Kx8877 () [0, 1, 4, 6, 7] rfl ⟨(hS8854.subR [0]).sub [0] (by decide), hx8878.symm⟩))
        refine WC.condF2 (fun fb => by kernel_rfl) h8882 ?_
        refine WC.skip ?_
        refine WX.next ?_
        refine WC.seq ?_
        refine WC.region ?_
        refine seg 5 [] [0, 1, 4, 6, 7, 50, 51, 54] [(0, (.slice A_p0 p0.length c_p0)), (1, (iv p1)), (4, (pt g5975)), (6, (iv x8746)), (7, (iv x8849)), (50, (.slice A_p0 p0.length c_p0)), (51, (iv x8849)), (54, (iv (w64 (Int.tdiv x8746 x8849))))] [.ne x8849] (fun fb => by kernel_rfl) rfl ⟨h8879, trivial⟩ ?_
        obtain ⟨t8883, ht8884, hx8878⟩ := bind_some hx8878
        refine WL.call (some 55) 46 #[(.slice A_p0 p0.length c_p0), (iv x8849), (iv (w64 (Int.tdiv x8746 x8849)))] (fun fb => by kernel_rfl) (torus_find_calls _ p0 x8849 (w64 (Int.tdiv x8746 x8849)) A_p0 c_p0 t8883 _ (hS8854.rd 0) ht8884) (fun v w8885 hR8886 => ?_)
        obtain ⟨A8888, c8889, rfl, hk_⟩ := hR8886
        have hS8887 : St NoS w w8885 [rowR enc_Tile A_p0 c_p0 p0] [rowO 3 encInt A8888 c8889 t8883.1.Cells, blk g5975 (.cells #[(iv 0), (iv 0), (.slice none 0 0)] 38 (0, 0))] := hS8854.call hk_ [] [0] (fun g hg => hg.elim) (by simp) (by decide)
        refine ⟨trivial, ?_⟩
        refine seg 9 [] [0, 1, 4, 6, 7, 56, 57] [(0, (.slice A_p0 p0.length c_p0)), (1, (iv p1)), (4, (pt g5975)), (6, (iv x8746)), (7, (iv x8849)), (56, (.agg #[(iv t8883.1.Width), (iv t8883.1.Height), (.slice A8888 t8883.1.Cells.length c8889)])), (57, (.bool t8883.2))] [] (fun fb => by kernel_rfl) rfl trivial ?_
        refine WL.new hS8887 8 [] (fun g => (.pointer (some ⟨g, 0, none⟩))) (.cells #[(iv 0), (iv 0), (.slice none 0 0)] 38 (0, 0)) [] (fun fb g => by kernel_rfl) trivial (fun g8890 w8891 hS8892 => ?_)
        refine ⟨trivial, ?_⟩
        refine WL.store hS8892 0 rfl [(0, (iv t8883.1.Width)), (1, (iv t8883.1.Height)), (2, (.slice A8888 t8883.1.Cells.length c8889))] #[(iv t8883.1.Width), (iv t8883.1.Height), (.slice A8888 t8883.1.Cells.length c8889)] (fun fb => by kernel_rfl) (by kernel_rfl) rfl [1, 2] (by decide) (by decide) (fun w8894 hS8895 => ?_)
        refine ⟨trivial, ?_⟩
        refine seg 12 [] [0, 1, 4, 6, 7, 8, 9] [(0, (.slice A_p0 p0.length c_p0)), (1, (iv p1)), (4, (pt g5975)), (6, (iv x8746)), (7, (iv x8849)), (8, (pt g8890)), (9, (.bool t8883.2))] [] (fun fb => by kernel_rfl) rfl trivial ?_
        refine WL.done rfl ?_
        refine WX.next ?_
        refine WC.seq ?_
        refine WC.region ?_
        refine seg 1 [] [0, 1, 4, 6, 7, 8, 58] [(0, (.slice A_p0 p0.length c_p0)), (1, (iv p1)), (4, (pt g5975)), (6, (iv x8746)), (7, (iv x8849)), (8, (pt g8890)), (58, (.bool t8883.2))] [] (fun fb => by kernel_rfl) rfl trivial ?_
        refine WL.done rfl ?_
        refine WX.next ?_
        rcases br_some hx8878 with ⟨h8896, hx8878⟩ | ⟨h8896, hx8878⟩
        ·refine WC.condT2 (fun fb => by kernel_rfl) h8896 ?_
         refine WC.seq ?_
         refine WC.region ?_
         refine seg 1 [.v (iv t8883.1.Width), .v (iv t8883.1.Height), .v (.slice A8888 t8883.1.Cells.length c8889)] [4, 59] [(4, (pt g5975)), (59, (.agg #[(iv t8883.1.Width), (iv t8883.1.Height), (.slice A8888 t8883.1.Cells.length c8889)]))] [.cell ⟨g8890, 0, none⟩ (iv t8883.1.Width), .cell ⟨g8890, 1, none⟩ (iv t8883.1.Height), .cell ⟨g8890, 2, none⟩ (.slice A8888 t8883.1.Cells.length c8889)] (fun fb => by kernel_rfl) rfl ⟨hS8895.cell 0 rfl 0 rfl, hS8895.cell 0 rfl 1 rfl, hS8895.cell 0 rfl 2 rfl, trivial⟩ ?_
         refine WL.store hS8895 2 rfl [(0, (iv t8883.1.Width)), (1, (iv t8883.1.Height)), (2, (.slice A8888 t8883.1.Cells.length c8889))] #[(iv t8883.1.Width), (iv t8883.1.Height), (.slice A8888 t8883.1.Cells.length c8889)] (fun fb => by kernel_rfl) (by kernel_rfl) rfl [0, 1] (by decide) (by decide) (fun w8897 hS8898 => ?_)
         refine ⟨trivial, ?_⟩
         refine seg 3 [] [4, 5] [(4, (pt g5975)), (5, (iv 0))] [] (fun fb => by kernel_rfl) rfl trivial ?_
         refine WL.done rfl ?_
         refine WX.next ?_
         refine WC.ret ?_
         injection hx8878 with hx8878
         subst hx8878
         injection hl8855 with hl8855
         subst hl8855
         injection hl8752 with hl8752
         subst hl8752
         injection hf with hf
         subst hf
         exact WX.blockR (WX.thenR (WX.thenR (WX.blockR (WX.blockR (WX.thenR (WX.thenR (WX.blockR (WX.thenR (WX.ret_ [.v (iv t8883.1.Width), .v (iv t8883.1.Height), .v (.slice A8888 t8883.1.Cells.length c8889)] (.tuple #[(.agg #[(iv t8883.1.Width), (iv t8883.1.Height), (.slice A8888 t8883.1.Cells.length c8889)]), (iv 0)]) [.cell ⟨g5975, 0, none⟩ (iv t8883.1.Width), .cell ⟨g5975, 1, none⟩ (iv t8883.1.Height), .cell ⟨g5975, 2, none⟩ (.slice A8888 t8883.1.Cells.length c8889)] (fun fb => by kernel_rfl) ⟨hS8898.cell 0 rfl 0 rfl, hS8898.cell 0 rfl 1 rfl, hS8898.cell 0 rfl 2 rfl, trivial⟩ ⟨_, rfl, A8888, c8889, rfl, (hS8898.sub [2] (by decide)).noR⟩)))))))))
        refine WC.condF2 (fun fb => by kernel_rfl) h8896 ?_
        refine WC.skip ?_
        injection hx8878 with hx8878
        exact WX.blockN (WX.to Kx8877 () [0, 1, 4, 6, 7] rfl ⟨(hS8895.subR [0]).sub [2] (by decide), hx8878.symm⟩)
       rintro y8902 w8899 ⟨hS8900, hq8901⟩
       subst hq8901
       have hl8855 := sum_inr hl8855
       refine WX.next ?_
       refine WC.region ?_
       refine seg 3 [] [0, 1, 4, 6, 7] [(0, (.slice A_p0 p0.length c_p0)), (1, (iv p1)), (4, (pt g5975)), (6, (iv x8746)), (7, (iv (w64 (x8849 + 1))))] [] (fun fb => by kernel_rfl) rfl trivial ?_
       refine WL.done rfl ?_
       exact WX.again k8852 (Nat.lt_succ_self _) (w64 (x8849 + 1)) [0, 1, 4, 6, 7] rfl ⟨(hS8900.subR [0]).sub [0] (by decide), hl8855⟩
      refine WC.condF2 (fun fb => by kernel_rfl) h8856 ?_
      refine WC.exit ?_
      injection hl8855 with hl8855
      exact WX.thenX (WX.thenX (WX.blockHere (WX.to Kx8850 () [0, 1, 4, 6] rfl ⟨(hS8854.subR [0]).sub [0] (by decide), hl8855.symm⟩)))
    rintro y8907 w8904 ⟨hS8905, hq8906⟩
    subst hq8906
    have hl8752 := sum_inr hl8752
    refine WX.blockN (WX.next ?_)
    refine WC.region ?_
    refine seg 3 [] [0, 1, 4, 6] [(0, (.slice A_p0 p0.length c_p0)), (1, (iv p1)), (4, (pt g5975)), (6, (iv (w64 (x8746 + 1))))] [] (fun fb => by kernel_rfl) rfl trivial ?_
    refine WL.done rfl ?_
    exact WX.again k8749 (Nat.lt_succ_self _) (w64 (x8746 + 1)) [0, 1, 4, 6] rfl ⟨(hS8905.subR [0]).sub [0] (by decide), hl8752⟩
   refine WC.condF2 (fun fb => by kernel_rfl) h8753 ?_
   refine WC.exit ?_
   injection hl8752 with hl8752
   exact WX.thenX (WX.thenX (WX.blockHere (WX.to Kx8747 () [4] rfl ⟨(hS8751.subR [0]).sub [0] (by decide), hl8752.symm⟩)))
 rintro y8912 w8909 ⟨hS8910, hq8911⟩
 subst hq8911
 have hf := sum_inr hf
 refine WX.next ?_
 refine WC.seq ?_
 refine WC.region ?_
 refine seg 1 [] [4, 60] [(4, (pt g5975)), (60, (.agg #[(iv 0), (iv 0), (.slice none 0 0)]))] [] (fun fb => by kernel_rfl) rfl trivial ?_
 refine WL.store hS8910 0 rfl [(0, (iv 0)), (1, (iv 0)), (2, (.slice none 0 0))] #[(iv 0), (iv 0), (.slice none 0 0)] (fun fb => by kernel_rfl) (by kernel_rfl) rfl [] (by decide) (by decide) (fun w8914 hS8915 => ?_)
 refine ⟨trivial, ?_⟩
 refine seg 3 [] [4, 5] [(4, (pt g5975)), (5, (iv 6))] [] (fun fb => by kernel_rfl) rfl trivial ?_
 refine WL.done rfl ?_
 refine WX.next ?_
 refine WC.ret ?_
 have hS8916 := hS8915.nilrow 3 encInt
 injection hf with hf
 subst hf
 exact WX.ret_ [.v (iv 0), .v (iv 0), .v (.slice none 0 0)] (.tuple #[(.agg #[(iv 0), (iv 0), (.slice none ([] : List Int).length 0)]), (iv 6)]) [.cell ⟨g5975, 0, none⟩ (iv 0), .cell ⟨g5975, 1, none⟩ (iv 0), .cell ⟨g5975, 2, none⟩ (.slice none 0 0)] (fun fb => by kernel_rfl) ⟨hS8915.cell 0 rfl 0 rfl, hS8915.cell 0 rfl 1 rfl, hS8915.cell 0 rfl 2 rfl, trivial⟩ ⟨_, rfl, none, 0, rfl, (hS8916.sub [0] (by decide)).noR⟩
theorem decide_Decide_calls (k : Nat) (p0 : List Tile) (A_p0 : Option Addr) (c_p0 : Nat) (r : Verdict × Int) (w : World) (hR0 : RO NoS w (rowR enc_Tile A_p0 c_p0 p0)) (hf : decide_Decide k p0 = some r) :
  CallsR Try.prog 22 #[(.slice A_p0 p0.length c_p0)] w (fun v w' => ∃ (A1_ : Option Addr), ∃ (c1_ : Nat), v = (.tuple #[(.agg #[(.bool r.1.Fills), (iv r.1.Torus.Width), (iv r.1.Torus.Height), (.slice A1_ r.1.Torus.Cells.length c1_), (iv r.1.Side)]), (iv r.2)]) ∧ St NoS w w' [] [rowO 3 encInt A1_ c1_ r.1.Torus.Cells]) := by
 have hS : St NoS w w [rowR enc_Tile A_p0 c_p0 p0] [] := St.init (ro_cons hR0 (ro_nil _ _))
 refine enter 34 Try.func22 rfl Try.ntmps22 rfl ?_
 unfold decide_Decide at hf
 refine WC.seq ?_
 refine WC.region ?_
 refine WL.new hS 2 [] (fun g => (.pointer (some ⟨g, 0, none⟩))) (.cells #[(.bool false), (iv 0), (iv 0), (.slice none 0 0), (iv 0)] 40 (0, 0)) [] (fun fb g => by kernel_rfl) trivial (fun g1 w2 hS3 => ?_)
 refine ⟨trivial, ?_⟩
 refine WL.new hS3 3 [] (fun g => (.pointer (some ⟨g, 0, none⟩))) (.cells #[(iv 0)] 25 (0, 0)) [] (fun fb g => by kernel_rfl) trivial (fun g5 w6 hS7 => ?_)
 refine ⟨trivial, ?_⟩
 refine WL.done rfl ?_
 refine WX.next ?_
 refine WC.seq ?_
 refine WC.seq ?_
 refine WC.region ?_
 refine seg 1 [] [0, 2, 3, 9] [(0, (.slice A_p0 p0.length c_p0)), (2, (pt g1)), (3, (pt g5)), (9, (.slice A_p0 p0.length c_p0))] [] (fun fb => by kernel_rfl) rfl trivial ?_
 obtain ⟨t204, ht205, hf⟩ := bind_some hf
 refine WL.call (some 10) 43 #[(.slice A_p0 p0.length c_p0)] (fun fb => by kernel_rfl) (decide_asks_calls _ p0 A_p0 c_p0 t204 _ (hS7.rd 0) ht205) (fun v w206 hR207 => ?_)
 obtain ⟨rfl, hk_⟩ := hR207
 have hS208 := hS7.keepN hk_
 refine ⟨trivial, ?_⟩
 refine seg 3 [] [0, 2, 3, 4] [(0, (.slice A_p0 p0.length c_p0)), (2, (pt g1)), (3, (pt g5)), (4, (iv t204))] [] (fun fb => by kernel_rfl) rfl trivial ?_
 refine WL.done rfl ?_
 refine WX.next ?_
 refine WC.seq ?_
 refine WC.region ?_
 refine seg 2 [] [0, 2, 3, 4, 12] [(0, (.slice A_p0 p0.length c_p0)), (2, (pt g1)), (3, (pt g5)), (4, (iv t204)), (12, (.bool (t204 != 0)))] [] (fun fb => by kernel_rfl) rfl trivial ?_
 refine WL.done rfl ?_
 refine WX.next ?_
 rcases br_some hf with ⟨h209, hf⟩ | ⟨h209, hf⟩
 ·refine WC.condT2 (fun fb => by kernel_rfl) h209 ?_
  refine WC.seq ?_
  refine WC.region ?_
  refine seg 2 [] [2, 3, 13, 14] [(2, (pt g1)), (3, (pt g5)), (13, (.agg #[(.bool false), (iv 0), (iv 0), (.slice none 0 0), (iv 0)])), (14, (iv t204))] [] (fun fb => by kernel_rfl) rfl trivial ?_
  refine WL.store hS208 1 rfl [(0, (.bool false)), (1, (iv 0)), (2, (iv 0)), (3, (.slice none 0 0)), (4, (iv 0))] #[(.bool false), (iv 0), (iv 0), (.slice none 0 0), (iv 0)] (fun fb => by kernel_rfl) (by kernel_rfl) rfl [0] (by decide) (by decide) (fun w210 hS211 => ?_)
  refine ⟨trivial, ?_⟩
  refine WL.store hS211 1 rfl [(0, (iv t204))] #[(iv t204)] (fun fb => by kernel_rfl) (by kernel_rfl) rfl [0] (by decide) (by decide) (fun w212 hS213 => ?_)
  refine ⟨trivial, ?_⟩
  refine WL.done rfl ?_
  refine WX.next ?_
  refine WC.ret ?_
  have hS214 := hS213.nilrow 3 encInt
  injection hf with hf
  subst hf
  exact WX.thenR (WX.ret_ [.v (.bool false), .v (iv 0), .v (iv 0), .v (.slice none 0 0), .v (iv 0), .v (iv t204)] (.tuple #[(.agg #[(.bool false), (iv 0), (iv 0), (.slice none ([] : List Int).length 0), (iv 0)]), (iv t204)]) [.cell ⟨g1, 0, none⟩ (.bool false), .cell ⟨g1, 1, none⟩ (iv 0), .cell ⟨g1, 2, none⟩ (iv 0), .cell ⟨g1, 3, none⟩ (.slice none 0 0), .cell ⟨g1, 4, none⟩ (iv 0), .cell ⟨g5, 0, none⟩ (iv t204)] (fun fb => by kernel_rfl) ⟨hS213.cell 1 rfl 0 rfl, hS213.cell 1 rfl 1 rfl, hS213.cell 1 rfl 2 rfl, hS213.cell 1 rfl 3 rfl, hS213.cell 1 rfl 4 rfl, hS213.cell 0 rfl 0 rfl, trivial⟩ ⟨_, rfl, none, 0, rfl, (hS214.sub [0] (by decide)).noR⟩)
 refine WC.condF2 (fun fb => by kernel_rfl) h209 ?_
 refine WC.skip ?_
 refine WX.next ?_
 refine WC.seq ?_
 refine WC.seq ?_
 refine WC.region ?_
 refine seg 1 [] [0, 2, 3, 15] [(0, (.slice A_p0 p0.length c_p0)), (2, (pt g1)), (3, (pt g5)), (15, (.slice A_p0 p0.length c_p0))] [] (fun fb => by kernel_rfl) rfl trivial ?_
 obtain ⟨t219, ht220, hf⟩ := bind_some hf
 refine WL.call (some 16) 44 #[(.slice A_p0 p0.length c_p0)] (fun fb => by kernel_rfl) (decide_sides_calls p0 A_p0 c_p0 t219 _ (hS208.rd 0) ht220) (fun v w221 hR222 => ?_)
 obtain ⟨g224, rfl, hk_⟩ := hR222
 have hS223 : St NoS w w221 [rowR enc_Tile A_p0 c_p0 p0] [blk g224 (.cells #[(.slice A_p0 p0.length c_p0)] 22 (0, 0)), blk g5 (.cells #[(iv 0)] 25 (0, 0)), blk g1 (.cells #[(.bool false), (iv 0), (iv 0), (.slice none 0 0), (iv 0)] 40 (0, 0))] := hS208.call hk_ [] [0, 1] (fun g hg => hg.elim) (by simp) (by decide)
 refine ⟨trivial, ?_⟩
 refine WL.done rfl ?_
 refine WX.next ?_
 refine WC.block ?_
 refine WC.rangeO hS223 (fun _ _ h => h) rfl (gf := 61) (lb := [(pt g224)]) (fun fb => by kernel_rfl) (fun _ => by kernel_rfl) (fun LO241 LB242 LX243 l244 D245 w246 hK247 hS248 => ?_)
 have hS251 : St NoS w w246 [rowR enc_Tile A_p0 c_p0 p0] [(fun (s_ : Int × Int) (t_ : Unit) => sepO (blk l244 (LO241 (pendN [.ret] s_.2)) :: [blk g1 (.cells #[(.bool false), (iv 0), (iv 0), (.slice none 0 0), (iv s_.1)] 40 (0, 0)), blk g5 (.cells #[(iv 0)] 25 (0, 0))])) (0, (0 : Int)) (), blk D245 (.deferred (some [])), blk g224 (.cells #[(.slice A_p0 p0.length c_p0)] 22 (0, 0))] := hS248.pack [0, 4, 3] [1, 2] (by decide) (by decide) (by decide)
 have hY254 : ∀ (x0_ : Int) (x1_ : Bool) (s_ : Int × Int) (t_ : Unit) (r_ : (Int × Int) × Bool) (w_ : World), RO (fpL [(fun (s_ : Int × Int) (t_ : Unit) => sepO (blk l244 (LO241 (pendN [.ret] s_.2)) :: [blk g1 (.cells #[(.bool false), (iv 0), (iv 0), (.slice none 0 0), (iv s_.1)] 40 (0, 0)), blk g5 (.cells #[(iv 0)] 25 (0, 0))])) s_ t_]) w_ (poolO [rowR enc_Tile A_p0 c_p0 p0]) → IoOK w_ [(fun (s_ : Int × Int) (t_ : Unit) => sepO (blk l244 (LO241 (pendN [.ret] s_.2)) :: [blk g1 (.cells #[(.bool false), (iv 0), (iv 0), (.slice none 0 0), (iv s_.1)] 40 (0, 0)), blk g5 (.cells #[(iv 0)] 25 (0, 0))])) s_ t_] → decide_Decide.b1 k  x0_ x1_ s_ = some r_ → YieldR Try.prog (.func (.yield l244) #[] #[]) #[(iv x0_), (.bool x1_)] w_ (fun v_ w' => ∃ t1_, v_ = .bool r_.2 ∧ St (fpL [(fun (s_ : Int × Int) (t_ : Unit) => sepO (blk l244 (LO241 (pendN [.ret] s_.2)) :: [blk g1 (.cells #[(.bool false), (iv 0), (iv 0), (.slice none 0 0), (iv s_.1)] 40 (0, 0)), blk g5 (.cells #[(iv 0)] 25 (0, 0))])) s_ t_]) w_ w' [] [(fun (s_ : Int × Int) (t_ : Unit) => sepO (blk l244 (LO241 (pendN [.ret] s_.2)) :: [blk g1 (.cells #[(.bool false), (iv 0), (iv 0), (.slice none 0 0), (iv s_.1)] 40 (0, 0)), blk g5 (.cells #[(iv 0)] 25 (0, 0))])) r_.1 t1_]) := by
  rintro x252 x253 ⟨x240, j255⟩ ⟨⟩ r256 w257 hRd258 hI259 hf260
  rw [decide_Decide.b1] at hf260
  obtain ⟨hj262, hf260⟩ := as_some hf260
  subst hj262
  have hRo263 := hRd258.openSep
  have hS261 : St (fpL [blk l244 (LO241 none), blk g1 (.cells #[(.bool false), (iv 0), (iv 0), (.slice none 0 0), (iv x240)] 40 (0, 0)), blk g5 (.cells #[(iv 0)] 25 (0, 0))]) w257 w257 [rowR enc_Tile A_p0 c_p0 p0] [blk l244 (LO241 none), blk g1 (.cells #[(.bool false), (iv 0), (iv 0), (.slice none 0 0), (iv x240)] 40 (0, 0)), blk g5 (.cells #[(iv 0)] 25 (0, 0))] := St.initIO (ro_cons (poolO.ro hRo263 0) (ro_nil _ _)) hI259.openSep
  refine YieldR.of_loop hK247 (hS261.blkAt 0 rfl) [(iv x252), (.bool x253)] [0, 2, 3] [(0, (.slice A_p0 p0.length c_p0)), (2, (pt g1)), (3, (pt g5))] [(18, (.bool x253)), (17, (iv x252)), (0, (.slice A_p0 p0.length c_p0)), (2, (pt g1)), (3, (pt g5))] rfl rfl rfl rfl rfl ?_
  refine WC.seq ?_
  refine WC.region ?_
  refine seg 1 [] [0, 2, 3, 5, 18] [(0, (.slice A_p0 p0.length c_p0)), (2, (pt g1)), (3, (pt g5)), (5, (iv x252)), (18, (.bool x253))] [] (fun fb => by kernel_rfl) rfl trivial ?_
  refine WL.done rfl ?_
  refine WX.next ?_
  refine WC.region ?_
  refine seg 1 [] [0, 2, 3, 5, 6] [(0, (.slice A_p0 p0.length c_p0)), (2, (pt g1)), (3, (pt g5)), (5, (iv x252)), (6, (.bool x253))] [] (fun fb => by kernel_rfl) rfl trivial ?_
  refine WL.done rfl ?_
  refine WX.begin' hK247 (hS261.blkAt 0 rfl) ?_
  have hS264 := hS261.putO 0 rfl LB242 [1, 2] (by decide) (by decide)
  revert hS264
  generalize World.putObj _ _ _ = w265
  intro hS264
  have hS266 : St (fpL [blk l244 (LO241 none), blk g1 (.cells #[(.bool false), (iv 0), (iv 0), (.slice none 0 0), (iv x240)] 40 (0, 0)), blk g5 (.cells #[(iv 0)] 25 (0, 0))]) w257 w265 [rowR enc_Tile A_p0 c_p0 p0] [blk l244 LB242, blk g1 (.cells #[(.bool false), (iv 0), (iv 0), (.slice none 0 0), (iv x240)] 40 (0, 0)), blk g5 (.cells #[(iv 0)] 25 (0, 0))] := hS264
  refine WC.block ?_
  refine WC.seq ?_
  refine WC.region ?_
  refine seg 2 [] [0, 2, 3, 5, 20] [(0, (.slice A_p0 p0.length c_p0)), (2, (pt g1)), (3, (pt g5)), (5, (iv x252)), (20, (.bool (!x253)))] [] (fun fb => by kernel_rfl) rfl trivial ?_
  refine WL.done rfl ?_
  refine WX.next ?_
  rcases br_some hf260 with ⟨h267, hf260⟩ | ⟨h267, hf260⟩
  ·refine WC.condT2 (fun fb => by kernel_rfl) h267 ?_
   refine WC.seq ?_
   refine WC.region ?_
   refine seg 2 [] [0, 2, 3, 22] [(0, (.slice A_p0 p0.length c_p0)), (2, (pt g1)), (3, (pt g5)), (22, (.agg #[(.bool false), (iv 0), (iv 0), (.slice none 0 0), (iv x252)]))] [] (fun fb => by kernel_rfl) rfl trivial ?_
   refine WL.store hS266 1 rfl [(0, (.bool false)), (1, (iv 0)), (2, (iv 0)), (3, (.slice none 0 0)), (4, (iv x252))] #[(.bool false), (iv 0), (iv 0), (.slice none 0 0), (iv x252)] (fun fb => by kernel_rfl) (by kernel_rfl) rfl [0, 2] (by decide) (by decide) (fun w268 hS269 => ?_)
   refine ⟨trivial, ?_⟩
   refine WL.store hS269 2 rfl [(0, (iv 0))] #[(iv 0)] (fun fb => by kernel_rfl) (by kernel_rfl) rfl [0, 1] (by decide) (by decide) (fun w270 hS271 => ?_)
   refine ⟨trivial, ?_⟩
   refine WL.done rfl ?_
   refine WX.next ?_
   refine WC.ret ?_
   injection hf260 with hf260
   subst hf260
   exact WX.blockR (WX.roundR' hK247 (hS271.blkAt 2 rfl) ⟨(), rfl, ((hS271.putO 2 rfl (LO241 (some .ret)) [0, 1] (by decide) (by decide)).sub [0, 2, 1] (by decide)).noR.closeSep⟩)
  refine WC.condF2 (fun fb => by kernel_rfl) h267 ?_
  refine WC.skip ?_
  injection hf260 with hf260
  subst hf260
  exact WX.blockN (WX.roundN' hK247 (hS266.blkAt 0 rfl) ⟨(), rfl, ((hS266.putO 0 rfl (LO241 none) [1, 2] (by decide) (by decide)).sub [0, 1, 2] (by decide)).noR.closeSep⟩)
 obtain ⟨t5960, ht5961, hf⟩ := bind_some hf
 refine (decide_sides_1_y_calls _ p0 (decide_Decide.b1 k ) (0, (0 : Int)) g224 A_p0 c_p0 (.func (.yield l244) #[] #[]) (fun (s_ : Int × Int) (t_ : Unit) => sepO (blk l244 (LO241 (pendN [.ret] s_.2)) :: [blk g1 (.cells #[(.bool false), (iv 0), (iv 0), (.slice none 0 0), (iv s_.1)] 40 (0, 0)), blk g5 (.cells #[(iv 0)] 25 (0, 0))])) () (poolO [rowR enc_Tile A_p0 c_p0 p0]) t5960 _ (hS251.rdP [0]) (hS251.owT [0] 2 (by decide)) (hS251.rdT [0] 0) (hS251.io [0] (by decide)) hY254 ht5961).post (fun v w5962 hR5963 => ?_)
 obtain ⟨tt5965, rfl, hk_⟩ := hR5963
 have hS5964 : St NoS w w5962 [rowR enc_Tile A_p0 c_p0 p0] [(fun (s_ : Int × Int) (t_ : Unit) => sepO (blk l244 (LO241 (pendN [.ret] s_.2)) :: [blk g1 (.cells #[(.bool false), (iv 0), (iv 0), (.slice none 0 0), (iv s_.1)] 40 (0, 0)), blk g5 (.cells #[(iv 0)] 25 (0, 0))])) t5960 tt5965, blk D245 (.deferred (some [])), blk g224 (.cells #[(.slice A_p0 p0.length c_p0)] 22 (0, 0))] := hS251.call hk_ [0] [1, 2] (fun g hg => fpL_sel g hg) (by decide) (by decide)
 have hS5966 : St NoS w w5962 [rowR enc_Tile A_p0 c_p0 p0] [blk l244 (LO241 (pendN [.ret] t5960.2)), blk g1 (.cells #[(.bool false), (iv 0), (iv 0), (.slice none 0 0), (iv t5960.1)] 40 (0, 0)), blk g5 (.cells #[(iv 0)] 25 (0, 0)), blk D245 (.deferred (some [])), blk g224 (.cells #[(.slice A_p0 p0.length c_p0)] 22 (0, 0))] := hS5964.unpack 0 rfl [1, 2] (by decide) (by decide)
 refine ⟨_, hS5966.blkAt 0 rfl, ?_⟩
 have hS5967 := (hS5966.putO 0 rfl (LX243 (pendN [.ret] t5960.2)) [1, 2, 3, 4] (by decide) (by decide)).tail
 revert hS5967
 generalize World.putObj _ _ _ = w5968
 intro hS5967
 have hS5969 : St NoS w w5968 [rowR enc_Tile A_p0 c_p0 p0] [blk g1 (.cells #[(.bool false), (iv 0), (iv 0), (.slice none 0 0), (iv t5960.1)] 40 (0, 0)), blk g5 (.cells #[(iv 0)] 25 (0, 0)), blk D245 (.deferred (some [])), blk g224 (.cells #[(.slice A_p0 p0.length c_p0)] 22 (0, 0))] := hS5967
 rcases br_some hf with ⟨h5970, hf⟩ | ⟨h5970, hf⟩
 ·
  have hj_ := eq_of_beq h5970
  rw [hj_]
  refine WC.keep [0, 2, 3, 4294967295] [(0, (.slice A_p0 p0.length c_p0)), (2, (pt g1)), (3, (pt g5)), (4294967295, (.func (.yield D245) #[] #[]))] rfl ?_
  refine WC.ret ?_
  have hS5971 := hS5969.nilrow 3 encInt
  injection hf with hf
  subst hf
  exact WX.blockR (WX.thenR (WX.retM hS5971 3 rfl rfl [0, 1, 2, 4] (by decide) (by decide) [.v (.bool false), .v (iv 0), .v (iv 0), .v (.slice none ([] : List Int).length 0), .v (iv t5960.1), .v (iv 0)] (.tuple #[(.agg #[(.bool false), (iv 0), (iv 0), (.slice none ([] : List Int).length 0), (iv t5960.1)]), (iv 0)]) [.cell ⟨g1, 0, none⟩ (.bool false), .cell ⟨g1, 1, none⟩ (iv 0), .cell ⟨g1, 2, none⟩ (iv 0), .cell ⟨g1, 3, none⟩ (.slice none ([] : List Int).length 0), .cell ⟨g1, 4, none⟩ (iv t5960.1), .cell ⟨g5, 0, none⟩ (iv 0)] (fun fb => by kernel_rfl) (fun w5973 hS5972 => ⟨⟨hS5972.cell 1 rfl 0 rfl, hS5972.cell 1 rfl 1 rfl, hS5972.cell 1 rfl 2 rfl, hS5972.cell 1 rfl 3 rfl, hS5972.cell 1 rfl 4 rfl, hS5972.cell 2 rfl 0 rfl, trivial⟩, ⟨none, 0, rfl, (hS5972.sub [0] (by decide)).noR⟩⟩)))
 obtain ⟨h5974, hf⟩ := as_some hf
 rw [h5974]
 refine WX.keep [0, 2, 3, 4294967295] [(0, (.slice A_p0 p0.length c_p0)), (2, (pt g1)), (3, (pt g5)), (4294967295, (.func (.yield D245) #[] #[]))] rfl ?_
 refine WX.blockN (WX.next ?_)
 refine WC.seq ?_
 refine WC.region ?_
 refine seg 1 [] [2, 3, 24, 4294967295] [(2, (pt g1)), (3, (pt g5)), (24, (.slice A_p0 p0.length c_p0)), (4294967295, (.func (.yield D245) #[] #[]))] [] (fun fb => by kernel_rfl) rfl trivial ?_
 obtain ⟨t8917, ht8918, hf⟩ := bind_some hf
 refine WL.call (some 25) 25 #[(.slice A_p0 p0.length c_p0), (iv 6)] (fun fb => by kernel_rfl) (torus_Least_calls _ p0 6 A_p0 c_p0 t8917 _ (hS5969.rd 0) ht8918) (fun v w8919 hR8920 => ?_)
 obtain ⟨A8922, c8923, rfl, hk_⟩ := hR8920
 have hS8921 : St NoS w w8919 [rowR enc_Tile A_p0 c_p0 p0] [rowO 3 encInt A8922 c8923 t8917.1.Cells, blk g1 (.cells #[(.bool false), (iv 0), (iv 0), (.slice none 0 0), (iv t5960.1)] 40 (0, 0)), blk g5 (.cells #[(iv 0)] 25 (0, 0)), blk D245 (.deferred (some [])), blk g224 (.cells #[(.slice A_p0 p0.length c_p0)] 22 (0, 0))] := hS5969.call hk_ [] [0, 1, 2, 3] (fun g hg => hg.elim) (by simp) (by decide)
 refine ⟨trivial, ?_⟩
 refine seg 5 [] [2, 3, 26, 27, 4294967295] [(2, (pt g1)), (3, (pt g5)), (26, (.agg #[(iv t8917.1.Width), (iv t8917.1.Height), (.slice A8922 t8917.1.Cells.length c8923)])), (27, (iv t8917.2)), (4294967295, (.func (.yield D245) #[] #[]))] [] (fun fb => by kernel_rfl) rfl trivial ?_
 refine WL.new hS8921 7 [] (fun g => (.pointer (some ⟨g, 0, none⟩))) (.cells #[(iv 0), (iv 0), (.slice none 0 0)] 38 (0, 0)) [] (fun fb g => by kernel_rfl) trivial (fun g8924 w8925 hS8926 => ?_)
 refine ⟨trivial, ?_⟩
 refine WL.store hS8926 0 rfl [(0, (iv t8917.1.Width)), (1, (iv t8917.1.Height)), (2, (.slice A8922 t8917.1.Cells.length c8923))] #[(iv t8917.1.Width), (iv t8917.1.Height), (.slice A8922 t8917.1.Cells.length c8923)] (fun fb => by kernel_rfl) (by kernel_rfl) rfl [1, 2, 3, 4, 5] (by decide) (by decide) (fun w8928 hS8929 => ?_)
 refine ⟨trivial, ?_⟩
 refine seg 8 [] [2, 3, 7, 8, 4294967295] [(2, (pt g1)), (3, (pt g5)), (7, (pt g8924)), (8, (iv t8917.2)), (4294967295, (.func (.yield D245) #[] #[]))] [] (fun fb => by kernel_rfl) rfl trivial ?_
 refine WL.done rfl ?_
 refine WX.next ?_
 refine WC.seq ?_
 refine WC.seq ?_
 refine WC.region ?_
 refine seg 2 [] [2, 3, 7, 8, 29, 4294967295] [(2, (pt g1)), (3, (pt g5)), (7, (pt g8924)), (8, (iv t8917.2)), (29, (.bool (t8917.2 != 0))), (4294967295, (.func (.yield D245) #[] #[]))] [] (fun fb => by kernel_rfl) rfl trivial ?_
 refine WL.done rfl ?_
 refine WX.next ?_
 rcases br_some hf with ⟨h8930, hf⟩ | ⟨h8930, hf⟩
 ·refine WC.condT2 (fun fb => by kernel_rfl) h8930 ?_
  refine WC.seq ?_
  refine WC.region ?_
  refine seg 2 [] [2, 3, 30, 31, 4294967295] [(2, (pt g1)), (3, (pt g5)), (30, (.agg #[(.bool false), (iv 0), (iv 0), (.slice none 0 0), (iv 0)])), (31, (iv t8917.2)), (4294967295, (.func (.yield D245) #[] #[]))] [] (fun fb => by kernel_rfl) rfl trivial ?_
  refine WL.store hS8929 2 rfl [(0, (.bool false)), (1, (iv 0)), (2, (iv 0)), (3, (.slice none 0 0)), (4, (iv 0))] #[(.bool false), (iv 0), (iv 0), (.slice none 0 0), (iv 0)] (fun fb => by kernel_rfl) (by kernel_rfl) rfl [0, 1, 3, 4, 5] (by decide) (by decide) (fun w8931 hS8932 => ?_)
  refine ⟨trivial, ?_⟩
  refine WL.store hS8932 3 rfl [(0, (iv t8917.2))] #[(iv t8917.2)] (fun fb => by kernel_rfl) (by kernel_rfl) rfl [0, 1, 2, 4, 5] (by decide) (by decide) (fun w8933 hS8934 => ?_)
  refine ⟨trivial, ?_⟩
  refine WL.done rfl ?_
  refine WX.next ?_
  refine WC.ret ?_
  have hS8935 := hS8934.nilrow 3 encInt
  injection hf with hf
  subst hf
  exact WX.thenR (WX.retM hS8935 5 rfl rfl [0, 1, 2, 3, 4, 6] (by decide) (by decide) [.v (.bool false), .v (iv 0), .v (iv 0), .v (.slice none ([] : List Int).length 0), .v (iv 0), .v (iv t8917.2)] (.tuple #[(.agg #[(.bool false), (iv 0), (iv 0), (.slice none ([] : List Int).length 0), (iv 0)]), (iv t8917.2)]) [.cell ⟨g1, 0, none⟩ (.bool false), .cell ⟨g1, 1, none⟩ (iv 0), .cell ⟨g1, 2, none⟩ (iv 0), .cell ⟨g1, 3, none⟩ (.slice none ([] : List Int).length 0), .cell ⟨g1, 4, none⟩ (iv 0), .cell ⟨g5, 0, none⟩ (iv t8917.2)] (fun fb => by kernel_rfl) (fun w8937 hS8936 => ⟨⟨hS8936.cell 2 rfl 0 rfl, hS8936.cell 2 rfl 1 rfl, hS8936.cell 2 rfl 2 rfl, hS8936.cell 2 rfl 3 rfl, hS8936.cell 2 rfl 4 rfl, hS8936.cell 1 rfl 0 rfl, trivial⟩, ⟨none, 0, rfl, (hS8936.sub [0] (by decide)).noR⟩⟩))
 refine WC.condF2 (fun fb => by kernel_rfl) h8930 ?_
 refine WC.skip ?_
 refine WX.next ?_
 refine WC.seq ?_
 refine WC.region ?_
 refine seg 2 [.v (iv t8917.1.Width), .v (iv t8917.1.Height), .v (.slice A8922 t8917.1.Cells.length c8923)] [2, 3, 33, 4294967295] [(2, (pt g1)), (3, (pt g5)), (33, (.agg #[(.bool true), (iv t8917.1.Width), (iv t8917.1.Height), (.slice A8922 t8917.1.Cells.length c8923), (iv 0)])), (4294967295, (.func (.yield D245) #[] #[]))] [.cell ⟨g8924, 0, none⟩ (iv t8917.1.Width), .cell ⟨g8924, 1, none⟩ (iv t8917.1.Height), .cell ⟨g8924, 2, none⟩ (.slice A8922 t8917.1.Cells.length c8923)] (fun fb => by kernel_rfl) rfl ⟨hS8929.cell 0 rfl 0 rfl, hS8929.cell 0 rfl 1 rfl, hS8929.cell 0 rfl 2 rfl, trivial⟩ ?_
 refine WL.store hS8929 2 rfl [(0, (.bool true)), (1, (iv t8917.1.Width)), (2, (iv t8917.1.Height)), (3, (.slice A8922 t8917.1.Cells.length c8923)), (4, (iv 0))] #[(.bool true), (iv t8917.1.Width), (iv t8917.1.Height), (.slice A8922 t8917.1.Cells.length c8923), (iv 0)] (fun fb => by kernel_rfl) (by kernel_rfl) rfl [0, 1, 3, 4, 5] (by decide) (by decide) (fun w8938 hS8939 => ?_)
 refine ⟨trivial, ?_⟩
 refine WL.store hS8939 3 rfl [(0, (iv 0))] #[(iv 0)] (fun fb => by kernel_rfl) (by kernel_rfl) rfl [0, 1, 2, 4, 5] (by decide) (by decide) (fun w8940 hS8941 => ?_)
 refine ⟨trivial, ?_⟩
 refine WL.done rfl ?_
 refine WX.next ?_
 refine WC.ret ?_
 injection hf with hf
 subst hf
 exact WX.retM hS8941 4 rfl rfl [0, 1, 2, 3, 5] (by decide) (by decide) [.v (.bool true), .v (iv t8917.1.Width), .v (iv t8917.1.Height), .v (.slice A8922 t8917.1.Cells.length c8923), .v (iv 0), .v (iv 0)] (.tuple #[(.agg #[(.bool true), (iv t8917.1.Width), (iv t8917.1.Height), (.slice A8922 t8917.1.Cells.length c8923), (iv 0)]), (iv 0)]) [.cell ⟨g1, 0, none⟩ (.bool true), .cell ⟨g1, 1, none⟩ (iv t8917.1.Width), .cell ⟨g1, 2, none⟩ (iv t8917.1.Height), .cell ⟨g1, 3, none⟩ (.slice A8922 t8917.1.Cells.length c8923), .cell ⟨g1, 4, none⟩ (iv 0), .cell ⟨g5, 0, none⟩ (iv 0)] (fun fb => by kernel_rfl) (fun w8943 hS8942 => ⟨⟨hS8942.cell 1 rfl 0 rfl, hS8942.cell 1 rfl 1 rfl, hS8942.cell 1 rfl 2 rfl, hS8942.cell 1 rfl 3 rfl, hS8942.cell 1 rfl 4 rfl, hS8942.cell 0 rfl 0 rfl, trivial⟩, ⟨A8922, c8923, rfl, (hS8942.sub [3] (by decide)).noR⟩⟩)
theorem decide_Fills_calls (k : Nat) (p0 : List Tile) (A_p0 : Option Addr) (c_p0 : Nat) (r : Bool × Int) (w : World) (hR0 : RO NoS w (rowR enc_Tile A_p0 c_p0 p0)) (hf : decide_Fills k p0 = some r) :
  CallsR Try.prog 11 #[(.slice A_p0 p0.length c_p0)] w (fun v w' => v = (.tuple #[(.bool r.1), (iv r.2)]) ∧ Keeps NoS w w') := by
 have hS : St NoS w w [rowR enc_Tile A_p0 c_p0 p0] [] := St.init (ro_cons hR0 (ro_nil _ _))
 refine enter 14 Try.func11 rfl Try.ntmps11 rfl ?_
 unfold decide_Fills at hf
 refine WC.seq ?_
 refine WC.region ?_
 refine seg 2 [] [0] [(0, (.slice A_p0 p0.length c_p0))] [] (fun fb => by kernel_rfl) rfl trivial ?_
 refine WL.done rfl ?_
 refine WX.next ?_
 refine WC.seq ?_
 refine WC.region ?_
 refine seg 1 [] [7] [(7, (.slice A_p0 p0.length c_p0))] [] (fun fb => by kernel_rfl) rfl trivial ?_
 obtain ⟨t8944, ht8945, hf⟩ := bind_some hf
 refine WL.call (some 8) 22 #[(.slice A_p0 p0.length c_p0)] (fun fb => by kernel_rfl) (decide_Decide_calls _ p0 A_p0 c_p0 t8944 _ (hS.rd 0) ht8945) (fun v w8946 hR8947 => ?_)
 obtain ⟨A8949, c8950, rfl, hk_⟩ := hR8947
 have hS8948 : St NoS w w8946 [rowR enc_Tile A_p0 c_p0 p0] [rowO 3 encInt A8949 c8950 t8944.1.Torus.Cells] := hS.call hk_ [] [] (fun g hg => hg.elim) (by simp) (by decide)
 refine ⟨trivial, ?_⟩
 refine seg 5 [] [9, 10] [(9, (.agg #[(.bool t8944.1.Fills), (iv t8944.1.Torus.Width), (iv t8944.1.Torus.Height), (.slice A8949 t8944.1.Torus.Cells.length c8950), (iv t8944.1.Side)])), (10, (iv t8944.2))] [] (fun fb => by kernel_rfl) rfl trivial ?_
 refine WL.new hS8948 4 [] (fun g => (.pointer (some ⟨g, 0, none⟩))) (.cells #[(.bool false), (iv 0), (iv 0), (.slice none 0 0), (iv 0)] 40 (0, 0)) [] (fun fb g => by kernel_rfl) trivial (fun g8951 w8952 hS8953 => ?_)
 refine ⟨trivial, ?_⟩
 refine WL.store hS8953 0 rfl [(0, (.bool t8944.1.Fills)), (1, (iv t8944.1.Torus.Width)), (2, (iv t8944.1.Torus.Height)), (3, (.slice A8949 t8944.1.Torus.Cells.length c8950)), (4, (iv t8944.1.Side))] #[(.bool t8944.1.Fills), (iv t8944.1.Torus.Width), (iv t8944.1.Torus.Height), (.slice A8949 t8944.1.Torus.Cells.length c8950), (iv t8944.1.Side)] (fun fb => by kernel_rfl) (by kernel_rfl) rfl [1] (by decide) (by decide) (fun w8955 hS8956 => ?_)
 refine ⟨trivial, ?_⟩
 refine seg 8 [] [4, 5] [(4, (pt g8951)), (5, (iv t8944.2))] [] (fun fb => by kernel_rfl) rfl trivial ?_
 refine WL.done rfl ?_
 refine WX.next ?_
 refine WC.seq ?_
 refine WC.region ?_
 refine seg 5 [.v (.bool t8944.1.Fills)] [2, 3] [(2, (.bool t8944.1.Fills)), (3, (iv t8944.2))] [.cell ⟨g8951, 0, none⟩ (.bool t8944.1.Fills)] (fun fb => by kernel_rfl) rfl ⟨hS8956.cell 0 rfl 0 rfl, trivial⟩ ?_
 refine WL.done rfl ?_
 refine WX.next ?_
 refine WC.ret ?_
 injection hf with hf
 subst hf
 exact WX.ret_ [] (.tuple #[(.bool t8944.1.Fills), (iv t8944.2)]) [] (fun fb => by kernel_rfl) trivial ⟨_, rfl, rfl, hS8956.keep⟩
theorem law09_chess_calls   (r : (List Tile)) (w : World)  (hf : law09_chess = some r) :
  CallsR Try.prog 36 #[] w (fun v w' => ∃ (A1_ : Option Addr), ∃ (c1_ : Nat), v = (.slice A1_ r.length c1_) ∧ St NoS w w' [] [rowO 24 enc_Tile A1_ c1_ r]) := by
 have hS : St NoS w w [] [] := St.init (ro_nil _ _)
 refine enter 4 Try.func36 rfl Try.ntmps36 rfl ?_
 unfold law09_chess at hf
 refine WC.seq ?_
 refine WC.region ?_
 refine seg 1 [] [] [] [] (fun fb => by kernel_rfl) rfl trivial ?_
 refine WL.done rfl ?_
 refine WX.next ?_
 refine WC.seq ?_
 refine WC.region ?_
 refine seg 2 [] [1, 2] [(1, (.agg #[(iv 0), (iv 1), (iv 1), (iv 0)])), (2, (.agg #[(iv 1), (iv 0), (iv 0), (iv 1)]))] [] (fun fb => by kernel_rfl) rfl trivial ?_
 refine WL.new hS 3 [] (fun g => (.slice (some ⟨g, 0, none⟩) 2 2)) (.cells #[(iv 0), (iv 1), (iv 1), (iv 0), (iv 1), (iv 0), (iv 0), (iv 1)] 24 (0, 0)) [] (fun fb g => by kernel_rfl) trivial (fun g8981 w8982 hS8983 => ?_)
 refine ⟨trivial, ?_⟩
 have hS8985 : St NoS w w8982 [] [rowO 24 enc_Tile (some ⟨g8981, 0, none⟩) 2 [(Tile.mk 0 1 1 0), (Tile.mk 1 0 0 1)]] := hS8983.map1 0 _ (fun h => rowO.ofBlk h rfl (Nat.le_of_ble_eq_true (by kernel_rfl))) (fun _ h => by obtain ⟨_, h1, h2⟩ := h; injection h1 with h1; subst h1; exact h2) [] (by decide) (by decide)
 refine seg 4 [] [0] [(0, (.slice (some ⟨g8981, 0, none⟩) [(Tile.mk 0 1 1 0), (Tile.mk 1 0 0 1)].length 2))] [] (fun fb => by kernel_rfl) rfl trivial ?_
 refine WL.done rfl ?_
 refine WX.next ?_
 refine WC.ret ?_
 injection hf with hf
 subst hf
 exact WX.ret_ [] (.slice (some ⟨g8981, 0, none⟩) [(Tile.mk 0 1 1 0), (Tile.mk 1 0 0 1)].length 2) [] (fun fb => by kernel_rfl) trivial ⟨_, rfl, (some ⟨g8981, 0, none⟩), 2, rfl, (hS8985.sub [0] (by decide)).noR⟩
theorem ref01_Same_calls (k : Nat) (p0 : List Int) (p1 : List Int) (A_p0 : Option Addr) (c_p0 : Nat) (A_p1 : Option Addr) (c_p1 : Nat) (r : Bool) (w : World) (hR0 : RO NoS w (rowR encInt A_p0 c_p0 p0)) (hR1 : RO NoS w (rowR encInt A_p1 c_p1 p1)) (hf : ref01_Same k p0 p1 = some r) :
  CallsR Try.prog 47 #[(.slice A_p0 p0.length c_p0), (.slice A_p1 p1.length c_p1)] w (fun v w' => v = (.bool r) ∧ Keeps NoS w w') := by
 have hS : St NoS w w [rowR encInt A_p0 c_p0 p0, rowR encInt A_p1 c_p1 p1] [] := St.init (ro_cons hR0 (ro_cons hR1 (ro_nil _ _)))
 refine enter 26 Try.func47 rfl Try.ntmps47 rfl ?_
 unfold ref01_Same at hf
 refine WC.seq ?_
 refine WC.region ?_
 refine seg 1 [] [0, 1] [(0, (.slice A_p0 p0.length c_p0)), (1, (.slice A_p1 p1.length c_p1))] [] (fun fb => by kernel_rfl) rfl trivial ?_
 refine WL.done rfl ?_
 refine WX.next ?_
 refine WC.seq ?_
 refine WC.seq ?_
 refine WC.region ?_
 refine seg 5 [] [0, 1, 10] [(0, (.slice A_p0 p0.length c_p0)), (1, (.slice A_p1 p1.length c_p1)), (10, (.bool ((p0.length : Int) != (p1.length : Int))))] [] (fun fb => by kernel_rfl) rfl trivial ?_
 refine WL.done rfl ?_
 refine WX.next ?_
 rcases br_some hf with ⟨h9044, hf⟩ | ⟨h9044, hf⟩
 ·refine WC.condT2 (fun fb => by kernel_rfl) h9044 ?_
  refine WC.seq ?_
  refine WC.region ?_
  refine seg 1 [] [4] [(4, (.bool false))] [] (fun fb => by kernel_rfl) rfl trivial ?_
  refine WL.done rfl ?_
  refine WX.next ?_
  refine WC.ret ?_
  injection hf with hf
  subst hf
  exact WX.thenR (WX.ret_ [] (.bool false) [] (fun fb => by kernel_rfl) trivial ⟨_, rfl, rfl, hS.keep⟩)
 refine WC.condF2 (fun fb => by kernel_rfl) h9044 ?_
 refine WC.skip ?_
 refine WX.next ?_
 refine WC.seq ?_
 refine WC.seq ?_
 refine WC.region ?_
 refine seg 1 [] [0, 1, 5] [(0, (.slice A_p0 p0.length c_p0)), (1, (.slice A_p1 p1.length c_p1)), (5, (iv 0))] [] (fun fb => by kernel_rfl) rfl trivial ?_
 refine WL.done rfl ?_
 refine WX.next ?_
 obtain ⟨x9067, hx9068, hf⟩ := bind_some hf
 refine WC.cutN (T := Unit) (fun t => []) (fun t w1 => St NoS w w1 [rowR encInt A_p0 c_p0 p0, rowR encInt A_p1 c_p1 p1] [] ∧ x9067 = .inr t) (fun Kx9067 => ?_) ?_
 ·
  refine WC.block ?_
  refine WC.loop (T := Int) (fun t => [(0, (.slice A_p0 p0.length c_p0)), (1, (.slice A_p1 p1.length c_p1)), (5, (iv t))]) (fun n t w1 => St NoS w w1 [rowR encInt A_p0 c_p0 p0, rowR encInt A_p1 c_p1 p1] [] ∧ ref01_Same.l0 n t p0 p1 = some x9067) k 0 [0, 1, 5] rfl ⟨(hS.subR [0, 1]).sub [] (by decide), hx9068⟩ ?_
  rintro k9069 x9066 w9070 ⟨hS9071, hl9072⟩
  cases k9069 with
  | zero => rw [ref01_Same.l0] at hl9072; cases hl9072
  | succ k9069 =>
   rw [ref01_Same.l0] at hl9072
   refine WC.seq ?_
   refine WC.seq ?_
   refine WC.region ?_
   refine seg 4 [] [0, 1, 5, 14] [(0, (.slice A_p0 p0.length c_p0)), (1, (.slice A_p1 p1.length c_p1)), (5, (iv x9066)), (14, (.bool (decide (x9066 < (p0.length : Int)))))] [] (fun fb => by kernel_rfl) rfl trivial ?_
   refine WL.done rfl ?_
   refine WX.next ?_
   rcases br_some hl9072 with ⟨h9073, hl9072⟩ | ⟨h9073, hl9072⟩
   ·refine WC.condT2 (fun fb => by kernel_rfl) h9073 ?_
    refine WC.skip ?_
    refine WX.next ?_
    refine WC.seq ?_
    refine WC.block ?_
    refine WC.seq ?_
    obtain ⟨h9080, hl9072⟩ := as_some hl9072
    obtain ⟨h9081, hl9072⟩ := as_some hl9072
    refine WC.regionD ([(3, ((adr A_p0).add ((x9066).toNat * 1)), (iv (rdD p0 x9066 0))), (7, ((adr A_p1).add ((x9066).toNat * 1)), (iv (rdD p1 x9066 0)))], [0, 1, 2, 3, 4, 5, 6, 7, 8], [[], [], [0, 1], [0, 1, 2], [], [], [4, 5], [4, 5, 6], [0, 1, 2, 3, 4, 5, 6, 7]]) [[0, 1, 2, 3, 4, 5, 6, 7, 8]] (by kernel_rfl) (by kernel_rfl) (NoPanic.seq (NoPanic.block (NoPanic.seq (NoPanic.seq (NoPanic.block (NoPanic.seq (NoPanic.body))))))) ?_
    have hS9077 := hS9071.drew
    revert hS9077
    generalize World.drew w9070 = w9076
    intro hS9077
    refine ⟨⟨rowR.cell (hS9077.rd 0).1 0 h9080.1 h9080.2 0 rfl, rowR.cell (hS9077.rd 1).1 0 h9081.1 h9081.2 0 rfl, trivial⟩, forallC ?_ (forallN)⟩
    refine segF 9 [.v (iv (rdD p0 x9066 0)), .v (iv (rdD p1 x9066 0))] [0, 1, 5, 25] [(0, (.slice A_p0 p0.length c_p0)), (1, (.slice A_p1 p1.length c_p1)), (5, (iv x9066)), (25, (.bool ((rdD p0 x9066 0) != (rdD p1 x9066 0))))] [.idx A_p0 x9066 p0.length, .idx A_p1 x9066 p1.length] [0, 1] [(3, ((adr A_p0).add ((x9066).toNat * 1)), (iv (rdD p0 x9066 0))), (7, ((adr A_p1).add ((x9066).toNat * 1)), (iv (rdD p1 x9066 0)))] (fun fb => by kernel_rfl) rfl ⟨rowR.adr (hS9077.rd 0).1 h9080.1 h9080.2, rowR.adr (hS9077.rd 1).1 h9081.1 h9081.2, trivial⟩ rfl ?_
    refine WL.done rfl ?_
    refine WX.next ?_
    rcases br_some hl9072 with ⟨h9082, hl9072⟩ | ⟨h9082, hl9072⟩
    ·refine WC.condT2 (fun fb => by kernel_rfl) h9082 ?_
     refine WC.seq ?_
     refine WC.region ?_
     refine seg 1 [] [4] [(4, (.bool false))] [] (fun fb => by kernel_rfl) rfl trivial ?_
     refine WL.done rfl ?_
     refine WX.next ?_
     refine WC.ret ?_
     injection hl9072 with hl9072
     subst hl9072
     injection hf with hf
     subst hf
     exact WX.blockR (WX.thenR (WX.thenR (WX.blockR (WX.thenR (WX.ret_ [] (.bool false) [] (fun fb => by kernel_rfl) trivial ⟨_, rfl, rfl, hS9077.keep⟩)))))
    refine WC.condF2 (fun fb => by kernel_rfl) h9082 ?_
    refine WC.skip ?_
    refine WX.blockN (WX.next ?_)
    refine WC.region ?_
    refine seg 3 [] [0, 1, 5] [(0, (.slice A_p0 p0.length c_p0)), (1, (.slice A_p1 p1.length c_p1)), (5, (iv (w64 (x9066 + 1))))] [] (fun fb => by kernel_rfl) rfl trivial ?_
    refine WL.done rfl ?_
    exact WX.again k9069 (Nat.lt_succ_self _) (w64 (x9066 + 1)) [0, 1, 5] rfl ⟨(hS9077.subR [0, 1]).sub [] (by decide), hl9072⟩
   refine WC.condF2 (fun fb => by kernel_rfl) h9073 ?_
   refine WC.exit ?_
   injection hl9072 with hl9072
   exact WX.thenX (WX.thenX (WX.blockHere (WX.to Kx9067 () [] rfl ⟨(hS9071.subR [0, 1]).sub [] (by decide), hl9072.symm⟩)))
 rintro y9086 w9083 ⟨hS9084, hq9085⟩
 subst hq9085
 have hf := sum_inr hf
 refine WX.next ?_
 refine WC.seq ?_
 refine WC.region ?_
 refine seg 1 [] [4] [(4, (.bool true))] [] (fun fb => by kernel_rfl) rfl trivial ?_
 refine WL.done rfl ?_
 refine WX.next ?_
 refine WC.ret ?_
 injection hf with hf
 subst hf
 exact WX.ret_ [] (.bool true) [] (fun fb => by kernel_rfl) trivial ⟨_, rfl, rfl, hS9084.keep⟩
theorem ref01_SamePattern_calls (k : Nat) (p0 : Pattern) (p1 : Pattern) (A_p0_Cells : Option Addr) (c_p0_Cells : Nat) (A_p1_Cells : Option Addr) (c_p1_Cells : Nat) (r : Bool) (w : World) (hR0 : RO NoS w (rowR encInt A_p0_Cells c_p0_Cells p0.Cells)) (hR1 : RO NoS w (rowR encInt A_p1_Cells c_p1_Cells p1.Cells)) (hf : ref01_SamePattern k p0 p1 = some r) :
  CallsR Try.prog 26 #[(.agg #[(iv p0.Width), (iv p0.Height), (.slice A_p0_Cells p0.Cells.length c_p0_Cells)]), (.agg #[(iv p1.Width), (iv p1.Height), (.slice A_p1_Cells p1.Cells.length c_p1_Cells)])] w (fun v w' => v = (.bool r) ∧ Keeps NoS w w') := by
 have hS : St NoS w w [rowR encInt A_p0_Cells c_p0_Cells p0.Cells, rowR encInt A_p1_Cells c_p1_Cells p1.Cells] [] := St.init (ro_cons hR0 (ro_cons hR1 (ro_nil _ _)))
 refine enter 24 Try.func26 rfl Try.ntmps26 rfl ?_
 unfold ref01_SamePattern at hf
 refine WC.seq ?_
 refine WC.region ?_
 refine WL.new hS 2 [] (fun g => (.pointer (some ⟨g, 0, none⟩))) (.cells #[(iv p0.Width), (iv p0.Height), (.slice A_p0_Cells p0.Cells.length c_p0_Cells)] 38 (0, 0)) [] (fun fb g => by kernel_rfl) trivial (fun g9034 w9035 hS9036 => ?_)
 refine ⟨trivial, ?_⟩
 refine WL.new hS9036 3 [] (fun g => (.pointer (some ⟨g, 0, none⟩))) (.cells #[(iv p1.Width), (iv p1.Height), (.slice A_p1_Cells p1.Cells.length c_p1_Cells)] 38 (0, 0)) [] (fun fb g => by kernel_rfl) trivial (fun g9038 w9039 hS9040 => ?_)
 refine ⟨trivial, ?_⟩
 refine seg 3 [] [2, 3] [(2, (pt g9034)), (3, (pt g9038))] [] (fun fb => by kernel_rfl) rfl trivial ?_
 refine WL.done rfl ?_
 refine WX.next ?_
 refine WC.seq ?_
 refine WC.region ?_
 refine seg 6 [.v (iv p0.Width), .v (iv p1.Width)] [2, 3, 10] [(2, (pt g9034)), (3, (pt g9038)), (10, (.bool (p0.Width == p1.Width)))] [.cell ⟨g9034, 0, none⟩ (iv p0.Width), .cell ⟨g9038, 0, none⟩ (iv p1.Width)] (fun fb => by kernel_rfl) rfl ⟨hS9040.cell 1 rfl 0 rfl, hS9040.cell 0 rfl 0 rfl, trivial⟩ ?_
 refine WL.cutV (T := Bool) 12 (fun t => [(16, (.bool t)), (2, (pt g9034)), (3, (pt g9038))]) (fun t => ((p0.Width == p1.Width) && (p0.Height == p1.Height)) = t) (fun K => ?_) ?_
 ·
  rcases Bool.eq_false_or_eq_true (p0.Width == p1.Width) with h9042 | h9042
  ·
   refine WL.setB 10 h9042 rfl ?_
   refine seg 12 [.v (iv p0.Height), .v (iv p1.Height)] [2, 3, 16] [(2, (pt g9034)), (3, (pt g9038)), (16, (.bool (p0.Height == p1.Height)))] [.cell ⟨g9034, 1, none⟩ (iv p0.Height), .cell ⟨g9038, 1, none⟩ (iv p1.Height)] (fun fb => by kernel_rfl) rfl ⟨hS9040.cell 1 rfl 1 rfl, hS9040.cell 0 rfl 1 rfl, trivial⟩ ?_
   exact WL.toV K (p0.Height == p1.Height) [16, 2, 3] rfl (by first | (rw [h9042]; done) | (rw [h9042]; rfl))
  refine WL.setB 10 h9042 rfl ?_
  refine seg 12 [] [2, 3, 16] [(2, (pt g9034)), (3, (pt g9038)), (16, (.bool false))] [] (fun fb => by kernel_rfl) rfl trivial ?_
  exact WL.toV K false [16, 2, 3] rfl (by first | (rw [h9042]; done) | (rw [h9042]; rfl))
 rintro b9043 rfl
 refine seg 13 [] [2, 3, 17] [(2, (pt g9034)), (3, (pt g9038)), (17, (.bool ((p0.Width == p1.Width) && (p0.Height == p1.Height))))] [] (fun fb => by kernel_rfl) rfl trivial ?_
 obtain ⟨x9094, hx9095, hf⟩ := bind_some hf
 refine WL.cutW (T := Bool) 19 (fun t => [(23, (.bool t))]) (fun t w1 => (St NoS w w1 [rowR encInt A_p0_Cells c_p0_Cells p0.Cells, rowR encInt A_p1_Cells c_p1_Cells p1.Cells] [] ∧ x9094 = t) ∧ CellsOK [] w1) (fun K => ?_) ?_
 ·
  rcases br_some hx9095 with ⟨h9096, hx9095⟩ | ⟨h9096, hx9095⟩
  ·
   refine WL.setB 17 h9096 rfl ?_
   refine seg 17 [.v (.slice A_p0_Cells p0.Cells.length c_p0_Cells), .v (.slice A_p1_Cells p1.Cells.length c_p1_Cells)] [17, 19, 21] [(17, (.bool true)), (19, (.slice A_p0_Cells p0.Cells.length c_p0_Cells)), (21, (.slice A_p1_Cells p1.Cells.length c_p1_Cells))] [.cell ⟨g9034, 2, none⟩ (.slice A_p0_Cells p0.Cells.length c_p0_Cells), .cell ⟨g9038, 2, none⟩ (.slice A_p1_Cells p1.Cells.length c_p1_Cells)] (fun fb => by kernel_rfl) rfl ⟨hS9040.cell 1 rfl 2 rfl, hS9040.cell 0 rfl 2 rfl, trivial⟩ ?_
   obtain ⟨t9097, ht9098, hx9095⟩ := bind_some hx9095
   refine WL.call (some 22) 47 #[(.slice A_p0_Cells p0.Cells.length c_p0_Cells), (.slice A_p1_Cells p1.Cells.length c_p1_Cells)] (fun fb => by kernel_rfl) (ref01_Same_calls _ p0.Cells p1.Cells A_p0_Cells c_p0_Cells A_p1_Cells c_p1_Cells t9097 _ (hS9040.rd 0) (hS9040.rd 1) ht9098) (fun v w9099 hR9100 => ?_)
   obtain ⟨rfl, hk_⟩ := hR9100
   have hS9101 := hS9040.keepN hk_
   refine ⟨trivial, ?_⟩
   refine seg 19 [] [23] [(23, (.bool t9097))] [] (fun fb => by kernel_rfl) rfl trivial ?_
   injection hx9095 with hx9095
   exact WL.to K t9097 [23] rfl ⟨⟨(hS9101.subR [0, 1]).sub [] (by decide), hx9095.symm⟩, trivial⟩
  refine WL.setB 17 h9096 rfl ?_
  refine seg 19 [] [23] [(23, (.bool false))] [] (fun fb => by kernel_rfl) rfl trivial ?_
  injection hx9095 with hx9095
  exact WL.to K false [23] rfl ⟨⟨(hS9040.subR [0, 1]).sub [] (by decide), hx9095.symm⟩, trivial⟩
 rintro y9102 w9104 ⟨⟨hS9105, hq9103⟩, hF9106⟩
 subst hq9103
 refine seg 20 [] [4] [(4, (.bool x9094))] [] (fun fb => by kernel_rfl) rfl trivial ?_
 refine WL.done rfl ?_
 refine WX.next ?_
 refine WC.ret ?_
 injection hf with hf
 subst hf
 exact WX.ret_ [] (.bool x9094) [] (fun fb => by kernel_rfl) trivial ⟨_, rfl, rfl, hS9105.keep⟩
end Gp
