/- Walks: each function of the program computes its plain function. -/
import Derived.Test.YtmdkdigmkcpceaaGx1
set_option linter.unusedVariables false
set_option linter.unusedSimpArgs false
set_option maxHeartbeats 4000000
namespace Gp
open Go Gw Go.Proofs
theorem torus_rings_calls (k : Nat) (p0 : List Tile) (p1 : Int) (A_p0 : Option Addr) (c_p0 : Nat) (r : (List Row)) (w : World) (hR0 : RO NoS w (rowR enc_Tile A_p0 c_p0 p0)) (hf : torus_rings k p0 p1 = some r) :
  CallsR Try.prog 62 #[(.slice A_p0 p0.length c_p0), (iv p1)] w (fun v w' => ∃ (A1_ : Option Addr), ∃ (c1_ : Nat), ∃ (h1_ : Nat → HF), v = (.slice A1_ r.length c1_) ∧ St NoS w w' [] [rowO 88 encN_Row A1_ c1_ (tag h1_ r), poolO [nestO subN_Row h1_ r]]) := by
 have hS : St NoS w w [rowR enc_Tile A_p0 c_p0 p0] [] := St.init (ro_cons hR0 (ro_nil _ _))
 refine enter 27 Try.func62 rfl Try.ntmps62 rfl ?_
 unfold torus_rings at hf
 refine WC.seq ?_
 refine WC.region ?_
 refine seg 1 [] [0, 1] [(0, (.slice A_p0 p0.length c_p0)), (1, (iv p1))] [] (fun fb => by kernel_rfl) rfl trivial ?_
 refine WL.done rfl ?_
 refine WX.next ?_
 refine WC.seq ?_
 refine WC.region ?_
 refine seg 1 [] [0, 1, 5] [(0, (.slice A_p0 p0.length c_p0)), (1, (iv p1)), (5, (.slice none 0 0))] [] (fun fb => by kernel_rfl) rfl trivial ?_
 refine WL.done rfl ?_
 refine WX.next ?_
 refine WC.seq ?_
 refine WC.seq ?_
 refine WC.region ?_
 refine seg 2 [] [5, 8, 9] [(5, (.slice none 0 0)), (8, (.slice A_p0 p0.length c_p0)), (9, (iv p1))] [] (fun fb => by kernel_rfl) rfl trivial ?_
 obtain ⟨t6036, ht6037, hf⟩ := bind_some hf
 refine WL.call (some 10) 67 #[(.slice A_p0 p0.length c_p0), (iv p1)] (fun fb => by kernel_rfl) (rows_All_calls _ p0 p1 A_p0 c_p0 t6036 _ (hS.rd 0) ht6037) (fun v w6038 hR6039 => ?_)
 obtain ⟨A6041, c6042, H6043, rfl, hk_⟩ := hR6039
 have hS6040 : St NoS w w6038 [rowR enc_Tile A_p0 c_p0 p0] [rowO 88 encN_Row A6041 c6042 (tag H6043 t6036), poolO [nestO subN_Row H6043 t6036]] := hS.call hk_ [] [] (fun g hg => hg.elim) (by simp) (by decide)
 refine ⟨trivial, ?_⟩
 refine seg 5 [] [5, 10, 11, 12] [(5, (.slice none 0 0)), (10, (.slice A6041 t6036.length c6042)), (11, (iv (t6036.length : Int))), (12, (iv 0))] [] (fun fb => by kernel_rfl) rfl trivial ?_
 refine WL.done rfl ?_
 refine WX.next ?_
 have hS6145 : St NoS w w6038 [rowR enc_Tile A_p0 c_p0 p0] [rowO 88 encN_Row none 0 (tag h0 ([] : List Row)), rowO 88 encN_Row A6041 c6042 (tag H6043 t6036), poolO [nestO subN_Row H6043 t6036]] := hS6040.nilrow 88 encN_Row
 have hS6146 := hS6145.poolNil subN_Row h0
 have hS6147 : St NoS w w6038 [rowR enc_Tile A_p0 c_p0 p0] [poolO [nestO subN_Row h0 ([] : List Row), nestO subN_Row H6043 t6036], rowO 88 encN_Row none 0 (tag h0 ([] : List Row)), rowO 88 encN_Row A6041 c6042 (tag H6043 t6036)] := hS6146.poolMerge 0 3 rfl rfl [1, 2] (by decide) (by decide)
 obtain ⟨x6157, hx6158, hf⟩ := bind_some hf
 refine WC.cutN (T := (List Row) × (Option Addr) × Nat × (Nat → HF)) (fun t => [(5, (.slice t.2.1 t.1.length t.2.2.1))]) (fun t w1 => St NoS w w1 [rowR enc_Tile A_p0 c_p0 p0] [rowO 88 encN_Row t.2.1 t.2.2.1 (tag t.2.2.2 t.1), poolO [nestO subN_Row t.2.2.2 t.1]] ∧ x6157 = t.1) (fun Kx6157 => ?_) ?_
 ·
  refine WC.block ?_
  refine WC.loop (T := ((List Row) × Int) × (Option Addr) × Nat × (Nat → HF)) (fun t => [(5, (.slice t.2.1 t.1.1.length t.2.2.1)), (10, (.slice A6041 t6036.length c6042)), (11, (iv (t6036.length : Int))), (12, (iv t.1.2))]) (fun n t w1 => St NoS w w1 [rowR enc_Tile A_p0 c_p0 p0] [rowO 88 encN_Row t.2.1 t.2.2.1 (tag t.2.2.2 t.1.1), poolO [nestO subN_Row t.2.2.2 t.1.1, nestO subN_Row H6043 t6036], rowO 88 encN_Row A6041 c6042 (tag H6043 t6036)] ∧ torus_rings.l0 n t.1.1 t.1.2 t6036 = some x6157) k ((([] : List Row), 0), none, 0, h0) [5, 10, 11, 12] rfl ⟨(hS6147.subR [0]).sub [1, 0, 2] (by decide), hx6158⟩ ?_
  rintro k6159 ⟨⟨l6150, x6152⟩, A6148, c6149, H6151⟩ w6160 ⟨hS6161, hl6162⟩
  cases k6159 with
  | zero => rw [torus_rings.l0] at hl6162; cases hl6162
  | succ k6159 =>
   rw [torus_rings.l0] at hl6162
   refine WC.seq ?_
   refine WC.region ?_
   refine seg 1 [] [5, 10, 11, 12, 13] [(5, (.slice A6148 l6150.length c6149)), (10, (.slice A6041 t6036.length c6042)), (11, (iv (t6036.length : Int))), (12, (iv x6152)), (13, (.bool (decide (x6152 < (t6036.length : Int)))))] [] (fun fb => by kernel_rfl) rfl trivial ?_
   refine WL.done rfl ?_
   refine WX.next ?_
   refine WC.seq ?_
   rcases br_some hl6162 with ⟨h6163, hl6162⟩ | ⟨h6163, hl6162⟩
   ·refine WC.condT2 (fun fb => by kernel_rfl) h6163 ?_
    refine WC.skip ?_
    refine WX.next ?_
    refine WC.seq ?_
    refine WC.block ?_
    refine WC.seq ?_
    refine WC.region ?_
    obtain ⟨h6164, hl6162⟩ := as_some hl6162
    refine seg 2 [.v (.slice ((H6043 x6152.toNat 0).1) ((rdD t6036 x6152 z_Row).Cells).length ((H6043 x6152.toNat 0).2)), .v (iv (((rdD t6036 x6152 z_Row).South).e0)), .v (iv (((rdD t6036 x6152 z_Row).South).e1)), .v (iv (((rdD t6036 x6152 z_Row).South).e2)), .v (iv (((rdD t6036 x6152 z_Row).South).e3)), .v (iv (((rdD t6036 x6152 z_Row).South).e4)), .v (iv (((rdD t6036 x6152 z_Row).South).e5)), .v (iv (((rdD t6036 x6152 z_Row).South).e6)), .v (iv (((rdD t6036 x6152 z_Row).South).e7)), .v (iv (((rdD t6036 x6152 z_Row).North).e0)), .v (iv (((rdD t6036 x6152 z_Row).North).e1)), .v (iv (((rdD t6036 x6152 z_Row).North).e2)), .v (iv (((rdD t6036 x6152 z_Row).North).e3)), .v (iv (((rdD t6036 x6152 z_Row).North).e4)), .v (iv (((rdD t6036 x6152 z_Row).North).e5)), .v (iv (((rdD t6036 x6152 z_Row).North).e6)), .v (iv (((rdD t6036 x6152 z_Row).North).e7)), .v (iv ((rdD t6036 x6152 z_Row).West)), .v (iv ((rdD t6036 x6152 z_Row).East))] [5, 10, 11, 12, 15] [(5, (.slice A6148 l6150.length c6149)), (10, (.slice A6041 t6036.length c6042)), (11, (iv (t6036.length : Int))), (12, (iv x6152)), (15, (.agg #[(.slice ((H6043 x6152.toNat 0).1) ((rdD t6036 x6152 z_Row).Cells).length ((H6043 x6152.toNat 0).2)), (iv (((rdD t6036 x6152 z_Row).South).e0)), (iv (((rdD t6036 x6152 z_Row).South).e1)), (iv (((rdD t6036 x6152 z_Row).South).e2)), (iv (((rdD t6036 x6152 z_Row).South).e3)), (iv (((rdD t6036 x6152 z_Row).South).e4)), (iv (((rdD t6036 x6152 z_Row).South).e5)), (iv (((rdD t6036 x6152 z_Row).South).e6)), (iv (((rdD t6036 x6152 z_Row).South).e7)), (iv (((rdD t6036 x6152 z_Row).North).e0)), (iv (((rdD t6036 x6152 z_Row).North).e1)), (iv (((rdD t6036 x6152 z_Row).North).e2)), (iv (((rdD t6036 x6152 z_Row).North).e3)), (iv (((rdD t6036 x6152 z_Row).North).e4)), (iv (((rdD t6036 x6152 z_Row).North).e5)), (iv (((rdD t6036 x6152 z_Row).North).e6)), (iv (((rdD t6036 x6152 z_Row).North).e7)), (iv ((rdD t6036 x6152 z_Row).West)), (iv ((rdD t6036 x6152 z_Row).East))]))] [.idx A6041 x6152 t6036.length, .cell ((adr A6041).add ((x6152).toNat * 19)) (.slice ((H6043 x6152.toNat 0).1) ((rdD t6036 x6152 z_Row).Cells).length ((H6043 x6152.toNat 0).2)), .cell (((adr A6041).add ((x6152).toNat * 19)).add 1) (iv (((rdD t6036 x6152 z_Row).South).e0)), .cell (((adr A6041).add ((x6152).toNat * 19)).add 2) (iv (((rdD t6036 x6152 z_Row).South).e1)), .cell (((adr A6041).add ((x6152).toNat * 19)).add 3) (iv (((rdD t6036 x6152 z_Row).South).e2)), .cell (((adr A6041).add ((x6152).toNat * 19)).add 4) (iv (((rdD t6036 x6152 z_Row).South).e3)), .cell (((adr A6041).add ((x6152).toNat * 19)).add 5) (iv (((rdD t6036 x6152 z_Row).South).e4)), .cell (((adr A6041).add ((x6152).toNat * 19)).add 6) (iv (((rdD t6036 x6152 z_Row).South).e5)), .cell (((adr A6041).add ((x6152).toNat * 19)).add 7) (iv (((rdD t6036 x6152 z_Row).South).e6)), .cell (((adr A6041).add ((x6152).toNat * 19)).add 8) (iv (((rdD t6036 x6152 z_Row).South).e7)), .cell (((adr A6041).add ((x6152).toNat * 19)).add 9) (iv (((rdD t6036 x6152 z_Row).North).e0)), .cell (((adr A6041).add ((x6152).toNat * 19)).add 10) (iv (((rdD t6036 x6152 z_Row).North).e1)), .cell (((adr A6041).add ((x6152).toNat * 19)).add 11) (iv (((rdD t6036 x6152 z_Row).North).e2)), .cell (((adr A6041).add ((x6152).toNat * 19)).add 12) (iv (((rdD t6036 x6152 z_Row).North).e3)), .cell (((adr A6041).add ((x6152).toNat * 19)).add 13) (iv (((rdD t6036 x6152 z_Row).North).e4)), .cell (((adr A6041).add ((x6152).toNat * 19)).add 14) (iv (((rdD t6036 x6152 z_Row).North).e5)), .cell (((adr A6041).add ((x6152).toNat * 19)).add 15) (iv (((rdD t6036 x6152 z_Row).North).e6)), .cell (((adr A6041).add ((x6152).toNat * 19)).add 16) (iv (((rdD t6036 x6152 z_Row).North).e7)), .cell (((adr A6041).add ((x6152).toNat * 19)).add 17) (iv ((rdD t6036 x6152 z_Row).West)), .cell (((adr A6041).add ((x6152).toNat * 19)).add 18) (iv ((rdD t6036 x6152 z_Row).East))] (fun fb => by kernel_rfl) rfl ⟨nrow_adr (rowO.rd (hS6161.own 2).1) h6164.1 h6164.2, nrow_cell (rowO.rd (hS6161.own 2).1) z_Row h6164.1 h6164.2 0 rfl, nrow_cell (rowO.rd (hS6161.own 2).1) z_Row h6164.1 h6164.2 1 rfl, nrow_cell (rowO.rd (hS6161.own 2).1) z_Row h6164.1 h6164.2 2 rfl, nrow_cell (rowO.rd (hS6161.own 2).1) z_Row h6164.1 h6164.2 3 rfl, nrow_cell (rowO.rd (hS6161.own 2).1) z_Row h6164.1 h6164.2 4 rfl, nrow_cell (rowO.rd (hS6161.own 2).1) z_Row h6164.1 h6164.2 5 rfl, nrow_cell (rowO.rd (hS6161.own 2).1) z_Row h6164.1 h6164.2 6 rfl, nrow_cell (rowO.rd (hS6161.own 2).1) z_Row h6164.1 h6164.2 7 rfl, nrow_cell (rowO.rd (hS6161.own 2).1) z_Row h6164.1 h6164.2 8 rfl, nrow_cell (rowO.rd (hS6161.own 2).1) z_Row h6164.1 h6164.2 9 rfl, nrow_cell (rowO.rd (hS6161.own 2).1) z_Row h6164.1 h6164.2 10 rfl, nrow_cell (rowO.rd (hS6161.own 2).1) z_Row h6164.1 h6164.2 11 rfl, nrow_cell (rowO.rd (hS6161.own 2).1) z_Row h6164.1 h6164.2 12 rfl, nrow_cell (rowO.rd (hS6161.own 2).1) z_Row h6164.1 h6164.2 13 rfl, nrow_cell (rowO.rd (hS6161.own 2).1) z_Row h6164.1 h6164.2 14 rfl, nrow_cell (rowO.rd (hS6161.own 2).1) z_Row h6164.1 h6164.2 15 rfl, nrow_cell (rowO.rd (hS6161.own 2).1) z_Row h6164.1 h6164.2 16 rfl, nrow_cell (rowO.rd (hS6161.own 2).1) z_Row h6164.1 h6164.2 17 rfl, nrow_cell (rowO.rd (hS6161.own 2).1) z_Row h6164.1 h6164.2 18 rfl, trivial⟩ ?_
    refine WL.new hS6161 7 [] (fun g => (.pointer (some ⟨g, 0, none⟩))) (.cells #[(.slice none 0 0), (iv 0), (iv 0), (iv 0), (iv 0), (iv 0), (iv 0), (iv 0), (iv 0), (iv 0), (iv 0), (iv 0), (iv 0), (iv 0), (iv 0), (iv 0), (iv 0), (iv 0), (iv 0)] 88 (0, 0)) [] (fun fb g => by kernel_rfl) trivial (fun g6165 w6166 hS6167 => ?_)
    refine ⟨trivial, ?_⟩
    refine WL.store hS6167 0 rfl [(0, (.slice ((H6043 x6152.toNat 0).1) ((rdD t6036 x6152 z_Row).Cells).length ((H6043 x6152.toNat 0).2))), (1, (iv (((rdD t6036 x6152 z_Row).South).e0))), (2, (iv (((rdD t6036 x6152 z_Row).South).e1))), (3, (iv (((rdD t6036 x6152 z_Row).South).e2))), (4, (iv (((rdD t6036 x6152 z_Row).South).e3))), (5, (iv (((rdD t6036 x6152 z_Row).South).e4))), (6, (iv (((rdD t6036 x6152 z_Row).South).e5))), (7, (iv (((rdD t6036 x6152 z_Row).South).e6))), (8, (iv (((rdD t6036 x6152 z_Row).South).e7))), (9, (iv (((rdD t6036 x6152 z_Row).North).e0))), (10, (iv (((rdD t6036 x6152 z_Row).North).e1))), (11, (iv (((rdD t6036 x6152 z_Row).North).e2))), (12, (iv (((rdD t6036 x6152 z_Row).North).e3))), (13, (iv (((rdD t6036 x6152 z_Row).North).e4))), (14, (iv (((rdD t6036 x6152 z_Row).North).e5))), (15, (iv (((rdD t6036 x6152 z_Row).North).e6))), (16, (iv (((rdD t6036 x6152 z_Row).North).e7))), (17, (iv ((rdD t6036 x6152 z_Row).West))), (18, (iv ((rdD t6036 x6152 z_Row).East)))] #[(.slice ((H6043 x6152.toNat 0).1) ((rdD t6036 x6152 z_Row).Cells).length ((H6043 x6152.toNat 0).2)), (iv (((rdD t6036 x6152 z_Row).South).e0)), (iv (((rdD t6036 x6152 z_Row).South).e1)), (iv (((rdD t6036 x6152 z_Row).South).e2)), (iv (((rdD t6036 x6152 z_Row).South).e3)), (iv (((rdD t6036 x6152 z_Row).South).e4)), (iv (((rdD t6036 x6152 z_Row).South).e5)), (iv (((rdD t6036 x6152 z_Row).South).e6)), (iv (((rdD t6036 x6152 z_Row).South).e7)), (iv (((rdD t6036 x6152 z_Row).North).e0)), (iv (((rdD t6036 x6152 z_Row).North).e1)), (iv (((rdD t6036 x6152 z_Row).North).e2)), (iv (((rdD t6036 x6152 z_Row).North).e3)), (iv (((rdD t6036 x6152 z_Row).North).e4)), (iv (((rdD t6036 x6152 z_Row).North).e5)), (iv (((rdD t6036 x6152 z_Row).North).e6)), (iv (((rdD t6036 x6152 z_Row).North).e7)), (iv ((rdD t6036 x6152 z_Row).West)), (iv ((rdD t6036 x6152 z_Row).East))] (fun fb => by kernel_rfl) (by kernel_rfl) (by kernel_rfl) [1, 2, 3] (by decide) (by decide) (fun w6169 hS6170 => ?_)
    refine ⟨trivial, ?_⟩
    refine WL.done rfl ?_
    refine WX.next ?_
    refine WC.seq ?_
    refine WC.region ?_
    refine seg 5 [.v (iv ((rdD t6036 x6152 z_Row).West)), .v (iv ((rdD t6036 x6152 z_Row).East))] [5, 7, 10, 11, 12, 20] [(5, (.slice A6148 l6150.length c6149)), (7, (pt g6165)), (10, (.slice A6041 t6036.length c6042)), (11, (iv (t6036.length : Int))), (12, (iv x6152)), (20, (.bool (((rdD t6036 x6152 z_Row).West) == ((rdD t6036 x6152 z_Row).East))))] [.cell ⟨g6165, 17, none⟩ (iv ((rdD t6036 x6152 z_Row).West)), .cell ⟨g6165, 18, none⟩ (iv ((rdD t6036 x6152 z_Row).East))] (fun fb => by kernel_rfl) rfl ⟨hS6170.cell 0 rfl 17 rfl, hS6170.cell 0 rfl 18 rfl, trivial⟩ ?_
    refine WL.done rfl ?_
    refine WX.next ?_
    obtain ⟨x6187, hx6188, hl6162⟩ := bind_some hl6162
    refine WC.cutN (T := (List Row) × (Option Addr) × Nat × (Nat → HF)) (fun t => [(5, (.slice t.2.1 t.1.length t.2.2.1)), (10, (.slice A6041 t6036.length c6042)), (11, (iv (t6036.length : Int))), (12, (iv x6152))]) (fun t w1 => St NoS w w1 [rowR enc_Tile A_p0 c_p0 p0] [rowO 88 encN_Row t.2.1 t.2.2.1 (tag t.2.2.2 t.1), poolO [nestO subN_Row t.2.2.2 t.1, nestO subN_Row H6043 t6036], rowO 88 encN_Row A6041 c6042 (tag H6043 t6036)] ∧ x6187 = t.1) (fun Kx6187 => ?_) ?_
    ·
     rcases br_some hx6188 with ⟨h6189, hx6188⟩ | ⟨h6189, hx6188⟩
     ·refine WC.condT2 (fun fb => by kernel_rfl) h6189 ?_
      refine WC.region ?_
      refine seg 2 [.v (.slice ((H6043 x6152.toNat 0).1) ((rdD t6036 x6152 z_Row).Cells).length ((H6043 x6152.toNat 0).2)), .v (iv (((rdD t6036 x6152 z_Row).South).e0)), .v (iv (((rdD t6036 x6152 z_Row).South).e1)), .v (iv (((rdD t6036 x6152 z_Row).South).e2)), .v (iv (((rdD t6036 x6152 z_Row).South).e3)), .v (iv (((rdD t6036 x6152 z_Row).South).e4)), .v (iv (((rdD t6036 x6152 z_Row).South).e5)), .v (iv (((rdD t6036 x6152 z_Row).South).e6)), .v (iv (((rdD t6036 x6152 z_Row).South).e7)), .v (iv (((rdD t6036 x6152 z_Row).North).e0)), .v (iv (((rdD t6036 x6152 z_Row).North).e1)), .v (iv (((rdD t6036 x6152 z_Row).North).e2)), .v (iv (((rdD t6036 x6152 z_Row).North).e3)), .v (iv (((rdD t6036 x6152 z_Row).North).e4)), .v (iv (((rdD t6036 x6152 z_Row).North).e5)), .v (iv (((rdD t6036 x6152 z_Row).North).e6)), .v (iv (((rdD t6036 x6152 z_Row).North).e7)), .v (iv ((rdD t6036 x6152 z_Row).West)), .v (iv ((rdD t6036 x6152 z_Row).East))] [10, 11, 12, 21, 22] [(10, (.slice A6041 t6036.length c6042)), (11, (iv (t6036.length : Int))), (12, (iv x6152)), (21, (.slice A6148 l6150.length c6149)), (22, (.agg #[(.slice ((H6043 x6152.toNat 0).1) ((rdD t6036 x6152 z_Row).Cells).length ((H6043 x6152.toNat 0).2)), (iv (((rdD t6036 x6152 z_Row).South).e0)), (iv (((rdD t6036 x6152 z_Row).South).e1)), (iv (((rdD t6036 x6152 z_Row).South).e2)), (iv (((rdD t6036 x6152 z_Row).South).e3)), (iv (((rdD t6036 x6152 z_Row).South).e4)), (iv (((rdD t6036 x6152 z_Row).South).e5)), (iv (((rdD t6036 x6152 z_Row).South).e6)), (iv (((rdD t6036 x6152 z_Row).South).e7)), (iv (((rdD t6036 x6152 z_Row).North).e0)), (iv (((rdD t6036 x6152 z_Row).North).e1)), (iv (((rdD t6036 x6152 z_Row).North).e2)), (iv (((rdD t6036 x6152 z_Row).North).e3)), (iv (((rdD t6036 x6152 z_Row).North).e4)), (iv (((rdD t6036 x6152 z_Row).North).e5)), (iv (((rdD t6036 x6152 z_Row).North).e6)), (iv (((rdD t6036 x6152 z_Row).North).e7)), (iv ((rdD t6036 x6152 z_Row).West)), (iv ((rdD t6036 x6152 z_Row).East))]))] [.cell ⟨g6165, 0, none⟩ (.slice ((H6043 x6152.toNat 0).1) ((rdD t6036 x6152 z_Row).Cells).length ((H6043 x6152.toNat 0).2)), .cell ⟨g6165, 1, none⟩ (iv (((rdD t6036 x6152 z_Row).South).e0)), .cell ⟨g6165, 2, none⟩ (iv (((rdD t6036 x6152 z_Row).South).e1)), .cell ⟨g6165, 3, none⟩ (iv (((rdD t6036 x6152 z_Row).South).e2)), .cell ⟨g6165, 4, none⟩ (iv (((rdD t6036 x6152 z_Row).South).e3)), .cell ⟨g6165, 5, none⟩ (iv (((rdD t6036 x6152 z_Row).South).e4)), .cell ⟨g6165, 6, none⟩ (iv (((rdD t6036 x6152 z_Row).South).e5)), .cell ⟨g6165, 7, none⟩ (iv (((rdD t6036 x6152 z_Row).South).e6)), .cell ⟨g6165, 8, none⟩ (iv (((rdD t6036 x6152 z_Row).South).e7)), .cell ⟨g6165, 9, none⟩ (iv (((rdD t6036 x6152 z_Row).North).e0)), .cell ⟨g6165, 10, none⟩ (iv (((rdD t6036 x6152 z_Row).North).e1)), .cell ⟨g6165, 11, none⟩ (iv (((rdD t6036 x6152 z_Row).North).e2)), .cell ⟨g6165, 12, none⟩ (iv (((rdD t6036 x6152 z_Row).North).e3)), .cell ⟨g6165, 13, none⟩ (iv (((rdD t6036 x6152 z_Row).North).e4)), .cell ⟨g6165, 14, none⟩ (iv (((rdD t6036 x6152 z_Row).North).e5)), .cell ⟨g6165, 15, none⟩ (iv (((rdD t6036 x6152 z_Row).North).e6)), .cell ⟨g6165, 16, none⟩ (iv (((rdD t6036 x6152 z_Row).North).e7)), .cell ⟨g6165, 17, none⟩ (iv ((rdD t6036 x6152 z_Row).West)), .cell ⟨g6165, 18, none⟩ (iv ((rdD t6036 x6152 z_Row).East))] (fun fb => by kernel_rfl) rfl ⟨hS6170.cell 0 rfl 0 rfl, hS6170.cell 0 rfl 1 rfl, hS6170.cell 0 rfl 2 rfl, hS6170.cell 0 rfl 3 rfl, hS6170.cell 0 rfl 4 rfl, hS6170.cell 0 rfl 5 rfl, hS6170.cell 0 rfl 6 rfl, hS6170.cell 0 rfl 7 rfl, hS6170.cell 0 rfl 8 rfl, hS6170.cell 0 rfl 9 rfl, hS6170.cell 0 rfl 10 rfl, hS6170.cell 0 rfl 11 rfl, hS6170.cell 0 rfl 12 rfl, hS6170.cell 0 rfl 13 rfl, hS6170.cell 0 rfl 14 rfl, hS6170.cell 0 rfl 15 rfl, hS6170.cell 0 rfl 16 rfl, hS6170.cell 0 rfl 17 rfl, hS6170.cell 0 rfl 18 rfl, trivial⟩ ?_
      refine WL.new hS6170 23 [] (fun g => (.slice (some ⟨g, 0, none⟩) 1 1)) (.cells #[(.slice ((H6043 x6152.toNat 0).1) ((rdD t6036 x6152 z_Row).Cells).length ((H6043 x6152.toNat 0).2)), (iv (((rdD t6036 x6152 z_Row).South).e0)), (iv (((rdD t6036 x6152 z_Row).South).e1)), (iv (((rdD t6036 x6152 z_Row).South).e2)), (iv (((rdD t6036 x6152 z_Row).South).e3)), (iv (((rdD t6036 x6152 z_Row).South).e4)), (iv (((rdD t6036 x6152 z_Row).South).e5)), (iv (((rdD t6036 x6152 z_Row).South).e6)), (iv (((rdD t6036 x6152 z_Row).South).e7)), (iv (((rdD t6036 x6152 z_Row).North).e0)), (iv (((rdD t6036 x6152 z_Row).North).e1)), (iv (((rdD t6036 x6152 z_Row).North).e2)), (iv (((rdD t6036 x6152 z_Row).North).e3)), (iv (((rdD t6036 x6152 z_Row).North).e4)), (iv (((rdD t6036 x6152 z_Row).North).e5)), (iv (((rdD t6036 x6152 z_Row).North).e6)), (iv (((rdD t6036 x6152 z_Row).North).e7)), (iv ((rdD t6036 x6152 z_Row).West)), (iv ((rdD t6036 x6152 z_Row).East))] 88 (0, 0)) [] (fun fb g => by kernel_rfl) trivial (fun g6190 w6191 hS6192 => ?_)
      refine ⟨trivial, ?_⟩
      have hS6194 : St NoS w w6191 [rowR enc_Tile A_p0 c_p0 p0] [rowO 88 encN_Row (some ⟨g6190, 0, none⟩) 1 [((hd1 ((H6043 x6152.toNat 0).1) ((H6043 x6152.toNat 0).2)), (rdD t6036 x6152 z_Row))], blk g6165 (.cells #[(.slice ((H6043 x6152.toNat 0).1) ((rdD t6036 x6152 z_Row).Cells).length ((H6043 x6152.toNat 0).2)), (iv (((rdD t6036 x6152 z_Row).South).e0)), (iv (((rdD t6036 x6152 z_Row).South).e1)), (iv (((rdD t6036 x6152 z_Row).South).e2)), (iv (((rdD t6036 x6152 z_Row).South).e3)), (iv (((rdD t6036 x6152 z_Row).South).e4)), (iv (((rdD t6036 x6152 z_Row).South).e5)), (iv (((rdD t6036 x6152 z_Row).South).e6)), (iv (((rdD t6036 x6152 z_Row).South).e7)), (iv (((rdD t6036 x6152 z_Row).North).e0)), (iv (((rdD t6036 x6152 z_Row).North).e1)), (iv (((rdD t6036 x6152 z_Row).North).e2)), (iv (((rdD t6036 x6152 z_Row).North).e3)), (iv (((rdD t6036 x6152 z_Row).North).e4)), (iv (((rdD t6036 x6152 z_Row).North).e5)), (iv (((rdD t6036 x6152 z_Row).North).e6)), (iv (((rdD t6036 x6152 z_Row).North).e7)), (iv ((rdD t6036 x6152 z_Row).West)), (iv ((rdD t6036 x6152 z_Row).East))] 88 (0, 0)), rowO 88 encN_Row A6148 c6149 (tag H6151 l6150), poolO [nestO subN_Row H6151 l6150, nestO subN_Row H6043 t6036], rowO 88 encN_Row A6041 c6042 (tag H6043 t6036)] := hS6192.map1 0 _ (fun h => rowO.ofBlk h rfl (Nat.le_of_ble_eq_true (by kernel_rfl))) (fun _ h => by obtain ⟨_, h1, h2⟩ := h; injection h1 with h1; subst h1; exact h2) [1, 2, 3, 4] (by decide) (by decide)
      obtain ⟨h6195, hx6188⟩ := as_some hx6188
      refine WL.appendN hS6194 2 (d := 24) (tS := 82) (z := (.agg #[(.slice none 0 0), (iv 0), (iv 0), (iv 0), (iv 0), (iv 0), (iv 0), (iv 0), (iv 0), (iv 0), (iv 0), (iv 0), (iv 0), (iv 0), (iv 0), (iv 0), (iv 0), (iv 0), (iv 0)])) (bytes := 168) (c2 := 1) (hx := (hd1 ((H6043 x6152.toNat 0).1) ((H6043 x6152.toNat 0).2))) (x := (rdD t6036 x6152 z_Row)) rfl (fun fb => by kernel_rfl) (rowO.rd (hS6194.own 0).1) (by kernel_rfl) (by kernel_rfl) rfl (by decide) h6195 (by decide) [0, 1, 3, 4] (by decide) (by decide) (fun A6196 c6197 w6198 hS6199 => ?_)
      have hS6200 : St NoS w w6198 [rowR enc_Tile A_p0 c_p0 p0] [poolO [nestO subN_Row (updH H6151 l6150.length (hd1 ((H6043 x6152.toNat 0).1) ((H6043 x6152.toNat 0).2))) (l6150 ++ [(rdD t6036 x6152 z_Row)]), nestO subN_Row H6043 t6036], rowO 88 encN_Row A6196 c6197 (tag (updH H6151 l6150.length (hd1 ((H6043 x6152.toNat 0).1) ((H6043 x6152.toNat 0).2))) (l6150 ++ [(rdD t6036 x6152 z_Row)])), rowO 88 encN_Row (some ⟨g6190, 0, none⟩) 1 [((hd1 ((H6043 x6152.toNat 0).1) ((H6043 x6152.toNat 0).2)), (rdD t6036 x6152 z_Row))], blk g6165 (.cells #[(.slice ((H6043 x6152.toNat 0).1) ((rdD t6036 x6152 z_Row).Cells).length ((H6043 x6152.toNat 0).2)), (iv (((rdD t6036 x6152 z_Row).South).e0)), (iv (((rdD t6036 x6152 z_Row).South).e1)), (iv (((rdD t6036 x6152 z_Row).South).e2)), (iv (((rdD t6036 x6152 z_Row).South).e3)), (iv (((rdD t6036 x6152 z_Row).South).e4)), (iv (((rdD t6036 x6152 z_Row).South).e5)), (iv (((rdD t6036 x6152 z_Row).South).e6)), (iv (((rdD t6036 x6152 z_Row).South).e7)), (iv (((rdD t6036 x6152 z_Row).North).e0)), (iv (((rdD t6036 x6152 z_Row).North).e1)), (iv (((rdD t6036 x6152 z_Row).North).e2)), (iv (((rdD t6036 x6152 z_Row).North).e3)), (iv (((rdD t6036 x6152 z_Row).North).e4)), (iv (((rdD t6036 x6152 z_Row).North).e5)), (iv (((rdD t6036 x6152 z_Row).North).e6)), (iv (((rdD t6036 x6152 z_Row).North).e7)), (iv ((rdD t6036 x6152 z_Row).West)), (iv ((rdD t6036 x6152 z_Row).East))] 88 (0, 0)), rowO 88 encN_Row A6041 c6042 (tag H6043 t6036)] := hS6199.poolPush 3 rfl 0 (by simp) rfl (hd1 ((H6043 x6152.toNat 0).1) ((H6043 x6152.toNat 0).2)) (rdD t6036 x6152 z_Row) (nestO.ro (poolO.ro (hS6199.ow 3) 1) z_Row h6164.1 h6164.2) [] (fun g hg => ⟨3, by simp, ⟨1, ⟨_, _, rdD_at (d := z_Row) h6164.1 h6164.2, hg⟩⟩⟩) _ rfl [0, 1, 2, 4] (by decide) (by decide)
      refine ⟨trivial, ?_⟩
      refine seg 5 [] [5, 10, 11, 12] [(5, (.slice A6196 (l6150 ++ [(rdD t6036 x6152 z_Row)]).length c6197)), (10, (.slice A6041 t6036.length c6042)), (11, (iv (t6036.length : Int))), (12, (iv x6152))] [] (fun fb => by kernel_rfl) rfl trivial ?_
      refine WL.done rfl ?_
      injection hx6188 with hx6188
      exact WX.to Kx6187 (l6150 ++ [(rdD t6036 x6152 z_Row)], A6196, c6197, (updH H6151 l6150.length (hd1 ((H6043 x6152.toNat 0).1) ((H6043 x6152.toNat 0).2)))) [5, 10, 11, 12] rfl ⟨(hS6200.subR [0]).sub [1, 0, 4] (by decide), hx6188.symm⟩
     refine WC.condF2 (fun fb => by kernel_rfl) h6189 ?_
     refine WC.skip ?_
     injection hx6188 with hx6188
     exact WX.to Kx6187 (l6150, A6148, c6149, H6151) [5, 10, 11, 12] rfl ⟨(hS6170.subR [0]).sub [1, 2, 3] (by decide), hx6188.symm⟩
    rintro ⟨y6204, A6183, c6184, H6186⟩ w6201 ⟨hS6202, hq6203⟩
    subst hq6203
    refine WX.blockN (WX.next ?_)
    refine WC.region ?_
    refine seg 2 [] [5, 10, 11, 12] [(5, (.slice A6183 x6187.length c6184)), (10, (.slice A6041 t6036.length c6042)), (11, (iv (t6036.length : Int))), (12, (iv (w64 (x6152 + 1))))] [] (fun fb => by kernel_rfl) rfl trivial ?_
    refine WL.done rfl ?_
    exact WX.again k6159 (Nat.lt_succ_self _) ((x6187, w64 (x6152 + 1)), A6183, c6184, H6186) [5, 10, 11, 12] rfl ⟨(hS6202.subR [0]).sub [0, 1, 2] (by decide), hl6162⟩
   refine WC.condF2 (fun fb => by kernel_rfl) h6163 ?_
   refine WC.exit ?_
   have hS6205 : St NoS w w6160 [rowR enc_Tile A_p0 c_p0 p0] [poolO [nestO subN_Row H6151 l6150], rowO 88 encN_Row A6148 c6149 (tag H6151 l6150), rowO 88 encN_Row A6041 c6042 (tag H6043 t6036)] := hS6161.poolSub 1 rfl [0] [0, 2] (by decide) (by decide)
   injection hl6162 with hl6162
   exact WX.thenX (WX.thenX (WX.blockHere (WX.to Kx6157 (l6150, A6148, c6149, H6151) [5] rfl ⟨(hS6205.subR [0]).sub [1, 0] (by decide), hl6162.symm⟩)))
 rintro ⟨y6209, A6153, c6154, H6156⟩ w6206 ⟨hS6207, hq6208⟩
 subst hq6208
 refine WX.next ?_
 refine WC.seq ?_
 refine WC.region ?_
 refine seg 2 [] [4] [(4, (.slice A6153 x6157.length c6154))] [] (fun fb => by kernel_rfl) rfl trivial ?_
 refine WL.done rfl ?_
 refine WX.next ?_
 refine WC.ret ?_
 injection hf with hf
 subst hf
 exact WX.ret_ [] (.slice A6153 x6157.length c6154) [] (fun fb => by kernel_rfl) trivial ⟨_, rfl, A6153, c6154, H6156, rfl, (hS6207.sub [0, 1] (by decide)).noR⟩
theorem torus_back_key86 : KeyK Try.prog 86 (aggI ints_A8_Int) := KeyK.array (n := 8) (by kernel_rfl) ints_A8_Int (fun _ => rfl) (fun x y h => by cases x; cases y; simp only [ints_A8_Int, List.cons.injEq, and_true] at h; obtain ⟨rfl, rfl, rfl, rfl, rfl, rfl, rfl, rfl⟩ := h; rfl)
theorem torus_back_calls (k : Nat) (p0 : List Row) (p1 : A8_Int) (p2 : Int) (A_p0 : Option Addr) (c_p0 : Nat) (H_p0 : Nat → HF) (r : (List (Option (List (A8_Int × Bool))))) (w : World) (hR0 : RO NoS w (rowR encN_Row A_p0 c_p0 (tag H_p0 p0))) (hR1 : RO NoS w (nestO subN_Row H_p0 p0)) (hf : torus_back k p0 p1 p2 = some r) :
  CallsR Try.prog 63 #[(.slice A_p0 p0.length c_p0), (.agg #[(iv p1.e0), (iv p1.e1), (iv p1.e2), (iv p1.e3), (iv p1.e4), (iv p1.e5), (iv p1.e6), (iv p1.e7)]), (iv p2)] w (fun v w' => ∃ (A1_ : Option Addr), ∃ (c1_ : Nat), ∃ (m1_ : Nat → Nat), v = (.slice A1_ r.length c1_) ∧ St NoS w w' [] [rowO 81 (encMap A8_Int Bool) A1_ c1_ (tag m1_ r), mapsO (aggI ints_A8_Int) vB m1_ r]) := by
 have hS : St NoS w w [rowR encN_Row A_p0 c_p0 (tag H_p0 p0), nestO subN_Row H_p0 p0] [] := St.init (ro_cons hR0 (ro_cons hR1 (ro_nil _ _)))
 refine enter 46 Try.func63 rfl Try.ntmps63 rfl ?_
 unfold torus_back at hf
 refine WC.seq ?_
 refine WC.region ?_
 refine WL.new hS 4 [] (fun g => (.pointer (some ⟨g, 0, none⟩))) (.cells #[(iv p1.e0), (iv p1.e1), (iv p1.e2), (iv p1.e3), (iv p1.e4), (iv p1.e5), (iv p1.e6), (iv p1.e7)] 86 (0, 0)) [] (fun fb g => by kernel_rfl) trivial (fun g6239 w6240 hS6241 => ?_)
 refine ⟨trivial, ?_⟩
 refine seg 2 [] [0, 2, 4] [(0, (.slice A_p0 p0.length c_p0)), (2, (iv p2)), (4, (pt g6239))] [] (fun fb => by kernel_rfl) rfl trivial ?_
 refine WL.done rfl ?_
 refine WX.next ?_
 refine WC.seq ?_
 refine WC.region ?_
 refine WL.new hS6241 12 [] (fun g => (.map (some g))) (mapObj (aggI ints_A8_Int) vB ([] : List (A8_Int × Bool))) [] (fun fb g => by kernel_rfl) trivial (fun g6243 w6244 hS6245 => ?_)
 refine ⟨trivial, ?_⟩
 refine seg 2 [.v (iv p1.e0), .v (iv p1.e1), .v (iv p1.e2), .v (iv p1.e3), .v (iv p1.e4), .v (iv p1.e5), .v (iv p1.e6), .v (iv p1.e7)] [0, 2, 12, 13] [(0, (.slice A_p0 p0.length c_p0)), (2, (iv p2)), (12, (.map (some g6243))), (13, (.agg #[(iv p1.e0), (iv p1.e1), (iv p1.e2), (iv p1.e3), (iv p1.e4), (iv p1.e5), (iv p1.e6), (iv p1.e7)]))] [.cell ⟨g6239, 0, none⟩ (iv p1.e0), .cell ⟨g6239, 1, none⟩ (iv p1.e1), .cell ⟨g6239, 2, none⟩ (iv p1.e2), .cell ⟨g6239, 3, none⟩ (iv p1.e3), .cell ⟨g6239, 4, none⟩ (iv p1.e4), .cell ⟨g6239, 5, none⟩ (iv p1.e5), .cell ⟨g6239, 6, none⟩ (iv p1.e6), .cell ⟨g6239, 7, none⟩ (iv p1.e7)] (fun fb => by kernel_rfl) rfl ⟨hS6245.cell 1 rfl 0 rfl, hS6245.cell 1 rfl 1 rfl, hS6245.cell 1 rfl 2 rfl, hS6245.cell 1 rfl 3 rfl, hS6245.cell 1 rfl 4 rfl, hS6245.cell 1 rfl 5 rfl, hS6245.cell 1 rfl 6 rfl, hS6245.cell 1 rfl 7 rfl, trivial⟩ ?_
 refine WL.mapput hS6245 0 (t := 81) (kT := 86) (eT := 4) (kE := (aggI ints_A8_Int)) (vE := vB) (l := ([] : List (A8_Int × Bool))) rfl p1 true (fun fb => by kernel_rfl) torus_back_key86 (by kernel_rfl) [1] (by decide) (by decide) (fun w6246 hS6247 => ?_)
 refine ⟨trivial, ?_⟩
 refine seg 4 [] [0, 2, 14] [(0, (.slice A_p0 p0.length c_p0)), (2, (iv p2)), (14, (.map (some g6243)))] [] (fun fb => by kernel_rfl) rfl trivial ?_
 refine WL.new hS6247 15 [] (fun g => (.slice (some ⟨g, 0, none⟩) 1 1)) (.cells #[(.map (some g6243))] 81 (0, 0)) [] (fun fb g => by kernel_rfl) trivial (fun g6248 w6249 hS6250 => ?_)
 refine ⟨trivial, ?_⟩
 have hS6252 : St NoS w w6249 [rowR encN_Row A_p0 c_p0 (tag H_p0 p0), nestO subN_Row H_p0 p0] [rowO 81 (encMap A8_Int Bool) (some ⟨g6248, 0, none⟩) 1 (tag (fun _ => g6243) [some (mput p1 true ([] : List (A8_Int × Bool)))]), blk g6243 (mapObj (aggI ints_A8_Int) vB (mput p1 true ([] : List (A8_Int × Bool)))), blk g6239 (.cells #[(iv p1.e0), (iv p1.e1), (iv p1.e2), (iv p1.e3), (iv p1.e4), (iv p1.e5), (iv p1.e6), (iv p1.e7)] 86 (0, 0))] := hS6250.map1 0 _ (fun h => rowO.ofBlk h rfl (Nat.le_of_ble_eq_true (by kernel_rfl))) (fun _ h => by obtain ⟨_, h1, h2⟩ := h; injection h1 with h1; subst h1; exact h2) [1, 2] (by decide) (by decide)
 have hS6253 : St NoS w w6249 [rowR encN_Row A_p0 c_p0 (tag H_p0 p0), nestO subN_Row H_p0 p0] [mapsO (aggI ints_A8_Int) vB (fun _ => g6243) [some (mput p1 true ([] : List (A8_Int × Bool)))], rowO 81 (encMap A8_Int Bool) (some ⟨g6248, 0, none⟩) 1 (tag (fun _ => g6243) [some (mput p1 true ([] : List (A8_Int × Bool)))]), blk g6239 (.cells #[(iv p1.e0), (iv p1.e1), (iv p1.e2), (iv p1.e3), (iv p1.e4), (iv p1.e5), (iv p1.e6), (iv p1.e7)] 86 (0, 0))] := hS6252.mapsOne 1 rfl [0, 2] (by decide) (by decide)
 refine seg 6 [] [0, 2, 7] [(0, (.slice A_p0 p0.length c_p0)), (2, (iv p2)), (7, (.slice (some ⟨g6248, 0, none⟩) [some (mput p1 true ([] : List (A8_Int × Bool)))].length 1))] [] (fun fb => by kernel_rfl) rfl trivial ?_
 refine WL.done rfl ?_
 refine WX.next ?_
 refine WC.seq ?_
 refine WC.seq ?_
 refine WC.region ?_
 refine seg 2 [] [0, 7, 16, 17] [(0, (.slice A_p0 p0.length c_p0)), (7, (.slice (some ⟨g6248, 0, none⟩) [some (mput p1 true ([] : List (A8_Int × Bool)))].length 1)), (16, (iv p2)), (17, (iv 0))] [] (fun fb => by kernel_rfl) rfl trivial ?_
 refine WL.done rfl ?_
 refine WX.next ?_
 obtain ⟨x6462, hx6463, hf⟩ := bind_some hf
 refine WC.cutN (T := (List (Option (List (A8_Int × Bool)))) × (Option Addr) × Nat × (Nat → Nat)) (fun t => [(7, (.slice t.2.1 t.1.length t.2.2.1))]) (fun t w1 => St NoS w w1 [rowR encN_Row A_p0 c_p0 (tag H_p0 p0), nestO subN_Row H_p0 p0] [rowO 81 (encMap A8_Int Bool) t.2.1 t.2.2.1 (tag t.2.2.2 t.1), mapsO (aggI ints_A8_Int) vB t.2.2.2 t.1] ∧ x6462 = t.1) (fun Kx6462 => ?_) ?_
 ·
  refine WC.block ?_
  refine WC.loop (T := ((List (Option (List (A8_Int × Bool)))) × Int) × (Option Addr) × Nat × (Nat → Nat)) (fun t => [(0, (.slice A_p0 p0.length c_p0)), (7, (.slice t.2.1 t.1.1.length t.2.2.1)), (16, (iv p2)), (17, (iv t.1.2))]) (fun n t w1 => St NoS w w1 [rowR encN_Row A_p0 c_p0 (tag H_p0 p0), nestO subN_Row H_p0 p0] [rowO 81 (encMap A8_Int Bool) t.2.1 t.2.2.1 (tag t.2.2.2 t.1.1), mapsO (aggI ints_A8_Int) vB t.2.2.2 t.1.1] ∧ torus_back.l0 n t.1.1 t.1.2 p0 p2 = some x6462) k (([some (mput p1 true ([] : List (A8_Int × Bool)))], 0), (some ⟨g6248, 0, none⟩), 1, (fun _ => g6243)) [0, 7, 16, 17] rfl ⟨(hS6253.subR [0, 1]).sub [1, 0] (by decide), hx6463⟩ ?_
  rintro k6464 ⟨⟨l6455, x6457⟩, A6453, c6454, H6456⟩ w6465 ⟨hS6466, hl6467⟩
  cases k6464 with
  | zero => rw [torus_back.l0] at hl6467; cases hl6467
  | succ k6464 =>
   rw [torus_back.l0] at hl6467
   refine WC.seq ?_
   refine WC.region ?_
   refine seg 1 [] [0, 7, 16, 17, 18] [(0, (.slice A_p0 p0.length c_p0)), (7, (.slice A6453 l6455.length c6454)), (16, (iv p2)), (17, (iv x6457)), (18, (.bool (decide (x6457 < p2))))] [] (fun fb => by kernel_rfl) rfl trivial ?_
   refine WL.done rfl ?_
   refine WX.next ?_
   refine WC.seq ?_
   rcases br_some hl6467 with ⟨h6468, hl6467⟩ | ⟨h6468, hl6467⟩
   ·refine WC.condT2 (fun fb => by kernel_rfl) h6468 ?_
    refine WC.skip ?_
    refine WX.next ?_
    refine WC.seq ?_
    refine WC.block ?_
    refine WC.seq ?_
    refine WC.region ?_
    refine seg 4 [] [0, 7, 16, 17, 19, 22] [(0, (.slice A_p0 p0.length c_p0)), (7, (.slice A6453 l6455.length c6454)), (16, (iv p2)), (17, (iv x6457)), (19, (.slice A6453 l6455.length c6454)), (22, (iv (w64 ((l6455.length : Int) - 1))))] [] (fun fb => by kernel_rfl) rfl trivial ?_
    obtain ⟨h6469, hl6467⟩ := as_some hl6467
    refine seg 5 [] [0, 7, 16, 17, 23] [(0, (.slice A_p0 p0.length c_p0)), (7, (.slice A6453 l6455.length c6454)), (16, (iv p2)), (17, (iv x6457)), (23, (.pointer (some ((adr A6453).add ((w64 ((l6455.length : Int) - 1)).toNat * 1)))))] [.idx A6453 (w64 ((l6455.length : Int) - 1)) l6455.length] (fun fb => by kernel_rfl) rfl ⟨nrow_adr (rowO.rd (hS6466.own 0).1) h6469.1 h6469.2, trivial⟩ ?_
    obtain ⟨m6470, hm6471, hl6467⟩ := bind_some hl6467
    refine seg 6 [.v (.map (some (H6456 (w64 ((l6455.length : Int) - 1)).toNat)))] [0, 7, 16, 17, 24] [(0, (.slice A_p0 p0.length c_p0)), (7, (.slice A6453 l6455.length c6454)), (16, (iv p2)), (17, (iv x6457)), (24, (.map (some (H6456 (w64 ((l6455.length : Int) - 1)).toNat))))] [.cell ((adr A6453).add ((w64 ((l6455.length : Int) - 1)).toNat * 1)) (.map (some (H6456 (w64 ((l6455.length : Int) - 1)).toNat)))] (fun fb => by kernel_rfl) rfl ⟨nrow_cell (rowO.rd (hS6466.own 0).1) none h6469.1 h6469.2 0 (mapV_some hm6471), trivial⟩ ?_
    refine WL.new hS6466 25 [] (fun g => (.map (some g))) (mapObj (aggI ints_A8_Int) vB ([] : List (A8_Int × Bool))) [] (fun fb g => by kernel_rfl) trivial (fun g6472 w6473 hS6474 => ?_)
    refine ⟨trivial, ?_⟩
    refine seg 9 [] [0, 7, 8, 9, 16, 17] [(0, (.slice A_p0 p0.length c_p0)), (7, (.slice A6453 l6455.length c6454)), (8, (.map (some (H6456 (w64 ((l6455.length : Int) - 1)).toNat)))), (9, (.map (some g6472))), (16, (iv p2)), (17, (iv x6457))] [] (fun fb => by kernel_rfl) rfl trivial ?_
    refine WL.done rfl ?_
    refine WX.next ?_
    refine WC.seq ?_
    refine WC.seq ?_
    refine WC.region ?_
    refine seg 3 [] [0, 7, 8, 9, 16, 17, 26, 27, 28] [(0, (.slice A_p0 p0.length c_p0)), (7, (.slice A6453 l6455.length c6454)), (8, (.map (some (H6456 (w64 ((l6455.length : Int) - 1)).toNat)))), (9, (.map (some g6472))), (16, (iv p2)), (17, (iv x6457)), (26, (.slice A_p0 p0.length c_p0)), (27, (iv (p0.length : Int))), (28, (iv 0))] [] (fun fb => by kernel_rfl) rfl trivial ?_
    refine WL.done rfl ?_
    refine WX.next ?_
    obtain ⟨x6522, hx6523, hl6467⟩ := bind_some hl6467
    refine WC.cutN (T := (List (A8_Int × Bool))) (fun t => [(0, (.slice A_p0 p0.length c_p0)), (7, (.slice A6453 l6455.length c6454)), (9, (.map (some g6472))), (16, (iv p2)), (17, (iv x6457))]) (fun t w1 => St NoS w w1 [rowR encN_Row A_p0 c_p0 (tag H_p0 p0), nestO subN_Row H_p0 p0] [rowO 81 (encMap A8_Int Bool) A6453 c6454 (tag H6456 l6455), mapsO (aggI ints_A8_Int) vB H6456 l6455, blk g6472 (mapObj (aggI ints_A8_Int) vB t)] ∧ x6522 = t) (fun Kx6522 => ?_) ?_
    ·
     refine WC.block ?_
     refine WC.loop (T := (List (A8_Int × Bool)) × Int) (fun t => [(0, (.slice A_p0 p0.length c_p0)), (7, (.slice A6453 l6455.length c6454)), (8, (.map (some (H6456 (w64 ((l6455.length : Int) - 1)).toNat)))), (9, (.map (some g6472))), (16, (iv p2)), (17, (iv x6457)), (26, (.slice A_p0 p0.length c_p0)), (27, (iv (p0.length : Int))), (28, (iv t.2))]) (fun n t w1 => St NoS w w1 [rowR encN_Row A_p0 c_p0 (tag H_p0 p0), nestO subN_Row H_p0 p0] [rowO 81 (encMap A8_Int Bool) A6453 c6454 (tag H6456 l6455), mapsO (aggI ints_A8_Int) vB H6456 l6455, blk g6472 (mapObj (aggI ints_A8_Int) vB t.1)] ∧ torus_back.l1 n t.1 t.2 p0 m6470 = some x6522) k6464 (([] : List (A8_Int × Bool)), 0) [0, 7, 8, 9, 16, 17, 26, 27, 28] rfl ⟨(hS6474.subR [0, 1]).sub [1, 2, 0] (by decide), hx6523⟩ ?_
     rintro k6524 ⟨l6519, x6520⟩ w6525 ⟨hS6526, hl6527⟩
     cases k6524 with
     | zero => rw [torus_back.l1] at hl6527; cases hl6527
     | succ k6524 =>
      rw [torus_back.l1] at hl6527
      refine WC.seq ?_
      refine WC.region ?_
      refine seg 1 [] [0, 7, 8, 9, 16, 17, 26, 27, 28, 29] [(0, (.slice A_p0 p0.length c_p0)), (7, (.slice A6453 l6455.length c6454)), (8, (.map (some (H6456 (w64 ((l6455.length : Int) - 1)).toNat)))), (9, (.map (some g6472))), (16, (iv p2)), (17, (iv x6457)), (26, (.slice A_p0 p0.length c_p0)), (27, (iv (p0.length : Int))), (28, (iv x6520)), (29, (.bool (decide (x6520 < (p0.length : Int)))))] [] (fun fb => by kernel_rfl) rfl trivial ?_
      refine WL.done rfl ?_
      refine WX.next ?_
      refine WC.seq ?_
      rcases br_some hl6527 with ⟨h6528, hl6527⟩ | ⟨h6528, hl6527⟩
      ·refine WC.condT2 (fun fb => by kernel_rfl) h6528 ?_
       refine WC.skip ?_
       refine WX.next ?_
       refine WC.seq ?_
       refine WC.block ?_
       refine WC.seq ?_
       refine WC.region ?_
       obtain ⟨h6529, hl6527⟩ := as_some hl6527
       refine seg 2 [.v (.slice ((H_p0 x6520.toNat 0).1) ((rdD p0 x6520 z_Row).Cells).length ((H_p0 x6520.toNat 0).2)), .v (iv (((rdD p0 x6520 z_Row).South).e0)), .v (iv (((rdD p0 x6520 z_Row).South).e1)), .v (iv (((rdD p0 x6520 z_Row).South).e2)), .v (iv (((rdD p0 x6520 z_Row).South).e3)), .v (iv (((rdD p0 x6520 z_Row).South).e4)), .v (iv (((rdD p0 x6520 z_Row).South).e5)), .v (iv (((rdD p0 x6520 z_Row).South).e6)), .v (iv (((rdD p0 x6520 z_Row).South).e7)), .v (iv (((rdD p0 x6520 z_Row).North).e0)), .v (iv (((rdD p0 x6520 z_Row).North).e1)), .v (iv (((rdD p0 x6520 z_Row).North).e2)), .v (iv (((rdD p0 x6520 z_Row).North).e3)), .v (iv (((rdD p0 x6520 z_Row).North).e4)), .v (iv (((rdD p0 x6520 z_Row).North).e5)), .v (iv (((rdD p0 x6520 z_Row).North).e6)), .v (iv (((rdD p0 x6520 z_Row).North).e7)), .v (iv ((rdD p0 x6520 z_Row).West)), .v (iv ((rdD p0 x6520 z_Row).East))] [0, 7, 8, 9, 16, 17, 26, 27, 28, 31] [(0, (.slice A_p0 p0.length c_p0)), (7, (.slice A6453 l6455.length c6454)), (8, (.map (some (H6456 (w64 ((l6455.length : Int) - 1)).toNat)))), (9, (.map (some g6472))), (16, (iv p2)), (17, (iv x6457)), (26, (.slice A_p0 p0.length c_p0)), (27, (iv (p0.length : Int))), (28, (iv x6520)), (31, (.agg #[(.slice ((H_p0 x6520.toNat 0).1) ((rdD p0 x6520 z_Row).Cells).length ((H_p0 x6520.toNat 0).2)), (iv (((rdD p0 x6520 z_Row).South).e0)), (iv (((rdD p0 x6520 z_Row).South).e1)), (iv (((rdD p0 x6520 z_Row).South).e2)), (iv (((rdD p0 x6520 z_Row).South).e3)), (iv (((rdD p0 x6520 z_Row).South).e4)), (iv (((rdD p0 x6520 z_Row).South).e5)), (iv (((rdD p0 x6520 z_Row).South).e6)), (iv (((rdD p0 x6520 z_Row).South).e7)), (iv (((rdD p0 x6520 z_Row).North).e0)), (iv (((rdD p0 x6520 z_Row).North).e1)), (iv (((rdD p0 x6520 z_Row).North).e2)), (iv (((rdD p0 x6520 z_Row).North).e3)), (iv (((rdD p0 x6520 z_Row).North).e4)), (iv (((rdD p0 x6520 z_Row).North).e5)), (iv (((rdD p0 x6520 z_Row).North).e6)), (iv (((rdD p0 x6520 z_Row).North).e7)), (iv ((rdD p0 x6520 z_Row).West)), (iv ((rdD p0 x6520 z_Row).East))]))] [.idx A_p0 x6520 p0.length, .cell ((adr A_p0).add ((x6520).toNat * 19)) (.slice ((H_p0 x6520.toNat 0).1) ((rdD p0 x6520 z_Row).Cells).length ((H_p0 x6520.toNat 0).2)), .cell (((adr A_p0).add ((x6520).toNat * 19)).add 1) (iv (((rdD p0 x6520 z_Row).South).e0)), .cell (((adr A_p0).add ((x6520).toNat * 19)).add 2) (iv (((rdD p0 x6520 z_Row).South).e1)), .cell (((adr A_p0).add ((x6520).toNat * 19)).add 3) (iv (((rdD p0 x6520 z_Row).South).e2)), .cell (((adr A_p0).add ((x6520).toNat * 19)).add 4) (iv (((rdD p0 x6520 z_Row).South).e3)), .cell (((adr A_p0).add ((x6520).toNat * 19)).add 5) (iv (((rdD p0 x6520 z_Row).South).e4)), .cell (((adr A_p0).add ((x6520).toNat * 19)).add 6) (iv (((rdD p0 x6520 z_Row).South).e5)), .cell (((adr A_p0).add ((x6520).toNat * 19)).add 7) (iv (((rdD p0 x6520 z_Row).South).e6)), .cell (((adr A_p0).add ((x6520).toNat * 19)).add 8) (iv (((rdD p0 x6520 z_Row).South).e7)), .cell (((adr A_p0).add ((x6520).toNat * 19)).add 9) (iv (((rdD p0 x6520 z_Row).North).e0)), .cell (((adr A_p0).add ((x6520).toNat * 19)).add 10) (iv (((rdD p0 x6520 z_Row).North).e1)), .cell (((adr A_p0).add ((x6520).toNat * 19)).add 11) (iv (((rdD p0 x6520 z_Row).North).e2)), .cell (((adr A_p0).add ((x6520).toNat * 19)).add 12) (iv (((rdD p0 x6520 z_Row).North).e3)), .cell (((adr A_p0).add ((x6520).toNat * 19)).add 13) (iv (((rdD p0 x6520 z_Row).North).e4)), .cell (((adr A_p0).add ((x6520).toNat * 19)).add 14) (iv (((rdD p0 x6520 z_Row).North).e5)), .cell (((adr A_p0).add ((x6520).toNat * 19)).add 15) (iv (((rdD p0 x6520 z_Row).North).e6)), .cell (((adr A_p0).add ((x6520).toNat * 19)).add 16) (iv (((rdD p0 x6520 z_Row).North).e7)), .cell (((adr A_p0).add ((x6520).toNat * 19)).add 17) (iv ((rdD p0 x6520 z_Row).West)), .cell (((adr A_p0).add ((x6520).toNat * 19)).add 18) (iv ((rdD p0 x6520 z_Row).East))] (fun fb => by kernel_rfl) rfl ⟨nrow_adr (hS6526.rd 0).1 h6529.1 h6529.2, nrow_cell (hS6526.rd 0).1 z_Row h6529.1 h6529.2 0 rfl, nrow_cell (hS6526.rd 0).1 z_Row h6529.1 h6529.2 1 rfl, nrow_cell (hS6526.rd 0).1 z_Row h6529.1 h6529.2 2 rfl, nrow_cell (hS6526.rd 0).1 z_Row h6529.1 h6529.2 3 rfl, nrow_cell (hS6526.rd 0).1 z_Row h6529.1 h6529.2 4 rfl, nrow_cell (hS6526.rd 0).1 z_Row h6529.1 h6529.2 5 rfl, nrow_cell (hS6526.rd 0).1 z_Row h6529.1 h6529.2 6 rfl, nrow_cell (hS6526.rd 0).1 z_Row h6529.1 h6529.2 7 rfl, nrow_cell (hS6526.rd 0).1 z_Row h6529.1 h6529.2 8 rfl, nrow_cell (hS6526.rd 0).1 z_Row h6529.1 h6529.2 9 rfl, nrow_cell (hS6526.rd 0).1 z_Row h6529.1 h6529.2 10 rfl, nrow_cell (hS6526.rd 0).1 z_Row h6529.1 h6529.2 11 rfl, nrow_cell (hS6526.rd 0).1 z_Row h6529.1 h6529.2 12 rfl, nrow_cell (hS6526.rd 0).1 z_Row h6529.1 h6529.2 13 rfl, nrow_cell (hS6526.rd 0).1 z_Row h6529.1 h6529.2 14 rfl, nrow_cell (hS6526.rd 0).1 z_Row h6529.1 h6529.2 15 rfl, nrow_cell (hS6526.rd 0).1 z_Row h6529.1 h6529.2 16 rfl, nrow_cell (hS6526.rd 0).1 z_Row h6529.1 h6529.2 17 rfl, nrow_cell (hS6526.rd 0).1 z_Row h6529.1 h6529.2 18 rfl, trivial⟩ ?_
       refine WL.new hS6526 11 [] (fun g => (.pointer (some ⟨g, 0, none⟩))) (.cells #[(.slice none 0 0), (iv 0), (iv 0), (iv 0), (iv 0), (iv 0), (iv 0), (iv 0), (iv 0), (iv 0), (iv 0), (iv 0), (iv 0), (iv 0), (iv 0), (iv 0), (iv 0), (iv 0), (iv 0)] 88 (0, 0)) [] (fun fb g => by kernel_rfl) trivial (fun g6530 w6531 hS6532 => ?_)
       refine ⟨trivial, ?_⟩
       refine WL.store hS6532 0 rfl [(0, (.slice ((H_p0 x6520.toNat 0).1) ((rdD p0 x6520 z_Row).Cells).length ((H_p0 x6520.toNat 0).2))), (1, (iv (((rdD p0 x6520 z_Row).South).e0))), (2, (iv (((rdD p0 x6520 z_Row).South).e1))), (3, (iv (((rdD p0 x6520 z_Row).South).e2))), (4, (iv (((rdD p0 x6520 z_Row).South).e3))), (5, (iv (((rdD p0 x6520 z_Row).South).e4))), (6, (iv (((rdD p0 x6520 z_Row).South).e5))), (7, (iv (((rdD p0 x6520 z_Row).South).e6))), (8, (iv (((rdD p0 x6520 z_Row).South).e7))), (9, (iv (((rdD p0 x6520 z_Row).North).e0))), (10, (iv (((rdD p0 x6520 z_Row).North).e1))), (11, (iv (((rdD p0 x6520 z_Row).North).e2))), (12, (iv (((rdD p0 x6520 z_Row).North).e3))), (13, (iv (((rdD p0 x6520 z_Row).North).e4))), (14, (iv (((rdD p0 x6520 z_Row).North).e5))), (15, (iv (((rdD p0 x6520 z_Row).North).e6))), (16, (iv (((rdD p0 x6520 z_Row).North).e7))), (17, (iv ((rdD p0 x6520 z_Row).West))), (18, (iv ((rdD p0 x6520 z_Row).East)))] #[(.slice ((H_p0 x6520.toNat 0).1) ((rdD p0 x6520 z_Row).Cells).length ((H_p0 x6520.toNat 0).2)), (iv (((rdD p0 x6520 z_Row).South).e0)), (iv (((rdD p0 x6520 z_Row).South).e1)), (iv (((rdD p0 x6520 z_Row).South).e2)), (iv (((rdD p0 x6520 z_Row).South).e3)), (iv (((rdD p0 x6520 z_Row).South).e4)), (iv (((rdD p0 x6520 z_Row).South).e5)), (iv (((rdD p0 x6520 z_Row).South).e6)), (iv (((rdD p0 x6520 z_Row).South).e7)), (iv (((rdD p0 x6520 z_Row).North).e0)), (iv (((rdD p0 x6520 z_Row).North).e1)), (iv (((rdD p0 x6520 z_Row).North).e2)), (iv (((rdD p0 x6520 z_Row).North).e3)), (iv (((rdD p0 x6520 z_Row).North).e4)), (iv (((rdD p0 x6520 z_Row).North).e5)), (iv (((rdD p0 x6520 z_Row).North).e6)), (iv (((rdD p0 x6520 z_Row).North).e7)), (iv ((rdD p0 x6520 z_Row).West)), (iv ((rdD p0 x6520 z_Row).East))] (fun fb => by kernel_rfl) (by kernel_rfl) (by kernel_rfl) [1, 2, 3] (by decide) (by decide) (fun w6534 hS6535 => ?_)
       refine ⟨trivial, ?_⟩
       refine WL.done rfl ?_
       refine WX.next ?_
       refine WC.seq ?_
       refine WC.region ?_
       refine seg 3 [.v (iv (((rdD p0 x6520 z_Row).North).e0)), .v (iv (((rdD p0 x6520 z_Row).North).e1)), .v (iv (((rdD p0 x6520 z_Row).North).e2)), .v (iv (((rdD p0 x6520 z_Row).North).e3)), .v (iv (((rdD p0 x6520 z_Row).North).e4)), .v (iv (((rdD p0 x6520 z_Row).North).e5)), .v (iv (((rdD p0 x6520 z_Row).North).e6)), .v (iv (((rdD p0 x6520 z_Row).North).e7))] [0, 7, 8, 9, 11, 16, 17, 26, 27, 28, 32, 34] [(0, (.slice A_p0 p0.length c_p0)), (7, (.slice A6453 l6455.length c6454)), (8, (.map (some (H6456 (w64 ((l6455.length : Int) - 1)).toNat)))), (9, (.map (some g6472))), (11, (pt g6530)), (16, (iv p2)), (17, (iv x6457)), (26, (.slice A_p0 p0.length c_p0)), (27, (iv (p0.length : Int))), (28, (iv x6520)), (32, (.map (some (H6456 (w64 ((l6455.length : Int) - 1)).toNat)))), (34, (.agg #[(iv (((rdD p0 x6520 z_Row).North).e0)), (iv (((rdD p0 x6520 z_Row).North).e1)), (iv (((rdD p0 x6520 z_Row).North).e2)), (iv (((rdD p0 x6520 z_Row).North).e3)), (iv (((rdD p0 x6520 z_Row).North).e4)), (iv (((rdD p0 x6520 z_Row).North).e5)), (iv (((rdD p0 x6520 z_Row).North).e6)), (iv (((rdD p0 x6520 z_Row).North).e7))]))] [.cell ⟨g6530, 9, none⟩ (iv (((rdD p0 x6520 z_Row).North).e0)), .cell ⟨g6530, 10, none⟩ (iv (((rdD p0 x6520 z_Row).North).e1)), .cell ⟨g6530, 11, none⟩ (iv (((rdD p0 x6520 z_Row).North).e2)), .cell ⟨g6530, 12, none⟩ (iv (((rdD p0 x6520 z_Row).North).e3)), .cell ⟨g6530, 13, none⟩ (iv (((rdD p0 x6520 z_Row).North).e4)), .cell ⟨g6530, 14, none⟩ (iv (((rdD p0 x6520 z_Row).North).e5)), .cell ⟨g6530, 15, none⟩ (iv (((rdD p0 x6520 z_Row).North).e6)), .cell ⟨g6530, 16, none⟩ (iv (((rdD p0 x6520 z_Row).North).e7))] (fun fb => by kernel_rfl) rfl ⟨hS6535.cell 0 rfl 9 rfl, hS6535.cell 0 rfl 10 rfl, hS6535.cell 0 rfl 11 rfl, hS6535.cell 0 rfl 12 rfl, hS6535.cell 0 rfl 13 rfl, hS6535.cell 0 rfl 14 rfl, hS6535.cell 0 rfl 15 rfl, hS6535.cell 0 rfl 16 rfl, trivial⟩ ?_
       refine WL.lookup (mapsO.at (hS6535.own 2).1 h6469.1 h6469.2 hm6471) ((rdD p0 x6520 z_Row).North) (d := 35) (c := false) (t := 81) (kT := 86) (eT := 4) (z := false) (kE := (aggI ints_A8_Int)) (vE := vB) (l := m6470) (.bool (mget ((rdD p0 x6520 z_Row).North) false m6470)) (fun fb => by kernel_rfl) torus_back_key86 (by kernel_rfl) (fun _ => by kernel_rfl) rfl ?_
       refine ⟨trivial, ?_⟩
       refine WL.done rfl ?_
       refine WX.next ?_
       obtain ⟨x6540, hx6541, hl6527⟩ := bind_some hl6527
       refine WC.cutN (T := (List (A8_Int × Bool))) (fun t => [(0, (.slice A_p0 p0.length c_p0)), (7, (.slice A6453 l6455.length c6454)), (8, (.map (some (H6456 (w64 ((l6455.length : Int) - 1)).toNat)))), (9, (.map (some g6472))), (16, (iv p2)), (17, (iv x6457)), (26, (.slice A_p0 p0.length c_p0)), (27, (iv (p0.length : Int))), (28, (iv x6520))]) (fun t w1 => St NoS w w1 [rowR encN_Row A_p0 c_p0 (tag H_p0 p0), nestO subN_Row H_p0 p0] [rowO 81 (encMap A8_Int Bool) A6453 c6454 (tag H6456 l6455), mapsO (aggI ints_A8_Int) vB H6456 l6455, blk g6472 (mapObj (aggI ints_A8_Int) vB t)] ∧ x6540 = t) (fun Kx6540 => ?_) ?_
       ·
        rcases br_some hx6541 with ⟨h6542, hx6541⟩ | ⟨h6542, hx6541⟩
        ·refine WC.condT2 (fun fb => by kernel_rfl) h6542 ?_
         refine WC.region ?_
         refine seg 3 [.v (iv (((rdD p0 x6520 z_Row).South).e0)), .v (iv (((rdD p0 x6520 z_Row).South).e1)), .v (iv (((rdD p0 x6520 z_Row).South).e2)), .v (iv (((rdD p0 x6520 z_Row).South).e3)), .v (iv (((rdD p0 x6520 z_Row).South).e4)), .v (iv (((rdD p0 x6520 z_Row).South).e5)), .v (iv (((rdD p0 x6520 z_Row).South).e6)), .v (iv (((rdD p0 x6520 z_Row).South).e7))] [0, 7, 8, 9, 16, 17, 26, 27, 28, 36, 38] [(0, (.slice A_p0 p0.length c_p0)), (7, (.slice A6453 l6455.length c6454)), (8, (.map (some (H6456 (w64 ((l6455.length : Int) - 1)).toNat)))), (9, (.map (some g6472))), (16, (iv p2)), (17, (iv x6457)), (26, (.slice A_p0 p0.length c_p0)), (27, (iv (p0.length : Int))), (28, (iv x6520)), (36, (.map (some g6472))), (38, (.agg #[(iv (((rdD p0 x6520 z_Row).South).e0)), (iv (((rdD p0 x6520 z_Row).South).e1)), (iv (((rdD p0 x6520 z_Row).South).e2)), (iv (((rdD p0 x6520 z_Row).South).e3)), (iv (((rdD p0 x6520 z_Row).South).e4)), (iv (((rdD p0 x6520 z_Row).South).e5)), (iv (((rdD p0 x6520 z_Row).South).e6)), (iv (((rdD p0 x6520 z_Row).South).e7))]))] [.cell ⟨g6530, 1, none⟩ (iv (((rdD p0 x6520 z_Row).South).e0)), .cell ⟨g6530, 2, none⟩ (iv (((rdD p0 x6520 z_Row).South).e1)), .cell ⟨g6530, 3, none⟩ (iv (((rdD p0 x6520 z_Row).South).e2)), .cell ⟨g6530, 4, none⟩ (iv (((rdD p0 x6520 z_Row).South).e3)), .cell ⟨g6530, 5, none⟩ (iv (((rdD p0 x6520 z_Row).South).e4)), .cell ⟨g6530, 6, none⟩ (iv (((rdD p0 x6520 z_Row).South).e5)), .cell ⟨g6530, 7, none⟩ (iv (((rdD p0 x6520 z_Row).South).e6)), .cell ⟨g6530, 8, none⟩ (iv (((rdD p0 x6520 z_Row).South).e7))] (fun fb => by kernel_rfl) rfl ⟨hS6535.cell 0 rfl 1 rfl, hS6535.cell 0 rfl 2 rfl, hS6535.cell 0 rfl 3 rfl, hS6535.cell 0 rfl 4 rfl, hS6535.cell 0 rfl 5 rfl, hS6535.cell 0 rfl 6 rfl, hS6535.cell 0 rfl 7 rfl, hS6535.cell 0 rfl 8 rfl, trivial⟩ ?_
         refine WL.mapput hS6535 3 (t := 81) (kT := 86) (eT := 4) (kE := (aggI ints_A8_Int)) (vE := vB) (l := l6519) rfl ((rdD p0 x6520 z_Row).South) true (fun fb => by kernel_rfl) torus_back_key86 (by kernel_rfl) [0, 1, 2] (by decide) (by decide) (fun w6543 hS6544 => ?_)
         refine ⟨trivial, ?_⟩
         refine WL.done rfl ?_
         injection hx6541 with hx6541
         exact WX.to Kx6540 (mput ((rdD p0 x6520 z_Row).South) true l6519) [0, 7, 8, 9, 16, 17, 26, 27, 28] rfl ⟨(hS6544.subR [0, 1]).sub [2, 3, 0] (by decide), hx6541.symm⟩
        refine WC.condF2 (fun fb => by kernel_rfl) h6542 ?_
        refine WC.skip ?_
        injection hx6541 with hx6541
        exact WX.to Kx6540 l6519 [0, 7, 8, 9, 16, 17, 26, 27, 28] rfl ⟨(hS6535.subR [0, 1]).sub [1, 2, 3] (by decide), hx6541.symm⟩
       rintro y6548 w6545 ⟨hS6546, hq6547⟩
       subst hq6547
       refine WX.blockN (WX.next ?_)
       refine WC.region ?_
       refine seg 2 [] [0, 7, 8, 9, 16, 17, 26, 27, 28] [(0, (.slice A_p0 p0.length c_p0)), (7, (.slice A6453 l6455.length c6454)), (8, (.map (some (H6456 (w64 ((l6455.length : Int) - 1)).toNat)))), (9, (.map (some g6472))), (16, (iv p2)), (17, (iv x6457)), (26, (.slice A_p0 p0.length c_p0)), (27, (iv (p0.length : Int))), (28, (iv (w64 (x6520 + 1))))] [] (fun fb => by kernel_rfl) rfl trivial ?_
       refine WL.done rfl ?_
       exact WX.again k6524 (Nat.lt_succ_self _) (x6540, w64 (x6520 + 1)) [0, 7, 8, 9, 16, 17, 26, 27, 28] rfl ⟨(hS6546.subR [0, 1]).sub [0, 1, 2] (by decide), hl6527⟩
      refine WC.condF2 (fun fb => by kernel_rfl) h6528 ?_
      refine WC.exit ?_
      injection hl6527 with hl6527
      exact WX.thenX (WX.thenX (WX.blockHere (WX.to Kx6522 l6519 [0, 7, 9, 16, 17] rfl ⟨(hS6526.subR [0, 1]).sub [0, 1, 2] (by decide), hl6527.symm⟩)))
    rintro y6552 w6549 ⟨hS6550, hq6551⟩
    subst hq6551
    refine WX.next ?_
    refine WC.region ?_
    refine seg 2 [] [0, 16, 17, 40, 41] [(0, (.slice A_p0 p0.length c_p0)), (16, (iv p2)), (17, (iv x6457)), (40, (.slice A6453 l6455.length c6454)), (41, (.map (some g6472)))] [] (fun fb => by kernel_rfl) rfl trivial ?_
    refine WL.new hS6550 42 [] (fun g => (.slice (some ⟨g, 0, none⟩) 1 1)) (.cells #[(.map (some g6472))] 81 (0, 0)) [] (fun fb g => by kernel_rfl) trivial (fun g6553 w6554 hS6555 => ?_)
    refine ⟨trivial, ?_⟩
    have hS6557 : St NoS w w6554 [rowR encN_Row A_p0 c_p0 (tag H_p0 p0), nestO subN_Row H_p0 p0] [rowO 81 (encMap A8_Int Bool) (some ⟨g6553, 0, none⟩) 1 (tag (fun _ => g6472) [some x6522]), rowO 81 (encMap A8_Int Bool) A6453 c6454 (tag H6456 l6455), mapsO (aggI ints_A8_Int) vB H6456 l6455, blk g6472 (mapObj (aggI ints_A8_Int) vB x6522)] := hS6555.map1 0 _ (fun h => rowO.ofBlk h rfl (Nat.le_of_ble_eq_true (by kernel_rfl))) (fun _ h => by obtain ⟨_, h1, h2⟩ := h; injection h1 with h1; subst h1; exact h2) [1, 2, 3] (by decide) (by decide)
    have hS6558 : St NoS w w6554 [rowR encN_Row A_p0 c_p0 (tag H_p0 p0), nestO subN_Row H_p0 p0] [mapsO (aggI ints_A8_Int) vB (fun _ => g6472) [some x6522], rowO 81 (encMap A8_Int Bool) (some ⟨g6553, 0, none⟩) 1 (tag (fun _ => g6472) [some x6522]), rowO 81 (encMap A8_Int Bool) A6453 c6454 (tag H6456 l6455), mapsO (aggI ints_A8_Int) vB H6456 l6455] := hS6557.mapsOne 3 rfl [0, 1, 2] (by decide) (by decide)
    obtain ⟨h6559, hl6467⟩ := as_some hl6467
    refine WL.appendN hS6558 2 (d := 43) (tS := 80) (z := (.map none)) (bytes := 8) (c2 := 1) (hx := g6472) (x := (some x6522)) rfl (fun fb => by kernel_rfl) (rowO.rd (hS6558.own 1).1) (by kernel_rfl) (by kernel_rfl) rfl (by decide) h6559 (by decide) [0, 1, 3] (by decide) (by decide) (fun A6560 c6561 w6562 hS6563 => ?_)
    have hS6564 : St NoS w w6562 [rowR encN_Row A_p0 c_p0 (tag H_p0 p0), nestO subN_Row H_p0 p0] [mapsO (aggI ints_A8_Int) vB (updH H6456 l6455.length g6472) (l6455 ++ [some x6522]), rowO 81 (encMap A8_Int Bool) A6560 c6561 (tag (updH H6456 l6455.length g6472) (l6455 ++ [some x6522])), rowO 81 (encMap A8_Int Bool) (some ⟨g6553, 0, none⟩) 1 (tag (fun _ => g6472) [some x6522])] := hS6563.mapsPush 3 1 rfl rfl (by decide) [0, 2] (by decide) (by decide)
    refine ⟨trivial, ?_⟩
    refine seg 5 [] [0, 7, 16, 17] [(0, (.slice A_p0 p0.length c_p0)), (7, (.slice A6560 (l6455 ++ [some x6522]).length c6561)), (16, (iv p2)), (17, (iv x6457))] [] (fun fb => by kernel_rfl) rfl trivial ?_
    refine WL.done rfl ?_
    refine WX.blockN (WX.next ?_)
    refine WC.region ?_
    refine seg 2 [] [0, 7, 16, 17] [(0, (.slice A_p0 p0.length c_p0)), (7, (.slice A6560 (l6455 ++ [some x6522]).length c6561)), (16, (iv p2)), (17, (iv (w64 (x6457 + 1))))] [] (fun fb => by kernel_rfl) rfl trivial ?_
    refine WL.done rfl ?_
    exact WX.again k6464 (Nat.lt_succ_self _) ((l6455 ++ [some x6522], w64 (x6457 + 1)), A6560, c6561, (updH H6456 l6455.length g6472)) [0, 7, 16, 17] rfl ⟨(hS6564.subR [0, 1]).sub [1, 0] (by decide), hl6467⟩
   refine WC.condF2 (fun fb => by kernel_rfl) h6468 ?_
   refine WC.exit ?_
   injection hl6467 with hl6467
   exact WX.thenX (WX.thenX (WX.blockHere (WX.to Kx6462 (l6455, A6453, c6454, H6456) [7] rfl ⟨(hS6466.subR [0, 1]).sub [0, 1] (by decide), hl6467.symm⟩)))
 rintro ⟨y6568, A6458, c6459, H6461⟩ w6565 ⟨hS6566, hq6567⟩
 subst hq6567
 refine WX.next ?_
 refine WC.seq ?_
 refine WC.region ?_
 refine seg 2 [] [6] [(6, (.slice A6458 x6462.length c6459))] [] (fun fb => by kernel_rfl) rfl trivial ?_
 refine WL.done rfl ?_
 refine WX.next ?_
 refine WC.ret ?_
 injection hf with hf
 subst hf
 exact WX.ret_ [] (.slice A6458 x6462.length c6459) [] (fun fb => by kernel_rfl) trivial ⟨_, rfl, A6458, c6459, H6461, rfl, (hS6566.sub [0, 1] (by decide)).noR⟩
theorem torus_find_key86 : KeyK Try.prog 86 (aggI ints_A8_Int) := KeyK.array (n := 8) (by kernel_rfl) ints_A8_Int (fun _ => rfl) (fun x y h => by cases x; cases y; simp only [ints_A8_Int, List.cons.injEq, and_true] at h; obtain ⟨rfl, rfl, rfl, rfl, rfl, rfl, rfl, rfl⟩ := h; rfl)
theorem torus_find_calls (k : Nat) (p0 : List Tile) (p1 : Int) (p2 : Int) (A_p0 : Option Addr) (c_p0 : Nat) (r : Pattern × Bool) (w : World) (hR0 : RO NoS w (rowR enc_Tile A_p0 c_p0 p0)) (hf : torus_find k p0 p1 p2 = some r) :
  CallsR Try.prog 46 #[(.slice A_p0 p0.length c_p0), (iv p1), (iv p2)] w (fun v w' => ∃ (A1_ : Option Addr), ∃ (c1_ : Nat), v = (.tuple #[(.agg #[(iv r.1.Width), (iv r.1.Height), (.slice A1_ r.1.Cells.length c1_)]), (.bool r.2)]) ∧ St NoS w w' [] [rowO 3 encInt A1_ c1_ r.1.Cells]) := by
 have hS : St NoS w w [rowR enc_Tile A_p0 c_p0 p0] [] := St.init (ro_cons hR0 (ro_nil _ _))
 refine enter 105 Try.func46 rfl Try.ntmps46 rfl ?_
 unfold torus_find at hf
 refine WC.seq ?_
 refine WC.region ?_
 refine WL.new hS 6 [] (fun g => (.pointer (some ⟨g, 0, none⟩))) (.cells #[(iv 0), (iv 0), (.slice none 0 0)] 38 (0, 0)) [] (fun fb g => by kernel_rfl) trivial (fun g6032 w6033 hS6034 => ?_)
 refine ⟨trivial, ?_⟩
 refine seg 2 [] [0, 1, 2, 6] [(0, (.slice A_p0 p0.length c_p0)), (1, (iv p1)), (2, (iv p2)), (6, (pt g6032))] [] (fun fb => by kernel_rfl) rfl trivial ?_
 refine WL.done rfl ?_
 refine WX.next ?_
 refine WC.scope ?_
 refine WC.seq ?_
 refine WC.region ?_
 refine seg 2 [] [1, 2, 6, 19, 20] [(1, (iv p1)), (2, (iv p2)), (6, (pt g6032)), (19, (.slice A_p0 p0.length c_p0)), (20, (iv p1))] [] (fun fb => by kernel_rfl) rfl trivial ?_
 obtain ⟨t6210, ht6211, hf⟩ := bind_some hf
 refine WL.call (some 21) 62 #[(.slice A_p0 p0.length c_p0), (iv p1)] (fun fb => by kernel_rfl) (torus_rings_calls _ p0 p1 A_p0 c_p0 t6210 _ (hS6034.rd 0) ht6211) (fun v w6212 hR6213 => ?_)
 obtain ⟨A6215, c6216, H6217, rfl, hk_⟩ := hR6213
 have hS6214 : St NoS w w6212 [rowR enc_Tile A_p0 c_p0 p0] [rowO 88 encN_Row A6215 c6216 (tag H6217 t6210), poolO [nestO subN_Row H6217 t6210], blk g6032 (.cells #[(iv 0), (iv 0), (.slice none 0 0)] 38 (0, 0))] := hS6034.call hk_ [] [0] (fun g hg => hg.elim) (by simp) (by decide)
 refine ⟨trivial, ?_⟩
 refine seg 4 [] [1, 2, 6, 8] [(1, (iv p1)), (2, (iv p2)), (6, (pt g6032)), (8, (.slice A6215 t6210.length c6216))] [] (fun fb => by kernel_rfl) rfl trivial ?_
 refine WL.done rfl ?_
 refine WX.next ?_
 refine WC.seq ?_
 refine WC.region ?_
 refine WL.new hS6214 22 [] (fun g => (.map (some g))) (mapObj (aggI ints_A8_Int) slV ([] : List (A8_Int × (HM × List (Option (List (A8_Int × Bool))))))) [] (fun fb g => by kernel_rfl) trivial (fun g6218 w6219 hS6220 => ?_)
 have hS6221 : St NoS w w6219 [knestO (aggI ints_A8_Int) vB ([] : List (A8_Int × (HM × List (Option (List (A8_Int × Bool)))))) ([] : List (A8_Int × List (Option (List (A8_Int × Bool))))), rowR enc_Tile A_p0 c_p0 p0] [blk g6218 (mapObj (aggI ints_A8_Int) slV ([] : List (A8_Int × (HM × List (Option (List (A8_Int × Bool))))))), rowO 88 encN_Row A6215 c6216 (tag H6217 t6210), poolO [nestO subN_Row H6217 t6210], blk g6032 (.cells #[(iv 0), (iv 0), (.slice none 0 0)] 38 (0, 0))] := hS6220.addR _ (knestO_nil _ _ _ _)
 refine ⟨trivial, ?_⟩
 refine seg 2 [] [1, 2, 6, 8, 9] [(1, (iv p1)), (2, (iv p2)), (6, (pt g6032)), (8, (.slice A6215 t6210.length c6216)), (9, (.map (some g6218)))] [] (fun fb => by kernel_rfl) rfl trivial ?_
 refine WL.done rfl ?_
 refine WX.next ?_
 refine WC.seq ?_
 refine WC.region ?_
 refine seg 3 [] [2, 6, 8, 9, 25] [(2, (iv p2)), (6, (pt g6032)), (8, (.slice A6215 t6210.length c6216)), (9, (.map (some g6218))), (25, (.agg #[(iv p1), (iv p2), (.slice none 0 0)]))] [] (fun fb => by kernel_rfl) rfl trivial ?_
 refine WL.new hS6221 10 [] (fun g => (.pointer (some ⟨g, 0, none⟩))) (.cells #[(iv 0), (iv 0), (.slice none 0 0)] 38 (0, 0)) [] (fun fb g => by kernel_rfl) trivial (fun g6222 w6223 hS6224 => ?_)
 refine ⟨trivial, ?_⟩
 refine WL.store hS6224 0 rfl [(0, (iv p1)), (1, (iv p2)), (2, (.slice none 0 0))] #[(iv p1), (iv p2), (.slice none 0 0)] (fun fb => by kernel_rfl) (by kernel_rfl) rfl [1, 2, 3, 4] (by decide) (by decide) (fun w6226 hS6227 => ?_)
 refine ⟨trivial, ?_⟩
 refine WL.done rfl ?_
 refine WX.next ?_
 refine WC.seq ?_
 refine WC.label ?_
 refine WX.next ?_
 refine WC.seq ?_
 refine WC.seq ?_
 refine WC.region ?_
 refine seg 3 [] [2, 6, 8, 9, 10, 26, 27, 28] [(2, (iv p2)), (6, (pt g6032)), (8, (.slice A6215 t6210.length c6216)), (9, (.map (some g6218))), (10, (pt g6222)), (26, (.slice A6215 t6210.length c6216)), (27, (iv (t6210.length : Int))), (28, (iv 0))] [] (fun fb => by kernel_rfl) rfl trivial ?_
 refine WL.done rfl ?_
 refine WX.next ?_
 obtain ⟨x7819, hx7820, hf⟩ := bind_some hf
 refine WC.cutN (T := Unit) (fun t => [(6, (pt g6032))]) (fun t w1 => St NoS w w1 [knestO (aggI ints_A8_Int) vB ([] : List (A8_Int × (HM × List (Option (List (A8_Int × Bool)))))) ([] : List (A8_Int × List (Option (List (A8_Int × Bool))))), rowR enc_Tile A_p0 c_p0 p0] [blk g6032 (.cells #[(iv 0), (iv 0), (.slice none 0 0)] 38 (0, 0))] ∧ x7819 = .inr t) (fun Kx7819 => ?_) ?_
 ·
  refine WC.block ?_
  refine WC.loop (T := ((List (A8_Int × List (Option (List (A8_Int × Bool))))) × Int) × (List (A8_Int × (HM × List (Option (List (A8_Int × Bool))))))) (fun t => [(2, (iv p2)), (6, (pt g6032)), (8, (.slice A6215 t6210.length c6216)), (9, (.map (some g6218))), (10, (pt g6222)), (26, (.slice A6215 t6210.length c6216)), (27, (iv (t6210.length : Int))), (28, (iv t.1.2))]) (fun n t w1 => St NoS w w1 [knestO (aggI ints_A8_Int) vB t.2 t.1.1, knestO (aggI ints_A8_Int) vB ([] : List (A8_Int × (HM × List (Option (List (A8_Int × Bool)))))) ([] : List (A8_Int × List (Option (List (A8_Int × Bool))))), rowR enc_Tile A_p0 c_p0 p0] [blk g6032 (.cells #[(iv 0), (iv 0), (.slice none 0 0)] 38 (0, 0)), rowO 88 encN_Row A6215 c6216 (tag H6217 t6210), poolO [nestO subN_Row H6217 t6210], blk g6218 (mapObj (aggI ints_A8_Int) slV t.2), blk g6222 (.cells #[(iv p1), (iv p2), (.slice none 0 0)] 38 (0, 0))] ∧ torus_find.l0 n t.1.1 t.1.2 p1 p2 t6210 = some x7819) k ((([] : List (A8_Int × List (Option (List (A8_Int × Bool))))), 0), ([] : List (A8_Int × (HM × List (Option (List (A8_Int × Bool))))))) [2, 6, 8, 9, 10, 26, 27, 28] rfl ⟨(hS6227.subR [0, 0, 1]).sub [4, 2, 3, 1, 0] (by decide), hx7820⟩ ?_
  rintro k7821 ⟨⟨l7816, x7818⟩, K7817⟩ w7822 ⟨hS7823, hl7824⟩
  cases k7821 with
  | zero => rw [torus_find.l0] at hl7824; cases hl7824
  | succ k7821 =>
   rw [torus_find.l0] at hl7824
   refine WC.seq ?_
   refine WC.region ?_
   refine seg 1 [] [2, 6, 8, 9, 10, 26, 27, 28, 29] [(2, (iv p2)), (6, (pt g6032)), (8, (.slice A6215 t6210.length c6216)), (9, (.map (some g6218))), (10, (pt g6222)), (26, (.slice A6215 t6210.length c6216)), (27, (iv (t6210.length : Int))), (28, (iv x7818)), (29, (.bool (decide (x7818 < (t6210.length : Int)))))] [] (fun fb => by kernel_rfl) rfl trivial ?_
   refine WL.done rfl ?_
   refine WX.next ?_
   refine WC.seq ?_
   rcases br_some hl7824 with ⟨h7825, hl7824⟩ | ⟨h7825, hl7824⟩
   ·refine WC.condT2 (fun fb => by kernel_rfl) h7825 ?_
    refine WC.skip ?_
    refine WX.next ?_
    refine WC.seq ?_
    refine WC.block ?_
    refine WC.seq ?_
    refine WC.region ?_
    obtain ⟨h7826, hl7824⟩ := as_some hl7824
    refine seg 2 [.v (.slice ((H6217 x7818.toNat 0).1) ((rdD t6210 x7818 z_Row).Cells).length ((H6217 x7818.toNat 0).2)), .v (iv (((rdD t6210 x7818 z_Row).South).e0)), .v (iv (((rdD t6210 x7818 z_Row).South).e1)), .v (iv (((rdD t6210 x7818 z_Row).South).e2)), .v (iv (((rdD t6210 x7818 z_Row).South).e3)), .v (iv (((rdD t6210 x7818 z_Row).South).e4)), .v (iv (((rdD t6210 x7818 z_Row).South).e5)), .v (iv (((rdD t6210 x7818 z_Row).South).e6)), .v (iv (((rdD t6210 x7818 z_Row).South).e7)), .v (iv (((rdD t6210 x7818 z_Row).North).e0)), .v (iv (((rdD t6210 x7818 z_Row).North).e1)), .v (iv (((rdD t6210 x7818 z_Row).North).e2)), .v (iv (((rdD t6210 x7818 z_Row).North).e3)), .v (iv (((rdD t6210 x7818 z_Row).North).e4)), .v (iv (((rdD t6210 x7818 z_Row).North).e5)), .v (iv (((rdD t6210 x7818 z_Row).North).e6)), .v (iv (((rdD t6210 x7818 z_Row).North).e7)), .v (iv ((rdD t6210 x7818 z_Row).West)), .v (iv ((rdD t6210 x7818 z_Row).East))] [2, 6, 8, 9, 10, 26, 27, 28, 31] [(2, (iv p2)), (6, (pt g6032)), (8, (.slice A6215 t6210.length c6216)), (9, (.map (some g6218))), (10, (pt g6222)), (26, (.slice A6215 t6210.length c6216)), (27, (iv (t6210.length : Int))), (28, (iv x7818)), (31, (.agg #[(.slice ((H6217 x7818.toNat 0).1) ((rdD t6210 x7818 z_Row).Cells).length ((H6217 x7818.toNat 0).2)), (iv (((rdD t6210 x7818 z_Row).South).e0)), (iv (((rdD t6210 x7818 z_Row).South).e1)), (iv (((rdD t6210 x7818 z_Row).South).e2)), (iv (((rdD t6210 x7818 z_Row).South).e3)), (iv (((rdD t6210 x7818 z_Row).South).e4)), (iv (((rdD t6210 x7818 z_Row).South).e5)), (iv (((rdD t6210 x7818 z_Row).South).e6)), (iv (((rdD t6210 x7818 z_Row).South).e7)), (iv (((rdD t6210 x7818 z_Row).North).e0)), (iv (((rdD t6210 x7818 z_Row).North).e1)), (iv (((rdD t6210 x7818 z_Row).North).e2)), (iv (((rdD t6210 x7818 z_Row).North).e3)), (iv (((rdD t6210 x7818 z_Row).North).e4)), (iv (((rdD t6210 x7818 z_Row).North).e5)), (iv (((rdD t6210 x7818 z_Row).North).e6)), (iv (((rdD t6210 x7818 z_Row).North).e7)), (iv ((rdD t6210 x7818 z_Row).West)), (iv ((rdD t6210 x7818 z_Row).East))]))] [.idx A6215 x7818 t6210.length, .cell ((adr A6215).add ((x7818).toNat * 19)) (.slice ((H6217 x7818.toNat 0).1) ((rdD t6210 x7818 z_Row).Cells).length ((H6217 x7818.toNat 0).2)), .cell (((adr A6215).add ((x7818).toNat * 19)).add 1) (iv (((rdD t6210 x7818 z_Row).South).e0)), .cell (((adr A6215).add ((x7818).toNat * 19)).add 2) (iv (((rdD t6210 x7818 z_Row).South).e1)), .cell (((adr A6215).add ((x7818).toNat * 19)).add 3) (iv (((rdD t6210 x7818 z_Row).South).e2)), .cell (((adr A6215).add ((x7818).toNat * 19)).add 4) (iv (((rdD t6210 x7818 z_Row).South).e3)), .cell (((adr A6215).add ((x7818).toNat * 19)).add 5) (iv (((rdD t6210 x7818 z_Row).South).e4)), .cell (((adr A6215).add ((x7818).toNat * 19)).add 6) (iv (((rdD t6210 x7818 z_Row).South).e5)), .cell (((adr A6215).add ((x7818).toNat * 19)).add 7) (iv (((rdD t6210 x7818 z_Row).South).e6)), .cell (((adr A6215).add ((x7818).toNat * 19)).add 8) (iv (((rdD t6210 x7818 z_Row).South).e7)), .cell (((adr A6215).add ((x7818).toNat * 19)).add 9) (iv (((rdD t6210 x7818 z_Row).North).e0)), .cell (((adr A6215).add ((x7818).toNat * 19)).add 10) (iv (((rdD t6210 x7818 z_Row).North).e1)), .cell (((adr A6215).add ((x7818).toNat * 19)).add 11) (iv (((rdD t6210 x7818 z_Row).North).e2)), .cell (((adr A6215).add ((x7818).toNat * 19)).add 12) (iv (((rdD t6210 x7818 z_Row).North).e3)), .cell (((adr A6215).add ((x7818).toNat * 19)).add 13) (iv (((rdD t6210 x7818 z_Row).North).e4)), .cell (((adr A6215).add ((x7818).toNat * 19)).add 14) (iv (((rdD t6210 x7818 z_Row).North).e5)), .cell (((adr A6215).add ((x7818).toNat * 19)).add 15) (iv (((rdD t6210 x7818 z_Row).North).e6)), .cell (((adr A6215).add ((x7818).toNat * 19)).add 16) (iv (((rdD t6210 x7818 z_Row).North).e7)), .cell (((adr A6215).add ((x7818).toNat * 19)).add 17) (iv ((rdD t6210 x7818 z_Row).West)), .cell (((adr A6215).add ((x7818).toNat * 19)).add 18) (iv ((rdD t6210 x7818 z_Row).East))] (fun fb => by kernel_rfl) rfl ⟨nrow_adr (rowO.rd (hS7823.own 1).1) h7826.1 h7826.2, nrow_cell (rowO.rd (hS7823.own 1).1) z_Row h7826.1 h7826.2 0 rfl, nrow_cell (rowO.rd (hS7823.own 1).1) z_Row h7826.1 h7826.2 1 rfl, nrow_cell (rowO.rd (hS7823.own 1).1) z_Row h7826.1 h7826.2 2 rfl, nrow_cell (rowO.rd (hS7823.own 1).1) z_Row h7826.1 h7826.2 3 rfl, nrow_cell (rowO.rd (hS7823.own 1).1) z_Row h7826.1 h7826.2 4 rfl, nrow_cell (rowO.rd (hS7823.own 1).1) z_Row h7826.1 h7826.2 5 rfl, nrow_cell (rowO.rd (hS7823.own 1).1) z_Row h7826.1 h7826.2 6 rfl, nrow_cell (rowO.rd (hS7823.own 1).1) z_Row h7826.1 h7826.2 7 rfl, nrow_cell (rowO.rd (hS7823.own 1).1) z_Row h7826.1 h7826.2 8 rfl, nrow_cell (rowO.rd (hS7823.own 1).1) z_Row h7826.1 h7826.2 9 rfl, nrow_cell (rowO.rd (hS7823.own 1).1) z_Row h7826.1 h7826.2 10 rfl, nrow_cell (rowO.rd (hS7823.own 1).1) z_Row h7826.1 h7826.2 11 rfl, nrow_cell (rowO.rd (hS7823.own 1).1) z_Row h7826.1 h7826.2 12 rfl, nrow_cell (rowO.rd (hS7823.own 1).1) z_Row h7826.1 h7826.2 13 rfl, nrow_cell (rowO.rd (hS7823.own 1).1) z_Row h7826.1 h7826.2 14 rfl, nrow_cell (rowO.rd (hS7823.own 1).1) z_Row h7826.1 h7826.2 15 rfl, nrow_cell (rowO.rd (hS7823.own 1).1) z_Row h7826.1 h7826.2 16 rfl, nrow_cell (rowO.rd (hS7823.own 1).1) z_Row h7826.1 h7826.2 17 rfl, nrow_cell (rowO.rd (hS7823.own 1).1) z_Row h7826.1 h7826.2 18 rfl, trivial⟩ ?_
    refine WL.new hS7823 12 [] (fun g => (.pointer (some ⟨g, 0, none⟩))) (.cells #[(.slice none 0 0), (iv 0), (iv 0), (iv 0), (iv 0), (iv 0), (iv 0), (iv 0), (iv 0), (iv 0), (iv 0), (iv 0), (iv 0), (iv 0), (iv 0), (iv 0), (iv 0), (iv 0), (iv 0)] 88 (0, 0)) [] (fun fb g => by kernel_rfl) trivial (fun g7827 w7828 hS7829 => ?_)
    refine ⟨trivial, ?_⟩
    refine WL.store hS7829 0 rfl [(0, (.slice ((H6217 x7818.toNat 0).1) ((rdD t6210 x7818 z_Row).Cells).length ((H6217 x7818.toNat 0).2))), (1, (iv (((rdD t6210 x7818 z_Row).South).e0))), (2, (iv (((rdD t6210 x7818 z_Row).South).e1))), (3, (iv (((rdD t6210 x7818 z_Row).South).e2))), (4, (iv (((rdD t6210 x7818 z_Row).South).e3))), (5, (iv (((rdD t6210 x7818 z_Row).South).e4))), (6, (iv (((rdD t6210 x7818 z_Row).South).e5))), (7, (iv (((rdD t6210 x7818 z_Row).South).e6))), (8, (iv (((rdD t6210 x7818 z_Row).South).e7))), (9, (iv (((rdD t6210 x7818 z_Row).North).e0))), (10, (iv (((rdD t6210 x7818 z_Row).North).e1))), (11, (iv (((rdD t6210 x7818 z_Row).North).e2))), (12, (iv (((rdD t6210 x7818 z_Row).North).e3))), (13, (iv (((rdD t6210 x7818 z_Row).North).e4))), (14, (iv (((rdD t6210 x7818 z_Row).North).e5))), (15, (iv (((rdD t6210 x7818 z_Row).North).e6))), (16, (iv (((rdD t6210 x7818 z_Row).North).e7))), (17, (iv ((rdD t6210 x7818 z_Row).West))), (18, (iv ((rdD t6210 x7818 z_Row).East)))] #[(.slice ((H6217 x7818.toNat 0).1) ((rdD t6210 x7818 z_Row).Cells).length ((H6217 x7818.toNat 0).2)), (iv (((rdD t6210 x7818 z_Row).South).e0)), (iv (((rdD t6210 x7818 z_Row).South).e1)), (iv (((rdD t6210 x7818 z_Row).South).e2)), (iv (((rdD t6210 x7818 z_Row).South).e3)), (iv (((rdD t6210 x7818 z_Row).South).e4)), (iv (((rdD t6210 x7818 z_Row).South).e5)), (iv (((rdD t6210 x7818 z_Row).South).e6)), (iv (((rdD t6210 x7818 z_Row).South).e7)), (iv (((rdD t6210 x7818 z_Row).North).e0)), (iv (((rdD t6210 x7818 z_Row).North).e1)), (iv (((rdD t6210 x7818 z_Row).North).e2)), (iv (((rdD t6210 x7818 z_Row).North).e3)), (iv (((rdD t6210 x7818 z_Row).North).e4)), (iv (((rdD t6210 x7818 z_Row).North).e5)), (iv (((rdD t6210 x7818 z_Row).North).e6)), (iv (((rdD t6210 x7818 z_Row).North).e7)), (iv ((rdD t6210 x7818 z_Row).West)), (iv ((rdD t6210 x7818 z_Row).East))] (fun fb => by kernel_rfl) (by kernel_rfl) (by kernel_rfl) [1, 2, 3, 4, 5] (by decide) (by decide) (fun w7831 hS7832 => ?_)
    refine ⟨trivial, ?_⟩
    refine WL.done rfl ?_
    refine WX.next ?_
    refine WC.seq ?_
    refine WC.region ?_
    refine seg 3 [.v (iv (((rdD t6210 x7818 z_Row).South).e0)), .v (iv (((rdD t6210 x7818 z_Row).South).e1)), .v (iv (((rdD t6210 x7818 z_Row).South).e2)), .v (iv (((rdD t6210 x7818 z_Row).South).e3)), .v (iv (((rdD t6210 x7818 z_Row).South).e4)), .v (iv (((rdD t6210 x7818 z_Row).South).e5)), .v (iv (((rdD t6210 x7818 z_Row).South).e6)), .v (iv (((rdD t6210 x7818 z_Row).South).e7))] [2, 6, 8, 9, 10, 12, 26, 27, 28, 33, 35] [(2, (iv p2)), (6, (pt g6032)), (8, (.slice A6215 t6210.length c6216)), (9, (.map (some g6218))), (10, (pt g6222)), (12, (pt g7827)), (26, (.slice A6215 t6210.length c6216)), (27, (iv (t6210.length : Int))), (28, (iv x7818)), (33, (.map (some g6218))), (35, (.agg #[(iv (((rdD t6210 x7818 z_Row).South).e0)), (iv (((rdD t6210 x7818 z_Row).South).e1)), (iv (((rdD t6210 x7818 z_Row).South).e2)), (iv (((rdD t6210 x7818 z_Row).South).e3)), (iv (((rdD t6210 x7818 z_Row).South).e4)), (iv (((rdD t6210 x7818 z_Row).South).e5)), (iv (((rdD t6210 x7818 z_Row).South).e6)), (iv (((rdD t6210 x7818 z_Row).South).e7))]))] [.cell ⟨g7827, 1, none⟩ (iv (((rdD t6210 x7818 z_Row).South).e0)), .cell ⟨g7827, 2, none⟩ (iv (((rdD t6210 x7818 z_Row).South).e1)), .cell ⟨g7827, 3, none⟩ (iv (((rdD t6210 x7818 z_Row).South).e2)), .cell ⟨g7827, 4, none⟩ (iv (((rdD t6210 x7818 z_Row).South).e3)), .cell ⟨g7827, 5, none⟩ (iv (((rdD t6210 x7818 z_Row).South).e4)), .cell ⟨g7827, 6, none⟩ (iv (((rdD t6210 x7818 z_Row).South).e5)), .cell ⟨g7827, 7, none⟩ (iv (((rdD t6210 x7818 z_Row).South).e6)), .cell ⟨g7827, 8, none⟩ (iv (((rdD t6210 x7818 z_Row).South).e7))] (fun fb => by kernel_rfl) rfl ⟨hS7832.cell 0 rfl 1 rfl, hS7832.cell 0 rfl 2 rfl, hS7832.cell 0 rfl 3 rfl, hS7832.cell 0 rfl 4 rfl, hS7832.cell 0 rfl 5 rfl, hS7832.cell 0 rfl 6 rfl, hS7832.cell 0 rfl 7 rfl, hS7832.cell 0 rfl 8 rfl, trivial⟩ ?_
    refine WL.lookup (hS7832.own 4).1 ((rdD t6210 x7818 z_Row).South) (d := 36) (c := true) (t := 104) (kT := 86) (eT := 80) (z := zHM) (kE := (aggI ints_A8_Int)) (vE := slV) (l := K7817) (.tuple #[(.slice ((mget ((rdD t6210 x7818 z_Row).South) zHM K7817).1.1) (mget ((rdD t6210 x7818 z_Row).South) [] l7816).length ((mget ((rdD t6210 x7818 z_Row).South) zHM K7817).1.2.1)), (.bool (mhas ((rdD t6210 x7818 z_Row).South) l7816))]) (fun fb => by kernel_rfl) torus_find_key86 (by kernel_rfl) (fun _ => by kernel_rfl) (by rw [mhas_unK, (knestO.eq (hS7832.rd 0))]; rw [slV_get _ _ (knestO.eq (hS7832.rd 0))]; rfl) ?_
    refine ⟨trivial, ?_⟩
    have hS7833 : St NoS w w7831 [rowR (encMap A8_Int Bool) ((mget ((rdD t6210 x7818 z_Row).South) zHM K7817).1.1) ((mget ((rdD t6210 x7818 z_Row).South) zHM K7817).1.2.1) (tag ((mget ((rdD t6210 x7818 z_Row).South) zHM K7817).1.2.2) (mget ((rdD t6210 x7818 z_Row).South) [] l7816)), knestO (aggI ints_A8_Int) vB K7817 l7816, knestO (aggI ints_A8_Int) vB ([] : List (A8_Int × (HM × List (Option (List (A8_Int × Bool)))))) ([] : List (A8_Int × List (Option (List (A8_Int × Bool))))), rowR enc_Tile A_p0 c_p0 p0] [blk g7827 (.cells #[(.slice ((H6217 x7818.toNat 0).1) ((rdD t6210 x7818 z_Row).Cells).length ((H6217 x7818.toNat 0).2)), (iv (((rdD t6210 x7818 z_Row).South).e0)), (iv (((rdD t6210 x7818 z_Row).South).e1)), (iv (((rdD t6210 x7818 z_Row).South).e2)), (iv (((rdD t6210 x7818 z_Row).South).e3)), (iv (((rdD t6210 x7818 z_Row).South).e4)), (iv (((rdD t6210 x7818 z_Row).South).e5)), (iv (((rdD t6210 x7818 z_Row).South).e6)), (iv (((rdD t6210 x7818 z_Row).South).e7)), (iv (((rdD t6210 x7818 z_Row).North).e0)), (iv (((rdD t6210 x7818 z_Row).North).e1)), (iv (((rdD t6210 x7818 z_Row).North).e2)), (iv (((rdD t6210 x7818 z_Row).North).e3)), (iv (((rdD t6210 x7818 z_Row).North).e4)), (iv (((rdD t6210 x7818 z_Row).North).e5)), (iv (((rdD t6210 x7818 z_Row).North).e6)), (iv (((rdD t6210 x7818 z_Row).North).e7)), (iv ((rdD t6210 x7818 z_Row).West)), (iv ((rdD t6210 x7818 z_Row).East))] 88 (0, 0)), blk g6032 (.cells #[(iv 0), (iv 0), (.slice none 0 0)] 38 (0, 0)), rowO 88 encN_Row A6215 c6216 (tag H6217 t6210), poolO [nestO subN_Row H6217 t6210], blk g6218 (mapObj (aggI ints_A8_Int) slV K7817), blk g6222 (.cells #[(iv p1), (iv p2), (.slice none 0 0)] 38 (0, 0))] := hS7832.addR _ (knestO.row (hS7832.rdL 0) ((rdD t6210 x7818 z_Row).South))
    have hS7834 : St NoS w w7831 [mapsO (aggI ints_A8_Int) vB ((mget ((rdD t6210 x7818 z_Row).South) zHM K7817).1.2.2) (mget ((rdD t6210 x7818 z_Row).South) [] l7816), rowR (encMap A8_Int Bool) ((mget ((rdD t6210 x7818 z_Row).South) zHM K7817).1.1) ((mget ((rdD t6210 x7818 z_Row).South) zHM K7817).1.2.1) (tag ((mget ((rdD t6210 x7818 z_Row).South) zHM K7817).1.2.2) (mget ((rdD t6210 x7818 z_Row).South) [] l7816)), knestO (aggI ints_A8_Int) vB K7817 l7816, knestO (aggI ints_A8_Int) vB ([] : List (A8_Int × (HM × List (Option (List (A8_Int × Bool)))))) ([] : List (A8_Int × List (Option (List (A8_Int × Bool))))), rowR enc_Tile A_p0 c_p0 p0] [blk g7827 (.cells #[(.slice ((H6217 x7818.toNat 0).1) ((rdD t6210 x7818 z_Row).Cells).length ((H6217 x7818.toNat 0).2)), (iv (((rdD t6210 x7818 z_Row).South).e0)), (iv (((rdD t6210 x7818 z_Row).South).e1)), (iv (((rdD t6210 x7818 z_Row).South).e2)), (iv (((rdD t6210 x7818 z_Row).South).e3)), (iv (((rdD t6210 x7818 z_Row).South).e4)), (iv (((rdD t6210 x7818 z_Row).South).e5)), (iv (((rdD t6210 x7818 z_Row).South).e6)), (iv (((rdD t6210 x7818 z_Row).South).e7)), (iv (((rdD t6210 x7818 z_Row).North).e0)), (iv (((rdD t6210 x7818 z_Row).North).e1)), (iv (((rdD t6210 x7818 z_Row).North).e2)), (iv (((rdD t6210 x7818 z_Row).North).e3)), (iv (((rdD t6210 x7818 z_Row).North).e4)), (iv (((rdD t6210 x7818 z_Row).North).e5)), (iv (((rdD t6210 x7818 z_Row).North).e6)), (iv (((rdD t6210 x7818 z_Row).North).e7)), (iv ((rdD t6210 x7818 z_Row).West)), (iv ((rdD t6210 x7818 z_Row).East))] 88 (0, 0)), blk g6032 (.cells #[(iv 0), (iv 0), (.slice none 0 0)] 38 (0, 0)), rowO 88 encN_Row A6215 c6216 (tag H6217 t6210), poolO [nestO subN_Row H6217 t6210], blk g6218 (mapObj (aggI ints_A8_Int) slV K7817), blk g6222 (.cells #[(iv p1), (iv p2), (.slice none 0 0)] 38 (0, 0))] := hS7833.addR _ (knestO.maps (hS7833.rdL 1) ((rdD t6210 x7818 z_Row).South))
    refine seg 9 [] [2, 6, 8, 9, 10, 12, 13, 14, 26, 27, 28] [(2, (iv p2)), (6, (pt g6032)), (8, (.slice A6215 t6210.length c6216)), (9, (.map (some g6218))), (10, (pt g6222)), (12, (pt g7827)), (13, (.slice ((mget ((rdD t6210 x7818 z_Row).South) zHM K7817).1.1) (mget ((rdD t6210 x7818 z_Row).South) [] l7816).length ((mget ((rdD t6210 x7818 z_Row).South) zHM K7817).1.2.1))), (14, (.bool (mhas ((rdD t6210 x7818 z_Row).South) l7816))), (26, (.slice A6215 t6210.length c6216)), (27, (iv (t6210.length : Int))), (28, (iv x7818))] [] (fun fb => by kernel_rfl) rfl trivial ?_
    refine WL.done rfl ?_
    refine WX.next ?_
    refine WC.seq ?_
    refine WC.seq ?_
    refine WC.region ?_
    refine seg 2 [] [2, 6, 8, 9, 10, 12, 13, 26, 27, 28, 40] [(2, (iv p2)), (6, (pt g6032)), (8, (.slice A6215 t6210.length c6216)), (9, (.map (some g6218))), (10, (pt g6222)), (12, (pt g7827)), (13, (.slice ((mget ((rdD t6210 x7818 z_Row).South) zHM K7817).1.1) (mget ((rdD t6210 x7818 z_Row).South) [] l7816).length ((mget ((rdD t6210 x7818 z_Row).South) zHM K7817).1.2.1))), (26, (.slice A6215 t6210.length c6216)), (27, (iv (t6210.length : Int))), (28, (iv x7818)), (40, (.bool (!(mhas ((rdD t6210 x7818 z_Row).South) l7816))))] [] (fun fb => by kernel_rfl) rfl trivial ?_
    refine WL.done rfl ?_
    refine WX.next ?_
    obtain ⟨x7855, hx7856, hl7824⟩ := bind_some hl7824
    refine WC.cutN (T := ((List (A8_Int × List (Option (List (A8_Int × Bool))))) × (List (Option (List (A8_Int × Bool))))) × (List (A8_Int × (HM × List (Option (List (A8_Int × Bool)))))) × (Option Addr) × Nat × (Nat → Nat)) (fun t => [(2, (iv p2)), (6, (pt g6032)), (8, (.slice A6215 t6210.length c6216)), (9, (.map (some g6218))), (10, (pt g6222)), (12, (pt g7827)), (13, (.slice t.2.2.1 t.1.2.length t.2.2.2.1)), (26, (.slice A6215 t6210.length c6216)), (27, (iv (t6210.length : Int))), (28, (iv x7818))]) (fun t w1 => St NoS w w1 [knestO (aggI ints_A8_Int) vB t.2.1 t.1.1, rowR (encMap A8_Int Bool) t.2.2.1 t.2.2.2.1 (tag t.2.2.2.2 t.1.2), mapsO (aggI ints_A8_Int) vB t.2.2.2.2 t.1.2, mapsO (aggI ints_A8_Int) vB ((mget ((rdD t6210 x7818 z_Row).South) zHM K7817).1.2.2) (mget ((rdD t6210 x7818 z_Row).South) [] l7816), rowR (encMap A8_Int Bool) ((mget ((rdD t6210 x7818 z_Row).South) zHM K7817).1.1) ((mget ((rdD t6210 x7818 z_Row).South) zHM K7817).1.2.1) (tag ((mget ((rdD t6210 x7818 z_Row).South) zHM K7817).1.2.2) (mget ((rdD t6210 x7818 z_Row).South) [] l7816)), knestO (aggI ints_A8_Int) vB K7817 l7816, knestO (aggI ints_A8_Int) vB ([] : List (A8_Int × (HM × List (Option (List (A8_Int × Bool)))))) ([] : List (A8_Int × List (Option (List (A8_Int × Bool))))), rowR enc_Tile A_p0 c_p0 p0] [blk g6032 (.cells #[(iv 0), (iv 0), (.slice none 0 0)] 38 (0, 0)), rowO 88 encN_Row A6215 c6216 (tag H6217 t6210), poolO [nestO subN_Row H6217 t6210], blk g6218 (mapObj (aggI ints_A8_Int) slV t.2.1), blk g6222 (.cells #[(iv p1), (iv p2), (.slice none 0 0)] 38 (0, 0)), blk g7827 (.cells #[(.slice ((H6217 x7818.toNat 0).1) ((rdD t6210 x7818 z_Row).Cells).length ((H6217 x7818.toNat 0).2)), (iv (((rdD t6210 x7818 z_Row).South).e0)), (iv (((rdD t6210 x7818 z_Row).South).e1)), (iv (((rdD t6210 x7818 z_Row).South).e2)), (iv (((rdD t6210 x7818 z_Row).South).e3)), (iv (((rdD t6210 x7818 z_Row).South).e4)), (iv (((rdD t6210 x7818 z_Row).South).e5)), (iv (((rdD t6210 x7818 z_Row).South).e6)), (iv (((rdD t6210 x7818 z_Row).South).e7)), (iv (((rdD t6210 x7818 z_Row).North).e0)), (iv (((rdD t6210 x7818 z_Row).North).e1)), (iv (((rdD t6210 x7818 z_Row).North).e2)), (iv (((rdD t6210 x7818 z_Row).North).e3)), (iv (((rdD t6210 x7818 z_Row).North).e4)), (iv (((rdD t6210 x7818 z_Row).North).e5)), (iv (((rdD t6210 x7818 z_Row).North).e6)), (iv (((rdD t6210 x7818 z_Row).North).e7)), (iv ((rdD t6210 x7818 z_Row).West)), (iv ((rdD t6210 x7818 z_Row).East))] 88 (0, 0))] ∧ x7855 = t.1) (fun Kx7855 => ?_) ?_
    ·
     rcases br_some hx7856 with ⟨h7857, hx7856⟩ | ⟨h7857, hx7856⟩
     ·refine WC.condT2 (fun fb => by kernel_rfl) h7857 ?_
      refine WC.seq ?_
      refine WC.region ?_
      refine seg 5 [.v (iv (((rdD t6210 x7818 z_Row).South).e0)), .v (iv (((rdD t6210 x7818 z_Row).South).e1)), .v (iv (((rdD t6210 x7818 z_Row).South).e2)), .v (iv (((rdD t6210 x7818 z_Row).South).e3)), .v (iv (((rdD t6210 x7818 z_Row).South).e4)), .v (iv (((rdD t6210 x7818 z_Row).South).e5)), .v (iv (((rdD t6210 x7818 z_Row).South).e6)), .v (iv (((rdD t6210 x7818 z_Row).South).e7))] [2, 6, 8, 9, 10, 12, 26, 27, 28, 41, 43, 45] [(2, (iv p2)), (6, (pt g6032)), (8, (.slice A6215 t6210.length c6216)), (9, (.map (some g6218))), (10, (pt g6222)), (12, (pt g7827)), (26, (.slice A6215 t6210.length c6216)), (27, (iv (t6210.length : Int))), (28, (iv x7818)), (41, (.slice A6215 t6210.length c6216)), (43, (.agg #[(iv (((rdD t6210 x7818 z_Row).South).e0)), (iv (((rdD t6210 x7818 z_Row).South).e1)), (iv (((rdD t6210 x7818 z_Row).South).e2)), (iv (((rdD t6210 x7818 z_Row).South).e3)), (iv (((rdD t6210 x7818 z_Row).South).e4)), (iv (((rdD t6210 x7818 z_Row).South).e5)), (iv (((rdD t6210 x7818 z_Row).South).e6)), (iv (((rdD t6210 x7818 z_Row).South).e7))])), (45, (iv (w64 (p2 - 1))))] [.cell ⟨g7827, 1, none⟩ (iv (((rdD t6210 x7818 z_Row).South).e0)), .cell ⟨g7827, 2, none⟩ (iv (((rdD t6210 x7818 z_Row).South).e1)), .cell ⟨g7827, 3, none⟩ (iv (((rdD t6210 x7818 z_Row).South).e2)), .cell ⟨g7827, 4, none⟩ (iv (((rdD t6210 x7818 z_Row).South).e3)), .cell ⟨g7827, 5, none⟩ (iv (((rdD t6210 x7818 z_Row).South).e4)), .cell ⟨g7827, 6, none⟩ (iv (((rdD t6210 x7818 z_Row).South).e5)), .cell ⟨g7827, 7, none⟩ (iv (((rdD t6210 x7818 z_Row).South).e6)), .cell ⟨g7827, 8, none⟩ (iv (((rdD t6210 x7818 z_Row).South).e7))] (fun fb => by kernel_rfl) rfl ⟨hS7834.cell 0 rfl 1 rfl, hS7834.cell 0 rfl 2 rfl, hS7834.cell 0 rfl 3 rfl, hS7834.cell 0 rfl 4 rfl, hS7834.cell 0 rfl 5 rfl, hS7834.cell 0 rfl 6 rfl, hS7834.cell 0 rfl 7 rfl, hS7834.cell 0 rfl 8 rfl, trivial⟩ ?_
      obtain ⟨t7858, ht7859, hx7856⟩ := bind_some hx7856
      refine WL.call (some 46) 63 #[(.slice A6215 t6210.length c6216), (.agg #[(iv (((rdD t6210 x7818 z_Row).South).e0)), (iv (((rdD t6210 x7818 z_Row).South).e1)), (iv (((rdD t6210 x7818 z_Row).South).e2)), (iv (((rdD t6210 x7818 z_Row).South).e3)), (iv (((rdD t6210 x7818 z_Row).South).e4)), (iv (((rdD t6210 x7818 z_Row).South).e5)), (iv (((rdD t6210 x7818 z_Row).South).e6)), (iv (((rdD t6210 x7818 z_Row).South).e7))]), (iv (w64 (p2 - 1)))] (fun fb => by kernel_rfl) (torus_back_calls _ t6210 ((rdD t6210 x7818 z_Row).South) (w64 (p2 - 1)) A6215 c6216 H6217 t7858 _ (hS7834.ow 2).ofO (poolO.ro (hS7834.ow 3) 0) ht7859) (fun v w7860 hR7861 => ?_)
      obtain ⟨A7863, c7864, H7865, rfl, hk_⟩ := hR7861
      have hS7862 : St NoS w w7860 [mapsO (aggI ints_A8_Int) vB ((mget ((rdD t6210 x7818 z_Row).South) zHM K7817).1.2.2) (mget ((rdD t6210 x7818 z_Row).South) [] l7816), rowR (encMap A8_Int Bool) ((mget ((rdD t6210 x7818 z_Row).South) zHM K7817).1.1) ((mget ((rdD t6210 x7818 z_Row).South) zHM K7817).1.2.1) (tag ((mget ((rdD t6210 x7818 z_Row).South) zHM K7817).1.2.2) (mget ((rdD t6210 x7818 z_Row).South) [] l7816)), knestO (aggI ints_A8_Int) vB K7817 l7816, knestO (aggI ints_A8_Int) vB ([] : List (A8_Int × (HM × List (Option (List (A8_Int × Bool)))))) ([] : List (A8_Int × List (Option (List (A8_Int × Bool))))), rowR enc_Tile A_p0 c_p0 p0] [rowO 81 (encMap A8_Int Bool) A7863 c7864 (tag H7865 t7858), mapsO (aggI ints_A8_Int) vB H7865 t7858, blk g7827 (.cells #[(.slice ((H6217 x7818.toNat 0).1) ((rdD t6210 x7818 z_Row).Cells).length ((H6217 x7818.toNat 0).2)), (iv (((rdD t6210 x7818 z_Row).South).e0)), (iv (((rdD t6210 x7818 z_Row).South).e1)), (iv (((rdD t6210 x7818 z_Row).South).e2)), (iv (((rdD t6210 x7818 z_Row).South).e3)), (iv (((rdD t6210 x7818 z_Row).South).e4)), (iv (((rdD t6210 x7818 z_Row).South).e5)), (iv (((rdD t6210 x7818 z_Row).South).e6)), (iv (((rdD t6210 x7818 z_Row).South).e7)), (iv (((rdD t6210 x7818 z_Row).North).e0)), (iv (((rdD t6210 x7818 z_Row).North).e1)), (iv (((rdD t6210 x7818 z_Row).North).e2)), (iv (((rdD t6210 x7818 z_Row).North).e3)), (iv (((rdD t6210 x7818 z_Row).North).e4)), (iv (((rdD t6210 x7818 z_Row).North).e5)), (iv (((rdD t6210 x7818 z_Row).North).e6)), (iv (((rdD t6210 x7818 z_Row).North).e7)), (iv ((rdD t6210 x7818 z_Row).West)), (iv ((rdD t6210 x7818 z_Row).East))] 88 (0, 0)), blk g6032 (.cells #[(iv 0), (iv 0), (.slice none 0 0)] 38 (0, 0)), rowO 88 encN_Row A6215 c6216 (tag H6217 t6210), poolO [nestO subN_Row H6217 t6210], blk g6218 (mapObj (aggI ints_A8_Int) slV K7817), blk g6222 (.cells #[(iv p1), (iv p2), (.slice none 0 0)] 38 (0, 0))] := hS7834.call hk_ [] [0, 1, 2, 3, 4, 5] (fun g hg => hg.elim) (by simp) (by decide)
      refine ⟨trivial, ?_⟩
      refine seg 7 [] [2, 6, 8, 9, 10, 12, 13, 26, 27, 28] [(2, (iv p2)), (6, (pt g6032)), (8, (.slice A6215 t6210.length c6216)), (9, (.map (some g6218))), (10, (pt g6222)), (12, (pt g7827)), (13, (.slice A7863 t7858.length c7864)), (26, (.slice A6215 t6210.length c6216)), (27, (iv (t6210.length : Int))), (28, (iv x7818))] [] (fun fb => by kernel_rfl) rfl trivial ?_
      refine WL.done rfl ?_
      refine WX.next ?_
      refine WC.region ?_
      refine seg 4 [.v (iv (((rdD t6210 x7818 z_Row).South).e0)), .v (iv (((rdD t6210 x7818 z_Row).South).e1)), .v (iv (((rdD t6210 x7818 z_Row).South).e2)), .v (iv (((rdD t6210 x7818 z_Row).South).e3)), .v (iv (((rdD t6210 x7818 z_Row).South).e4)), .v (iv (((rdD t6210 x7818 z_Row).South).e5)), .v (iv (((rdD t6210 x7818 z_Row).South).e6)), .v (iv (((rdD t6210 x7818 z_Row).South).e7))] [2, 6, 8, 9, 10, 12, 13, 26, 27, 28, 47, 49, 50] [(2, (iv p2)), (6, (pt g6032)), (8, (.slice A6215 t6210.length c6216)), (9, (.map (some g6218))), (10, (pt g6222)), (12, (pt g7827)), (13, (.slice A7863 t7858.length c7864)), (26, (.slice A6215 t6210.length c6216)), (27, (iv (t6210.length : Int))), (28, (iv x7818)), (47, (.map (some g6218))), (49, (.agg #[(iv (((rdD t6210 x7818 z_Row).South).e0)), (iv (((rdD t6210 x7818 z_Row).South).e1)), (iv (((rdD t6210 x7818 z_Row).South).e2)), (iv (((rdD t6210 x7818 z_Row).South).e3)), (iv (((rdD t6210 x7818 z_Row).South).e4)), (iv (((rdD t6210 x7818 z_Row).South).e5)), (iv (((rdD t6210 x7818 z_Row).South).e6)), (iv (((rdD t6210 x7818 z_Row).South).e7))])), (50, (.slice A7863 t7858.length c7864))] [.cell ⟨g7827, 1, none⟩ (iv (((rdD t6210 x7818 z_Row).South).e0)), .cell ⟨g7827, 2, none⟩ (iv (((rdD t6210 x7818 z_Row).South).e1)), .cell ⟨g7827, 3, none⟩ (iv (((rdD t6210 x7818 z_Row).South).e2)), .cell ⟨g7827, 4, none⟩ (iv (((rdD t6210 x7818 z_Row).South).e3)), .cell ⟨g7827, 5, none⟩ (iv (((rdD t6210 x7818 z_Row).South).e4)), .cell ⟨g7827, 6, none⟩ (iv (((rdD t6210 x7818 z_Row).South).e5)), .cell ⟨g7827, 7, none⟩ (iv (((rdD t6210 x7818 z_Row).South).e6)), .cell ⟨g7827, 8, none⟩ (iv (((rdD t6210 x7818 z_Row).South).e7))] (fun fb => by kernel_rfl) rfl ⟨hS7862.cell 2 rfl 1 rfl, hS7862.cell 2 rfl 2 rfl, hS7862.cell 2 rfl 3 rfl, hS7862.cell 2 rfl 4 rfl, hS7862.cell 2 rfl 5 rfl, hS7862.cell 2 rfl 6 rfl, hS7862.cell 2 rfl 7 rfl, hS7862.cell 2 rfl 8 rfl, trivial⟩ ?_
      have hS7866 : St NoS w w7860 [mapsO (aggI ints_A8_Int) vB H7865 t7858, mapsO (aggI ints_A8_Int) vB ((mget ((rdD t6210 x7818 z_Row).South) zHM K7817).1.2.2) (mget ((rdD t6210 x7818 z_Row).South) [] l7816), rowR (encMap A8_Int Bool) ((mget ((rdD t6210 x7818 z_Row).South) zHM K7817).1.1) ((mget ((rdD t6210 x7818 z_Row).South) zHM K7817).1.2.1) (tag ((mget ((rdD t6210 x7818 z_Row).South) zHM K7817).1.2.2) (mget ((rdD t6210 x7818 z_Row).South) [] l7816)), knestO (aggI ints_A8_Int) vB K7817 l7816, knestO (aggI ints_A8_Int) vB ([] : List (A8_Int × (HM × List (Option (List (A8_Int × Bool)))))) ([] : List (A8_Int × List (Option (List (A8_Int × Bool))))), rowR enc_Tile A_p0 c_p0 p0] [rowO 81 (encMap A8_Int Bool) A7863 c7864 (tag H7865 t7858), blk g7827 (.cells #[(.slice ((H6217 x7818.toNat 0).1) ((rdD t6210 x7818 z_Row).Cells).length ((H6217 x7818.toNat 0).2)), (iv (((rdD t6210 x7818 z_Row).South).e0)), (iv (((rdD t6210 x7818 z_Row).South).e1)), (iv (((rdD t6210 x7818 z_Row).South).e2)), (iv (((rdD t6210 x7818 z_Row).South).e3)), (iv (((rdD t6210 x7818 z_Row).South).e4)), (iv (((rdD t6210 x7818 z_Row).South).e5)), (iv (((rdD t6210 x7818 z_Row).South).e6)), (iv (((rdD t6210 x7818 z_Row).South).e7)), (iv (((rdD t6210 x7818 z_Row).North).e0)), (iv (((rdD t6210 x7818 z_Row).North).e1)), (iv (((rdD t6210 x7818 z_Row).North).e2)), (iv (((rdD t6210 x7818 z_Row).North).e3)), (iv (((rdD t6210 x7818 z_Row).North).e4)), (iv (((rdD t6210 x7818 z_Row).North).e5)), (iv (((rdD t6210 x7818 z_Row).North).e6)), (iv (((rdD t6210 x7818 z_Row).North).e7)), (iv ((rdD t6210 x7818 z_Row).West)), (iv ((rdD t6210 x7818 z_Row).East))] 88 (0, 0)), blk g6032 (.cells #[(iv 0), (iv 0), (.slice none 0 0)] 38 (0, 0)), rowO 88 encN_Row A6215 c6216 (tag H6217 t6210), poolO [nestO subN_Row H6217 t6210], blk g6218 (mapObj (aggI ints_A8_Int) slV K7817), blk g6222 (.cells #[(iv p1), (iv p2), (.slice none 0 0)] 38 (0, 0))] := hS7862.freezeO 1 [0, 2, 3, 4, 5, 6, 7] (by decide) (by decide)
      have hS7867 : St NoS w w7860 [rowR (encMap A8_Int Bool) A7863 c7864 (tag H7865 t7858), mapsO (aggI ints_A8_Int) vB H7865 t7858, mapsO (aggI ints_A8_Int) vB ((mget ((rdD t6210 x7818 z_Row).South) zHM K7817).1.2.2) (mget ((rdD t6210 x7818 z_Row).South) [] l7816), rowR (encMap A8_Int Bool) ((mget ((rdD t6210 x7818 z_Row).South) zHM K7817).1.1) ((mget ((rdD t6210 x7818 z_Row).South) zHM K7817).1.2.1) (tag ((mget ((rdD t6210 x7818 z_Row).South) zHM K7817).1.2.2) (mget ((rdD t6210 x7818 z_Row).South) [] l7816)), knestO (aggI ints_A8_Int) vB K7817 l7816, knestO (aggI ints_A8_Int) vB ([] : List (A8_Int × (HM × List (Option (List (A8_Int × Bool)))))) ([] : List (A8_Int × List (Option (List (A8_Int × Bool))))), rowR enc_Tile A_p0 c_p0 p0] [blk g7827 (.cells #[(.slice ((H6217 x7818.toNat 0).1) ((rdD t6210 x7818 z_Row).Cells).length ((H6217 x7818.toNat 0).2)), (iv (((rdD t6210 x7818 z_Row).South).e0)), (iv (((rdD t6210 x7818 z_Row).South).e1)), (iv (((rdD t6210 x7818 z_Row).South).e2)), (iv (((rdD t6210 x7818 z_Row).South).e3)), (iv (((rdD t6210 x7818 z_Row).South).e4)), (iv (((rdD t6210 x7818 z_Row).South).e5)), (iv (((rdD t6210 x7818 z_Row).South).e6)), (iv (((rdD t6210 x7818 z_Row).South).e7)), (iv (((rdD t6210 x7818 z_Row).North).e0)), (iv (((rdD t6210 x7818 z_Row).North).e1)), (iv (((rdD t6210 x7818 z_Row).North).e2)), (iv (((rdD t6210 x7818 z_Row).North).e3)), (iv (((rdD t6210 x7818 z_Row).North).e4)), (iv (((rdD t6210 x7818 z_Row).North).e5)), (iv (((rdD t6210 x7818 z_Row).North).e6)), (iv (((rdD t6210 x7818 z_Row).North).e7)), (iv ((rdD t6210 x7818 z_Row).West)), (iv ((rdD t6210 x7818 z_Row).East))] 88 (0, 0)), blk g6032 (.cells #[(iv 0), (iv 0), (.slice none 0 0)] 38 (0, 0)), rowO 88 encN_Row A6215 c6216 (tag H6217 t6210), poolO [nestO subN_Row H6217 t6210], blk g6218 (mapObj (aggI ints_A8_Int) slV K7817), blk g6222 (.cells #[(iv p1), (iv p2), (.slice none 0 0)] 38 (0, 0))] := hS7866.freezeRow 0 rfl [1, 2, 3, 4, 5, 6] (by decide) (by decide)
      refine WL.mapput hS7867 4 (t := 104) (kT := 86) (eT := 80) (kE := (aggI ints_A8_Int)) (vE := slV) (l := K7817) rfl ((rdD t6210 x7818 z_Row).South) ((A7863, c7864, H7865), t7858) (fun fb => by kernel_rfl) torus_find_key86 (by kernel_rfl) [0, 1, 2, 3, 5] (by decide) (by decide) (fun w7868 hS7869 => ?_)
      have hS7870 : St NoS w w7868 [knestO (aggI ints_A8_Int) vB (mput ((rdD t6210 x7818 z_Row).South) ((A7863, c7864, H7865), t7858) K7817) (mput ((rdD t6210 x7818 z_Row).South) t7858 l7816), rowR (encMap A8_Int Bool) A7863 c7864 (tag H7865 t7858), mapsO (aggI ints_A8_Int) vB H7865 t7858, mapsO (aggI ints_A8_Int) vB ((mget ((rdD t6210 x7818 z_Row).South) zHM K7817).1.2.2) (mget ((rdD t6210 x7818 z_Row).South) [] l7816), rowR (encMap A8_Int Bool) ((mget ((rdD t6210 x7818 z_Row).South) zHM K7817).1.1) ((mget ((rdD t6210 x7818 z_Row).South) zHM K7817).1.2.1) (tag ((mget ((rdD t6210 x7818 z_Row).South) zHM K7817).1.2.2) (mget ((rdD t6210 x7818 z_Row).South) [] l7816)), knestO (aggI ints_A8_Int) vB K7817 l7816, knestO (aggI ints_A8_Int) vB ([] : List (A8_Int × (HM × List (Option (List (A8_Int × Bool)))))) ([] : List (A8_Int × List (Option (List (A8_Int × Bool))))), rowR enc_Tile A_p0 c_p0 p0] [blk g6218 (mapObj (aggI ints_A8_Int) slV (mput ((rdD t6210 x7818 z_Row).South) ((A7863, c7864, H7865), t7858) K7817)), blk g7827 (.cells #[(.slice ((H6217 x7818.toNat 0).1) ((rdD t6210 x7818 z_Row).Cells).length ((H6217 x7818.toNat 0).2)), (iv (((rdD t6210 x7818 z_Row).South).e0)), (iv (((rdD t6210 x7818 z_Row).South).e1)), (iv (((rdD t6210 x7818 z_Row).South).e2)), (iv (((rdD t6210 x7818 z_Row).South).e3)), (iv (((rdD t6210 x7818 z_Row).South).e4)), (iv (((rdD t6210 x7818 z_Row).South).e5)), (iv (((rdD t6210 x7818 z_Row).South).e6)), (iv (((rdD t6210 x7818 z_Row).South).e7)), (iv (((rdD t6210 x7818 z_Row).North).e0)), (iv (((rdD t6210 x7818 z_Row).North).e1)), (iv (((rdD t6210 x7818 z_Row).North).e2)), (iv (((rdD t6210 x7818 z_Row).North).e3)), (iv (((rdD t6210 x7818 z_Row).North).e4)), (iv (((rdD t6210 x7818 z_Row).North).e5)), (iv (((rdD t6210 x7818 z_Row).North).e6)), (iv (((rdD t6210 x7818 z_Row).North).e7)), (iv ((rdD t6210 x7818 z_Row).West)), (iv ((rdD t6210 x7818 z_Row).East))] 88 (0, 0)), blk g6032 (.cells #[(iv 0), (iv 0), (.slice none 0 0)] 38 (0, 0)), rowO 88 encN_Row A6215 c6216 (tag H6217 t6210), poolO [nestO subN_Row H6217 t6210], blk g6222 (.cells #[(iv p1), (iv p2), (.slice none 0 0)] 38 (0, 0))] := hS7869.addR _ (knestO.put (hS7869.rdL 4) ((rdD t6210 x7818 z_Row).South) (hS7869.rdL 0) (hS7869.rdL 1))
      refine ⟨trivial, ?_⟩
      refine WL.done rfl ?_
      injection hx7856 with hx7856
      exact WX.to Kx7855 ((mput ((rdD t6210 x7818 z_Row).South) t7858 l7816, t7858), mput ((rdD t6210 x7818 z_Row).South) ((A7863, c7864, H7865), t7858) K7817, A7863, c7864, H7865) [2, 6, 8, 9, 10, 12, 13, 26, 27, 28] rfl ⟨(hS7870.subR [0, 1, 2, 3, 4, 5, 6, 7]).sub [2, 3, 4, 0, 5, 1] (by decide), hx7856.symm⟩
     refine WC.condF2 (fun fb => by kernel_rfl) h7857 ?_
     refine WC.skip ?_
     injection hx7856 with hx7856
     exact WX.to Kx7855 ((l7816, (mget ((rdD t6210 x7818 z_Row).South) [] l7816)), K7817, (mget ((rdD t6210 x7818 z_Row).South) zHM K7817).1.1, (mget ((rdD t6210 x7818 z_Row).South) zHM K7817).1.2.1, ((mget ((rdD t6210 x7818 z_Row).South) zHM K7817).1.2.2)) [2, 6, 8, 9, 10, 12, 13, 26, 27, 28] rfl ⟨(hS7834.subR [2, 1, 0, 0, 1, 2, 3, 4]).sub [1, 2, 3, 4, 5, 0] (by decide), hx7856.symm⟩
    rintro ⟨y7874, K7850, A7851, c7852, H7854⟩ w7871 ⟨hS7872, hq7873⟩
    subst hq7873
    refine WX.next ?_
    refine WC.seq ?_
    refine WC.seq ?_
    obtain ⟨h7883, hl7824⟩ := as_some hl7824
    obtain ⟨m7884, hm7885, hl7824⟩ := bind_some hl7824
    refine WC.regionD ([(4, ((adr A7851).add ((w64 (p2 - 1)).toNat * 1)), (.map (some (H7854 (w64 (p2 - 1)).toNat)))), (6, ⟨g7827, 9, none⟩, (iv (((rdD t6210 x7818 z_Row).North).e0))), (6, ⟨g7827, 10, none⟩, (iv (((rdD t6210 x7818 z_Row).North).e1))), (6, ⟨g7827, 11, none⟩, (iv (((rdD t6210 x7818 z_Row).North).e2))), (6, ⟨g7827, 12, none⟩, (iv (((rdD t6210 x7818 z_Row).North).e3))), (6, ⟨g7827, 13, none⟩, (iv (((rdD t6210 x7818 z_Row).North).e4))), (6, ⟨g7827, 14, none⟩, (iv (((rdD t6210 x7818 z_Row).North).e5))), (6, ⟨g7827, 15, none⟩, (iv (((rdD t6210 x7818 z_Row).North).e6))), (6, ⟨g7827, 16, none⟩, (iv (((rdD t6210 x7818 z_Row).North).e7)))], [0, 1, 2, 3, 4, 5, 6, 8], [[], [], [1], [0, 1, 2], [0, 1, 2, 3], [], [5], [0, 1, 2, 3, 4, 5, 6], [0, 1, 2, 3, 4, 5, 6, 7]]) [[0, 1, 2, 3, 4, 5, 6, 7, 8]] (by kernel_rfl) (by kernel_rfl) (NoPanic.seq (NoPanic.seq (NoPanic.block (NoPanic.seq (NoPanic.seq (NoPanic.block (NoPanic.seq (NoPanic.scope (NoPanic.body))))))))) ?_
    have hS7879 := hS7872.drew
    revert hS7879
    generalize World.drew w7871 = w7878
    intro hS7879
    refine ⟨⟨nrow_cell (hS7879.rd 1).1 none h7883.1 h7883.2 0 (mapV_some hm7885), hS7879.cell 5 rfl 9 rfl, hS7879.cell 5 rfl 10 rfl, hS7879.cell 5 rfl 11 rfl, hS7879.cell 5 rfl 12 rfl, hS7879.cell 5 rfl 13 rfl, hS7879.cell 5 rfl 14 rfl, hS7879.cell 5 rfl 15 rfl, hS7879.cell 5 rfl 16 rfl, trivial⟩, forallC ?_ (forallN)⟩
    refine segF 7 [.v (.map (some (H7854 (w64 (p2 - 1)).toNat))), .v (iv (((rdD t6210 x7818 z_Row).North).e0)), .v (iv (((rdD t6210 x7818 z_Row).North).e1)), .v (iv (((rdD t6210 x7818 z_Row).North).e2)), .v (iv (((rdD t6210 x7818 z_Row).North).e3)), .v (iv (((rdD t6210 x7818 z_Row).North).e4)), .v (iv (((rdD t6210 x7818 z_Row).North).e5)), .v (iv (((rdD t6210 x7818 z_Row).North).e6)), .v (iv (((rdD t6210 x7818 z_Row).North).e7))] [2, 6, 8, 9, 10, 12, 13, 26, 27, 28, 55, 57] [(2, (iv p2)), (6, (pt g6032)), (8, (.slice A6215 t6210.length c6216)), (9, (.map (some g6218))), (10, (pt g6222)), (12, (pt g7827)), (13, (.slice A7851 x7855.2.length c7852)), (26, (.slice A6215 t6210.length c6216)), (27, (iv (t6210.length : Int))), (28, (iv x7818)), (55, (.map (some (H7854 (w64 (p2 - 1)).toNat)))), (57, (.agg #[(iv (((rdD t6210 x7818 z_Row).North).e0)), (iv (((rdD t6210 x7818 z_Row).North).e1)), (iv (((rdD t6210 x7818 z_Row).North).e2)), (iv (((rdD t6210 x7818 z_Row).North).e3)), (iv (((rdD t6210 x7818 z_Row).North).e4)), (iv (((rdD t6210 x7818 z_Row).North).e5)), (iv (((rdD t6210 x7818 z_Row).North).e6)), (iv (((rdD t6210 x7818 z_Row).North).e7))]))] [.idx A7851 (w64 (p2 - 1)) x7855.2.length] [0, 1, 2, 3, 4, 5, 6, 7, 8] [(4, ((adr A7851).add ((w64 (p2 - 1)).toNat * 1)), (.map (some (H7854 (w64 (p2 - 1)).toNat)))), (6, ⟨g7827, 9, none⟩, (iv (((rdD t6210 x7818 z_Row).North).e0))), (6, ⟨g7827, 10, none⟩, (iv (((rdD t6210 x7818 z_Row).North).e1))), (6, ⟨g7827, 11, none⟩, (iv (((rdD t6210 x7818 z_Row).North).e2))), (6, ⟨g7827, 12, none⟩, (iv (((rdD t6210 x7818 z_Row).North).e3))), (6, ⟨g7827, 13, none⟩, (iv (((rdD t6210 x7818 z_Row).North).e4))), (6, ⟨g7827, 14, none⟩, (iv (((rdD t6210 x7818 z_Row).North).e5))), (6, ⟨g7827, 15, none⟩, (iv (((rdD t6210 x7818 z_Row).North).e6))), (6, ⟨g7827, 16, none⟩, (iv (((rdD t6210 x7818 z_Row).North).e7)))] (fun fb => by kernel_rfl) rfl ⟨nrow_adr (hS7879.rd 1).1 h7883.1 h7883.2, trivial⟩ rfl ?_
    refine WL.lookup (mapsO.at (hS7879.rd 2).1 h7883.1 h7883.2 hm7885) ((rdD t6210 x7818 z_Row).North) (d := 58) (c := false) (t := 81) (kT := 86) (eT := 4) (z := false) (kE := (aggI ints_A8_Int)) (vE := vB) (l := m7884) (.bool (mget ((rdD t6210 x7818 z_Row).North) false m7884)) (fun fb => by kernel_rfl) torus_find_key86 (by kernel_rfl) (fun _ => by kernel_rfl) rfl ?_
    refine ⟨trivial, ?_⟩
    refine seg 9 [] [2, 6, 8, 9, 10, 12, 13, 26, 27, 28, 59] [(2, (iv p2)), (6, (pt g6032)), (8, (.slice A6215 t6210.length c6216)), (9, (.map (some g6218))), (10, (pt g6222)), (12, (pt g7827)), (13, (.slice A7851 x7855.2.length c7852)), (26, (.slice A6215 t6210.length c6216)), (27, (iv (t6210.length : Int))), (28, (iv x7818)), (59, (.bool (!(mget ((rdD t6210 x7818 z_Row).North) false m7884))))] [] (fun fb => by kernel_rfl) rfl trivial ?_
    refine WL.done rfl ?_
    refine WX.next ?_
    rcases br_some hl7824 with ⟨h7886, hl7824⟩ | ⟨h7886, hl7824⟩
    ·refine WC.condT2 (fun fb => by kernel_rfl) h7886 ?_
     refine WC.exit ?_
     refine WX.thenX (WX.blockHere (WX.next ?_))
     refine WC.region ?_
     refine seg 2 [] [2, 6, 8, 9, 10, 26, 27, 28] [(2, (iv p2)), (6, (pt g6032)), (8, (.slice A6215 t6210.length c6216)), (9, (.map (some g6218))), (10, (pt g6222)), (26, (.slice A6215 t6210.length c6216)), (27, (iv (t6210.length : Int))), (28, (iv (w64 (x7818 + 1))))] [] (fun fb => by kernel_rfl) rfl trivial ?_
     refine WL.done rfl ?_
     exact WX.again k7821 (Nat.lt_succ_self _) ((x7855.1, w64 (x7818 + 1)), K7850) [2, 6, 8, 9, 10, 26, 27, 28] rfl ⟨(hS7879.subR [0, 6, 7]).sub [0, 1, 2, 3, 4] (by decide), hl7824⟩
    refine WC.condF2 (fun fb => by kernel_rfl) h7886 ?_
    refine WC.skip ?_
    refine WX.next ?_
    refine WC.seq ?_
    refine WC.region ?_
    refine seg 4 [.v (.slice none 0 0), .v (.slice ((H6217 x7818.toNat 0).1) ((rdD t6210 x7818 z_Row).Cells).length ((H6217 x7818.toNat 0).2))] [2, 6, 8, 10, 12, 13, 61, 63] [(2, (iv p2)), (6, (pt g6032)), (8, (.slice A6215 t6210.length c6216)), (10, (pt g6222)), (12, (pt g7827)), (13, (.slice A7851 x7855.2.length c7852)), (61, (.slice none 0 0)), (63, (.slice ((H6217 x7818.toNat 0).1) ((rdD t6210 x7818 z_Row).Cells).length ((H6217 x7818.toNat 0).2)))] [.cell ⟨g6222, 2, none⟩ (.slice none 0 0), .cell ⟨g7827, 0, none⟩ (.slice ((H6217 x7818.toNat 0).1) ((rdD t6210 x7818 z_Row).Cells).length ((H6217 x7818.toNat 0).2))] (fun fb => by kernel_rfl) rfl ⟨hS7879.cell 4 rfl 2 rfl, hS7879.cell 5 rfl 0 rfl, trivial⟩ ?_
    have hS7887 := hS7879.nilrow 3 encInt
    obtain ⟨h7888, hl7824⟩ := as_some hl7824
    refine WL.append hS7887 0 (d := 64) (tS := 36) (z := (iv 0)) (bytes := 8) (c2 := (H6217 x7818.toNat 0).2) rfl (fun fb => by kernel_rfl) (nestO.at ((hS7887.own 3).1 0) z_Row h7826.1 h7826.2) (by kernel_rfl) (by kernel_rfl) rfl (by decide) h7888 (by decide) [1, 2, 3, 4, 5, 6] (by decide) (by decide) (fun A7889 c7890 w7891 hS7892 => ?_)
    refine ⟨trivial, ?_⟩
    refine seg 6 [] [2, 6, 8, 10, 12, 13, 64, 65] [(2, (iv p2)), (6, (pt g6032)), (8, (.slice A6215 t6210.length c6216)), (10, (pt g6222)), (12, (pt g7827)), (13, (.slice A7851 x7855.2.length c7852)), (64, (.slice A7889 (([] : List Int) ++ ((rdD t6210 x7818 z_Row).Cells)).length c7890)), (65, (.pointer (some ⟨g6222, 2, none⟩)))] [] (fun fb => by kernel_rfl) rfl trivial ?_
    refine WL.store hS7892 5 rfl [(2, (.slice A7889 (([] : List Int) ++ ((rdD t6210 x7818 z_Row).Cells)).length c7890))] #[(iv p1), (iv p2), (.slice A7889 (([] : List Int) ++ ((rdD t6210 x7818 z_Row).Cells)).length c7890)] (fun fb => by kernel_rfl) (by kernel_rfl) rfl [0, 1, 2, 3, 4, 6] (by decide) (by decide) (fun w7893 hS7894 => ?_)
    refine ⟨trivial, ?_⟩
    refine WL.done rfl ?_
    refine WX.next ?_
    refine WC.seq ?_
    refine WC.region ?_
    refine seg 2 [.v (iv (((rdD t6210 x7818 z_Row).North).e0)), .v (iv (((rdD t6210 x7818 z_Row).North).e1)), .v (iv (((rdD t6210 x7818 z_Row).North).e2)), .v (iv (((rdD t6210 x7818 z_Row).North).e3)), .v (iv (((rdD t6210 x7818 z_Row).North).e4)), .v (iv (((rdD t6210 x7818 z_Row).North).e5)), .v (iv (((rdD t6210 x7818 z_Row).North).e6)), .v (iv (((rdD t6210 x7818 z_Row).North).e7))] [2, 6, 8, 10, 13, 67] [(2, (iv p2)), (6, (pt g6032)), (8, (.slice A6215 t6210.length c6216)), (10, (pt g6222)), (13, (.slice A7851 x7855.2.length c7852)), (67, (.agg #[(iv (((rdD t6210 x7818 z_Row).North).e0)), (iv (((rdD t6210 x7818 z_Row).North).e1)), (iv (((rdD t6210 x7818 z_Row).North).e2)), (iv (((rdD t6210 x7818 z_Row).North).e3)), (iv (((rdD t6210 x7818 z_Row).North).e4)), (iv (((rdD t6210 x7818 z_Row).North).e5)), (iv (((rdD t6210 x7818 z_Row).North).e6)), (iv (((rdD t6210 x7818 z_Row).North).e7))]))] [.cell ⟨g7827, 9, none⟩ (iv (((rdD t6210 x7818 z_Row).North).e0)), .cell ⟨g7827, 10, none⟩ (iv (((rdD t6210 x7818 z_Row).North).e1)), .cell ⟨g7827, 11, none⟩ (iv (((rdD t6210 x7818 z_Row).North).e2)), .cell ⟨g7827, 12, none⟩ (iv (((rdD t6210 x7818 z_Row).North).e3)), .cell ⟨g7827, 13, none⟩ (iv (((rdD t6210 x7818 z_Row).North).e4)), .cell ⟨g7827, 14, none⟩ (iv (((rdD t6210 x7818 z_Row).North).e5)), .cell ⟨g7827, 15, none⟩ (iv (((rdD t6210 x7818 z_Row).North).e6)), .cell ⟨g7827, 16, none⟩ (iv (((rdD t6210 x7818 z_Row).North).e7))] (fun fb => by kernel_rfl) rfl ⟨hS7894.cell 6 rfl 9 rfl, hS7894.cell 6 rfl 10 rfl, hS7894.cell 6 rfl 11 rfl, hS7894.cell 6 rfl 12 rfl, hS7894.cell 6 rfl 13 rfl, hS7894.cell 6 rfl 14 rfl, hS7894.cell 6 rfl 15 rfl, hS7894.cell 6 rfl 16 rfl, trivial⟩ ?_
    refine WL.new hS7894 15 [] (fun g => (.pointer (some ⟨g, 0, none⟩))) (.cells #[(iv 0), (iv 0), (iv 0), (iv 0), (iv 0), (iv 0), (iv 0), (iv 0)] 86 (0, 0)) [] (fun fb g => by kernel_rfl) trivial (fun g7895 w7896 hS7897 => ?_)
    refine ⟨trivial, ?_⟩
    refine WL.store hS7897 0 rfl [(0, (iv (((rdD t6210 x7818 z_Row).North).e0))), (1, (iv (((rdD t6210 x7818 z_Row).North).e1))), (2, (iv (((rdD t6210 x7818 z_Row).North).e2))), (3, (iv (((rdD t6210 x7818 z_Row).North).e3))), (4, (iv (((rdD t6210 x7818 z_Row).North).e4))), (5, (iv (((rdD t6210 x7818 z_Row).North).e5))), (6, (iv (((rdD t6210 x7818 z_Row).North).e6))), (7, (iv (((rdD t6210 x7818 z_Row).North).e7)))] #[(iv (((rdD t6210 x7818 z_Row).North).e0)), (iv (((rdD t6210 x7818 z_Row).North).e1)), (iv (((rdD t6210 x7818 z_Row).North).e2)), (iv (((rdD t6210 x7818 z_Row).North).e3)), (iv (((rdD t6210 x7818 z_Row).North).e4)), (iv (((rdD t6210 x7818 z_Row).North).e5)), (iv (((rdD t6210 x7818 z_Row).North).e6)), (iv (((rdD t6210 x7818 z_Row).North).e7))] (fun fb => by kernel_rfl) (by kernel_rfl) rfl [1, 2, 3, 4, 5, 6, 7] (by decide) (by decide) (fun w7899 hS7900 => ?_)
    refine ⟨trivial, ?_⟩
    refine WL.done rfl ?_
    refine WX.next ?_
    refine WC.seq ?_
    refine WC.seq ?_
    refine WC.region ?_
    refine seg 3 [] [6, 8, 10, 13, 15, 16] [(6, (pt g6032)), (8, (.slice A6215 t6210.length c6216)), (10, (pt g6222)), (13, (.slice A7851 x7855.2.length c7852)), (15, (pt g7895)), (16, (iv (w64 (p2 - 2))))] [] (fun fb => by kernel_rfl) rfl trivial ?_
    refine WL.done rfl ?_
    refine WX.next ?_
    obtain ⟨x8266, hx8267, hl7824⟩ := bind_some hl7824
    refine WC.cutN (T := (List Int) × (Option Addr) × Nat) (fun t => [(6, (pt g6032)), (10, (pt g6222))]) (fun t w1 => St NoS w w1 [knestO (aggI ints_A8_Int) vB K7850 x7855.1, rowR (encMap A8_Int Bool) A7851 c7852 (tag H7854 x7855.2), mapsO (aggI ints_A8_Int) vB H7854 x7855.2, mapsO (aggI ints_A8_Int) vB ((mget ((rdD t6210 x7818 z_Row).South) zHM K7817).1.2.2) (mget ((rdD t6210 x7818 z_Row).South) [] l7816), rowR (encMap A8_Int Bool) ((mget ((rdD t6210 x7818 z_Row).South) zHM K7817).1.1) ((mget ((rdD t6210 x7818 z_Row).South) zHM K7817).1.2.1) (tag ((mget ((rdD t6210 x7818 z_Row).South) zHM K7817).1.2.2) (mget ((rdD t6210 x7818 z_Row).South) [] l7816)), knestO (aggI ints_A8_Int) vB K7817 l7816, knestO (aggI ints_A8_Int) vB ([] : List (A8_Int × (HM × List (Option (List (A8_Int × Bool)))))) ([] : List (A8_Int × List (Option (List (A8_Int × Bool))))), rowR enc_Tile A_p0 c_p0 p0] [blk g6032 (.cells #[(iv 0), (iv 0), (.slice none 0 0)] 38 (0, 0)), blk g6222 (.cells #[(iv p1), (iv p2), (.slice t.2.1 t.1.length t.2.2)] 38 (0, 0)), rowO 3 encInt t.2.1 t.2.2 t.1] ∧ x8266 = t.1) (fun Kx8266 => ?_) ?_
    ·
     refine WC.block ?_
     refine WC.loop (T := ((List Int) × A8_Int × Int) × (Option Addr) × Nat) (fun t => [(6, (pt g6032)), (8, (.slice A6215 t6210.length c6216)), (10, (pt g6222)), (13, (.slice A7851 x7855.2.length c7852)), (15, (pt g7895)), (16, (iv t.1.2.2))]) (fun n t w1 => St NoS w w1 [knestO (aggI ints_A8_Int) vB K7850 x7855.1, rowR (encMap A8_Int Bool) A7851 c7852 (tag H7854 x7855.2), mapsO (aggI ints_A8_Int) vB H7854 x7855.2, mapsO (aggI ints_A8_Int) vB ((mget ((rdD t6210 x7818 z_Row).South) zHM K7817).1.2.2) (mget ((rdD t6210 x7818 z_Row).South) [] l7816), rowR (encMap A8_Int Bool) ((mget ((rdD t6210 x7818 z_Row).South) zHM K7817).1.1) ((mget ((rdD t6210 x7818 z_Row).South) zHM K7817).1.2.1) (tag ((mget ((rdD t6210 x7818 z_Row).South) zHM K7817).1.2.2) (mget ((rdD t6210 x7818 z_Row).South) [] l7816)), knestO (aggI ints_A8_Int) vB K7817 l7816, knestO (aggI ints_A8_Int) vB ([] : List (A8_Int × (HM × List (Option (List (A8_Int × Bool)))))) ([] : List (A8_Int × List (Option (List (A8_Int × Bool))))), rowR enc_Tile A_p0 c_p0 p0] [blk g6032 (.cells #[(iv 0), (iv 0), (.slice none 0 0)] 38 (0, 0)), rowO 88 encN_Row A6215 c6216 (tag H6217 t6210), poolO [nestO subN_Row H6217 t6210], blk g6222 (.cells #[(iv p1), (iv p2), (.slice t.2.1 t.1.1.length t.2.2)] 38 (0, 0)), rowO 3 encInt t.2.1 t.2.2 t.1.1, blk g7895 (.cells #[(iv t.1.2.1.e0), (iv t.1.2.1.e1), (iv t.1.2.1.e2), (iv t.1.2.1.e3), (iv t.1.2.1.e4), (iv t.1.2.1.e5), (iv t.1.2.1.e6), (iv t.1.2.1.e7)] 86 (0, 0))] ∧ torus_find.l1 n t.1.1 t.1.2.1 t.1.2.2 t6210 x7855 = some x8266) k7821 ((([] : List Int) ++ ((rdD t6210 x7818 z_Row).Cells), ((rdD t6210 x7818 z_Row).North), w64 (p2 - 2)), A7889, c7890) [6, 8, 10, 13, 15, 16] rfl ⟨(hS7900.subR [0, 1, 2, 3, 4, 5, 6, 7]).sub [3, 4, 5, 1, 2, 0] (by decide), hx8267⟩ ?_
     rintro k8268 ⟨⟨l8260, a8261, x8262⟩, A8258, c8259⟩ w8269 ⟨hS8270, hl8271⟩
     cases k8268 with
     | zero => rw [torus_find.l1] at hl8271; cases hl8271
     | succ k8268 =>
      rw [torus_find.l1] at hl8271
      refine WC.seq ?_
      refine WC.seq ?_
      refine WC.region ?_
      refine seg 2 [] [6, 8, 10, 13, 15, 16, 71] [(6, (pt g6032)), (8, (.slice A6215 t6210.length c6216)), (10, (pt g6222)), (13, (.slice A7851 x7855.2.length c7852)), (15, (pt g7895)), (16, (iv x8262)), (71, (.bool (decide (x8262 ≥ 0))))] [] (fun fb => by kernel_rfl) rfl trivial ?_
      refine WL.done rfl ?_
      refine WX.next ?_
      rcases br_some hl8271 with ⟨h8272, hl8271⟩ | ⟨h8272, hl8271⟩
      ·refine WC.condT2 (fun fb => by kernel_rfl) h8272 ?_
       refine WC.skip ?_
       refine WX.next ?_
       refine WC.seq ?_
       refine WC.block ?_
       refine WC.scope ?_
       refine WC.seq ?_
       refine WC.label ?_
       refine WX.next ?_
       refine WC.seq ?_
       refine WC.region ?_
       refine seg 3 [] [6, 8, 10, 13, 15, 16, 74, 75, 76] [(6, (pt g6032)), (8, (.slice A6215 t6210.length c6216)), (10, (pt g6222)), (13, (.slice A7851 x7855.2.length c7852)), (15, (pt g7895)), (16, (iv x8262)), (74, (.slice A6215 t6210.length c6216)), (75, (iv (t6210.length : Int))), (76, (iv 0))] [] (fun fb => by kernel_rfl) rfl trivial ?_
       refine WL.done rfl ?_
       refine WX.next ?_
       obtain ⟨x8385, hx8386, hl8271⟩ := bind_some hl8271
       refine WC.cutN (T := ((List Int) × A8_Int) × (Option Addr) × Nat) (fun t => [(6, (pt g6032)), (8, (.slice A6215 t6210.length c6216)), (10, (pt g6222)), (13, (.slice A7851 x7855.2.length c7852)), (15, (pt g7895)), (16, (iv x8262))]) (fun t w1 => St NoS w w1 [knestO (aggI ints_A8_Int) vB K7850 x7855.1, rowR (encMap A8_Int Bool) A7851 c7852 (tag H7854 x7855.2), mapsO (aggI ints_A8_Int) vB H7854 x7855.2, mapsO (aggI ints_A8_Int) vB ((mget ((rdD t6210 x7818 z_Row).South) zHM K7817).1.2.2) (mget ((rdD t6210 x7818 z_Row).South) [] l7816), rowR (encMap A8_Int Bool) ((mget ((rdD t6210 x7818 z_Row).South) zHM K7817).1.1) ((mget ((rdD t6210 x7818 z_Row).South) zHM K7817).1.2.1) (tag ((mget ((rdD t6210 x7818 z_Row).South) zHM K7817).1.2.2) (mget ((rdD t6210 x7818 z_Row).South) [] l7816)), knestO (aggI ints_A8_Int) vB K7817 l7816, knestO (aggI ints_A8_Int) vB ([] : List (A8_Int × (HM × List (Option (List (A8_Int × Bool)))))) ([] : List (A8_Int × List (Option (List (A8_Int × Bool))))), rowR enc_Tile A_p0 c_p0 p0] [blk g6032 (.cells #[(iv 0), (iv 0), (.slice none 0 0)] 38 (0, 0)), rowO 88 encN_Row A6215 c6216 (tag H6217 t6210), poolO [nestO subN_Row H6217 t6210], blk g6222 (.cells #[(iv p1), (iv p2), (.slice t.2.1 t.1.1.length t.2.2)] 38 (0, 0)), rowO 3 encInt t.2.1 t.2.2 t.1.1, blk g7895 (.cells #[(iv t.1.2.e0), (iv t.1.2.e1), (iv t.1.2.e2), (iv t.1.2.e3), (iv t.1.2.e4), (iv t.1.2.e5), (iv t.1.2.e6), (iv t.1.2.e7)] 86 (0, 0))] ∧ x8385 = t.1) (fun Kx8385 => ?_) ?_
       ·
        refine WC.block ?_
        refine WC.loop (T := Int) (fun t => [(6, (pt g6032)), (8, (.slice A6215 t6210.length c6216)), (10, (pt g6222)), (13, (.slice A7851 x7855.2.length c7852)), (15, (pt g7895)), (16, (iv x8262)), (74, (.slice A6215 t6210.length c6216)), (75, (iv (t6210.length : Int))), (76, (iv t))]) (fun n t w1 => St NoS w w1 [knestO (aggI ints_A8_Int) vB K7850 x7855.1, rowR (encMap A8_Int Bool) A7851 c7852 (tag H7854 x7855.2), mapsO (aggI ints_A8_Int) vB H7854 x7855.2, mapsO (aggI ints_A8_Int) vB ((mget ((rdD t6210 x7818 z_Row).South) zHM K7817).1.2.2) (mget ((rdD t6210 x7818 z_Row).South) [] l7816), rowR (encMap A8_Int Bool) ((mget ((rdD t6210 x7818 z_Row).South) zHM K7817).1.1) ((mget ((rdD t6210 x7818 z_Row).South) zHM K7817).1.2.1) (tag ((mget ((rdD t6210 x7818 z_Row).South) zHM K7817).1.2.2) (mget ((rdD t6210 x7818 z_Row).South) [] l7816)), knestO (aggI ints_A8_Int) vB K7817 l7816, knestO (aggI ints_A8_Int) vB ([] : List (A8_Int × (HM × List (Option (List (A8_Int × Bool)))))) ([] : List (A8_Int × List (Option (List (A8_Int × Bool))))), rowR enc_Tile A_p0 c_p0 p0] [blk g6032 (.cells #[(iv 0), (iv 0), (.slice none 0 0)] 38 (0, 0)), rowO 88 encN_Row A6215 c6216 (tag H6217 t6210), poolO [nestO subN_Row H6217 t6210], blk g6222 (.cells #[(iv p1), (iv p2), (.slice A8258 l8260.length c8259)] 38 (0, 0)), rowO 3 encInt A8258 c8259 l8260, blk g7895 (.cells #[(iv a8261.e0), (iv a8261.e1), (iv a8261.e2), (iv a8261.e3), (iv a8261.e4), (iv a8261.e5), (iv a8261.e6), (iv a8261.e7)] 86 (0, 0))] ∧ torus_find.l2 n t t6210 x7855 l8260 a8261 x8262 = some x8385) k8268 0 [6, 8, 10, 13, 15, 16, 74, 75, 76] rfl ⟨(hS8270.subR [0, 1, 2, 3, 4, 5, 6, 7]).sub [0, 1, 2, 3, 4, 5] (by decide), hx8386⟩ ?_
        rintro k8387 x8380 w8388 ⟨hS8389, hl8390⟩
        cases k8387 with
        | zero => rw [torus_find.l2] at hl8390; cases hl8390
        | succ k8387 =>
         rw [torus_find.l2] at hl8390
         refine WC.seq ?_
         refine WC.region ?_
         refine seg 1 [] [6, 8, 10, 13, 15, 16, 74, 75, 76, 77] [(6, (pt g6032)), (8, (.slice A6215 t6210.length c6216)), (10, (pt g6222)), (13, (.slice A7851 x7855.2.length c7852)), (15, (pt g7895)), (16, (iv x8262)), (74, (.slice A6215 t6210.length c6216)), (75, (iv (t6210.length : Int))), (76, (iv x8380)), (77, (.bool (decide (x8380 < (t6210.length : Int)))))] [] (fun fb => by kernel_rfl) rfl trivial ?_
         refine WL.done rfl ?_
         refine WX.next ?_
         refine WC.seq ?_
         rcases br_some hl8390 with ⟨h8391, hl8390⟩ | ⟨h8391, hl8390⟩
         ·refine WC.condT2 (fun fb => by kernel_rfl) h8391 ?_
          refine WC.skip ?_
          refine WX.next ?_
          refine WC.seq ?_
          refine WC.block ?_
          refine WC.seq ?_
          refine WC.region ?_
          obtain ⟨h8392, hl8390⟩ := as_some hl8390
          refine seg 2 [.v (.slice ((H6217 x8380.toNat 0).1) ((rdD t6210 x8380 z_Row).Cells).length ((H6217 x8380.toNat 0).2)), .v (iv (((rdD t6210 x8380 z_Row).South).e0)), .v (iv (((rdD t6210 x8380 z_Row).South).e1)), .v (iv (((rdD t6210 x8380 z_Row).South).e2)), .v (iv (((rdD t6210 x8380 z_Row).South).e3)), .v (iv (((rdD t6210 x8380 z_Row).South).e4)), .v (iv (((rdD t6210 x8380 z_Row).South).e5)), .v (iv (((rdD t6210 x8380 z_Row).South).e6)), .v (iv (((rdD t6210 x8380 z_Row).South).e7)), .v (iv (((rdD t6210 x8380 z_Row).North).e0)), .v (iv (((rdD t6210 x8380 z_Row).North).e1)), .v (iv (((rdD t6210 x8380 z_Row).North).e2)), .v (iv (((rdD t6210 x8380 z_Row).North).e3)), .v (iv (((rdD t6210 x8380 z_Row).North).e4)), .v (iv (((rdD t6210 x8380 z_Row).North).e5)), .v (iv (((rdD t6210 x8380 z_Row).North).e6)), .v (iv (((rdD t6210 x8380 z_Row).North).e7)), .v (iv ((rdD t6210 x8380 z_Row).West)), .v (iv ((rdD t6210 x8380 z_Row).East))] [6, 8, 10, 13, 15, 16, 74, 75, 76, 79] [(6, (pt g6032)), (8, (.slice A6215 t6210.length c6216)), (10, (pt g6222)), (13, (.slice A7851 x7855.2.length c7852)), (15, (pt g7895)), (16, (iv x8262)), (74, (.slice A6215 t6210.length c6216)), (75, (iv (t6210.length : Int))), (76, (iv x8380)), (79, (.agg #[(.slice ((H6217 x8380.toNat 0).1) ((rdD t6210 x8380 z_Row).Cells).length ((H6217 x8380.toNat 0).2)), (iv (((rdD t6210 x8380 z_Row).South).e0)), (iv (((rdD t6210 x8380 z_Row).South).e1)), (iv (((rdD t6210 x8380 z_Row).South).e2)), (iv (((rdD t6210 x8380 z_Row).South).e3)), (iv (((rdD t6210 x8380 z_Row).South).e4)), (iv (((rdD t6210 x8380 z_Row).South).e5)), (iv (((rdD t6210 x8380 z_Row).South).e6)), (iv (((rdD t6210 x8380 z_Row).South).e7)), (iv (((rdD t6210 x8380 z_Row).North).e0)), (iv (((rdD t6210 x8380 z_Row).North).e1)), (iv (((rdD t6210 x8380 z_Row).North).e2)), (iv (((rdD t6210 x8380 z_Row).North).e3)), (iv (((rdD t6210 x8380 z_Row).North).e4)), (iv (((rdD t6210 x8380 z_Row).North).e5)), (iv (((rdD t6210 x8380 z_Row).North).e6)), (iv (((rdD t6210 x8380 z_Row).North).e7)), (iv ((rdD t6210 x8380 z_Row).West)), (iv ((rdD t6210 x8380 z_Row).East))]))] [.idx A6215 x8380 t6210.length, .cell ((adr A6215).add ((x8380).toNat * 19)) (.slice ((H6217 x8380.toNat 0).1) ((rdD t6210 x8380 z_Row).Cells).length ((H6217 x8380.toNat 0).2)), .cell (((adr A6215).add ((x8380).toNat * 19)).add 1) (iv (((rdD t6210 x8380 z_Row).South).e0)), .cell (((adr A6215).add ((x8380).toNat * 19)).add 2) (iv (((rdD t6210 x8380 z_Row).South).e1)), .cell (((adr A6215).add ((x8380).toNat * 19)).add 3) (iv (((rdD t6210 x8380 z_Row).South).e2)), .cell (((adr A6215).add ((x8380).toNat * 19)).add 4) (iv (((rdD t6210 x8380 z_Row).South).e3)), .cell (((adr A6215).add ((x8380).toNat * 19)).add 5) (iv (((rdD t6210 x8380 z_Row).South).e4)), .cell (((adr A6215).add ((x8380).toNat * 19)).add 6) (iv (((rdD t6210 x8380 z_Row).South).e5)), .cell (((adr A6215).add ((x8380).toNat * 19)).add 7) (iv (((rdD t6210 x8380 z_Row).South).e6)), .cell (((adr A6215).add ((x8380).toNat * 19)).add 8) (iv (((rdD t6210 x8380 z_Row).South).e7)), .cell (((adr A6215).add ((x8380).toNat * 19)).add 9) (iv (((rdD t6210 x8380 z_Row).North).e0)), .cell (((adr A6215).add ((x8380).toNat * 19)).add 10) (iv (((rdD t6210 x8380 z_Row).North).e1)), .cell (((adr A6215).add ((x8380).toNat * 19)).add 11) (iv (((rdD t6210 x8380 z_Row).North).e2)), .cell (((adr A6215).add ((x8380).toNat * 19)).add 12) (iv (((rdD t6210 x8380 z_Row).North).e3)), .cell (((adr A6215).add ((x8380).toNat * 19)).add 13) (iv (((rdD t6210 x8380 z_Row).North).e4)), .cell (((adr A6215).add ((x8380).toNat * 19)).add 14) (iv (((rdD t6210 x8380 z_Row).North).e5)), .cell (((adr A6215).add ((x8380).toNat * 19)).add 15) (iv (((rdD t6210 x8380 z_Row).North).e6)), .cell (((adr A6215).add ((x8380).toNat * 19)).add 16) (iv (((rdD t6210 x8380 z_Row).North).e7)), .cell (((adr A6215).add ((x8380).toNat * 19)).add 17) (iv ((rdD t6210 x8380 z_Row).West)), .cell (((adr A6215).add ((x8380).toNat * 19)).add 18) (iv ((rdD t6210 x8380 z_Row).East))] (fun fb => by kernel_rfl) rfl ⟨nrow_adr (rowO.rd (hS8389.own 1).1) h8392.1 h8392.2, nrow_cell (rowO.rd (hS8389.own 1).1) z_Row h8392.1 h8392.2 0 rfl, nrow_cell (rowO.rd (hS8389.own 1).1) z_Row h8392.1 h8392.2 1 rfl, nrow_cell (rowO.rd (hS8389.own 1).1) z_Row h8392.1 h8392.2 2 rfl, nrow_cell (rowO.rd (hS8389.own 1).1) z_Row h8392.1 h8392.2 3 rfl, nrow_cell (rowO.rd (hS8389.own 1).1) z_Row h8392.1 h8392.2 4 rfl, nrow_cell (rowO.rd (hS8389.own 1).1) z_Row h8392.1 h8392.2 5 rfl, nrow_cell (rowO.rd (hS8389.own 1).1) z_Row h8392.1 h8392.2 6 rfl, nrow_cell (rowO.rd (hS8389.own 1).1) z_Row h8392.1 h8392.2 7 rfl, nrow_cell (rowO.rd (hS8389.own 1).1) z_Row h8392.1 h8392.2 8 rfl, nrow_cell (rowO.rd (hS8389.own 1).1) z_Row h8392.1 h8392.2 9 rfl, nrow_cell (rowO.rd (hS8389.own 1).1) z_Row h8392.1 h8392.2 10 rfl, nrow_cell (rowO.rd (hS8389.own 1).1) z_Row h8392.1 h8392.2 11 rfl, nrow_cell (rowO.rd (hS8389.own 1).1) z_Row h8392.1 h8392.2 12 rfl, nrow_cell (rowO.rd (hS8389.own 1).1) z_Row h8392.1 h8392.2 13 rfl, nrow_cell (rowO.rd (hS8389.own 1).1) z_Row h8392.1 h8392.2 14 rfl, nrow_cell (rowO.rd (hS8389.own 1).1) z_Row h8392.1 h8392.2 15 rfl, nrow_cell (rowO.rd (hS8389.own 1).1) z_Row h8392.1 h8392.2 16 rfl, nrow_cell (rowO.rd (hS8389.own 1).1) z_Row h8392.1 h8392.2 17 rfl, nrow_cell (rowO.rd (hS8389.own 1).1) z_Row h8392.1 h8392.2 18 rfl, trivial⟩ ?_
          refine WL.new hS8389 18 [] (fun g => (.pointer (some ⟨g, 0, none⟩))) (.cells #[(.slice none 0 0), (iv 0), (iv 0), (iv 0), (iv 0), (iv 0), (iv 0), (iv 0), (iv 0), (iv 0), (iv 0), (iv 0), (iv 0), (iv 0), (iv 0), (iv 0), (iv 0), (iv 0), (iv 0)] 88 (0, 0)) [] (fun fb g => by kernel_rfl) trivial (fun g8393 w8394 hS8395 => ?_)
          refine ⟨trivial, ?_⟩
          refine WL.store hS8395 0 rfl [(0, (.slice ((H6217 x8380.toNat 0).1) ((rdD t6210 x8380 z_Row).Cells).length ((H6217 x8380.toNat 0).2))), (1, (iv (((rdD t6210 x8380 z_Row).South).e0))), (2, (iv (((rdD t6210 x8380 z_Row).South).e1))), (3, (iv (((rdD t6210 x8380 z_Row).South).e2))), (4, (iv (((rdD t6210 x8380 z_Row).South).e3))), (5, (iv (((rdD t6210 x8380 z_Row).South).e4))), (6, (iv (((rdD t6210 x8380 z_Row).South).e5))), (7, (iv (((rdD t6210 x8380 z_Row).South).e6))), (8, (iv (((rdD t6210 x8380 z_Row).South).e7))), (9, (iv (((rdD t6210 x8380 z_Row).North).e0))), (10, (iv (((rdD t6210 x8380 z_Row).North).e1))), (11, (iv (((rdD t6210 x8380 z_Row).North).e2))), (12, (iv (((rdD t6210 x8380 z_Row).North).e3))), (13, (iv (((rdD t6210 x8380 z_Row).North).e4))), (14, (iv (((rdD t6210 x8380 z_Row).North).e5))), (15, (iv (((rdD t6210 x8380 z_Row).North).e6))), (16, (iv (((rdD t6210 x8380 z_Row).North).e7))), (17, (iv ((rdD t6210 x8380 z_Row).West))), (18, (iv ((rdD t6210 x8380 z_Row).East)))] #[(.slice ((H6217 x8380.toNat 0).1) ((rdD t6210 x8380 z_Row).Cells).length ((H6217 x8380.toNat 0).2)), (iv (((rdD t6210 x8380 z_Row).South).e0)), (iv (((rdD t6210 x8380 z_Row).South).e1)), (iv (((rdD t6210 x8380 z_Row).South).e2)), (iv (((rdD t6210 x8380 z_Row).South).e3)), (iv (((rdD t6210 x8380 z_Row).South).e4)), (iv (((rdD t6210 x8380 z_Row).South).e5)), (iv (((rdD t6210 x8380 z_Row).South).e6)), (iv (((rdD t6210 x8380 z_Row).South).e7)), (iv (((rdD t6210 x8380 z_Row).North).e0)), (iv (((rdD t6210 x8380 z_Row).North).e1)), (iv (((rdD t6210 x8380 z_Row).North).e2)), (iv (((rdD t6210 x8380 z_Row).North).e3)), (iv (((rdD t6210 x8380 z_Row).North).e4)), (iv (((rdD t6210 x8380 z_Row).North).e5)), (iv (((rdD t6210 x8380 z_Row).North).e6)), (iv (((rdD t6210 x8380 z_Row).North).e7)), (iv ((rdD t6210 x8380 z_Row).West)), (iv ((rdD t6210 x8380 z_Row).East))] (fun fb => by kernel_rfl) (by kernel_rfl) (by kernel_rfl) [1, 2, 3, 4, 5, 6] (by decide) (by decide) (fun w8397 hS8398 => ?_)
          refine ⟨trivial, ?_⟩
          refine WL.done rfl ?_
          refine WX.next ?_
          refine WC.seq ?_
          obtain ⟨x8414, hx8415, hl8390⟩ := bind_some hl8390
          refine WC.cutN (T := Bool) (fun t => [(6, (pt g6032)), (8, (.slice A6215 t6210.length c6216)), (10, (pt g6222)), (13, (.slice A7851 x7855.2.length c7852)), (15, (pt g7895)), (16, (iv x8262)), (18, (pt g8393)), (74, (.slice A6215 t6210.length c6216)), (75, (iv (t6210.length : Int))), (76, (iv x8380)), (92, (.bool t))]) (fun t w1 => St NoS w w1 [knestO (aggI ints_A8_Int) vB K7850 x7855.1, rowR (encMap A8_Int Bool) A7851 c7852 (tag H7854 x7855.2), mapsO (aggI ints_A8_Int) vB H7854 x7855.2, mapsO (aggI ints_A8_Int) vB ((mget ((rdD t6210 x7818 z_Row).South) zHM K7817).1.2.2) (mget ((rdD t6210 x7818 z_Row).South) [] l7816), rowR (encMap A8_Int Bool) ((mget ((rdD t6210 x7818 z_Row).South) zHM K7817).1.1) ((mget ((rdD t6210 x7818 z_Row).South) zHM K7817).1.2.1) (tag ((mget ((rdD t6210 x7818 z_Row).South) zHM K7817).1.2.2) (mget ((rdD t6210 x7818 z_Row).South) [] l7816)), knestO (aggI ints_A8_Int) vB K7817 l7816, knestO (aggI ints_A8_Int) vB ([] : List (A8_Int × (HM × List (Option (List (A8_Int × Bool)))))) ([] : List (A8_Int × List (Option (List (A8_Int × Bool))))), rowR enc_Tile A_p0 c_p0 p0] [blk g6032 (.cells #[(iv 0), (iv 0), (.slice none 0 0)] 38 (0, 0)), rowO 88 encN_Row A6215 c6216 (tag H6217 t6210), poolO [nestO subN_Row H6217 t6210], blk g6222 (.cells #[(iv p1), (iv p2), (.slice A8258 l8260.length c8259)] 38 (0, 0)), rowO 3 encInt A8258 c8259 l8260, blk g7895 (.cells #[(iv a8261.e0), (iv a8261.e1), (iv a8261.e2), (iv a8261.e3), (iv a8261.e4), (iv a8261.e5), (iv a8261.e6), (iv a8261.e7)] 86 (0, 0)), blk g8393 (.cells #[(.slice ((H6217 x8380.toNat 0).1) ((rdD t6210 x8380 z_Row).Cells).length ((H6217 x8380.toNat 0).2)), (iv (((rdD t6210 x8380 z_Row).South).e0)), (iv (((rdD t6210 x8380 z_Row).South).e1)), (iv (((rdD t6210 x8380 z_Row).South).e2)), (iv (((rdD t6210 x8380 z_Row).South).e3)), (iv (((rdD t6210 x8380 z_Row).South).e4)), (iv (((rdD t6210 x8380 z_Row).South).e5)), (iv (((rdD t6210 x8380 z_Row).South).e6)), (iv (((rdD t6210 x8380 z_Row).South).e7)), (iv (((rdD t6210 x8380 z_Row).North).e0)), (iv (((rdD t6210 x8380 z_Row).North).e1)), (iv (((rdD t6210 x8380 z_Row).North).e2)), (iv (((rdD t6210 x8380 z_Row).North).e3)), (iv (((rdD t6210 x8380 z_Row).North).e4)), (iv (((rdD t6210 x8380 z_Row).North).e5)), (iv (((rdD t6210 x8380 z_Row).North).e6)), (iv (((rdD t6210 x8380 z_Row).North).e7)), (iv ((rdD t6210 x8380 z_Row).West)), (iv ((rdD t6210 x8380 z_Row).East))] 88 (0, 0))] ∧ x8414 = t) (fun Kx8414 => ?_) ?_
          ·
           rcases br_some hx8415 with ⟨h8416, hx8415⟩ | ⟨h8416, hx8415⟩
           ·
            obtain ⟨h8425, hx8415⟩ := as_some hx8415
            obtain ⟨m8426, hm8427, hx8415⟩ := bind_some hx8415
            refine WC.regionD ([(1, ⟨g8393, 1, none⟩, (iv (((rdD t6210 x8380 z_Row).South).e0))), (1, ⟨g8393, 2, none⟩, (iv (((rdD t6210 x8380 z_Row).South).e1))), (1, ⟨g8393, 3, none⟩, (iv (((rdD t6210 x8380 z_Row).South).e2))), (1, ⟨g8393, 4, none⟩, (iv (((rdD t6210 x8380 z_Row).South).e3))), (1, ⟨g8393, 5, none⟩, (iv (((rdD t6210 x8380 z_Row).South).e4))), (1, ⟨g8393, 6, none⟩, (iv (((rdD t6210 x8380 z_Row).South).e5))), (1, ⟨g8393, 7, none⟩, (iv (((rdD t6210 x8380 z_Row).South).e6))), (1, ⟨g8393, 8, none⟩, (iv (((rdD t6210 x8380 z_Row).South).e7))), (2, ⟨g7895, 0, none⟩, (iv a8261.e0)), (2, ⟨g7895, 1, none⟩, (iv a8261.e1)), (2, ⟨g7895, 2, none⟩, (iv a8261.e2)), (2, ⟨g7895, 3, none⟩, (iv a8261.e3)), (2, ⟨g7895, 4, none⟩, (iv a8261.e4)), (2, ⟨g7895, 5, none⟩, (iv a8261.e5)), (2, ⟨g7895, 6, none⟩, (iv a8261.e6)), (2, ⟨g7895, 7, none⟩, (iv a8261.e7)), (8, ((adr A7851).add ((x8262).toNat * 1)), (.map (some (H7854 x8262.toNat)))), (10, ⟨g8393, 9, none⟩, (iv (((rdD t6210 x8380 z_Row).North).e0))), (10, ⟨g8393, 10, none⟩, (iv (((rdD t6210 x8380 z_Row).North).e1))), (10, ⟨g8393, 11, none⟩, (iv (((rdD t6210 x8380 z_Row).North).e2))), (10, ⟨g8393, 12, none⟩, (iv (((rdD t6210 x8380 z_Row).North).e3))), (10, ⟨g8393, 13, none⟩, (iv (((rdD t6210 x8380 z_Row).North).e4))), (10, ⟨g8393, 14, none⟩, (iv (((rdD t6210 x8380 z_Row).North).e5))), (10, ⟨g8393, 15, none⟩, (iv (((rdD t6210 x8380 z_Row).North).e6))), (10, ⟨g8393, 16, none⟩, (iv (((rdD t6210 x8380 z_Row).North).e7)))], [0, 1, 2, 3, 4, 5, 6, 7, 8, 9, 10, 12], [[], [0], [], [0, 1, 2], [0, 1, 2, 3], [0, 1, 2, 3, 4], [0, 1, 2, 3, 4], [0, 1, 2, 3, 4, 5, 6], [0, 1, 2, 3, 4, 5, 6, 7], [0, 1, 2, 3, 4], [0, 1, 2, 3, 4, 9], [0, 1, 2, 3, 4, 5, 6, 7, 8, 9, 10], [0, 1, 2, 3, 4, 5, 6, 7, 8, 9, 10, 11]]) [[0, 1, 2, 3, 4, 5, 6, 7, 8, 9, 10, 11, 12]] (by kernel_rfl) (by kernel_rfl) (NoPanic.seq (NoPanic.block (NoPanic.seq (NoPanic.seq (NoPanic.block (NoPanic.scope (NoPanic.block (NoPanic.seq (NoPanic.seq (NoPanic.block (NoPanic.seq (NoPanic.block (NoPanic.seq (NoPanic.seq (NoPanic.block (NoPanic.seq (NoPanic.scope (NoPanic.body)))))))))))))))))) ?_
            have hS8421 := hS8398.drew
            revert hS8421
            generalize World.drew w8397 = w8420
            intro hS8421
            refine ⟨⟨hS8421.cell 0 rfl 1 rfl, hS8421.cell 0 rfl 2 rfl, hS8421.cell 0 rfl 3 rfl, hS8421.cell 0 rfl 4 rfl, hS8421.cell 0 rfl 5 rfl, hS8421.cell 0 rfl 6 rfl, hS8421.cell 0 rfl 7 rfl, hS8421.cell 0 rfl 8 rfl, hS8421.cell 6 rfl 0 rfl, hS8421.cell 6 rfl 1 rfl, hS8421.cell 6 rfl 2 rfl, hS8421.cell 6 rfl 3 rfl, hS8421.cell 6 rfl 4 rfl, hS8421.cell 6 rfl 5 rfl, hS8421.cell 6 rfl 6 rfl, hS8421.cell 6 rfl 7 rfl, nrow_cell (hS8421.rd 1).1 none h8425.1 h8425.2 0 (mapV_some hm8427), hS8421.cell 0 rfl 9 rfl, hS8421.cell 0 rfl 10 rfl, hS8421.cell 0 rfl 11 rfl, hS8421.cell 0 rfl 12 rfl, hS8421.cell 0 rfl 13 rfl, hS8421.cell 0 rfl 14 rfl, hS8421.cell 0 rfl 15 rfl, hS8421.cell 0 rfl 16 rfl, trivial⟩, forallC ?_ (forallN)⟩
            refine segF 5 [.v (iv (((rdD t6210 x8380 z_Row).South).e0)), .v (iv (((rdD t6210 x8380 z_Row).South).e1)), .v (iv (((rdD t6210 x8380 z_Row).South).e2)), .v (iv (((rdD t6210 x8380 z_Row).South).e3)), .v (iv (((rdD t6210 x8380 z_Row).South).e4)), .v (iv (((rdD t6210 x8380 z_Row).South).e5)), .v (iv (((rdD t6210 x8380 z_Row).South).e6)), .v (iv (((rdD t6210 x8380 z_Row).South).e7)), .v (iv a8261.e0), .v (iv a8261.e1), .v (iv a8261.e2), .v (iv a8261.e3), .v (iv a8261.e4), .v (iv a8261.e5), .v (iv a8261.e6), .v (iv a8261.e7)] [6, 8, 10, 13, 15, 16, 18, 74, 75, 76, 84] [(6, (pt g6032)), (8, (.slice A6215 t6210.length c6216)), (10, (pt g6222)), (13, (.slice A7851 x7855.2.length c7852)), (15, (pt g7895)), (16, (iv x8262)), (18, (pt g8393)), (74, (.slice A6215 t6210.length c6216)), (75, (iv (t6210.length : Int))), (76, (iv x8380)), (84, (.bool ((((rdD t6210 x8380 z_Row).South).e0) == a8261.e0 && ((((rdD t6210 x8380 z_Row).South).e1) == a8261.e1 && ((((rdD t6210 x8380 z_Row).South).e2) == a8261.e2 && ((((rdD t6210 x8380 z_Row).South).e3) == a8261.e3 && ((((rdD t6210 x8380 z_Row).South).e4) == a8261.e4 && ((((rdD t6210 x8380 z_Row).South).e5) == a8261.e5 && ((((rdD t6210 x8380 z_Row).South).e6) == a8261.e6 && ((((rdD t6210 x8380 z_Row).South).e7) == a8261.e7))))))))))] [] [0, 1, 2, 3, 4, 5, 6, 7, 8, 9, 10, 11, 12, 13, 14, 15] [(1, ⟨g8393, 1, none⟩, (iv (((rdD t6210 x8380 z_Row).South).e0))), (1, ⟨g8393, 2, none⟩, (iv (((rdD t6210 x8380 z_Row).South).e1))), (1, ⟨g8393, 3, none⟩, (iv (((rdD t6210 x8380 z_Row).South).e2))), (1, ⟨g8393, 4, none⟩, (iv (((rdD t6210 x8380 z_Row).South).e3))), (1, ⟨g8393, 5, none⟩, (iv (((rdD t6210 x8380 z_Row).South).e4))), (1, ⟨g8393, 6, none⟩, (iv (((rdD t6210 x8380 z_Row).South).e5))), (1, ⟨g8393, 7, none⟩, (iv (((rdD t6210 x8380 z_Row).South).e6))), (1, ⟨g8393, 8, none⟩, (iv (((rdD t6210 x8380 z_Row).South).e7))), (2, ⟨g7895, 0, none⟩, (iv a8261.e0)), (2, ⟨g7895, 1, none⟩, (iv a8261.e1)), (2, ⟨g7895, 2, none⟩, (iv a8261.e2)), (2, ⟨g7895, 3, none⟩, (iv a8261.e3)), (2, ⟨g7895, 4, none⟩, (iv a8261.e4)), (2, ⟨g7895, 5, none⟩, (iv a8261.e5)), (2, ⟨g7895, 6, none⟩, (iv a8261.e6)), (2, ⟨g7895, 7, none⟩, (iv a8261.e7))] (fun fb => by kernel_rfl) rfl trivial rfl ?_
            refine WL.setB 84 h8416 rfl ?_
            refine segF 11 [.v (.map (some (H7854 x8262.toNat))), .v (iv (((rdD t6210 x8380 z_Row).North).e0)), .v (iv (((rdD t6210 x8380 z_Row).North).e1)), .v (iv (((rdD t6210 x8380 z_Row).North).e2)), .v (iv (((rdD t6210 x8380 z_Row).North).e3)), .v (iv (((rdD t6210 x8380 z_Row).North).e4)), .v (iv (((rdD t6210 x8380 z_Row).North).e5)), .v (iv (((rdD t6210 x8380 z_Row).North).e6)), .v (iv (((rdD t6210 x8380 z_Row).North).e7))] [6, 8, 10, 13, 15, 16, 18, 74, 75, 76, 84, 88, 90] [(6, (pt g6032)), (8, (.slice A6215 t6210.length c6216)), (10, (pt g6222)), (13, (.slice A7851 x7855.2.length c7852)), (15, (pt g7895)), (16, (iv x8262)), (18, (pt g8393)), (74, (.slice A6215 t6210.length c6216)), (75, (iv (t6210.length : Int))), (76, (iv x8380)), (84, (.bool true)), (88, (.map (some (H7854 x8262.toNat)))), (90, (.agg #[(iv (((rdD t6210 x8380 z_Row).North).e0)), (iv (((rdD t6210 x8380 z_Row).North).e1)), (iv (((rdD t6210 x8380 z_Row).North).e2)), (iv (((rdD t6210 x8380 z_Row).North).e3)), (iv (((rdD t6210 x8380 z_Row).North).e4)), (iv (((rdD t6210 x8380 z_Row).North).e5)), (iv (((rdD t6210 x8380 z_Row).North).e6)), (iv (((rdD t6210 x8380 z_Row).North).e7))]))] [.idx A7851 x8262 x7855.2.length] [16, 17, 18, 19, 20, 21, 22, 23, 24] [(8, ((adr A7851).add ((x8262).toNat * 1)), (.map (some (H7854 x8262.toNat)))), (10, ⟨g8393, 9, none⟩, (iv (((rdD t6210 x8380 z_Row).North).e0))), (10, ⟨g8393, 10, none⟩, (iv (((rdD t6210 x8380 z_Row).North).e1))), (10, ⟨g8393, 11, none⟩, (iv (((rdD t6210 x8380 z_Row).North).e2))), (10, ⟨g8393, 12, none⟩, (iv (((rdD t6210 x8380 z_Row).North).e3))), (10, ⟨g8393, 13, none⟩, (iv (((rdD t6210 x8380 z_Row).North).e4))), (10, ⟨g8393, 14, none⟩, (iv (((rdD t6210 x8380 z_Row).North).e5))), (10, ⟨g8393, 15, none⟩, (iv (((rdD t6210 x8380 z_Row).North).e6))), (10, ⟨g8393, 16, none⟩, (iv (((rdD t6210 x8380 z_Row).North).e7)))] (fun fb => by kernel_rfl) rfl ⟨nrow_adr (hS8421.rd 1).1 h8425.1 h8425.2, trivial⟩ rfl ?_
            refine WL.lookup (mapsO.at (hS8421.rd 2).1 h8425.1 h8425.2 hm8427) ((rdD t6210 x8380 z_Row).North) (d := 91) (c := false) (t := 81) (kT := 86) (eT := 4) (z := false) (kE := (aggI ints_A8_Int)) (vE := vB) (l := m8426) (.bool (mget ((rdD t6210 x8380 z_Row).North) false m8426)) (fun fb => by kernel_rfl) torus_find_key86 (by kernel_rfl) (fun _ => by kernel_rfl) rfl ?_
            refine ⟨trivial, ?_⟩
            refine seg 13 [] [6, 8, 10, 13, 15, 16, 18, 74, 75, 76, 92] [(6, (pt g6032)), (8, (.slice A6215 t6210.length c6216)), (10, (pt g6222)), (13, (.slice A7851 x7855.2.length c7852)), (15, (pt g7895)), (16, (iv x8262)), (18, (pt g8393)), (74, (.slice A6215 t6210.length c6216)), (75, (iv (t6210.length : Int))), (76, (iv x8380)), (92, (.bool (mget ((rdD t6210 x8380 z_Row).North) false m8426)))] [] (fun fb => by kernel_rfl) rfl trivial ?_
            refine WL.done rfl ?_
            injection hx8415 with hx8415
            exact WX.to Kx8414 (mget ((rdD t6210 x8380 z_Row).North) false m8426) [6, 8, 10, 13, 15, 16, 18, 74, 75, 76, 92] rfl ⟨(hS8421.subR [0, 1, 2, 3, 4, 5, 6, 7]).sub [1, 2, 3, 4, 5, 6, 0] (by decide), hx8415.symm⟩
           refine WC.regionD ([(1, ⟨g8393, 1, none⟩, (iv (((rdD t6210 x8380 z_Row).South).e0))), (1, ⟨g8393, 2, none⟩, (iv (((rdD t6210 x8380 z_Row).South).e1))), (1, ⟨g8393, 3, none⟩, (iv (((rdD t6210 x8380 z_Row).South).e2))), (1, ⟨g8393, 4, none⟩, (iv (((rdD t6210 x8380 z_Row).South).e3))), (1, ⟨g8393, 5, none⟩, (iv (((rdD t6210 x8380 z_Row).South).e4))), (1, ⟨g8393, 6, none⟩, (iv (((rdD t6210 x8380 z_Row).South).e5))), (1, ⟨g8393, 7, none⟩, (iv (((rdD t6210 x8380 z_Row).South).e6))), (1, ⟨g8393, 8, none⟩, (iv (((rdD t6210 x8380 z_Row).South).e7))), (2, ⟨g7895, 0, none⟩, (iv a8261.e0)), (2, ⟨g7895, 1, none⟩, (iv a8261.e1)), (2, ⟨g7895, 2, none⟩, (iv a8261.e2)), (2, ⟨g7895, 3, none⟩, (iv a8261.e3)), (2, ⟨g7895, 4, none⟩, (iv a8261.e4)), (2, ⟨g7895, 5, none⟩, (iv a8261.e5)), (2, ⟨g7895, 6, none⟩, (iv a8261.e6)), (2, ⟨g7895, 7, none⟩, (iv a8261.e7))], [0, 1, 2, 3, 4, 5, 6, 7, 8, 9, 10, 12], [[], [0], [], [0, 1, 2], [0, 1, 2, 3], [0, 1, 2, 3, 4], [0, 1, 2, 3, 4], [0, 1, 2, 3, 4, 5, 6], [0, 1, 2, 3, 4, 5, 6, 7], [0, 1, 2, 3, 4], [0, 1, 2, 3, 4, 9], [0, 1, 2, 3, 4, 5, 6, 7, 8, 9, 10], [0, 1, 2, 3, 4, 5, 6, 7, 8, 9, 10, 11]]) [[0, 1, 2, 3, 4, 5, 6, 7, 8, 9, 10, 11, 12]] (by kernel_rfl) (by kernel_rfl) (NoPanic.seq (NoPanic.block (NoPanic.seq (NoPanic.seq (NoPanic.block (NoPanic.scope (NoPanic.block (NoPanic.seq (NoPanic.seq (NoPanic.block (NoPanic.seq (NoPanic.block (NoPanic.seq (NoPanic.seq (NoPanic.block (NoPanic.seq (NoPanic.scope (NoPanic.body)))))))))))))))))) ?_
           have hS8429 := hS8398.drew
           revert hS8429
           generalize World.drew w8397 = w8428
           intro hS8429
           refine ⟨⟨hS8429.cell 0 rfl 1 rfl, hS8429.cell 0 rfl 2 rfl, hS8429.cell 0 rfl 3 rfl, hS8429.cell 0 rfl 4 rfl, hS8429.cell 0 rfl 5 rfl, hS8429.cell 0 rfl 6 rfl, hS8429.cell 0 rfl 7 rfl, hS8429.cell 0 rfl 8 rfl, hS8429.cell 6 rfl 0 rfl, hS8429.cell 6 rfl 1 rfl, hS8429.cell 6 rfl 2 rfl, hS8429.cell 6 rfl 3 rfl, hS8429.cell 6 rfl 4 rfl, hS8429.cell 6 rfl 5 rfl, hS8429.cell 6 rfl 6 rfl, hS8429.cell 6 rfl 7 rfl, trivial⟩, forallC ?_ (forallN)⟩
           refine segF 5 [.v (iv (((rdD t6210 x8380 z_Row).South).e0)), .v (iv (((rdD t6210 x8380 z_Row).South).e1)), .v (iv (((rdD t6210 x8380 z_Row).South).e2)), .v (iv (((rdD t6210 x8380 z_Row).South).e3)), .v (iv (((rdD t6210 x8380 z_Row).South).e4)), .v (iv (((rdD t6210 x8380 z_Row).South).e5)), .v (iv (((rdD t6210 x8380 z_Row).South).e6)), .v (iv (((rdD t6210 x8380 z_Row).South).e7)), .v (iv a8261.e0), .v (iv a8261.e1), .v (iv a8261.e2), .v (iv a8261.e3), .v (iv a8261.e4), .v (iv a8261.e5), .v (iv a8261.e6), .v (iv a8261.e7)] [6, 8, 10, 13, 15, 16, 18, 74, 75, 76, 84] [(6, (pt g6032)), (8, (.slice A6215 t6210.length c6216)), (10, (pt g6222)), (13, (.slice A7851 x7855.2.length c7852)), (15, (pt g7895)), (16, (iv x8262)), (18, (pt g8393)), (74, (.slice A6215 t6210.length c6216)), (75, (iv (t6210.length : Int))), (76, (iv x8380)), (84, (.bool ((((rdD t6210 x8380 z_Row).South).e0) == a8261.e0 && ((((rdD t6210 x8380 z_Row).South).e1) == a8261.e1 && ((((rdD t6210 x8380 z_Row).South).e2) == a8261.e2 && ((((rdD t6210 x8380 z_Row).South).e3) == a8261.e3 && ((((rdD t6210 x8380 z_Row).South).e4) == a8261.e4 && ((((rdD t6210 x8380 z_Row).South).e5) == a8261.e5 && ((((rdD t6210 x8380 z_Row).South).e6) == a8261.e6 && ((((rdD t6210 x8380 z_Row).South).e7) == a8261.e7))))))))))] [] [0, 1, 2, 3, 4, 5, 6, 7, 8, 9, 10, 11, 12, 13, 14, 15] [(1, ⟨g8393, 1, none⟩, (iv (((rdD t6210 x8380 z_Row).South).e0))), (1, ⟨g8393, 2, none⟩, (iv (((rdD t6210 x8380 z_Row).South).e1))), (1, ⟨g8393, 3, none⟩, (iv (((rdD t6210 x8380 z_Row).South).e2))), (1, ⟨g8393, 4, none⟩, (iv (((rdD t6210 x8380 z_Row).South).e3))), (1, ⟨g8393, 5, none⟩, (iv (((rdD t6210 x8380 z_Row).South).e4))), (1, ⟨g8393, 6, none⟩, (iv (((rdD t6210 x8380 z_Row).South).e5))), (1, ⟨g8393, 7, none⟩, (iv (((rdD t6210 x8380 z_Row).South).e6))), (1, ⟨g8393, 8, none⟩, (iv (((rdD t6210 x8380 z_Row).South).e7))), (2, ⟨g7895, 0, none⟩, (iv a8261.e0)), (2, ⟨g7895, 1, none⟩, (iv a8261.e1)), (2, ⟨g7895, 2, none⟩, (iv a8261.e2)), (2, ⟨g7895, 3, none⟩, (iv a8261.e3)), (2, ⟨g7895, 4, none⟩, (iv a8261.e4)), (2, ⟨g7895, 5, none⟩, (iv a8261.e5)), (2, ⟨g7895, 6, none⟩, (iv a8261.e6)), (2, ⟨g7895, 7, none⟩, (iv a8261.e7))] (fun fb => by kernel_rfl) rfl trivial rfl ?_
           refine WL.setB 84 h8416 rfl ?_
           refine seg 13 [] [6, 8, 10, 13, 15, 16, 18, 74, 75, 76, 92] [(6, (pt g6032)), (8, (.slice A6215 t6210.length c6216)), (10, (pt g6222)), (13, (.slice A7851 x7855.2.length c7852)), (15, (pt g7895)), (16, (iv x8262)), (18, (pt g8393)), (74, (.slice A6215 t6210.length c6216)), (75, (iv (t6210.length : Int))), (76, (iv x8380)), (92, (.bool false))] [] (fun fb => by kernel_rfl) rfl trivial ?_
           refine WL.done rfl ?_
           injection hx8415 with hx8415
           exact WX.to Kx8414 false [6, 8, 10, 13, 15, 16, 18, 74, 75, 76, 92] rfl ⟨(hS8429.subR [0, 1, 2, 3, 4, 5, 6, 7]).sub [1, 2, 3, 4, 5, 6, 0] (by decide), hx8415.symm⟩
          rintro y8433 w8430 ⟨hS8431, hq8432⟩
          subst hq8432
          refine WX.next ?_
          rcases br_some hl8390 with ⟨h8434, hl8390⟩ | ⟨h8434, hl8390⟩
          ·refine WC.condT2 (fun fb => by kernel_rfl) h8434 ?_
           refine WC.seq ?_
           refine WC.region ?_
           refine seg 4 [.v (.slice A8258 l8260.length c8259), .v (.slice ((H6217 x8380.toNat 0).1) ((rdD t6210 x8380 z_Row).Cells).length ((H6217 x8380.toNat 0).2))] [6, 8, 10, 13, 15, 16, 18, 94, 96] [(6, (pt g6032)), (8, (.slice A6215 t6210.length c6216)), (10, (pt g6222)), (13, (.slice A7851 x7855.2.length c7852)), (15, (pt g7895)), (16, (iv x8262)), (18, (pt g8393)), (94, (.slice A8258 l8260.length c8259)), (96, (.slice ((H6217 x8380.toNat 0).1) ((rdD t6210 x8380 z_Row).Cells).length ((H6217 x8380.toNat 0).2)))] [.cell ⟨g6222, 2, none⟩ (.slice A8258 l8260.length c8259), .cell ⟨g8393, 0, none⟩ (.slice ((H6217 x8380.toNat 0).1) ((rdD t6210 x8380 z_Row).Cells).length ((H6217 x8380.toNat 0).2))] (fun fb => by kernel_rfl) rfl ⟨hS8431.cell 3 rfl 2 rfl, hS8431.cell 6 rfl 0 rfl, trivial⟩ ?_
           obtain ⟨h8435, hl8390⟩ := as_some hl8390
           refine WL.append hS8431 4 (d := 97) (tS := 36) (z := (iv 0)) (bytes := 8) (c2 := (H6217 x8380.toNat 0).2) rfl (fun fb => by kernel_rfl) (nestO.at ((hS8431.own 2).1 0) z_Row h8392.1 h8392.2) (by kernel_rfl) (by kernel_rfl) rfl (by decide) h8435 (by decide) [0, 1, 2, 3, 5, 6] (by decide) (by decide) (fun A8436 c8437 w8438 hS8439 => ?_)
           refine ⟨trivial, ?_⟩
           refine seg 6 [] [6, 8, 10, 13, 15, 16, 18, 97, 98] [(6, (pt g6032)), (8, (.slice A6215 t6210.length c6216)), (10, (pt g6222)), (13, (.slice A7851 x7855.2.length c7852)), (15, (pt g7895)), (16, (iv x8262)), (18, (pt g8393)), (97, (.slice A8436 (l8260 ++ ((rdD t6210 x8380 z_Row).Cells)).length c8437)), (98, (.pointer (some ⟨g6222, 2, none⟩)))] [] (fun fb => by kernel_rfl) rfl trivial ?_
           refine WL.store hS8439 4 rfl [(2, (.slice A8436 (l8260 ++ ((rdD t6210 x8380 z_Row).Cells)).length c8437))] #[(iv p1), (iv p2), (.slice A8436 (l8260 ++ ((rdD t6210 x8380 z_Row).Cells)).length c8437)] (fun fb => by kernel_rfl) (by kernel_rfl) rfl [0, 1, 2, 3, 5, 6] (by decide) (by decide) (fun w8440 hS8441 => ?_)
           refine ⟨trivial, ?_⟩
           refine WL.done rfl ?_
           refine WX.next ?_
           refine WC.seq ?_
           refine WC.region ?_
           refine seg 2 [.v (iv (((rdD t6210 x8380 z_Row).North).e0)), .v (iv (((rdD t6210 x8380 z_Row).North).e1)), .v (iv (((rdD t6210 x8380 z_Row).North).e2)), .v (iv (((rdD t6210 x8380 z_Row).North).e3)), .v (iv (((rdD t6210 x8380 z_Row).North).e4)), .v (iv (((rdD t6210 x8380 z_Row).North).e5)), .v (iv (((rdD t6210 x8380 z_Row).North).e6)), .v (iv (((rdD t6210 x8380 z_Row).North).e7))] [6, 8, 10, 13, 15, 16, 100] [(6, (pt g6032)), (8, (.slice A6215 t6210.length c6216)), (10, (pt g6222)), (13, (.slice A7851 x7855.2.length c7852)), (15, (pt g7895)), (16, (iv x8262)), (100, (.agg #[(iv (((rdD t6210 x8380 z_Row).North).e0)), (iv (((rdD t6210 x8380 z_Row).North).e1)), (iv (((rdD t6210 x8380 z_Row).North).e2)), (iv (((rdD t6210 x8380 z_Row).North).e3)), (iv (((rdD t6210 x8380 z_Row).North).e4)), (iv (((rdD t6210 x8380 z_Row).North).e5)), (iv (((rdD t6210 x8380 z_Row).North).e6)), (iv (((rdD t6210 x8380 z_Row).North).e7))]))] [.cell ⟨g8393, 9, none⟩ (iv (((rdD t6210 x8380 z_Row).North).e0)), .cell ⟨g8393, 10, none⟩ (iv (((rdD t6210 x8380 z_Row).North).e1)), .cell ⟨g8393, 11, none⟩ (iv (((rdD t6210 x8380 z_Row).North).e2)), .cell ⟨g8393, 12, none⟩ (iv (((rdD t6210 x8380 z_Row).North).e3)), .cell ⟨g8393, 13, none⟩ (iv (((rdD t6210 x8380 z_Row).North).e4)), .cell ⟨g8393, 14, none⟩ (iv (((rdD t6210 x8380 z_Row).North).e5)), .cell ⟨g8393, 15, none⟩ (iv (((rdD t6210 x8380 z_Row).North).e6)), .cell ⟨g8393, 16, none⟩ (iv (((rdD t6210 x8380 z_Row).North).e7))] (fun fb => by kernel_rfl) rfl ⟨hS8441.cell 6 rfl 9 rfl, hS8441.cell 6 rfl 10 rfl, hS8441.cell 6 rfl 11 rfl, hS8441.cell 6 rfl 12 rfl, hS8441.cell 6 rfl 13 rfl, hS8441.cell 6 rfl 14 rfl, hS8441.cell 6 rfl 15 rfl, hS8441.cell 6 rfl 16 rfl, trivial⟩ ?_
           refine WL.store hS8441 5 rfl [(0, (iv (((rdD t6210 x8380 z_Row).North).e0))), (1, (iv (((rdD t6210 x8380 z_Row).North).e1))), (2, (iv (((rdD t6210 x8380 z_Row).North).e2))), (3, (iv (((rdD t6210 x8380 z_Row).North).e3))), (4, (iv (((rdD t6210 x8380 z_Row).North).e4))), (5, (iv (((rdD t6210 x8380 z_Row).North).e5))), (6, (iv (((rdD t6210 x8380 z_Row).North).e6))), (7, (iv (((rdD t6210 x8380 z_Row).North).e7)))] #[(iv (((rdD t6210 x8380 z_Row).North).e0)), (iv (((rdD t6210 x8380 z_Row).North).e1)), (iv (((rdD t6210 x8380 z_Row).North).e2)), (iv (((rdD t6210 x8380 z_Row).North).e3)), (iv (((rdD t6210 x8380 z_Row).North).e4)), (iv (((rdD t6210 x8380 z_Row).North).e5)), (iv (((rdD t6210 x8380 z_Row).North).e6)), (iv (((rdD t6210 x8380 z_Row).North).e7))] (fun fb => by kernel_rfl) (by kernel_rfl) rfl [0, 1, 2, 3, 4, 6] (by decide) (by decide) (fun w8442 hS8443 => ?_)
           refine ⟨trivial, ?_⟩
           refine WL.done rfl ?_
           refine WX.next ?_
           refine WC.exit ?_
           injection hl8390 with hl8390
           exact WX.blockPast (by decide) (WX.thenX (WX.thenX (WX.blockHere (WX.to Kx8385 ((l8260 ++ ((rdD t6210 x8380 z_Row).Cells), ((rdD t6210 x8380 z_Row).North)), A8436, c8437) [6, 8, 10, 13, 15, 16] rfl ⟨(hS8443.subR [0, 1, 2, 3, 4, 5, 6, 7]).sub [3, 4, 5, 1, 2, 0] (by decide), hl8390.symm⟩))))
          refine WC.condF2 (fun fb => by kernel_rfl) h8434 ?_
          refine WC.skip ?_
          refine WX.blockN (WX.next ?_)
          refine WC.region ?_
          refine seg 2 [] [6, 8, 10, 13, 15, 16, 74, 75, 76] [(6, (pt g6032)), (8, (.slice A6215 t6210.length c6216)), (10, (pt g6222)), (13, (.slice A7851 x7855.2.length c7852)), (15, (pt g7895)), (16, (iv x8262)), (74, (.slice A6215 t6210.length c6216)), (75, (iv (t6210.length : Int))), (76, (iv (w64 (x8380 + 1))))] [] (fun fb => by kernel_rfl) rfl trivial ?_
          refine WL.done rfl ?_
          exact WX.again k8387 (Nat.lt_succ_self _) (w64 (x8380 + 1)) [6, 8, 10, 13, 15, 16, 74, 75, 76] rfl ⟨(hS8431.subR [0, 1, 2, 3, 4, 5, 6, 7]).sub [0, 1, 2, 3, 4, 5] (by decide), hl8390⟩
         refine WC.condF2 (fun fb => by kernel_rfl) h8391 ?_
         refine WC.exit ?_
         injection hl8390 with hl8390
         exact WX.thenX (WX.thenX (WX.blockHere (WX.to Kx8385 ((l8260, a8261), A8258, c8259) [6, 8, 10, 13, 15, 16] rfl ⟨(hS8389.subR [0, 1, 2, 3, 4, 5, 6, 7]).sub [0, 1, 2, 3, 4, 5] (by decide), hl8390.symm⟩)))
       rintro ⟨y8447, A8381, c8382⟩ w8444 ⟨hS8445, hq8446⟩
       subst hq8446
       refine WX.scopeN (WX.blockN (WX.next ?_))
       refine WC.region ?_
       refine seg 3 [] [6, 8, 10, 13, 15, 16] [(6, (pt g6032)), (8, (.slice A6215 t6210.length c6216)), (10, (pt g6222)), (13, (.slice A7851 x7855.2.length c7852)), (15, (pt g7895)), (16, (iv (w64 (x8262 - 1))))] [] (fun fb => by kernel_rfl) rfl trivial ?_
       refine WL.done rfl ?_
       exact WX.again k8268 (Nat.lt_succ_self _) ((x8385.1, x8385.2, w64 (x8262 - 1)), A8381, c8382) [6, 8, 10, 13, 15, 16] rfl ⟨(hS8445.subR [0, 1, 2, 3, 4, 5, 6, 7]).sub [0, 1, 2, 3, 4, 5] (by decide), hl8271⟩
      refine WC.condF2 (fun fb => by kernel_rfl) h8272 ?_
      refine WC.exit ?_
      injection hl8271 with hl8271
      exact WX.thenX (WX.thenX (WX.blockHere (WX.to Kx8266 (l8260, A8258, c8259) [6, 10] rfl ⟨(hS8270.subR [0, 1, 2, 3, 4, 5, 6, 7]).sub [0, 3, 4] (by decide), hl8271.symm⟩)))
    rintro ⟨y8451, A8263, c8264⟩ w8448 ⟨hS8449, hq8450⟩
    subst hq8450
    refine WX.next ?_
    refine WC.seq ?_
    refine WC.region ?_
    refine seg 1 [.v (iv p1), .v (iv p2), .v (.slice A8263 x8266.length c8264)] [6, 102] [(6, (pt g6032)), (102, (.agg #[(iv p1), (iv p2), (.slice A8263 x8266.length c8264)]))] [.cell ⟨g6222, 0, none⟩ (iv p1), .cell ⟨g6222, 1, none⟩ (iv p2), .cell ⟨g6222, 2, none⟩ (.slice A8263 x8266.length c8264)] (fun fb => by kernel_rfl) rfl ⟨hS8449.cell 1 rfl 0 rfl, hS8449.cell 1 rfl 1 rfl, hS8449.cell 1 rfl 2 rfl, trivial⟩ ?_
    refine WL.store hS8449 0 rfl [(0, (iv p1)), (1, (iv p2)), (2, (.slice A8263 x8266.length c8264))] #[(iv p1), (iv p2), (.slice A8263 x8266.length c8264)] (fun fb => by kernel_rfl) (by kernel_rfl) rfl [1, 2] (by decide) (by decide) (fun w8452 hS8453 => ?_)
    refine ⟨trivial, ?_⟩
    refine seg 3 [] [6, 7] [(6, (pt g6032)), (7, (.bool true))] [] (fun fb => by kernel_rfl) rfl trivial ?_
    refine WL.done rfl ?_
    refine WX.next ?_
    refine WC.ret ?_
    injection hl7824 with hl7824
    subst hl7824
    injection hf with hf
    subst hf
    exact WX.blockR (WX.thenR (WX.thenR (WX.blockR (WX.thenR (WX.scopeR (WX.ret_ [.v (iv p1), .v (iv p2), .v (.slice A8263 x8266.length c8264)] (.tuple #[(.agg #[(iv p1), (iv p2), (.slice A8263 x8266.length c8264)]), (.bool true)]) [.cell ⟨g6032, 0, none⟩ (iv p1), .cell ⟨g6032, 1, none⟩ (iv p2), .cell ⟨g6032, 2, none⟩ (.slice A8263 x8266.length c8264)] (fun fb => by kernel_rfl) ⟨hS8453.cell 0 rfl 0 rfl, hS8453.cell 0 rfl 1 rfl, hS8453.cell 0 rfl 2 rfl, trivial⟩ ⟨_, rfl, A8263, c8264, rfl, (hS8453.sub [2] (by decide)).noR⟩))))))
   refine WC.condF2 (fun fb => by kernel_rfl) h7825 ?_
   refine WC.exit ?_
   injection hl7824 with hl7824
   exact WX.thenX (WX.thenX (WX.blockHere (WX.to Kx7819 () [6] rfl ⟨(hS7823.subR [1, 2]).sub [0] (by decide), hl7824.symm⟩)))
 rintro y8457 w8454 ⟨hS8455, hq8456⟩
 subst hq8456
 have hf := sum_inr hf
 refine WX.next ?_
 refine WC.seq ?_
 refine WC.region ?_
 refine seg 1 [] [6, 104] [(6, (pt g6032)), (104, (.agg #[(iv 0), (iv 0), (.slice none 0 0)]))] [] (fun fb => by kernel_rfl) rfl trivial ?_
 refine WL.store hS8455 0 rfl [(0, (iv 0)), (1, (iv 0)), (2, (.slice none 0 0))] #[(iv 0), (iv 0), (.slice none 0 0)] (fun fb => by kernel_rfl) (by kernel_rfl) rfl [] (by decide) (by decide) (fun w8459 hS8460 => ?_)
 refine ⟨trivial, ?_⟩
 refine seg 3 [] [6, 7] [(6, (pt g6032)), (7, (.bool false))] [] (fun fb => by kernel_rfl) rfl trivial ?_
 refine WL.done rfl ?_
 refine WX.next ?_
 refine WC.ret ?_
 have hS8461 := hS8460.nilrow 3 encInt
 injection hf with hf
 subst hf
 exact WX.scopeR (WX.ret_ [.v (iv 0), .v (iv 0), .v (.slice none 0 0)] (.tuple #[(.agg #[(iv 0), (iv 0), (.slice none ([] : List Int).length 0)]), (.bool false)]) [.cell ⟨g6032, 0, none⟩ (iv 0), .cell ⟨g6032, 1, none⟩ (iv 0), .cell ⟨g6032, 2, none⟩ (.slice none 0 0)] (fun fb => by kernel_rfl) ⟨hS8460.cell 0 rfl 0 rfl, hS8460.cell 0 rfl 1 rfl, hS8460.cell 0 rfl 2 rfl, trivial⟩ ⟨_, rfl, none, 0, rfl, (hS8461.sub [0] (by decide)).noR⟩)
theorem torus_Least_calls (k : Nat) (p0 : List Tile) (p1 : Int) (A_p0 : Option Addr) (c_p0 : Nat) (r : Pattern × Int) (w : World) (hR0 : RO NoS w (rowR enc_Tile A_p0 c_p0 p0)) (hf : torus_Least k p0 p1 = some r) :
  CallsR Try.prog 25 #[(.slice A_p0 p0.length c_p0), (iv p1)] w (fun v w' => ∃ (A1_ : Option Addr), ∃ (c1_ : Nat), v = (.tuple #[(.agg #[(iv r.1.Width), (iv r.1.Height), (.slice A1_ r.1.Cells.length c1_)]), (iv r.2)]) ∧ St NoS w w' [] [rowO 3 encInt A1_ c1_ r.1.Cells]) := by
 have hS : St NoS w w [rowR enc_Tile A_p0 c_p0 p0] [] := St.init (ro_cons hR0 (ro_nil _ _))
 refine enter 61 Try.func25 rfl Try.ntmps25 rfl ?_
 unfold torus_Least at hf
 refine WC.seq ?_
 refine WC.region ?_
 refine WL.new hS 4 [] (fun g => (.pointer (some ⟨g, 0, none⟩))) (.cells #[(iv 0), (iv 0), (.slice none 0 0)] 38 (0, 0)) [] (fun fb g => by kernel_rfl) trivial (fun g5999 w6000 hS6001 => ?_)
 refine ⟨trivial, ?_⟩
 refine seg 2 [] [0, 1, 4] [(0, (.slice A_p0 p0.length c_p0)), (1, (iv p1)), (4, (pt g5999))] [] (fun fb => by kernel_rfl) rfl trivial ?_
 refine WL.done rfl ?_
 refine WX.next ?_
 refine WC.seq ?_
 refine WC.seq ?_
 refine WC.region ?_
 refine seg 1 [] [0, 1, 4, 10] [(0, (.slice A_p0 p0.length c_p0)), (1, (iv p1)), (4, (pt g5999)), (10, (.slice A_p0 p0.length c_p0))] [] (fun fb => by kernel_rfl) rfl trivial ?_
 obtain ⟨t6003, ht6004, hf⟩ := bind_some hf
 refine WL.call (some 11) 38 #[(.slice A_p0 p0.length c_p0)] (fun fb => by kernel_rfl) (tile_Valid_calls _ p0 A_p0 c_p0 t6003 _ (hS6001.rd 0) ht6004) (fun v w6005 hR6006 => ?_)
 obtain ⟨rfl, hk_⟩ := hR6006
 have hS6007 := hS6001.keepN hk_
 refine ⟨trivial, ?_⟩
 refine seg 3 [] [0, 1, 4, 12] [(0, (.slice A_p0 p0.length c_p0)), (1, (iv p1)), (4, (pt g5999)), (12, (.bool (!t6003)))] [] (fun fb => by kernel_rfl) rfl trivial ?_
 refine WL.done rfl ?_
 refine WX.next ?_
 rcases br_some hf with ⟨h6008, hf⟩ | ⟨h6008, hf⟩
 ·refine WC.condT2 (fun fb => by kernel_rfl) h6008 ?_
  refine WC.seq ?_
  refine WC.region ?_
  refine seg 1 [] [4, 13] [(4, (pt g5999)), (13, (.agg #[(iv 0), (iv 0), (.slice none 0 0)]))] [] (fun fb => by kernel_rfl) rfl trivial ?_
  refine WL.store hS6007 0 rfl [(0, (iv 0)), (1, (iv 0)), (2, (.slice none 0 0))] #[(iv 0), (iv 0), (.slice none 0 0)] (fun fb => by kernel_rfl) (by kernel_rfl) rfl [] (by decide) (by decide) (fun w6009 hS6010 => ?_)
  refine ⟨trivial, ?_⟩
  refine seg 3 [] [4, 5] [(4, (pt g5999)), (5, (iv 1))] [] (fun fb => by kernel_rfl) rfl trivial ?_
  refine WL.done rfl ?_
  refine WX.next ?_
  refine WC.ret ?_
  have hS6011 := hS6010.nilrow 3 encInt
  injection hf with hf
  subst hf
  exact WX.thenR (WX.ret_ [.v (iv 0), .v (iv 0), .v (.slice none 0 0)] (.tuple #[(.agg #[(iv 0), (iv 0), (.slice none ([] : List Int).length 0)]), (iv 1)]) [.cell ⟨g5999, 0, none⟩ (iv 0), .cell ⟨g5999, 1, none⟩ (iv 0), .cell ⟨g5999, 2, none⟩ (.slice none 0 0)] (fun fb => by kernel_rfl) ⟨hS6010.cell 0 rfl 0 rfl, hS6010.cell 0 rfl 1 rfl, hS6010.cell 0 rfl 2 rfl, trivial⟩ ⟨_, rfl, none, 0, rfl, (hS6011.sub [0] (by decide)).noR⟩)
 refine WC.condF2 (fun fb => by kernel_rfl) h6008 ?_
 refine WC.skip ?_
 refine WX.next ?_
 refine WC.seq ?_
 refine WC.seq ?_
 refine WC.region ?_
 refine seg 3 [] [0, 1, 4, 16] [(0, (.slice A_p0 p0.length c_p0)), (1, (iv p1)), (4, (pt g5999)), (16, (.bool (decide (p1 < 1))))] [] (fun fb => by kernel_rfl) rfl trivial ?_
 refine WL.cutV (T := Bool) 6 (fun t => [(19, (.bool t)), (0, (.slice A_p0 p0.length c_p0)), (1, (iv p1)), (4, (pt g5999))]) (fun t => ((decide (p1 < 1)) || (decide (p1 > 6))) = t) (fun K => ?_) ?_
 ·
  rcases Bool.eq_false_or_eq_true (decide (p1 < 1)) with h6012 | h6012
  ·
   refine WL.setB 16 h6012 rfl ?_
   refine seg 6 [] [0, 1, 4, 19] [(0, (.slice A_p0 p0.length c_p0)), (1, (iv p1)), (4, (pt g5999)), (19, (.bool true))] [] (fun fb => by kernel_rfl) rfl trivial ?_
   exact WL.toV K true [19, 0, 1, 4] rfl (by first | (rw [h6012]; done) | (rw [h6012]; rfl))
  refine WL.setB 16 h6012 rfl ?_
  refine seg 6 [] [0, 1, 4, 19] [(0, (.slice A_p0 p0.length c_p0)), (1, (iv p1)), (4, (pt g5999)), (19, (.bool (decide (p1 > 6))))] [] (fun fb => by kernel_rfl) rfl trivial ?_
  exact WL.toV K (decide (p1 > 6)) [19, 0, 1, 4] rfl (by first | (rw [h6012]; done) | (rw [h6012]; rfl))
 rintro b6013 rfl
 refine WL.done rfl ?_
 refine WX.next ?_
 rcases br_some hf with ⟨h6014, hf⟩ | ⟨h6014, hf⟩
 ·refine WC.condT2 (fun fb => by kernel_rfl) h6014 ?_
  refine WC.seq ?_
  refine WC.region ?_
  refine seg 1 [] [4, 20] [(4, (pt g5999)), (20, (.agg #[(iv 0), (iv 0), (.slice none 0 0)]))] [] (fun fb => by kernel_rfl) rfl trivial ?_
  refine WL.store hS6007 0 rfl [(0, (iv 0)), (1, (iv 0)), (2, (.slice none 0 0))] #[(iv 0), (iv 0), (.slice none 0 0)] (fun fb => by kernel_rfl) (by kernel_rfl) rfl [] (by decide) (by decide) (fun w6015 hS6016 => ?_)
  refine ⟨trivial, ?_⟩
  refine seg 3 [] [4, 5] [(4, (pt g5999)), (5, (iv 2))] [] (fun fb => by kernel_rfl) rfl trivial ?_
  refine WL.done rfl ?_
  refine WX.next ?_
  refine WC.ret ?_
  have hS6017 := hS6016.nilrow 3 encInt
  injection hf with hf
  subst hf
  exact WX.thenR (WX.ret_ [.v (iv 0), .v (iv 0), .v (.slice none 0 0)] (.tuple #[(.agg #[(iv 0), (iv 0), (.slice none ([] : List Int).length 0)]), (iv 2)]) [.cell ⟨g5999, 0, none⟩ (iv 0), .cell ⟨g5999, 1, none⟩ (iv 0), .cell ⟨g5999, 2, none⟩ (.slice none 0 0)] (fun fb => by kernel_rfl) ⟨hS6016.cell 0 rfl 0 rfl, hS6016.cell 0 rfl 1 rfl, hS6016.cell 0 rfl 2 rfl, trivial⟩ ⟨_, rfl, none, 0, rfl, (hS6017.sub [0] (by decide)).noR⟩)
 refine WC.condF2 (fun fb => by kernel_rfl) h6014 ?_
 refine WC.skip ?_
 refine WX.next ?_
 refine WC.seq ?_
 refine WC.seq ?_
 refine WC.region ?_
 refine seg 2 [] [0, 1, 4, 21, 22] [(0, (.slice A_p0 p0.length c_p0)), (1, (iv p1)), (4, (pt g5999)), (21, (.slice A_p0 p0.length c_p0)), (22, (iv p1))] [] (fun fb => by kernel_rfl) rfl trivial ?_
 obtain ⟨t6018, ht6019, hf⟩ := bind_some hf
 refine WL.call (some 23) 45 #[(.slice A_p0 p0.length c_p0), (iv p1)] (fun fb => by kernel_rfl) (rows_Few_calls _ p0 p1 A_p0 c_p0 t6018 _ (hS6007.rd 0) ht6019) (fun v w6020 hR6021 => ?_)
 obtain ⟨rfl, hk_⟩ := hR6021
 have hS6022 := hS6007.keepN hk_
 refine ⟨trivial, ?_⟩
 refine seg 4 [] [0, 1, 4, 24] [(0, (.slice A_p0 p0.length c_p0)), (1, (iv p1)), (4, (pt g5999)), (24, (.bool (!t6018)))] [] (fun fb => by kernel_rfl) rfl trivial ?_
 refine WL.done rfl ?_
 refine WX.next ?_
 rcases br_some hf with ⟨h6023, hf⟩ | ⟨h6023, hf⟩
 ·refine WC.condT2 (fun fb => by kernel_rfl) h6023 ?_
  refine WC.seq ?_
  refine WC.region ?_
  refine seg 1 [] [4, 25] [(4, (pt g5999)), (25, (.agg #[(iv 0), (iv 0), (.slice none 0 0)]))] [] (fun fb => by kernel_rfl) rfl trivial ?_
  refine WL.store hS6022 0 rfl [(0, (iv 0)), (1, (iv 0)), (2, (.slice none 0 0))] #[(iv 0), (iv 0), (.slice none 0 0)] (fun fb => by kernel_rfl) (by kernel_rfl) rfl [] (by decide) (by decide) (fun w6024 hS6025 => ?_)
  refine ⟨trivial, ?_⟩
  refine seg 3 [] [4, 5] [(4, (pt g5999)), (5, (iv 4))] [] (fun fb => by kernel_rfl) rfl trivial ?_
  refine WL.done rfl ?_
  refine WX.next ?_
  refine WC.ret ?_
  have hS6026 := hS6025.nilrow 3 encInt
  injection hf with hf
  subst hf
  exact WX.thenR (WX.ret_ [.v (iv 0), .v (iv 0), .v (.slice none 0 0)] (.tuple #[(.agg #[(iv 0), (iv 0), (.slice none ([] : List Int).length 0)]), (iv 4)]) [.cell ⟨g5999, 0, none⟩ (iv 0), .cell ⟨g5999, 1, none⟩ (iv 0), .cell ⟨g5999, 2, none⟩ (.slice none 0 0)] (fun fb => by kernel_rfl) ⟨hS6025.cell 0 rfl 0 rfl, hS6025.cell 0 rfl 1 rfl, hS6025.cell 0 rfl 2 rfl, trivial⟩ ⟨_, rfl, none, 0, rfl, (hS6026.sub [0] (by decide)).noR⟩)
 refine WC.condF2 (fun fb => by kernel_rfl) h6023 ?_
 refine WC.skip ?_
 refine WX.next ?_
 refine WC.seq ?_
 refine WC.seq ?_
 refine WC.region ?_
 refine seg 1 [] [0, 1, 4, 6] [(0, (.slice A_p0 p0.length c_p0)), (1, (iv p1)), (4, (pt g5999)), (6, (iv 1))] [] (fun fb => by kernel_rfl) rfl trivial ?_
 refine WL.done rfl ?_
 refine WX.next ?_
 obtain ⟨x8771, hx8772, hf⟩ := bind_some hf
 refine WC.cutN (T := Unit) (fun t => [(4, (pt g5999))]) (fun t w1 => St NoS w w1 [rowR enc_Tile A_p0 c_p0 p0] [blk g5999 (.cells #[(iv 0), (iv 0), (.slice none 0 0)] 38 (0, 0))] ∧ x8771 = .inr t) (fun Kx8771 => ?_) ?_
 ·
  refine WC.block ?_
  refine WC.loop (T := Int) (fun t => [(0, (.slice A_p0 p0.length c_p0)), (1, (iv p1)), (4, (pt g5999)), (6, (iv t))]) (fun n t w1 => St NoS w w1 [rowR enc_Tile A_p0 c_p0 p0] [blk g5999 (.cells #[(iv 0), (iv 0), (.slice none 0 0)] 38 (0, 0))] ∧ torus_Least.l0 n t p0 p1 = some x8771) k 1 [0, 1, 4, 6] rfl ⟨(hS6022.subR [0]).sub [0] (by decide), hx8772⟩ ?_
  rintro k8773 x8770 w8774 ⟨hS8775, hl8776⟩
  cases k8773 with
  | zero => rw [torus_Least.l0] at hl8776; cases hl8776
  | succ k8773 =>
   rw [torus_Least.l0] at hl8776
   refine WC.seq ?_
   refine WC.seq ?_
   refine WC.region ?_
   refine seg 5 [] [0, 1, 4, 6, 30] [(0, (.slice A_p0 p0.length c_p0)), (1, (iv p1)), (4, (pt g5999)), (6, (iv x8770)), (30, (.bool (decide (x8770 ≤ w64 (p1 * p1)))))] [] (fun fb => by kernel_rfl) rfl trivial ?_
   refine WL.done rfl ?_
   refine WX.next ?_
   rcases br_some hl8776 with ⟨h8777, hl8776⟩ | ⟨h8777, hl8776⟩
   ·refine WC.condT2 (fun fb => by kernel_rfl) h8777 ?_
    refine WC.skip ?_
    refine WX.next ?_
    refine WC.seq ?_
    refine WC.block ?_
    refine WC.seq ?_
    refine WC.region ?_
    refine seg 1 [] [0, 1, 4, 6, 7] [(0, (.slice A_p0 p0.length c_p0)), (1, (iv p1)), (4, (pt g5999)), (6, (iv x8770)), (7, (iv 1))] [] (fun fb => by kernel_rfl) rfl trivial ?_
    refine WL.done rfl ?_
    refine WX.next ?_
    obtain ⟨x8874, hx8875, hl8776⟩ := bind_some hl8776
    refine WC.cutN (T := Unit) (fun t => [(0, (.slice A_p0 p0.length c_p0)), (1, (iv p1)), (4, (pt g5999)), (6, (iv x8770))]) (fun t w1 => St NoS w w1 [rowR enc_Tile A_p0 c_p0 p0] [blk g5999 (.cells #[(iv 0), (iv 0), (.slice none 0 0)] 38 (0, 0))] ∧ x8874 = .inr t) (fun Kx8874 => ?_) ?_
    ·
     refine WC.block ?_
     refine WC.loop (T := Int) (fun t => [(0, (.slice A_p0 p0.length c_p0)), (1, (iv p1)), (4, (pt g5999)), (6, (iv x8770)), (7, (iv t))]) (fun n t w1 => St NoS w w1 [rowR enc_Tile A_p0 c_p0 p0] [blk g5999 (.cells #[(iv 0), (iv 0), (.slice none 0 0)] 38 (0, 0))] ∧ torus_Least.l1 n t p0 p1 x8770 = some x8874) k8773 1 [0, 1, 4, 6, 7] rfl ⟨(hS8775.subR [0]).sub [0] (by decide), hx8875⟩ ?_
     rintro k8876 x8873 w8877 ⟨hS8878, hl8879⟩
     cases k8876 with
     | zero => rw [torus_Least.l1] at hl8879; cases hl8879
     | succ k8876 =>
      rw [torus_Least.l1] at hl8879
      refine WC.seq ?_
      refine WC.seq ?_
      refine WC.region ?_
      refine seg 3 [] [0, 1, 4, 6, 7, 35] [(0, (.slice A_p0 p0.length c_p0)), (1, (iv p1)), (4, (pt g5999)), (6, (iv x8770)), (7, (iv x8873)), (35, (.bool (decide (x8873 ≤ p1))))] [] (fun fb => by kernel_rfl) rfl trivial ?_
      refine WL.done rfl ?_
      refine WX.next ?_
      rcases br_some hl8879 with ⟨h8880, hl8879⟩ | ⟨h8880, hl8879⟩
      ·refine WC.condT2 (fun fb => by kernel_rfl) h8880 ?_
       refine WC.skip ?_
       refine WX.next ?_
       refine WC.seq ?_
       obtain ⟨x8901, hx8902, hl8879⟩ := bind_some hl8879
       refine WC.cutN (T := Unit) (fun t => [(0, (.slice A_p0 p0.length c_p0)), (1, (iv p1)), (4, (pt g5999)), (6, (iv x8770)), (7, (iv x8873))]) (fun t w1 => St NoS w w1 [rowR enc_Tile A_p0 c_p0 p0] [blk g5999 (.cells #[(iv 0), (iv 0), (.slice none 0 0)] 38 (0, 0))] ∧ x8901 = .inr t) (fun Kx8901 => ?_) ?_
       ·
        refine WC.block ?_
        refine WC.seq ?_
        refine WC.seq ?_
        refine WC.region ?_
        refine seg 2 [] [0, 1, 4, 6, 7, 38, 39] [(0, (.slice A_p0 p0.length c_p0)), (1, (iv p1)), (4, (pt g5999)), (6, (iv x8770)), (7, (iv x8873)), (38, (iv x8770)), (39, (iv x8873))] [] (fun fb => by kernel_rfl) rfl trivial ?_
        obtain ⟨h8903, hx8902⟩ := as_some hx8902
        refine seg 5 [] [0, 1, 4, 6, 7, 42] [(0, (.slice A_p0 p0.length c_p0)), (1, (iv p1)), (4, (pt g5999)), (6, (iv x8770)), (7, (iv x8873)), (42, (.bool ((Int.tmod x8770 x8873) != 0)))] [.ne x8873] (fun fb => by kernel_rfl) rfl ⟨h8903, trivial⟩ ?_
        refine WL.cutV (T := Bool) 11 (fun t => [(48, (.bool t)), (0, (.slice A_p0 p0.length c_p0)), (1, (iv p1)), (4, (pt g5999)), (6, (iv x8770)), (7, (iv x8873))]) (fun t => (((Int.tmod x8770 x8873) != 0) || (decide (w64 (Int.tdiv x8770 x8873) > p1))) = t) (fun K => ?_) ?_
        ·
         rcases Bool.eq_false_or_eq_true ((Int.tmod x8770 x8873) != 0) with h8904 | h8904
         ·
          refine WL.setB 42 h8904 rfl ?_
          refine seg 11 [] [0, 1, 4, 6, 7, 48] [(0, (.slice A_p0 p0.length c_p0)), (1, (iv p1)), (4, (pt g5999)), (6, (iv x8770)), (7, (iv x8873)), (48, (.bool true))] [] (fun fb => by kernel_rfl) rfl trivial ?_
          exact WL.toV K true [48, 0, 1, 4, 6, 7] rfl (by first | (rw [h8904]; done) | (rw [h8904]; rfl))
         refine WL.setB 42 h8904 rfl ?_
         refine seg 11 [] [0, 1, 4, 6, 7, 48] [(0, (.slice A_p0 p0.length c_p0)), (1, (iv p1)), (4, (pt g5999)), (6, (iv x8770)), (7, (iv x8873)), (48, (.bool (decide (w64 (Int.tdiv x8770 x8873) > p1))))] [.ne x8873] (fun fb => by kernel_rfl) rfl ⟨h8903, trivial⟩ ?_
         exact WL.toV K (decide (w64 (Int.tdiv x8770 x8873) > p1)) [48, 0, 1, 4, 6, 7] rfl (by first | (rw [h8904]; done) | (rw [h8904]; rfl))
        rintro b8905 rfl
        refine WL.done rfl ?_
        refine WX.next ?_
        rcases br_some hx8902 with ⟨h8906, hx8902⟩ | ⟨h8906, hx8902⟩
        ·refine WC.condT2 (fun fb => by kernel_rfl) h8906 ?_
         refine WC.exit ?_
         injection hx8902 with hx8902
         exact WX.thenX (WX.blockHere (WX.to Kx8901 () [0, 1, 4, 6, 7] rfl ⟨(hS8878.subR [0]).sub [0] (by decide), hx8902.symm⟩))
        refine WC.condF2 (fun fb => by kernel_rfl) h8906 ?_
        refine WC.skip ?_
        refine WX.next ?_
        refine WC.seq ?_
        refine WC.region ?_
        refine seg 5 [] [0, 1, 4, 6, 7, 50, 51, 54] [(0, (.slice A_p0 p0.length c_p0)), (1, (iv p1)), (4, (pt g5999)), (6, (iv x8770)), (7, (iv x8873)), (50, (.slice A_p0 p0.length c_p0)), (51, (iv x8873)), (54, (iv (w64 (Int.tdiv x8770 x8873))))] [.ne x8873] (fun fb => by kernel_rfl) rfl ⟨h8903, trivial⟩ ?_
        obtain ⟨t8907, ht8908, hx8902⟩ := bind_some hx8902
        refine WL.call (some 55) 46 #[(.slice A_p0 p0.length c_p0), (iv x8873), (iv (w64 (Int.tdiv x8770 x8873)))] (fun fb => by kernel_rfl) (torus_find_calls _ p0 x8873 (w64 (Int.tdiv x8770 x8873)) A_p0 c_p0 t8907 _ (hS8878.rd 0) ht8908) (fun v w8909 hR8910 => ?_)
        obtain ⟨A8912, c8913, rfl, hk_⟩ := hR8910
        have hS8911 : St NoS w w8909 [rowR enc_Tile A_p0 c_p0 p0] [rowO 3 encInt A8912 c8913 t8907.1.Cells, blk g5999 (.cells #[(iv 0), (iv 0), (.slice none 0 0)] 38 (0, 0))] := hS8878.call hk_ [] [0] (fun g hg => hg.elim) (by simp) (by decide)
        refine ⟨trivial, ?_⟩
        refine seg 9 [] [0, 1, 4, 6, 7, 56, 57] [(0, (.slice A_p0 p0.length c_p0)), (1, (iv p1)), (4, (pt g5999)), (6, (iv x8770)), (7, (iv x8873)), (56, (.agg #[(iv t8907.1.Width), (iv t8907.1.Height), (.slice A8912 t8907.1.Cells.length c8913)])), (57, (.bool t8907.2))] [] (fun fb => by kernel_rfl) rfl trivial ?_
        refine WL.new hS8911 8 [] (fun g => (.pointer (some ⟨g, 0, none⟩))) (.cells #[(iv 0), (iv 0), (.slice none 0 0)] 38 (0, 0)) [] (fun fb g => by kernel_rfl) trivial (fun g8914 w8915 hS8916 => ?_)
        refine ⟨trivial, ?_⟩
        refine WL.store hS8916 0 rfl [(0, (iv t8907.1.Width)), (1, (iv t8907.1.Height)), (2, (.slice A8912 t8907.1.Cells.length c8913))] #[(iv t8907.1.Width), (iv t8907.1.Height), (.slice A8912 t8907.1.Cells.length c8913)] (fun fb => by kernel_rfl) (by kernel_rfl) rfl [1, 2] (by decide) (by decide) (fun w8918 hS8919 => ?_)
        refine ⟨trivial, ?_⟩
        refine seg 12 [] [0, 1, 4, 6, 7, 8, 9] [(0, (.slice A_p0 p0.length c_p0)), (1, (iv p1)), (4, (pt g5999)), (6, (iv x8770)), (7, (iv x8873)), (8, (pt g8914)), (9, (.bool t8907.2))] [] (fun fb => by kernel_rfl) rfl trivial ?_
        refine WL.done rfl ?_
        refine WX.next ?_
        refine WC.seq ?_
        refine WC.region ?_
        refine seg 1 [] [0, 1, 4, 6, 7, 8, 58] [(0, (.slice A_p0 p0.length c_p0)), (1, (iv p1)), (4, (pt g5999)), (6, (iv x8770)), (7, (iv x8873)), (8, (pt g8914)), (58, (.bool t8907.2))] [] (fun fb => by kernel_rfl) rfl trivial ?_
        refine WL.done rfl ?_
        refine WX.next ?_
        rcases br_some hx8902 with ⟨h8920, hx8902⟩ | ⟨h8920, hx8902⟩
        ·refine WC.condT2 (fun fb => by kernel_rfl) h8920 ?_
         refine WC.seq ?_
         refine WC.region ?_
         refine seg 1 [.v (iv t8907.1.Width), .v (iv t8907.1.Height), .v (.slice A8912 t8907.1.Cells.length c8913)] [4, 59] [(4, (pt g5999)), (59, (.agg #[(iv t8907.1.Width), (iv t8907.1.Height), (.slice A8912 t8907.1.Cells.length c8913)]))] [.cell ⟨g8914, 0, none⟩ (iv t8907.1.Width), .cell ⟨g8914, 1, none⟩ (iv t8907.1.Height), .cell ⟨g8914, 2, none⟩ (.slice A8912 t8907.1.Cells.length c8913)] (fun fb => by kernel_rfl) rfl ⟨hS8919.cell 0 rfl 0 rfl, hS8919.cell 0 rfl 1 rfl, hS8919.cell 0 rfl 2 rfl, trivial⟩ ?_
         refine WL.store hS8919 2 rfl [(0, (iv t8907.1.Width)), (1, (iv t8907.1.Height)), (2, (.slice A8912 t8907.1.Cells.length c8913))] #[(iv t8907.1.Width), (iv t8907.1.Height), (.slice A8912 t8907.1.Cells.length c8913)] (fun fb => by kernel_rfl) (by kernel_rfl) rfl [0, 1] (by decide) (by decide) (fun w8921 hS8922 => ?_)
         refine ⟨trivial, ?_⟩
         refine seg 3 [] [4, 5] [(4, (pt g5999)), (5, (iv 0))] [] (fun fb => by kernel_rfl) rfl trivial ?_
         refine WL.done rfl ?_
         refine WX.next ?_
         refine WC.ret ?_
         injection hx8902 with hx8902
         subst hx8902
         injection hl8879 with hl8879
         subst hl8879
         injection hl8776 with hl8776
         subst hl8776
         injection hf with hf
         subst hf
         exact WX.blockR (WX.thenR (WX.thenR (WX.blockR (WX.blockR (WX.thenR (WX.thenR (WX.blockR (WX.thenR (WX.ret_ [.v (iv t8907.1.Width), .v (iv t8907.1.Height), .v (.slice A8912 t8907.1.Cells.length c8913)] (.tuple #[(.agg #[(iv t8907.1.Width), (iv t8907.1.Height), (.slice A8912 t8907.1.Cells.length c8913)]), (iv 0)]) [.cell ⟨g5999, 0, none⟩ (iv t8907.1.Width), .cell ⟨g5999, 1, none⟩ (iv t8907.1.Height), .cell ⟨g5999, 2, none⟩ (.slice A8912 t8907.1.Cells.length c8913)] (fun fb => by kernel_rfl) ⟨hS8922.cell 0 rfl 0 rfl, hS8922.cell 0 rfl 1 rfl, hS8922.cell 0 rfl 2 rfl, trivial⟩ ⟨_, rfl, A8912, c8913, rfl, (hS8922.sub [2] (by decide)).noR⟩)))))))))
        refine WC.condF2 (fun fb => by kernel_rfl) h8920 ?_
        refine WC.skip ?_
        injection hx8902 with hx8902
        exact WX.blockN (WX.to Kx8901 () [0, 1, 4, 6, 7] rfl ⟨(hS8919.subR [0]).sub [2] (by decide), hx8902.symm⟩)
       rintro y8926 w8923 ⟨hS8924, hq8925⟩
       subst hq8925
       have hl8879 := sum_inr hl8879
       refine WX.next ?_
       refine WC.region ?_
       refine seg 3 [] [0, 1, 4, 6, 7] [(0, (.slice A_p0 p0.length c_p0)), (1, (iv p1)), (4, (pt g5999)), (6, (iv x8770)), (7, (iv (w64 (x8873 + 1))))] [] (fun fb => by kernel_rfl) rfl trivial ?_
       refine WL.done rfl ?_
       exact WX.again k8876 (Nat.lt_succ_self _) (w64 (x8873 + 1)) [0, 1, 4, 6, 7] rfl ⟨(hS8924.subR [0]).sub [0] (by decide), hl8879⟩
      refine WC.condF2 (fun fb => by kernel_rfl) h8880 ?_
      refine WC.exit ?_
      injection hl8879 with hl8879
      exact WX.thenX (WX.thenX (WX.blockHere (WX.to Kx8874 () [0, 1, 4, 6] rfl ⟨(hS8878.subR [0]).sub [0] (by decide), hl8879.symm⟩)))
    rintro y8931 w8928 ⟨hS8929, hq8930⟩
    subst hq8930
    have hl8776 := sum_inr hl8776
    refine WX.blockN (WX.next ?_)
    refine WC.region ?_
    refine seg 3 [] [0, 1, 4, 6] [(0, (.slice A_p0 p0.length c_p0)), (1, (iv p1)), (4, (pt g5999)), (6, (iv (w64 (x8770 + 1))))] [] (fun fb => by kernel_rfl) rfl trivial ?_
    refine WL.done rfl ?_
    exact WX.again k8773 (Nat.lt_succ_self _) (w64 (x8770 + 1)) [0, 1, 4, 6] rfl ⟨(hS8929.subR [0]).sub [0] (by decide), hl8776⟩
   refine WC.condF2 (fun fb => by kernel_rfl) h8777 ?_
   refine WC.exit ?_
   injection hl8776 with hl8776
   exact WX.thenX (WX.thenX (WX.blockHere (WX.to Kx8771 () [4] rfl ⟨(hS8775.subR [0]).sub [0] (by decide), hl8776.symm⟩)))
 rintro y8936 w8933 ⟨hS8934, hq8935⟩
 subst hq8935
 have hf := sum_inr hf
 refine WX.next ?_
 refine WC.seq ?_
 refine WC.region ?_
 refine seg 1 [] [4, 60] [(4, (pt g5999)), (60, (.agg #[(iv 0), (iv 0), (.slice none 0 0)]))] [] (fun fb => by kernel_rfl) rfl trivial ?_
 refine WL.store hS8934 0 rfl [(0, (iv 0)), (1, (iv 0)), (2, (.slice none 0 0))] #[(iv 0), (iv 0), (.slice none 0 0)] (fun fb => by kernel_rfl) (by kernel_rfl) rfl [] (by decide) (by decide) (fun w8938 hS8939 => ?_)
 refine ⟨trivial, ?_⟩
 refine seg 3 [] [4, 5] [(4, (pt g5999)), (5, (iv 6))] [] (fun fb => by kernel_rfl) rfl trivial ?_
 refine WL.done rfl ?_
 refine WX.next ?_
 refine WC.ret ?_
 have hS8940 := hS8939.nilrow 3 encInt
 injection hf with hf
 subst hf
 exact WX.ret_ [.v (iv 0), .v (iv 0), .v (.slice none 0 0)] (.tuple #[(.agg #[(iv 0), (iv 0), (.slice none ([] : List Int).length 0)]), (iv 6)]) [.cell ⟨g5999, 0, none⟩ (iv 0), .cell ⟨g5999, 1, none⟩ (iv 0), .cell ⟨g5999, 2, none⟩ (.slice none 0 0)] (fun fb => by kernel_rfl) ⟨hS8939.cell 0 rfl 0 rfl, hS8939.cell 0 rfl 1 rfl, hS8939.cell 0 rfl 2 rfl, trivial⟩ ⟨_, rfl, none, 0, rfl, (hS8940.sub [0] (by decide)).noR⟩
theorem decide_Decide_calls (k : Nat) (p0 : List Tile) (A_p0 : Option Addr) (c_p0 : Nat) (r : Verdict × Int) (w : World) (hR0 : RO NoS w (rowR enc_Tile A_p0 c_p0 p0)) (hf : decide_Decide k p0 = some r) :
  CallsR Try.prog 22 #[(.slice A_p0 p0.length c_p0)] w (fun v w' => ∃ (A1_ : Option Addr), ∃ (c1_ : Nat), v = (.tuple #[(.agg #[(.bool r.1.Fills), (iv r.1.Torus.Width), (iv r.1.Torus.Height), (.slice A1_ r.1.Torus.Cells.length c1_), (iv r.1.Side)]), (iv r.2)]) ∧ St NoS w w' [] [rowO 3 encInt A1_ c1_ r.1.Torus.Cells]) := by
 have hS : St NoS w w [rowR enc_Tile A_p0 c_p0 p0] [] := St.init (ro_cons hR0 (ro_nil _ _))
 refine enter 34 Try.func22 rfl Try.ntmps22 rfl ?_
 unfold decide_Decide at hf
 refine WC.seq ?_
 refine WC.region ?_
 refine WL.new hS 2 [] (fun g => (.pointer (some ⟨g, 0, none⟩))) (.cells #[(.bool false), (iv 0), (iv 0), (.slice none 0 0), (iv 0)] 40 (0, 0)) [] (fun fb g => by kernel_rfl) trivial (fun g25 w26 hS27 => ?_)
 refine ⟨trivial, ?_⟩
 refine WL.new hS27 3 [] (fun g => (.pointer (some ⟨g, 0, none⟩))) (.cells #[(iv 0)] 25 (0, 0)) [] (fun fb g => by kernel_rfl) trivial (fun g29 w30 hS31 => ?_)
 refine ⟨trivial, ?_⟩
 refine WL.done rfl ?_
 refine WX.next ?_
 refine WC.seq ?_
 refine WC.seq ?_
 refine WC.region ?_
 refine seg 1 [] [0, 2, 3, 9] [(0, (.slice A_p0 p0.length c_p0)), (2, (pt g25)), (3, (pt g29)), (9, (.slice A_p0 p0.length c_p0))] [] (fun fb => by kernel_rfl) rfl trivial ?_
 obtain ⟨t228, ht229, hf⟩ := bind_some hf
 refine WL.call (some 10) 43 #[(.slice A_p0 p0.length c_p0)] (fun fb => by kernel_rfl) (decide_asks_calls _ p0 A_p0 c_p0 t228 _ (hS31.rd 0) ht229) (fun v w230 hR231 => ?_)
 obtain ⟨rfl, hk_⟩ := hR231
 have hS232 := hS31.keepN hk_
 refine ⟨trivial, ?_⟩
 refine seg 3 [] [0, 2, 3, 4] [(0, (.slice A_p0 p0.length c_p0)), (2, (pt g25)), (3, (pt g29)), (4, (iv t228))] [] (fun fb => by kernel_rfl) rfl trivial ?_
 refine WL.done rfl ?_
 refine WX.next ?_
 refine WC.seq ?_
 refine WC.region ?_
 refine seg 2 [] [0, 2, 3, 4, 12] [(0, (.slice A_p0 p0.length c_p0)), (2, (pt g25)), (3, (pt g29)), (4, (iv t228)), (12, (.bool (t228 != 0)))] [] (fun fb => by kernel_rfl) rfl trivial ?_
 refine WL.done rfl ?_
 refine WX.next ?_
 rcases br_some hf with ⟨h233, hf⟩ | ⟨h233, hf⟩
 ·refine WC.condT2 (fun fb => by kernel_rfl) h233 ?_
  refine WC.seq ?_
  refine WC.region ?_
  refine seg 2 [] [2, 3, 13, 14] [(2, (pt g25)), (3, (pt g29)), (13, (.agg #[(.bool false), (iv 0), (iv 0), (.slice none 0 0), (iv 0)])), (14, (iv t228))] [] (fun fb => by kernel_rfl) rfl trivial ?_
  refine WL.store hS232 1 rfl [(0, (.bool false)), (1, (iv 0)), (2, (iv 0)), (3, (.slice none 0 0)), (4, (iv 0))] #[(.bool false), (iv 0), (iv 0), (.slice none 0 0), (iv 0)] (fun fb => by kernel_rfl) (by kernel_rfl) rfl [0] (by decide) (by decide) (fun w234 hS235 => ?_)
  refine ⟨trivial, ?_⟩
  refine WL.store hS235 1 rfl [(0, (iv t228))] #[(iv t228)] (fun fb => by kernel_rfl) (by kernel_rfl) rfl [0] (by decide) (by decide) (fun w236 hS237 => ?_)
  refine ⟨trivial, ?_⟩
  refine WL.done rfl ?_
  refine WX.next ?_
  refine WC.ret ?_
  have hS238 := hS237.nilrow 3 encInt
  injection hf with hf
  subst hf
  exact WX.thenR (WX.ret_ [.v (.bool false), .v (iv 0), .v (iv 0), .v (.slice none 0 0), .v (iv 0), .v (iv t228)] (.tuple #[(.agg #[(.bool false), (iv 0), (iv 0), (.slice none ([] : List Int).length 0), (iv 0)]), (iv t228)]) [.cell ⟨g25, 0, none⟩ (.bool false), .cell ⟨g25, 1, none⟩ (iv 0), .cell ⟨g25, 2, none⟩ (iv 0), .cell ⟨g25, 3, none⟩ (.slice none 0 0), .cell ⟨g25, 4, none⟩ (iv 0), .cell ⟨g29, 0, none⟩ (iv t228)] (fun fb => by kernel_rfl) ⟨hS237.cell 1 rfl 0 rfl, hS237.cell 1 rfl 1 rfl, hS237.cell 1 rfl 2 rfl, hS237.cell 1 rfl 3 rfl, hS237.cell 1 rfl 4 rfl, hS237.cell 0 rfl 0 rfl, trivial⟩ ⟨_, rfl, none, 0, rfl, (hS238.sub [0] (by decide)).noR⟩)
 refine WC.condF2 (fun fb => by kernel_rfl) h233 ?_
 refine WC.skip ?_
 refine WX.next ?_
 refine WC.seq ?_
 refine WC.seq ?_
 refine WC.region ?_
 refine seg 1 [] [0, 2, 3, 15] [(0, (.slice A_p0 p0.length c_p0)), (2, (pt g25)), (3, (pt g29)), (15, (.slice A_p0 p0.length c_p0))] [] (fun fb => by kernel_rfl) rfl trivial ?_
 obtain ⟨t243, ht244, hf⟩ := bind_some hf
 refine WL.call (some 16) 44 #[(.slice A_p0 p0.length c_p0)] (fun fb => by kernel_rfl) (decide_sides_calls p0 A_p0 c_p0 t243 _ (hS232.rd 0) ht244) (fun v w245 hR246 => ?_)
 obtain ⟨g248, rfl, hk_⟩ := hR246
 have hS247 : St NoS w w245 [rowR enc_Tile A_p0 c_p0 p0] [blk g248 (.cells #[(.slice A_p0 p0.length c_p0)] 22 (0, 0)), blk g29 (.cells #[(iv 0)] 25 (0, 0)), blk g25 (.cells #[(.bool false), (iv 0), (iv 0), (.slice none 0 0), (iv 0)] 40 (0, 0))] := hS232.call hk_ [] [0, 1] (fun g hg => hg.elim) (by simp) (by decide)
 refine ⟨trivial, ?_⟩
 refine WL.done rfl ?_
 refine WX.next ?_
 refine WC.block ?_
 refine WC.rangeO hS247 (fun _ _ h => h) rfl (gf := 61) (lb := [(pt g248)]) (fun fb => by kernel_rfl) (fun _ => by kernel_rfl) (fun LO265 LB266 LX267 l268 D269 w270 hK271 hS272 => ?_)
 have hS275 : St NoS w w270 [rowR enc_Tile A_p0 c_p0 p0] [(fun (s_ : Int × Int) (t_ : Unit) => sepO (blk l268 (LO265 (pendN [.ret] s_.2)) :: [blk g25 (.cells #[(.bool false), (iv 0), (iv 0), (.slice none 0 0), (iv s_.1)] 40 (0, 0)), blk g29 (.cells #[(iv 0)] 25 (0, 0))])) (0, (0 : Int)) (), blk D269 (.deferred (some [])), blk g248 (.cells #[(.slice A_p0 p0.length c_p0)] 22 (0, 0))] := hS272.pack [0, 4, 3] [1, 2] (by decide) (by decide) (by decide)
 have hY278 : ∀ (x0_ : Int) (x1_ : Bool) (s_ : Int × Int) (t_ : Unit) (r_ : (Int × Int) × Bool) (w_ : World), RO (fpL [(fun (s_ : Int × Int) (t_ : Unit) => sepO (blk l268 (LO265 (pendN [.ret] s_.2)) :: [blk g25 (.cells #[(.bool false), (iv 0), (iv 0), (.slice none 0 0), (iv s_.1)] 40 (0, 0)), blk g29 (.cells #[(iv 0)] 25 (0, 0))])) s_ t_]) w_ (poolO [rowR enc_Tile A_p0 c_p0 p0]) → IoOK w_ [(fun (s_ : Int × Int) (t_ : Unit) => sepO (blk l268 (LO265 (pendN [.ret] s_.2)) :: [blk g25 (.cells #[(.bool false), (iv 0), (iv 0), (.slice none 0 0), (iv s_.1)] 40 (0, 0)), blk g29 (.cells #[(iv 0)] 25 (0, 0))])) s_ t_] → decide_Decide.b1 k  x0_ x1_ s_ = some r_ → YieldR Try.prog (.func (.yield l268) #[] #[]) #[(iv x0_), (.bool x1_)] w_ (fun v_ w' => ∃ t1_, v_ = .bool r_.2 ∧ St (fpL [(fun (s_ : Int × Int) (t_ : Unit) => sepO (blk l268 (LO265 (pendN [.ret] s_.2)) :: [blk g25 (.cells #[(.bool false), (iv 0), (iv 0), (.slice none 0 0), (iv s_.1)] 40 (0, 0)), blk g29 (.cells #[(iv 0)] 25 (0, 0))])) s_ t_]) w_ w' [] [(fun (s_ : Int × Int) (t_ : Unit) => sepO (blk l268 (LO265 (pendN [.ret] s_.2)) :: [blk g25 (.cells #[(.bool false), (iv 0), (iv 0), (.slice none 0 0), (iv s_.1)] 40 (0, 0)), blk g29 (.cells #[(iv 0)] 25 (0, 0))])) r_.1 t1_]) := by
  rintro x276 x277 ⟨x264, j279⟩ ⟨⟩ r280 w281 hRd282 hI283 hf284
  rw [decide_Decide.b1] at hf284
  obtain ⟨hj286, hf284⟩ := as_some hf284
  subst hj286
  have hRo287 := hRd282.openSep
  have hS285 : St (fpL [blk l268 (LO265 none), blk g25 (.cells #[(.bool false), (iv 0), (iv 0), (.slice none 0 0), (iv x264)] 40 (0, 0)), blk g29 (.cells #[(iv 0)] 25 (0, 0))]) w281 w281 [rowR enc_Tile A_p0 c_p0 p0] [blk l268 (LO265 none), blk g25 (.cells #[(.bool false), (iv 0), (iv 0), (.slice none 0 0), (iv x264)] 40 (0, 0)), blk g29 (.cells #[(iv 0)] 25 (0, 0))] := St.initIO (ro_cons (poolO.ro hRo287 0) (ro_nil _ _)) hI283.openSep
  refine YieldR.of_loop hK271 (hS285.blkAt 0 rfl) [(iv x276), (.bool x277)] [0, 2, 3] [(0, (.slice A_p0 p0.length c_p0)), (2, (pt g25)), (3, (pt g29))] [(18, (.bool x277)), (17, (iv x276)), (0, (.slice A_p0 p0.length c_p0)), (2, (pt g25)), (3, (pt g29))] rfl rfl rfl rfl rfl ?_
  refine WC.seq ?_
  refine WC.region ?_
  refine seg 1 [] [0, 2, 3, 5, 18] [(0, (.slice A_p0 p0.length c_p0)), (2, (pt g25)), (3, (pt g29)), (5, (iv x276)), (18, (.bool x277))] [] (fun fb => by kernel_rfl) rfl trivial ?_
  refine WL.done rfl ?_
  refine WX.next ?_
  refine WC.region ?_
  refine seg 1 [] [0, 2, 3, 5, 6] [(0, (.slice A_p0 p0.length c_p0)), (2, (pt g25)), (3, (pt g29)), (5, (iv x276)), (6, (.bool x277))] [] (fun fb => by kernel_rfl) rfl trivial ?_
  refine WL.done rfl ?_
  refine WX.begin' hK271 (hS285.blkAt 0 rfl) ?_
  have hS288 := hS285.putO 0 rfl LB266 [1, 2] (by decide) (by decide)
  revert hS288
  generalize World.putObj _ _ _ = w289
  intro hS288
  have hS290 : St (fpL [blk l268 (LO265 none), blk g25 (.cells #[(.bool false), (iv 0), (iv 0), (.slice none 0 0), (iv x264)] 40 (0, 0)), blk g29 (.cells #[(iv 0)] 25 (0, 0))]) w281 w289 [rowR enc_Tile A_p0 c_p0 p0] [blk l268 LB266, blk g25 (.cells #[(.bool false), (iv 0), (iv 0), (.slice none 0 0), (iv x264)] 40 (0, 0)), blk g29 (.cells #[(iv 0)] 25 (0, 0))] := hS288
  refine WC.block ?_
  refine WC.seq ?_
  refine WC.region ?_
  refine seg 2 [] [0, 2, 3, 5, 20] [(0, (.slice A_p0 p0.length c_p0)), (2, (pt g25)), (3, (pt g29)), (5, (iv x276)), (20, (.bool (!x277)))] [] (fun fb => by kernel_rfl) rfl trivial ?_
  refine WL.done rfl ?_
  refine WX.next ?_
  rcases br_some hf284 with ⟨h291, hf284⟩ | ⟨h291, hf284⟩
  ·refine WC.condT2 (fun fb => by kernel_rfl) h291 ?_
   refine WC.seq ?_
   refine WC.region ?_
   refine seg 2 [] [0, 2, 3, 22] [(0, (.slice A_p0 p0.length c_p0)), (2, (pt g25)), (3, (pt g29)), (22, (.agg #[(.bool false), (iv 0), (iv 0), (.slice none 0 0), (iv x276)]))] [] (fun fb => by kernel_rfl) rfl trivial ?_
   refine WL.store hS290 1 rfl [(0, (.bool false)), (1, (iv 0)), (2, (iv 0)), (3, (.slice none 0 0)), (4, (iv x276))] #[(.bool false), (iv 0), (iv 0), (.slice none 0 0), (iv x276)] (fun fb => by kernel_rfl) (by kernel_rfl) rfl [0, 2] (by decide) (by decide) (fun w292 hS293 => ?_)
   refine ⟨trivial, ?_⟩
   refine WL.store hS293 2 rfl [(0, (iv 0))] #[(iv 0)] (fun fb => by kernel_rfl) (by kernel_rfl) rfl [0, 1] (by decide) (by decide) (fun w294 hS295 => ?_)
   refine ⟨trivial, ?_⟩
   refine WL.done rfl ?_
   refine WX.next ?_
   refine WC.ret ?_
   injection hf284 with hf284
   subst hf284
   exact WX.blockR (WX.roundR' hK271 (hS295.blkAt 2 rfl) ⟨(), rfl, ((hS295.putO 2 rfl (LO265 (some .ret)) [0, 1] (by decide) (by decide)).sub [0, 2, 1] (by decide)).noR.closeSep⟩)
  refine WC.condF2 (fun fb => by kernel_rfl) h291 ?_
  refine WC.skip ?_
  injection hf284 with hf284
  subst hf284
  exact WX.blockN (WX.roundN' hK271 (hS290.blkAt 0 rfl) ⟨(), rfl, ((hS290.putO 0 rfl (LO265 none) [1, 2] (by decide) (by decide)).sub [0, 1, 2] (by decide)).noR.closeSep⟩)
 obtain ⟨t5984, ht5985, hf⟩ := bind_some hf
 refine (decide_sides_1_y_calls _ p0 (decide_Decide.b1 k ) (0, (0 : Int)) g248 A_p0 c_p0 (.func (.yield l268) #[] #[]) (fun (s_ : Int × Int) (t_ : Unit) => sepO (blk l268 (LO265 (pendN [.ret] s_.2)) :: [blk g25 (.cells #[(.bool false), (iv 0), (iv 0), (.slice none 0 0), (iv s_.1)] 40 (0, 0)), blk g29 (.cells #[(iv 0)] 25 (0, 0))])) () (poolO [rowR enc_Tile A_p0 c_p0 p0]) t5984 _ (hS275.rdP [0]) (hS275.owT [0] 2 (by decide)) (hS275.rdT [0] 0) (hS275.io [0] (by decide)) hY278 ht5985).post (fun v w5986 hR5987 => ?_)
 obtain ⟨tt5989, rfl, hk_⟩ := hR5987
 have hS5988 : St NoS w w5986 [rowR enc_Tile A_p0 c_p0 p0] [(fun (s_ : Int × Int) (t_ : Unit) => sepO (blk l268 (LO265 (pendN [.ret] s_.2)) :: [blk g25 (.cells #[(.bool false), (iv 0), (iv 0), (.slice none 0 0), (iv s_.1)] 40 (0, 0)), blk g29 (.cells #[(iv 0)] 25 (0, 0))])) t5984 tt5989, blk D269 (.deferred (some [])), blk g248 (.cells #[(.slice A_p0 p0.length c_p0)] 22 (0, 0))] := hS275.call hk_ [0] [1, 2] (fun g hg => fpL_sel g hg) (by decide) (by decide)
 have hS5990 : St NoS w w5986 [rowR enc_Tile A_p0 c_p0 p0] [blk l268 (LO265 (pendN [.ret] t5984.2)), blk g25 (.cells #[(.bool false), (iv 0), (iv 0), (.slice none 0 0), (iv t5984.1)] 40 (0, 0)), blk g29 (.cells #[(iv 0)] 25 (0, 0)), blk D269 (.deferred (some [])), blk g248 (.cells #[(.slice A_p0 p0.length c_p0)] 22 (0, 0))] := hS5988.unpack 0 rfl [1, 2] (by decide) (by decide)
 refine ⟨_, hS5990.blkAt 0 rfl, ?_⟩
 have hS5991 := (hS5990.putO 0 rfl (LX267 (pendN [.ret] t5984.2)) [1, 2, 3, 4] (by decide) (by decide)).tail
 revert hS5991
 generalize World.putObj _ _ _ = w5992
 intro hS5991
 have hS5993 : St NoS w w5992 [rowR enc_Tile A_p0 c_p0 p0] [blk g25 (.cells #[(.bool false), (iv 0), (iv 0), (.slice none 0 0), (iv t5984.1)] 40 (0, 0)), blk g29 (.cells #[(iv 0)] 25 (0, 0)), blk D269 (.deferred (some [])), blk g248 (.cells #[(.slice A_p0 p0.length c_p0)] 22 (0, 0))] := hS5991
 rcases br_some hf with ⟨h5994, hf⟩ | ⟨h5994, hf⟩
 ·
  have hj_ := eq_of_beq h5994
  rw [hj_]
  refine WC.keep [0, 2, 3, 4294967295] [(0, (.slice A_p0 p0.length c_p0)), (2, (pt g25)), (3, (pt g29)), (4294967295, (.func (.yield D269) #[] #[]))] rfl ?_
  refine WC.ret ?_
  have hS5995 := hS5993.nilrow 3 encInt
  injection hf with hf
  subst hf
  exact WX.blockR (WX.thenR (WX.retM hS5995 3 rfl rfl [0, 1, 2, 4] (by decide) (by decide) [.v (.bool false), .v (iv 0), .v (iv 0), .v (.slice none ([] : List Int).length 0), .v (iv t5984.1), .v (iv 0)] (.tuple #[(.agg #[(.bool false), (iv 0), (iv 0), (.slice none ([] : List Int).length 0), (iv t5984.1)]), (iv 0)]) [.cell ⟨g25, 0, none⟩ (.bool false), .cell ⟨g25, 1, none⟩ (iv 0), .cell ⟨g25, 2, none⟩ (iv 0), .cell ⟨g25, 3, none⟩ (.slice none ([] : List Int).length 0), .cell ⟨g25, 4, none⟩ (iv t5984.1), .cell ⟨g29, 0, none⟩ (iv 0)] (fun fb => by kernel_rfl) (fun w5997 hS5996 => ⟨⟨hS5996.cell 1 rfl 0 rfl, hS5996.cell 1 rfl 1 rfl, hS5996.cell 1 rfl 2 rfl, hS5996.cell 1 rfl 3 rfl, hS5996.cell 1 rfl 4 rfl, hS5996.cell 2 rfl 0 rfl, trivial⟩, ⟨none, 0, rfl, (hS5996.sub [0] (by decide)).noR⟩⟩)))
 obtain ⟨h5998, hf⟩ := as_some hf
 rw [h5998]
 refine WX.keep [0, 2, 3, 4294967295] [(0, (.slice A_p0 p0.length c_p0)), (2, (pt g25)), (3, (pt g29)), (4294967295, (.func (.yield D269) #[] #[]))] rfl ?_
 refine WX.blockN (WX.next ?_)
 refine WC.seq ?_
 refine WC.region ?_
 refine seg 1 [] [2, 3, 24, 4294967295] [(2, (pt g25)), (3, (pt g29)), (24, (.slice A_p0 p0.length c_p0)), (4294967295, (.func (.yield D269) #[] #[]))] [] (fun fb => by kernel_rfl) rfl trivial ?_
 obtain ⟨t8941, ht8942, hf⟩ := bind_some hf
 refine WL.call (some 25) 25 #[(.slice A_p0 p0.length c_p0), (iv 6)] (fun fb => by kernel_rfl) (torus_Least_calls _ p0 6 A_p0 c_p0 t8941 _ (hS5993.rd 0) ht8942) (fun v w8943 hR8944 => ?_)
 obtain ⟨A8946, c8947, rfl, hk_⟩ := hR8944
 have hS8945 : St NoS w w8943 [rowR enc_Tile A_p0 c_p0 p0] [rowO 3 encInt A8946 c8947 t8941.1.Cells, blk g25 (.cells #[(.bool false), (iv 0), (iv 0), (.slice none 0 0), (iv t5984.1)] 40 (0, 0)), blk g29 (.cells #[(iv 0)] 25 (0, 0)), blk D269 (.deferred (some [])), blk g248 (.cells #[(.slice A_p0 p0.length c_p0)] 22 (0, 0))] := hS5993.call hk_ [] [0, 1, 2, 3] (fun g hg => hg.elim) (by simp) (by decide)
 refine ⟨trivial, ?_⟩
 refine seg 5 [] [2, 3, 26, 27, 4294967295] [(2, (pt g25)), (3, (pt g29)), (26, (.agg #[(iv t8941.1.Width), (iv t8941.1.Height), (.slice A8946 t8941.1.Cells.length c8947)])), (27, (iv t8941.2)), (4294967295, (.func (.yield D269) #[] #[]))] [] (fun fb => by kernel_rfl) rfl trivial ?_
 refine WL.new hS8945 7 [] (fun g => (.pointer (some ⟨g, 0, none⟩))) (.cells #[(iv 0), (iv 0), (.slice none 0 0)] 38 (0, 0)) [] (fun fb g => by kernel_rfl) trivial (fun g8948 w8949 hS8950 => ?_)
 refine ⟨trivial, ?_⟩
 refine WL.store hS8950 0 rfl [(0, (iv t8941.1.Width)), (1, (iv t8941.1.Height)), (2, (.slice A8946 t8941.1.Cells.length c8947))] #[(iv t8941.1.Width), (iv t8941.1.Height), (.slice A8946 t8941.1.Cells.length c8947)] (fun fb => by kernel_rfl) (by kernel_rfl) rfl [1, 2, 3, 4, 5] (by decide) (by decide) (fun w8952 hS8953 => ?_)
 refine ⟨trivial, ?_⟩
 refine seg 8 [] [2, 3, 7, 8, 4294967295] [(2, (pt g25)), (3, (pt g29)), (7, (pt g8948)), (8, (iv t8941.2)), (4294967295, (.func (.yield D269) #[] #[]))] [] (fun fb => by kernel_rfl) rfl trivial ?_
 refine WL.done rfl ?_
 refine WX.next ?_
 refine WC.seq ?_
 refine WC.seq ?_
 refine WC.region ?_
 refine seg 2 [] [2, 3, 7, 8, 29, 4294967295] [(2, (pt g25)), (3, (pt g29)), (7, (pt g8948)), (8, (iv t8941.2)), (29, (.bool (t8941.2 != 0))), (4294967295, (.func (.yield D269) #[] #[]))] [] (fun fb => by kernel_rfl) rfl trivial ?_
 refine WL.done rfl ?_
 refine WX.next ?_
 rcases br_some hf with ⟨h8954, hf⟩ | ⟨h8954, hf⟩
 ·refine WC.condT2 (fun fb => by kernel_rfl) h8954 ?_
  refine WC.seq ?_
  refine WC.region ?_
  refine seg 2 [] [2, 3, 30, 31, 4294967295] [(2, (pt g25)), (3, (pt g29)), (30, (.agg #[(.bool false), (iv 0), (iv 0), (.slice none 0 0), (iv 0)])), (31, (iv t8941.2)), (4294967295, (.func (.yield D269) #[] #[]))] [] (fun fb => by kernel_rfl) rfl trivial ?_
  refine WL.store hS8953 2 rfl [(0, (.bool false)), (1, (iv 0)), (2, (iv 0)), (3, (.slice none 0 0)), (4, (iv 0))] #[(.bool false), (iv 0), (iv 0), (.slice none 0 0), (iv 0)] (fun fb => by kernel_rfl) (by kernel_rfl) rfl [0, 1, 3, 4, 5] (by decide) (by decide) (fun w8955 hS8956 => ?_)
  refine ⟨trivial, ?_⟩
  refine WL.store hS8956 3 rfl [(0, (iv t8941.2))] #[(iv t8941.2)] (fun fb => by kernel_rfl) (by kernel_rfl) rfl [0, 1, 2, 4, 5] (by decide) (by decide) (fun w8957 hS8958 => ?_)
  refine ⟨trivial, ?_⟩
  refine WL.done rfl ?_
  refine WX.next ?_
  refine WC.ret ?_
  have hS8959 := hS8958.nilrow 3 encInt
  injection hf with hf
  subst hf
  exact WX.thenR (WX.retM hS8959 5 rfl rfl [0, 1, 2, 3, 4, 6] (by decide) (by decide) [.v (.bool false), .v (iv 0), .v (iv 0), .v (.slice none ([] : List Int).length 0), .v (iv 0), .v (iv t8941.2)] (.tuple #[(.agg #[(.bool false), (iv 0), (iv 0), (.slice none ([] : List Int).length 0), (iv 0)]), (iv t8941.2)]) [.cell ⟨g25, 0, none⟩ (.bool false), .cell ⟨g25, 1, none⟩ (iv 0), .cell ⟨g25, 2, none⟩ (iv 0), .cell ⟨g25, 3, none⟩ (.slice none ([] : List Int).length 0), .cell ⟨g25, 4, none⟩ (iv 0), .cell ⟨g29, 0, none⟩ (iv t8941.2)] (fun fb => by kernel_rfl) (fun w8961 hS8960 => ⟨⟨hS8960.cell 2 rfl 0 rfl, hS8960.cell 2 rfl 1 rfl, hS8960.cell 2 rfl 2 rfl, hS8960.cell 2 rfl 3 rfl, hS8960.cell 2 rfl 4 rfl, hS8960.cell 1 rfl 0 rfl, trivial⟩, ⟨none, 0, rfl, (hS8960.sub [0] (by decide)).noR⟩⟩))
 refine WC.condF2 (fun fb => by kernel_rfl) h8954 ?_
 refine WC.skip ?_
 refine WX.next ?_
 refine WC.seq ?_
 refine WC.region ?_
 refine seg 2 [.v (iv t8941.1.Width), .v (iv t8941.1.Height), .v (.slice A8946 t8941.1.Cells.length c8947)] [2, 3, 33, 4294967295] [(2, (pt g25)), (3, (pt g29)), (33, (.agg #[(.bool true), (iv t8941.1.Width), (iv t8941.1.Height), (.slice A8946 t8941.1.Cells.length c8947), (iv 0)])), (4294967295, (.func (.yield D269) #[] #[]))] [.cell ⟨g8948, 0, none⟩ (iv t8941.1.Width), .cell ⟨g8948, 1, none⟩ (iv t8941.1.Height), .cell ⟨g8948, 2, none⟩ (.slice A8946 t8941.1.Cells.length c8947)] (fun fb => by kernel_rfl) rfl ⟨hS8953.cell 0 rfl 0 rfl, hS8953.cell 0 rfl 1 rfl, hS8953.cell 0 rfl 2 rfl, trivial⟩ ?_
 refine WL.store hS8953 2 rfl [(0, (.bool true)), (1, (iv t8941.1.Width)), (2, (iv t8941.1.Height)), (3, (.slice A8946 t8941.1.Cells.length c8947)), (4, (iv 0))] #[(.bool true), (iv t8941.1.Width), (iv t8941.1.Height), (.slice A8946 t8941.1.Cells.length c8947), (iv 0)] (fun fb => by kernel_rfl) (by kernel_rfl) rfl [0, 1, 3, 4, 5] (by decide) (by decide) (fun w8962 hS8963 => ?_)
 refine ⟨trivial, ?_⟩
 refine WL.store hS8963 3 rfl [(0, (iv 0))] #[(iv 0)] (fun fb => by kernel_rfl) (by kernel_rfl) rfl [0, 1, 2, 4, 5] (by decide) (by decide) (fun w8964 hS8965 => ?_)
 refine ⟨trivial, ?_⟩
 refine WL.done rfl ?_
 refine WX.next ?_
 refine WC.ret ?_
 injection hf with hf
 subst hf
 exact WX.retM hS8965 4 rfl rfl [0, 1, 2, 3, 5] (by decide) (by decide) [.v (.bool true), .v (iv t8941.1.Width), .v (iv t8941.1.Height), .v (.slice A8946 t8941.1.Cells.length c8947), .v (iv 0), .v (iv 0)] (.tuple #[(.agg #[(.bool true), (iv t8941.1.Width), (iv t8941.1.Height), (.slice A8946 t8941.1.Cells.length c8947), (iv 0)]), (iv 0)]) [.cell ⟨g25, 0, none⟩ (.bool true), .cell ⟨g25, 1, none⟩ (iv t8941.1.Width), .cell ⟨g25, 2, none⟩ (iv t8941.1.Height), .cell ⟨g25, 3, none⟩ (.slice A8946 t8941.1.Cells.length c8947), .cell ⟨g25, 4, none⟩ (iv 0), .cell ⟨g29, 0, none⟩ (iv 0)] (fun fb => by kernel_rfl) (fun w8967 hS8966 => ⟨⟨hS8966.cell 1 rfl 0 rfl, hS8966.cell 1 rfl 1 rfl, hS8966.cell 1 rfl 2 rfl, hS8966.cell 1 rfl 3 rfl, hS8966.cell 1 rfl 4 rfl, hS8966.cell 0 rfl 0 rfl, trivial⟩, ⟨A8946, c8947, rfl, (hS8966.sub [3] (by decide)).noR⟩⟩)
theorem law09_chess_calls   (r : (List Tile)) (w : World)  (hf : law09_chess = some r) :
  CallsR Try.prog 36 #[] w (fun v w' => ∃ (A1_ : Option Addr), ∃ (c1_ : Nat), v = (.slice A1_ r.length c1_) ∧ St NoS w w' [] [rowO 24 enc_Tile A1_ c1_ r]) := by
 have hS : St NoS w w [] [] := St.init (ro_nil _ _)
 refine enter 4 Try.func36 rfl Try.ntmps36 rfl ?_
 unfold law09_chess at hf
 refine WC.seq ?_
 refine WC.region ?_
 refine seg 1 [] [] [] [] (fun fb => by kernel_rfl) rfl trivial ?_
 refine WL.done rfl ?_
 refine WX.next ?_
 refine WC.seq ?_
 refine WC.region ?_
 refine seg 2 [] [1, 2] [(1, (.agg #[(iv 0), (iv 1), (iv 1), (iv 0)])), (2, (.agg #[(iv 1), (iv 0), (iv 0), (iv 1)]))] [] (fun fb => by kernel_rfl) rfl trivial ?_
 refine WL.new hS 3 [] (fun g => (.slice (some ⟨g, 0, none⟩) 2 2)) (.cells #[(iv 0), (iv 1), (iv 1), (iv 0), (iv 1), (iv 0), (iv 0), (iv 1)] 24 (0, 0)) [] (fun fb g => by kernel_rfl) trivial (fun g8981 w8982 hS8983 => ?_)
 refine ⟨trivial, ?_⟩
 have hS8985 : St NoS w w8982 [] [rowO 24 enc_Tile (some ⟨g8981, 0, none⟩) 2 [(Tile.mk 0 1 1 0), (Tile.mk 1 0 0 1)]] := hS8983.map1 0 _ (fun h => rowO.ofBlk h rfl (Nat.le_of_ble_eq_true (by kernel_rfl))) (fun _ h => by obtain ⟨_, h1, h2⟩ := h; injection h1 with h1; subst h1; exact h2) [] (by decide) (by decide)
 refine seg 4 [] [0] [(0, (.slice (some ⟨g8981, 0, none⟩) [(Tile.mk 0 1 1 0), (Tile.mk 1 0 0 1)].length 2))] [] (fun fb => by kernel_rfl) rfl trivial ?_
 refine WL.done rfl ?_
 refine WX.next ?_
 refine WC.ret ?_
 injection hf with hf
 subst hf
 exact WX.ret_ [] (.slice (some ⟨g8981, 0, none⟩) [(Tile.mk 0 1 1 0), (Tile.mk 1 0 0 1)].length 2) [] (fun fb => by kernel_rfl) trivial ⟨_, rfl, (some ⟨g8981, 0, none⟩), 2, rfl, (hS8985.sub [0] (by decide)).noR⟩
theorem ref01_Same_calls (k : Nat) (p0 : List Int) (p1 : List Int) (A_p0 : Option Addr) (c_p0 : Nat) (A_p1 : Option Addr) (c_p1 : Nat) (r : Bool) (w : World) (hR0 : RO NoS w (rowR encInt A_p0 c_p0 p0)) (hR1 : RO NoS w (rowR encInt A_p1 c_p1 p1)) (hf : ref01_Same k p0 p1 = some r) :
  CallsR Try.prog 47 #[(.slice A_p0 p0.length c_p0), (.slice A_p1 p1.length c_p1)] w (fun v w' => v = (.bool r) ∧ Keeps NoS w w') := by
 have hS : St NoS w w [rowR encInt A_p0 c_p0 p0, rowR encInt A_p1 c_p1 p1] [] := St.init (ro_cons hR0 (ro_cons hR1 (ro_nil _ _)))
 refine enter 26 Try.func47 rfl Try.ntmps47 rfl ?_
 unfold ref01_Same at hf
 refine WC.seq ?_
 refine WC.region ?_
 refine seg 1 [] [0, 1] [(0, (.slice A_p0 p0.length c_p0)), (1, (.slice A_p1 p1.length c_p1))] [] (fun fb => by kernel_rfl) rfl trivial ?_
 refine WL.done rfl ?_
 refine WX.next ?_
 refine WC.seq ?_
 refine WC.seq ?_
 refine WC.region ?_
 refine seg 5 [] [0, 1, 10] [(0, (.slice A_p0 p0.length c_p0)), (1, (.slice A_p1 p1.length c_p1)), (10, (.bool ((p0.length : Int) != (p1.length : Int))))] [] (fun fb => by kernel_rfl) rfl trivial ?_
 refine WL.done rfl ?_
 refine WX.next ?_
 rcases br_some hf with ⟨h9044, hf⟩ | ⟨h9044, hf⟩
 ·refine WC.condT2 (fun fb => by kernel_rfl) h9044 ?_
  refine WC.seq ?_
  refine WC.region ?_
  refine seg 1 [] [4] [(4, (.bool false))] [] (fun fb => by kernel_rfl) rfl trivial ?_
  refine WL.done rfl ?_
  refine WX.next ?_
  refine WC.ret ?_
  injection hf with hf
  subst hf
  exact WX.thenR (WX.ret_ [] (.bool false) [] (fun fb => by kernel_rfl) trivial ⟨_, rfl, rfl, hS.keep⟩)
 refine WC.condF2 (fun fb => by kernel_rfl) h9044 ?_
 refine WC.skip ?_
 refine WX.next ?_
 refine WC.seq ?_
 refine WC.seq ?_
 refine WC.region ?_
 refine seg 1 [] [0, 1, 5] [(0, (.slice A_p0 p0.length c_p0)), (1, (.slice A_p1 p1.length c_p1)), (5, (iv 0))] [] (fun fb => by kernel_rfl) rfl trivial ?_
 refine WL.done rfl ?_
 refine WX.next ?_
 obtain ⟨x9067, hx9068, hf⟩ := bind_some hf
 refine WC.cutN (T := Unit) (fun t => []) (fun t w1 => St NoS w w1 [rowR encInt A_p0 c_p0 p0, rowR encInt A_p1 c_p1 p1] [] ∧ x9067 = .inr t) (fun Kx9067 => ?_) ?_
 ·
  refine WC.block ?_
  refine WC.loop (T := Int) (fun t => [(0, (.slice A_p0 p0.length c_p0)), (1, (.slice A_p1 p1.length c_p1)), (5, (iv t))]) (fun n t w1 => St NoS w w1 [rowR encInt A_p0 c_p0 p0, rowR encInt A_p1 c_p1 p1] [] ∧ ref01_Same.l0 n t p0 p1 = some x9067) k 0 [0, 1, 5] rfl ⟨(hS.subR [0, 1]).sub [] (by decide), hx9068⟩ ?_
  rintro k9069 x9066 w9070 ⟨hS9071, hl9072⟩
  cases k9069 with
  | zero => rw [ref01_Same.l0] at hl9072; cases hl9072
  | succ k9069 =>
   rw [ref01_Same.l0] at hl9072
   refine WC.seq ?_
   refine WC.seq ?_
   refine WC.region ?_
   refine seg 4 [] [0, 1, 5, 14] [(0, (.slice A_p0 p0.length c_p0)), (1, (.slice A_p1 p1.length c_p1)), (5, (iv x9066)), (14, (.bool (decide (x9066 < (p0.length : Int)))))] [] (fun fb => by kernel_rfl) rfl trivial ?_
   refine WL.done rfl ?_
   refine WX.next ?_
   rcases br_some hl9072 with ⟨h9073, hl9072⟩ | ⟨h9073, hl9072⟩
   ·refine WC.condT2 (fun fb => by kernel_rfl) h9073 ?_
    refine WC.skip ?_
    refine WX.next ?_
    refine WC.seq ?_
    refine WC.block ?_
    refine WC.seq ?_
    obtain ⟨h9080, hl9072⟩ := as_some hl9072
    obtain ⟨h9081, hl9072⟩ := as_some hl9072
    refine WC.regionD ([(3, ((adr A_p0).add ((x9066).toNat * 1)), (iv (rdD p0 x9066 0))), (7, ((adr A_p1).add ((x9066).toNat * 1)), (iv (rdD p1 x9066 0)))], [0, 1, 2, 3, 4, 5, 6, 7, 8], [[], [], [0, 1], [0, 1, 2], [], [], [4, 5], [4, 5, 6], [0, 1, 2, 3, 4, 5, 6, 7]]) [[0, 1, 2, 3, 4, 5, 6, 7, 8]] (by kernel_rfl) (by kernel_rfl) (NoPanic.seq (NoPanic.block (NoPanic.seq (NoPanic.seq (NoPanic.block (NoPanic.seq (NoPanic.body))))))) ?_
    have hS9077 := hS9071.drew
    revert hS9077
    generalize World.drew w9070 = w9076
    intro hS9077
    refine ⟨⟨rowR.cell (hS9077.rd 0).1 0 h9080.1 h9080.2 0 rfl, rowR.cell (hS9077.rd 1).1 0 h9081.1 h9081.2 0 rfl, trivial⟩, forallC ?_ (forallN)⟩
    refine segF 9 [.v (iv (rdD p0 x9066 0)), .v (iv (rdD p1 x9066 0))] [0, 1, 5, 25] [(0, (.slice A_p0 p0.length c_p0)), (1, (.slice A_p1 p1.length c_p1)), (5, (iv x9066)), (25, (.bool ((rdD p0 x9066 0) != (rdD p1 x9066 0))))] [.idx A_p0 x9066 p0.length, .idx A_p1 x9066 p1.length] [0, 1] [(3, ((adr A_p0).add ((x9066).toNat * 1)), (iv (rdD p0 x9066 0))), (7, ((adr A_p1).add ((x9066).toNat * 1)), (iv (rdD p1 x9066 0)))] (fun fb => by kernel_rfl) rfl ⟨rowR.adr (hS9077.rd 0).1 h9080.1 h9080.2, rowR.adr (hS9077.rd 1).1 h9081.1 h9081.2, trivial⟩ rfl ?_
    refine WL.done rfl ?_
    refine WX.next ?_
    rcases br_some hl9072 with ⟨h9082, hl9072⟩ | ⟨h9082, hl9072⟩
    ·refine WC.condT2 (fun fb => by kernel_rfl) h9082 ?_
     refine WC.seq ?_
     refine WC.region ?_
     refine seg 1 [] [4] [(4, (.bool false))] [] (fun fb => by kernel_rfl) rfl trivial ?_
     refine WL.done rfl ?_
     refine WX.next ?_
     refine WC.ret ?_
     injection hl9072 with hl9072
     subst hl9072
     injection hf with hf
     subst hf
     exact WX.blockR (WX.thenR (WX.thenR (WX.blockR (WX.thenR (WX.ret_ [] (.bool false) [] (fun fb => by kernel_rfl) trivial ⟨_, rfl, rfl, hS9077.keep⟩)))))
    refine WC.condF2 (fun fb => by kernel_rfl) h9082 ?_
    refine WC.skip ?_
    refine WX.blockN (WX.next ?_)
    refine WC.region ?_
    refine seg 3 [] [0, 1, 5] [(0, (.slice A_p0 p0.length c_p0)), (1, (.slice A_p1 p1.length c_p1)), (5, (iv (w64 (x9066 + 1))))] [] (fun fb => by kernel_rfl) rfl trivial ?_
    refine WL.done rfl ?_
    exact WX.again k9069 (Nat.lt_succ_self _) (w64 (x9066 + 1)) [0, 1, 5] rfl ⟨(hS9077.subR [0, 1]).sub [] (by decide), hl9072⟩
   refine WC.condF2 (fun fb => by kernel_rfl) h9073 ?_
   refine WC.exit ?_
   injection hl9072 with hl9072
   exact WX.thenX (WX.thenX (WX.blockHere (WX.to Kx9067 () [] rfl ⟨(hS9071.subR [0, 1]).sub [] (by decide), hl9072.symm⟩)))
 rintro y9086 w9083 ⟨hS9084, hq9085⟩
 subst hq9085
 have hf := sum_inr hf
 refine WX.next ?_
 refine WC.seq ?_
 refine WC.region ?_
 refine seg 1 [] [4] [(4, (.bool true))] [] (fun fb => by kernel_rfl) rfl trivial ?_
 refine WL.done rfl ?_
 refine WX.next ?_
 refine WC.ret ?_
 injection hf with hf
 subst hf
 exact WX.ret_ [] (.bool true) [] (fun fb => by kernel_rfl) trivial ⟨_, rfl, rfl, hS9084.keep⟩
theorem ref01_SamePattern_calls (k : Nat) (p0 : Pattern) (p1 : Pattern) (A_p0_Cells : Option Addr) (c_p0_Cells : Nat) (A_p1_Cells : Option Addr) (c_p1_Cells : Nat) (r : Bool) (w : World) (hR0 : RO NoS w (rowR encInt A_p0_Cells c_p0_Cells p0.Cells)) (hR1 : RO NoS w (rowR encInt A_p1_Cells c_p1_Cells p1.Cells)) (hf : ref01_SamePattern k p0 p1 = some r) :
  CallsR Try.prog 26 #[(.agg #[(iv p0.Width), (iv p0.Height), (.slice A_p0_Cells p0.Cells.length c_p0_Cells)]), (.agg #[(iv p1.Width), (iv p1.Height), (.slice A_p1_Cells p1.Cells.length c_p1_Cells)])] w (fun v w' => v = (.bool r) ∧ Keeps NoS w w') := by
 have hS : St NoS w w [rowR encInt A_p0_Cells c_p0_Cells p0.Cells, rowR encInt A_p1_Cells c_p1_Cells p1.Cells] [] := St.init (ro_cons hR0 (ro_cons hR1 (ro_nil _ _)))
 refine enter 24 Try.func26 rfl Try.ntmps26 rfl ?_
 unfold ref01_SamePattern at hf
 refine WC.seq ?_
 refine WC.region ?_
 refine WL.new hS 2 [] (fun g => (.pointer (some ⟨g, 0, none⟩))) (.cells #[(iv p0.Width), (iv p0.Height), (.slice A_p0_Cells p0.Cells.length c_p0_Cells)] 38 (0, 0)) [] (fun fb g => by kernel_rfl) trivial (fun g9034 w9035 hS9036 => ?_)
 refine ⟨trivial, ?_⟩
 refine WL.new hS9036 3 [] (fun g => (.pointer (some ⟨g, 0, none⟩))) (.cells #[(iv p1.Width), (iv p1.Height), (.slice A_p1_Cells p1.Cells.length c_p1_Cells)] 38 (0, 0)) [] (fun fb g => by kernel_rfl) trivial (fun g9038 w9039 hS9040 => ?_)
 refine ⟨trivial, ?_⟩
 refine seg 3 [] [2, 3] [(2, (pt g9034)), (3, (pt g9038))] [] (fun fb => by kernel_rfl) rfl trivial ?_
 refine WL.done rfl ?_
 refine WX.next ?_
 refine WC.seq ?_
 refine WC.region ?_
 refine seg 6 [.v (iv p0.Width), .v (iv p1.Width)] [2, 3, 10] [(2, (pt g9034)), (3, (pt g9038)), (10, (.bool (p0.Width == p1.Width)))] [.cell ⟨g9034, 0, none⟩ (iv p0.Width), .cell ⟨g9038, 0, none⟩ (iv p1.Width)] (fun fb => by kernel_rfl) rfl ⟨hS9040.cell 1 rfl 0 rfl, hS9040.cell 0 rfl 0 rfl, trivial⟩ ?_
 refine WL.cutV (T := Bool) 12 (fun t => [(16, (.bool t)), (2, (pt g9034)), (3, (pt g9038))]) (fun t => ((p0.Width == p1.Width) && (p0.Height == p1.Height)) = t) (fun K => ?_) ?_
 ·
  rcases Bool.eq_false_or_eq_true (p0.Width == p1.Width) with h9042 | h9042
  ·
   refine WL.setB 10 h9042 rfl ?_
   refine seg 12 [.v (iv p0.Height), .v (iv p1.Height)] [2, 3, 16] [(2, (pt g9034)), (3, (pt g9038)), (16, (.bool (p0.Height == p1.Height)))] [.cell ⟨g9034, 1, none⟩ (iv p0.Height), .cell ⟨g9038, 1, none⟩ (iv p1.Height)] (fun fb => by kernel_rfl) rfl ⟨hS9040.cell 1 rfl 1 rfl, hS9040.cell 0 rfl 1 rfl, trivial⟩ ?_
   exact WL.toV K (p0.Height == p1.Height) [16, 2, 3] rfl (by first | (rw [h9042]; done) | (rw [h9042]; rfl))
  refine WL.setB 10 h9042 rfl ?_
  refine seg 12 [] [2, 3, 16] [(2, (pt g9034)), (3, (pt g9038)), (16, (.bool false))] [] (fun fb => by kernel_rfl) rfl trivial ?_
  exact WL.toV K false [16, 2, 3] rfl (by first | (rw [h9042]; done) | (rw [h9042]; rfl))
 rintro b9043 rfl
 refine seg 13 [] [2, 3, 17] [(2, (pt g9034)), (3, (pt g9038)), (17, (.bool ((p0.Width == p1.Width) && (p0.Height == p1.Height))))] [] (fun fb => by kernel_rfl) rfl trivial ?_
 obtain ⟨x9094, hx9095, hf⟩ := bind_some hf
 refine WL.cutW (T := Bool) 19 (fun t => [(23, (.bool t))]) (fun t w1 => (St NoS w w1 [rowR encInt A_p0_Cells c_p0_Cells p0.Cells, rowR encInt A_p1_Cells c_p1_Cells p1.Cells] [] ∧ x9094 = t) ∧ CellsOK [] w1) (fun K => ?_) ?_
 ·
  rcases br_some hx9095 with ⟨h9096, hx9095⟩ | ⟨h9096, hx9095⟩
  ·
   refine WL.setB 17 h9096 rfl ?_
   refine seg 17 [.v (.slice A_p0_Cells p0.Cells.length c_p0_Cells), .v (.slice A_p1_Cells p1.Cells.length c_p1_Cells)] [17, 19, 21] [(17, (.bool true)), (19, (.slice A_p0_Cells p0.Cells.length c_p0_Cells)), (21, (.slice A_p1_Cells p1.Cells.length c_p1_Cells))] [.cell ⟨g9034, 2, none⟩ (.slice A_p0_Cells p0.Cells.length c_p0_Cells), .cell ⟨g9038, 2, none⟩ (.slice A_p1_Cells p1.Cells.length c_p1_Cells)] (fun fb => by kernel_rfl) rfl ⟨hS9040.cell 1 rfl 2 rfl, hS9040.cell 0 rfl 2 rfl, trivial⟩ ?_
   obtain ⟨t9097, ht9098, hx9095⟩ := bind_some hx9095
   refine WL.call (some 22) 47 #[(.slice A_p0_Cells p0.Cells.length c_p0_Cells), (.slice A_p1_Cells p1.Cells.length c_p1_Cells)] (fun fb => by kernel_rfl) (ref01_Same_calls _ p0.Cells p1.Cells A_p0_Cells c_p0_Cells A_p1_Cells c_p1_Cells t9097 _ (hS9040.rd 0) (hS9040.rd 1) ht9098) (fun v w9099 hR9100 => ?_)
   obtain ⟨rfl, hk_⟩ := hR9100
   have hS9101 := hS9040.keepN hk_
   refine ⟨trivial, ?_⟩
   refine seg 19 [] [23] [(23, (.bool t9097))] [] (fun fb => by kernel_rfl) rfl trivial ?_
   injection hx9095 with hx9095
   exact WL.to K t9097 [23] rfl ⟨⟨(hS9101.subR [0, 1]).sub [] (by decide), hx9095.symm⟩, trivial⟩
  refine WL.setB 17 h9096 rfl ?_
  refine seg 19 [] [23] [(23, (.bool false))] [] (fun fb => by kernel_rfl) rfl trivial ?_
  injection hx9095 with hx9095
  exact WL.to K false [23] rfl ⟨⟨(hS9040.subR [0, 1]).sub [] (by decide), hx9095.symm⟩, trivial⟩
 rintro y9102 w9104 ⟨⟨hS9105, hq9103⟩, hF9106⟩
 subst hq9103
 refine seg 20 [] [4] [(4, (.bool x9094))] [] (fun fb => by kernel_rfl) rfl trivial ?_
 refine WL.done rfl ?_
 refine WX.next ?_
 refine WC.ret ?_
 injection hf with hf
 subst hf
 exact WX.ret_ [] (.bool x9094) [] (fun fb => by kernel_rfl) trivial ⟨_, rfl, rfl, hS9105.keep⟩
end Gp
