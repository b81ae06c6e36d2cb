/- Walks: each function of the program computes its plain function. -/
import Derived.Test.YtmdkdigmkcpceaaGx1
set_option linter.unusedVariables false
set_option linter.unusedSimpArgs false
set_option maxHeartbeats 4000000
namespace Gp
open Go Gw Go.Proofs
theorem torus_rings_calls (k : Nat) (p0 : List Tile) (p1 : Int) (A_p0 : Option Addr) (c_p0 : Nat) (r : (List Row)) (w : World) (hR0 : RO NoS w (rowR enc_Tile A_p0 c_p0 p0)) (hf : torus_rings k p0 p1 = some r) :
    CallsR Try.prog 62 #[(.slice A_p0 p0.length c_p0), (.int .i64 p1)] w (fun v w' => ∃ (A1_ : Option Addr), ∃ (c1_ : Nat), ∃ (h1_ : Nat → HF), v = (.slice A1_ r.length c1_) ∧ St NoS w w' [] [rowO 88 encN_Row A1_ c1_ (tag h1_ r), poolO [nestO subN_Row h1_ r]]) := by
  have hS : St NoS w w [rowR enc_Tile A_p0 c_p0 p0] [] := St.init (ro_cons hR0 (ro_nil _ _))
  refine enter 27 Try.func62 rfl Try.ntmps62 rfl ?_
  unfold torus_rings at hf
  refine WC.seq ?_
  refine WC.region ?_
  refine seg 1 [] [0, 1] [(0, (.slice A_p0 p0.length c_p0)), (1, (.int .i64 p1))] [] (fun fb => by kernel_rfl) rfl trivial ?_
  refine WL.done rfl ?_
  refine WX.next ?_
  refine WC.seq ?_
  refine WC.region ?_
  refine seg 1 [] [0, 1, 5] [(0, (.slice A_p0 p0.length c_p0)), (1, (.int .i64 p1)), (5, (.slice none 0 0))] [] (fun fb => by kernel_rfl) rfl trivial ?_
  refine WL.done rfl ?_
  refine WX.next ?_
  refine WC.seq ?_
  refine WC.seq ?_
  refine WC.region ?_
  refine seg 2 [] [5, 8, 9] [(5, (.slice none 0 0)), (8, (.slice A_p0 p0.length c_p0)), (9, (.int .i64 p1))] [] (fun fb => by kernel_rfl) rfl trivial ?_
  obtain ⟨t6022, ht6023, hf⟩ := bind_some hf
  refine WL.call (some 10) 67 #[(.slice A_p0 p0.length c_p0), (.int .i64 p1)] (fun fb => by kernel_rfl) (rows_All_calls _ p0 p1 A_p0 c_p0 t6022 _ (hS.rd 0) ht6023) (fun v w6024 hR6025 => ?_)
  obtain ⟨A6027, c6028, H6029, rfl, hk_⟩ := hR6025
  have hS6026 : St NoS w w6024 [rowR enc_Tile A_p0 c_p0 p0] [rowO 88 encN_Row A6027 c6028 (tag H6029 t6022), poolO [nestO subN_Row H6029 t6022]] := hS.call hk_ [] [] (fun g hg => hg.elim) (by simp) (by decide)
  refine ⟨trivial, ?_⟩
  refine seg 5 [] [5, 10, 11, 12] [(5, (.slice none 0 0)), (10, (.slice A6027 t6022.length c6028)), (11, (.int .i64 (t6022.length : Int))), (12, (.int .i64 0))] [] (fun fb => by kernel_rfl) rfl trivial ?_
  refine WL.done rfl ?_
  refine WX.next ?_
  have hS6131 : St NoS w w6024 [rowR enc_Tile A_p0 c_p0 p0] [rowO 88 encN_Row none 0 (tag h0 ([] : List Row)), rowO 88 encN_Row A6027 c6028 (tag H6029 t6022), poolO [nestO subN_Row H6029 t6022]] := hS6026.nilrow 88 encN_Row
  have hS6132 := hS6131.poolNil subN_Row h0
  have hS6133 : St NoS w w6024 [rowR enc_Tile A_p0 c_p0 p0] [poolO [nestO subN_Row h0 ([] : List Row), nestO subN_Row H6029 t6022], rowO 88 encN_Row none 0 (tag h0 ([] : List Row)), rowO 88 encN_Row A6027 c6028 (tag H6029 t6022)] := hS6132.poolMerge 0 3 rfl rfl [1, 2] (by decide) (by decide)
  obtain ⟨x6143, hx6144, hf⟩ := bind_some hf
  refine WC.cutN (T := (List Row) × (Option Addr) × Nat × (Nat → HF)) (fun t => [(5, (.slice t.2.1 t.1.length t.2.2.1))]) (fun t w1 => St NoS w w1 [rowR enc_Tile A_p0 c_p0 p0] [rowO 88 encN_Row t.2.1 t.2.2.1 (tag t.2.2.2 t.1), poolO [nestO subN_Row t.2.2.2 t.1]] ∧ x6143 = t.1) (fun Kx6143 => ?_) ?_
  ·
    refine WC.block ?_
    refine WC.loop (T := ((List Row) × Int) × (Option Addr) × Nat × (Nat → HF)) (fun t => [(5, (.slice t.2.1 t.1.1.length t.2.2.1)), (10, (.slice A6027 t6022.length c6028)), (11, (.int .i64 (t6022.length : Int))), (12, (.int .i64 t.1.2))]) (fun n t w1 => St NoS w w1 [rowR enc_Tile A_p0 c_p0 p0] [rowO 88 encN_Row t.2.1 t.2.2.1 (tag t.2.2.2 t.1.1), poolO [nestO subN_Row t.2.2.2 t.1.1, nestO subN_Row H6029 t6022], rowO 88 encN_Row A6027 c6028 (tag H6029 t6022)] ∧ torus_rings.l0 n t.1.1 t.1.2 t6022 = some x6143) k ((([] : List Row), 0), none, 0, h0) [5, 10, 11, 12] rfl ⟨(hS6133.subR [0]).sub [1, 0, 2] (by decide), hx6144⟩ ?_
    rintro k6145 ⟨⟨l6136, x6138⟩, A6134, c6135, H6137⟩ w6146 ⟨hS6147, hl6148⟩
    cases k6145 with
    | zero => rw [torus_rings.l0] at hl6148; cases hl6148
    | succ k6145 =>
      rw [torus_rings.l0] at hl6148
      refine WC.seq ?_
      refine WC.region ?_
      refine seg 1 [] [5, 10, 11, 12, 13] [(5, (.slice A6134 l6136.length c6135)), (10, (.slice A6027 t6022.length c6028)), (11, (.int .i64 (t6022.length : Int))), (12, (.int .i64 x6138)), (13, (.bool (decide (x6138 < (t6022.length : Int)))))] [] (fun fb => by kernel_rfl) rfl trivial ?_
      refine WL.done rfl ?_
      refine WX.next ?_
      refine WC.seq ?_
      rcases br_some hl6148 with ⟨h6149, hl6148⟩ | ⟨h6149, hl6148⟩
      · refine WC.condT2 (fun fb => by kernel_rfl) h6149 ?_
        refine WC.skip ?_
        refine WX.next ?_
        refine WC.seq ?_
        refine WC.block ?_
        refine WC.seq ?_
        refine WC.region ?_
        obtain ⟨h6150, hl6148⟩ := as_some hl6148
        refine seg 2 [.v (.slice ((H6029 x6138.toNat 0).1) ((rdD t6022 x6138 z_Row).Cells).length ((H6029 x6138.toNat 0).2)), .v (.int .i64 (((rdD t6022 x6138 z_Row).South).e0)), .v (.int .i64 (((rdD t6022 x6138 z_Row).South).e1)), .v (.int .i64 (((rdD t6022 x6138 z_Row).South).e2)), .v (.int .i64 (((rdD t6022 x6138 z_Row).South).e3)), .v (.int .i64 (((rdD t6022 x6138 z_Row).South).e4)), .v (.int .i64 (((rdD t6022 x6138 z_Row).South).e5)), .v (.int .i64 (((rdD t6022 x6138 z_Row).South).e6)), .v (.int .i64 (((rdD t6022 x6138 z_Row).South).e7)), .v (.int .i64 (((rdD t6022 x6138 z_Row).North).e0)), .v (.int .i64 (((rdD t6022 x6138 z_Row).North).e1)), .v (.int .i64 (((rdD t6022 x6138 z_Row).North).e2)), .v (.int .i64 (((rdD t6022 x6138 z_Row).North).e3)), .v (.int .i64 (((rdD t6022 x6138 z_Row).North).e4)), .v (.int .i64 (((rdD t6022 x6138 z_Row).North).e5)), .v (.int .i64 (((rdD t6022 x6138 z_Row).North).e6)), .v (.int .i64 (((rdD t6022 x6138 z_Row).North).e7)), .v (.int .i64 ((rdD t6022 x6138 z_Row).West)), .v (.int .i64 ((rdD t6022 x6138 z_Row).East))] [5, 10, 11, 12, 15] [(5, (.slice A6134 l6136.length c6135)), (10, (.slice A6027 t6022.length c6028)), (11, (.int .i64 (t6022.length : Int))), (12, (.int .i64 x6138)), (15, (.agg #[(.slice ((H6029 x6138.toNat 0).1) ((rdD t6022 x6138 z_Row).Cells).length ((H6029 x6138.toNat 0).2)), (.int .i64 (((rdD t6022 x6138 z_Row).South).e0)), (.int .i64 (((rdD t6022 x6138 z_Row).South).e1)), (.int .i64 (((rdD t6022 x6138 z_Row).South).e2)), (.int .i64 (((rdD t6022 x6138 z_Row).South).e3)), (.int .i64 (((rdD t6022 x6138 z_Row).South).e4)), (.int .i64 (((rdD t6022 x6138 z_Row).South).e5)), (.int .i64 (((rdD t6022 x6138 z_Row).South).e6)), (.int .i64 (((rdD t6022 x6138 z_Row).South).e7)), (.int .i64 (((rdD t6022 x6138 z_Row).North).e0)), (.int .i64 (((rdD t6022 x6138 z_Row).North).e1)), (.int .i64 (((rdD t6022 x6138 z_Row).North).e2)), (.int .i64 (((rdD t6022 x6138 z_Row).North).e3)), (.int .i64 (((rdD t6022 x6138 z_Row).North).e4)), (.int .i64 (((rdD t6022 x6138 z_Row).North).e5)), (.int .i64 (((rdD t6022 x6138 z_Row).North).e6)), (.int .i64 (((rdD t6022 x6138 z_Row).North).e7)), (.int .i64 ((rdD t6022 x6138 z_Row).West)), (.int .i64 ((rdD t6022 x6138 z_Row).East))]))] [.idx A6027 x6138 t6022.length, .cell ((adr A6027).add ((x6138).toNat * 19)) (.slice ((H6029 x6138.toNat 0).1) ((rdD t6022 x6138 z_Row).Cells).length ((H6029 x6138.toNat 0).2)), .cell (((adr A6027).add ((x6138).toNat * 19)).add 1) (.int .i64 (((rdD t6022 x6138 z_Row).South).e0)), .cell (((adr A6027).add ((x6138).toNat * 19)).add 2) (.int .i64 (((rdD t6022 x6138 z_Row).South).e1)), .cell (((adr A6027).add ((x6138).toNat * 19)).add 3) (.int .i64 (((rdD t6022 x6138 z_Row).South).e2)), .cell (((adr A6027).add ((x6138).toNat * 19)).add 4) (.int .i64 (((rdD t6022 x6138 z_Row).South).e3)), .cell (((adr A6027).add ((x6138).toNat * 19)).add 5) (.int .i64 (((rdD t6022 x6138 z_Row).South).e4)), .cell (((adr A6027).add ((x6138).toNat * 19)).add 6) (.int .i64 (((rdD t6022 x6138 z_Row).South).e5)), .cell (((adr A6027).add ((x6138).toNat * 19)).add 7) (.int .i64 (((rdD t6022 x6138 z_Row).South).e6)), .cell (((adr A6027).add ((x6138).toNat * 19)).add 8) (.int .i64 (((rdD t6022 x6138 z_Row).South).e7)), .cell (((adr A6027).add ((x6138).toNat * 19)).add 9) (.int .i64 (((rdD t6022 x6138 z_Row).North).e0)), .cell (((adr A6027).add ((x6138).toNat * 19)).add 10) (.int .i64 (((rdD t6022 x6138 z_Row).North).e1)), .cell (((adr A6027).add ((x6138).toNat * 19)).add 11) (.int .i64 (((rdD t6022 x6138 z_Row).North).e2)), .cell (((adr A6027).add ((x6138).toNat * 19)).add 12) (.int .i64 (((rdD t6022 x6138 z_Row).North).e3)), .cell (((adr A6027).add ((x6138).toNat * 19)).add 13) (.int .i64 (((rdD t6022 x6138 z_Row).North).e4)), .cell (((adr A6027).add ((x6138).toNat * 19)).add 14) (.int .i64 (((rdD t6022 x6138 z_Row).North).e5)), .cell (((adr A6027).add ((x6138).toNat * 19)).add 15) (.int .i64 (((rdD t6022 x6138 z_Row).North).e6)), .cell (((adr A6027).add ((x6138).toNat * 19)).add 16) (.int .i64 (((rdD t6022 x6138 z_Row).North).e7)), .cell (((adr A6027).add ((x6138).toNat * 19)).add 17) (.int .i64 ((rdD t6022 x6138 z_Row).West)), .cell (((adr A6027).add ((x6138).toNat * 19)).add 18) (.int .i64 ((rdD t6022 x6138 z_Row).East))] (fun fb => by kernel_rfl) rfl ⟨nrow_adr (rowO.rd (hS6147.own 2).1) h6150.1 h6150.2, nrow_cell (rowO.rd (hS6147.own 2).1) z_Row h6150.1 h6150.2 0 rfl, nrow_cell (rowO.rd (hS6147.own 2).1) z_Row h6150.1 h6150.2 1 rfl, nrow_cell (rowO.rd (hS6147.own 2).1) z_Row h6150.1 h6150.2 2 rfl, nrow_cell (rowO.rd (hS6147.own 2).1) z_Row h6150.1 h6150.2 3 rfl, nrow_cell (rowO.rd (hS6147.own 2).1) z_Row h6150.1 h6150.2 4 rfl, nrow_cell (rowO.rd (hS6147.own 2).1) z_Row h6150.1 h6150.2 5 rfl, nrow_cell (rowO.rd (hS6147.own 2).1) z_Row h6150.1 h6150.2 6 rfl, nrow_cell (rowO.rd (hS6147.own 2).1) z_Row h6150.1 h6150.2 7 rfl, nrow_cell (rowO.rd (hS6147.own 2).1) z_Row h6150.1 h6150.2 8 rfl, nrow_cell (rowO.rd (hS6147.own 2).1) z_Row h6150.1 h6150.2 9 rfl, nrow_cell (rowO.rd (hS6147.own 2).1) z_Row h6150.1 h6150.2 10 rfl, nrow_cell (rowO.rd (hS6147.own 2).1) z_Row h6150.1 h6150.2 11 rfl, nrow_cell (rowO.rd (hS6147.own 2).1) z_Row h6150.1 h6150.2 12 rfl, nrow_cell (rowO.rd (hS6147.own 2).1) z_Row h6150.1 h6150.2 13 rfl, nrow_cell (rowO.rd (hS6147.own 2).1) z_Row h6150.1 h6150.2 14 rfl, nrow_cell (rowO.rd (hS6147.own 2).1) z_Row h6150.1 h6150.2 15 rfl, nrow_cell (rowO.rd (hS6147.own 2).1) z_Row h6150.1 h6150.2 16 rfl, nrow_cell (rowO.rd (hS6147.own 2).1) z_Row h6150.1 h6150.2 17 rfl, nrow_cell (rowO.rd (hS6147.own 2).1) z_Row h6150.1 h6150.2 18 rfl, trivial⟩ ?_
        refine WL.new hS6147 7 [] (fun g => (.pointer (some ⟨g, 0, none⟩))) (.cells #[(.slice none 0 0), (.int .i64 0), (.int .i64 0), (.int .i64 0), (.int .i64 0), (.int .i64 0), (.int .i64 0), (.int .i64 0), (.int .i64 0), (.int .i64 0), (.int .i64 0), (.int .i64 0), (.int .i64 0), (.int .i64 0), (.int .i64 0), (.int .i64 0), (.int .i64 0), (.int .i64 0), (.int .i64 0)] 88 (0, 0)) [] (fun fb g => by kernel_rfl) trivial (fun g6151 w6152 hS6153 => ?_)
        refine ⟨trivial, ?_⟩
        refine WL.store hS6153 0 rfl [(0, (.slice ((H6029 x6138.toNat 0).1) ((rdD t6022 x6138 z_Row).Cells).length ((H6029 x6138.toNat 0).2))), (1, (.int .i64 (((rdD t6022 x6138 z_Row).South).e0))), (2, (.int .i64 (((rdD t6022 x6138 z_Row).South).e1))), (3, (.int .i64 (((rdD t6022 x6138 z_Row).South).e2))), (4, (.int .i64 (((rdD t6022 x6138 z_Row).South).e3))), (5, (.int .i64 (((rdD t6022 x6138 z_Row).South).e4))), (6, (.int .i64 (((rdD t6022 x6138 z_Row).South).e5))), (7, (.int .i64 (((rdD t6022 x6138 z_Row).South).e6))), (8, (.int .i64 (((rdD t6022 x6138 z_Row).South).e7))), (9, (.int .i64 (((rdD t6022 x6138 z_Row).North).e0))), (10, (.int .i64 (((rdD t6022 x6138 z_Row).North).e1))), (11, (.int .i64 (((rdD t6022 x6138 z_Row).North).e2))), (12, (.int .i64 (((rdD t6022 x6138 z_Row).North).e3))), (13, (.int .i64 (((rdD t6022 x6138 z_Row).North).e4))), (14, (.int .i64 (((rdD t6022 x6138 z_Row).North).e5))), (15, (.int .i64 (((rdD t6022 x6138 z_Row).North).e6))), (16, (.int .i64 (((rdD t6022 x6138 z_Row).North).e7))), (17, (.int .i64 ((rdD t6022 x6138 z_Row).West))), (18, (.int .i64 ((rdD t6022 x6138 z_Row).East)))] #[(.slice ((H6029 x6138.toNat 0).1) ((rdD t6022 x6138 z_Row).Cells).length ((H6029 x6138.toNat 0).2)), (.int .i64 (((rdD t6022 x6138 z_Row).South).e0)), (.int .i64 (((rdD t6022 x6138 z_Row).South).e1)), (.int .i64 (((rdD t6022 x6138 z_Row).South).e2)), (.int .i64 (((rdD t6022 x6138 z_Row).South).e3)), (.int .i64 (((rdD t6022 x6138 z_Row).South).e4)), (.int .i64 (((rdD t6022 x6138 z_Row).South).e5)), (.int .i64 (((rdD t6022 x6138 z_Row).South).e6)), (.int .i64 (((rdD t6022 x6138 z_Row).South).e7)), (.int .i64 (((rdD t6022 x6138 z_Row).North).e0)), (.int .i64 (((rdD t6022 x6138 z_Row).North).e1)), (.int .i64 (((rdD t6022 x6138 z_Row).North).e2)), (.int .i64 (((rdD t6022 x6138 z_Row).North).e3)), (.int .i64 (((rdD t6022 x6138 z_Row).North).e4)), (.int .i64 (((rdD t6022 x6138 z_Row).North).e5)), (.int .i64 (((rdD t6022 x6138 z_Row).North).e6)), (.int .i64 (((rdD t6022 x6138 z_Row).North).e7)), (.int .i64 ((rdD t6022 x6138 z_Row).West)), (.int .i64 ((rdD t6022 x6138 z_Row).East))] (fun fb => by kernel_rfl) (by kernel_rfl) (by kernel_rfl) [1, 2, 3] (by decide) (by decide) (fun w6155 hS6156 => ?_)
        refine ⟨trivial, ?_⟩
        refine WL.done rfl ?_
        refine WX.next ?_
        refine WC.seq ?_
        refine WC.region ?_
        refine seg 5 [.v (.int .i64 ((rdD t6022 x6138 z_Row).West)), .v (.int .i64 ((rdD t6022 x6138 z_Row).East))] [5, 7, 10, 11, 12, 20] [(5, (.slice A6134 l6136.length c6135)), (7, (.pointer (some ⟨g6151, 0, none⟩))), (10, (.slice A6027 t6022.length c6028)), (11, (.int .i64 (t6022.length : Int))), (12, (.int .i64 x6138)), (20, (.bool (((rdD t6022 x6138 z_Row).West) == ((rdD t6022 x6138 z_Row).East))))] [.cell ⟨g6151, 17, none⟩ (.int .i64 ((rdD t6022 x6138 z_Row).West)), .cell ⟨g6151, 18, none⟩ (.int .i64 ((rdD t6022 x6138 z_Row).East))] (fun fb => by kernel_rfl) rfl ⟨hS6156.cell 0 rfl 17 rfl, hS6156.cell 0 rfl 18 rfl, trivial⟩ ?_
        refine WL.done rfl ?_
        refine WX.next ?_
        obtain ⟨x6173, hx6174, hl6148⟩ := bind_some hl6148
        refine WC.cutN (T := (List Row) × (Option Addr) × Nat × (Nat → HF)) (fun t => [(5, (.slice t.2.1 t.1.length t.2.2.1)), (10, (.slice A6027 t6022.length c6028)), (11, (.int .i64 (t6022.length : Int))), (12, (.int .i64 x6138))]) (fun t w1 => St NoS w w1 [rowR enc_Tile A_p0 c_p0 p0] [rowO 88 encN_Row t.2.1 t.2.2.1 (tag t.2.2.2 t.1), poolO [nestO subN_Row t.2.2.2 t.1, nestO subN_Row H6029 t6022], rowO 88 encN_Row A6027 c6028 (tag H6029 t6022)] ∧ x6173 = t.1) (fun Kx6173 => ?_) ?_
        ·
          rcases br_some hx6174 with ⟨h6175, hx6174⟩ | ⟨h6175, hx6174⟩
          · refine WC.condT2 (fun fb => by kernel_rfl) h6175 ?_
            refine WC.region ?_
            refine seg 2 [.v (.slice ((H6029 x6138.toNat 0).1) ((rdD t6022 x6138 z_Row).Cells).length ((H6029 x6138.toNat 0).2)), .v (.int .i64 (((rdD t6022 x6138 z_Row).South).e0)), .v (.int .i64 (((rdD t6022 x6138 z_Row).South).e1)), .v (.int .i64 (((rdD t6022 x6138 z_Row).South).e2)), .v (.int .i64 (((rdD t6022 x6138 z_Row).South).e3)), .v (.int .i64 (((rdD t6022 x6138 z_Row).South).e4)), .v (.int .i64 (((rdD t6022 x6138 z_Row).South).e5)), .v (.int .i64 (((rdD t6022 x6138 z_Row).South).e6)), .v (.int .i64 (((rdD t6022 x6138 z_Row).South).e7)), .v (.int .i64 (((rdD t6022 x6138 z_Row).North).e0)), .v (.int .i64 (((rdD t6022 x6138 z_Row).North).e1)), .v (.int .i64 (((rdD t6022 x6138 z_Row).North).e2)), .v (.int .i64 (((rdD t6022 x6138 z_Row).North).e3)), .v (.int .i64 (((rdD t6022 x6138 z_Row).North).e4)), .v (.int .i64 (((rdD t6022 x6138 z_Row).North).e5)), .v (.int .i64 (((rdD t6022 x6138 z_Row).North).e6)), .v (.int .i64 (((rdD t6022 x6138 z_Row).North).e7)), .v (.int .i64 ((rdD t6022 x6138 z_Row).West)), .v (.int .i64 ((rdD t6022 x6138 z_Row).East))] [10, 11, 12, 21, 22] [(10, (.slice A6027 t6022.length c6028)), (11, (.int .i64 (t6022.length : Int))), (12, (.int .i64 x6138)), (21, (.slice A6134 l6136.length c6135)), (22, (.agg #[(.slice ((H6029 x6138.toNat 0).1) ((rdD t6022 x6138 z_Row).Cells).length ((H6029 x6138.toNat 0).2)), (.int .i64 (((rdD t6022 x6138 z_Row).South).e0)), (.int .i64 (((rdD t6022 x6138 z_Row).South).e1)), (.int .i64 (((rdD t6022 x6138 z_Row).South).e2)), (.int .i64 (((rdD t6022 x6138 z_Row).South).e3)), (.int .i64 (((rdD t6022 x6138 z_Row).South).e4)), (.int .i64 (((rdD t6022 x6138 z_Row).South).e5)), (.int .i64 (((rdD t6022 x6138 z_Row).South).e6)), (.int .i64 (((rdD t6022 x6138 z_Row).South).e7)), (.int .i64 (((rdD t6022 x6138 z_Row).North).e0)), (.int .i64 (((rdD t6022 x6138 z_Row).North).e1)), (.int .i64 (((rdD t6022 x6138 z_Row).North).e2)), (.int .i64 (((rdD t6022 x6138 z_Row).North).e3)), (.int .i64 (((rdD t6022 x6138 z_Row).North).e4)), (.int .i64 (((rdD t6022 x6138 z_Row).North).e5)), (.int .i64 (((rdD t6022 x6138 z_Row).North).e6)), (.int .i64 (((rdD t6022 x6138 z_Row).North).e7)), (.int .i64 ((rdD t6022 x6138 z_Row).West)), (.int .i64 ((rdD t6022 x6138 z_Row).East))]))] [.cell ⟨g6151, 0, none⟩ (.slice ((H6029 x6138.toNat 0).1) ((rdD t6022 x6138 z_Row).Cells).length ((H6029 x6138.toNat 0).2)), .cell ⟨g6151, 1, none⟩ (.int .i64 (((rdD t6022 x6138 z_Row).South).e0)), .cell ⟨g6151, 2, none⟩ (.int .i64 (((rdD t6022 x6138 z_Row).South).e1)), .cell ⟨g6151, 3, none⟩ (.int .i64 (((rdD t6022 x6138 z_Row).South).e2)), .cell ⟨g6151, 4, none⟩ (.int .i64 (((rdD t6022 x6138 z_Row).South).e3)), .cell ⟨g6151, 5, none⟩ (.int .i64 (((rdD t6022 x6138 z_Row).South).e4)), .cell ⟨g6151, 6, none⟩ (.int .i64 (((rdD t6022 x6138 z_Row).South).e5)), .cell ⟨g6151, 7, none⟩ (.int .i64 (((rdD t6022 x6138 z_Row).South).e6)), .cell ⟨g6151, 8, none⟩ (.int .i64 (((rdD t6022 x6138 z_Row).South).e7)), .cell ⟨g6151, 9, none⟩ (.int .i64 (((rdD t6022 x6138 z_Row).North).e0)), .cell ⟨g6151, 10, none⟩ (.int .i64 (((rdD t6022 x6138 z_Row).North).e1)), .cell ⟨g6151, 11, none⟩ (.int .i64 (((rdD t6022 x6138 z_Row).North).e2)), .cell ⟨g6151, 12, none⟩ (.int .i64 (((rdD t6022 x6138 z_Row).North).e3)), .cell ⟨g6151, 13, none⟩ (.int .i64 (((rdD t6022 x6138 z_Row).North).e4)), .cell ⟨g6151, 14, none⟩ (.int .i64 (((rdD t6022 x6138 z_Row).North).e5)), .cell ⟨g6151, 15, none⟩ (.int .i64 (((rdD t6022 x6138 z_Row).North).e6)), .cell ⟨g6151, 16, none⟩ (.int .i64 (((rdD t6022 x6138 z_Row).North).e7)), .cell ⟨g6151, 17, none⟩ (.int .i64 ((rdD t6022 x6138 z_Row).West)), .cell ⟨g6151, 18, none⟩ (.int .i64 ((rdD t6022 x6138 z_Row).East))] (fun fb => by kernel_rfl) rfl ⟨hS6156.cell 0 rfl 0 rfl, hS6156.cell 0 rfl 1 rfl, hS6156.cell 0 rfl 2 rfl, hS6156.cell 0 rfl 3 rfl, hS6156.cell 0 rfl 4 rfl, hS6156.cell 0 rfl 5 rfl, hS6156.cell 0 rfl 6 rfl, hS6156.cell 0 rfl 7 rfl, hS6156.cell 0 rfl 8 rfl, hS6156.cell 0 rfl 9 rfl, hS6156.cell 0 rfl 10 rfl, hS6156.cell 0 rfl 11 rfl, hS6156.cell 0 rfl 12 rfl, hS6156.cell 0 rfl 13 rfl, hS6156.cell 0 rfl 14 rfl, hS6156.cell 0 rfl 15 rfl, hS6156.cell 0 rfl 16 rfl, hS6156.cell 0 rfl 17 rfl, hS6156.cell 0 rfl 18 rfl, trivial⟩ ?_
            refine WL.new hS6156 23 [] (fun g => (.slice (some ⟨g, 0, none⟩) 1 1)) (.cells #[(.slice ((H6029 x6138.toNat 0).1) ((rdD t6022 x6138 z_Row).Cells).length ((H6029 x6138.toNat 0).2)), (.int .i64 (((rdD t6022 x6138 z_Row).South).e0)), (.int .i64 (((rdD t6022 x6138 z_Row).South).e1)), (.int .i64 (((rdD t6022 x6138 z_Row).South).e2)), (.int .i64 (((rdD t6022 x6138 z_Row).South).e3)), (.int .i64 (((rdD t6022 x6138 z_Row).South).e4)), (.int .i64 (((rdD t6022 x6138 z_Row).South).e5)), (.int .i64 (((rdD t6022 x6138 z_Row).South).e6)), (.int .i64 (((rdD t6022 x6138 z_Row).South).e7)), (.int .i64 (((rdD t6022 x6138 z_Row).North).e0)), (.int .i64 (((rdD t6022 x6138 z_Row).North).e1)), (.int .i64 (((rdD t6022 x6138 z_Row).North).e2)), (.int .i64 (((rdD t6022 x6138 z_Row).North).e3)), (.int .i64 (((rdD t6022 x6138 z_Row).North).e4)), (.int .i64 (((rdD t6022 x6138 z_Row).North).e5)), (.int .i64 (((rdD t6022 x6138 z_Row).North).e6)), (.int .i64 (((rdD t6022 x6138 z_Row).North).e7)), (.int .i64 ((rdD t6022 x6138 z_Row).West)), (.int .i64 ((rdD t6022 x6138 z_Row).East))] 88 (0, 0)) [] (fun fb g => by kernel_rfl) trivial (fun g6176 w6177 hS6178 => ?_)
            refine ⟨trivial, ?_⟩
            have hS6180 : St NoS w w6177 [rowR enc_Tile A_p0 c_p0 p0] [rowO 88 encN_Row (some ⟨g6176, 0, none⟩) 1 [((hd1 ((H6029 x6138.toNat 0).1) ((H6029 x6138.toNat 0).2)), (rdD t6022 x6138 z_Row))], blk g6151 (.cells #[(.slice ((H6029 x6138.toNat 0).1) ((rdD t6022 x6138 z_Row).Cells).length ((H6029 x6138.toNat 0).2)), (.int .i64 (((rdD t6022 x6138 z_Row).South).e0)), (.int .i64 (((rdD t6022 x6138 z_Row).South).e1)), (.int .i64 (((rdD t6022 x6138 z_Row).South).e2)), (.int .i64 (((rdD t6022 x6138 z_Row).South).e3)), (.int .i64 (((rdD t6022 x6138 z_Row).South).e4)), (.int .i64 (((rdD t6022 x6138 z_Row).South).e5)), (.int .i64 (((rdD t6022 x6138 z_Row).South).e6)), (.int .i64 (((rdD t6022 x6138 z_Row).South).e7)), (.int .i64 (((rdD t6022 x6138 z_Row).North).e0)), (.int .i64 (((rdD t6022 x6138 z_Row).North).e1)), (.int .i64 (((rdD t6022 x6138 z_Row).North).e2)), (.int .i64 (((rdD t6022 x6138 z_Row).North).e3)), (.int .i64 (((rdD t6022 x6138 z_Row).North).e4)), (.int .i64 (((rdD t6022 x6138 z_Row).North).e5)), (.int .i64 (((rdD t6022 x6138 z_Row).North).e6)), (.int .i64 (((rdD t6022 x6138 z_Row).North).e7)), (.int .i64 ((rdD t6022 x6138 z_Row).West)), (.int .i64 ((rdD t6022 x6138 z_Row).East))] 88 (0, 0)), rowO 88 encN_Row A6134 c6135 (tag H6137 l6136), poolO [nestO subN_Row H6137 l6136, nestO subN_Row H6029 t6022], rowO 88 encN_Row A6027 c6028 (tag H6029 t6022)] := hS6178.map1 0 _ (fun h => rowO.ofBlk h rfl (Nat.le_of_ble_eq_true (by kernel_rfl))) (fun _ h => by obtain ⟨_, h1, h2⟩ := h; injection h1 with h1; subst h1; exact h2) [1, 2, 3, 4] (by decide) (by decide)
            obtain ⟨h6181, hx6174⟩ := as_some hx6174
            refine WL.appendN hS6180 2 (d := 24) (tS := 82) (z := (.agg #[(.slice none 0 0), (.int .i64 0), (.int .i64 0), (.int .i64 0), (.int .i64 0), (.int .i64 0), (.int .i64 0), (.int .i64 0), (.int .i64 0), (.int .i64 0), (.int .i64 0), (.int .i64 0), (.int .i64 0), (.int .i64 0), (.int .i64 0), (.int .i64 0), (.int .i64 0), (.int .i64 0), (.int .i64 0)])) (bytes := 168) (c2 := 1) (hx := (hd1 ((H6029 x6138.toNat 0).1) ((H6029 x6138.toNat 0).2))) (x := (rdD t6022 x6138 z_Row)) rfl (fun fb => by kernel_rfl) (rowO.rd (hS6180.own 0).1) (by kernel_rfl) (by kernel_rfl) rfl (by decide) h6181 (by decide) [0, 1, 3, 4] (by decide) (by decide) (fun A6182 c6183 w6184 hS6185 => ?_)
            have hS6186 : St NoS w w6184 [rowR enc_Tile A_p0 c_p0 p0] [poolO [nestO subN_Row (updH H6137 l6136.length (hd1 ((H6029 x6138.toNat 0).1) ((H6029 x6138.toNat 0).2))) (l6136 ++ [(rdD t6022 x6138 z_Row)]), nestO subN_Row H6029 t6022], rowO 88 encN_Row A6182 c6183 (tag (updH H6137 l6136.length (hd1 ((H6029 x6138.toNat 0).1) ((H6029 x6138.toNat 0).2))) (l6136 ++ [(rdD t6022 x6138 z_Row)])), rowO 88 encN_Row (some ⟨g6176, 0, none⟩) 1 [((hd1 ((H6029 x6138.toNat 0).1) ((H6029 x6138.toNat 0).2)), (rdD t6022 x6138 z_Row))], blk g6151 (.cells #[(.slice ((H6029 x6138.toNat 0).1) ((rdD t6022 x6138 z_Row).Cells).length ((H6029 x6138.toNat 0).2)), (.int .i64 (((rdD t6022 x6138 z_Row).South).e0)), (.int .i64 (((rdD t6022 x6138 z_Row).South).e1)), (.int .i64 (((rdD t6022 x6138 z_Row).South).e2)), (.int .i64 (((rdD t6022 x6138 z_Row).South).e3)), (.int .i64 (((rdD t6022 x6138 z_Row).South).e4)), (.int .i64 (((rdD t6022 x6138 z_Row).South).e5)), (.int .i64 (((rdD t6022 x6138 z_Row).South).e6)), (.int .i64 (((rdD t6022 x6138 z_Row).South).e7)), (.int .i64 (((rdD t6022 x6138 z_Row).North).e0)), (.int .i64 (((rdD t6022 x6138 z_Row).North).e1)), (.int .i64 (((rdD t6022 x6138 z_Row).North).e2)), (.int .i64 (((rdD t6022 x6138 z_Row).North).e3)), (.int .i64 (((rdD t6022 x6138 z_Row).North).e4)), (.int .i64 (((rdD t6022 x6138 z_Row).North).e5)), (.int .i64 (((rdD t6022 x6138 z_Row).North).e6)), (.int .i64 (((rdD t6022 x6138 z_Row).North).e7)), (.int .i64 ((rdD t6022 x6138 z_Row).West)), (.int .i64 ((rdD t6022 x6138 z_Row).East))] 88 (0, 0)), rowO 88 encN_Row A6027 c6028 (tag H6029 t6022)] := hS6185.poolPush 3 rfl 0 (by simp) rfl (hd1 ((H6029 x6138.toNat 0).1) ((H6029 x6138.toNat 0).2)) (rdD t6022 x6138 z_Row) (nestO.ro (poolO.ro (hS6185.ow 3) 1) z_Row h6150.1 h6150.2) [] (fun g hg => ⟨3, by simp, ⟨1, ⟨_, _, rdD_at (d := z_Row) h6150.1 h6150.2, hg⟩⟩⟩) _ rfl [0, 1, 2, 4] (by decide) (by decide)
            refine ⟨trivial, ?_⟩
            refine seg 5 [] [5, 10, 11, 12] [(5, (.slice A6182 (l6136 ++ [(rdD t6022 x6138 z_Row)]).length c6183)), (10, (.slice A6027 t6022.length c6028)), (11, (.int .i64 (t6022.length : Int))), (12, (.int .i64 x6138))] [] (fun fb => by kernel_rfl) rfl trivial ?_
            refine WL.done rfl ?_
            injection hx6174 with hx6174
            exact WX.to Kx6173 (l6136 ++ [(rdD t6022 x6138 z_Row)], A6182, c6183, (updH H6137 l6136.length (hd1 ((H6029 x6138.toNat 0).1) ((H6029 x6138.toNat 0).2)))) [5, 10, 11, 12] rfl ⟨(hS6186.subR [0]).sub [1, 0, 4] (by decide), hx6174.symm⟩
          refine WC.condF2 (fun fb => by kernel_rfl) h6175 ?_
          refine WC.skip ?_
          injection hx6174 with hx6174
          exact WX.to Kx6173 (l6136, A6134, c6135, H6137) [5, 10, 11, 12] rfl ⟨(hS6156.subR [0]).sub [1, 2, 3] (by decide), hx6174.symm⟩
        rintro ⟨y6190, A6169, c6170, H6172⟩ w6187 ⟨hS6188, hq6189⟩
        subst hq6189
        refine WX.blockN (WX.next ?_)
        refine WC.region ?_
        refine seg 2 [] [5, 10, 11, 12] [(5, (.slice A6169 x6173.length c6170)), (10, (.slice A6027 t6022.length c6028)), (11, (.int .i64 (t6022.length : Int))), (12, (.int .i64 (w64 (x6138 + 1))))] [] (fun fb => by kernel_rfl) rfl trivial ?_
        refine WL.done rfl ?_
        exact WX.again k6145 (Nat.lt_succ_self _) ((x6173, w64 (x6138 + 1)), A6169, c6170, H6172) [5, 10, 11, 12] rfl ⟨(hS6188.subR [0]).sub [0, 1, 2] (by decide), hl6148⟩
      refine WC.condF2 (fun fb => by kernel_rfl) h6149 ?_
      refine WC.exit ?_
      have hS6191 : St NoS w w6146 [rowR enc_Tile A_p0 c_p0 p0] [poolO [nestO subN_Row H6137 l6136], rowO 88 encN_Row A6134 c6135 (tag H6137 l6136), rowO 88 encN_Row A6027 c6028 (tag H6029 t6022)] := hS6147.poolSub 1 rfl [0] [0, 2] (by decide) (by decide)
      injection hl6148 with hl6148
      exact WX.thenX (WX.thenX (WX.blockHere (WX.to Kx6143 (l6136, A6134, c6135, H6137) [5] rfl ⟨(hS6191.subR [0]).sub [1, 0] (by decide), hl6148.symm⟩)))
  rintro ⟨y6195, A6139, c6140, H6142⟩ w6192 ⟨hS6193, hq6194⟩
  subst hq6194
  refine WX.next ?_
  refine WC.seq ?_
  refine WC.region ?_
  refine seg 2 [] [4] [(4, (.slice A6139 x6143.length c6140))] [] (fun fb => by kernel_rfl) rfl trivial ?_
  refine WL.done rfl ?_
  refine WX.next ?_
  refine WC.ret ?_
  injection hf with hf
  subst hf
  exact WX.ret_ [] (.slice A6139 x6143.length c6140) [] (fun fb => by kernel_rfl) trivial ⟨_, rfl, A6139, c6140, H6142, rfl, (hS6193.sub [0, 1] (by decide)).noR⟩
theorem torus_back_key86 : KeyK Try.prog 86 (aggI ints_A8_Int) := KeyK.array (n := 8) (by kernel_rfl) ints_A8_Int (fun _ => rfl) (fun x y h => by cases x; cases y; simp only [ints_A8_Int, List.cons.injEq, and_true] at h; obtain ⟨rfl, rfl, rfl, rfl, rfl, rfl, rfl, rfl⟩ := h; rfl)
theorem torus_back_calls (k : Nat) (p0 : List Row) (p1 : A8_Int) (p2 : Int) (A_p0 : Option Addr) (c_p0 : Nat) (H_p0 : Nat → HF) (r : (List (Option (List (A8_Int × Bool))))) (w : World) (hR0 : RO NoS w (rowR encN_Row A_p0 c_p0 (tag H_p0 p0))) (hR1 : RO NoS w (nestO subN_Row H_p0 p0)) (hf : torus_back k p0 p1 p2 = some r) :
    CallsR Try.prog 63 #[(.slice A_p0 p0.length c_p0), (.agg #[(.int .i64 p1.e0), (.int .i64 p1.e1), (.int .i64 p1.e2), (.int .i64 p1.e3), (.int .i64 p1.e4), (.int .i64 p1.e5), (.int .i64 p1.e6), (.int .i64 p1.e7)]), (.int .i64 p2)] w (fun v w' => ∃ (A1_ : Option Addr), ∃ (c1_ : Nat), ∃ (m1_ : Nat → Nat), v = (.slice A1_ r.length c1_) ∧ St NoS w w' [] [rowO 81 (encMap A8_Int Bool) A1_ c1_ (tag m1_ r), mapsO (aggI ints_A8_Int) vB m1_ r]) := by
  have hS : St NoS w w [rowR encN_Row A_p0 c_p0 (tag H_p0 p0), nestO subN_Row H_p0 p0] [] := St.init (ro_cons hR0 (ro_cons hR1 (ro_nil _ _)))
  refine enter 46 Try.func63 rfl Try.ntmps63 rfl ?_
  unfold torus_back at hf
  refine WC.seq ?_
  refine WC.region ?_
  refine WL.new hS 4 [] (fun g => (.pointer (some ⟨g, 0, none⟩))) (.cells #[(.int .i64 p1.e0), (.int .i64 p1.e1), (.int .i64 p1.e2), (.int .i64 p1.e3), (.int .i64 p1.e4), (.int .i64 p1.e5), (.int .i64 p1.e6), (.int .i64 p1.e7)] 86 (0, 0)) [] (fun fb g => by kernel_rfl) trivial (fun g6225 w6226 hS6227 => ?_)
  refine ⟨trivial, ?_⟩
  refine seg 2 [] [0, 2, 4] [(0, (.slice A_p0 p0.length c_p0)), (2, (.int .i64 p2)), (4, (.pointer (some ⟨g6225, 0, none⟩)))] [] (fun fb => by kernel_rfl) rfl trivial ?_
  refine WL.done rfl ?_
  refine WX.next ?_
  refine WC.seq ?_
  refine WC.region ?_
  refine WL.new hS6227 12 [] (fun g => (.map (some g))) (mapObj (aggI ints_A8_Int) vB ([] : List (A8_Int × Bool))) [] (fun fb g => by kernel_rfl) trivial (fun g6229 w6230 hS6231 => ?_)
  refine ⟨trivial, ?_⟩
  refine seg 2 [.v (.int .i64 p1.e0), .v (.int .i64 p1.e1), .v (.int .i64 p1.e2), .v (.int .i64 p1.e3), .v (.int .i64 p1.e4), .v (.int .i64 p1.e5), .v (.int .i64 p1.e6), .v (.int .i64 p1.e7)] [0, 2, 12, 13] [(0, (.slice A_p0 p0.length c_p0)), (2, (.int .i64 p2)), (12, (.map (some g6229))), (13, (.agg #[(.int .i64 p1.e0), (.int .i64 p1.e1), (.int .i64 p1.e2), (.int .i64 p1.e3), (.int .i64 p1.e4), (.int .i64 p1.e5), (.int .i64 p1.e6), (.int .i64 p1.e7)]))] [.cell ⟨g6225, 0, none⟩ (.int .i64 p1.e0), .cell ⟨g6225, 1, none⟩ (.int .i64 p1.e1), .cell ⟨g6225, 2, none⟩ (.int .i64 p1.e2), .cell ⟨g6225, 3, none⟩ (.int .i64 p1.e3), .cell ⟨g6225, 4, none⟩ (.int .i64 p1.e4), .cell ⟨g6225, 5, none⟩ (.int .i64 p1.e5), .cell ⟨g6225, 6, none⟩ (.int .i64 p1.e6), .cell ⟨g6225, 7, none⟩ (.int .i64 p1.e7)] (fun fb => by kernel_rfl) rfl ⟨hS6231.cell 1 rfl 0 rfl, hS6231.cell 1 rfl 1 rfl, hS6231.cell 1 rfl 2 rfl, hS6231.cell 1 rfl 3 rfl, hS6231.cell 1 rfl 4 rfl, hS6231.cell 1 rfl 5 rfl, hS6231.cell 1 rfl 6 rfl, hS6231.cell 1 rfl 7 rfl, trivial⟩ ?_
  refine WL.mapput hS6231 0 (t := 81) (kT := 86) (eT := 4) (kE := (aggI ints_A8_Int)) (vE := vB) (l := ([] : List (A8_Int × Bool))) rfl p1 true (fun fb => by kernel_rfl) torus_back_key86 (by kernel_rfl) [1] (by decide) (by decide) (fun w6232 hS6233 => ?_)
  refine ⟨trivial, ?_⟩
  refine seg 4 [] [0, 2, 14] [(0, (.slice A_p0 p0.length c_p0)), (2, (.int .i64 p2)), (14, (.map (some g6229)))] [] (fun fb => by kernel_rfl) rfl trivial ?_
  refine WL.new hS6233 15 [] (fun g => (.slice (some ⟨g, 0, none⟩) 1 1)) (.cells #[(.map (some g6229))] 81 (0, 0)) [] (fun fb g => by kernel_rfl) trivial (fun g6234 w6235 hS6236 => ?_)
  refine ⟨trivial, ?_⟩
  have hS6238 : St NoS w w6235 [rowR encN_Row A_p0 c_p0 (tag H_p0 p0), nestO subN_Row H_p0 p0] [rowO 81 (encMap A8_Int Bool) (some ⟨g6234, 0, none⟩) 1 (tag (fun _ => g6229) [some (mput p1 true ([] : List (A8_Int × Bool)))]), blk g6229 (mapObj (aggI ints_A8_Int) vB (mput p1 true ([] : List (A8_Int × Bool)))), blk g6225 (.cells #[(.int .i64 p1.e0), (.int .i64 p1.e1), (.int .i64 p1.e2), (.int .i64 p1.e3), (.int .i64 p1.e4), (.int .i64 p1.e5), (.int .i64 p1.e6), (.int .i64 p1.e7)] 86 (0, 0))] := hS6236.map1 0 _ (fun h => rowO.ofBlk h rfl (Nat.le_of_ble_eq_true (by kernel_rfl))) (fun _ h => by obtain ⟨_, h1, h2⟩ := h; injection h1 with h1; subst h1; exact h2) [1, 2] (by decide) (by decide)
  have hS6239 : St NoS w w6235 [rowR encN_Row A_p0 c_p0 (tag H_p0 p0), nestO subN_Row H_p0 p0] [mapsO (aggI ints_A8_Int) vB (fun _ => g6229) [some (mput p1 true ([] : List (A8_Int × Bool)))], rowO 81 (encMap A8_Int Bool) (some ⟨g6234, 0, none⟩) 1 (tag (fun _ => g6229) [some (mput p1 true ([] : List (A8_Int × Bool)))]), blk g6225 (.cells #[(.int .i64 p1.e0), (.int .i64 p1.e1), (.int .i64 p1.e2), (.int .i64 p1.e3), (.int .i64 p1.e4), (.int .i64 p1.e5), (.int .i64 p1.e6), (.int .i64 p1.e7)] 86 (0, 0))] := hS6238.mapsOne 1 rfl [0, 2] (by decide) (by decide)
  refine seg 6 [] [0, 2, 7] [(0, (.slice A_p0 p0.length c_p0)), (2, (.int .i64 p2)), (7, (.slice (some ⟨g6234, 0, none⟩) [some (mput p1 true ([] : List (A8_Int × Bool)))].length 1))] [] (fun fb => by kernel_rfl) rfl trivial ?_
  refine WL.done rfl ?_
  refine WX.next ?_
  refine WC.seq ?_
  refine WC.seq ?_
  refine WC.region ?_
  refine seg 2 [] [0, 7, 16, 17] [(0, (.slice A_p0 p0.length c_p0)), (7, (.slice (some ⟨g6234, 0, none⟩) [some (mput p1 true ([] : List (A8_Int × Bool)))].length 1)), (16, (.int .i64 p2)), (17, (.int .i64 0))] [] (fun fb => by kernel_rfl) rfl trivial ?_
  refine WL.done rfl ?_
  refine WX.next ?_
  obtain ⟨x6448, hx6449, hf⟩ := bind_some hf
  refine WC.cutN (T := (List (Option (List (A8_Int × Bool)))) × (Option Addr) × Nat × (Nat → Nat)) (fun t => [(7, (.slice t.2.1 t.1.length t.2.2.1))]) (fun t w1 => St NoS w w1 [rowR encN_Row A_p0 c_p0 (tag H_p0 p0), nestO subN_Row H_p0 p0] [rowO 81 (encMap A8_Int Bool) t.2.1 t.2.2.1 (tag t.2.2.2 t.1), mapsO (aggI ints_A8_Int) vB t.2.2.2 t.1] ∧ x6448 = t.1) (fun Kx6448 => ?_) ?_
  ·
    refine WC.block ?_
    refine WC.loop (T := ((List (Option (List (A8_Int × Bool)))) × Int) × (Option Addr) × Nat × (Nat → Nat)) (fun t => [(0, (.slice A_p0 p0.length c_p0)), (7, (.slice t.2.1 t.1.1.length t.2.2.1)), (16, (.int .i64 p2)), (17, (.int .i64 t.1.2))]) (fun n t w1 => St NoS w w1 [rowR encN_Row A_p0 c_p0 (tag H_p0 p0), nestO subN_Row H_p0 p0] [rowO 81 (encMap A8_Int Bool) t.2.1 t.2.2.1 (tag t.2.2.2 t.1.1), mapsO (aggI ints_A8_Int) vB t.2.2.2 t.1.1] ∧ torus_back.l0 n t.1.1 t.1.2 p0 p2 = some x6448) k (([some (mput p1 true ([] : List (A8_Int × Bool)))], 0), (some ⟨g6234, 0, none⟩), 1, (fun _ => g6229)) [0, 7, 16, 17] rfl ⟨(hS6239.subR [0, 1]).sub [1, 0] (by decide), hx6449⟩ ?_
    rintro k6450 ⟨⟨l6441, x6443⟩, A6439, c6440, H6442⟩ w6451 ⟨hS6452, hl6453⟩
    cases k6450 with
    | zero => rw [torus_back.l0] at hl6453; cases hl6453
    | succ k6450 =>
      rw [torus_back.l0] at hl6453
      refine WC.seq ?_
      refine WC.region ?_
      refine seg 1 [] [0, 7, 16, 17, 18] [(0, (.slice A_p0 p0.length c_p0)), (7, (.slice A6439 l6441.length c6440)), (16, (.int .i64 p2)), (17, (.int .i64 x6443)), (18, (.bool (decide (x6443 < p2))))] [] (fun fb => by kernel_rfl) rfl trivial ?_
      refine WL.done rfl ?_
      refine WX.next ?_
      refine WC.seq ?_
      rcases br_some hl6453 with ⟨h6454, hl6453⟩ | ⟨h6454, hl6453⟩
      · refine WC.condT2 (fun fb => by kernel_rfl) h6454 ?_
        refine WC.skip ?_
        refine WX.next ?_
        refine WC.seq ?_
        refine WC.block ?_
        refine WC.seq ?_
        refine WC.region ?_
        refine seg 4 [] [0, 7, 16, 17, 19, 22] [(0, (.slice A_p0 p0.length c_p0)), (7, (.slice A6439 l6441.length c6440)), (16, (.int .i64 p2)), (17, (.int .i64 x6443)), (19, (.slice A6439 l6441.length c6440)), (22, (.int .i64 (w64 ((l6441.length : Int) - 1))))] [] (fun fb => by kernel_rfl) rfl trivial ?_
        obtain ⟨h6455, hl6453⟩ := as_some hl6453
        refine seg 5 [] [0, 7, 16, 17, 23] [(0, (.slice A_p0 p0.length c_p0)), (7, (.slice A6439 l6441.length c6440)), (16, (.int .i64 p2)), (17, (.int .i64 x6443)), (23, (.pointer (some ((adr A6439).add ((w64 ((l6441.length : Int) - 1)).toNat * 1)))))] [.idx A6439 (w64 ((l6441.length : Int) - 1)) l6441.length] (fun fb => by kernel_rfl) rfl ⟨nrow_adr (rowO.rd (hS6452.own 0).1) h6455.1 h6455.2, trivial⟩ ?_
        obtain ⟨m6456, hm6457, hl6453⟩ := bind_some hl6453
        refine seg 6 [.v (.map (some (H6442 (w64 ((l6441.length : Int) - 1)).toNat)))] [0, 7, 16, 17, 24] [(0, (.slice A_p0 p0.length c_p0)), (7, (.slice A6439 l6441.length c6440)), (16, (.int .i64 p2)), (17, (.int .i64 x6443)), (24, (.map (some (H6442 (w64 ((l6441.length : Int) - 1)).toNat))))] [.cell ((adr A6439).add ((w64 ((l6441.length : Int) - 1)).toNat * 1)) (.map (some (H6442 (w64 ((l6441.length : Int) - 1)).toNat)))] (fun fb => by kernel_rfl) rfl ⟨nrow_cell (rowO.rd (hS6452.own 0).1) none h6455.1 h6455.2 0 (mapV_some hm6457), trivial⟩ ?_
        refine WL.new hS6452 25 [] (fun g => (.map (some g))) (mapObj (aggI ints_A8_Int) vB ([] : List (A8_Int × Bool))) [] (fun fb g => by kernel_rfl) trivial (fun g6458 w6459 hS6460 => ?_)
        refine ⟨trivial, ?_⟩
        refine seg 9 [] [0, 7, 8, 9, 16, 17] [(0, (.slice A_p0 p0.length c_p0)), (7, (.slice A6439 l6441.length c6440)), (8, (.map (some (H6442 (w64 ((l6441.length : Int) - 1)).toNat)))), (9, (.map (some g6458))), (16, (.int .i64 p2)), (17, (.int .i64 x6443))] [] (fun fb => by kernel_rfl) rfl trivial ?_
        refine WL.done rfl ?_
        refine WX.next ?_
        refine WC.seq ?_
        refine WC.seq ?_
        refine WC.region ?_
        refine seg 3 [] [0, 7, 8, 9, 16, 17, 26, 27, 28] [(0, (.slice A_p0 p0.length c_p0)), (7, (.slice A6439 l6441.length c6440)), (8, (.map (some (H6442 (w64 ((l6441.length : Int) - 1)).toNat)))), (9, (.map (some g6458))), (16, (.int .i64 p2)), (17, (.int .i64 x6443)), (26, (.slice A_p0 p0.length c_p0)), (27, (.int .i64 (p0.length : Int))), (28, (.int .i64 0))] [] (fun fb => by kernel_rfl) rfl trivial ?_
        refine WL.done rfl ?_
        refine WX.next ?_
        obtain ⟨x6508, hx6509, hl6453⟩ := bind_some hl6453
        refine WC.cutN (T := (List (A8_Int × Bool))) (fun t => [(0, (.slice A_p0 p0.length c_p0)), (7, (.slice A6439 l6441.length c6440)), (9, (.map (some g6458))), (16, (.int .i64 p2)), (17, (.int .i64 x6443))]) (fun t w1 => St NoS w w1 [rowR encN_Row A_p0 c_p0 (tag H_p0 p0), nestO subN_Row H_p0 p0] [rowO 81 (encMap A8_Int Bool) A6439 c6440 (tag H6442 l6441), mapsO (aggI ints_A8_Int) vB H6442 l6441, blk g6458 (mapObj (aggI ints_A8_Int) vB t)] ∧ x6508 = t) (fun Kx6508 => ?_) ?_
        ·
          refine WC.block ?_
          refine WC.loop (T := (List (A8_Int × Bool)) × Int) (fun t => [(0, (.slice A_p0 p0.length c_p0)), (7, (.slice A6439 l6441.length c6440)), (8, (.map (some (H6442 (w64 ((l6441.length : Int) - 1)).toNat)))), (9, (.map (some g6458))), (16, (.int .i64 p2)), (17, (.int .i64 x6443)), (26, (.slice A_p0 p0.length c_p0)), (27, (.int .i64 (p0.length : Int))), (28, (.int .i64 t.2))]) (fun n t w1 => St NoS w w1 [rowR encN_Row A_p0 c_p0 (tag H_p0 p0), nestO subN_Row H_p0 p0] [rowO 81 (encMap A8_Int Bool) A6439 c6440 (tag H6442 l6441), mapsO (aggI ints_A8_Int) vB H6442 l6441, blk g6458 (mapObj (aggI ints_A8_Int) vB t.1)] ∧ torus_back.l1 n t.1 t.2 p0 m6456 = some x6508) k6450 (([] : List (A8_Int × Bool)), 0) [0, 7, 8, 9, 16, 17, 26, 27, 28] rfl ⟨(hS6460.subR [0, 1]).sub [1, 2, 0] (by decide), hx6509⟩ ?_
          rintro k6510 ⟨l6505, x6506⟩ w6511 ⟨hS6512, hl6513⟩
          cases k6510 with
          | zero => rw [torus_back.l1] at hl6513; cases hl6513
          | succ k6510 =>
            rw [torus_back.l1] at hl6513
            refine WC.seq ?_
            refine WC.region ?_
            refine seg 1 [] [0, 7, 8, 9, 16, 17, 26, 27, 28, 29] [(0, (.slice A_p0 p0.length c_p0)), (7, (.slice A6439 l6441.length c6440)), (8, (.map (some (H6442 (w64 ((l6441.length : Int) - 1)).toNat)))), (9, (.map (some g6458))), (16, (.int .i64 p2)), (17, (.int .i64 x6443)), (26, (.slice A_p0 p0.length c_p0)), (27, (.int .i64 (p0.length : Int))), (28, (.int .i64 x6506)), (29, (.bool (decide (x6506 < (p0.length : Int)))))] [] (fun fb => by kernel_rfl) rfl trivial ?_
            refine WL.done rfl ?_
            refine WX.next ?_
            refine WC.seq ?_
            rcases br_some hl6513 with ⟨h6514, hl6513⟩ | ⟨h6514, hl6513⟩
            · refine WC.condT2 (fun fb => by kernel_rfl) h6514 ?_
              refine WC.skip ?_
              refine WX.next ?_
              refine WC.seq ?_
              refine WC.block ?_
              refine WC.seq ?_
              refine WC.region ?_
              obtain ⟨h6515, hl6513⟩ := as_some hl6513
              refine seg 2 [.v (.slice ((H_p0 x6506.toNat 0).1) ((rdD p0 x6506 z_Row).Cells).length ((H_p0 x6506.toNat 0).2)), .v (.int .i64 (((rdD p0 x6506 z_Row).South).e0)), .v (.int .i64 (((rdD p0 x6506 z_Row).South).e1)), .v (.int .i64 (((rdD p0 x6506 z_Row).South).e2)), .v (.int .i64 (((rdD p0 x6506 z_Row).South).e3)), .v (.int .i64 (((rdD p0 x6506 z_Row).South).e4)), .v (.int .i64 (((rdD p0 x6506 z_Row).South).e5)), .v (.int .i64 (((rdD p0 x6506 z_Row).South).e6)), .v (.int .i64 (((rdD p0 x6506 z_Row).South).e7)), .v (.int .i64 (((rdD p0 x6506 z_Row).North).e0)), .v (.int .i64 (((rdD p0 x6506 z_Row).North).e1)), .v (.int .i64 (((rdD p0 x6506 z_Row).North).e2)), .v (.int .i64 (((rdD p0 x6506 z_Row).North).e3)), .v (.int .i64 (((rdD p0 x6506 z_Row).North).e4)), .v (.int .i64 (((rdD p0 x6506 z_Row).North).e5)), .v (.int .i64 (((rdD p0 x6506 z_Row).North).e6)), .v (.int .i64 (((rdD p0 x6506 z_Row).North).e7)), .v (.int .i64 ((rdD p0 x6506 z_Row).West)), .v (.int .i64 ((rdD p0 x6506 z_Row).East))] [0, 7, 8, 9, 16, 17, 26, 27, 28, 31] [(0, (.slice A_p0 p0.length c_p0)), (7, (.slice A6439 l6441.length c6440)), (8, (.map (some (H6442 (w64 ((l6441.length : Int) - 1)).toNat)))), (9, (.map (some g6458))), (16, (.int .i64 p2)), (17, (.int .i64 x6443)), (26, (.slice A_p0 p0.length c_p0)), (27, (.int .i64 (p0.length : Int))), (28, (.int .i64 x6506)), (31, (.agg #[(.slice ((H_p0 x6506.toNat 0).1) ((rdD p0 x6506 z_Row).Cells).length ((H_p0 x6506.toNat 0).2)), (.int .i64 (((rdD p0 x6506 z_Row).South).e0)), (.int .i64 (((rdD p0 x6506 z_Row).South).e1)), (.int .i64 (((rdD p0 x6506 z_Row).South).e2)), (.int .i64 (((rdD p0 x6506 z_Row).South).e3)), (.int .i64 (((rdD p0 x6506 z_Row).South).e4)), (.int .i64 (((rdD p0 x6506 z_Row).South).e5)), (.int .i64 (((rdD p0 x6506 z_Row).South).e6)), (.int .i64 (((rdD p0 x6506 z_Row).South).e7)), (.int .i64 (((rdD p0 x6506 z_Row).North).e0)), (.int .i64 (((rdD p0 x6506 z_Row).North).e1)), (.int .i64 (((rdD p0 x6506 z_Row).North).e2)), (.int .i64 (((rdD p0 x6506 z_Row).North).e3)), (.int .i64 (((rdD p0 x6506 z_Row).North).e4)), (.int .i64 (((rdD p0 x6506 z_Row).North).e5)), (.int .i64 (((rdD p0 x6506 z_Row).North).e6)), (.int .i64 (((rdD p0 x6506 z_Row).North).e7)), (.int .i64 ((rdD p0 x6506 z_Row).West)), (.int .i64 ((rdD p0 x6506 z_Row).East))]))] [.idx A_p0 x6506 p0.length, .cell ((adr A_p0).add ((x6506).toNat * 19)) (.slice ((H_p0 x6506.toNat 0).1) ((rdD p0 x6506 z_Row).Cells).length ((H_p0 x6506.toNat 0).2)), .cell (((adr A_p0).add ((x6506).toNat * 19)).add 1) (.int .i64 (((rdD p0 x6506 z_Row).South).e0)), .cell (((adr A_p0).add ((x6506).toNat * 19)).add 2) (.int .i64 (((rdD p0 x6506 z_Row).South).e1)), .cell (((adr A_p0).add ((x6506).toNat * 19)).add 3) (.int .i64 (((rdD p0 x6506 z_Row).South).e2)), .cell (((adr A_p0).add ((x6506).toNat * 19)).add 4) (.int .i64 (((rdD p0 x6506 z_Row).South).e3)), .cell (((adr A_p0).add ((x6506).toNat * 19)).add 5) (.int .i64 (((rdD p0 x6506 z_Row).South).e4)), .cell (((adr A_p0).add ((x6506).toNat * 19)).add 6) (.int .i64 (((rdD p0 x6506 z_Row).South).e5)), .cell (((adr A_p0).add ((x6506).toNat * 19)).add 7) (.int .i64 (((rdD p0 x6506 z_Row).South).e6)), .cell (((adr A_p0).add ((x6506).toNat * 19)).add 8) (.int .i64 (((rdD p0 x6506 z_Row).South).e7)), .cell (((adr A_p0).add ((x6506).toNat * 19)).add 9) (.int .i64 (((rdD p0 x6506 z_Row).North).e0)), .cell (((adr A_p0).add ((x6506).toNat * 19)).add 10) (.int .i64 (((rdD p0 x6506 z_Row).North).e1)), .cell (((adr A_p0).add ((x6506).toNat * 19)).add 11) (.int .i64 (((rdD p0 x6506 z_Row).North).e2)), .cell (((adr A_p0).add ((x6506).toNat * 19)).add 12) (.int .i64 (((rdD p0 x6506 z_Row).North).e3)), .cell (((adr A_p0).add ((x6506).toNat * 19)).add 13) (.int .i64 (((rdD p0 x6506 z_Row).North).e4)), .cell (((adr A_p0).add ((x6506).toNat * 19)).add 14) (.int .i64 (((rdD p0 x6506 z_Row).North).e5)), .cell (((adr A_p0).add ((x6506).toNat * 19)).add 15) (.int .i64 (((rdD p0 x6506 z_Row).North).e6)), .cell (((adr A_p0).add ((x6506).toNat * 19)).add 16) (.int .i64 (((rdD p0 x6506 z_Row).North).e7)), .cell (((adr A_p0).add ((x6506).toNat * 19)).add 17) (.int .i64 ((rdD p0 x6506 z_Row).West)), .cell (((adr A_p0).add ((x6506).toNat * 19)).add 18) (.int .i64 ((rdD p0 x6506 z_Row).East))] (fun fb => by kernel_rfl) rfl ⟨nrow_adr (hS6512.rd 0).1 h6515.1 h6515.2, nrow_cell (hS6512.rd 0).1 z_Row h6515.1 h6515.2 0 rfl, nrow_cell (hS6512.rd 0).1 z_Row h6515.1 h6515.2 1 rfl, nrow_cell (hS6512.rd 0).1 z_Row h6515.1 h6515.2 2 rfl, nrow_cell (hS6512.rd 0).1 z_Row h6515.1 h6515.2 3 rfl, nrow_cell (hS6512.rd 0).1 z_Row h6515.1 h6515.2 4 rfl, nrow_cell (hS6512.rd 0).1 z_Row h6515.1 h6515.2 5 rfl, nrow_cell (hS6512.rd 0).1 z_Row h6515.1 h6515.2 6 rfl, nrow_cell (hS6512.rd 0).1 z_Row h6515.1 h6515.2 7 rfl, nrow_cell (hS6512.rd 0).1 z_Row h6515.1 h6515.2 8 rfl, nrow_cell (hS6512.rd 0).1 z_Row h6515.1 h6515.2 9 rfl, nrow_cell (hS6512.rd 0).1 z_Row h6515.1 h6515.2 10 rfl, nrow_cell (hS6512.rd 0).1 z_Row h6515.1 h6515.2 11 rfl, nrow_cell (hS6512.rd 0).1 z_Row h6515.1 h6515.2 12 rfl, nrow_cell (hS6512.rd 0).1 z_Row h6515.1 h6515.2 13 rfl, nrow_cell (hS6512.rd 0).1 z_Row h6515.1 h6515.2 14 rfl, nrow_cell (hS6512.rd 0).1 z_Row h6515.1 h6515.2 15 rfl, nrow_cell (hS6512.rd 0).1 z_Row h6515.1 h6515.2 16 rfl, nrow_cell (hS6512.rd 0).1 z_Row h6515.1 h6515.2 17 rfl, nrow_cell (hS6512.rd 0).1 z_Row h6515.1 h6515.2 18 rfl, trivial⟩ ?_
              refine WL.new hS6512 11 [] (fun g => (.pointer (some ⟨g, 0, none⟩))) (.cells #[(.slice none 0 0), (.int .i64 0), (.int .i64 0), (.int .i64 0), (.int .i64 0), (.int .i64 0), (.int .i64 0), (.int .i64 0), (.int .i64 0), (.int .i64 0), (.int .i64 0), (.int .i64 0), (.int .i64 0), (.int .i64 0), (.int .i64 0), (.int .i64 0), (.int .i64 0), (.int .i64 0), (.int .i64 0)] 88 (0, 0)) [] (fun fb g => by kernel_rfl) trivial (fun g6516 w6517 hS6518 => ?_)
              refine ⟨trivial, ?_⟩
              refine WL.store hS6518 0 rfl [(0, (.slice ((H_p0 x6506.toNat 0).1) ((rdD p0 x6506 z_Row).Cells).length ((H_p0 x6506.toNat 0).2))), (1, (.int .i64 (((rdD p0 x6506 z_Row).South).e0))), (2, (.int .i64 (((rdD p0 x6506 z_Row).South).e1))), (3, (.int .i64 (((rdD p0 x6506 z_Row).South).e2))), (4, (.int .i64 (((rdD p0 x6506 z_Row).South).e3))), (5, (.int .i64 (((rdD p0 x6506 z_Row).South).e4))), (6, (.int .i64 (((rdD p0 x6506 z_Row).South).e5))), (7, (.int .i64 (((rdD p0 x6506 z_Row).South).e6))), (8, (.int .i64 (((rdD p0 x6506 z_Row).South).e7))), (9, (.int .i64 (((rdD p0 x6506 z_Row).North).e0))), (10, (.int .i64 (((rdD p0 x6506 z_Row).North).e1))), (11, (.int .i64 (((rdD p0 x6506 z_Row).North).e2))), (12, (.int .i64 (((rdD p0 x6506 z_Row).North).e3))), (13, (.int .i64 (((rdD p0 x6506 z_Row).North).e4))), (14, (.int .i64 (((rdD p0 x6506 z_Row).North).e5))), (15, (.int .i64 (((rdD p0 x6506 z_Row).North).e6))), (16, (.int .i64 (((rdD p0 x6506 z_Row).North).e7))), (17, (.int .i64 ((rdD p0 x6506 z_Row).West))), (18, (.int .i64 ((rdD p0 x6506 z_Row).East)))] #[(.slice ((H_p0 x6506.toNat 0).1) ((rdD p0 x6506 z_Row).Cells).length ((H_p0 x6506.toNat 0).2)), (.int .i64 (((rdD p0 x6506 z_Row).South).e0)), (.int .i64 (((rdD p0 x6506 z_Row).South).e1)), (.int .i64 (((rdD p0 x6506 z_Row).South).e2)), (.int .i64 (((rdD p0 x6506 z_Row).South).e3)), (.int .i64 (((rdD p0 x6506 z_Row).South).e4)), (.int .i64 (((rdD p0 x6506 z_Row).South).e5)), (.int .i64 (((rdD p0 x6506 z_Row).South).e6)), (.int .i64 (((rdD p0 x6506 z_Row).South).e7)), (.int .i64 (((rdD p0 x6506 z_Row).North).e0)), (.int .i64 (((rdD p0 x6506 z_Row).North).e1)), (.int .i64 (((rdD p0 x6506 z_Row).North).e2)), (.int .i64 (((rdD p0 x6506 z_Row).North).e3)), (.int .i64 (((rdD p0 x6506 z_Row).North).e4)), (.int .i64 (((rdD p0 x6506 z_Row).North).e5)), (.int .i64 (((rdD p0 x6506 z_Row).North).e6)), (.int .i64 (((rdD p0 x6506 z_Row).North).e7)), (.int .i64 ((rdD p0 x6506 z_Row).West)), (.int .i64 ((rdD p0 x6506 z_Row).East))] (fun fb => by kernel_rfl) (by kernel_rfl) (by kernel_rfl) [1, 2, 3] (by decide) (by decide) (fun w6520 hS6521 => ?_)
              refine ⟨trivial, ?_⟩
              refine WL.done rfl ?_
              refine WX.next ?_
              refine WC.seq ?_
              refine WC.region ?_
              refine seg 3 [.v (.int .i64 (((rdD p0 x6506 z_Row).North).e0)), .v (.int .i64 (((rdD p0 x6506 z_Row).North).e1)), .v (.int .i64 (((rdD p0 x6506 z_Row).North).e2)), .v (.int .i64 (((rdD p0 x6506 z_Row).North).e3)), .v (.int .i64 (((rdD p0 x6506 z_Row).North).e4)), .v (.int .i64 (((rdD p0 x6506 z_Row).North).e5)), .v (.int .i64 (((rdD p0 x6506 z_Row).North).e6)), .v (.int .i64 (((rdD p0 x6506 z_Row).North).e7))] [0, 7, 8, 9, 11, 16, 17, 26, 27, 28, 32, 34] [(0, (.slice A_p0 p0.length c_p0)), (7, (.slice A6439 l6441.length c6440)), (8, (.map (some (H6442 (w64 ((l6441.length : Int) - 1)).toNat)))), (9, (.map (some g6458))), (11, (.pointer (some ⟨g6516, 0, none⟩))), (16, (.int .i64 p2)), (17, (.int .i64 x6443)), (26, (.slice A_p0 p0.length c_p0)), (27, (.int .i64 (p0.length : Int))), (28, (.int .i64 x6506)), (32, (.map (some (H6442 (w64 ((l6441.length : Int) - 1)).toNat)))), (34, (.agg #[(.int .i64 (((rdD p0 x6506 z_Row).North).e0)), (.int .i64 (((rdD p0 x6506 z_Row).North).e1)), (.int .i64 (((rdD p0 x6506 z_Row).North).e2)), (.int .i64 (((rdD p0 x6506 z_Row).North).e3)), (.int .i64 (((rdD p0 x6506 z_Row).North).e4)), (.int .i64 (((rdD p0 x6506 z_Row).North).e5)), (.int .i64 (((rdD p0 x6506 z_Row).North).e6)), (.int .i64 (((rdD p0 x6506 z_Row).North).e7))]))] [.cell ⟨g6516, 9, none⟩ (.int .i64 (((rdD p0 x6506 z_Row).North).e0)), .cell ⟨g6516, 10, none⟩ (.int .i64 (((rdD p0 x6506 z_Row).North).e1)), .cell ⟨g6516, 11, none⟩ (.int .i64 (((rdD p0 x6506 z_Row).North).e2)), .cell ⟨g6516, 12, none⟩ (.int .i64 (((rdD p0 x6506 z_Row).North).e3)), .cell ⟨g6516, 13, none⟩ (.int .i64 (((rdD p0 x6506 z_Row).North).e4)), .cell ⟨g6516, 14, none⟩ (.int .i64 (((rdD p0 x6506 z_Row).North).e5)), .cell ⟨g6516, 15, none⟩ (.int .i64 (((rdD p0 x6506 z_Row).North).e6)), .cell ⟨g6516, 16, none⟩ (.int .i64 (((rdD p0 x6506 z_Row).North).e7))] (fun fb => by kernel_rfl) rfl ⟨hS6521.cell 0 rfl 9 rfl, hS6521.cell 0 rfl 10 rfl, hS6521.cell 0 rfl 11 rfl, hS6521.cell 0 rfl 12 rfl, hS6521.cell 0 rfl 13 rfl, hS6521.cell 0 rfl 14 rfl, hS6521.cell 0 rfl 15 rfl, hS6521.cell 0 rfl 16 rfl, trivial⟩ ?_
              refine WL.lookup (mapsO.at (hS6521.own 2).1 h6455.1 h6455.2 hm6457) ((rdD p0 x6506 z_Row).North) (d := 35) (c := false) (t := 81) (kT := 86) (eT := 4) (z := false) (kE := (aggI ints_A8_Int)) (vE := vB) (l := m6456) (.bool (mget ((rdD p0 x6506 z_Row).North) false m6456)) (fun fb => by kernel_rfl) torus_back_key86 (by kernel_rfl) (fun _ => by kernel_rfl) rfl ?_
              refine ⟨trivial, ?_⟩
              refine WL.done rfl ?_
              refine WX.next ?_
              obtain ⟨x6526, hx6527, hl6513⟩ := bind_some hl6513
              refine WC.cutN (T := (List (A8_Int × Bool))) (fun t => [(0, (.slice A_p0 p0.length c_p0)), (7, (.slice A6439 l6441.length c6440)), (8, (.map (some (H6442 (w64 ((l6441.length : Int) - 1)).toNat)))), (9, (.map (some g6458))), (16, (.int .i64 p2)), (17, (.int .i64 x6443)), (26, (.slice A_p0 p0.length c_p0)), (27, (.int .i64 (p0.length : Int))), (28, (.int .i64 x6506))]) (fun t w1 => St NoS w w1 [rowR encN_Row A_p0 c_p0 (tag H_p0 p0), nestO subN_Row H_p0 p0] [rowO 81 (encMap A8_Int Bool) A6439 c6440 (tag H6442 l6441), mapsO (aggI ints_A8_Int) vB H6442 l6441, blk g6458 (mapObj (aggI ints_A8_Int) vB t)] ∧ x6526 = t) (fun Kx6526 => ?_) ?_
              ·
                rcases br_some hx6527 with ⟨h6528, hx6527⟩ | ⟨h6528, hx6527⟩
                · refine WC.condT2 (fun fb => by kernel_rfl) h6528 ?_
                  refine WC.region ?_
                  refine seg 3 [.v (.int .i64 (((rdD p0 x6506 z_Row).South).e0)), .v (.int .i64 (((rdD p0 x6506 z_Row).South).e1)), .v (.int .i64 (((rdD p0 x6506 z_Row).South).e2)), .v (.int .i64 (((rdD p0 x6506 z_Row).South).e3)), .v (.int .i64 (((rdD p0 x6506 z_Row).South).e4)), .v (.int .i64 (((rdD p0 x6506 z_Row).South).e5)), .v (.int .i64 (((rdD p0 x6506 z_Row).South).e6)), .v (.int .i64 (((rdD p0 x6506 z_Row).South).e7))] [0, 7, 8, 9, 16, 17, 26, 27, 28, 36, 38] [(0, (.slice A_p0 p0.length c_p0)), (7, (.slice A6439 l6441.length c6440)), (8, (.map (some (H6442 (w64 ((l6441.length : Int) - 1)).toNat)))), (9, (.map (some g6458))), (16, (.int .i64 p2)), (17, (.int .i64 x6443)), (26, (.slice A_p0 p0.length c_p0)), (27, (.int .i64 (p0.length : Int))), (28, (.int .i64 x6506)), (36, (.map (some g6458))), (38, (.agg #[(.int .i64 (((rdD p0 x6506 z_Row).South).e0)), (.int .i64 (((rdD p0 x6506 z_Row).South).e1)), (.int .i64 (((rdD p0 x6506 z_Row).South).e2)), (.int .i64 (((rdD p0 x6506 z_Row).South).e3)), (.int .i64 (((rdD p0 x6506 z_Row).South).e4)), (.int .i64 (((rdD p0 x6506 z_Row).South).e5)), (.int .i64 (((rdD p0 x6506 z_Row).South).e6)), (.int .i64 (((rdD p0 x6506 z_Row).South).e7))]))] [.cell ⟨g6516, 1, none⟩ (.int .i64 (((rdD p0 x6506 z_Row).South).e0)), .cell ⟨g6516, 2, none⟩ (.int .i64 (((rdD p0 x6506 z_Row).South).e1)), .cell ⟨g6516, 3, none⟩ (.int .i64 (((rdD p0 x6506 z_Row).South).e2)), .cell ⟨g6516, 4, none⟩ (.int .i64 (((rdD p0 x6506 z_Row).South).e3)), .cell ⟨g6516, 5, none⟩ (.int .i64 (((rdD p0 x6506 z_Row).South).e4)), .cell ⟨g6516, 6, none⟩ (.int .i64 (((rdD p0 x6506 z_Row).South).e5)), .cell ⟨g6516, 7, none⟩ (.int .i64 (((rdD p0 x6506 z_Row).South).e6)), .cell ⟨g6516, 8, none⟩ (.int .i64 (((rdD p0 x6506 z_Row).South).e7))] (fun fb => by kernel_rfl) rfl ⟨hS6521.cell 0 rfl 1 rfl, hS6521.cell 0 rfl 2 rfl, hS6521.cell 0 rfl 3 rfl, hS6521.cell 0 rfl 4 rfl, hS6521.cell 0 rfl 5 rfl, hS6521.cell 0 rfl 6 rfl, hS6521.cell 0 rfl 7 rfl, hS6521.cell 0 rfl 8 rfl, trivial⟩ ?_
                  refine WL.mapput hS6521 3 (t := 81) (kT := 86) (eT := 4) (kE := (aggI ints_A8_Int)) (vE := vB) (l := l6505) rfl ((rdD p0 x6506 z_Row).South) true (fun fb => by kernel_rfl) torus_back_key86 (by kernel_rfl) [0, 1, 2] (by decide) (by decide) (fun w6529 hS6530 => ?_)
                  refine ⟨trivial, ?_⟩
                  refine WL.done rfl ?_
                  injection hx6527 with hx6527
                  exact WX.to Kx6526 (mput ((rdD p0 x6506 z_Row).South) true l6505) [0, 7, 8, 9, 16, 17, 26, 27, 28] rfl ⟨(hS6530.subR [0, 1]).sub [2, 3, 0] (by decide), hx6527.symm⟩
                refine WC.condF2 (fun fb => by kernel_rfl) h6528 ?_
                refine WC.skip ?_
                injection hx6527 with hx6527
                exact WX.to Kx6526 l6505 [0, 7, 8, 9, 16, 17, 26, 27, 28] rfl ⟨(hS6521.subR [0, 1]).sub [1, 2, 3] (by decide), hx6527.symm⟩
              rintro y6534 w6531 ⟨hS6532, hq6533⟩
              subst hq6533
              refine WX.blockN (WX.next ?_)
              refine WC.region ?_
              refine seg 2 [] [0, 7, 8, 9, 16, 17, 26, 27, 28] [(0, (.slice A_p0 p0.length c_p0)), (7, (.slice A6439 l6441.length c6440)), (8, (.map (some (H6442 (w64 ((l6441.length : Int) - 1)).toNat)))), (9, (.map (some g6458))), (16, (.int .i64 p2)), (17, (.int .i64 x6443)), (26, (.slice A_p0 p0.length c_p0)), (27, (.int .i64 (p0.length : Int))), (28, (.int .i64 (w64 (x6506 + 1))))] [] (fun fb => by kernel_rfl) rfl trivial ?_
              refine WL.done rfl ?_
              exact WX.again k6510 (Nat.lt_succ_self _) (x6526, w64 (x6506 + 1)) [0, 7, 8, 9, 16, 17, 26, 27, 28] rfl ⟨(hS6532.subR [0, 1]).sub [0, 1, 2] (by decide), hl6513⟩
            refine WC.condF2 (fun fb => by kernel_rfl) h6514 ?_
            refine WC.exit ?_
            injection hl6513 with hl6513
            exact WX.thenX (WX.thenX (WX.blockHere (WX.to Kx6508 l6505 [0, 7, 9, 16, 17] rfl ⟨(hS6512.subR [0, 1]).sub [0, 1, 2] (by decide), hl6513.symm⟩)))
        rintro y6538 w6535 ⟨hS6536, hq6537⟩
        subst hq6537
        refine WX.next ?_
        refine WC.region ?_
        refine seg 2 [] [0, 16, 17, 40, 41] [(0, (.slice A_p0 p0.length c_p0)), (16, (.int .i64 p2)), (17, (.int .i64 x6443)), (40, (.slice A6439 l6441.length c6440)), (41, (.map (some g6458)))] [] (fun fb => by kernel_rfl) rfl trivial ?_
        refine WL.new hS6536 42 [] (fun g => (.slice (some ⟨g, 0, none⟩) 1 1)) (.cells #[(.map (some g6458))] 81 (0, 0)) [] (fun fb g => by kernel_rfl) trivial (fun g6539 w6540 hS6541 => ?_)
        refine ⟨trivial, ?_⟩
        have hS6543 : St NoS w w6540 [rowR encN_Row A_p0 c_p0 (tag H_p0 p0), nestO subN_Row H_p0 p0] [rowO 81 (encMap A8_Int Bool) (some ⟨g6539, 0, none⟩) 1 (tag (fun _ => g6458) [some x6508]), rowO 81 (encMap A8_Int Bool) A6439 c6440 (tag H6442 l6441), mapsO (aggI ints_A8_Int) vB H6442 l6441, blk g6458 (mapObj (aggI ints_A8_Int) vB x6508)] := hS6541.map1 0 _ (fun h => rowO.ofBlk h rfl (Nat.le_of_ble_eq_true (by kernel_rfl))) (fun _ h => by obtain ⟨_, h1, h2⟩ := h; injection h1 with h1; subst h1; exact h2) [1, 2, 3] (by decide) (by decide)
        have hS6544 : St NoS w w6540 [rowR encN_Row A_p0 c_p0 (tag H_p0 p0), nestO subN_Row H_p0 p0] [mapsO (aggI ints_A8_Int) vB (fun _ => g6458) [some x6508], rowO 81 (encMap A8_Int Bool) (some ⟨g6539, 0, none⟩) 1 (tag (fun _ => g6458) [some x6508]), rowO 81 (encMap A8_Int Bool) A6439 c6440 (tag H6442 l6441), mapsO (aggI ints_A8_Int) vB H6442 l6441] := hS6543.mapsOne 3 rfl [0, 1, 2] (by decide) (by decide)
        obtain ⟨h6545, hl6453⟩ := as_some hl6453
        refine WL.appendN hS6544 2 (d := 43) (tS := 80) (z := (.map none)) (bytes := 8) (c2 := 1) (hx := g6458) (x := (some x6508)) rfl (fun fb => by kernel_rfl) (rowO.rd (hS6544.own 1).1) (by kernel_rfl) (by kernel_rfl) rfl (by decide) h6545 (by decide) [0, 1, 3] (by decide) (by decide) (fun A6546 c6547 w6548 hS6549 => ?_)
        have hS6550 : St NoS w w6548 [rowR encN_Row A_p0 c_p0 (tag H_p0 p0), nestO subN_Row H_p0 p0] [mapsO (aggI ints_A8_Int) vB (updH H6442 l6441.length g6458) (l6441 ++ [some x6508]), rowO 81 (encMap A8_Int Bool) A6546 c6547 (tag (updH H6442 l6441.length g6458) (l6441 ++ [some x6508])), rowO 81 (encMap A8_Int Bool) (some ⟨g6539, 0, none⟩) 1 (tag (fun _ => g6458) [some x6508])] := hS6549.mapsPush 3 1 rfl rfl (by decide) [0, 2] (by decide) (by decide)
        refine ⟨trivial, ?_⟩
        refine seg 5 [] [0, 7, 16, 17] [(0, (.slice A_p0 p0.length c_p0)), (7, (.slice A6546 (l6441 ++ [some x6508]).length c6547)), (16, (.int .i64 p2)), (17, (.int .i64 x6443))] [] (fun fb => by kernel_rfl) rfl trivial ?_
        refine WL.done rfl ?_
        refine WX.blockN (WX.next ?_)
        refine WC.region ?_
        refine seg 2 [] [0, 7, 16, 17] [(0, (.slice A_p0 p0.length c_p0)), (7, (.slice A6546 (l6441 ++ [some x6508]).length c6547)), (16, (.int .i64 p2)), (17, (.int .i64 (w64 (x6443 + 1))))] [] (fun fb => by kernel_rfl) rfl trivial ?_
        refine WL.done rfl ?_
        exact WX.again k6450 (Nat.lt_succ_self _) ((l6441 ++ [some x6508], w64 (x6443 + 1)), A6546, c6547, (updH H6442 l6441.length g6458)) [0, 7, 16, 17] rfl ⟨(hS6550.subR [0, 1]).sub [1, 0] (by decide), hl6453⟩
      refine WC.condF2 (fun fb => by kernel_rfl) h6454 ?_
      refine WC.exit ?_
      injection hl6453 with hl6453
      exact WX.thenX (WX.thenX (WX.blockHere (WX.to Kx6448 (l6441, A6439, c6440, H6442) [7] rfl ⟨(hS6452.subR [0, 1]).sub [0, 1] (by decide), hl6453.symm⟩)))
  rintro ⟨y6554, A6444, c6445, H6447⟩ w6551 ⟨hS6552, hq6553⟩
  subst hq6553
  refine WX.next ?_
  refine WC.seq ?_
  refine WC.region ?_
  refine seg 2 [] [6] [(6, (.slice A6444 x6448.length c6445))] [] (fun fb => by kernel_rfl) rfl trivial ?_
  refine WL.done rfl ?_
  refine WX.next ?_
  refine WC.ret ?_
  injection hf with hf
  subst hf
  exact WX.ret_ [] (.slice A6444 x6448.length c6445) [] (fun fb => by kernel_rfl) trivial ⟨_, rfl, A6444, c6445, H6447, rfl, (hS6552.sub [0, 1] (by decide)).noR⟩
theorem torus_find_key86 : KeyK Try.prog 86 (aggI ints_A8_Int) := KeyK.array (n := 8) (by kernel_rfl) ints_A8_Int (fun _ => rfl) (fun x y h => by cases x; cases y; simp only [ints_A8_Int, List.cons.injEq, and_true] at h; obtain ⟨rfl, rfl, rfl, rfl, rfl, rfl, rfl, rfl⟩ := h; rfl)
theorem torus_find_calls (k : Nat) (p0 : List Tile) (p1 : Int) (p2 : Int) (A_p0 : Option Addr) (c_p0 : Nat) (r : Pattern × Bool) (w : World) (hR0 : RO NoS w (rowR enc_Tile A_p0 c_p0 p0)) (hf : torus_find k p0 p1 p2 = some r) :
    CallsR Try.prog 46 #[(.slice A_p0 p0.length c_p0), (.int .i64 p1), (.int .i64 p2)] w (fun v w' => ∃ (A1_ : Option Addr), ∃ (c1_ : Nat), v = (.tuple #[(.agg #[(.int .i64 r.1.Width), (.int .i64 r.1.Height), (.slice A1_ r.1.Cells.length c1_)]), (.bool r.2)]) ∧ St NoS w w' [] [rowO 3 encInt A1_ c1_ r.1.Cells]) := by
  have hS : St NoS w w [rowR enc_Tile A_p0 c_p0 p0] [] := St.init (ro_cons hR0 (ro_nil _ _))
  refine enter 105 Try.func46 rfl Try.ntmps46 rfl ?_
  unfold torus_find at hf
  refine WC.seq ?_
  refine WC.region ?_
  refine WL.new hS 6 [] (fun g => (.pointer (some ⟨g, 0, none⟩))) (.cells #[(.int .i64 0), (.int .i64 0), (.slice none 0 0)] 38 (0, 0)) [] (fun fb g => by kernel_rfl) trivial (fun g6018 w6019 hS6020 => ?_)
  refine ⟨trivial, ?_⟩
  refine seg 2 [] [0, 1, 2, 6] [(0, (.slice A_p0 p0.length c_p0)), (1, (.int .i64 p1)), (2, (.int .i64 p2)), (6, (.pointer (some ⟨g6018, 0, none⟩)))] [] (fun fb => by kernel_rfl) rfl trivial ?_
  refine WL.done rfl ?_
  refine WX.next ?_
  refine WC.scope ?_
  refine WC.seq ?_
  refine WC.region ?_
  refine seg 2 [] [1, 2, 6, 19, 20] [(1, (.int .i64 p1)), (2, (.int .i64 p2)), (6, (.pointer (some ⟨g6018, 0, none⟩))), (19, (.slice A_p0 p0.length c_p0)), (20, (.int .i64 p1))] [] (fun fb => by kernel_rfl) rfl trivial ?_
  obtain ⟨t6196, ht6197, hf⟩ := bind_some hf
  refine WL.call (some 21) 62 #[(.slice A_p0 p0.length c_p0), (.int .i64 p1)] (fun fb => by kernel_rfl) (torus_rings_calls _ p0 p1 A_p0 c_p0 t6196 _ (hS6020.rd 0) ht6197) (fun v w6198 hR6199 => ?_)
  obtain ⟨A6201, c6202, H6203, rfl, hk_⟩ := hR6199
  have hS6200 : St NoS w w6198 [rowR enc_Tile A_p0 c_p0 p0] [rowO 88 encN_Row A6201 c6202 (tag H6203 t6196), poolO [nestO subN_Row H6203 t6196], blk g6018 (.cells #[(.int .i64 0), (.int .i64 0), (.slice none 0 0)] 38 (0, 0))] := hS6020.call hk_ [] [0] (fun g hg => hg.elim) (by simp) (by decide)
  refine ⟨trivial, ?_⟩
  refine seg 4 [] [1, 2, 6, 8] [(1, (.int .i64 p1)), (2, (.int .i64 p2)), (6, (.pointer (some ⟨g6018, 0, none⟩))), (8, (.slice A6201 t6196.length c6202))] [] (fun fb => by kernel_rfl) rfl trivial ?_
  refine WL.done rfl ?_
  refine WX.next ?_
  refine WC.seq ?_
  refine WC.region ?_
  refine WL.new hS6200 22 [] (fun g => (.map (some g))) (mapObj (aggI ints_A8_Int) slV ([] : List (A8_Int × (HM × List (Option (List (A8_Int × Bool))))))) [] (fun fb g => by kernel_rfl) trivial (fun g6204 w6205 hS6206 => ?_)
  have hS6207 : St NoS w w6205 [knestO (aggI ints_A8_Int) vB ([] : List (A8_Int × (HM × List (Option (List (A8_Int × Bool)))))) ([] : List (A8_Int × List (Option (List (A8_Int × Bool))))), rowR enc_Tile A_p0 c_p0 p0] [blk g6204 (mapObj (aggI ints_A8_Int) slV ([] : List (A8_Int × (HM × List (Option (List (A8_Int × Bool))))))), rowO 88 encN_Row A6201 c6202 (tag H6203 t6196), poolO [nestO subN_Row H6203 t6196], blk g6018 (.cells #[(.int .i64 0), (.int .i64 0), (.slice none 0 0)] 38 (0, 0))] := hS6206.addR _ (knestO_nil _ _ _ _)
  refine ⟨trivial, ?_⟩
  refine seg 2 [] [1, 2, 6, 8, 9] [(1, (.int .i64 p1)), (2, (.int .i64 p2)), (6, (.pointer (some ⟨g6018, 0, none⟩))), (8, (.slice A6201 t6196.length c6202)), (9, (.map (some g6204)))] [] (fun fb => by kernel_rfl) rfl trivial ?_
  refine WL.done rfl ?_
  refine WX.next ?_
  refine WC.seq ?_
  refine WC.region ?_
  refine seg 3 [] [2, 6, 8, 9, 25] [(2, (.int .i64 p2)), (6, (.pointer (some ⟨g6018, 0, none⟩))), (8, (.slice A6201 t6196.length c6202)), (9, (.map (some g6204))), (25, (.agg #[(.int .i64 p1), (.int .i64 p2), (.slice none 0 0)]))] [] (fun fb => by kernel_rfl) rfl trivial ?_
  refine WL.new hS6207 10 [] (fun g => (.pointer (some ⟨g, 0, none⟩))) (.cells #[(.int .i64 0), (.int .i64 0), (.slice none 0 0)] 38 (0, 0)) [] (fun fb g => by kernel_rfl) trivial (fun g6208 w6209 hS6210 => ?_)
  refine ⟨trivial, ?_⟩
  refine WL.store hS6210 0 rfl [(0, (.int .i64 p1)), (1, (.int .i64 p2)), (2, (.slice none 0 0))] #[(.int .i64 p1), (.int .i64 p2), (.slice none 0 0)] (fun fb => by kernel_rfl) (by kernel_rfl) rfl [1, 2, 3, 4] (by decide) (by decide) (fun w6212 hS6213 => ?_)
  refine ⟨trivial, ?_⟩
  refine WL.done rfl ?_
  refine WX.next ?_
  refine WC.seq ?_
  refine WC.label ?_
  refine WX.next ?_
  refine WC.seq ?_
  refine WC.seq ?_
  refine WC.region ?_
  refine seg 3 [] [2, 6, 8, 9, 10, 26, 27, 28] [(2, (.int .i64 p2)), (6, (.pointer (some ⟨g6018, 0, none⟩))), (8, (.slice A6201 t6196.length c6202)), (9, (.map (some g6204))), (10, (.pointer (some ⟨g6208, 0, none⟩))), (26, (.slice A6201 t6196.length c6202)), (27, (.int .i64 (t6196.length : Int))), (28, (.int .i64 0))] [] (fun fb => by kernel_rfl) rfl trivial ?_
  refine WL.done rfl ?_
  refine WX.next ?_
  obtain ⟨x7805, hx7806, hf⟩ := bind_some hf
  refine WC.cutN (T := Unit) (fun t => [(6, (.pointer (some ⟨g6018, 0, none⟩)))]) (fun t w1 => St NoS w w1 [knestO (aggI ints_A8_Int) vB ([] : List (A8_Int × (HM × List (Option (List (A8_Int × Bool)))))) ([] : List (A8_Int × List (Option (List (A8_Int × Bool))))), rowR enc_Tile A_p0 c_p0 p0] [blk g6018 (.cells #[(.int .i64 0), (.int .i64 0), (.slice none 0 0)] 38 (0, 0))] ∧ x7805 = .inr t) (fun Kx7805 => ?_) ?_
  ·
    refine WC.block ?_
    refine WC.loop (T := ((List (A8_Int × List (Option (List (A8_Int × Bool))))) × Int) × (List (A8_Int × (HM × List (Option (List (A8_Int × Bool))))))) (fun t => [(2, (.int .i64 p2)), (6, (.pointer (some ⟨g6018, 0, none⟩))), (8, (.slice A6201 t6196.length c6202)), (9, (.map (some g6204))), (10, (.pointer (some ⟨g6208, 0, none⟩))), (26, (.slice A6201 t6196.length c6202)), (27, (.int .i64 (t6196.length : Int))), (28, (.int .i64 t.1.2))]) (fun n t w1 => St NoS w w1 [knestO (aggI ints_A8_Int) vB t.2 t.1.1, knestO (aggI ints_A8_Int) vB ([] : List (A8_Int × (HM × List (Option (List (A8_Int × Bool)))))) ([] : List (A8_Int × List (Option (List (A8_Int × Bool))))), rowR enc_Tile A_p0 c_p0 p0] [blk g6018 (.cells #[(.int .i64 0), (.int .i64 0), (.slice none 0 0)] 38 (0, 0)), rowO 88 encN_Row A6201 c6202 (tag H6203 t6196), poolO [nestO subN_Row H6203 t6196], blk g6204 (mapObj (aggI ints_A8_Int) slV t.2), blk g6208 (.cells #[(.int .i64 p1), (.int .i64 p2), (.slice none 0 0)] 38 (0, 0))] ∧ torus_find.l0 n t.1.1 t.1.2 p1 p2 t6196 = some x7805) k ((([] : List (A8_Int × List (Option (List (A8_Int × Bool))))), 0), ([] : List (A8_Int × (HM × List (Option (List (A8_Int × Bool))))))) [2, 6, 8, 9, 10, 26, 27, 28] rfl ⟨(hS6213.subR [0, 0, 1]).sub [4, 2, 3, 1, 0] (by decide), hx7806⟩ ?_
    rintro k7807 ⟨⟨l7802, x7804⟩, K7803⟩ w7808 ⟨hS7809, hl7810⟩
    cases k7807 with
    | zero => rw [torus_find.l0] at hl7810; cases hl7810
    | succ k7807 =>
      rw [torus_find.l0] at hl7810
      refine WC.seq ?_
      refine WC.region ?_
      refine seg 1 [] [2, 6, 8, 9, 10, 26, 27, 28, 29] [(2, (.int .i64 p2)), (6, (.pointer (some ⟨g6018, 0, none⟩))), (8, (.slice A6201 t6196.length c6202)), (9, (.map (some g6204))), (10, (.pointer (some ⟨g6208, 0, none⟩))), (26, (.slice A6201 t6196.length c6202)), (27, (.int .i64 (t6196.length : Int))), (28, (.int .i64 x7804)), (29, (.bool (decide (x7804 < (t6196.length : Int)))))] [] (fun fb => by kernel_rfl) rfl trivial ?_
      refine WL.done rfl ?_
      refine WX.next ?_
      refine WC.seq ?_
      rcases br_some hl7810 with ⟨h7811, hl7810⟩ | ⟨h7811, hl7810⟩
      · refine WC.condT2 (fun fb => by kernel_rfl) h7811 ?_
        refine WC.skip ?_
        refine WX.next ?_
        refine WC.seq ?_
        refine WC.block ?_
        refine WC.seq ?_
        refine WC.region ?_
        obtain ⟨h7812, hl7810⟩ := as_some hl7810
        refine seg 2 [.v (.slice ((H6203 x7804.toNat 0).1) ((rdD t6196 x7804 z_Row).Cells).length ((H6203 x7804.toNat 0).2)), .v (.int .i64 (((rdD t6196 x7804 z_Row).South).e0)), .v (.int .i64 (((rdD t6196 x7804 z_Row).South).e1)), .v (.int .i64 (((rdD t6196 x7804 z_Row).South).e2)), .v (.int .i64 (((rdD t6196 x7804 z_Row).South).e3)), .v (.int .i64 (((rdD t6196 x7804 z_Row).South).e4)), .v (.int .i64 (((rdD t6196 x7804 z_Row).South).e5)), .v (.int .i64 (((rdD t6196 x7804 z_Row).South).e6)), .v (.int .i64 (((rdD t6196 x7804 z_Row).South).e7)), .v (.int .i64 (((rdD t6196 x7804 z_Row).North).e0)), .v (.int .i64 (((rdD t6196 x7804 z_Row).North).e1)), .v (.int .i64 (((rdD t6196 x7804 z_Row).North).e2)), .v (.int .i64 (((rdD t6196 x7804 z_Row).North).e3)), .v (.int .i64 (((rdD t6196 x7804 z_Row).North).e4)), .v (.int .i64 (((rdD t6196 x7804 z_Row).North).e5)), .v (.int .i64 (((rdD t6196 x7804 z_Row).North).e6)), .v (.int .i64 (((rdD t6196 x7804 z_Row).North).e7)), .v (.int .i64 ((rdD t6196 x7804 z_Row).West)), .v (.int .i64 ((rdD t6196 x7804 z_Row).East))] [2, 6, 8, 9, 10, 26, 27, 28, 31] [(2, (.int .i64 p2)), (6, (.pointer (some ⟨g6018, 0, none⟩))), (8, (.slice A6201 t6196.length c6202)), (9, (.map (some g6204))), (10, (.pointer (some ⟨g6208, 0, none⟩))), (26, (.slice A6201 t6196.length c6202)), (27, (.int .i64 (t6196.length : Int))), (28, (.int .i64 x7804)), (31, (.agg #[(.slice ((H6203 x7804.toNat 0).1) ((rdD t6196 x7804 z_Row).Cells).length ((H6203 x7804.toNat 0).2)), (.int .i64 (((rdD t6196 x7804 z_Row).South).e0)), (.int .i64 (((rdD t6196 x7804 z_Row).South).e1)), (.int .i64 (((rdD t6196 x7804 z_Row).South).e2)), (.int .i64 (((rdD t6196 x7804 z_Row).South).e3)), (.int .i64 (((rdD t6196 x7804 z_Row).South).e4)), (.int .i64 (((rdD t6196 x7804 z_Row).South).e5)), (.int .i64 (((rdD t6196 x7804 z_Row).South).e6)), (.int .i64 (((rdD t6196 x7804 z_Row).South).e7)), (.int .i64 (((rdD t6196 x7804 z_Row).North).e0)), (.int .i64 (((rdD t6196 x7804 z_Row).North).e1)), (.int .i64 (((rdD t6196 x7804 z_Row).North).e2)), (.int .i64 (((rdD t6196 x7804 z_Row).North).e3)), (.int .i64 (((rdD t6196 x7804 z_Row).North).e4)), (.int .i64 (((rdD t6196 x7804 z_Row).North).e5)), (.int .i64 (((rdD t6196 x7804 z_Row).North).e6)), (.int .i64 (((rdD t6196 x7804 z_Row).North).e7)), (.int .i64 ((rdD t6196 x7804 z_Row).West)), (.int .i64 ((rdD t6196 x7804 z_Row).East))]))] [.idx A6201 x7804 t6196.length, .cell ((adr A6201).add ((x7804).toNat * 19)) (.slice ((H6203 x7804.toNat 0).1) ((rdD t6196 x7804 z_Row).Cells).length ((H6203 x7804.toNat 0).2)), .cell (((adr A6201).add ((x7804).toNat * 19)).add 1) (.int .i64 (((rdD t6196 x7804 z_Row).South).e0)), .cell (((adr A6201).add ((x7804).toNat * 19)).add 2) (.int .i64 (((rdD t6196 x7804 z_Row).South).e1)), .cell (((adr A6201).add ((x7804).toNat * 19)).add 3) (.int .i64 (((rdD t6196 x7804 z_Row).South).e2)), .cell (((adr A6201).add ((x7804).toNat * 19)).add 4) (.int .i64 (((rdD t6196 x7804 z_Row).South).e3)), .cell (((adr A6201).add ((x7804).toNat * 19)).add 5) (.int .i64 (((rdD t6196 x7804 z_Row).South).e4)), .cell (((adr A6201).add ((x7804).toNat * 19)).add 6) (.int .i64 (((rdD t6196 x7804 z_Row).South).e5)), .cell (((adr A6201).add ((x7804).toNat * 19)).add 7) (.int .i64 (((rdD t6196 x7804 z_Row).South).e6)), .cell (((adr A6201).add ((x7804).toNat * 19)).add 8) (.int .i64 (((rdD t6196 x7804 z_Row).South).e7)), .cell (((adr A6201).add ((x7804).toNat * 19)).add 9) (.int .i64 (((rdD t6196 x7804 z_Row).North).e0)), .cell (((adr A6201).add ((x7804).toNat * 19)).add 10) (.int .i64 (((rdD t6196 x7804 z_Row).North).e1)), .cell (((adr A6201).add ((x7804).toNat * 19)).add 11) (.int .i64 (((rdD t6196 x7804 z_Row).North).e2)), .cell (((adr A6201).add ((x7804).toNat * 19)).add 12) (.int .i64 (((rdD t6196 x7804 z_Row).North).e3)), .cell (((adr A6201).add ((x7804).toNat * 19)).add 13) (.int .i64 (((rdD t6196 x7804 z_Row).North).e4)), .cell (((adr A6201).add ((x7804).toNat * 19)).add 14) (.int .i64 (((rdD t6196 x7804 z_Row).North).e5)), .cell (((adr A6201).add ((x7804).toNat * 19)).add 15) (.int .i64 (((rdD t6196 x7804 z_Row).North).e6)), .cell (((adr A6201).add ((x7804).toNat * 19)).add 16) (.int .i64 (((rdD t6196 x7804 z_Row).North).e7)), .cell (((adr A6201).add ((x7804).toNat * 19)).add 17) (.int .i64 ((rdD t6196 x7804 z_Row).West)), .cell (((adr A6201).add ((x7804).toNat * 19)).add 18) (.int .i64 ((rdD t6196 x7804 z_Row).East))] (fun fb => by kernel_rfl) rfl ⟨nrow_adr (rowO.rd (hS7809.own 1).1) h7812.1 h7812.2, nrow_cell (rowO.rd (hS7809.own 1).1) z_Row h7812.1 h7812.2 0 rfl, nrow_cell (rowO.rd (hS7809.own 1).1) z_Row h7812.1 h7812.2 1 rfl, nrow_cell (rowO.rd (hS7809.own 1).1) z_Row h7812.1 h7812.2 2 rfl, nrow_cell (rowO.rd (hS7809.own 1).1) z_Row h7812.1 h7812.2 3 rfl, nrow_cell (rowO.rd (hS7809.own 1).1) z_Row h7812.1 h7812.2 4 rfl, nrow_cell (rowO.rd (hS7809.own 1).1) z_Row h7812.1 h7812.2 5 rfl, nrow_cell (rowO.rd (hS7809.own 1).1) z_Row h7812.1 h7812.2 6 rfl, nrow_cell (rowO.rd (hS7809.own 1).1) z_Row h7812.1 h7812.2 7 rfl, nrow_cell (rowO.rd (hS7809.own 1).1) z_Row h7812.1 h7812.2 8 rfl, nrow_cell (rowO.rd (hS7809.own 1).1) z_Row h7812.1 h7812.2 9 rfl, nrow_cell (rowO.rd (hS7809.own 1).1) z_Row h7812.1 h7812.2 10 rfl, nrow_cell (rowO.rd (hS7809.own 1).1) z_Row h7812.1 h7812.2 11 rfl, nrow_cell (rowO.rd (hS7809.own 1).1) z_Row h7812.1 h7812.2 12 rfl, nrow_cell (rowO.rd (hS7809.own 1).1) z_Row h7812.1 h7812.2 13 rfl, nrow_cell (rowO.rd (hS7809.own 1).1) z_Row h7812.1 h7812.2 14 rfl, nrow_cell (rowO.rd (hS7809.own 1).1) z_Row h7812.1 h7812.2 15 rfl, nrow_cell (rowO.rd (hS7809.own 1).1) z_Row h7812.1 h7812.2 16 rfl, nrow_cell (rowO.rd (hS7809.own 1).1) z_Row h7812.1 h7812.2 17 rfl, nrow_cell (rowO.rd (hS7809.own 1).1) z_Row h7812.1 h7812.2 18 rfl, trivial⟩ ?_
        refine WL.new hS7809 12 [] (fun g => (.pointer (some ⟨g, 0, none⟩))) (.cells #[(.slice none 0 0), (.int .i64 0), (.int .i64 0), (.int .i64 0), (.int .i64 0), (.int .i64 0), (.int .i64 0), (.int .i64 0), (.int .i64 0), (.int .i64 0), (.int .i64 0), (.int .i64 0), (.int .i64 0), (.int .i64 0), (.int .i64 0), (.int .i64 0), (.int .i64 0), (.int .i64 0), (.int .i64 0)] 88 (0, 0)) [] (fun fb g => by kernel_rfl) trivial (fun g7813 w7814 hS7815 => ?_)
        refine ⟨trivial, ?_⟩
        refine WL.store hS7815 0 rfl [(0, (.slice ((H6203 x7804.toNat 0).1) ((rdD t6196 x7804 z_Row).Cells).length ((H6203 x7804.toNat 0).2))), (1, (.int .i64 (((rdD t6196 x7804 z_Row).South).e0))), (2, (.int .i64 (((rdD t6196 x7804 z_Row).South).e1))), (3, (.int .i64 (((rdD t6196 x7804 z_Row).South).e2))), (4, (.int .i64 (((rdD t6196 x7804 z_Row).South).e3))), (5, (.int .i64 (((rdD t6196 x7804 z_Row).South).e4))), (6, (.int .i64 (((rdD t6196 x7804 z_Row).South).e5))), (7, (.int .i64 (((rdD t6196 x7804 z_Row).South).e6))), (8, (.int .i64 (((rdD t6196 x7804 z_Row).South).e7))), (9, (.int .i64 (((rdD t6196 x7804 z_Row).North).e0))), (10, (.int .i64 (((rdD t6196 x7804 z_Row).North).e1))), (11, (.int .i64 (((rdD t6196 x7804 z_Row).North).e2))), (12, (.int .i64 (((rdD t6196 x7804 z_Row).North).e3))), (13, (.int .i64 (((rdD t6196 x7804 z_Row).North).e4))), (14, (.int .i64 (((rdD t6196 x7804 z_Row).North).e5))), (15, (.int .i64 (((rdD t6196 x7804 z_Row).North).e6))), (16, (.int .i64 (((rdD t6196 x7804 z_Row).North).e7))), (17, (.int .i64 ((rdD t6196 x7804 z_Row).West))), (18, (.int .i64 ((rdD t6196 x7804 z_Row).East)))] #[(.slice ((H6203 x7804.toNat 0).1) ((rdD t6196 x7804 z_Row).Cells).length ((H6203 x7804.toNat 0).2)), (.int .i64 (((rdD t6196 x7804 z_Row).South).e0)), (.int .i64 (((rdD t6196 x7804 z_Row).South).e1)), (.int .i64 (((rdD t6196 x7804 z_Row).South).e2)), (.int .i64 (((rdD t6196 x7804 z_Row).South).e3)), (.int .i64 (((rdD t6196 x7804 z_Row).South).e4)), (.int .i64 (((rdD t6196 x7804 z_Row).South).e5)), (.int .i64 (((rdD t6196 x7804 z_Row).South).e6)), (.int .i64 (((rdD t6196 x7804 z_Row).South).e7)), (.int .i64 (((rdD t6196 x7804 z_Row).North).e0)), (.int .i64 (((rdD t6196 x7804 z_Row).North).e1)), (.int .i64 (((rdD t6196 x7804 z_Row).North).e2)), (.int .i64 (((rdD t6196 x7804 z_Row).North).e3)), (.int .i64 (((rdD t6196 x7804 z_Row).North).e4)), (.int .i64 (((rdD t6196 x7804 z_Row).North).e5)), (.int .i64 (((rdD t6196 x7804 z_Row).North).e6)), (.int .i64 (((rdD t6196 x7804 z_Row).North).e7)), (.int .i64 ((rdD t6196 x7804 z_Row).West)), (.int .i64 ((rdD t6196 x7804 z_Row).East))] (fun fb => by kernel_rfl) (by kernel_rfl) (by kernel_rfl) [1, 2, 3, 4, 5] (by decide) (by decide) (fun w7817 hS7818 => ?_)
        refine ⟨trivial, ?_⟩
        refine WL.done rfl ?_
        refine WX.next ?_
        refine WC.seq ?_
        refine WC.region ?_
        refine seg 3 [.v (.int .i64 (((rdD t6196 x7804 z_Row).South).e0)), .v (.int .i64 (((rdD t6196 x7804 z_Row).South).e1)), .v (.int .i64 (((rdD t6196 x7804 z_Row).South).e2)), .v (.int .i64 (((rdD t6196 x7804 z_Row).South).e3)), .v (.int .i64 (((rdD t6196 x7804 z_Row).South).e4)), .v (.int .i64 (((rdD t6196 x7804 z_Row).South).e5)), .v (.int .i64 (((rdD t6196 x7804 z_Row).South).e6)), .v (.int .i64 (((rdD t6196 x7804 z_Row).South).e7))] [2, 6, 8, 9, 10, 12, 26, 27, 28, 33, 35] [(2, (.int .i64 p2)), (6, (.pointer (some ⟨g6018, 0, none⟩))), (8, (.slice A6201 t6196.length c6202)), (9, (.map (some g6204))), (10, (.pointer (some ⟨g6208, 0, none⟩))), (12, (.pointer (some ⟨g7813, 0, none⟩))), (26, (.slice A6201 t6196.length c6202)), (27, (.int .i64 (t6196.length : Int))), (28, (.int .i64 x7804)), (33, (.map (some g6204))), (35, (.agg #[(.int .i64 (((rdD t6196 x7804 z_Row).South).e0)), (.int .i64 (((rdD t6196 x7804 z_Row).South).e1)), (.int .i64 (((rdD t6196 x7804 z_Row).South).e2)), (.int .i64 (((rdD t6196 x7804 z_Row).South).e3)), (.int .i64 (((rdD t6196 x7804 z_Row).South).e4)), (.int .i64 (((rdD t6196 x7804 z_Row).South).e5)), (.int .i64 (((rdD t6196 x7804 z_Row).South).e6)), (.int .i64 (((rdD t6196 x7804 z_Row).South).e7))]))] [.cell ⟨g7813, 1, none⟩ (.int .i64 (((rdD t6196 x7804 z_Row).South).e0)), .cell ⟨g7813, 2, none⟩ (.int .i64 (((rdD t6196 x7804 z_Row).South).e1)), .cell ⟨g7813, 3, none⟩ (.int .i64 (((rdD t6196 x7804 z_Row).South).e2)), .cell ⟨g7813, 4, none⟩ (.int .i64 (((rdD t6196 x7804 z_Row).South).e3)), .cell ⟨g7813, 5, none⟩ (.int .i64 (((rdD t6196 x7804 z_Row).South).e4)), .cell ⟨g7813, 6, none⟩ (.int .i64 (((rdD t6196 x7804 z_Row).South).e5)), .cell ⟨g7813, 7, none⟩ (.int .i64 (((rdD t6196 x7804 z_Row).South).e6)), .cell ⟨g7813, 8, none⟩ (.int .i64 (((rdD t6196 x7804 z_Row).South).e7))] (fun fb => by kernel_rfl) rfl ⟨hS7818.cell 0 rfl 1 rfl, hS7818.cell 0 rfl 2 rfl, hS7818.cell 0 rfl 3 rfl, hS7818.cell 0 rfl 4 rfl, hS7818.cell 0 rfl 5 rfl, hS7818.cell 0 rfl 6 rfl, hS7818.cell 0 rfl 7 rfl, hS7818.cell 0 rfl 8 rfl, trivial⟩ ?_
        refine WL.lookup (hS7818.own 4).1 ((rdD t6196 x7804 z_Row).South) (d := 36) (c := true) (t := 104) (kT := 86) (eT := 80) (z := zHM) (kE := (aggI ints_A8_Int)) (vE := slV) (l := K7803) (.tuple #[(.slice ((mget ((rdD t6196 x7804 z_Row).South) zHM K7803).1.1) (mget ((rdD t6196 x7804 z_Row).South) [] l7802).length ((mget ((rdD t6196 x7804 z_Row).South) zHM K7803).1.2.1)), (.bool (mhas ((rdD t6196 x7804 z_Row).South) l7802))]) (fun fb => by kernel_rfl) torus_find_key86 (by kernel_rfl) (fun _ => by kernel_rfl) (by rw [mhas_unK, (knestO.eq (hS7818.rd 0))]; rw [slV_get _ _ (knestO.eq (hS7818.rd 0))]; rfl) ?_
        refine ⟨trivial, ?_⟩
        have hS7819 : St NoS w w7817 [rowR (encMap A8_Int Bool) ((mget ((rdD t6196 x7804 z_Row).South) zHM K7803).1.1) ((mget ((rdD t6196 x7804 z_Row).South) zHM K7803).1.2.1) (tag ((mget ((rdD t6196 x7804 z_Row).South) zHM K7803).1.2.2) (mget ((rdD t6196 x7804 z_Row).South) [] l7802)), knestO (aggI ints_A8_Int) vB K7803 l7802, knestO (aggI ints_A8_Int) vB ([] : List (A8_Int × (HM × List (Option (List (A8_Int × Bool)))))) ([] : List (A8_Int × List (Option (List (A8_Int × Bool))))), rowR enc_Tile A_p0 c_p0 p0] [blk g7813 (.cells #[(.slice ((H6203 x7804.toNat 0).1) ((rdD t6196 x7804 z_Row).Cells).length ((H6203 x7804.toNat 0).2)), (.int .i64 (((rdD t6196 x7804 z_Row).South).e0)), (.int .i64 (((rdD t6196 x7804 z_Row).South).e1)), (.int .i64 (((rdD t6196 x7804 z_Row).South).e2)), (.int .i64 (((rdD t6196 x7804 z_Row).South).e3)), (.int .i64 (((rdD t6196 x7804 z_Row).South).e4)), (.int .i64 (((rdD t6196 x7804 z_Row).South).e5)), (.int .i64 (((rdD t6196 x7804 z_Row).South).e6)), (.int .i64 (((rdD t6196 x7804 z_Row).South).e7)), (.int .i64 (((rdD t6196 x7804 z_Row).North).e0)), (.int .i64 (((rdD t6196 x7804 z_Row).North).e1)), (.int .i64 (((rdD t6196 x7804 z_Row).North).e2)), (.int .i64 (((rdD t6196 x7804 z_Row).North).e3)), (.int .i64 (((rdD t6196 x7804 z_Row).North).e4)), (.int .i64 (((rdD t6196 x7804 z_Row).North).e5)), (.int .i64 (((rdD t6196 x7804 z_Row).North).e6)), (.int .i64 (((rdD t6196 x7804 z_Row).North).e7)), (.int .i64 ((rdD t6196 x7804 z_Row).West)), (.int .i64 ((rdD t6196 x7804 z_Row).East))] 88 (0, 0)), blk g6018 (.cells #[(.int .i64 0), (.int .i64 0), (.slice none 0 0)] 38 (0, 0)), rowO 88 encN_Row A6201 c6202 (tag H6203 t6196), poolO [nestO subN_Row H6203 t6196], blk g6204 (mapObj (aggI ints_A8_Int) slV K7803), blk g6208 (.cells #[(.int .i64 p1), (.int .i64 p2), (.slice none 0 0)] 38 (0, 0))] := hS7818.addR _ (knestO.row (hS7818.rdL 0) ((rdD t6196 x7804 z_Row).South))
        have hS7820 : St NoS w w7817 [mapsO (aggI ints_A8_Int) vB ((mget ((rdD t6196 x7804 z_Row).South) zHM K7803).1.2.2) (mget ((rdD t6196 x7804 z_Row).South) [] l7802), rowR (encMap A8_Int Bool) ((mget ((rdD t6196 x7804 z_Row).South) zHM K7803).1.1) ((mget ((rdD t6196 x7804 z_Row).South) zHM K7803).1.2.1) (tag ((mget ((rdD t6196 x7804 z_Row).South) zHM K7803).1.2.2) (mget ((rdD t6196 x7804 z_Row).South) [] l7802)), knestO (aggI ints_A8_Int) vB K7803 l7802, knestO (aggI ints_A8_Int) vB ([] : List (A8_Int × (HM × List (Option (List (A8_Int × Bool)))))) ([] : List (A8_Int × List (Option (List (A8_Int × Bool))))), rowR enc_Tile A_p0 c_p0 p0] [blk g7813 (.cells #[(.slice ((H6203 x7804.toNat 0).1) ((rdD t6196 x7804 z_Row).Cells).length ((H6203 x7804.toNat 0).2)), (.int .i64 (((rdD t6196 x7804 z_Row).South).e0)), (.int .i64 (((rdD t6196 x7804 z_Row).South).e1)), (.int .i64 (((rdD t6196 x7804 z_Row).South).e2)), (.int .i64 (((rdD t6196 x7804 z_Row).South).e3)), (.int .i64 (((rdD t6196 x7804 z_Row).South).e4)), (.int .i64 (((rdD t6196 x7804 z_Row).South).e5)), (.int .i64 (((rdD t6196 x7804 z_Row).South).e6)), (.int .i64 (((rdD t6196 x7804 z_Row).South).e7)), (.int .i64 (((rdD t6196 x7804 z_Row).North).e0)), (.int .i64 (((rdD t6196 x7804 z_Row).North).e1)), (.int .i64 (((rdD t6196 x7804 z_Row).North).e2)), (.int .i64 (((rdD t6196 x7804 z_Row).North).e3)), (.int .i64 (((rdD t6196 x7804 z_Row).North).e4)), (.int .i64 (((rdD t6196 x7804 z_Row).North).e5)), (.int .i64 (((rdD t6196 x7804 z_Row).North).e6)), (.int .i64 (((rdD t6196 x7804 z_Row).North).e7)), (.int .i64 ((rdD t6196 x7804 z_Row).West)), (.int .i64 ((rdD t6196 x7804 z_Row).East))] 88 (0, 0)), blk g6018 (.cells #[(.int .i64 0), (.int .i64 0), (.slice none 0 0)] 38 (0, 0)), rowO 88 encN_Row A6201 c6202 (tag H6203 t6196), poolO [nestO subN_Row H6203 t6196], blk g6204 (mapObj (aggI ints_A8_Int) slV K7803), blk g6208 (.cells #[(.int .i64 p1), (.int .i64 p2), (.slice none 0 0)] 38 (0, 0))] := hS7819.addR _ (knestO.maps (hS7819.rdL 1) ((rdD t6196 x7804 z_Row).South))
        refine seg 9 [] [2, 6, 8, 9, 10, 12, 13, 14, 26, 27, 28] [(2, (.int .i64 p2)), (6, (.pointer (some ⟨g6018, 0, none⟩))), (8, (.slice A6201 t6196.length c6202)), (9, (.map (some g6204))), (10, (.pointer (some ⟨g6208, 0, none⟩))), (12, (.pointer (some ⟨g7813, 0, none⟩))), (13, (.slice ((mget ((rdD t6196 x7804 z_Row).South) zHM K7803).1.1) (mget ((rdD t6196 x7804 z_Row).South) [] l7802).length ((mget ((rdD t6196 x7804 z_Row).South) zHM K7803).1.2.1))), (14, (.bool (mhas ((rdD t6196 x7804 z_Row).South) l7802))), (26, (.slice A6201 t6196.length c6202)), (27, (.int .i64 (t6196.length : Int))), (28, (.int .i64 x7804))] [] (fun fb => by kernel_rfl) rfl trivial ?_
        refine WL.done rfl ?_
        refine WX.next ?_
        refine WC.seq ?_
        refine WC.seq ?_
        refine WC.region ?_
        refine seg 2 [] [2, 6, 8, 9, 10, 12, 13, 26, 27, 28, 40] [(2, (.int .i64 p2)), (6, (.pointer (some ⟨g6018, 0, none⟩))), (8, (.slice A6201 t6196.length c6202)), (9, (.map (some g6204))), (10, (.pointer (some ⟨g6208, 0, none⟩))), (12, (.pointer (some ⟨g7813, 0, none⟩))), (13, (.slice ((mget ((rdD t6196 x7804 z_Row).South) zHM K7803).1.1) (mget ((rdD t6196 x7804 z_Row).South) [] l7802).length ((mget ((rdD t6196 x7804 z_Row).South) zHM K7803).1.2.1))), (26, (.slice A6201 t6196.length c6202)), (27, (.int .i64 (t6196.length : Int))), (28, (.int .i64 x7804)), (40, (.bool (!(mhas ((rdD t6196 x7804 z_Row).South) l7802))))] [] (fun fb => by kernel_rfl) rfl trivial ?_
        refine WL.done rfl ?_
        refine WX.next ?_
        obtain ⟨x7841, hx7842, hl7810⟩ := bind_some hl7810
        refine WC.cutN (T := ((List (A8_Int × List (Option (List (A8_Int × Bool))))) × (List (Option (List (A8_Int × Bool))))) × (List (A8_Int × (HM × List (Option (List (A8_Int × Bool)))))) × (Option Addr) × Nat × (Nat → Nat)) (fun t => [(2, (.int .i64 p2)), (6, (.pointer (some ⟨g6018, 0, none⟩))), (8, (.slice A6201 t6196.length c6202)), (9, (.map (some g6204))), (10, (.pointer (some ⟨g6208, 0, none⟩))), (12, (.pointer (some ⟨g7813, 0, none⟩))), (13, (.slice t.2.2.1 t.1.2.length t.2.2.2.1)), (26, (.slice A6201 t6196.length c6202)), (27, (.int .i64 (t6196.length : Int))), (28, (.int .i64 x7804))]) (fun t w1 => St NoS w w1 [knestO (aggI ints_A8_Int) vB t.2.1 t.1.1, rowR (encMap A8_Int Bool) t.2.2.1 t.2.2.2.1 (tag t.2.2.2.2 t.1.2), mapsO (aggI ints_A8_Int) vB t.2.2.2.2 t.1.2, mapsO (aggI ints_A8_Int) vB ((mget ((rdD t6196 x7804 z_Row).South) zHM K7803).1.2.2) (mget ((rdD t6196 x7804 z_Row).South) [] l7802), rowR (encMap A8_Int Bool) ((mget ((rdD t6196 x7804 z_Row).South) zHM K7803).1.1) ((mget ((rdD t6196 x7804 z_Row).South) zHM K7803).1.2.1) (tag ((mget ((rdD t6196 x7804 z_Row).South) zHM K7803).1.2.2) (mget ((rdD t6196 x7804 z_Row).South) [] l7802)), knestO (aggI ints_A8_Int) vB K7803 l7802, knestO (aggI ints_A8_Int) vB ([] : List (A8_Int × (HM × List (Option (List (A8_Int × Bool)))))) ([] : List (A8_Int × List (Option (List (A8_Int × Bool))))), rowR enc_Tile A_p0 c_p0 p0] [blk g6018 (.cells #[(.int .i64 0), (.int .i64 0), (.slice none 0 0)] 38 (0, 0)), rowO 88 encN_Row A6201 c6202 (tag H6203 t6196), poolO [nestO subN_Row H6203 t6196], blk g6204 (mapObj (aggI ints_A8_Int) slV t.2.1), blk g6208 (.cells #[(.int .i64 p1), (.int .i64 p2), (.slice none 0 0)] 38 (0, 0)), blk g7813 (.cells #[(.slice ((H6203 x7804.toNat 0).1) ((rdD t6196 x7804 z_Row).Cells).length ((H6203 x7804.toNat 0).2)), (.int .i64 (((rdD t6196 x7804 z_Row).South).e0)), (.int .i64 (((rdD t6196 x7804 z_Row).South).e1)), (.int .i64 (((rdD t6196 x7804 z_Row).South).e2)), (.int .i64 (((rdD t6196 x7804 z_Row).South).e3)), (.int .i64 (((rdD t6196 x7804 z_Row).South).e4)), (.int .i64 (((rdD t6196 x7804 z_Row).South).e5)), (.int .i64 (((rdD t6196 x7804 z_Row).South).e6)), (.int .i64 (((rdD t6196 x7804 z_Row).South).e7)), (.int .i64 (((rdD t6196 x7804 z_Row).North).e0)), (.int .i64 (((rdD t6196 x7804 z_Row).North).e1)), (.int .i64 (((rdD t6196 x7804 z_Row).North).e2)), (.int .i64 (((rdD t6196 x7804 z_Row).North).e3)), (.int .i64 (((rdD t6196 x7804 z_Row).North).e4)), (.int .i64 (((rdD t6196 x7804 z_Row).North).e5)), (.int .i64 (((rdD t6196 x7804 z_Row).North).e6)), (.int .i64 (((rdD t6196 x7804 z_Row).North).e7)), (.int .i64 ((rdD t6196 x7804 z_Row).West)), (.int .i64 ((rdD t6196 x7804 z_Row).East))] 88 (0, 0))] ∧ x7841 = t.1) (fun Kx7841 => ?_) ?_
        ·
          rcases br_some hx7842 with ⟨h7843, hx7842⟩ | ⟨h7843, hx7842⟩
          · refine WC.condT2 (fun fb => by kernel_rfl) h7843 ?_
            refine WC.seq ?_
            refine WC.region ?_
            refine seg 5 [.v (.int .i64 (((rdD t6196 x7804 z_Row).South).e0)), .v (.int .i64 (((rdD t6196 x7804 z_Row).South).e1)), .v (.int .i64 (((rdD t6196 x7804 z_Row).South).e2)), .v (.int .i64 (((rdD t6196 x7804 z_Row).South).e3)), .v (.int .i64 (((rdD t6196 x7804 z_Row).South).e4)), .v (.int .i64 (((rdD t6196 x7804 z_Row).South).e5)), .v (.int .i64 (((rdD t6196 x7804 z_Row).South).e6)), .v (.int .i64 (((rdD t6196 x7804 z_Row).South).e7))] [2, 6, 8, 9, 10, 12, 26, 27, 28, 41, 43, 45] [(2, (.int .i64 p2)), (6, (.pointer (some ⟨g6018, 0, none⟩))), (8, (.slice A6201 t6196.length c6202)), (9, (.map (some g6204))), (10, (.pointer (some ⟨g6208, 0, none⟩))), (12, (.pointer (some ⟨g7813, 0, none⟩))), (26, (.slice A6201 t6196.length c6202)), (27, (.int .i64 (t6196.length : Int))), (28, (.int .i64 x7804)), (41, (.slice A6201 t6196.length c6202)), (43, (.agg #[(.int .i64 (((rdD t6196 x7804 z_Row).South).e0)), (.int .i64 (((rdD t6196 x7804 z_Row).South).e1)), (.int .i64 (((rdD t6196 x7804 z_Row).South).e2)), (.int .i64 (((rdD t6196 x7804 z_Row).South).e3)), (.int .i64 (((rdD t6196 x7804 z_Row).South).e4)), (.int .i64 (((rdD t6196 x7804 z_Row).South).e5)), (.int .i64 (((rdD t6196 x7804 z_Row).South).e6)), (.int .i64 (((rdD t6196 x7804 z_Row).South).e7))])), (45, (.int .i64 (w64 (p2 - 1))))] [.cell ⟨g7813, 1, none⟩ (.int .i64 (((rdD t6196 x7804 z_Row).South).e0)), .cell ⟨g7813, 2, none⟩ (.int .i64 (((rdD t6196 x7804 z_Row).South).e1)), .cell ⟨g7813, 3, none⟩ (.int .i64 (((rdD t6196 x7804 z_Row).South).e2)), .cell ⟨g7813, 4, none⟩ (.int .i64 (((rdD t6196 x7804 z_Row).South).e3)), .cell ⟨g7813, 5, none⟩ (.int .i64 (((rdD t6196 x7804 z_Row).South).e4)), .cell ⟨g7813, 6, none⟩ (.int .i64 (((rdD t6196 x7804 z_Row).South).e5)), .cell ⟨g7813, 7, none⟩ (.int .i64 (((rdD t6196 x7804 z_Row).South).e6)), .cell ⟨g7813, 8, none⟩ (.int .i64 (((rdD t6196 x7804 z_Row).South).e7))] (fun fb => by kernel_rfl) rfl ⟨hS7820.cell 0 rfl 1 rfl, hS7820.cell 0 rfl 2 rfl, hS7820.cell 0 rfl 3 rfl, hS7820.cell 0 rfl 4 rfl, hS7820.cell 0 rfl 5 rfl, hS7820.cell 0 rfl 6 rfl, hS7820.cell 0 rfl 7 rfl, hS7820.cell 0 rfl 8 rfl, trivial⟩ ?_
            obtain ⟨t7844, ht7845, hx7842⟩ := bind_some hx7842
            refine WL.call (some 46) 63 #[(.slice A6201 t6196.length c6202), (.agg #[(.int .i64 (((rdD t6196 x7804 z_Row).South).e0)), (.int .i64 (((rdD t6196 x7804 z_Row).South).e1)), (.int .i64 (((rdD t6196 x7804 z_Row).South).e2)), (.int .i64 (((rdD t6196 x7804 z_Row).South).e3)), (.int .i64 (((rdD t6196 x7804 z_Row).South).e4)), (.int .i64 (((rdD t6196 x7804 z_Row).South).e5)), (.int .i64 (((rdD t6196 x7804 z_Row).South).e6)), (.int .i64 (((rdD t6196 x7804 z_Row).South).e7))]), (.int .i64 (w64 (p2 - 1)))] (fun fb => by kernel_rfl) (torus_back_calls _ t6196 ((rdD t6196 x7804 z_Row).South) (w64 (p2 - 1)) A6201 c6202 H6203 t7844 _ (hS7820.ow 2).ofO (poolO.ro (hS7820.ow 3) 0) ht7845) (fun v w7846 hR7847 => ?_)
            obtain ⟨A7849, c7850, H7851, rfl, hk_⟩ := hR7847
            have hS7848 : St NoS w w7846 [mapsO (aggI ints_A8_Int) vB ((mget ((rdD t6196 x7804 z_Row).South) zHM K7803).1.2.2) (mget ((rdD t6196 x7804 z_Row).South) [] l7802), rowR (encMap A8_Int Bool) ((mget ((rdD t6196 x7804 z_Row).South) zHM K7803).1.1) ((mget ((rdD t6196 x7804 z_Row).South) zHM K7803).1.2.1) (tag ((mget ((rdD t6196 x7804 z_Row).South) zHM K7803).1.2.2) (mget ((rdD t6196 x7804 z_Row).South) [] l7802)), knestO (aggI ints_A8_Int) vB K7803 l7802, knestO (aggI ints_A8_Int) vB ([] : List (A8_Int × (HM × List (Option (List (A8_Int × Bool)))))) ([] : List (A8_Int × List (Option (List (A8_Int × Bool))))), rowR enc_Tile A_p0 c_p0 p0] [rowO 81 (encMap A8_Int Bool) A7849 c7850 (tag H7851 t7844), mapsO (aggI ints_A8_Int) vB H7851 t7844, blk g7813 (.cells #[(.slice ((H6203 x7804.toNat 0).1) ((rdD t6196 x7804 z_Row).Cells).length ((H6203 x7804.toNat 0).2)), (.int .i64 (((rdD t6196 x7804 z_Row).South).e0)), (.int .i64 (((rdD t6196 x7804 z_Row).South).e1)), (.int .i64 (((rdD t6196 x7804 z_Row).South).e2)), (.int .i64 (((rdD t6196 x7804 z_Row).South).e3)), (.int .i64 (((rdD t6196 x7804 z_Row).South).e4)), (.int .i64 (((rdD t6196 x7804 z_Row).South).e5)), (.int .i64 (((rdD t6196 x7804 z_Row).South).e6)), (.int .i64 (((rdD t6196 x7804 z_Row).South).e7)), (.int .i64 (((rdD t6196 x7804 z_Row).North).e0)), (.int .i64 (((rdD t6196 x7804 z_Row).North).e1)), (.int .i64 (((rdD t6196 x7804 z_Row).North).e2)), (.int .i64 (((rdD t6196 x7804 z_Row).North).e3)), (.int .i64 (((rdD t6196 x7804 z_Row).North).e4)), (.int .i64 (((rdD t6196 x7804 z_Row).North).e5)), (.int .i64 (((rdD t6196 x7804 z_Row).North).e6)), (.int .i64 (((rdD t6196 x7804 z_Row).North).e7)), (.int .i64 ((rdD t6196 x7804 z_Row).West)), (.int .i64 ((rdD t6196 x7804 z_Row).East))] 88 (0, 0)), blk g6018 (.cells #[(.int .i64 0), (.int .i64 0), (.slice none 0 0)] 38 (0, 0)), rowO 88 encN_Row A6201 c6202 (tag H6203 t6196), poolO [nestO subN_Row H6203 t6196], blk g6204 (mapObj (aggI ints_A8_Int) slV K7803), blk g6208 (.cells #[(.int .i64 p1), (.int .i64 p2), (.slice none 0 0)] 38 (0, 0))] := hS7820.call hk_ [] [0, 1, 2, 3, 4, 5] (fun g hg => hg.elim) (by simp) (by decide)
            refine ⟨trivial, ?_⟩
            refine seg 7 [] [2, 6, 8, 9, 10, 12, 13, 26, 27, 28] [(2, (.int .i64 p2)), (6, (.pointer (some ⟨g6018, 0, none⟩))), (8, (.slice A6201 t6196.length c6202)), (9, (.map (some g6204))), (10, (.pointer (some ⟨g6208, 0, none⟩))), (12, (.pointer (some ⟨g7813, 0, none⟩))), (13, (.slice A7849 t7844.length c7850)), (26, (.slice A6201 t6196.length c6202)), (27, (.int .i64 (t6196.length : Int))), (28, (.int .i64 x7804))] [] (fun fb => by kernel_rfl) rfl trivial ?_
            refine WL.done rfl ?_
            refine WX.next ?_
            refine WC.region ?_
            refine seg 4 [.v (.int .i64 (((rdD t6196 x7804 z_Row).South).e0)), .v (.int .i64 (((rdD t6196 x7804 z_Row).South).e1)), .v (.int .i64 (((rdD t6196 x7804 z_Row).South).e2)), .v (.int .i64 (((rdD t6196 x7804 z_Row).South).e3)), .v (.int .i64 (((rdD t6196 x7804 z_Row).South).e4)), .v (.int .i64 (((rdD t6196 x7804 z_Row).South).e5)), .v (.int .i64 (((rdD t6196 x7804 z_Row).South).e6)), .v (.int .i64 (((rdD t6196 x7804 z_Row).South).e7))] [2, 6, 8, 9, 10, 12, 13, 26, 27, 28, 47, 49, 50] [(2, (.int .i64 p2)), (6, (.pointer (some ⟨g6018, 0, none⟩))), (8, (.slice A6201 t6196.length c6202)), (9, (.map (some g6204))), (10, (.pointer (some ⟨g6208, 0, none⟩))), (12, (.pointer (some ⟨g7813, 0, none⟩))), (13, (.slice A7849 t7844.length c7850)), (26, (.slice A6201 t6196.length c6202)), (27, (.int .i64 (t6196.length : Int))), (28, (.int .i64 x7804)), (47, (.map (some g6204))), (49, (.agg #[(.int .i64 (((rdD t6196 x7804 z_Row).South).e0)), (.int .i64 (((rdD t6196 x7804 z_Row).South).e1)), (.int .i64 (((rdD t6196 x7804 z_Row).South).e2)), (.int .i64 (((rdD t6196 x7804 z_Row).South).e3)), (.int .i64 (((rdD t6196 x7804 z_Row).South).e4)), (.int .i64 (((rdD t6196 x7804 z_Row).South).e5)), (.int .i64 (((rdD t6196 x7804 z_Row).South).e6)), (.int .i64 (((rdD t6196 x7804 z_Row).South).e7))])), (50, (.slice A7849 t7844.length c7850))] [.cell ⟨g7813, 1, none⟩ (.int .i64 (((rdD t6196 x7804 z_Row).South).e0)), .cell ⟨g7813, 2, none⟩ (.int .i64 (((rdD t6196 x7804 z_Row).South).e1)), .cell ⟨g7813, 3, none⟩ (.int .i64 (((rdD t6196 x7804 z_Row).South).e2)), .cell ⟨g7813, 4, none⟩ (.int .i64 (((rdD t6196 x7804 z_Row).South).e3)), .cell ⟨g7813, 5, none⟩ (.int .i64 (((rdD t6196 x7804 z_Row).South).e4)), .cell ⟨g7813, 6, none⟩ (.int .i64 (((rdD t6196 x7804 z_Row).South).e5)), .cell ⟨g7813, 7, none⟩ (.int .i64 (((rdD t6196 x7804 z_Row).South).e6)), .cell ⟨g7813, 8, none⟩ (.int .i64 (((rdD t6196 x7804 z_Row).South).e7))] (fun fb => by kernel_rfl) rfl ⟨hS7848.cell 2 rfl 1 rfl, hS7848.cell 2 rfl 2 rfl, hS7848.cell 2 rfl 3 rfl, hS7848.cell 2 rfl 4 rfl, hS7848.cell 2 rfl 5 rfl, hS7848.cell 2 rfl 6 rfl, hS7848.cell 2 rfl 7 rfl, hS7848.cell 2 rfl 8 rfl, trivial⟩ ?_
            have hS7852 : St NoS w w7846 [mapsO (aggI ints_A8_Int) vB H7851 t7844, mapsO (aggI ints_A8_Int) vB ((mget ((rdD t6196 x7804 z_Row).South) zHM K7803).1.2.2) (mget ((rdD t6196 x7804 z_Row).South) [] l7802), rowR (encMap A8_Int Bool) ((mget ((rdD t6196 x7804 z_Row).South) zHM K7803).1.1) ((mget ((rdD t6196 x7804 z_Row).South) zHM K7803).1.2.1) (tag ((mget ((rdD t6196 x7804 z_Row).South) zHM K7803).1.2.2) (mget ((rdD t6196 x7804 z_Row).South) [] l7802)), knestO (aggI ints_A8_Int) vB K7803 l7802, knestO (aggI ints_A8_Int) vB ([] : List (A8_Int × (HM × List (Option (List (A8_Int × Bool)))))) ([] : List (A8_Int × List (Option (List (A8_Int × Bool))))), rowR enc_Tile A_p0 c_p0 p0] [rowO 81 (encMap A8_Int Bool) A7849 c7850 (tag H7851 t7844), blk g7813 (.cells #[(.slice ((H6203 x7804.toNat 0).1) ((rdD t6196 x7804 z_Row).Cells).length ((H6203 x7804.toNat 0).2)), (.int .i64 (((rdD t6196 x7804 z_Row).South).e0)), (.int .i64 (((rdD t6196 x7804 z_Row).South).e1)), (.int .i64 (((rdD t6196 x7804 z_Row).South).e2)), (.int .i64 (((rdD t6196 x7804 z_Row).South).e3)), (.int .i64 (((rdD t6196 x7804 z_Row).South).e4)), (.int .i64 (((rdD t6196 x7804 z_Row).South).e5)), (.int .i64 (((rdD t6196 x7804 z_Row).South).e6)), (.int .i64 (((rdD t6196 x7804 z_Row).South).e7)), (.int .i64 (((rdD t6196 x7804 z_Row).North).e0)), (.int .i64 (((rdD t6196 x7804 z_Row).North).e1)), (.int .i64 (((rdD t6196 x7804 z_Row).North).e2)), (.int .i64 (((rdD t6196 x7804 z_Row).North).e3)), (.int .i64 (((rdD t6196 x7804 z_Row).North).e4)), (.int .i64 (((rdD t6196 x7804 z_Row).North).e5)), (.int .i64 (((rdD t6196 x7804 z_Row).North).e6)), (.int .i64 (((rdD t6196 x7804 z_Row).North).e7)), (.int .i64 ((rdD t6196 x7804 z_Row).West)), (.int .i64 ((rdD t6196 x7804 z_Row).East))] 88 (0, 0)), blk g6018 (.cells #[(.int .i64 0), (.int .i64 0), (.slice none 0 0)] 38 (0, 0)), rowO 88 encN_Row A6201 c6202 (tag H6203 t6196), poolO [nestO subN_Row H6203 t6196], blk g6204 (mapObj (aggI ints_A8_Int) slV K7803), blk g6208 (.cells #[(.int .i64 p1), (.int .i64 p2), (.slice none 0 0)] 38 (0, 0))] := hS7848.freezeO 1 [0, 2, 3, 4, 5, 6, 7] (by decide) (by decide)
            have hS7853 : St NoS w w7846 [rowR (encMap A8_Int Bool) A7849 c7850 (tag H7851 t7844), mapsO (aggI ints_A8_Int) vB H7851 t7844, mapsO (aggI ints_A8_Int) vB ((mget ((rdD t6196 x7804 z_Row).South) zHM K7803).1.2.2) (mget ((rdD t6196 x7804 z_Row).South) [] l7802), rowR (encMap A8_Int Bool) ((mget ((rdD t6196 x7804 z_Row).South) zHM K7803).1.1) ((mget ((rdD t6196 x7804 z_Row).South) zHM K7803).1.2.1) (tag ((mget ((rdD t6196 x7804 z_Row).South) zHM K7803).1.2.2) (mget ((rdD t6196 x7804 z_Row).South) [] l7802)), knestO (aggI ints_A8_Int) vB K7803 l7802, knestO (aggI ints_A8_Int) vB ([] : List (A8_Int × (HM × List (Option (List (A8_Int × Bool)))))) ([] : List (A8_Int × List (Option (List (A8_Int × Bool))))), rowR enc_Tile A_p0 c_p0 p0] [blk g7813 (.cells #[(.slice ((H6203 x7804.toNat 0).1) ((rdD t6196 x7804 z_Row).Cells).length ((H6203 x7804.toNat 0).2)), (.int .i64 (((rdD t6196 x7804 z_Row).South).e0)), (.int .i64 (((rdD t6196 x7804 z_Row).South).e1)), (.int .i64 (((rdD t6196 x7804 z_Row).South).e2)), (.int .i64 (((rdD t6196 x7804 z_Row).South).e3)), (.int .i64 (((rdD t6196 x7804 z_Row).South).e4)), (.int .i64 (((rdD t6196 x7804 z_Row).South).e5)), (.int .i64 (((rdD t6196 x7804 z_Row).South).e6)), (.int .i64 (((rdD t6196 x7804 z_Row).South).e7)), (.int .i64 (((rdD t6196 x7804 z_Row).North).e0)), (.int .i64 (((rdD t6196 x7804 z_Row).North).e1)), (.int .i64 (((rdD t6196 x7804 z_Row).North).e2)), (.int .i64 (((rdD t6196 x7804 z_Row).North).e3)), (.int .i64 (((rdD t6196 x7804 z_Row).North).e4)), (.int .i64 (((rdD t6196 x7804 z_Row).North).e5)), (.int .i64 (((rdD t6196 x7804 z_Row).North).e6)), (.int .i64 (((rdD t6196 x7804 z_Row).North).e7)), (.int .i64 ((rdD t6196 x7804 z_Row).West)), (.int .i64 ((rdD t6196 x7804 z_Row).East))] 88 (0, 0)), blk g6018 (.cells #[(.int .i64 0), (.int .i64 0), (.slice none 0 0)] 38 (0, 0)), rowO 88 encN_Row A6201 c6202 (tag H6203 t6196), poolO [nestO subN_Row H6203 t6196], blk g6204 (mapObj (aggI ints_A8_Int) slV K7803), blk g6208 (.cells #[(.int .i64 p1), (.int .i64 p2), (.slice none 0 0)] 38 (0, 0))] := hS7852.freezeRow 0 rfl [1, 2, 3, 4, 5, 6] (by decide) (by decide)
            refine WL.mapput hS7853 4 (t := 104) (kT := 86) (eT := 80) (kE := (aggI ints_A8_Int)) (vE := slV) (l := K7803) rfl ((rdD t6196 x7804 z_Row).South) ((A7849, c7850, H7851), t7844) (fun fb => by kernel_rfl) torus_find_key86 (by kernel_rfl) [0, 1, 2, 3, 5] (by decide) (by decide) (fun w7854 hS7855 => ?_)
            have hS7856 : St NoS w w7854 [knestO (aggI ints_A8_Int) vB (mput ((rdD t6196 x7804 z_Row).South) ((A7849, c7850, H7851), t7844) K7803) (mput ((rdD t6196 x7804 z_Row).South) t7844 l7802), rowR (encMap A8_Int Bool) A7849 c7850 (tag H7851 t7844), mapsO (aggI ints_A8_Int) vB H7851 t7844, mapsO (aggI ints_A8_Int) vB ((mget ((rdD t6196 x7804 z_Row).South) zHM K7803).1.2.2) (mget ((rdD t6196 x7804 z_Row).South) [] l7802), rowR (encMap A8_Int Bool) ((mget ((rdD t6196 x7804 z_Row).South) zHM K7803).1.1) ((mget ((rdD t6196 x7804 z_Row).South) zHM K7803).1.2.1) (tag ((mget ((rdD t6196 x7804 z_Row).South) zHM K7803).1.2.2) (mget ((rdD t6196 x7804 z_Row).South) [] l7802)), knestO (aggI ints_A8_Int) vB K7803 l7802, knestO (aggI ints_A8_Int) vB ([] : List (A8_Int × (HM × List (Option (List (A8_Int × Bool)))))) ([] : List (A8_Int × List (Option (List (A8_Int × Bool))))), rowR enc_Tile A_p0 c_p0 p0] [blk g6204 (mapObj (aggI ints_A8_Int) slV (mput ((rdD t6196 x7804 z_Row).South) ((A7849, c7850, H7851), t7844) K7803)), blk g7813 (.cells #[(.slice ((H6203 x7804.toNat 0).1) ((rdD t6196 x7804 z_Row).Cells).length ((H6203 x7804.toNat 0).2)), (.int .i64 (((rdD t6196 x7804 z_Row).South).e0)), (.int .i64 (((rdD t6196 x7804 z_Row).South).e1)), (.int .i64 (((rdD t6196 x7804 z_Row).South).e2)), (.int .i64 (((rdD t6196 x7804 z_Row).South).e3)), (.int .i64 (((rdD t6196 x7804 z_Row).South).e4)), (.int .i64 (((rdD t6196 x7804 z_Row).South).e5)), (.int .i64 (((rdD t6196 x7804 z_Row).South).e6)), (.int .i64 (((rdD t6196 x7804 z_Row).South).e7)), (.int .i64 (((rdD t6196 x7804 z_Row).North).e0)), (.int .i64 (((rdD t6196 x7804 z_Row).North).e1)), (.int .i64 (((rdD t6196 x7804 z_Row).North).e2)), (.int .i64 (((rdD t6196 x7804 z_Row).North).e3)), (.int .i64 (((rdD t6196 x7804 z_Row).North).e4)), (.int .i64 (((rdD t6196 x7804 z_Row).North).e5)), (.int .i64 (((rdD t6196 x7804 z_Row).North).e6)), (.int .i64 (((rdD t6196 x7804 z_Row).North).e7)), (.int .i64 ((rdD t6196 x7804 z_Row).West)), (.int .i64 ((rdD t6196 x7804 z_Row).East))] 88 (0, 0)), blk g6018 (.cells #[(.int .i64 0), (.int .i64 0), (.slice none 0 0)] 38 (0, 0)), rowO 88 encN_Row A6201 c6202 (tag H6203 t6196), poolO [nestO subN_Row H6203 t6196], blk g6208 (.cells #[(.int .i64 p1), (.int .i64 p2), (.slice none 0 0)] 38 (0, 0))] := hS7855.addR _ (knestO.put (hS7855.rdL 4) ((rdD t6196 x7804 z_Row).South) (hS7855.rdL 0) (hS7855.rdL 1))
            refine ⟨trivial, ?_⟩
            refine WL.done rfl ?_
            injection hx7842 with hx7842
            exact WX.to Kx7841 ((mput ((rdD t6196 x7804 z_Row).South) t7844 l7802, t7844), mput ((rdD t6196 x7804 z_Row).South) ((A7849, c7850, H7851), t7844) K7803, A7849, c7850, H7851) [2, 6, 8, 9, 10, 12, 13, 26, 27, 28] rfl ⟨(hS7856.subR [0, 1, 2, 3, 4, 5, 6, 7]).sub [2, 3, 4, 0, 5, 1] (by decide), hx7842.symm⟩
          refine WC.condF2 (fun fb => by kernel_rfl) h7843 ?_
          refine WC.skip ?_
          injection hx7842 with hx7842
          exact WX.to Kx7841 ((l7802, (mget ((rdD t6196 x7804 z_Row).South) [] l7802)), K7803, (mget ((rdD t6196 x7804 z_Row).South) zHM K7803).1.1, (mget ((rdD t6196 x7804 z_Row).South) zHM K7803).1.2.1, ((mget ((rdD t6196 x7804 z_Row).South) zHM K7803).1.2.2)) [2, 6, 8, 9, 10, 12, 13, 26, 27, 28] rfl ⟨(hS7820.subR [2, 1, 0, 0, 1, 2, 3, 4]).sub [1, 2, 3, 4, 5, 0] (by decide), hx7842.symm⟩
        rintro ⟨y7860, K7836, A7837, c7838, H7840⟩ w7857 ⟨hS7858, hq7859⟩
        subst hq7859
        refine WX.next ?_
        refine WC.seq ?_
        refine WC.seq ?_
        obtain ⟨h7869, hl7810⟩ := as_some hl7810
        obtain ⟨m7870, hm7871, hl7810⟩ := bind_some hl7810
        refine WC.regionD ([(4, ((adr A7837).add ((w64 (p2 - 1)).toNat * 1)), (.map (some (H7840 (w64 (p2 - 1)).toNat)))), (6, ⟨g7813, 9, none⟩, (.int .i64 (((rdD t6196 x7804 z_Row).North).e0))), (6, ⟨g7813, 10, none⟩, (.int .i64 (((rdD t6196 x7804 z_Row).North).e1))), (6, ⟨g7813, 11, none⟩, (.int .i64 (((rdD t6196 x7804 z_Row).North).e2))), (6, ⟨g7813, 12, none⟩, (.int .i64 (((rdD t6196 x7804 z_Row).North).e3))), (6, ⟨g7813, 13, none⟩, (.int .i64 (((rdD t6196 x7804 z_Row).North).e4))), (6, ⟨g7813, 14, none⟩, (.int .i64 (((rdD t6196 x7804 z_Row).North).e5))), (6, ⟨g7813, 15, none⟩, (.int .i64 (((rdD t6196 x7804 z_Row).North).e6))), (6, ⟨g7813, 16, none⟩, (.int .i64 (((rdD t6196 x7804 z_Row).North).e7)))], [0, 1, 2, 3, 4, 5, 6, 8], [[], [], [1], [0, 1, 2], [0, 1, 2, 3], [], [5], [0, 1, 2, 3, 4, 5, 6], [0, 1, 2, 3, 4, 5, 6, 7]]) [[0, 1, 2, 3, 4, 5, 6, 7, 8]] (by kernel_rfl) (by kernel_rfl) (NoPanic.seq (NoPanic.seq (NoPanic.block (NoPanic.seq (NoPanic.seq (NoPanic.block (NoPanic.seq (NoPanic.scope (NoPanic.body))))))))) ?_
        have hS7865 := hS7858.drew
        revert hS7865
        generalize World.drew w7857 = w7864
        intro hS7865
        refine ⟨⟨nrow_cell (hS7865.rd 1).1 none h7869.1 h7869.2 0 (mapV_some hm7871), hS7865.cell 5 rfl 9 rfl, hS7865.cell 5 rfl 10 rfl, hS7865.cell 5 rfl 11 rfl, hS7865.cell 5 rfl 12 rfl, hS7865.cell 5 rfl 13 rfl, hS7865.cell 5 rfl 14 rfl, hS7865.cell 5 rfl 15 rfl, hS7865.cell 5 rfl 16 rfl, trivial⟩, forallC ?_ (forallN)⟩
        refine segF 7 [.v (.map (some (H7840 (w64 (p2 - 1)).toNat))), .v (.int .i64 (((rdD t6196 x7804 z_Row).North).e0)), .v (.int .i64 (((rdD t6196 x7804 z_Row).North).e1)), .v (.int .i64 (((rdD t6196 x7804 z_Row).North).e2)), .v (.int .i64 (((rdD t6196 x7804 z_Row).North).e3)), .v (.int .i64 (((rdD t6196 x7804 z_Row).North).e4)), .v (.int .i64 (((rdD t6196 x7804 z_Row).North).e5)), .v (.int .i64 (((rdD t6196 x7804 z_Row).North).e6)), .v (.int .i64 (((rdD t6196 x7804 z_Row).North).e7))] [2, 6, 8, 9, 10, 12, 13, 26, 27, 28, 55, 57] [(2, (.int .i64 p2)), (6, (.pointer (some ⟨g6018, 0, none⟩))), (8, (.slice A6201 t6196.length c6202)), (9, (.map (some g6204))), (10, (.pointer (some ⟨g6208, 0, none⟩))), (12, (.pointer (some ⟨g7813, 0, none⟩))), (13, (.slice A7837 x7841.2.length c7838)), (26, (.slice A6201 t6196.length c6202)), (27, (.int .i64 (t6196.length : Int))), (28, (.int .i64 x7804)), (55, (.map (some (H7840 (w64 (p2 - 1)).toNat)))), (57, (.agg #[(.int .i64 (((rdD t6196 x7804 z_Row).North).e0)), (.int .i64 (((rdD t6196 x7804 z_Row).North).e1)), (.int .i64 (((rdD t6196 x7804 z_Row).North).e2)), (.int .i64 (((rdD t6196 x7804 z_Row).North).e3)), (.int .i64 (((rdD t6196 x7804 z_Row).North).e4)), (.int .i64 (((rdD t6196 x7804 z_Row).North).e5)), (.int .i64 (((rdD t6196 x7804 z_Row).North).e6)), (.int .i64 (((rdD t6196 x7804 z_Row).North).e7))]))] [.idx A7837 (w64 (p2 - 1)) x7841.2.length] [0, 1, 2, 3, 4, 5, 6, 7, 8] [(4, ((adr A7837).add ((w64 (p2 - 1)).toNat * 1)), (.map (some (H7840 (w64 (p2 - 1)).toNat)))), (6, ⟨g7813, 9, none⟩, (.int .i64 (((rdD t6196 x7804 z_Row).North).e0))), (6, ⟨g7813, 10, none⟩, (.int .i64 (((rdD t6196 x7804 z_Row).North).e1))), (6, ⟨g7813, 11, none⟩, (.int .i64 (((rdD t6196 x7804 z_Row).North).e2))), (6, ⟨g7813, 12, none⟩, (.int .i64 (((rdD t6196 x7804 z_Row).North).e3))), (6, ⟨g7813, 13, none⟩, (.int .i64 (((rdD t6196 x7804 z_Row).North).e4))), (6, ⟨g7813, 14, none⟩, (.int .i64 (((rdD t6196 x7804 z_Row).North).e5))), (6, ⟨g7813, 15, none⟩, (.int .i64 (((rdD t6196 x7804 z_Row).North).e6))), (6, ⟨g7813, 16, none⟩, (.int .i64 (((rdD t6196 x7804 z_Row).North).e7)))] (fun fb => by kernel_rfl) rfl ⟨nrow_adr (hS7865.rd 1).1 h7869.1 h7869.2, trivial⟩ rfl ?_
        refine WL.lookup (mapsO.at (hS7865.rd 2).1 h7869.1 h7869.2 hm7871) ((rdD t6196 x7804 z_Row).North) (d := 58) (c := false) (t := 81) (kT := 86) (eT := 4) (z := false) (kE := (aggI ints_A8_Int)) (vE := vB) (l := m7870) (.bool (mget ((rdD t6196 x7804 z_Row).North) false m7870)) (fun fb => by kernel_rfl) torus_find_key86 (by kernel_rfl) (fun _ => by kernel_rfl) rfl ?_
        refine ⟨trivial, ?_⟩
        refine seg 9 [] [2, 6, 8, 9, 10, 12, 13, 26, 27, 28, 59] [(2, (.int .i64 p2)), (6, (.pointer (some ⟨g6018, 0, none⟩))), (8, (.slice A6201 t6196.length c6202)), (9, (.map (some g6204))), (10, (.pointer (some ⟨g6208, 0, none⟩))), (12, (.pointer (some ⟨g7813, 0, none⟩))), (13, (.slice A7837 x7841.2.length c7838)), (26, (.slice A6201 t6196.length c6202)), (27, (.int .i64 (t6196.length : Int))), (28, (.int .i64 x7804)), (59, (.bool (!(mget ((rdD t6196 x7804 z_Row).North) false m7870))))] [] (fun fb => by kernel_rfl) rfl trivial ?_
        refine WL.done rfl ?_
        refine WX.next ?_
        rcases br_some hl7810 with ⟨h7872, hl7810⟩ | ⟨h7872, hl7810⟩
        · refine WC.condT2 (fun fb => by kernel_rfl) h7872 ?_
          refine WC.exit ?_
          refine WX.thenX (WX.blockHere (WX.next ?_))
          refine WC.region ?_
          refine seg 2 [] [2, 6, 8, 9, 10, 26, 27, 28] [(2, (.int .i64 p2)), (6, (.pointer (some ⟨g6018, 0, none⟩))), (8, (.slice A6201 t6196.length c6202)), (9, (.map (some g6204))), (10, (.pointer (some ⟨g6208, 0, none⟩))), (26, (.slice A6201 t6196.length c6202)), (27, (.int .i64 (t6196.length : Int))), (28, (.int .i64 (w64 (x7804 + 1))))] [] (fun fb => by kernel_rfl) rfl trivial ?_
          refine WL.done rfl ?_
          exact WX.again k7807 (Nat.lt_succ_self _) ((x7841.1, w64 (x7804 + 1)), K7836) [2, 6, 8, 9, 10, 26, 27, 28] rfl ⟨(hS7865.subR [0, 6, 7]).sub [0, 1, 2, 3, 4] (by decide), hl7810⟩
        refine WC.condF2 (fun fb => by kernel_rfl) h7872 ?_
        refine WC.skip ?_
        refine WX.next ?_
        refine WC.seq ?_
        refine WC.region ?_
        refine seg 4 [.v (.slice none 0 0), .v (.slice ((H6203 x7804.toNat 0).1) ((rdD t6196 x7804 z_Row).Cells).length ((H6203 x7804.toNat 0).2))] [2, 6, 8, 10, 12, 13, 61, 63] [(2, (.int .i64 p2)), (6, (.pointer (some ⟨g6018, 0, none⟩))), (8, (.slice A6201 t6196.length c6202)), (10, (.pointer (some ⟨g6208, 0, none⟩))), (12, (.pointer (some ⟨g7813, 0, none⟩))), (13, (.slice A7837 x7841.2.length c7838)), (61, (.slice none 0 0)), (63, (.slice ((H6203 x7804.toNat 0).1) ((rdD t6196 x7804 z_Row).Cells).length ((H6203 x7804.toNat 0).2)))] [.cell ⟨g6208, 2, none⟩ (.slice none 0 0), .cell ⟨g7813, 0, none⟩ (.slice ((H6203 x7804.toNat 0).1) ((rdD t6196 x7804 z_Row).Cells).length ((H6203 x7804.toNat 0).2))] (fun fb => by kernel_rfl) rfl ⟨hS7865.cell 4 rfl 2 rfl, hS7865.cell 5 rfl 0 rfl, trivial⟩ ?_
        have hS7873 := hS7865.nilrow 3 encInt
        obtain ⟨h7874, hl7810⟩ := as_some hl7810
        refine WL.append hS7873 0 (d := 64) (tS := 36) (z := (.int .i64 0)) (bytes := 8) (c2 := (H6203 x7804.toNat 0).2) rfl (fun fb => by kernel_rfl) (nestO.at ((hS7873.own 3).1 0) z_Row h7812.1 h7812.2) (by kernel_rfl) (by kernel_rfl) rfl (by decide) h7874 (by decide) [1, 2, 3, 4, 5, 6] (by decide) (by decide) (fun A7875 c7876 w7877 hS7878 => ?_)
        refine ⟨trivial, ?_⟩
        refine seg 6 [] [2, 6, 8, 10, 12, 13, 64, 65] [(2, (.int .i64 p2)), (6, (.pointer (some ⟨g6018, 0, none⟩))), (8, (.slice A6201 t6196.length c6202)), (10, (.pointer (some ⟨g6208, 0, none⟩))), (12, (.pointer (some ⟨g7813, 0, none⟩))), (13, (.slice A7837 x7841.2.length c7838)), (64, (.slice A7875 (([] : List Int) ++ ((rdD t6196 x7804 z_Row).Cells)).length c7876)), (65, (.pointer (some ⟨g6208, 2, none⟩)))] [] (fun fb => by kernel_rfl) rfl trivial ?_
        refine WL.store hS7878 5 rfl [(2, (.slice A7875 (([] : List Int) ++ ((rdD t6196 x7804 z_Row).Cells)).length c7876))] #[(.int .i64 p1), (.int .i64 p2), (.slice A7875 (([] : List Int) ++ ((rdD t6196 x7804 z_Row).Cells)).length c7876)] (fun fb => by kernel_rfl) (by kernel_rfl) rfl [0, 1, 2, 3, 4, 6] (by decide) (by decide) (fun w7879 hS7880 => ?_)
        refine ⟨trivial, ?_⟩
        refine WL.done rfl ?_
        refine WX.next ?_
        refine WC.seq ?_
        refine WC.region ?_
        refine seg 2 [.v (.int .i64 (((rdD t6196 x7804 z_Row).North).e0)), .v (.int .i64 (((rdD t6196 x7804 z_Row).North).e1)), .v (.int .i64 (((rdD t6196 x7804 z_Row).North).e2)), .v (.int .i64 (((rdD t6196 x7804 z_Row).North).e3)), .v (.int .i64 (((rdD t6196 x7804 z_Row).North).e4)), .v (.int .i64 (((rdD t6196 x7804 z_Row).North).e5)), .v (.int .i64 (((rdD t6196 x7804 z_Row).North).e6)), .v (.int .i64 (((rdD t6196 x7804 z_Row).North).e7))] [2, 6, 8, 10, 13, 67] [(2, (.int .i64 p2)), (6, (.pointer (some ⟨g6018, 0, none⟩))), (8, (.slice A6201 t6196.length c6202)), (10, (.pointer (some ⟨g6208, 0, none⟩))), (13, (.slice A7837 x7841.2.length c7838)), (67, (.agg #[(.int .i64 (((rdD t6196 x7804 z_Row).North).e0)), (.int .i64 (((rdD t6196 x7804 z_Row).North).e1)), (.int .i64 (((rdD t6196 x7804 z_Row).North).e2)), (.int .i64 (((rdD t6196 x7804 z_Row).North).e3)), (.int .i64 (((rdD t6196 x7804 z_Row).North).e4)), (.int .i64 (((rdD t6196 x7804 z_Row).North).e5)), (.int .i64 (((rdD t6196 x7804 z_Row).North).e6)), (.int .i64 (((rdD t6196 x7804 z_Row).North).e7))]))] [.cell ⟨g7813, 9, none⟩ (.int .i64 (((rdD t6196 x7804 z_Row).North).e0)), .cell ⟨g7813, 10, none⟩ (.int .i64 (((rdD t6196 x7804 z_Row).North).e1)), .cell ⟨g7813, 11, none⟩ (.int .i64 (((rdD t6196 x7804 z_Row).North).e2)), .cell ⟨g7813, 12, none⟩ (.int .i64 (((rdD t6196 x7804 z_Row).North).e3)), .cell ⟨g7813, 13, none⟩ (.int .i64 (((rdD t6196 x7804 z_Row).North).e4)), .cell ⟨g7813, 14, none⟩ (.int .i64 (((rdD t6196 x7804 z_Row).North).e5)), .cell ⟨g7813, 15, none⟩ (.int .i64 (((rdD t6196 x7804 z_Row).North).e6)), .cell ⟨g7813, 16, none⟩ (.int .i64 (((rdD t6196 x7804 z_Row).North).e7))] (fun fb => by kernel_rfl) rfl ⟨hS7880.cell 6 rfl 9 rfl, hS7880.cell 6 rfl 10 rfl, hS7880.cell 6 rfl 11 rfl, hS7880.cell 6 rfl 12 rfl, hS7880.cell 6 rfl 13 rfl, hS7880.cell 6 rfl 14 rfl, hS7880.cell 6 rfl 15 rfl, hS7880.cell 6 rfl 16 rfl, trivial⟩ ?_
        refine WL.new hS7880 15 [] (fun g => (.pointer (some ⟨g, 0, none⟩))) (.cells #[(.int .i64 0), (.int .i64 0), (.int .i64 0), (.int .i64 0), (.int .i64 0), (.int .i64 0), (.int .i64 0), (.int .i64 0)] 86 (0, 0)) [] (fun fb g => by kernel_rfl) trivial (fun g7881 w7882 hS7883 => ?_)
        refine ⟨trivial, ?_⟩
        refine WL.store hS7883 0 rfl [(0, (.int .i64 (((rdD t6196 x7804 z_Row).North).e0))), (1, (.int .i64 (((rdD t6196 x7804 z_Row).North).e1))), (2, (.int .i64 (((rdD t6196 x7804 z_Row).North).e2))), (3, (.int .i64 (((rdD t6196 x7804 z_Row).North).e3))), (4, (.int .i64 (((rdD t6196 x7804 z_Row).North).e4))), (5, (.int .i64 (((rdD t6196 x7804 z_Row).North).e5))), (6, (.int .i64 (((rdD t6196 x7804 z_Row).North).e6))), (7, (.int .i64 (((rdD t6196 x7804 z_Row).North).e7)))] #[(.int .i64 (((rdD t6196 x7804 z_Row).North).e0)), (.int .i64 (((rdD t6196 x7804 z_Row).North).e1)), (.int .i64 (((rdD t6196 x7804 z_Row).North).e2)), (.int .i64 (((rdD t6196 x7804 z_Row).North).e3)), (.int .i64 (((rdD t6196 x7804 z_Row).North).e4)), (.int .i64 (((rdD t6196 x7804 z_Row).North).e5)), (.int .i64 (((rdD t6196 x7804 z_Row).North).e6)), (.int .i64 (((rdD t6196 x7804 z_Row).North).e7))] (fun fb => by kernel_rfl) (by kernel_rfl) rfl [1, 2, 3, 4, 5, 6, 7] (by decide) (by decide) (fun w7885 hS7886 => ?_)
        refine ⟨trivial, ?_⟩
        refine WL.done rfl ?_
        refine WX.next ?_
        refine WC.seq ?_
        refine WC.seq ?_
        refine WC.region ?_
        refine seg 3 [] [6, 8, 10, 13, 15, 16] [(6, (.pointer (some ⟨g6018, 0, none⟩))), (8, (.slice A6201 t6196.length c6202)), (10, (.pointer (some ⟨g6208, 0, none⟩))), (13, (.slice A7837 x7841.2.length c7838)), (15, (.pointer (some ⟨g7881, 0, none⟩))), (16, (.int .i64 (w64 (p2 - 2))))] [] (fun fb => by kernel_rfl) rfl trivial ?_
        refine WL.done rfl ?_
        refine WX.next ?_
        obtain ⟨x8252, hx8253, hl7810⟩ := bind_some hl7810
        refine WC.cutN (T := (List Int) × (Option Addr) × Nat) (fun t => [(6, (.pointer (some ⟨g6018, 0, none⟩))), (10, (.pointer (some ⟨g6208, 0, none⟩)))]) (fun t w1 => St NoS w w1 [knestO (aggI ints_A8_Int) vB K7836 x7841.1, rowR (encMap A8_Int Bool) A7837 c7838 (tag H7840 x7841.2), mapsO (aggI ints_A8_Int) vB H7840 x7841.2, mapsO (aggI ints_A8_Int) vB ((mget ((rdD t6196 x7804 z_Row).South) zHM K7803).1.2.2) (mget ((rdD t6196 x7804 z_Row).South) [] l7802), rowR (encMap A8_Int Bool) ((mget ((rdD t6196 x7804 z_Row).South) zHM K7803).1.1) ((mget ((rdD t6196 x7804 z_Row).South) zHM K7803).1.2.1) (tag ((mget ((rdD t6196 x7804 z_Row).South) zHM K7803).1.2.2) (mget ((rdD t6196 x7804 z_Row).South) [] l7802)), knestO (aggI ints_A8_Int) vB K7803 l7802, knestO (aggI ints_A8_Int) vB ([] : List (A8_Int × (HM × List (Option (List (A8_Int × Bool)))))) ([] : List (A8_Int × List (Option (List (A8_Int × Bool))))), rowR enc_Tile A_p0 c_p0 p0] [blk g6018 (.cells #[(.int .i64 0), (.int .i64 0), (.slice none 0 0)] 38 (0, 0)), blk g6208 (.cells #[(.int .i64 p1), (.int .i64 p2), (.slice t.2.1 t.1.length t.2.2)] 38 (0, 0)), rowO 3 encInt t.2.1 t.2.2 t.1] ∧ x8252 = t.1) (fun Kx8252 => ?_) ?_
        ·
          refine WC.block ?_
          refine WC.loop (T := ((List Int) × A8_Int × Int) × (Option Addr) × Nat) (fun t => [(6, (.pointer (some ⟨g6018, 0, none⟩))), (8, (.slice A6201 t6196.length c6202)), (10, (.pointer (some ⟨g6208, 0, none⟩))), (13, (.slice A7837 x7841.2.length c7838)), (15, (.pointer (some ⟨g7881, 0, none⟩))), (16, (.int .i64 t.1.2.2))]) (fun n t w1 => St NoS w w1 [knestO (aggI ints_A8_Int) vB K7836 x7841.1, rowR (encMap A8_Int Bool) A7837 c7838 (tag H7840 x7841.2), mapsO (aggI ints_A8_Int) vB H7840 x7841.2, mapsO (aggI ints_A8_Int) vB ((mget ((rdD t6196 x7804 z_Row).South) zHM K7803).1.2.2) (mget ((rdD t6196 x7804 z_Row).South) [] l7802), rowR (encMap A8_Int Bool) ((mget ((rdD t6196 x7804 z_Row).South) zHM K7803).1.1) ((mget ((rdD t6196 x7804 z_Row).South) zHM K7803).1.2.1) (tag ((mget ((rdD t6196 x7804 z_Row).South) zHM K7803).1.2.2) (mget ((rdD t6196 x7804 z_Row).South) [] l7802)), knestO (aggI ints_A8_Int) vB K7803 l7802, knestO (aggI ints_A8_Int) vB ([] : List (A8_Int × (HM × List (Option (List (A8_Int × Bool)))))) ([] : List (A8_Int × List (Option (List (A8_Int × Bool))))), rowR enc_Tile A_p0 c_p0 p0] [blk g6018 (.cells #[(.int .i64 0), (.int .i64 0), (.slice none 0 0)] 38 (0, 0)), rowO 88 encN_Row A6201 c6202 (tag H6203 t6196), poolO [nestO subN_Row H6203 t6196], blk g6208 (.cells #[(.int .i64 p1), (.int .i64 p2), (.slice t.2.1 t.1.1.length t.2.2)] 38 (0, 0)), rowO 3 encInt t.2.1 t.2.2 t.1.1, blk g7881 (.cells #[(.int .i64 t.1.2.1.e0), (.int .i64 t.1.2.1.e1), (.int .i64 t.1.2.1.e2), (.int .i64 t.1.2.1.e3), (.int .i64 t.1.2.1.e4), (.int .i64 t.1.2.1.e5), (.int .i64 t.1.2.1.e6), (.int .i64 t.1.2.1.e7)] 86 (0, 0))] ∧ torus_find.l1 n t.1.1 t.1.2.1 t.1.2.2 t6196 x7841 = some x8252) k7807 ((([] : List Int) ++ ((rdD t6196 x7804 z_Row).Cells), ((rdD t6196 x7804 z_Row).North), w64 (p2 - 2)), A7875, c7876) [6, 8, 10, 13, 15, 16] rfl ⟨(hS7886.subR [0, 1, 2, 3, 4, 5, 6, 7]).sub [3, 4, 5, 1, 2, 0] (by decide), hx8253⟩ ?_
          rintro k8254 ⟨⟨l8246, a8247, x8248⟩, A8244, c8245⟩ w8255 ⟨hS8256, hl8257⟩
          cases k8254 with
          | zero => rw [torus_find.l1] at hl8257; cases hl8257
          | succ k8254 =>
            rw [torus_find.l1] at hl8257
            refine WC.seq ?_
            refine WC.seq ?_
            refine WC.region ?_
            refine seg 2 [] [6, 8, 10, 13, 15, 16, 71] [(6, (.pointer (some ⟨g6018, 0, none⟩))), (8, (.slice A6201 t6196.length c6202)), (10, (.pointer (some ⟨g6208, 0, none⟩))), (13, (.slice A7837 x7841.2.length c7838)), (15, (.pointer (some ⟨g7881, 0, none⟩))), (16, (.int .i64 x8248)), (71, (.bool (decide (x8248 ≥ 0))))] [] (fun fb => by kernel_rfl) rfl trivial ?_
            refine WL.done rfl ?_
            refine WX.next ?_
            rcases br_some hl8257 with ⟨h8258, hl8257⟩ | ⟨h8258, hl8257⟩
            · refine WC.condT2 (fun fb => by kernel_rfl) h8258 ?_
              refine WC.skip ?_
              refine WX.next ?_
              refine WC.seq ?_
              refine WC.block ?_
              refine WC.scope ?_
              refine WC.seq ?_
              refine WC.label ?_
              refine WX.next ?_
              refine WC.seq ?_
              refine WC.region ?_
              refine seg 3 [] [6, 8, 10, 13, 15, 16, 74, 75, 76] [(6, (.pointer (some ⟨g6018, 0, none⟩))), (8, (.slice A6201 t6196.length c6202)), (10, (.pointer (some ⟨g6208, 0, none⟩))), (13, (.slice A7837 x7841.2.length c7838)), (15, (.pointer (some ⟨g7881, 0, none⟩))), (16, (.int .i64 x8248)), (74, (.slice A6201 t6196.length c6202)), (75, (.int .i64 (t6196.length : Int))), (76, (.int .i64 0))] [] (fun fb => by kernel_rfl) rfl trivial ?_
              refine WL.done rfl ?_
              refine WX.next ?_
              obtain ⟨x8371, hx8372, hl8257⟩ := bind_some hl8257
              refine WC.cutN (T := ((List Int) × A8_Int) × (Option Addr) × Nat) (fun t => [(6, (.pointer (some ⟨g6018, 0, none⟩))), (8, (.slice A6201 t6196.length c6202)), (10, (.pointer (some ⟨g6208, 0, none⟩))), (13, (.slice A7837 x7841.2.length c7838)), (15, (.pointer (some ⟨g7881, 0, none⟩))), (16, (.int .i64 x8248))]) (fun t w1 => St NoS w w1 [knestO (aggI ints_A8_Int) vB K7836 x7841.1, rowR (encMap A8_Int Bool) A7837 c7838 (tag H7840 x7841.2), mapsO (aggI ints_A8_Int) vB H7840 x7841.2, mapsO (aggI ints_A8_Int) vB ((mget ((rdD t6196 x7804 z_Row).South) zHM K7803).1.2.2) (mget ((rdD t6196 x7804 z_Row).South) [] l7802), rowR (encMap A8_Int Bool) ((mget ((rdD t6196 x7804 z_Row).South) zHM K7803).1.1) ((mget ((rdD t6196 x7804 z_Row).South) zHM K7803).1.2.1) (tag ((mget ((rdD t6196 x7804 z_Row).South) zHM K7803).1.2.2) (mget ((rdD t6196 x7804 z_Row).South) [] l7802)), knestO (aggI ints_A8_Int) vB K7803 l7802, knestO (aggI ints_A8_Int) vB ([] : List (A8_Int × (HM × List (Option (List (A8_Int × Bool)))))) ([] : List (A8_Int × List (Option (List (A8_Int × Bool))))), rowR enc_Tile A_p0 c_p0 p0] [blk g6018 (.cells #[(.int .i64 0), (.int .i64 0), (.slice none 0 0)] 38 (0, 0)), rowO 88 encN_Row A6201 c6202 (tag H6203 t6196), poolO [nestO subN_Row H6203 t6196], blk g6208 (.cells #[(.int .i64 p1), (.int .i64 p2), (.slice t.2.1 t.1.1.length t.2.2)] 38 (0, 0)), rowO 3 encInt t.2.1 t.2.2 t.1.1, blk g7881 (.cells #[(.int .i64 t.1.2.e0), (.int .i64 t.1.2.e1), (.int .i64 t.1.2.e2), (.int .i64 t.1.2.e3), (.int .i64 t.1.2.e4), (.int .i64 t.1.2.e5), (.int .i64 t.1.2.e6), (.int .i64 t.1.2.e7)] 86 (0, 0))] ∧ x8371 = t.1) (fun Kx8371 => ?_) ?_
              ·
                refine WC.block ?_
                refine WC.loop (T := Int) (fun t => [(6, (.pointer (some ⟨g6018, 0, none⟩))), (8, (.slice A6201 t6196.length c6202)), (10, (.pointer (some ⟨g6208, 0, none⟩))), (13, (.slice A7837 x7841.2.length c7838)), (15, (.pointer (some ⟨g7881, 0, none⟩))), (16, (.int .i64 x8248)), (74, (.slice A6201 t6196.length c6202)), (75, (.int .i64 (t6196.length : Int))), (76, (.int .i64 t))]) (fun n t w1 => St NoS w w1 [knestO (aggI ints_A8_Int) vB K7836 x7841.1, rowR (encMap A8_Int Bool) A7837 c7838 (tag H7840 x7841.2), mapsO (aggI ints_A8_Int) vB H7840 x7841.2, mapsO (aggI ints_A8_Int) vB ((mget ((rdD t6196 x7804 z_Row).South) zHM K7803).1.2.2) (mget ((rdD t6196 x7804 z_Row).South) [] l7802), rowR (encMap A8_Int Bool) ((mget ((rdD t6196 x7804 z_Row).South) zHM K7803).1.1) ((mget ((rdD t6196 x7804 z_Row).South) zHM K7803).1.2.1) (tag ((mget ((rdD t6196 x7804 z_Row).South) zHM K7803).1.2.2) (mget ((rdD t6196 x7804 z_Row).South) [] l7802)), knestO (aggI ints_A8_Int) vB K7803 l7802, knestO (aggI ints_A8_Int) vB ([] : List (A8_Int × (HM × List (Option (List (A8_Int × Bool)))))) ([] : List (A8_Int × List (Option (List (A8_Int × Bool))))), rowR enc_Tile A_p0 c_p0 p0] [blk g6018 (.cells #[(.int .i64 0), (.int .i64 0), (.slice none 0 0)] 38 (0, 0)), rowO 88 encN_Row A6201 c6202 (tag H6203 t6196), poolO [nestO subN_Row H6203 t6196], blk g6208 (.cells #[(.int .i64 p1), (.int .i64 p2), (.slice A8244 l8246.length c8245)] 38 (0, 0)), rowO 3 encInt A8244 c8245 l8246, blk g7881 (.cells #[(.int .i64 a8247.e0), (.int .i64 a8247.e1), (.int .i64 a8247.e2), (.int .i64 a8247.e3), (.int .i64 a8247.e4), (.int .i64 a8247.e5), (.int .i64 a8247.e6), (.int .i64 a8247.e7)] 86 (0, 0))] ∧ torus_find.l2 n t t6196 x7841 l8246 a8247 x8248 = some x8371) k8254 0 [6, 8, 10, 13, 15, 16, 74, 75, 76] rfl ⟨(hS8256.subR [0, 1, 2, 3, 4, 5, 6, 7]).sub [0, 1, 2, 3, 4, 5] (by decide), hx8372⟩ ?_
                rintro k8373 x8366 w8374 ⟨hS8375, hl8376⟩
                cases k8373 with
                | zero => rw [torus_find.l2] at hl8376; cases hl8376
                | succ k8373 =>
                  rw [torus_find.l2] at hl8376
                  refine WC.seq ?_
                  refine WC.region ?_
                  refine seg 1 [] [6, 8, 10, 13, 15, 16, 74, 75, 76, 77] [(6, (.pointer (some ⟨g6018, 0, none⟩))), (8, (.slice A6201 t6196.length c6202)), (10, (.pointer (some ⟨g6208, 0, none⟩))), (13, (.slice A7837 x7841.2.length c7838)), (15, (.pointer (some ⟨g7881, 0, none⟩))), (16, (.int .i64 x8248)), (74, (.slice A6201 t6196.length c6202)), (75, (.int .i64 (t6196.length : Int))), (76, (.int .i64 x8366)), (77, (.bool (decide (x8366 < (t6196.length : Int)))))] [] (fun fb => by kernel_rfl) rfl trivial ?_
                  refine WL.done rfl ?_
                  refine WX.next ?_
                  refine WC.seq ?_
                  rcases br_some hl8376 with ⟨h8377, hl8376⟩ | ⟨h8377, hl8376⟩
                  · refine WC.condT2 (fun fb => by kernel_rfl) h8377 ?_
                    refine WC.skip ?_
                    refine WX.next ?_
                    refine WC.seq ?_
                    refine WC.block ?_
                    refine WC.seq ?_
                    refine WC.region ?_
                    obtain ⟨h8378, hl8376⟩ := as_some hl8376
                    refine seg 2 [.v (.slice ((H6203 x8366.toNat 0).1) ((rdD t6196 x8366 z_Row).Cells).length ((H6203 x8366.toNat 0).2)), .v (.int .i64 (((rdD t6196 x8366 z_Row).South).e0)), .v (.int .i64 (((rdD t6196 x8366 z_Row).South).e1)), .v (.int .i64 (((rdD t6196 x8366 z_Row).South).e2)), .v (.int .i64 (((rdD t6196 x8366 z_Row).South).e3)), .v (.int .i64 (((rdD t6196 x8366 z_Row).South).e4)), .v (.int .i64 (((rdD t6196 x8366 z_Row).South).e5)), .v (.int .i64 (((rdD t6196 x8366 z_Row).South).e6)), .v (.int .i64 (((rdD t6196 x8366 z_Row).South).e7)), .v (.int .i64 (((rdD t6196 x8366 z_Row).North).e0)), .v (.int .i64 (((rdD t6196 x8366 z_Row).North).e1)), .v (.int .i64 (((rdD t6196 x8366 z_Row).North).e2)), .v (.int .i64 (((rdD t6196 x8366 z_Row).North).e3)), .v (.int .i64 (((rdD t6196 x8366 z_Row).North).e4)), .v (.int .i64 (((rdD t6196 x8366 z_Row).North).e5)), .v (.int .i64 (((rdD t6196 x8366 z_Row).North).e6)), .v (.int .i64 (((rdD t6196 x8366 z_Row).North).e7)), .v (.int .i64 ((rdD t6196 x8366 z_Row).West)), .v (.int .i64 ((rdD t6196 x8366 z_Row).East))] [6, 8, 10, 13, 15, 16, 74, 75, 76, 79] [(6, (.pointer (some ⟨g6018, 0, none⟩))), (8, (.slice A6201 t6196.length c6202)), (10, (.pointer (some ⟨g6208, 0, none⟩))), (13, (.slice A7837 x7841.2.length c7838)), (15, (.pointer (some ⟨g7881, 0, none⟩))), (16, (.int .i64 x8248)), (74, (.slice A6201 t6196.length c6202)), (75, (.int .i64 (t6196.length : Int))), (76, (.int .i64 x8366)), (79, (.agg #[(.slice ((H6203 x8366.toNat 0).1) ((rdD t6196 x8366 z_Row).Cells).length ((H6203 x8366.toNat 0).2)), (.int .i64 (((rdD t6196 x8366 z_Row).South).e0)), (.int .i64 (((rdD t6196 x8366 z_Row).South).e1)), (.int .i64 (((rdD t6196 x8366 z_Row).South).e2)), (.int .i64 (((rdD t6196 x8366 z_Row).South).e3)), (.int .i64 (((rdD t6196 x8366 z_Row).South).e4)), (.int .i64 (((rdD t6196 x8366 z_Row).South).e5)), (.int .i64 (((rdD t6196 x8366 z_Row).South).e6)), (.int .i64 (((rdD t6196 x8366 z_Row).South).e7)), (.int .i64 (((rdD t6196 x8366 z_Row).North).e0)), (.int .i64 (((rdD t6196 x8366 z_Row).North).e1)), (.int .i64 (((rdD t6196 x8366 z_Row).North).e2)), (.int .i64 (((rdD t6196 x8366 z_Row).North).e3)), (.int .i64 (((rdD t6196 x8366 z_Row).North).e4)), (.int .i64 (((rdD t6196 x8366 z_Row).North).e5)), (.int .i64 (((rdD t6196 x8366 z_Row).North).e6)), (.int .i64 (((rdD t6196 x8366 z_Row).North).e7)), (.int .i64 ((rdD t6196 x8366 z_Row).West)), (.int .i64 ((rdD t6196 x8366 z_Row).East))]))] [.idx A6201 x8366 t6196.length, .cell ((adr A6201).add ((x8366).toNat * 19)) (.slice ((H6203 x8366.toNat 0).1) ((rdD t6196 x8366 z_Row).Cells).length ((H6203 x8366.toNat 0).2)), .cell (((adr A6201).add ((x8366).toNat * 19)).add 1) (.int .i64 (((rdD t6196 x8366 z_Row).South).e0)), .cell (((adr A6201).add ((x8366).toNat * 19)).add 2) (.int .i64 (((rdD t6196 x8366 z_Row).South).e1)), .cell (((adr A6201).add ((x8366).toNat * 19)).add 3) (.int .i64 (((rdD t6196 x8366 z_Row).South).e2)), .cell (((adr A6201).add ((x8366).toNat * 19)).add 4) (.int .i64 (((rdD t6196 x8366 z_Row).South).e3)), .cell (((adr A6201).add ((x8366).toNat * 19)).add 5) (.int .i64 (((rdD t6196 x8366 z_Row).South).e4)), .cell (((adr A6201).add ((x8366).toNat * 19)).add 6) (.int .i64 (((rdD t6196 x8366 z_Row).South).e5)), .cell (((adr A6201).add ((x8366).toNat * 19)).add 7) (.int .i64 (((rdD t6196 x8366 z_Row).South).e6)), .cell (((adr A6201).add ((x8366).toNat * 19)).add 8) (.int .i64 (((rdD t6196 x8366 z_Row).South).e7)), .cell (((adr A6201).add ((x8366).toNat * 19)).add 9) (.int .i64 (((rdD t6196 x8366 z_Row).North).e0)), .cell (((adr A6201).add ((x8366).toNat * 19)).add 10) (.int .i64 (((rdD t6196 x8366 z_Row).North).e1)), .cell (((adr A6201).add ((x8366).toNat * 19)).add 11) (.int .i64 (((rdD t6196 x8366 z_Row).North).e2)), .cell (((adr A6201).add ((x8366).toNat * 19)).add 12) (.int .i64 (((rdD t6196 x8366 z_Row).North).e3)), .cell (((adr A6201).add ((x8366).toNat * 19)).add 13) (.int .i64 (((rdD t6196 x8366 z_Row).North).e4)), .cell (((adr A6201).add ((x8366).toNat * 19)).add 14) (.int .i64 (((rdD t6196 x8366 z_Row).North).e5)), .cell (((adr A6201).add ((x8366).toNat * 19)).add 15) (.int .i64 (((rdD t6196 x8366 z_Row).North).e6)), .cell (((adr A6201).add ((x8366).toNat * 19)).add 16) (.int .i64 (((rdD t6196 x8366 z_Row).North).e7)), .cell (((adr A6201).add ((x8366).toNat * 19)).add 17) (.int .i64 ((rdD t6196 x8366 z_Row).West)), .cell (((adr A6201).add ((x8366).toNat * 19)).add 18) (.int .i64 ((rdD t6196 x8366 z_Row).East))] (fun fb => by kernel_rfl) rfl ⟨nrow_adr (rowO.rd (hS8375.own 1).1) h8378.1 h8378.2, nrow_cell (rowO.rd (hS8375.own 1).1) z_Row h8378.1 h8378.2 0 rfl, nrow_cell (rowO.rd (hS8375.own 1).1) z_Row h8378.1 h8378.2 1 rfl, nrow_cell (rowO.rd (hS8375.own 1).1) z_Row h8378.1 h8378.2 2 rfl, nrow_cell (rowO.rd (hS8375.own 1).1) z_Row h8378.1 h8378.2 3 rfl, nrow_cell (rowO.rd (hS8375.own 1).1) z_Row h8378.1 h8378.2 4 rfl, nrow_cell (rowO.rd (hS8375.own 1).1) z_Row h8378.1 h8378.2 5 rfl, nrow_cell (rowO.rd (hS8375.own 1).1) z_Row h8378.1 h8378.2 6 rfl, nrow_cell (rowO.rd (hS8375.own 1).1) z_Row h8378.1 h8378.2 7 rfl, nrow_cell (rowO.rd (hS8375.own 1).1) z_Row h8378.1 h8378.2 8 rfl, nrow_cell (rowO.rd (hS8375.own 1).1) z_Row h8378.1 h8378.2 9 rfl, nrow_cell (rowO.rd (hS8375.own 1).1) z_Row h8378.1 h8378.2 10 rfl, nrow_cell (rowO.rd (hS8375.own 1).1) z_Row h8378.1 h8378.2 11 rfl, nrow_cell (rowO.rd (hS8375.own 1).1) z_Row h8378.1 h8378.2 12 rfl, nrow_cell (rowO.rd (hS8375.own 1).1) z_Row h8378.1 h8378.2 13 rfl, nrow_cell (rowO.rd (hS8375.own 1).1) z_Row h8378.1 h8378.2 14 rfl, nrow_cell (rowO.rd (hS8375.own 1).1) z_Row h8378.1 h8378.2 15 rfl, nrow_cell (rowO.rd (hS8375.own 1).1) z_Row h8378.1 h8378.2 16 rfl, nrow_cell (rowO.rd (hS8375.own 1).1) z_Row h8378.1 h8378.2 17 rfl, nrow_cell (rowO.rd (hS8375.own 1).1) z_Row h8378.1 h8378.2 18 rfl, trivial⟩ ?_
                    refine WL.new hS8375 18 [] (fun g => (.pointer (some ⟨g, 0, none⟩))) (.cells #[(.slice none 0 0), (.int .i64 0), (.int .i64 0), (.int .i64 0), (.int .i64 0), (.int .i64 0), (.int .i64 0), (.int .i64 0), (.int .i64 0), (.int .i64 0), (.int .i64 0), (.int .i64 0), (.int .i64 0), (.int .i64 0), (.int .i64 0), (.int .i64 0), (.int .i64 0), (.int .i64 0), (.int .i64 0)] 88 (0, 0)) [] (fun fb g => by kernel_rfl) trivial (fun g8379 w8380 hS8381 => ?_)
                    refine ⟨trivial, ?_⟩
                    refine WL.store hS8381 0 rfl [(0, (.slice ((H6203 x8366.toNat 0).1) ((rdD t6196 x8366 z_Row).Cells).length ((H6203 x8366.toNat 0).2))), (1, (.int .i64 (((rdD t6196 x8366 z_Row).South).e0))), (2, (.int .i64 (((rdD t6196 x8366 z_Row).South).e1))), (3, (.int .i64 (((rdD t6196 x8366 z_Row).South).e2))), (4, (.int .i64 (((rdD t6196 x8366 z_Row).South).e3))), (5, (.int .i64 (((rdD t6196 x8366 z_Row).South).e4))), (6, (.int .i64 (((rdD t6196 x8366 z_Row).South).e5))), (7, (.int .i64 (((rdD t6196 x8366 z_Row).South).e6))), (8, (.int .i64 (((rdD t6196 x8366 z_Row).South).e7))), (9, (.int .i64 (((rdD t6196 x8366 z_Row).North).e0))), (10, (.int .i64 (((rdD t6196 x8366 z_Row).North).e1))), (11, (.int .i64 (((rdD t6196 x8366 z_Row).North).e2))), (12, (.int .i64 (((rdD t6196 x8366 z_Row).North).e3))), (13, (.int .i64 (((rdD t6196 x8366 z_Row).North).e4))), (14, (.int .i64 (((rdD t6196 x8366 z_Row).North).e5))), (15, (.int .i64 (((rdD t6196 x8366 z_Row).North).e6))), (16, (.int .i64 (((rdD t6196 x8366 z_Row).North).e7))), (17, (.int .i64 ((rdD t6196 x8366 z_Row).West))), (18, (.int .i64 ((rdD t6196 x8366 z_Row).East)))] #[(.slice ((H6203 x8366.toNat 0).1) ((rdD t6196 x8366 z_Row).Cells).length ((H6203 x8366.toNat 0).2)), (.int .i64 (((rdD t6196 x8366 z_Row).South).e0)), (.int .i64 (((rdD t6196 x8366 z_Row).South).e1)), (.int .i64 (((rdD t6196 x8366 z_Row).South).e2)), (.int .i64 (((rdD t6196 x8366 z_Row).South).e3)), (.int .i64 (((rdD t6196 x8366 z_Row).South).e4)), (.int .i64 (((rdD t6196 x8366 z_Row).South).e5)), (.int .i64 (((rdD t6196 x8366 z_Row).South).e6)), (.int .i64 (((rdD t6196 x8366 z_Row).South).e7)), (.int .i64 (((rdD t6196 x8366 z_Row).North).e0)), (.int .i64 (((rdD t6196 x8366 z_Row).North).e1)), (.int .i64 (((rdD t6196 x8366 z_Row).North).e2)), (.int .i64 (((rdD t6196 x8366 z_Row).North).e3)), (.int .i64 (((rdD t6196 x8366 z_Row).North).e4)), (.int .i64 (((rdD t6196 x8366 z_Row).North).e5)), (.int .i64 (((rdD t6196 x8366 z_Row).North).e6)), (.int .i64 (((rdD t6196 x8366 z_Row).North).e7)), (.int .i64 ((rdD t6196 x8366 z_Row).West)), (.int .i64 ((rdD t6196 x8366 z_Row).East))] (fun fb => by kernel_rfl) (by kernel_rfl) (by kernel_rfl) [1, 2, 3, 4, 5, 6] (by decide) (by decide) (fun w8383 hS8384 => ?_)
                    refine ⟨trivial, ?_⟩
                    refine WL.done rfl ?_
                    refine WX.next ?_
                    refine WC.seq ?_
                    obtain ⟨x8400, hx8401, hl8376⟩ := bind_some hl8376
                    refine WC.cutN (T := Bool) (fun t => [(6, (.pointer (some ⟨g6018, 0, none⟩))), (8, (.slice A6201 t6196.length c6202)), (10, (.pointer (some ⟨g6208, 0, none⟩))), (13, (.slice A7837 x7841.2.length c7838)), (15, (.pointer (some ⟨g7881, 0, none⟩))), (16, (.int .i64 x8248)), (18, (.pointer (some ⟨g8379, 0, none⟩))), (74, (.slice A6201 t6196.length c6202)), (75, (.int .i64 (t6196.length : Int))), (76, (.int .i64 x8366)), (92, (.bool t))]) (fun t w1 => St NoS w w1 [knestO (aggI ints_A8_Int) vB K7836 x7841.1, rowR (encMap A8_Int Bool) A7837 c7838 (tag H7840 x7841.2), mapsO (aggI ints_A8_Int) vB H7840 x7841.2, mapsO (aggI ints_A8_Int) vB ((mget ((rdD t6196 x7804 z_Row).South) zHM K7803).1.2.2) (mget ((rdD t6196 x7804 z_Row).South) [] l7802), rowR (encMap A8_Int Bool) ((mget ((rdD t6196 x7804 z_Row).South) zHM K7803).1.1) ((mget ((rdD t6196 x7804 z_Row).South) zHM K7803).1.2.1) (tag ((mget ((rdD t6196 x7804 z_Row).South) zHM K7803).1.2.2) (mget ((rdD t6196 x7804 z_Row).South) [] l7802)), knestO (aggI ints_A8_Int) vB K7803 l7802, knestO (aggI ints_A8_Int) vB ([] : List (A8_Int × (HM × List (Option (List (A8_Int × Bool)))))) ([] : List (A8_Int × List (Option (List (A8_Int × Bool))))), rowR enc_Tile A_p0 c_p0 p0] [blk g6018 (.cells #[(.int .i64 0), (.int .i64 0), (.slice none 0 0)] 38 (0, 0)), rowO 88 encN_Row A6201 c6202 (tag H6203 t6196), poolO [nestO subN_Row H6203 t6196], blk g6208 (.cells #[(.int .i64 p1), (.int .i64 p2), (.slice A8244 l8246.length c8245)] 38 (0, 0)), rowO 3 encInt A8244 c8245 l8246, blk g7881 (.cells #[(.int .i64 a8247.e0), (.int .i64 a8247.e1), (.int .i64 a8247.e2), (.int .i64 a8247.e3), (.int .i64 a8247.e4), (.int .i64 a8247.e5), (.int .i64 a8247.e6), (.int .i64 a8247.e7)] 86 (0, 0)), blk g8379 (.cells #[(.slice ((H6203 x8366.toNat 0).1) ((rdD t6196 x8366 z_Row).Cells).length ((H6203 x8366.toNat 0).2)), (.int .i64 (((rdD t6196 x8366 z_Row).South).e0)), (.int .i64 (((rdD t6196 x8366 z_Row).South).e1)), (.int .i64 (((rdD t6196 x8366 z_Row).South).e2)), (.int .i64 (((rdD t6196 x8366 z_Row).South).e3)), (.int .i64 (((rdD t6196 x8366 z_Row).South).e4)), (.int .i64 (((rdD t6196 x8366 z_Row).South).e5)), (.int .i64 (((rdD t6196 x8366 z_Row).South).e6)), (.int .i64 (((rdD t6196 x8366 z_Row).South).e7)), (.int .i64 (((rdD t6196 x8366 z_Row).North).e0)), (.int .i64 (((rdD t6196 x8366 z_Row).North).e1)), (.int .i64 (((rdD t6196 x8366 z_Row).North).e2)), (.int .i64 (((rdD t6196 x8366 z_Row).North).e3)), (.int .i64 (((rdD t6196 x8366 z_Row).North).e4)), (.int .i64 (((rdD t6196 x8366 z_Row).North).e5)), (.int .i64 (((rdD t6196 x8366 z_Row).North).e6)), (.int .i64 (((rdD t6196 x8366 z_Row).North).e7)), (.int .i64 ((rdD t6196 x8366 z_Row).West)), (.int .i64 ((rdD t6196 x8366 z_Row).East))] 88 (0, 0))] ∧ x8400 = t) (fun Kx8400 => ?_) ?_
                    ·
                      rcases br_some hx8401 with ⟨h8402, hx8401⟩ | ⟨h8402, hx8401⟩
                      ·
                        obtain ⟨h8411, hx8401⟩ := as_some hx8401
                        obtain ⟨m8412, hm8413, hx8401⟩ := bind_some hx8401
                        refine WC.regionD ([(1, ⟨g8379, 1, none⟩, (.int .i64 (((rdD t6196 x8366 z_Row).South).e0))), (1, ⟨g8379, 2, none⟩, (.int .i64 (((rdD t6196 x8366 z_Row).South).e1))), (1, ⟨g8379, 3, none⟩, (.int .i64 (((rdD t6196 x8366 z_Row).South).e2))), (1, ⟨g8379, 4, none⟩, (.int .i64 (((rdD t6196 x8366 z_Row).South).e3))), (1, ⟨g8379, 5, none⟩, (.int .i64 (((rdD t6196 x8366 z_Row).South).e4))), (1, ⟨g8379, 6, none⟩, (.int .i64 (((rdD t6196 x8366 z_Row).South).e5))), (1, ⟨g8379, 7, none⟩, (.int .i64 (((rdD t6196 x8366 z_Row).South).e6))), (1, ⟨g8379, 8, none⟩, (.int .i64 (((rdD t6196 x8366 z_Row).South).e7))), (2, ⟨g7881, 0, none⟩, (.int .i64 a8247.e0)), (2, ⟨g7881, 1, none⟩, (.int .i64 a8247.e1)), (2, ⟨g7881, 2, none⟩, (.int .i64 a8247.e2)), (2, ⟨g7881, 3, none⟩, (.int .i64 a8247.e3)), (2, ⟨g7881, 4, none⟩, (.int .i64 a8247.e4)), (2, ⟨g7881, 5, none⟩, (.int .i64 a8247.e5)), (2, ⟨g7881, 6, none⟩, (.int .i64 a8247.e6)), (2, ⟨g7881, 7, none⟩, (.int .i64 a8247.e7)), (8, ((adr A7837).add ((x8248).toNat * 1)), (.map (some (H7840 x8248.toNat)))), (10, ⟨g8379, 9, none⟩, (.int .i64 (((rdD t6196 x8366 z_Row).North).e0))), (10, ⟨g8379, 10, none⟩, (.int .i64 (((rdD t6196 x8366 z_Row).North).e1))), (10, ⟨g8379, 11, none⟩, (.int .i64 (((rdD t6196 x8366 z_Row).North).e2))), (10, ⟨g8379, 12, none⟩, (.int .i64 (((rdD t6196 x8366 z_Row).North).e3))), (10, ⟨g8379, 13, none⟩, (.int .i64 (((rdD t6196 x8366 z_Row).North).e4))), (10, ⟨g8379, 14, none⟩, (.int .i64 (((rdD t6196 x8366 z_Row).North).e5))), (10, ⟨g8379, 15, none⟩, (.int .i64 (((rdD t6196 x8366 z_Row).North).e6))), (10, ⟨g8379, 16, none⟩, (.int .i64 (((rdD t6196 x8366 z_Row).North).e7)))], [0, 1, 2, 3, 4, 5, 6, 7, 8, 9, 10, 12], [[], [0], [], [0, 1, 2], [0, 1, 2, 3], [0, 1, 2, 3, 4], [0, 1, 2, 3, 4], [0, 1, 2, 3, 4, 5, 6], [0, 1, 2, 3, 4, 5, 6, 7], [0, 1, 2, 3, 4], [0, 1, 2, 3, 4, 9], [0, 1, 2, 3, 4, 5, 6, 7, 8, 9, 10], [0, 1, 2, 3, 4, 5, 6, 7, 8, 9, 10, 11]]) [[0, 1, 2, 3, 4, 5, 6, 7, 8, 9, 10, 11, 12]] (by kernel_rfl) (by kernel_rfl) (NoPanic.seq (NoPanic.block (NoPanic.seq (NoPanic.seq (NoPanic.block (NoPanic.scope (NoPanic.block (NoPanic.seq (NoPanic.seq (NoPanic.block (NoPanic.seq (NoPanic.block (NoPanic.seq (NoPanic.seq (NoPanic.block (NoPanic.seq (NoPanic.scope (NoPanic.body)))))))))))))))))) ?_
                        have hS8407 := hS8384.drew
                        revert hS8407
                        generalize World.drew w8383 = w8406
                        intro hS8407
                        refine ⟨⟨hS8407.cell 0 rfl 1 rfl, hS8407.cell 0 rfl 2 rfl, hS8407.cell 0 rfl 3 rfl, hS8407.cell 0 rfl 4 rfl, hS8407.cell 0 rfl 5 rfl, hS8407.cell 0 rfl 6 rfl, hS8407.cell 0 rfl 7 rfl, hS8407.cell 0 rfl 8 rfl, hS8407.cell 6 rfl 0 rfl, hS8407.cell 6 rfl 1 rfl, hS8407.cell 6 rfl 2 rfl, hS8407.cell 6 rfl 3 rfl, hS8407.cell 6 rfl 4 rfl, hS8407.cell 6 rfl 5 rfl, hS8407.cell 6 rfl 6 rfl, hS8407.cell 6 rfl 7 rfl, nrow_cell (hS8407.rd 1).1 none h8411.1 h8411.2 0 (mapV_some hm8413), hS8407.cell 0 rfl 9 rfl, hS8407.cell 0 rfl 10 rfl, hS8407.cell 0 rfl 11 rfl, hS8407.cell 0 rfl 12 rfl, hS8407.cell 0 rfl 13 rfl, hS8407.cell 0 rfl 14 rfl, hS8407.cell 0 rfl 15 rfl, hS8407.cell 0 rfl 16 rfl, trivial⟩, forallC ?_ (forallN)⟩
                        refine segF 5 [.v (.int .i64 (((rdD t6196 x8366 z_Row).South).e0)), .v (.int .i64 (((rdD t6196 x8366 z_Row).South).e1)), .v (.int .i64 (((rdD t6196 x8366 z_Row).South).e2)), .v (.int .i64 (((rdD t6196 x8366 z_Row).South).e3)), .v (.int .i64 (((rdD t6196 x8366 z_Row).South).e4)), .v (.int .i64 (((rdD t6196 x8366 z_Row).South).e5)), .v (.int .i64 (((rdD t6196 x8366 z_Row).South).e6)), .v (.int .i64 (((rdD t6196 x8366 z_Row).South).e7)), .v (.int .i64 a8247.e0), .v (.int .i64 a8247.e1), .v (.int .i64 a8247.e2), .v (.int .i64 a8247.e3), .v (.int .i64 a8247.e4), .v (.int .i64 a8247.e5), .v (.int .i64 a8247.e6), .v (.int .i64 a8247.e7)] [6, 8, 10, 13, 15, 16, 18, 74, 75, 76, 84] [(6, (.pointer (some ⟨g6018, 0, none⟩))), (8, (.slice A6201 t6196.length c6202)), (10, (.pointer (some ⟨g6208, 0, none⟩))), (13, (.slice A7837 x7841.2.length c7838)), (15, (.pointer (some ⟨g7881, 0, none⟩))), (16, (.int .i64 x8248)), (18, (.pointer (some ⟨g8379, 0, none⟩))), (74, (.slice A6201 t6196.length c6202)), (75, (.int .i64 (t6196.length : Int))), (76, (.int .i64 x8366)), (84, (.bool ((((rdD t6196 x8366 z_Row).South).e0) == a8247.e0 && ((((rdD t6196 x8366 z_Row).South).e1) == a8247.e1 && ((((rdD t6196 x8366 z_Row).South).e2) == a8247.e2 && ((((rdD t6196 x8366 z_Row).South).e3) == a8247.e3 && ((((rdD t6196 x8366 z_Row).South).e4) == a8247.e4 && ((((rdD t6196 x8366 z_Row).South).e5) == a8247.e5 && ((((rdD t6196 x8366 z_Row).South).e6) == a8247.e6 && ((((rdD t6196 x8366 z_Row).South).e7) == a8247.e7))))))))))] [] [0, 1, 2, 3, 4, 5, 6, 7, 8, 9, 10, 11, 12, 13, 14, 15] [(1, ⟨g8379, 1, none⟩, (.int .i64 (((rdD t6196 x8366 z_Row).South).e0))), (1, ⟨g8379, 2, none⟩, (.int .i64 (((rdD t6196 x8366 z_Row).South).e1))), (1, ⟨g8379, 3, none⟩, (.int .i64 (((rdD t6196 x8366 z_Row).South).e2))), (1, ⟨g8379, 4, none⟩, (.int .i64 (((rdD t6196 x8366 z_Row).South).e3))), (1, ⟨g8379, 5, none⟩, (.int .i64 (((rdD t6196 x8366 z_Row).South).e4))), (1, ⟨g8379, 6, none⟩, (.int .i64 (((rdD t6196 x8366 z_Row).South).e5))), (1, ⟨g8379, 7, none⟩, (.int .i64 (((rdD t6196 x8366 z_Row).South).e6))), (1, ⟨g8379, 8, none⟩, (.int .i64 (((rdD t6196 x8366 z_Row).South).e7))), (2, ⟨g7881, 0, none⟩, (.int .i64 a8247.e0)), (2, ⟨g7881, 1, none⟩, (.int .i64 a8247.e1)), (2, ⟨g7881, 2, none⟩, (.int .i64 a8247.e2)), (2, ⟨g7881, 3, none⟩, (.int .i64 a8247.e3)), (2, ⟨g7881, 4, none⟩, (.int .i64 a8247.e4)), (2, ⟨g7881, 5, none⟩, (.int .i64 a8247.e5)), (2, ⟨g7881, 6, none⟩, (.int .i64 a8247.e6)), (2, ⟨g7881, 7, none⟩, (.int .i64 a8247.e7))] (fun fb => by kernel_rfl) rfl trivial rfl ?_
                        refine WL.setB 84 h8402 rfl ?_
                        refine segF 11 [.v (.map (some (H7840 x8248.toNat))), .v (.int .i64 (((rdD t6196 x8366 z_Row).North).e0)), .v (.int .i64 (((rdD t6196 x8366 z_Row).North).e1)), .v (.int .i64 (((rdD t6196 x8366 z_Row).North).e2)), .v (.int .i64 (((rdD t6196 x8366 z_Row).North).e3)), .v (.int .i64 (((rdD t6196 x8366 z_Row).North).e4)), .v (.int .i64 (((rdD t6196 x8366 z_Row).North).e5)), .v (.int .i64 (((rdD t6196 x8366 z_Row).North).e6)), .v (.int .i64 (((rdD t6196 x8366 z_Row).North).e7))] [6, 8, 10, 13, 15, 16, 18, 74, 75, 76, 84, 88, 90] [(6, (.pointer (some ⟨g6018, 0, none⟩))), (8, (.slice A6201 t6196.length c6202)), (10, (.pointer (some ⟨g6208, 0, none⟩))), (13, (.slice A7837 x7841.2.length c7838)), (15, (.pointer (some ⟨g7881, 0, none⟩))), (16, (.int .i64 x8248)), (18, (.pointer (some ⟨g8379, 0, none⟩))), (74, (.slice A6201 t6196.length c6202)), (75, (.int .i64 (t6196.length : Int))), (76, (.int .i64 x8366)), (84, (.bool true)), (88, (.map (some (H7840 x8248.toNat)))), (90, (.agg #[(.int .i64 (((rdD t6196 x8366 z_Row).North).e0)), (.int .i64 (((rdD t6196 x8366 z_Row).North).e1)), (.int .i64 (((rdD t6196 x8366 z_Row).North).e2)), (.int .i64 (((rdD t6196 x8366 z_Row).North).e3)), (.int .i64 (((rdD t6196 x8366 z_Row).North).e4)), (.int .i64 (((rdD t6196 x8366 z_Row).North).e5)), (.int .i64 (((rdD t6196 x8366 z_Row).North).e6)), (.int .i64 (((rdD t6196 x8366 z_Row).North).e7))]))] [.idx A7837 x8248 x7841.2.length] [16, 17, 18, 19, 20, 21, 22, 23, 24] [(8, ((adr A7837).add ((x8248).toNat * 1)), (.map (some (H7840 x8248.toNat)))), (10, ⟨g8379, 9, none⟩, (.int .i64 (((rdD t6196 x8366 z_Row).North).e0))), (10, ⟨g8379, 10, none⟩, (.int .i64 (((rdD t6196 x8366 z_Row).North).e1))), (10, ⟨g8379, 11, none⟩, (.int .i64 (((rdD t6196 x8366 z_Row).North).e2))), (10, ⟨g8379, 12, none⟩, (.int .i64 (((rdD t6196 x8366 z_Row).North).e3))), (10, ⟨g8379, 13, none⟩, (.int .i64 (((rdD t6196 x8366 z_Row).North).e4))), (10, ⟨g8379, 14, none⟩, (.int .i64 (((rdD t6196 x8366 z_Row).North).e5))), (10, ⟨g8379, 15, none⟩, (.int .i64 (((rdD t6196 x8366 z_Row).North).e6))), (10, ⟨g8379, 16, none⟩, (.int .i64 (((rdD t6196 x8366 z_Row).North).e7)))] (fun fb => by kernel_rfl) rfl ⟨nrow_adr (hS8407.rd 1).1 h8411.1 h8411.2, trivial⟩ rfl ?_
                        refine WL.lookup (mapsO.at (hS8407.rd 2).1 h8411.1 h8411.2 hm8413) ((rdD t6196 x8366 z_Row).North) (d := 91) (c := false) (t := 81) (kT := 86) (eT := 4) (z := false) (kE := (aggI ints_A8_Int)) (vE := vB) (l := m8412) (.bool (mget ((rdD t6196 x8366 z_Row).North) false m8412)) (fun fb => by kernel_rfl) torus_find_key86 (by kernel_rfl) (fun _ => by kernel_rfl) rfl ?_
                        refine ⟨trivial, ?_⟩
                        refine seg 13 [] [6, 8, 10, 13, 15, 16, 18, 74, 75, 76, 92] [(6, (.pointer (some ⟨g6018, 0, none⟩))), (8, (.slice A6201 t6196.length c6202)), (10, (.pointer (some ⟨g6208, 0, none⟩))), (13, (.slice A7837 x7841.2.length c7838)), (15, (.pointer (some ⟨g7881, 0, none⟩))), (16, (.int .i64 x8248)), (18, (.pointer (some ⟨g8379, 0, none⟩))), (74, (.slice A6201 t6196.length c6202)), (75, (.int .i64 (t6196.length : Int))), (76, (.int .i64 x8366)), (92, (.bool (mget ((rdD t6196 x8366 z_Row).North) false m8412)))] [] (fun fb => by kernel_rfl) rfl trivial ?_
                        refine WL.done rfl ?_
                        injection hx8401 with hx8401
                        exact WX.to Kx8400 (mget ((rdD t6196 x8366 z_Row).North) false m8412) [6, 8, 10, 13, 15, 16, 18, 74, 75, 76, 92] rfl ⟨(hS8407.subR [0, 1, 2, 3, 4, 5, 6, 7]).sub [1, 2, 3, 4, 5, 6, 0] (by decide), hx8401.symm⟩
                      refine WC.regionD ([(1, ⟨g8379, 1, none⟩, (.int .i64 (((rdD t6196 x8366 z_Row).South).e0))), (1, ⟨g8379, 2, none⟩, (.int .i64 (((rdD t6196 x8366 z_Row).South).e1))), (1, ⟨g8379, 3, none⟩, (.int .i64 (((rdD t6196 x8366 z_Row).South).e2))), (1, ⟨g8379, 4, none⟩, (.int .i64 (((rdD t6196 x8366 z_Row).South).e3))), (1, ⟨g8379, 5, none⟩, (.int .i64 (((rdD t6196 x8366 z_Row).South).e4))), (1, ⟨g8379, 6, none⟩, (.int .i64 (((rdD t6196 x8366 z_Row).South).e5))), (1, ⟨g8379, 7, none⟩, (.int .i64 (((rdD t6196 x8366 z_Row).South).e6))), (1, ⟨g8379, 8, none⟩, (.int .i64 (((rdD t6196 x8366 z_Row).South).e7))), (2, ⟨g7881, 0, none⟩, (.int .i64 a8247.e0)), (2, ⟨g7881, 1, none⟩, (.int .i64 a8247.e1)), (2, ⟨g7881, 2, none⟩, (.int .i64 a8247.e2)), (2, ⟨g7881, 3, none⟩, (.int .i64 a8247.e3)), (2, ⟨g7881, 4, none⟩, (.int .i64 a8247.e4)), (2, ⟨g7881, 5, none⟩, (.int .i64 a8247.e5)), (2, ⟨g7881, 6, none⟩, (.int .i64 a8247.e6)), (2, ⟨g7881, 7, none⟩, (.int .i64 a8247.e7))], [0, 1, 2, 3, 4, 5, 6, 7, 8, 9, 10, 12], [[], [0], [], [0, 1, 2], [0, 1, 2, 3], [0, 1, 2, 3, 4], [0, 1, 2, 3, 4], [0, 1, 2, 3, 4, 5, 6], [0, 1, 2, 3, 4, 5, 6, 7], [0, 1, 2, 3, 4], [0, 1, 2, 3, 4, 9], [0, 1, 2, 3, 4, 5, 6, 7, 8, 9, 10], [0, 1, 2, 3, 4, 5, 6, 7, 8, 9, 10, 11]]) [[0, 1, 2, 3, 4, 5, 6, 7, 8, 9, 10, 11, 12]] (by kernel_rfl) (by kernel_rfl) (NoPanic.seq (NoPanic.block (NoPanic.seq (NoPanic.seq (NoPanic.block (NoPanic.scope (NoPanic.block (NoPanic.seq (NoPanic.seq (NoPanic.block (NoPanic.seq (NoPanic.block (NoPanic.seq (NoPanic.seq (NoPanic.block (NoPanic.seq (NoPanic.scope (NoPanic.body)))))))))))))))))) ?_
                      have hS8415 := hS8384.drew
                      revert hS8415
                      generalize World.drew w8383 = w8414
                      intro hS8415
                      refine ⟨⟨hS8415.cell 0 rfl 1 rfl, hS8415.cell 0 rfl 2 rfl, hS8415.cell 0 rfl 3 rfl, hS8415.cell 0 rfl 4 rfl, hS8415.cell 0 rfl 5 rfl, hS8415.cell 0 rfl 6 rfl, hS8415.cell 0 rfl 7 rfl, hS8415.cell 0 rfl 8 rfl, hS8415.cell 6 rfl 0 rfl, hS8415.cell 6 rfl 1 rfl, hS8415.cell 6 rfl 2 rfl, hS8415.cell 6 rfl 3 rfl, hS8415.cell 6 rfl 4 rfl, hS8415.cell 6 rfl 5 rfl, hS8415.cell 6 rfl 6 rfl, hS8415.cell 6 rfl 7 rfl, trivial⟩, forallC ?_ (forallN)⟩
                      refine segF 5 [.v (.int .i64 (((rdD t6196 x8366 z_Row).South).e0)), .v (.int .i64 (((rdD t6196 x8366 z_Row).South).e1)), .v (.int .i64 (((rdD t6196 x8366 z_Row).South).e2)), .v (.int .i64 (((rdD t6196 x8366 z_Row).South).e3)), .v (.int .i64 (((rdD t6196 x8366 z_Row).South).e4)), .v (.int .i64 (((rdD t6196 x8366 z_Row).South).e5)), .v (.int .i64 (((rdD t6196 x8366 z_Row).South).e6)), .v (.int .i64 (((rdD t6196 x8366 z_Row).South).e7)), .v (.int .i64 a8247.e0), .v (.int .i64 a8247.e1), .v (.int .i64 a8247.e2), .v (.int .i64 a8247.e3), .v (.int .i64 a8247.e4), .v (.int .i64 a8247.e5), .v (.int .i64 a8247.e6), .v (.int .i64 a8247.e7)] [6, 8, 10, 13, 15, 16, 18, 74, 75, 76, 84] [(6, (.pointer (some ⟨g6018, 0, none⟩))), (8, (.slice A6201 t6196.length c6202)), (10, (.pointer (some ⟨g6208, 0, none⟩))), (13, (.slice A7837 x7841.2.length c7838)), (15, (.pointer (some ⟨g7881, 0, none⟩))), (16, (.int .i64 x8248)), (18, (.pointer (some ⟨g8379, 0, none⟩))), (74, (.slice A6201 t6196.length c6202)), (75, (.int .i64 (t6196.length : Int))), (76, (.int .i64 x8366)), (84, (.bool ((((rdD t6196 x8366 z_Row).South).e0) == a8247.e0 && ((((rdD t6196 x8366 z_Row).South).e1) == a8247.e1 && ((((rdD t6196 x8366 z_Row).South).e2) == a8247.e2 && ((((rdD t6196 x8366 z_Row).South).e3) == a8247.e3 && ((((rdD t6196 x8366 z_Row).South).e4) == a8247.e4 && ((((rdD t6196 x8366 z_Row).South).e5) == a8247.e5 && ((((rdD t6196 x8366 z_Row).South).e6) == a8247.e6 && ((((rdD t6196 x8366 z_Row).South).e7) == a8247.e7))))))))))] [] [0, 1, 2, 3, 4, 5, 6, 7, 8, 9, 10, 11, 12, 13, 14, 15] [(1, ⟨g8379, 1, none⟩, (.int .i64 (((rdD t6196 x8366 z_Row).South).e0))), (1, ⟨g8379, 2, none⟩, (.int .i64 (((rdD t6196 x8366 z_Row).South).e1))), (1, ⟨g8379, 3, none⟩, (.int .i64 (((rdD t6196 x8366 z_Row).South).e2))), (1, ⟨g8379, 4, none⟩, (.int .i64 (((rdD t6196 x8366 z_Row).South).e3))), (1, ⟨g8379, 5, none⟩, (.int .i64 (((rdD t6196 x8366 z_Row).South).e4))), (1, ⟨g8379, 6, none⟩, (.int .i64 (((rdD t6196 x8366 z_Row).South).e5))), (1, ⟨g8379, 7, none⟩, (.int .i64 (((rdD t6196 x8366 z_Row).South).e6))), (1, ⟨g8379, 8, none⟩, (.int .i64 (((rdD t6196 x8366 z_Row).South).e7))), (2, ⟨g7881, 0, none⟩, (.int .i64 a8247.e0)), (2, ⟨g7881, 1, none⟩, (.int .i64 a8247.e1)), (2, ⟨g7881, 2, none⟩, (.int .i64 a8247.e2)), (2, ⟨g7881, 3, none⟩, (.int .i64 a8247.e3)), (2, ⟨g7881, 4, none⟩, (.int .i64 a8247.e4)), (2, ⟨g7881, 5, none⟩, (.int .i64 a8247.e5)), (2, ⟨g7881, 6, none⟩, (.int .i64 a8247.e6)), (2, ⟨g7881, 7, none⟩, (.int .i64 a8247.e7))] (fun fb => by kernel_rfl) rfl trivial rfl ?_
                      refine WL.setB 84 h8402 rfl ?_
                      refine seg 13 [] [6, 8, 10, 13, 15, 16, 18, 74, 75, 76, 92] [(6, (.pointer (some ⟨g6018, 0, none⟩))), (8, (.slice A6201 t6196.length c6202)), (10, (.pointer (some ⟨g6208, 0, none⟩))), (13, (.slice A7837 x7841.2.length c7838)), (15, (.pointer (some ⟨g7881, 0, none⟩))), (16, (.int .i64 x8248)), (18, (.pointer (some ⟨g8379, 0, none⟩))), (74, (.slice A6201 t6196.length c6202)), (75, (.int .i64 (t6196.length : Int))), (76, (.int .i64 x8366)), (92, (.bool false))] [] (fun fb => by kernel_rfl) rfl trivial ?_
                      refine WL.done rfl ?_
                      injection hx8401 with hx8401
                      exact WX.to Kx8400 false [6, 8, 10, 13, 15, 16, 18, 74, 75, 76, 92] rfl ⟨(hS8415.subR [0, 1, 2, 3, 4, 5, 6, 7]).sub [1, 2, 3, 4, 5, 6, 0] (by decide), hx8401.symm⟩
                    rintro y8419 w8416 ⟨hS8417, hq8418⟩
                    subst hq8418
                    refine WX.next ?_
                    rcases br_some hl8376 with ⟨h8420, hl8376⟩ | ⟨h8420, hl8376⟩
                    · refine WC.condT2 (fun fb => by kernel_rfl) h8420 ?_
                      refine WC.seq ?_
                      refine WC.region ?_
                      refine seg 4 [.v (.slice A8244 l8246.length c8245), .v (.slice ((H6203 x8366.toNat 0).1) ((rdD t6196 x8366 z_Row).Cells).length ((H6203 x8366.toNat 0).2))] [6, 8, 10, 13, 15, 16, 18, 94, 96] [(6, (.pointer (some ⟨g6018, 0, none⟩))), (8, (.slice A6201 t6196.length c6202)), (10, (.pointer (some ⟨g6208, 0, none⟩))), (13, (.slice A7837 x7841.2.length c7838)), (15, (.pointer (some ⟨g7881, 0, none⟩))), (16, (.int .i64 x8248)), (18, (.pointer (some ⟨g8379, 0, none⟩))), (94, (.slice A8244 l8246.length c8245)), (96, (.slice ((H6203 x8366.toNat 0).1) ((rdD t6196 x8366 z_Row).Cells).length ((H6203 x8366.toNat 0).2)))] [.cell ⟨g6208, 2, none⟩ (.slice A8244 l8246.length c8245), .cell ⟨g8379, 0, none⟩ (.slice ((H6203 x8366.toNat 0).1) ((rdD t6196 x8366 z_Row).Cells).length ((H6203 x8366.toNat 0).2))] (fun fb => by kernel_rfl) rfl ⟨hS8417.cell 3 rfl 2 rfl, hS8417.cell 6 rfl 0 rfl, trivial⟩ ?_
                      obtain ⟨h8421, hl8376⟩ := as_some hl8376
                      refine WL.append hS8417 4 (d := 97) (tS := 36) (z := (.int .i64 0)) (bytes := 8) (c2 := (H6203 x8366.toNat 0).2) rfl (fun fb => by kernel_rfl) (nestO.at ((hS8417.own 2).1 0) z_Row h8378.1 h8378.2) (by kernel_rfl) (by kernel_rfl) rfl (by decide) h8421 (by decide) [0, 1, 2, 3, 5, 6] (by decide) (by decide) (fun A8422 c8423 w8424 hS8425 => ?_)
                      refine ⟨trivial, ?_⟩
                      refine seg 6 [] [6, 8, 10, 13, 15, 16, 18, 97, 98] [(6, (.pointer (some ⟨g6018, 0, none⟩))), (8, (.slice A6201 t6196.length c6202)), (10, (.pointer (some ⟨g6208, 0, none⟩))), (13, (.slice A7837 x7841.2.length c7838)), (15, (.pointer (some ⟨g7881, 0, none⟩))), (16, (.int .i64 x8248)), (18, (.pointer (some ⟨g8379, 0, none⟩))), (97, (.slice A8422 (l8246 ++ ((rdD t6196 x8366 z_Row).Cells)).length c8423)), (98, (.pointer (some ⟨g6208, 2, none⟩)))] [] (fun fb => by kernel_rfl) rfl trivial ?_
                      refine WL.store hS8425 4 rfl [(2, (.slice A8422 (l8246 ++ ((rdD t6196 x8366 z_Row).Cells)).length c8423))] #[(.int .i64 p1), (.int .i64 p2), (.slice A8422 (l8246 ++ ((rdD t6196 x8366 z_Row).Cells)).length c8423)] (fun fb => by kernel_rfl) (by kernel_rfl) rfl [0, 1, 2, 3, 5, 6] (by decide) (by decide) (fun w8426 hS8427 => ?_)
                      refine ⟨trivial, ?_⟩
                      refine WL.done rfl ?_
                      refine WX.next ?_
                      refine WC.seq ?_
                      refine WC.region ?_
                      refine seg 2 [.v (.int .i64 (((rdD t6196 x8366 z_Row).North).e0)), .v (.int .i64 (((rdD t6196 x8366 z_Row).North).e1)), .v (.int .i64 (((rdD t6196 x8366 z_Row).North).e2)), .v (.int .i64 (((rdD t6196 x8366 z_Row).North).e3)), .v (.int .i64 (((rdD t6196 x8366 z_Row).North).e4)), .v (.int .i64 (((rdD t6196 x8366 z_Row).North).e5)), .v (.int .i64 (((rdD t6196 x8366 z_Row).North).e6)), .v (.int .i64 (((rdD t6196 x8366 z_Row).North).e7))] [6, 8, 10, 13, 15, 16, 100] [(6, (.pointer (some ⟨g6018, 0, none⟩))), (8, (.slice A6201 t6196.length c6202)), (10, (.pointer (some ⟨g6208, 0, none⟩))), (13, (.slice A7837 x7841.2.length c7838)), (15, (.pointer (some ⟨g7881, 0, none⟩))), (16, (.int .i64 x8248)), (100, (.agg #[(.int .i64 (((rdD t6196 x8366 z_Row).North).e0)), (.int .i64 (((rdD t6196 x8366 z_Row).North).e1)), (.int .i64 (((rdD t6196 x8366 z_Row).North).e2)), (.int .i64 (((rdD t6196 x8366 z_Row).North).e3)), (.int .i64 (((rdD t6196 x8366 z_Row).North).e4)), (.int .i64 (((rdD t6196 x8366 z_Row).North).e5)), (.int .i64 (((rdD t6196 x8366 z_Row).North).e6)), (.int .i64 (((rdD t6196 x8366 z_Row).North).e7))]))] [.cell ⟨g8379, 9, none⟩ (.int .i64 (((rdD t6196 x8366 z_Row).North).e0)), .cell ⟨g8379, 10, none⟩ (.int .i64 (((rdD t6196 x8366 z_Row).North).e1)), .cell ⟨g8379, 11, none⟩ (.int .i64 (((rdD t6196 x8366 z_Row).North).e2)), .cell ⟨g8379, 12, none⟩ (.int .i64 (((rdD t6196 x8366 z_Row).North).e3)), .cell ⟨g8379, 13, none⟩ (.int .i64 (((rdD t6196 x8366 z_Row).North).e4)), .cell ⟨g8379, 14, none⟩ (.int .i64 (((rdD t6196 x8366 z_Row).North).e5)), .cell ⟨g8379, 15, none⟩ (.int .i64 (((rdD t6196 x8366 z_Row).North).e6)), .cell ⟨g8379, 16, none⟩ (.int .i64 (((rdD t6196 x8366 z_Row).North).e7))] (fun fb => by kernel_rfl) rfl ⟨hS8427.cell 6 rfl 9 rfl, hS8427.cell 6 rfl 10 rfl, hS8427.cell 6 rfl 11 rfl, hS8427.cell 6 rfl 12 rfl, hS8427.cell 6 rfl 13 rfl, hS8427.cell 6 rfl 14 rfl, hS8427.cell 6 rfl 15 rfl, hS8427.cell 6 rfl 16 rfl, trivial⟩ ?_
                      refine WL.store hS8427 5 rfl [(0, (.int .i64 (((rdD t6196 x8366 z_Row).North).e0))), (1, (.int .i64 (((rdD t6196 x8366 z_Row).North).e1))), (2, (.int .i64 (((rdD t6196 x8366 z_Row).North).e2))), (3, (.int .i64 (((rdD t6196 x8366 z_Row).North).e3))), (4, (.int .i64 (((rdD t6196 x8366 z_Row).North).e4))), (5, (.int .i64 (((rdD t6196 x8366 z_Row).North).e5))), (6, (.int .i64 (((rdD t6196 x8366 z_Row).North).e6))), (7, (.int .i64 (((rdD t6196 x8366 z_Row).North).e7)))] #[(.int .i64 (((rdD t6196 x8366 z_Row).North).e0)), (.int .i64 (((rdD t6196 x8366 z_Row).North).e1)), (.int .i64 (((rdD t6196 x8366 z_Row).North).e2)), (.int .i64 (((rdD t6196 x8366 z_Row).North).e3)), (.int .i64 (((rdD t6196 x8366 z_Row).North).e4)), (.int .i64 (((rdD t6196 x8366 z_Row).North).e5)), (.int .i64 (((rdD t6196 x8366 z_Row).North).e6)), (.int .i64 (((rdD t6196 x8366 z_Row).North).e7))] (fun fb => by kernel_rfl) (by kernel_rfl) rfl [0, 1, 2, 3, 4, 6] (by decide) (by decide) (fun w8428 hS8429 => ?_)
                      refine ⟨trivial, ?_⟩
                      refine WL.done rfl ?_
                      refine WX.next ?_
                      refine WC.exit ?_
                      injection hl8376 with hl8376
                      exact WX.blockPast (by decide) (WX.thenX (WX.thenX (WX.blockHere (WX.to Kx8371 ((l8246 ++ ((rdD t6196 x8366 z_Row).Cells), ((rdD t6196 x8366 z_Row).North)), A8422, c8423) [6, 8, 10, 13, 15, 16] rfl ⟨(hS8429.subR [0, 1, 2, 3, 4, 5, 6, 7]).sub [3, 4, 5, 1, 2, 0] (by decide), hl8376.symm⟩))))
                    refine WC.condF2 (fun fb => by kernel_rfl) h8420 ?_
                    refine WC.skip ?_
                    refine WX.blockN (WX.next ?_)
                    refine WC.region ?_
                    refine seg 2 [] [6, 8, 10, 13, 15, 16, 74, 75, 76] [(6, (.pointer (some ⟨g6018, 0, none⟩))), (8, (.slice A6201 t6196.length c6202)), (10, (.pointer (some ⟨g6208, 0, none⟩))), (13, (.slice A7837 x7841.2.length c7838)), (15, (.pointer (some ⟨g7881, 0, none⟩))), (16, (.int .i64 x8248)), (74, (.slice A6201 t6196.length c6202)), (75, (.int .i64 (t6196.length : Int))), (76, (.int .i64 (w64 (x8366 + 1))))] [] (fun fb => by kernel_rfl) rfl trivial ?_
                    refine WL.done rfl ?_
                    exact WX.again k8373 (Nat.lt_succ_self _) (w64 (x8366 + 1)) [6, 8, 10, 13, 15, 16, 74, 75, 76] rfl ⟨(hS8417.subR [0, 1, 2, 3, 4, 5, 6, 7]).sub [0, 1, 2, 3, 4, 5] (by decide), hl8376⟩
                  refine WC.condF2 (fun fb => by kernel_rfl) h8377 ?_
                  refine WC.exit ?_
                  injection hl8376 with hl8376
                  exact WX.thenX (WX.thenX (WX.blockHere (WX.to Kx8371 ((l8246, a8247), A8244, c8245) [6, 8, 10, 13, 15, 16] rfl ⟨(hS8375.subR [0, 1, 2, 3, 4, 5, 6, 7]).sub [0, 1, 2, 3, 4, 5] (by decide), hl8376.symm⟩)))
              rintro ⟨y8433, A8367, c8368⟩ w8430 ⟨hS8431, hq8432⟩
              subst hq8432
              refine WX.scopeN (WX.blockN (WX.next ?_))
              refine WC.region ?_
              refine seg 3 [] [6, 8, 10, 13, 15, 16] [(6, (.pointer (some ⟨g6018, 0, none⟩))), (8, (.slice A6201 t6196.length c6202)), (10, (.pointer (some ⟨g6208, 0, none⟩))), (13, (.slice A7837 x7841.2.length c7838)), (15, (.pointer (some ⟨g7881, 0, none⟩))), (16, (.int .i64 (w64 (x8248 - 1))))] [] (fun fb => by kernel_rfl) rfl trivial ?_
              refine WL.done rfl ?_
              exact WX.again k8254 (Nat.lt_succ_self _) ((x8371.1, x8371.2, w64 (x8248 - 1)), A8367, c8368) [6, 8, 10, 13, 15, 16] rfl ⟨(hS8431.subR [0, 1, 2, 3, 4, 5, 6, 7]).sub [0, 1, 2, 3, 4, 5] (by decide), hl8257⟩
            refine WC.condF2 (fun fb => by kernel_rfl) h8258 ?_
            refine WC.exit ?_
            injection hl8257 with hl8257
            exact WX.thenX (WX.thenX (WX.blockHere (WX.to Kx8252 (l8246, A8244, c8245) [6, 10] rfl ⟨(hS8256.subR [0, 1, 2, 3, 4, 5, 6, 7]).sub [0, 3, 4] (by decide), hl8257.symm⟩)))
        rintro ⟨y8437, A8249, c8250⟩ w8434 ⟨hS8435, hq8436⟩
        subst hq8436
        refine WX.next ?_
        refine WC.seq ?_
        refine WC.region ?_
        refine seg 1 [.v (.int .i64 p1), .v (.int .i64 p2), .v (.slice A8249 x8252.length c8250)] [6, 102] [(6, (.pointer (some ⟨g6018, 0, none⟩))), (102, (.agg #[(.int .i64 p1), (.int .i64 p2), (.slice A8249 x8252.length c8250)]))] [.cell ⟨g6208, 0, none⟩ (.int .i64 p1), .cell ⟨g6208, 1, none⟩ (.int .i64 p2), .cell ⟨g6208, 2, none⟩ (.slice A8249 x8252.length c8250)] (fun fb => by kernel_rfl) rfl ⟨hS8435.cell 1 rfl 0 rfl, hS8435.cell 1 rfl 1 rfl, hS8435.cell 1 rfl 2 rfl, trivial⟩ ?_
        refine WL.store hS8435 0 rfl [(0, (.int .i64 p1)), (1, (.int .i64 p2)), (2, (.slice A8249 x8252.length c8250))] #[(.int .i64 p1), (.int .i64 p2), (.slice A8249 x8252.length c8250)] (fun fb => by kernel_rfl) (by kernel_rfl) rfl [1, 2] (by decide) (by decide) (fun w8438 hS8439 => ?_)
        refine ⟨trivial, ?_⟩
        refine seg 3 [] [6, 7] [(6, (.pointer (some ⟨g6018, 0, none⟩))), (7, (.bool true))] [] (fun fb => by kernel_rfl) rfl trivial ?_
        refine WL.done rfl ?_
        refine WX.next ?_
        refine WC.ret ?_
        injection hl7810 with hl7810
        subst hl7810
        injection hf with hf
        subst hf
        exact WX.blockR (WX.thenR (WX.thenR (WX.blockR (WX.thenR (WX.scopeR (WX.ret_ [.v (.int .i64 p1), .v (.int .i64 p2), .v (.slice A8249 x8252.length c8250)] (.tuple #[(.agg #[(.int .i64 p1), (.int .i64 p2), (.slice A8249 x8252.length c8250)]), (.bool true)]) [.cell ⟨g6018, 0, none⟩ (.int .i64 p1), .cell ⟨g6018, 1, none⟩ (.int .i64 p2), .cell ⟨g6018, 2, none⟩ (.slice A8249 x8252.length c8250)] (fun fb => by kernel_rfl) ⟨hS8439.cell 0 rfl 0 rfl, hS8439.cell 0 rfl 1 rfl, hS8439.cell 0 rfl 2 rfl, trivial⟩ ⟨_, rfl, A8249, c8250, rfl, (hS8439.sub [2] (by decide)).noR⟩))))))
      refine WC.condF2 (fun fb => by kernel_rfl) h7811 ?_
      refine WC.exit ?_
      injection hl7810 with hl7810
      exact WX.thenX (WX.thenX (WX.blockHere (WX.to Kx7805 () [6] rfl ⟨(hS7809.subR [1, 2]).sub [0] (by decide), hl7810.symm⟩)))
  rintro y8443 w8440 ⟨hS8441, hq8442⟩
  subst hq8442
  have hf := sum_inr hf
  refine WX.next ?_
  refine WC.seq ?_
  refine WC.region ?_
  refine seg 1 [] [6, 104] [(6, (.pointer (some ⟨g6018, 0, none⟩))), (104, (.agg #[(.int .i64 0), (.int .i64 0), (.slice none 0 0)]))] [] (fun fb => by kernel_rfl) rfl trivial ?_
  refine WL.store hS8441 0 rfl [(0, (.int .i64 0)), (1, (.int .i64 0)), (2, (.slice none 0 0))] #[(.int .i64 0), (.int .i64 0), (.slice none 0 0)] (fun fb => by kernel_rfl) (by kernel_rfl) rfl [] (by decide) (by decide) (fun w8445 hS8446 => ?_)
  refine ⟨trivial, ?_⟩
  refine seg 3 [] [6, 7] [(6, (.pointer (some ⟨g6018, 0, none⟩))), (7, (.bool false))] [] (fun fb => by kernel_rfl) rfl trivial ?_
  refine WL.done rfl ?_
  refine WX.next ?_
  refine WC.ret ?_
  have hS8447 := hS8446.nilrow 3 encInt
  injection hf with hf
  subst hf
  exact WX.scopeR (WX.ret_ [.v (.int .i64 0), .v (.int .i64 0), .v (.slice none 0 0)] (.tuple #[(.agg #[(.int .i64 0), (.int .i64 0), (.slice none ([] : List Int).length 0)]), (.bool false)]) [.cell ⟨g6018, 0, none⟩ (.int .i64 0), .cell ⟨g6018, 1, none⟩ (.int .i64 0), .cell ⟨g6018, 2, none⟩ (.slice none 0 0)] (fun fb => by kernel_rfl) ⟨hS8446.cell 0 rfl 0 rfl, hS8446.cell 0 rfl 1 rfl, hS8446.cell 0 rfl 2 rfl, trivial⟩ ⟨_, rfl, none, 0, rfl, (hS8447.sub [0] (by decide)).noR⟩)
theorem torus_Least_calls (k : Nat) (p0 : List Tile) (p1 : Int) (A_p0 : Option Addr) (c_p0 : Nat) (r : Pattern × Int) (w : World) (hR0 : RO NoS w (rowR enc_Tile A_p0 c_p0 p0)) (hf : torus_Least k p0 p1 = some r) :
    CallsR Try.prog 25 #[(.slice A_p0 p0.length c_p0), (.int .i64 p1)] w (fun v w' => ∃ (A1_ : Option Addr), ∃ (c1_ : Nat), v = (.tuple #[(.agg #[(.int .i64 r.1.Width), (.int .i64 r.1.Height), (.slice A1_ r.1.Cells.length c1_)]), (.int .i64 r.2)]) ∧ St NoS w w' [] [rowO 3 encInt A1_ c1_ r.1.Cells]) := by
  have hS : St NoS w w [rowR enc_Tile A_p0 c_p0 p0] [] := St.init (ro_cons hR0 (ro_nil _ _))
  refine enter 61 Try.func25 rfl Try.ntmps25 rfl ?_
  unfold torus_Least at hf
  refine WC.seq ?_
  refine WC.region ?_
  refine WL.new hS 4 [] (fun g => (.pointer (some ⟨g, 0, none⟩))) (.cells #[(.int .i64 0), (.int .i64 0), (.slice none 0 0)] 38 (0, 0)) [] (fun fb g => by kernel_rfl) trivial (fun g5985 w5986 hS5987 => ?_)
  refine ⟨trivial, ?_⟩
  refine seg 2 [] [0, 1, 4] [(0, (.slice A_p0 p0.length c_p0)), (1, (.int .i64 p1)), (4, (.pointer (some ⟨g5985, 0, none⟩)))] [] (fun fb => by kernel_rfl) rfl trivial ?_
  refine WL.done rfl ?_
  refine WX.next ?_
  refine WC.seq ?_
  refine WC.seq ?_
  refine WC.region ?_
  refine seg 1 [] [0, 1, 4, 10] [(0, (.slice A_p0 p0.length c_p0)), (1, (.int .i64 p1)), (4, (.pointer (some ⟨g5985, 0, none⟩))), (10, (.slice A_p0 p0.length c_p0))] [] (fun fb => by kernel_rfl) rfl trivial ?_
  obtain ⟨t5989, ht5990, hf⟩ := bind_some hf
  refine WL.call (some 11) 38 #[(.slice A_p0 p0.length c_p0)] (fun fb => by kernel_rfl) (tile_Valid_calls _ p0 A_p0 c_p0 t5989 _ (hS5987.rd 0) ht5990) (fun v w5991 hR5992 => ?_)
  obtain ⟨rfl, hk_⟩ := hR5992
  have hS5993 := hS5987.keepN hk_
  refine ⟨trivial, ?_⟩
  refine seg 3 [] [0, 1, 4, 12] [(0, (.slice A_p0 p0.length c_p0)), (1, (.int .i64 p1)), (4, (.pointer (some ⟨g5985, 0, none⟩))), (12, (.bool (!t5989)))] [] (fun fb => by kernel_rfl) rfl trivial ?_
  refine WL.done rfl ?_
  refine WX.next ?_
  rcases br_some hf with ⟨h5994, hf⟩ | ⟨h5994, hf⟩
  · refine WC.condT2 (fun fb => by kernel_rfl) h5994 ?_
    refine WC.seq ?_
    refine WC.region ?_
    refine seg 1 [] [4, 13] [(4, (.pointer (some ⟨g5985, 0, none⟩))), (13, (.agg #[(.int .i64 0), (.int .i64 0), (.slice none 0 0)]))] [] (fun fb => by kernel_rfl) rfl trivial ?_
    refine WL.store hS5993 0 rfl [(0, (.int .i64 0)), (1, (.int .i64 0)), (2, (.slice none 0 0))] #[(.int .i64 0), (.int .i64 0), (.slice none 0 0)] (fun fb => by kernel_rfl) (by kernel_rfl) rfl [] (by decide) (by decide) (fun w5995 hS5996 => ?_)
    refine ⟨trivial, ?_⟩
    refine seg 3 [] [4, 5] [(4, (.pointer (some ⟨g5985, 0, none⟩))), (5, (.int .i64 1))] [] (fun fb => by kernel_rfl) rfl trivial ?_
    refine WL.done rfl ?_
    refine WX.next ?_
    refine WC.ret ?_
    have hS5997 := hS5996.nilrow 3 encInt
    injection hf with hf
    subst hf
    exact WX.thenR (WX.ret_ [.v (.int .i64 0), .v (.int .i64 0), .v (.slice none 0 0)] (.tuple #[(.agg #[(.int .i64 0), (.int .i64 0), (.slice none ([] : List Int).length 0)]), (.int .i64 1)]) [.cell ⟨g5985, 0, none⟩ (.int .i64 0), .cell ⟨g5985, 1, none⟩ (.int .i64 0), .cell ⟨g5985, 2, none⟩ (.slice none 0 0)] (fun fb => by kernel_rfl) ⟨hS5996.cell 0 rfl 0 rfl, hS5996.cell 0 rfl 1 rfl, hS5996.cell 0 rfl 2 rfl, trivial⟩ ⟨_, rfl, none, 0, rfl, (hS5997.sub [0] (by decide)).noR⟩)
  refine WC.condF2 (fun fb => by kernel_rfl) h5994 ?_
  refine WC.skip ?_
  refine WX.next ?_
  refine WC.seq ?_
  refine WC.seq ?_
  refine WC.region ?_
  refine seg 3 [] [0, 1, 4, 16] [(0, (.slice A_p0 p0.length c_p0)), (1, (.int .i64 p1)), (4, (.pointer (some ⟨g5985, 0, none⟩))), (16, (.bool (decide (p1 < 1))))] [] (fun fb => by kernel_rfl) rfl trivial ?_
  refine WL.cutV (T := Bool) 6 (fun t => [(19, (.bool t)), (0, (.slice A_p0 p0.length c_p0)), (1, (.int .i64 p1)), (4, (.pointer (some ⟨g5985, 0, none⟩)))]) (fun t => ((decide (p1 < 1)) || (decide (p1 > 6))) = t) (fun K => ?_) ?_
  ·
    rcases Bool.eq_false_or_eq_true (decide (p1 < 1)) with h5998 | h5998
    ·
      refine WL.setB 16 h5998 rfl ?_
      refine seg 6 [] [0, 1, 4, 19] [(0, (.slice A_p0 p0.length c_p0)), (1, (.int .i64 p1)), (4, (.pointer (some ⟨g5985, 0, none⟩))), (19, (.bool true))] [] (fun fb => by kernel_rfl) rfl trivial ?_
      exact WL.toV K true [19, 0, 1, 4] rfl (by first | (rw [h5998]; done) | (rw [h5998]; rfl))
    refine WL.setB 16 h5998 rfl ?_
    refine seg 6 [] [0, 1, 4, 19] [(0, (.slice A_p0 p0.length c_p0)), (1, (.int .i64 p1)), (4, (.pointer (some ⟨g5985, 0, none⟩))), (19, (.bool (decide (p1 > 6))))] [] (fun fb => by kernel_rfl) rfl trivial ?_
    exact WL.toV K (decide (p1 > 6)) [19, 0, 1, 4] rfl (by first | (rw [h5998]; done) | (rw [h5998]; rfl))
  rintro b5999 rfl
  refine WL.done rfl ?_
  refine WX.next ?_
  rcases br_some hf with ⟨h6000, hf⟩ | ⟨h6000, hf⟩
  · refine WC.condT2 (fun fb => by kernel_rfl) h6000 ?_
    refine WC.seq ?_
    refine WC.region ?_
    refine seg 1 [] [4, 20] [(4, (.pointer (some ⟨g5985, 0, none⟩))), (20, (.agg #[(.int .i64 0), (.int .i64 0), (.slice none 0 0)]))] [] (fun fb => by kernel_rfl) rfl trivial ?_
    refine WL.store hS5993 0 rfl [(0, (.int .i64 0)), (1, (.int .i64 0)), (2, (.slice none 0 0))] #[(.int .i64 0), (.int .i64 0), (.slice none 0 0)] (fun fb => by kernel_rfl) (by kernel_rfl) rfl [] (by decide) (by decide) (fun w6001 hS6002 => ?_)
    refine ⟨trivial, ?_⟩
    refine seg 3 [] [4, 5] [(4, (.pointer (some ⟨g5985, 0, none⟩))), (5, (.int .i64 2))] [] (fun fb => by kernel_rfl) rfl trivial ?_
    refine WL.done rfl ?_
    refine WX.next ?_
    refine WC.ret ?_
    have hS6003 := hS6002.nilrow 3 encInt
    injection hf with hf
    subst hf
    exact WX.thenR (WX.ret_ [.v (.int .i64 0), .v (.int .i64 0), .v (.slice none 0 0)] (.tuple #[(.agg #[(.int .i64 0), (.int .i64 0), (.slice none ([] : List Int).length 0)]), (.int .i64 2)]) [.cell ⟨g5985, 0, none⟩ (.int .i64 0), .cell ⟨g5985, 1, none⟩ (.int .i64 0), .cell ⟨g5985, 2, none⟩ (.slice none 0 0)] (fun fb => by kernel_rfl) ⟨hS6002.cell 0 rfl 0 rfl, hS6002.cell 0 rfl 1 rfl, hS6002.cell 0 rfl 2 rfl, trivial⟩ ⟨_, rfl, none, 0, rfl, (hS6003.sub [0] (by decide)).noR⟩)
  refine WC.condF2 (fun fb => by kernel_rfl) h6000 ?_
  refine WC.skip ?_
  refine WX.next ?_
  refine WC.seq ?_
  refine WC.seq ?_
  refine WC.region ?_
  refine seg 2 [] [0, 1, 4, 21, 22] [(0, (.slice A_p0 p0.length c_p0)), (1, (.int .i64 p1)), (4, (.pointer (some ⟨g5985, 0, none⟩))), (21, (.slice A_p0 p0.length c_p0)), (22, (.int .i64 p1))] [] (fun fb => by kernel_rfl) rfl trivial ?_
  obtain ⟨t6004, ht6005, hf⟩ := bind_some hf
  refine WL.call (some 23) 45 #[(.slice A_p0 p0.length c_p0), (.int .i64 p1)] (fun fb => by kernel_rfl) (rows_Few_calls _ p0 p1 A_p0 c_p0 t6004 _ (hS5993.rd 0) ht6005) (fun v w6006 hR6007 => ?_)
  obtain ⟨rfl, hk_⟩ := hR6007
  have hS6008 := hS5993.keepN hk_
  refine ⟨trivial, ?_⟩
  refine seg 4 [] [0, 1, 4, 24] [(0, (.slice A_p0 p0.length c_p0)), (1, (.int .i64 p1)), (4, (.pointer (some ⟨g5985, 0, none⟩))), (24, (.bool (!t6004)))] [] (fun fb => by kernel_rfl) rfl trivial ?_
  refine WL.done rfl ?_
  refine WX.next ?_
  rcases br_some hf with ⟨h6009, hf⟩ | ⟨h6009, hf⟩
  · refine WC.condT2 (fun fb => by kernel_rfl) h6009 ?_
    refine WC.seq ?_
    refine WC.region ?_
    refine seg 1 [] [4, 25] [(4, (.pointer (some ⟨g5985, 0, none⟩))), (25, (.agg #[(.int .i64 0), (.int .i64 0), (.slice none 0 0)]))] [] (fun fb => by kernel_rfl) rfl trivial ?_
    refine WL.store hS6008 0 rfl [(0, (.int .i64 0)), (1, (.int .i64 0)), (2, (.slice none 0 0))] #[(.int .i64 0), (.int .i64 0), (.slice none 0 0)] (fun fb => by kernel_rfl) (by kernel_rfl) rfl [] (by decide) (by decide) (fun w6010 hS6011 => ?_)
    refine ⟨trivial, ?_⟩
    refine seg 3 [] [4, 5] [(4, (.pointer (some ⟨g5985, 0, none⟩))), (5, (.int .i64 4))] [] (fun fb => by kernel_rfl) rfl trivial ?_
    refine WL.done rfl ?_
    refine WX.next ?_
    refine WC.ret ?_
    have hS6012 := hS6011.nilrow 3 encInt
    injection hf with hf
    subst hf
    exact WX.thenR (WX.ret_ [.v (.int .i64 0), .v (.int .i64 0), .v (.slice none 0 0)] (.tuple #[(.agg #[(.int .i64 0), (.int .i64 0), (.slice none ([] : List Int).length 0)]), (.int .i64 4)]) [.cell ⟨g5985, 0, none⟩ (.int .i64 0), .cell ⟨g5985, 1, none⟩ (.int .i64 0), .cell ⟨g5985, 2, none⟩ (.slice none 0 0)] (fun fb => by kernel_rfl) ⟨hS6011.cell 0 rfl 0 rfl, hS6011.cell 0 rfl 1 rfl, hS6011.cell 0 rfl 2 rfl, trivial⟩ ⟨_, rfl, none, 0, rfl, (hS6012.sub [0] (by decide)).noR⟩)
  refine WC.condF2 (fun fb => by kernel_rfl) h6009 ?_
  refine WC.skip ?_
  refine WX.next ?_
  refine WC.seq ?_
  refine WC.seq ?_
  refine WC.region ?_
  refine seg 1 [] [0, 1, 4, 6] [(0, (.slice A_p0 p0.length c_p0)), (1, (.int .i64 p1)), (4, (.pointer (some ⟨g5985, 0, none⟩))), (6, (.int .i64 1))] [] (fun fb => by kernel_rfl) rfl trivial ?_
  refine WL.done rfl ?_
  refine WX.next ?_
  obtain ⟨x8757, hx8758, hf⟩ := bind_some hf
  refine WC.cutN (T := Unit) (fun t => [(4, (.pointer (some ⟨g5985, 0, none⟩)))]) (fun t w1 => St NoS w w1 [rowR enc_Tile A_p0 c_p0 p0] [blk g5985 (.cells #[(.int .i64 0), (.int .i64 0), (.slice none 0 0)] 38 (0, 0))] ∧ x8757 = .inr t) (fun Kx8757 => ?_) ?_
  ·
    refine WC.block ?_
    refine WC.loop (T := Int) (fun t => [(0, (.slice A_p0 p0.length c_p0)), (1, (.int .i64 p1)), (4, (.pointer (some ⟨g5985, 0, none⟩))), (6, (.int .i64 t))]) (fun n t w1 => St NoS w w1 [rowR enc_Tile A_p0 c_p0 p0] [blk g5985 (.cells #[(.int .i64 0), (.int .i64 0), (.slice none 0 0)] 38 (0, 0))] ∧ torus_Least.l0 n t p0 p1 = some x8757) k 1 [0, 1, 4, 6] rfl ⟨(hS6008.subR [0]).sub [0] (by decide), hx8758⟩ ?_
    rintro k8759 x8756 w8760 ⟨hS8761, hl8762⟩
    cases k8759 with
    | zero => rw [torus_Least.l0] at hl8762; cases hl8762
    | succ k8759 =>
      rw [torus_Least.l0] at hl8762
      refine WC.seq ?_
      refine WC.seq ?_
      refine WC.region ?_
      refine seg 5 [] [0, 1, 4, 6, 30] [(0, (.slice A_p0 p0.length c_p0)), (1, (.int .i64 p1)), (4, (.pointer (some ⟨g5985, 0, none⟩))), (6, (.int .i64 x8756)), (30, (.bool (decide (x8756 ≤ w64 (p1 * p1)))))] [] (fun fb => by kernel_rfl) rfl trivial ?_
      refine WL.done rfl ?_
      refine WX.next ?_
      rcases br_some hl8762 with ⟨h8763, hl8762⟩ | ⟨h8763, hl8762⟩
      · refine WC.condT2 (fun fb => by kernel_rfl) h8763 ?_
        refine WC.skip ?_
        refine WX.next ?_
        refine WC.seq ?_
        refine WC.block ?_
        refine WC.seq ?_
        refine WC.region ?_
        refine seg 1 [] [0, 1, 4, 6, 7] [(0, (.slice A_p0 p0.length c_p0)), (1, (.int .i64 p1)), (4, (.pointer (some ⟨g5985, 0, none⟩))), (6, (.int .i64 x8756)), (7, (.int .i64 1))] [] (fun fb => by kernel_rfl) rfl trivial ?_
        refine WL.done rfl ?_
        refine WX.next ?_
        obtain ⟨x8860, hx8861, hl8762⟩ := bind_some hl8762
        refine WC.cutN (T := Unit) (fun t => [(0, (.slice A_p0 p0.length c_p0)), (1, (.int .i64 p1)), (4, (.pointer (some ⟨g5985, 0, none⟩))), (6, (.int .i64 x8756))]) (fun t w1 => St NoS w w1 [rowR enc_Tile A_p0 c_p0 p0] [blk g5985 (.cells #[(.int .i64 0), (.int .i64 0), (.slice none 0 0)] 38 (0, 0))] ∧ x8860 = .inr t) (fun Kx8860 => ?_) ?_
        ·
          refine WC.block ?_
          refine WC.loop (T := Int) (fun t => [(0, (.slice A_p0 p0.length c_p0)), (1, (.int .i64 p1)), (4, (.pointer (some ⟨g5985, 0, none⟩))), (6, (.int .i64 x8756)), (7, (.int .i64 t))]) (fun n t w1 => St NoS w w1 [rowR enc_Tile A_p0 c_p0 p0] [blk g5985 (.cells #[(.int .i64 0), (.int .i64 0), (.slice none 0 0)] 38 (0, 0))] ∧ torus_Least.l1 n t p0 p1 x8756 = some x8860) k8759 1 [0, 1, 4, 6, 7] rfl ⟨(hS8761.subR [0]).sub [0] (by decide), hx8861⟩ ?_
          rintro k8862 x8859 w8863 ⟨hS8864, hl8865⟩
          cases k8862 with
          | zero => rw [torus_Least.l1] at hl8865; cases hl8865
          | succ k8862 =>
            rw [torus_Least.l1] at hl8865
            refine WC.seq ?_
            refine WC.seq ?_
            refine WC.region ?_
            refine seg 3 [] [0, 1, 4, 6, 7, 35] [(0, (.slice A_p0 p0.length c_p0)), (1, (.int .i64 p1)), (4, (.pointer (some ⟨g5985, 0, none⟩))), (6, (.int .i64 x8756)), (7, (.int .i64 x8859)), (35, (.bool (decide (x8859 ≤ p1))))] [] (fun fb => by kernel_rfl) rfl trivial ?_
            refine WL.done rfl ?_
            refine WX.next ?_
            rcases br_some hl8865 with ⟨h8866, hl8865⟩ | ⟨h8866, hl8865⟩
            · refine WC.condT2 (fun fb => by kernel_rfl) h8866 ?_
              refine WC.skip ?_
              refine WX.next ?_
              refine WC.seq ?_
              obtain ⟨x8887, hx8888, hl8865⟩ := bind_some hl8865
              refine WC.cutN (T := Unit) (fun t => [(0, (.slice A_p0 p0.length c_p0)), (1, (.int .i64 p1)), (4, (.pointer (some ⟨g5985, 0, none⟩))), (6, (.int .i64 x8756)), (7, (.int .i64 x8859))]) (fun t w1 => St NoS w w1 [rowR enc_Tile A_p0 c_p0 p0] [blk g5985 (.cells #[(.int .i64 0), (.int .i64 0), (.slice none 0 0)] 38 (0, 0))] ∧ x8887 = .inr t) (fun Kx8887 => ?_) ?_
              ·
                refine WC.block ?_
                refine WC.seq ?_
                refine WC.seq ?_
                refine WC.region ?_
                refine seg 2 [] [0, 1, 4, 6, 7, 38, 39] [(0, (.slice A_p0 p0.length c_p0)), (1, (.int .i64 p1)), (4, (.pointer (some ⟨g5985, 0, none⟩))), (6, (.int .i64 x8756)), (7, (.int .i64 x8859)), (38, (.int .i64 x8756)), (39, (.int .i64 x8859))] [] (fun fb => by kernel_rfl) rfl trivial ?_
                obtain ⟨h8889, hx8888⟩ := as_some hx8888
                refine seg 5 [] [0, 1, 4, 6, 7, 42] [(0, (.slice A_p0 p0.length c_p0)), (1, (.int .i64 p1)), (4, (.pointer (some ⟨g5985, 0, none⟩))), (6, (.int .i64 x8756)), (7, (.int .i64 x8859)), (42, (.bool ((Int.tmod x8756 x8859) != 0)))] [.ne x8859] (fun fb => by kernel_rfl) rfl ⟨h8889, trivial⟩ ?_
                refine WL.cutV (T := Bool) 11 (fun t => [(48, (.bool t)), (0, (.slice A_p0 p0.length c_p0)), (1, (.int .i64 p1)), (4, (.pointer (some ⟨g5985, 0, none⟩))), (6, (.int .i64 x8756)), (7, (.int .i64 x8859))]) (fun t => (((Int.tmod x8756 x8859) != 0) || (decide (w64 (Int.tdiv x8756 x8859) > p1))) = t) (fun K => ?_) ?_
                ·
                  rcases Bool.eq_false_or_eq_true ((Int.tmod x8756 x8859) != 0) with h8890 | h8890
                  ·
                    refine WL.setB 42 h8890 rfl ?_
                    refine seg 11 [] [0, 1, 4, 6, 7, 48] [(0, (.slice A_p0 p0.length c_p0)), (1, (.int .i64 p1)), (4, (.pointer (some ⟨g5985, 0, none⟩))), (6, (.int .i64 x8756)), (7, (.int .i64 x8859)), (48, (.bool true))] [] (fun fb => by kernel_rfl) rfl trivial ?_
                    exact WL.toV K true [48, 0, 1, 4, 6, 7] rfl (by first | (rw [h8890]; done) | (rw [h8890]; rfl))
                  refine WL.setB 42 h8890 rfl ?_
                  refine seg 11 [] [0, 1, 4, 6, 7, 48] [(0, (.slice A_p0 p0.length c_p0)), (1, (.int .i64 p1)), (4, (.pointer (some ⟨g5985, 0, none⟩))), (6, (.int .i64 x8756)), (7, (.int .i64 x8859)), (48, (.bool (decide (w64 (Int.tdiv x8756 x8859) > p1))))] [.ne x8859] (fun fb => by kernel_rfl) rfl ⟨h8889, trivial⟩ ?_
                  exact WL.toV K (decide (w64 (Int.tdiv x8756 x8859) > p1)) [48, 0, 1, 4, 6, 7] rfl (by first | (rw [h8890]; done) | (rw [h8890]; rfl))
                rintro b8891 rfl
                refine WL.done rfl ?_
                refine WX.next ?_
                rcases br_some hx8888 with ⟨h8892, hx8888⟩ | ⟨h8892, hx8888⟩
                · refine WC.condT2 (fun fb => by kernel_rfl) h8892 ?_
                  refine WC.exit ?_
                  injection hx8888 with hx8888
                  exact WX.thenX (WX.blockHere (WX.to Kx8887 () [0, 1, 4, 6, 7] rfl ⟨(hS8864.subR [0]).sub [0] (by decide), hx8888.symm⟩))
                refine WC.condF2 (fun fb => by kernel_rfl) h8892 ?_
                refine WC.skip ?_
                refine WX.next ?_
                refine WC.seq ?_
                refine WC.region ?_
                refine seg 5 [] [0, 1, 4, 6, 7, 50, 51, 54] [(0, (.slice A_p0 p0.length c_p0)), (1, (.int .i64 p1)), (4, (.pointer (some ⟨g5985, 0, none⟩))), (6, (.int .i64 x8756)), (7, (.int .i64 x8859)), (50, (.slice A_p0 p0.length c_p0)), (51, (.int .i64 x8859)), (54, (.int .i64 (w64 (Int.tdiv x8756 x8859))))] [.ne x8859] (fun fb => by kernel_rfl) rfl ⟨h8889, trivial⟩ ?_
                obtain ⟨t8893, ht8894, hx8888⟩ := bind_some hx8888
                refine WL.call (some 55) 46 #[(.slice A_p0 p0.length c_p0), (.int .i64 x8859), (.int .i64 (w64 (Int.tdiv x8756 x8859)))] (fun fb => by kernel_rfl) (torus_find_calls _ p0 x8859 (w64 (Int.tdiv x8756 x8859)) A_p0 c_p0 t8893 _ (hS8864.rd 0) ht8894) (fun v w8895 hR8896 => ?_)
                obtain ⟨A8898, c8899, rfl, hk_⟩ := hR8896
                have hS8897 : St NoS w w8895 [rowR enc_Tile A_p0 c_p0 p0] [rowO 3 encInt A8898 c8899 t8893.1.Cells, blk g5985 (.cells #[(.int .i64 0), (.int .i64 0), (.slice none 0 0)] 38 (0, 0))] := hS8864.call hk_ [] [0] (fun g hg => hg.elim) (by simp) (by decide)
                refine ⟨trivial, ?_⟩
                refine seg 9 [] [0, 1, 4, 6, 7, 56, 57] [(0, (.slice A_p0 p0.length c_p0)), (1, (.int .i64 p1)), (4, (.pointer (some ⟨g5985, 0, none⟩))), (6, (.int .i64 x8756)), (7, (.int .i64 x8859)), (56, (.agg #[(.int .i64 t8893.1.Width), (.int .i64 t8893.1.Height), (.slice A8898 t8893.1.Cells.length c8899)])), (57, (.bool t8893.2))] [] (fun fb => by kernel_rfl) rfl trivial ?_
                refine WL.new hS8897 8 [] (fun g => (.pointer (some ⟨g, 0, none⟩))) (.cells #[(.int .i64 0), (.int .i64 0), (.slice none 0 0)] 38 (0, 0)) [] (fun fb g => by kernel_rfl) trivial (fun g8900 w8901 hS8902 => ?_)
                refine ⟨trivial, ?_⟩
                refine WL.store hS8902 0 rfl [(0, (.int .i64 t8893.1.Width)), (1, (.int .i64 t8893.1.Height)), (2, (.slice A8898 t8893.1.Cells.length c8899))] #[(.int .i64 t8893.1.Width), (.int .i64 t8893.1.Height), (.slice A8898 t8893.1.Cells.length c8899)] (fun fb => by kernel_rfl) (by kernel_rfl) rfl [1, 2] (by decide) (by decide) (fun w8904 hS8905 => ?_)
                refine ⟨trivial, ?_⟩
                refine seg 12 [] [0, 1, 4, 6, 7, 8, 9] [(0, (.slice A_p0 p0.length c_p0)), (1, (.int .i64 p1)), (4, (.pointer (some ⟨g5985, 0, none⟩))), (6, (.int .i64 x8756)), (7, (.int .i64 x8859)), (8, (.pointer (some ⟨g8900, 0, none⟩))), (9, (.bool t8893.2))] [] (fun fb => by kernel_rfl) rfl trivial ?_
                refine WL.done rfl ?_
                refine WX.next ?_
                refine WC.seq ?_
                refine WC.region ?_
                refine seg 1 [] [0, 1, 4, 6, 7, 8, 58] [(0, (.slice A_p0 p0.length c_p0)), (1, (.int .i64 p1)), (4, (.pointer (some ⟨g5985, 0, none⟩))), (6, (.int .i64 x8756)), (7, (.int .i64 x8859)), (8, (.pointer (some ⟨g8900, 0, none⟩))), (58, (.bool t8893.2))] [] (fun fb => by kernel_rfl) rfl trivial ?_
                refine WL.done rfl ?_
                refine WX.next ?_
                rcases br_some hx8888 with ⟨h8906, hx8888⟩ | ⟨h8906, hx8888⟩
                · refine WC.condT2 (fun fb => by kernel_rfl) h8906 ?_
                  refine WC.seq ?_
                  refine WC.region ?_
                  refine seg 1 [.v (.int .i64 t8893.1.Width), .v (.int .i64 t8893.1.Height), .v (.slice A8898 t8893.1.Cells.length c8899)] [4, 59] [(4, (.pointer (some ⟨g5985, 0, none⟩))), (59, (.agg #[(.int .i64 t8893.1.Width), (.int .i64 t8893.1.Height), (.slice A8898 t8893.1.Cells.length c8899)]))] [.cell ⟨g8900, 0, none⟩ (.int .i64 t8893.1.Width), .cell ⟨g8900, 1, none⟩ (.int .i64 t8893.1.Height), .cell ⟨g8900, 2, none⟩ (.slice A8898 t8893.1.Cells.length c8899)] (fun fb => by kernel_rfl) rfl ⟨hS8905.cell 0 rfl 0 rfl, hS8905.cell 0 rfl 1 rfl, hS8905.cell 0 rfl 2 rfl, trivial⟩ ?_
                  refine WL.store hS8905 2 rfl [(0, (.int .i64 t8893.1.Width)), (1, (.int .i64 t8893.1.Height)), (2, (.slice A8898 t8893.1.Cells.length c8899))] #[(.int .i64 t8893.1.Width), (.int .i64 t8893.1.Height), (.slice A8898 t8893.1.Cells.length c8899)] (fun fb => by kernel_rfl) (by kernel_rfl) rfl [0, 1] (by decide) (by decide) (fun w8907 hS8908 => ?_)
                  refine ⟨trivial, ?_⟩
                  refine seg 3 [] [4, 5] [(4, (.pointer (some ⟨g5985, 0, none⟩))), (5, (.int .i64 0))] [] (fun fb => by kernel_rfl) rfl trivial ?_
                  refine WL.done rfl ?_
                  refine WX.next ?_
                  refine WC.ret ?_
                  injection hx8888 with hx8888
                  subst hx8888
                  injection hl8865 with hl8865
                  subst hl8865
                  injection hl8762 with hl8762
                  subst hl8762
                  injection hf with hf
                  subst hf
                  exact WX.blockR (WX.thenR (WX.thenR (WX.blockR (WX.blockR (WX.thenR (WX.thenR (WX.blockR (WX.thenR (WX.ret_ [.v (.int .i64 t8893.1.Width), .v (.int .i64 t8893.1.Height), .v (.slice A8898 t8893.1.Cells.length c8899)] (.tuple #[(.agg #[(.int .i64 t8893.1.Width), (.int .i64 t8893.1.Height), (.slice A8898 t8893.1.Cells.length c8899)]), (.int .i64 0)]) [.cell ⟨g5985, 0, none⟩ (.int .i64 t8893.1.Width), .cell ⟨g5985, 1, none⟩ (.int .i64 t8893.1.Height), .cell ⟨g5985, 2, none⟩ (.slice A8898 t8893.1.Cells.length c8899)] (fun fb => by kernel_rfl) ⟨hS8908.cell 0 rfl 0 rfl, hS8908.cell 0 rfl 1 rfl, hS8908.cell 0 rfl 2 rfl, trivial⟩ ⟨_, rfl, A8898, c8899, rfl, (hS8908.sub [2] (by decide)).noR⟩)))))))))
                refine WC.condF2 (fun fb => by kernel_rfl) h8906 ?_
                refine WC.skip ?_
                injection hx8888 with hx8888
                exact WX.blockN (WX.to Kx8887 () [0, 1, 4, 6, 7] rfl ⟨(hS8905.subR [0]).sub [2] (by decide), hx8888.symm⟩)
              rintro y8912 w8909 ⟨hS8910, hq8911⟩
              subst hq8911
              have hl8865 := sum_inr hl8865
              refine WX.next ?_
              refine WC.region ?_
              refine seg 3 [] [0, 1, 4, 6, 7] [(0, (.slice A_p0 p0.length c_p0)), (1, (.int .i64 p1)), (4, (.pointer (some ⟨g5985, 0, none⟩))), (6, (.int .i64 x8756)), (7, (.int .i64 (w64 (x8859 + 1))))] [] (fun fb => by kernel_rfl) rfl trivial ?_
              refine WL.done rfl ?_
              exact WX.again k8862 (Nat.lt_succ_self _) (w64 (x8859 + 1)) [0, 1, 4, 6, 7] rfl ⟨(hS8910.subR [0]).sub [0] (by decide), hl8865⟩
            refine WC.condF2 (fun fb => by kernel_rfl) h8866 ?_
            refine WC.exit ?_
            injection hl8865 with hl8865
            exact WX.thenX (WX.thenX (WX.blockHere (WX.to Kx8860 () [0, 1, 4, 6] rfl ⟨(hS8864.subR [0]).sub [0] (by decide), hl8865.symm⟩)))
        rintro y8917 w8914 ⟨hS8915, hq8916⟩
        subst hq8916
        have hl8762 := sum_inr hl8762
        refine WX.blockN (WX.next ?_)
        refine WC.region ?_
        refine seg 3 [] [0, 1, 4, 6] [(0, (.slice A_p0 p0.length c_p0)), (1, (.int .i64 p1)), (4, (.pointer (some ⟨g5985, 0, none⟩))), (6, (.int .i64 (w64 (x8756 + 1))))] [] (fun fb => by kernel_rfl) rfl trivial ?_
        refine WL.done rfl ?_
        exact WX.again k8759 (Nat.lt_succ_self _) (w64 (x8756 + 1)) [0, 1, 4, 6] rfl ⟨(hS8915.subR [0]).sub [0] (by decide), hl8762⟩
      refine WC.condF2 (fun fb => by kernel_rfl) h8763 ?_
      refine WC.exit ?_
      injection hl8762 with hl8762
      exact WX.thenX (WX.thenX (WX.blockHere (WX.to Kx8757 () [4] rfl ⟨(hS8761.subR [0]).sub [0] (by decide), hl8762.symm⟩)))
  rintro y8922 w8919 ⟨hS8920, hq8921⟩
  subst hq8921
  have hf := sum_inr hf
  refine WX.next ?_
  refine WC.seq ?_
  refine WC.region ?_
  refine seg 1 [] [4, 60] [(4, (.pointer (some ⟨g5985, 0, none⟩))), (60, (.agg #[(.int .i64 0), (.int .i64 0), (.slice none 0 0)]))] [] (fun fb => by kernel_rfl) rfl trivial ?_
  refine WL.store hS8920 0 rfl [(0, (.int .i64 0)), (1, (.int .i64 0)), (2, (.slice none 0 0))] #[(.int .i64 0), (.int .i64 0), (.slice none 0 0)] (fun fb => by kernel_rfl) (by kernel_rfl) rfl [] (by decide) (by decide) (fun w8924 hS8925 => ?_)
  refine ⟨trivial, ?_⟩
  refine seg 3 [] [4, 5] [(4, (.pointer (some ⟨g5985, 0, none⟩))), (5, (.int .i64 6))] [] (fun fb => by kernel_rfl) rfl trivial ?_
  refine WL.done rfl ?_
  refine WX.next ?_
  refine WC.ret ?_
  have hS8926 := hS8925.nilrow 3 encInt
  injection hf with hf
  subst hf
  exact WX.ret_ [.v (.int .i64 0), .v (.int .i64 0), .v (.slice none 0 0)] (.tuple #[(.agg #[(.int .i64 0), (.int .i64 0), (.slice none ([] : List Int).length 0)]), (.int .i64 6)]) [.cell ⟨g5985, 0, none⟩ (.int .i64 0), .cell ⟨g5985, 1, none⟩ (.int .i64 0), .cell ⟨g5985, 2, none⟩ (.slice none 0 0)] (fun fb => by kernel_rfl) ⟨hS8925.cell 0 rfl 0 rfl, hS8925.cell 0 rfl 1 rfl, hS8925.cell 0 rfl 2 rfl, trivial⟩ ⟨_, rfl, none, 0, rfl, (hS8926.sub [0] (by decide)).noR⟩
theorem decide_Decide_calls (k : Nat) (p0 : List Tile) (A_p0 : Option Addr) (c_p0 : Nat) (r : Verdict × Int) (w : World) (hR0 : RO NoS w (rowR enc_Tile A_p0 c_p0 p0)) (hf : decide_Decide k p0 = some r) :
    CallsR Try.prog 22 #[(.slice A_p0 p0.length c_p0)] w (fun v w' => ∃ (A1_ : Option Addr), ∃ (c1_ : Nat), v = (.tuple #[(.agg #[(.bool r.1.Fills), (.int .i64 r.1.Torus.Width), (.int .i64 r.1.Torus.Height), (.slice A1_ r.1.Torus.Cells.length c1_), (.int .i64 r.1.Side)]), (.int .i64 r.2)]) ∧ St NoS w w' [] [rowO 3 encInt A1_ c1_ r.1.Torus.Cells]) := by
  have hS : St NoS w w [rowR enc_Tile A_p0 c_p0 p0] [] := St.init (ro_cons hR0 (ro_nil _ _))
  refine enter 34 Try.func22 rfl Try.ntmps22 rfl ?_
  unfold decide_Decide at hf
  refine WC.seq ?_
  refine WC.region ?_
  refine WL.new hS 2 [] (fun g => (.pointer (some ⟨g, 0, none⟩))) (.cells #[(.bool false), (.int .i64 0), (.int .i64 0), (.slice none 0 0), (.int .i64 0)] 40 (0, 0)) [] (fun fb g => by kernel_rfl) trivial (fun g11 w12 hS13 => ?_)
  refine ⟨trivial, ?_⟩
  refine WL.new hS13 3 [] (fun g => (.pointer (some ⟨g, 0, none⟩))) (.cells #[(.int .i64 0)] 25 (0, 0)) [] (fun fb g => by kernel_rfl) trivial (fun g15 w16 hS17 => ?_)
  refine ⟨trivial, ?_⟩
  refine WL.done rfl ?_
  refine WX.next ?_
  refine WC.seq ?_
  refine WC.seq ?_
  refine WC.region ?_
  refine seg 1 [] [0, 2, 3, 9] [(0, (.slice A_p0 p0.length c_p0)), (2, (.pointer (some ⟨g11, 0, none⟩))), (3, (.pointer (some ⟨g15, 0, none⟩))), (9, (.slice A_p0 p0.length c_p0))] [] (fun fb => by kernel_rfl) rfl trivial ?_
  obtain ⟨t214, ht215, hf⟩ := bind_some hf
  refine WL.call (some 10) 43 #[(.slice A_p0 p0.length c_p0)] (fun fb => by kernel_rfl) (decide_asks_calls _ p0 A_p0 c_p0 t214 _ (hS17.rd 0) ht215) (fun v w216 hR217 => ?_)
  obtain ⟨rfl, hk_⟩ := hR217
  have hS218 := hS17.keepN hk_
  refine ⟨trivial, ?_⟩
  refine seg 3 [] [0, 2, 3, 4] [(0, (.slice A_p0 p0.length c_p0)), (2, (.pointer (some ⟨g11, 0, none⟩))), (3, (.pointer (some ⟨g15, 0, none⟩))), (4, (.int .i64 t214))] [] (fun fb => by kernel_rfl) rfl trivial ?_
  refine WL.done rfl ?_
  refine WX.next ?_
  refine WC.seq ?_
  refine WC.region ?_
  refine seg 2 [] [0, 2, 3, 4, 12] [(0, (.slice A_p0 p0.length c_p0)), (2, (.pointer (some ⟨g11, 0, none⟩))), (3, (.pointer (some ⟨g15, 0, none⟩))), (4, (.int .i64 t214)), (12, (.bool (t214 != 0)))] [] (fun fb => by kernel_rfl) rfl trivial ?_
  refine WL.done rfl ?_
  refine WX.next ?_
  rcases br_some hf with ⟨h219, hf⟩ | ⟨h219, hf⟩
  · refine WC.condT2 (fun fb => by kernel_rfl) h219 ?_
    refine WC.seq ?_
    refine WC.region ?_
    refine seg 2 [] [2, 3, 13, 14] [(2, (.pointer (some ⟨g11, 0, none⟩))), (3, (.pointer (some ⟨g15, 0, none⟩))), (13, (.agg #[(.bool false), (.int .i64 0), (.int .i64 0), (.slice none 0 0), (.int .i64 0)])), (14, (.int .i64 t214))] [] (fun fb => by kernel_rfl) rfl trivial ?_
    refine WL.store hS218 1 rfl [(0, (.bool false)), (1, (.int .i64 0)), (2, (.int .i64 0)), (3, (.slice none 0 0)), (4, (.int .i64 0))] #[(.bool false), (.int .i64 0), (.int .i64 0), (.slice none 0 0), (.int .i64 0)] (fun fb => by kernel_rfl) (by kernel_rfl) rfl [0] (by decide) (by decide) (fun w220 hS221 => ?_)
    refine ⟨trivial, ?_⟩
    refine WL.store hS221 1 rfl [(0, (.int .i64 t214))] #[(.int .i64 t214)] (fun fb => by kernel_rfl) (by kernel_rfl) rfl [0] (by decide) (by decide) (fun w222 hS223 => ?_)
    refine ⟨trivial, ?_⟩
    refine WL.done rfl ?_
    refine WX.next ?_
    refine WC.ret ?_
    have hS224 := hS223.nilrow 3 encInt
    injection hf with hf
    subst hf
    exact WX.thenR (WX.ret_ [.v (.bool false), .v (.int .i64 0), .v (.int .i64 0), .v (.slice none 0 0), .v (.int .i64 0), .v (.int .i64 t214)] (.tuple #[(.agg #[(.bool false), (.int .i64 0), (.int .i64 0), (.slice none ([] : List Int).length 0), (.int .i64 0)]), (.int .i64 t214)]) [.cell ⟨g11, 0, none⟩ (.bool false), .cell ⟨g11, 1, none⟩ (.int .i64 0), .cell ⟨g11, 2, none⟩ (.int .i64 0), .cell ⟨g11, 3, none⟩ (.slice none 0 0), .cell ⟨g11, 4, none⟩ (.int .i64 0), .cell ⟨g15, 0, none⟩ (.int .i64 t214)] (fun fb => by kernel_rfl) ⟨hS223.cell 1 rfl 0 rfl, hS223.cell 1 rfl 1 rfl, hS223.cell 1 rfl 2 rfl, hS223.cell 1 rfl 3 rfl, hS223.cell 1 rfl 4 rfl, hS223.cell 0 rfl 0 rfl, trivial⟩ ⟨_, rfl, none, 0, rfl, (hS224.sub [0] (by decide)).noR⟩)
  refine WC.condF2 (fun fb => by kernel_rfl) h219 ?_
  refine WC.skip ?_
  refine WX.next ?_
  refine WC.seq ?_
  refine WC.seq ?_
  refine WC.region ?_
  refine seg 1 [] [0, 2, 3, 15] [(0, (.slice A_p0 p0.length c_p0)), (2, (.pointer (some ⟨g11, 0, none⟩))), (3, (.pointer (some ⟨g15, 0, none⟩))), (15, (.slice A_p0 p0.length c_p0))] [] (fun fb => by kernel_rfl) rfl trivial ?_
  obtain ⟨t229, ht230, hf⟩ := bind_some hf
  refine WL.call (some 16) 44 #[(.slice A_p0 p0.length c_p0)] (fun fb => by kernel_rfl) (decide_sides_calls p0 A_p0 c_p0 t229 _ (hS218.rd 0) ht230) (fun v w231 hR232 => ?_)
  obtain ⟨g234, rfl, hk_⟩ := hR232
  have hS233 : St NoS w w231 [rowR enc_Tile A_p0 c_p0 p0] [blk g234 (.cells #[(.slice A_p0 p0.length c_p0)] 22 (0, 0)), blk g15 (.cells #[(.int .i64 0)] 25 (0, 0)), blk g11 (.cells #[(.bool false), (.int .i64 0), (.int .i64 0), (.slice none 0 0), (.int .i64 0)] 40 (0, 0))] := hS218.call hk_ [] [0, 1] (fun g hg => hg.elim) (by simp) (by decide)
  refine ⟨trivial, ?_⟩
  refine WL.done rfl ?_
  refine WX.next ?_
  refine WC.block ?_
  refine WC.rangeO hS233 (fun _ _ h => h) rfl (gf := 61) (lb := [(.pointer (some ⟨g234, 0, none⟩))]) (fun fb => by kernel_rfl) (fun _ => by kernel_rfl) (fun LO251 LB252 LX253 l254 D255 w256 hK257 hS258 => ?_)
  have hS261 : St NoS w w256 [rowR enc_Tile A_p0 c_p0 p0] [(fun (s_ : Int × Int) (t_ : Unit) => sepO (blk l254 (LO251 (pendN [.ret] s_.2)) :: [blk g11 (.cells #[(.bool false), (.int .i64 0), (.int .i64 0), (.slice none 0 0), (.int .i64 s_.1)] 40 (0, 0)), blk g15 (.cells #[(.int .i64 0)] 25 (0, 0))])) (0, (0 : Int)) (), blk D255 (.deferred (some [])), blk g234 (.cells #[(.slice A_p0 p0.length c_p0)] 22 (0, 0))] := hS258.pack [0, 4, 3] [1, 2] (by decide) (by decide) (by decide)
  have hY264 : ∀ (x0_ : Int) (x1_ : Bool) (s_ : Int × Int) (t_ : Unit) (r_ : (Int × Int) × Bool) (w_ : World), RO (fpL [(fun (s_ : Int × Int) (t_ : Unit) => sepO (blk l254 (LO251 (pendN [.ret] s_.2)) :: [blk g11 (.cells #[(.bool false), (.int .i64 0), (.int .i64 0), (.slice none 0 0), (.int .i64 s_.1)] 40 (0, 0)), blk g15 (.cells #[(.int .i64 0)] 25 (0, 0))])) s_ t_]) w_ (poolO [rowR enc_Tile A_p0 c_p0 p0]) → IoOK w_ [(fun (s_ : Int × Int) (t_ : Unit) => sepO (blk l254 (LO251 (pendN [.ret] s_.2)) :: [blk g11 (.cells #[(.bool false), (.int .i64 0), (.int .i64 0), (.slice none 0 0), (.int .i64 s_.1)] 40 (0, 0)), blk g15 (.cells #[(.int .i64 0)] 25 (0, 0))])) s_ t_] → decide_Decide.b1 k  x0_ x1_ s_ = some r_ → YieldR Try.prog (.func (.yield l254) #[] #[]) #[(.int .i64 x0_), (.bool x1_)] w_ (fun v_ w' => ∃ t1_, v_ = .bool r_.2 ∧ St (fpL [(fun (s_ : Int × Int) (t_ : Unit) => sepO (blk l254 (LO251 (pendN [.ret] s_.2)) :: [blk g11 (.cells #[(.bool false), (.int .i64 0), (.int .i64 0), (.slice none 0 0), (.int .i64 s_.1)] 40 (0, 0)), blk g15 (.cells #[(.int .i64 0)] 25 (0, 0))])) s_ t_]) w_ w' [] [(fun (s_ : Int × Int) (t_ : Unit) => sepO (blk l254 (LO251 (pendN [.ret] s_.2)) :: [blk g11 (.cells #[(.bool false), (.int .i64 0), (.int .i64 0), (.slice none 0 0), (.int .i64 s_.1)] 40 (0, 0)), blk g15 (.cells #[(.int .i64 0)] 25 (0, 0))])) r_.1 t1_]) := by
    rintro x262 x263 ⟨x250, j265⟩ ⟨⟩ r266 w267 hRd268 hI269 hf270
    rw [decide_Decide.b1] at hf270
    obtain ⟨hj272, hf270⟩ := as_some hf270
    subst hj272
    have hRo273 := hRd268.openSep
    have hS271 : St (fpL [blk l254 (LO251 none), blk g11 (.cells #[(.bool false), (.int .i64 0), (.int .i64 0), (.slice none 0 0), (.int .i64 x250)] 40 (0, 0)), blk g15 (.cells #[(.int .i64 0)] 25 (0, 0))]) w267 w267 [rowR enc_Tile A_p0 c_p0 p0] [blk l254 (LO251 none), blk g11 (.cells #[(.bool false), (.int .i64 0), (.int .i64 0), (.slice none 0 0), (.int .i64 x250)] 40 (0, 0)), blk g15 (.cells #[(.int .i64 0)] 25 (0, 0))] := St.initIO (ro_cons (poolO.ro hRo273 0) (ro_nil _ _)) hI269.openSep
    refine YieldR.of_loop hK257 (hS271.blkAt 0 rfl) [(.int .i64 x262), (.bool x263)] [0, 2, 3] [(0, (.slice A_p0 p0.length c_p0)), (2, (.pointer (some ⟨g11, 0, none⟩))), (3, (.pointer (some ⟨g15, 0, none⟩)))] [(18, (.bool x263)), (17, (.int .i64 x262)), (0, (.slice A_p0 p0.length c_p0)), (2, (.pointer (some ⟨g11, 0, none⟩))), (3, (.pointer (some ⟨g15, 0, none⟩)))] rfl rfl rfl rfl rfl ?_
    refine WC.seq ?_
    refine WC.region ?_
    refine seg 1 [] [0, 2, 3, 5, 18] [(0, (.slice A_p0 p0.length c_p0)), (2, (.pointer (some ⟨g11, 0, none⟩))), (3, (.pointer (some ⟨g15, 0, none⟩))), (5, (.int .i64 x262)), (18, (.bool x263))] [] (fun fb => by kernel_rfl) rfl trivial ?_
    refine WL.done rfl ?_
    refine WX.next ?_
    refine WC.region ?_
    refine seg 1 [] [0, 2, 3, 5, 6] [(0, (.slice A_p0 p0.length c_p0)), (2, (.pointer (some ⟨g11, 0, none⟩))), (3, (.pointer (some ⟨g15, 0, none⟩))), (5, (.int .i64 x262)), (6, (.bool x263))] [] (fun fb => by kernel_rfl) rfl trivial ?_
    refine WL.done rfl ?_
    refine WX.begin' hK257 (hS271.blkAt 0 rfl) ?_
    have hS274 := hS271.putO 0 rfl LB252 [1, 2] (by decide) (by decide)
    revert hS274
    generalize World.putObj _ _ _ = w275
    intro hS274
    have hS276 : St (fpL [blk l254 (LO251 none), blk g11 (.cells #[(.bool false), (.int .i64 0), (.int .i64 0), (.slice none 0 0), (.int .i64 x250)] 40 (0, 0)), blk g15 (.cells #[(.int .i64 0)] 25 (0, 0))]) w267 w275 [rowR enc_Tile A_p0 c_p0 p0] [blk l254 LB252, blk g11 (.cells #[(.bool false), (.int .i64 0), (.int .i64 0), (.slice none 0 0), (.int .i64 x250)] 40 (0, 0)), blk g15 (.cells #[(.int .i64 0)] 25 (0, 0))] := hS274
    refine WC.block ?_
    refine WC.seq ?_
    refine WC.region ?_
    refine seg 2 [] [0, 2, 3, 5, 20] [(0, (.slice A_p0 p0.length c_p0)), (2, (.pointer (some ⟨g11, 0, none⟩))), (3, (.pointer (some ⟨g15, 0, none⟩))), (5, (.int .i64 x262)), (20, (.bool (!x263)))] [] (fun fb => by kernel_rfl) rfl trivial ?_
    refine WL.done rfl ?_
    refine WX.next ?_
    rcases br_some hf270 with ⟨h277, hf270⟩ | ⟨h277, hf270⟩
    · refine WC.condT2 (fun fb => by kernel_rfl) h277 ?_
      refine WC.seq ?_
      refine WC.region ?_
      refine seg 2 [] [0, 2, 3, 22] [(0, (.slice A_p0 p0.length c_p0)), (2, (.pointer (some ⟨g11, 0, none⟩))), (3, (.pointer (some ⟨g15, 0, none⟩))), (22, (.agg #[(.bool false), (.int .i64 0), (.int .i64 0), (.slice none 0 0), (.int .i64 x262)]))] [] (fun fb => by kernel_rfl) rfl trivial ?_
      refine WL.store hS276 1 rfl [(0, (.bool false)), (1, (.int .i64 0)), (2, (.int .i64 0)), (3, (.slice none 0 0)), (4, (.int .i64 x262))] #[(.bool false), (.int .i64 0), (.int .i64 0), (.slice none 0 0), (.int .i64 x262)] (fun fb => by kernel_rfl) (by kernel_rfl) rfl [0, 2] (by decide) (by decide) (fun w278 hS279 => ?_)
      refine ⟨trivial, ?_⟩
      refine WL.store hS279 2 rfl [(0, (.int .i64 0))] #[(.int .i64 0)] (fun fb => by kernel_rfl) (by kernel_rfl) rfl [0, 1] (by decide) (by decide) (fun w280 hS281 => ?_)
      refine ⟨trivial, ?_⟩
      refine WL.done rfl ?_
      refine WX.next ?_
      refine WC.ret ?_
      injection hf270 with hf270
      subst hf270
      exact WX.blockR (WX.roundR' hK257 (hS281.blkAt 2 rfl) ⟨(), rfl, ((hS281.putO 2 rfl (LO251 (some .ret)) [0, 1] (by decide) (by decide)).sub [0, 2, 1] (by decide)).noR.closeSep⟩)
    refine WC.condF2 (fun fb => by kernel_rfl) h277 ?_
    refine WC.skip ?_
    injection hf270 with hf270
    subst hf270
    exact WX.blockN (WX.roundN' hK257 (hS276.blkAt 0 rfl) ⟨(), rfl, ((hS276.putO 0 rfl (LO251 none) [1, 2] (by decide) (by decide)).sub [0, 1, 2] (by decide)).noR.closeSep⟩)
  obtain ⟨t5970, ht5971, hf⟩ := bind_some hf
  refine (decide_sides_1_y_calls _ p0 (decide_Decide.b1 k ) (0, (0 : Int)) g234 A_p0 c_p0 (.func (.yield l254) #[] #[]) (fun (s_ : Int × Int) (t_ : Unit) => sepO (blk l254 (LO251 (pendN [.ret] s_.2)) :: [blk g11 (.cells #[(.bool false), (.int .i64 0), (.int .i64 0), (.slice none 0 0), (.int .i64 s_.1)] 40 (0, 0)), blk g15 (.cells #[(.int .i64 0)] 25 (0, 0))])) () (poolO [rowR enc_Tile A_p0 c_p0 p0]) t5970 _ (hS261.rdP [0]) (hS261.owT [0] 2 (by decide)) (hS261.rdT [0] 0) (hS261.io [0] (by decide)) hY264 ht5971).post (fun v w5972 hR5973 => ?_)
  obtain ⟨tt5975, rfl, hk_⟩ := hR5973
  have hS5974 : St NoS w w5972 [rowR enc_Tile A_p0 c_p0 p0] [(fun (s_ : Int × Int) (t_ : Unit) => sepO (blk l254 (LO251 (pendN [.ret] s_.2)) :: [blk g11 (.cells #[(.bool false), (.int .i64 0), (.int .i64 0), (.slice none 0 0), (.int .i64 s_.1)] 40 (0, 0)), blk g15 (.cells #[(.int .i64 0)] 25 (0, 0))])) t5970 tt5975, blk D255 (.deferred (some [])), blk g234 (.cells #[(.slice A_p0 p0.length c_p0)] 22 (0, 0))] := hS261.call hk_ [0] [1, 2] (fun g hg => fpL_sel g hg) (by decide) (by decide)
  have hS5976 : St NoS w w5972 [rowR enc_Tile A_p0 c_p0 p0] [blk l254 (LO251 (pendN [.ret] t5970.2)), blk g11 (.cells #[(.bool false), (.int .i64 0), (.int .i64 0), (.slice none 0 0), (.int .i64 t5970.1)] 40 (0, 0)), blk g15 (.cells #[(.int .i64 0)] 25 (0, 0)), blk D255 (.deferred (some [])), blk g234 (.cells #[(.slice A_p0 p0.length c_p0)] 22 (0, 0))] := hS5974.unpack 0 rfl [1, 2] (by decide) (by decide)
  refine ⟨_, hS5976.blkAt 0 rfl, ?_⟩
  have hS5977 := (hS5976.putO 0 rfl (LX253 (pendN [.ret] t5970.2)) [1, 2, 3, 4] (by decide) (by decide)).tail
  revert hS5977
  generalize World.putObj _ _ _ = w5978
  intro hS5977
  have hS5979 : St NoS w w5978 [rowR enc_Tile A_p0 c_p0 p0] [blk g11 (.cells #[(.bool false), (.int .i64 0), (.int .i64 0), (.slice none 0 0), (.int .i64 t5970.1)] 40 (0, 0)), blk g15 (.cells #[(.int .i64 0)] 25 (0, 0)), blk D255 (.deferred (some [])), blk g234 (.cells #[(.slice A_p0 p0.length c_p0)] 22 (0, 0))] := hS5977
  rcases br_some hf with ⟨h5980, hf⟩ | ⟨h5980, hf⟩
  ·
    have hj_ := eq_of_beq h5980
    rw [hj_]
    refine WC.keep [0, 2, 3, 4294967295] [(0, (.slice A_p0 p0.length c_p0)), (2, (.pointer (some ⟨g11, 0, none⟩))), (3, (.pointer (some ⟨g15, 0, none⟩))), (4294967295, (.func (.yield D255) #[] #[]))] rfl ?_
    refine WC.ret ?_
    have hS5981 := hS5979.nilrow 3 encInt
    injection hf with hf
    subst hf
    exact WX.blockR (WX.thenR (WX.retM hS5981 3 rfl rfl [0, 1, 2, 4] (by decide) (by decide) [.v (.bool false), .v (.int .i64 0), .v (.int .i64 0), .v (.slice none ([] : List Int).length 0), .v (.int .i64 t5970.1), .v (.int .i64 0)] (.tuple #[(.agg #[(.bool false), (.int .i64 0), (.int .i64 0), (.slice none ([] : List Int).length 0), (.int .i64 t5970.1)]), (.int .i64 0)]) [.cell ⟨g11, 0, none⟩ (.bool false), .cell ⟨g11, 1, none⟩ (.int .i64 0), .cell ⟨g11, 2, none⟩ (.int .i64 0), .cell ⟨g11, 3, none⟩ (.slice none ([] : List Int).length 0), .cell ⟨g11, 4, none⟩ (.int .i64 t5970.1), .cell ⟨g15, 0, none⟩ (.int .i64 0)] (fun fb => by kernel_rfl) (fun w5983 hS5982 => ⟨⟨hS5982.cell 1 rfl 0 rfl, hS5982.cell 1 rfl 1 rfl, hS5982.cell 1 rfl 2 rfl, hS5982.cell 1 rfl 3 rfl, hS5982.cell 1 rfl 4 rfl, hS5982.cell 2 rfl 0 rfl, trivial⟩, ⟨none, 0, rfl, (hS5982.sub [0] (by decide)).noR⟩⟩)))
  obtain ⟨h5984, hf⟩ := as_some hf
  rw [h5984]
  refine WX.keep [0, 2, 3, 4294967295] [(0, (.slice A_p0 p0.length c_p0)), (2, (.pointer (some ⟨g11, 0, none⟩))), (3, (.pointer (some ⟨g15, 0, none⟩))), (4294967295, (.func (.yield D255) #[] #[]))] rfl ?_
  refine WX.blockN (WX.next ?_)
  refine WC.seq ?_
  refine WC.region ?_
  refine seg 1 [] [2, 3, 24, 4294967295] [(2, (.pointer (some ⟨g11, 0, none⟩))), (3, (.pointer (some ⟨g15, 0, none⟩))), (24, (.slice A_p0 p0.length c_p0)), (4294967295, (.func (.yield D255) #[] #[]))] [] (fun fb => by kernel_rfl) rfl trivial ?_
  obtain ⟨t8927, ht8928, hf⟩ := bind_some hf
  refine WL.call (some 25) 25 #[(.slice A_p0 p0.length c_p0), (.int .i64 6)] (fun fb => by kernel_rfl) (torus_Least_calls _ p0 6 A_p0 c_p0 t8927 _ (hS5979.rd 0) ht8928) (fun v w8929 hR8930 => ?_)
  obtain ⟨A8932, c8933, rfl, hk_⟩ := hR8930
  have hS8931 : St NoS w w8929 [rowR enc_Tile A_p0 c_p0 p0] [rowO 3 encInt A8932 c8933 t8927.1.Cells, blk g11 (.cells #[(.bool false), (.int .i64 0), (.int .i64 0), (.slice none 0 0), (.int .i64 t5970.1)] 40 (0, 0)), blk g15 (.cells #[(.int .i64 0)] 25 (0, 0)), blk D255 (.deferred (some [])), blk g234 (.cells #[(.slice A_p0 p0.length c_p0)] 22 (0, 0))] := hS5979.call hk_ [] [0, 1, 2, 3] (fun g hg => hg.elim) (by simp) (by decide)
  refine ⟨trivial, ?_⟩
  refine seg 5 [] [2, 3, 26, 27, 4294967295] [(2, (.pointer (some ⟨g11, 0, none⟩))), (3, (.pointer (some ⟨g15, 0, none⟩))), (26, (.agg #[(.int .i64 t8927.1.Width), (.int .i64 t8927.1.Height), (.slice A8932 t8927.1.Cells.length c8933)])), (27, (.int .i64 t8927.2)), (4294967295, (.func (.yield D255) #[] #[]))] [] (fun fb => by kernel_rfl) rfl trivial ?_
  refine WL.new hS8931 7 [] (fun g => (.pointer (some ⟨g, 0, none⟩))) (.cells #[(.int .i64 0), (.int .i64 0), (.slice none 0 0)] 38 (0, 0)) [] (fun fb g => by kernel_rfl) trivial (fun g8934 w8935 hS8936 => ?_)
  refine ⟨trivial, ?_⟩
  refine WL.store hS8936 0 rfl [(0, (.int .i64 t8927.1.Width)), (1, (.int .i64 t8927.1.Height)), (2, (.slice A8932 t8927.1.Cells.length c8933))] #[(.int .i64 t8927.1.Width), (.int .i64 t8927.1.Height), (.slice A8932 t8927.1.Cells.length c8933)] (fun fb => by kernel_rfl) (by kernel_rfl) rfl [1, 2, 3, 4, 5] (by decide) (by decide) (fun w8938 hS8939 => ?_)
  refine ⟨trivial, ?_⟩
  refine seg 8 [] [2, 3, 7, 8, 4294967295] [(2, (.pointer (some ⟨g11, 0, none⟩))), (3, (.pointer (some ⟨g15, 0, none⟩))), (7, (.pointer (some ⟨g8934, 0, none⟩))), (8, (.int .i64 t8927.2)), (4294967295, (.func (.yield D255) #[] #[]))] [] (fun fb => by kernel_rfl) rfl trivial ?_
  refine WL.done rfl ?_
  refine WX.next ?_
  refine WC.seq ?_
  refine WC.seq ?_
  refine WC.region ?_
  refine seg 2 [] [2, 3, 7, 8, 29, 4294967295] [(2, (.pointer (some ⟨g11, 0, none⟩))), (3, (.pointer (some ⟨g15, 0, none⟩))), (7, (.pointer (some ⟨g8934, 0, none⟩))), (8, (.int .i64 t8927.2)), (29, (.bool (t8927.2 != 0))), (4294967295, (.func (.yield D255) #[] #[]))] [] (fun fb => by kernel_rfl) rfl trivial ?_
  refine WL.done rfl ?_
  refine WX.next ?_
  rcases br_some hf with ⟨h8940, hf⟩ | ⟨h8940, hf⟩
  · refine WC.condT2 (fun fb => by kernel_rfl) h8940 ?_
    refine WC.seq ?_
    refine WC.region ?_
    refine seg 2 [] [2, 3, 30, 31, 4294967295] [(2, (.pointer (some ⟨g11, 0, none⟩))), (3, (.pointer (some ⟨g15, 0, none⟩))), (30, (.agg #[(.bool false), (.int .i64 0), (.int .i64 0), (.slice none 0 0), (.int .i64 0)])), (31, (.int .i64 t8927.2)), (4294967295, (.func (.yield D255) #[] #[]))] [] (fun fb => by kernel_rfl) rfl trivial ?_
    refine WL.store hS8939 2 rfl [(0, (.bool false)), (1, (.int .i64 0)), (2, (.int .i64 0)), (3, (.slice none 0 0)), (4, (.int .i64 0))] #[(.bool false), (.int .i64 0), (.int .i64 0), (.slice none 0 0), (.int .i64 0)] (fun fb => by kernel_rfl) (by kernel_rfl) rfl [0, 1, 3, 4, 5] (by decide) (by decide) (fun w8941 hS8942 => ?_)
    refine ⟨trivial, ?_⟩
    refine WL.store hS8942 3 rfl [(0, (.int .i64 t8927.2))] #[(.int .i64 t8927.2)] (fun fb => by kernel_rfl) (by kernel_rfl) rfl [0, 1, 2, 4, 5] (by decide) (by decide) (fun w8943 hS8944 => ?_)
    refine ⟨trivial, ?_⟩
    refine WL.done rfl ?_
    refine WX.next ?_
    refine WC.ret ?_
    have hS8945 := hS8944.nilrow 3 encInt
    injection hf with hf
    subst hf
    exact WX.thenR (WX.retM hS8945 5 rfl rfl [0, 1, 2, 3, 4, 6] (by decide) (by decide) [.v (.bool false), .v (.int .i64 0), .v (.int .i64 0), .v (.slice none ([] : List Int).length 0), .v (.int .i64 0), .v (.int .i64 t8927.2)] (.tuple #[(.agg #[(.bool false), (.int .i64 0), (.int .i64 0), (.slice none ([] : List Int).length 0), (.int .i64 0)]), (.int .i64 t8927.2)]) [.cell ⟨g11, 0, none⟩ (.bool false), .cell ⟨g11, 1, none⟩ (.int .i64 0), .cell ⟨g11, 2, none⟩ (.int .i64 0), .cell ⟨g11, 3, none⟩ (.slice none ([] : List Int).length 0), .cell ⟨g11, 4, none⟩ (.int .i64 0), .cell ⟨g15, 0, none⟩ (.int .i64 t8927.2)] (fun fb => by kernel_rfl) (fun w8947 hS8946 => ⟨⟨hS8946.cell 2 rfl 0 rfl, hS8946.cell 2 rfl 1 rfl, hS8946.cell 2 rfl 2 rfl, hS8946.cell 2 rfl 3 rfl, hS8946.cell 2 rfl 4 rfl, hS8946.cell 1 rfl 0 rfl, trivial⟩, ⟨none, 0, rfl, (hS8946.sub [0] (by decide)).noR⟩⟩))
  refine WC.condF2 (fun fb => by kernel_rfl) h8940 ?_
  refine WC.skip ?_
  refine WX.next ?_
  refine WC.seq ?_
  refine WC.region ?_
  refine seg 2 [.v (.int .i64 t8927.1.Width), .v (.int .i64 t8927.1.Height), .v (.slice A8932 t8927.1.Cells.length c8933)] [2, 3, 33, 4294967295] [(2, (.pointer (some ⟨g11, 0, none⟩))), (3, (.pointer (some ⟨g15, 0, none⟩))), (33, (.agg #[(.bool true), (.int .i64 t8927.1.Width), (.int .i64 t8927.1.Height), (.slice A8932 t8927.1.Cells.length c8933), (.int .i64 0)])), (4294967295, (.func (.yield D255) #[] #[]))] [.cell ⟨g8934, 0, none⟩ (.int .i64 t8927.1.Width), .cell ⟨g8934, 1, none⟩ (.int .i64 t8927.1.Height), .cell ⟨g8934, 2, none⟩ (.slice A8932 t8927.1.Cells.length c8933)] (fun fb => by kernel_rfl) rfl ⟨hS8939.cell 0 rfl 0 rfl, hS8939.cell 0 rfl 1 rfl, hS8939.cell 0 rfl 2 rfl, trivial⟩ ?_
  refine WL.store hS8939 2 rfl [(0, (.bool true)), (1, (.int .i64 t8927.1.Width)), (2, (.int .i64 t8927.1.Height)), (3, (.slice A8932 t8927.1.Cells.length c8933)), (4, (.int .i64 0))] #[(.bool true), (.int .i64 t8927.1.Width), (.int .i64 t8927.1.Height), (.slice A8932 t8927.1.Cells.length c8933), (.int .i64 0)] (fun fb => by kernel_rfl) (by kernel_rfl) rfl [0, 1, 3, 4, 5] (by decide) (by decide) (fun w8948 hS8949 => ?_)
  refine ⟨trivial, ?_⟩
  refine WL.store hS8949 3 rfl [(0, (.int .i64 0))] #[(.int .i64 0)] (fun fb => by kernel_rfl) (by kernel_rfl) rfl [0, 1, 2, 4, 5] (by decide) (by decide) (fun w8950 hS8951 => ?_)
  refine ⟨trivial, ?_⟩
  refine WL.done rfl ?_
  refine WX.next ?_
  refine WC.ret ?_
  injection hf with hf
  subst hf
  exact WX.retM hS8951 4 rfl rfl [0, 1, 2, 3, 5] (by decide) (by decide) [.v (.bool true), .v (.int .i64 t8927.1.Width), .v (.int .i64 t8927.1.Height), .v (.slice A8932 t8927.1.Cells.length c8933), .v (.int .i64 0), .v (.int .i64 0)] (.tuple #[(.agg #[(.bool true), (.int .i64 t8927.1.Width), (.int .i64 t8927.1.Height), (.slice A8932 t8927.1.Cells.length c8933), (.int .i64 0)]), (.int .i64 0)]) [.cell ⟨g11, 0, none⟩ (.bool true), .cell ⟨g11, 1, none⟩ (.int .i64 t8927.1.Width), .cell ⟨g11, 2, none⟩ (.int .i64 t8927.1.Height), .cell ⟨g11, 3, none⟩ (.slice A8932 t8927.1.Cells.length c8933), .cell ⟨g11, 4, none⟩ (.int .i64 0), .cell ⟨g15, 0, none⟩ (.int .i64 0)] (fun fb => by kernel_rfl) (fun w8953 hS8952 => ⟨⟨hS8952.cell 1 rfl 0 rfl, hS8952.cell 1 rfl 1 rfl, hS8952.cell 1 rfl 2 rfl, hS8952.cell 1 rfl 3 rfl, hS8952.cell 1 rfl 4 rfl, hS8952.cell 0 rfl 0 rfl, trivial⟩, ⟨A8932, c8933, rfl, (hS8952.sub [3] (by decide)).noR⟩⟩)
theorem law09_chess_calls   (r : (List Tile)) (w : World)  (hf : law09_chess = some r) :
    CallsR Try.prog 36 #[] w (fun v w' => ∃ (A1_ : Option Addr), ∃ (c1_ : Nat), v = (.slice A1_ r.length c1_) ∧ St NoS w w' [] [rowO 24 enc_Tile A1_ c1_ r]) := by
  have hS : St NoS w w [] [] := St.init (ro_nil _ _)
  refine enter 4 Try.func36 rfl Try.ntmps36 rfl ?_
  unfold law09_chess at hf
  refine WC.seq ?_
  refine WC.region ?_
  refine seg 1 [] [] [] [] (fun fb => by kernel_rfl) rfl trivial ?_
  refine WL.done rfl ?_
  refine WX.next ?_
  refine WC.seq ?_
  refine WC.region ?_
  refine seg 2 [] [1, 2] [(1, (.agg #[(.int .i64 0), (.int .i64 1), (.int .i64 1), (.int .i64 0)])), (2, (.agg #[(.int .i64 1), (.int .i64 0), (.int .i64 0), (.int .i64 1)]))] [] (fun fb => by kernel_rfl) rfl trivial ?_
  refine WL.new hS 3 [] (fun g => (.slice (some ⟨g, 0, none⟩) 2 2)) (.cells #[(.int .i64 0), (.int .i64 1), (.int .i64 1), (.int .i64 0), (.int .i64 1), (.int .i64 0), (.int .i64 0), (.int .i64 1)] 24 (0, 0)) [] (fun fb g => by kernel_rfl) trivial (fun g8967 w8968 hS8969 => ?_)
  refine ⟨trivial, ?_⟩
  have hS8971 : St NoS w w8968 [] [rowO 24 enc_Tile (some ⟨g8967, 0, none⟩) 2 [(Tile.mk 0 1 1 0), (Tile.mk 1 0 0 1)]] := hS8969.map1 0 _ (fun h => rowO.ofBlk h rfl (Nat.le_of_ble_eq_true (by kernel_rfl))) (fun _ h => by obtain ⟨_, h1, h2⟩ := h; injection h1 with h1; subst h1; exact h2) [] (by decide) (by decide)
  refine seg 4 [] [0] [(0, (.slice (some ⟨g8967, 0, none⟩) [(Tile.mk 0 1 1 0), (Tile.mk 1 0 0 1)].length 2))] [] (fun fb => by kernel_rfl) rfl trivial ?_
  refine WL.done rfl ?_
  refine WX.next ?_
  refine WC.ret ?_
  injection hf with hf
  subst hf
  exact WX.ret_ [] (.slice (some ⟨g8967, 0, none⟩) [(Tile.mk 0 1 1 0), (Tile.mk 1 0 0 1)].length 2) [] (fun fb => by kernel_rfl) trivial ⟨_, rfl, (some ⟨g8967, 0, none⟩), 2, rfl, (hS8971.sub [0] (by decide)).noR⟩
theorem ref01_Same_calls (k : Nat) (p0 : List Int) (p1 : List Int) (A_p0 : Option Addr) (c_p0 : Nat) (A_p1 : Option Addr) (c_p1 : Nat) (r : Bool) (w : World) (hR0 : RO NoS w (rowR encInt A_p0 c_p0 p0)) (hR1 : RO NoS w (rowR encInt A_p1 c_p1 p1)) (hf : ref01_Same k p0 p1 = some r) :
    CallsR Try.prog 47 #[(.slice A_p0 p0.length c_p0), (.slice A_p1 p1.length c_p1)] w (fun v w' => v = (.bool r) ∧ Keeps NoS w w') := by
  have hS : St NoS w w [rowR encInt A_p0 c_p0 p0, rowR encInt A_p1 c_p1 p1] [] := St.init (ro_cons hR0 (ro_cons hR1 (ro_nil _ _)))
  refine enter 26 Try.func47 rfl Try.ntmps47 rfl ?_
  unfold ref01_Same at hf
  refine WC.seq ?_
  refine WC.region ?_
  refine seg 1 [] [0, 1] [(0, (.slice A_p0 p0.length c_p0)), (1, (.slice A_p1 p1.length c_p1))] [] (fun fb => by kernel_rfl) rfl trivial ?_
  refine WL.done rfl ?_
  refine WX.next ?_
  refine WC.seq ?_
  refine WC.seq ?_
  refine WC.region ?_
  refine seg 5 [] [0, 1, 10] [(0, (.slice A_p0 p0.length c_p0)), (1, (.slice A_p1 p1.length c_p1)), (10, (.bool ((p0.length : Int) != (p1.length : Int))))] [] (fun fb => by kernel_rfl) rfl trivial ?_
  refine WL.done rfl ?_
  refine WX.next ?_
  rcases br_some hf with ⟨h9030, hf⟩ | ⟨h9030, hf⟩
  · refine WC.condT2 (fun fb => by kernel_rfl) h9030 ?_
    refine WC.seq ?_
    refine WC.region ?_
    refine seg 1 [] [4] [(4, (.bool false))] [] (fun fb => by kernel_rfl) rfl trivial ?_
    refine WL.done rfl ?_
    refine WX.next ?_
    refine WC.ret ?_
    injection hf with hf
    subst hf
    exact WX.thenR (WX.ret_ [] (.bool false) [] (fun fb => by kernel_rfl) trivial ⟨_, rfl, rfl, hS.keep⟩)
  refine WC.condF2 (fun fb => by kernel_rfl) h9030 ?_
  refine WC.skip ?_
  refine WX.next ?_
  refine WC.seq ?_
  refine WC.seq ?_
  refine WC.region ?_
  refine seg 1 [] [0, 1, 5] [(0, (.slice A_p0 p0.length c_p0)), (1, (.slice A_p1 p1.length c_p1)), (5, (.int .i64 0))] [] (fun fb => by kernel_rfl) rfl trivial ?_
  refine WL.done rfl ?_
  refine WX.next ?_
  obtain ⟨x9053, hx9054, hf⟩ := bind_some hf
  refine WC.cutN (T := Unit) (fun t => []) (fun t w1 => St NoS w w1 [rowR encInt A_p0 c_p0 p0, rowR encInt A_p1 c_p1 p1] [] ∧ x9053 = .inr t) (fun Kx9053 => ?_) ?_
  ·
    refine WC.block ?_
    refine WC.loop (T := Int) (fun t => [(0, (.slice A_p0 p0.length c_p0)), (1, (.slice A_p1 p1.length c_p1)), (5, (.int .i64 t))]) (fun n t w1 => St NoS w w1 [rowR encInt A_p0 c_p0 p0, rowR encInt A_p1 c_p1 p1] [] ∧ ref01_Same.l0 n t p0 p1 = some x9053) k 0 [0, 1, 5] rfl ⟨(hS.subR [0, 1]).sub [] (by decide), hx9054⟩ ?_
    rintro k9055 x9052 w9056 ⟨hS9057, hl9058⟩
    cases k9055 with
    | zero => rw [ref01_Same.l0] at hl9058; cases hl9058
    | succ k9055 =>
      rw [ref01_Same.l0] at hl9058
      refine WC.seq ?_
      refine WC.seq ?_
      refine WC.region ?_
      refine seg 4 [] [0, 1, 5, 14] [(0, (.slice A_p0 p0.length c_p0)), (1, (.slice A_p1 p1.length c_p1)), (5, (.int .i64 x9052)), (14, (.bool (decide (x9052 < (p0.length : Int)))))] [] (fun fb => by kernel_rfl) rfl trivial ?_
      refine WL.done rfl ?_
      refine WX.next ?_
      rcases br_some hl9058 with ⟨h9059, hl9058⟩ | ⟨h9059, hl9058⟩
      · refine WC.condT2 (fun fb => by kernel_rfl) h9059 ?_
        refine WC.skip ?_
        refine WX.next ?_
        refine WC.seq ?_
        refine WC.block ?_
        refine WC.seq ?_
        obtain ⟨h9066, hl9058⟩ := as_some hl9058
        obtain ⟨h9067, hl9058⟩ := as_some hl9058
        refine WC.regionD ([(3, ((adr A_p0).add ((x9052).toNat * 1)), (.int .i64 (rdD p0 x9052 0))), (7, ((adr A_p1).add ((x9052).toNat * 1)), (.int .i64 (rdD p1 x9052 0)))], [0, 1, 2, 3, 4, 5, 6, 7, 8], [[], [], [0, 1], [0, 1, 2], [], [], [4, 5], [4, 5, 6], [0, 1, 2, 3, 4, 5, 6, 7]]) [[0, 1, 2, 3, 4, 5, 6, 7, 8]] (by kernel_rfl) (by kernel_rfl) (NoPanic.seq (NoPanic.block (NoPanic.seq (NoPanic.seq (NoPanic.block (NoPanic.seq (NoPanic.body))))))) ?_
        have hS9063 := hS9057.drew
        revert hS9063
        generalize World.drew w9056 = w9062
        intro hS9063
        refine ⟨⟨rowR.cell (hS9063.rd 0).1 0 h9066.1 h9066.2 0 rfl, rowR.cell (hS9063.rd 1).1 0 h9067.1 h9067.2 0 rfl, trivial⟩, forallC ?_ (forallN)⟩
        refine segF 9 [.v (.int .i64 (rdD p0 x9052 0)), .v (.int .i64 (rdD p1 x9052 0))] [0, 1, 5, 25] [(0, (.slice A_p0 p0.length c_p0)), (1, (.slice A_p1 p1.length c_p1)), (5, (.int .i64 x9052)), (25, (.bool ((rdD p0 x9052 0) != (rdD p1 x9052 0))))] [.idx A_p0 x9052 p0.length, .idx A_p1 x9052 p1.length] [0, 1] [(3, ((adr A_p0).add ((x9052).toNat * 1)), (.int .i64 (rdD p0 x9052 0))), (7, ((adr A_p1).add ((x9052).toNat * 1)), (.int .i64 (rdD p1 x9052 0)))] (fun fb => by kernel_rfl) rfl ⟨rowR.adr (hS9063.rd 0).1 h9066.1 h9066.2, rowR.adr (hS9063.rd 1).1 h9067.1 h9067.2, trivial⟩ rfl ?_
        refine WL.done rfl ?_
        refine WX.next ?_
        rcases br_some hl9058 with ⟨h9068, hl9058⟩ | ⟨h9068, hl9058⟩
        · refine WC.condT2 (fun fb => by kernel_rfl) h9068 ?_
          refine WC.seq ?_
          refine WC.region ?_
          refine seg 1 [] [4] [(4, (.bool false))] [] (fun fb => by kernel_rfl) rfl trivial ?_
          refine WL.done rfl ?_
          refine WX.next ?_
          refine WC.ret ?_
          injection hl9058 with hl9058
          subst hl9058
          injection hf with hf
          subst hf
          exact WX.blockR (WX.thenR (WX.thenR (WX.blockR (WX.thenR (WX.ret_ [] (.bool false) [] (fun fb => by kernel_rfl) trivial ⟨_, rfl, rfl, hS9063.keep⟩)))))
        refine WC.condF2 (fun fb => by kernel_rfl) h9068 ?_
        refine WC.skip ?_
        refine WX.blockN (WX.next ?_)
        refine WC.region ?_
        refine seg 3 [] [0, 1, 5] [(0, (.slice A_p0 p0.length c_p0)), (1, (.slice A_p1 p1.length c_p1)), (5, (.int .i64 (w64 (x9052 + 1))))] [] (fun fb => by kernel_rfl) rfl trivial ?_
        refine WL.done rfl ?_
        exact WX.again k9055 (Nat.lt_succ_self _) (w64 (x9052 + 1)) [0, 1, 5] rfl ⟨(hS9063.subR [0, 1]).sub [] (by decide), hl9058⟩
      refine WC.condF2 (fun fb => by kernel_rfl) h9059 ?_
      refine WC.exit ?_
      injection hl9058 with hl9058
      exact WX.thenX (WX.thenX (WX.blockHere (WX.to Kx9053 () [] rfl ⟨(hS9057.subR [0, 1]).sub [] (by decide), hl9058.symm⟩)))
  rintro y9072 w9069 ⟨hS9070, hq9071⟩
  subst hq9071
  have hf := sum_inr hf
  refine WX.next ?_
  refine WC.seq ?_
  refine WC.region ?_
  refine seg 1 [] [4] [(4, (.bool true))] [] (fun fb => by kernel_rfl) rfl trivial ?_
  refine WL.done rfl ?_
  refine WX.next ?_
  refine WC.ret ?_
  injection hf with hf
  subst hf
  exact WX.ret_ [] (.bool true) [] (fun fb => by kernel_rfl) trivial ⟨_, rfl, rfl, hS9070.keep⟩
theorem ref01_SamePattern_calls (k : Nat) (p0 : Pattern) (p1 : Pattern) (A_p0_Cells : Option Addr) (c_p0_Cells : Nat) (A_p1_Cells : Option Addr) (c_p1_Cells : Nat) (r : Bool) (w : World) (hR0 : RO NoS w (rowR encInt A_p0_Cells c_p0_Cells p0.Cells)) (hR1 : RO NoS w (rowR encInt A_p1_Cells c_p1_Cells p1.Cells)) (hf : ref01_SamePattern k p0 p1 = some r) :
    CallsR Try.prog 26 #[(.agg #[(.int .i64 p0.Width), (.int .i64 p0.Height), (.slice A_p0_Cells p0.Cells.length c_p0_Cells)]), (.agg #[(.int .i64 p1.Width), (.int .i64 p1.Height), (.slice A_p1_Cells p1.Cells.length c_p1_Cells)])] w (fun v w' => v = (.bool r) ∧ Keeps NoS w w') := by
  have hS : St NoS w w [rowR encInt A_p0_Cells c_p0_Cells p0.Cells, rowR encInt A_p1_Cells c_p1_Cells p1.Cells] [] := St.init (ro_cons hR0 (ro_cons hR1 (ro_nil _ _)))
  refine enter 24 Try.func26 rfl Try.ntmps26 rfl ?_
  unfold ref01_SamePattern at hf
  refine WC.seq ?_
  refine WC.region ?_
  refine WL.new hS 2 [] (fun g => (.pointer (some ⟨g, 0, none⟩))) (.cells #[(.int .i64 p0.Width), (.int .i64 p0.Height), (.slice A_p0_Cells p0.Cells.length c_p0_Cells)] 38 (0, 0)) [] (fun fb g => by kernel_rfl) trivial (fun g9020 w9021 hS9022 => ?_)
  refine ⟨trivial, ?_⟩
  refine WL.new hS9022 3 [] (fun g => (.pointer (some ⟨g, 0, none⟩))) (.cells #[(.int .i64 p1.Width), (.int .i64 p1.Height), (.slice A_p1_Cells p1.Cells.length c_p1_Cells)] 38 (0, 0)) [] (fun fb g => by kernel_rfl) trivial (fun g9024 w9025 hS9026 => ?_)
  refine ⟨trivial, ?_⟩
  refine seg 3 [] [2, 3] [(2, (.pointer (some ⟨g9020, 0, none⟩))), (3, (.pointer (some ⟨g9024, 0, none⟩)))] [] (fun fb => by kernel_rfl) rfl trivial ?_
  refine WL.done rfl ?_
  refine WX.next ?_
  refine WC.seq ?_
  refine WC.region ?_
  refine seg 6 [.v (.int .i64 p0.Width), .v (.int .i64 p1.Width)] [2, 3, 10] [(2, (.pointer (some ⟨g9020, 0, none⟩))), (3, (.pointer (some ⟨g9024, 0, none⟩))), (10, (.bool (p0.Width == p1.Width)))] [.cell ⟨g9020, 0, none⟩ (.int .i64 p0.Width), .cell ⟨g9024, 0, none⟩ (.int .i64 p1.Width)] (fun fb => by kernel_rfl) rfl ⟨hS9026.cell 1 rfl 0 rfl, hS9026.cell 0 rfl 0 rfl, trivial⟩ ?_
  refine WL.cutV (T := Bool) 12 (fun t => [(16, (.bool t)), (2, (.pointer (some ⟨g9020, 0, none⟩))), (3, (.pointer (some ⟨g9024, 0, none⟩)))]) (fun t => ((p0.Width == p1.Width) && (p0.Height == p1.Height)) = t) (fun K => ?_) ?_
  ·
    rcases Bool.eq_false_or_eq_true (p0.Width == p1.Width) with h9028 | h9028
    ·
      refine WL.setB 10 h9028 rfl ?_
      refine seg 12 [.v (.int .i64 p0.Height), .v (.int .i64 p1.Height)] [2, 3, 16] [(2, (.pointer (some ⟨g9020, 0, none⟩))), (3, (.pointer (some ⟨g9024, 0, none⟩))), (16, (.bool (p0.Height == p1.Height)))] [.cell ⟨g9020, 1, none⟩ (.int .i64 p0.Height), .cell ⟨g9024, 1, none⟩ (.int .i64 p1.Height)] (fun fb => by kernel_rfl) rfl ⟨hS9026.cell 1 rfl 1 rfl, hS9026.cell 0 rfl 1 rfl, trivial⟩ ?_
      exact WL.toV K (p0.Height == p1.Height) [16, 2, 3] rfl (by first | (rw [h9028]; done) | (rw [h9028]; rfl))
    refine WL.setB 10 h9028 rfl ?_
    refine seg 12 [] [2, 3, 16] [(2, (.pointer (some ⟨g9020, 0, none⟩))), (3, (.pointer (some ⟨g9024, 0, none⟩))), (16, (.bool false))] [] (fun fb => by kernel_rfl) rfl trivial ?_
    exact WL.toV K false [16, 2, 3] rfl (by first | (rw [h9028]; done) | (rw [h9028]; rfl))
  rintro b9029 rfl
  refine seg 13 [] [2, 3, 17] [(2, (.pointer (some ⟨g9020, 0, none⟩))), (3, (.pointer (some ⟨g9024, 0, none⟩))), (17, (.bool ((p0.Width == p1.Width) && (p0.Height == p1.Height))))] [] (fun fb => by kernel_rfl) rfl trivial ?_
  obtain ⟨x9080, hx9081, hf⟩ := bind_some hf
  refine WL.cutW (T := Bool) 19 (fun t => [(23, (.bool t))]) (fun t w1 => (St NoS w w1 [rowR encInt A_p0_Cells c_p0_Cells p0.Cells, rowR encInt A_p1_Cells c_p1_Cells p1.Cells] [] ∧ x9080 = t) ∧ CellsOK [] w1) (fun K => ?_) ?_
  ·
    rcases br_some hx9081 with ⟨h9082, hx9081⟩ | ⟨h9082, hx9081⟩
    ·
      refine WL.setB 17 h9082 rfl ?_
      refine seg 17 [.v (.slice A_p0_Cells p0.Cells.length c_p0_Cells), .v (.slice A_p1_Cells p1.Cells.length c_p1_Cells)] [17, 19, 21] [(17, (.bool true)), (19, (.slice A_p0_Cells p0.Cells.length c_p0_Cells)), (21, (.slice A_p1_Cells p1.Cells.length c_p1_Cells))] [.cell ⟨g9020, 2, none⟩ (.slice A_p0_Cells p0.Cells.length c_p0_Cells), .cell ⟨g9024, 2, none⟩ (.slice A_p1_Cells p1.Cells.length c_p1_Cells)] (fun fb => by kernel_rfl) rfl ⟨hS9026.cell 1 rfl 2 rfl, hS9026.cell 0 rfl 2 rfl, trivial⟩ ?_
      obtain ⟨t9083, ht9084, hx9081⟩ := bind_some hx9081
      refine WL.call (some 22) 47 #[(.slice A_p0_Cells p0.Cells.length c_p0_Cells), (.slice A_p1_Cells p1.Cells.length c_p1_Cells)] (fun fb => by kernel_rfl) (ref01_Same_calls _ p0.Cells p1.Cells A_p0_Cells c_p0_Cells A_p1_Cells c_p1_Cells t9083 _ (hS9026.rd 0) (hS9026.rd 1) ht9084) (fun v w9085 hR9086 => ?_)
      obtain ⟨rfl, hk_⟩ := hR9086
      have hS9087 := hS9026.keepN hk_
      refine ⟨trivial, ?_⟩
      refine seg 19 [] [23] [(23, (.bool t9083))] [] (fun fb => by kernel_rfl) rfl trivial ?_
      injection hx9081 with hx9081
      exact WL.to K t9083 [23] rfl ⟨⟨(hS9087.subR [0, 1]).sub [] (by decide), hx9081.symm⟩, trivial⟩
    refine WL.setB 17 h9082 rfl ?_
    refine seg 19 [] [23] [(23, (.bool false))] [] (fun fb => by kernel_rfl) rfl trivial ?_
    injection hx9081 with hx9081
    exact WL.to K false [23] rfl ⟨⟨(hS9026.subR [0, 1]).sub [] (by decide), hx9081.symm⟩, trivial⟩
  rintro y9088 w9090 ⟨⟨hS9091, hq9089⟩, hF9092⟩
  subst hq9089
  refine seg 20 [] [4] [(4, (.bool x9080))] [] (fun fb => by kernel_rfl) rfl trivial ?_
  refine WL.done rfl ?_
  refine WX.next ?_
  refine WC.ret ?_
  injection hf with hf
  subst hf
  exact WX.ret_ [] (.bool x9080) [] (fun fb => by kernel_rfl) trivial ⟨_, rfl, rfl, hS9091.keep⟩
end Gp
