/- Walks: each function of the program computes its plain function. -/
import Derived.Test.YtmdkdigmkcpceaaGx2
set_option linter.unusedVariables false
set_option linter.unusedSimpArgs false
set_option maxHeartbeats 4000000
namespace Gp
open Go Gw Go.Proofs
theorem torus_rings_calls (k : Nat) (p0 : List Tile) (p1 : Int) (A_p0 : Option Addr) (c_p0 : Nat) (r : (List Row)) (w : World) (hR0 : RO NoS w (rowR enc_Tile A_p0 c_p0 p0)) (hf : torus_rings k p0 p1 = some r) :
  CallsR Try.prog 62 #[(.slice A_p0 p0.length c_p0), (iv p1)] w (fun v w' => ∃ (A1_ : Option Addr), ∃ (c1_ : Nat), ∃ (h1_ : Nat → HF), v = (.slice A1_ r.length c1_) ∧ St NoS w w' [] [rowO 88 encN_Row A1_ c1_ (tag h1_ r), poolO [nestO subN_Row h1_ r]]) := by
 have hS : St NoS w w [rowR enc_Tile A_p0 c_p0 p0] [] := St.init (ro_cons hR0 (ro_nil _ _))
 refine enter 27 Try.func62 rfl Try.ntmps62 rfl ?_
 unfold torus_rings at hf
 refine WC.seq ?_
 refine WC.region ?_
 refine seg 1 [] [0, 1] [(0, (.slice A_p0 p0.length c_p0)), (1, (iv p1))] [] (fun fb => by kernel_rfl) rfl trivial ?_
 refine WL.done rfl ?_
 refine WX.next ?_
 refine WC.seq ?_
 refine WC.region ?_
 refine seg 1 [] [0, 1, 5] [(0, (.slice A_p0 p0.length c_p0)), (1, (iv p1)), (5, (.slice none 0 0))] [] (fun fb => by kernel_rfl) rfl trivial ?_
 refine WL.done rfl ?_
 refine WX.next ?_
 refine WC.seq ?_
 refine WC.seq ?_
 refine WC.region ?_
 refine seg 2 [] [5, 8, 9] [(5, (.slice none 0 0)), (8, (.slice A_p0 p0.length c_p0)), (9, (iv p1))] [] (fun fb => by kernel_rfl) rfl trivial ?_
 obtain ⟨t7146, ht7147, hf⟩ := bind_some hf
 refine WL.call (some 10) 67 #[(.slice A_p0 p0.length c_p0), (iv p1)] (fun fb => by kernel_rfl) (rows_All_calls _ p0 p1 A_p0 c_p0 t7146 _ (hS.rd 0) ht7147) (fun v w7148 hR7149 => ?_)
 obtain ⟨A7151, c7152, H7153, rfl, hk_⟩ := hR7149
 have hS7150 : St NoS w w7148 [rowR enc_Tile A_p0 c_p0 p0] [rowO 88 encN_Row A7151 c7152 (tag H7153 t7146), poolO [nestO subN_Row H7153 t7146]] := hS.call hk_ [] [] (fun g hg => hg.elim) (by simp) (by decide)
 refine ⟨trivial, ?_⟩
 refine seg 5 [] [5, 10, 11, 12] [(5, (.slice none 0 0)), (10, (.slice A7151 t7146.length c7152)), (11, (iv (t7146.length : Int))), (12, (iv 0))] [] (fun fb => by kernel_rfl) rfl trivial ?_
 refine WL.done rfl ?_
 refine WX.next ?_
 have hS7255 : St NoS w w7148 [rowR enc_Tile A_p0 c_p0 p0] [rowO 88 encN_Row none 0 (tag h0 ([] : List Row)), rowO 88 encN_Row A7151 c7152 (tag H7153 t7146), poolO [nestO subN_Row H7153 t7146]] := hS7150.nilrow 88 encN_Row
 have hS7256 := hS7255.poolNil subN_Row h0
 have hS7257 : St NoS w w7148 [rowR enc_Tile A_p0 c_p0 p0] [poolO [nestO subN_Row h0 ([] : List Row), nestO subN_Row H7153 t7146], rowO 88 encN_Row none 0 (tag h0 ([] : List Row)), rowO 88 encN_Row A7151 c7152 (tag H7153 t7146)] := hS7256.poolMerge 0 3 rfl rfl [1, 2] (by decide) (by decide)
 obtain ⟨x7267, hx7268, hf⟩ := bind_some hf
 refine WC.cutN (T := (List Row) × (Option Addr) × Nat × (Nat → HF)) (fun t => [(5, (.slice t.2.1 t.1.length t.2.2.1))]) (fun t w1 => St NoS w w1 [rowR enc_Tile A_p0 c_p0 p0] [rowO 88 encN_Row t.2.1 t.2.2.1 (tag t.2.2.2 t.1), poolO [nestO subN_Row t.2.2.2 t.1]] ∧ x7267 = t.1) (fun Kx7267 => ?_) ?_
 ·
  refine WC.block ?_
  refine WC.loop (T := ((List Row) × Int) × (Option Addr) × Nat × (Nat → HF)) (fun t => [(5, (.slice t.2.1 t.1.1.length t.2.2.1)), (10, (.slice A7151 t7146.length c7152)), (11, (iv (t7146.length : Int))), (12, (iv t.1.2))]) (fun n t w1 => St NoS w w1 [rowR enc_Tile A_p0 c_p0 p0] [rowO 88 encN_Row t.2.1 t.2.2.1 (tag t.2.2.2 t.1.1), poolO [nestO subN_Row t.2.2.2 t.1.1, nestO subN_Row H7153 t7146], rowO 88 encN_Row A7151 c7152 (tag H7153 t7146)] ∧ torus_rings.l0 n t.1.1 t.1.2 t7146 = some x7267) k ((([] : List Row), 0), none, 0, h0) [5, 10, 11, 12] rfl ⟨(hS7257.subR [0]).sub [1, 0, 2] (by decide), hx7268⟩ ?_
  rintro k7269 ⟨⟨l7260, x7262⟩, A7258, c7259, H7261⟩ w7270 ⟨hS7271, hl7272⟩
  cases k7269 with
  | zero => rw [torus_rings.l0] at hl7272; cases hl7272
  | succ k7269 =>
   rw [torus_rings.l0] at hl7272
   refine WC.seq ?_
   refine WC.region ?_
   refine seg 1 [] [5, 10, 11, 12, 13] [(5, (.slice A7258 l7260.length c7259)), (10, (.slice A7151 t7146.length c7152)), (11, (iv (t7146.length : Int))), (12, (iv x7262)), (13, (.bool (decide (x7262 < (t7146.length : Int)))))] [] (fun fb => by kernel_rfl) rfl trivial ?_
   refine WL.done rfl ?_
   refine WX.next ?_
   refine WC.seq ?_
   rcases br_some hl7272 with ⟨h7273, hl7272⟩ | ⟨h7273, hl7272⟩
   ·refine WC.condT2 (fun fb => by kernel_rfl) h7273 ?_
    refine WC.skip ?_
    refine WX.next ?_
    refine WC.seq ?_
    refine WC.block ?_
    refine WC.seq ?_
    refine WC.region ?_
    obtain ⟨h7274, hl7272⟩ := as_some hl7272
    refine seg 2 [.v (.slice ((H7153 x7262.toNat 0).1) ((rdD t7146 x7262 z_Row).Cells).length ((H7153 x7262.toNat 0).2)), .v (iv (((rdD t7146 x7262 z_Row).South).e0)), .v (iv (((rdD t7146 x7262 z_Row).South).e1)), .v (iv (((rdD t7146 x7262 z_Row).South).e2)), .v (iv (((rdD t7146 x7262 z_Row).South).e3)), .v (iv (((rdD t7146 x7262 z_Row).South).e4)), .v (iv (((rdD t7146 x7262 z_Row).South).e5)), .v (iv (((rdD t7146 x7262 z_Row).South).e6)), .v (iv (((rdD t7146 x7262 z_Row).South).e7)), .v (iv (((rdD t7146 x7262 z_Row).North).e0)), .v (iv (((rdD t7146 x7262 z_Row).North).e1)), .v (iv (((rdD t7146 x7262 z_Row).North).e2)), .v (iv (((rdD t7146 x7262 z_Row).North).e3)), .v (iv (((rdD t7146 x7262 z_Row).North).e4)), .v (iv (((rdD t7146 x7262 z_Row).North).e5)), .v (iv (((rdD t7146 x7262 z_Row).North).e6)), .v (iv (((rdD t7146 x7262 z_Row).North).e7)), .v (iv ((rdD t7146 x7262 z_Row).West)), .v (iv ((rdD t7146 x7262 z_Row).East))] [5, 10, 11, 12, 15] [(5, (.slice A7258 l7260.length c7259)), (10, (.slice A7151 t7146.length c7152)), (11, (iv (t7146.length : Int))), (12, (iv x7262)), (15, (.agg #[(.slice ((H7153 x7262.toNat 0).1) ((rdD t7146 x7262 z_Row).Cells).length ((H7153 x7262.toNat 0).2)), (iv (((rdD t7146 x7262 z_Row).South).e0)), (iv (((rdD t7146 x7262 z_Row).South).e1)), (iv (((rdD t7146 x7262 z_Row).South).e2)), (iv (((rdD t7146 x7262 z_Row).South).e3)), (iv (((rdD t7146 x7262 z_Row).South).e4)), (iv (((rdD t7146 x7262 z_Row).South).e5)), (iv (((rdD t7146 x7262 z_Row).South).e6)), (iv (((rdD t7146 x7262 z_Row).South).e7)), (iv (((rdD t7146 x7262 z_Row).North).e0)), (iv (((rdD t7146 x7262 z_Row).North).e1)), (iv (((rdD t7146 x7262 z_Row).North).e2)), (iv (((rdD t7146 x7262 z_Row).North).e3)), (iv (((rdD t7146 x7262 z_Row).North).e4)), (iv (((rdD t7146 x7262 z_Row).North).e5)), (iv (((rdD t7146 x7262 z_Row).North).e6)), (iv (((rdD t7146 x7262 z_Row).North).e7)), (iv ((rdD t7146 x7262 z_Row).West)), (iv ((rdD t7146 x7262 z_Row).East))]))] [.idx A7151 x7262 t7146.length, .cell ((adr A7151).add ((x7262).toNat * 19)) (.slice ((H7153 x7262.toNat 0).1) ((rdD t7146 x7262 z_Row).Cells).length ((H7153 x7262.toNat 0).2)), .cell (((adr A7151).add ((x7262).toNat * 19)).add 1) (iv (((rdD t7146 x7262 z_Row).South).e0)), .cell (((adr A7151).add ((x7262).toNat * 19)).add 2) (iv (((rdD t7146 x7262 z_Row).South).e1)), .cell (((adr A7151).add ((x7262).toNat * 19)).add 3) (iv (((rdD t7146 x7262 z_Row).South).e2)), .cell (((adr A7151).add ((x7262).toNat * 19)).add 4) (iv (((rdD t7146 x7262 z_Row).South).e3)), .cell (((adr A7151).add ((x7262).toNat * 19)).add 5) (iv (((rdD t7146 x7262 z_Row).South).e4)), .cell (((adr A7151).add ((x7262).toNat * 19)).add 6) (iv (((rdD t7146 x7262 z_Row).South).e5)), .cell (((adr A7151).add ((x7262).toNat * 19)).add 7) (iv (((rdD t7146 x7262 z_Row).South).e6)), .cell (((adr A7151).add ((x7262).toNat * 19)).add 8) (iv (((rdD t7146 x7262 z_Row).South).e7)), .cell (((adr A7151).add ((x7262).toNat * 19)).add 9) (iv (((rdD t7146 x7262 z_Row).North).e0)), .cell (((adr A7151).add ((x7262).toNat * 19)).add 10) (iv (((rdD t7146 x7262 z_Row).North).e1)), .cell (((adr A7151).add ((x7262).toNat * 19)).add 11) (iv (((rdD t7146 x7262 z_Row).North).e2)), .cell (((adr A7151).add ((x7262).toNat * 19)).add 12) (iv (((rdD t7146 x7262 z_Row).North).e3)), .cell (((adr A7151).add ((x7262).toNat * 19)).add 13) (iv (((rdD t7146 x7262 z_Row).North).e4)), .cell (((adr A7151).add ((x7262).toNat * 19)).add 14) (iv (((rdD t7146 x7262 z_Row).North).e5)), .cell (((adr A7151).add ((x7262).toNat * 19)).add 15) (iv (((rdD t7146 x7262 z_Row).North).e6)), .cell (((adr A7151).add ((x7262).toNat * 19)).add 16) (iv (((rdD t7146 x7262 z_Row).North).e7)), .cell (((adr A7151).add ((x7262).toNat * 19)).add 17) (iv ((rdD t7146 x7262 z_Row).West)), .cell (((adr A7151).add ((x7262).toNat * 19)).add 18) (iv ((rdD t7146 x7262 z_Row).East))] (fun fb => by kernel_rfl) rfl ⟨nrow_adr (rowO.rd (hS7271.own 2).1) h7274.1 h7274.2, nrow_cell (rowO.rd (hS7271.own 2).1) z_Row h7274.1 h7274.2 0 rfl, nrow_cell (rowO.rd (hS7271.own 2).1) z_Row h7274.1 h7274.2 1 rfl, nrow_cell (rowO.rd (hS7271.own 2).1) z_Row h7274.1 h7274.2 2 rfl, nrow_cell (rowO.rd (hS7271.own 2).1) z_Row h7274.1 h7274.2 3 rfl, nrow_cell (rowO.rd (hS7271.own 2).1) z_Row h7274.1 h7274.2 4 rfl, nrow_cell (rowO.rd (hS7271.own 2).1) z_Row h7274.1 h7274.2 5 rfl, nrow_cell (rowO.rd (hS7271.own 2).1) z_Row h7274.1 h7274.2 6 rfl, nrow_cell (rowO.rd (hS7271.own 2).1) z_Row h7274.1 h7274.2 7 rfl, nrow_cell (rowO.rd (hS7271.own 2).1) z_Row h7274.1 h7274.2 8 rfl, nrow_cell (rowO.rd (hS7271.own 2).1) z_Row h7274.1 h7274.2 9 rfl, nrow_cell (rowO.rd (hS7271.own 2).1) z_Row h7274.1 h7274.2 10 rfl, nrow_cell (rowO.rd (hS7271.own 2).1) z_Row h7274.1 h7274.2 11 rfl, nrow_cell (rowO.rd (hS7271.own 2).1) z_Row h7274.1 h7274.2 12 rfl, nrow_cell (rowO.rd (hS7271.own 2).1) z_Row h7274.1 h7274.2 13 rfl, nrow_cell (rowO.rd (hS7271.own 2).1) z_Row h7274.1 h7274.2 14 rfl, nrow_cell (rowO.rd (hS7271.own 2).1) z_Row h7274.1 h7274.2 15 rfl, nrow_cell (rowO.rd (hS7271.own 2).1) z_Row h7274.1 h7274.2 16 rfl, nrow_cell (rowO.rd (hS7271.own 2).1) z_Row h7274.1 h7274.2 17 rfl, nrow_cell (rowO.rd (hS7271.own 2).1) z_Row h7274.1 h7274.2 18 rfl, trivial⟩ ?_
    refine WL.new hS7271 7 [] (fun g => (.pointer (some ⟨g, 0, none⟩))) (.cells #[(.slice none 0 0), (iv 0), (iv 0), (iv 0), (iv 0), (iv 0), (iv 0), (iv 0), (iv 0), (iv 0), (iv 0), (iv 0), (iv 0), (iv 0), (iv 0), (iv 0), (iv 0), (iv 0), (iv 0)] 88 (0, 0)) [] (fun fb g => by kernel_rfl) trivial (fun g7275 w7276 hS7277 => ?_)
    refine ⟨trivial, ?_⟩
    refine WL.store hS7277 0 rfl [(0, (.slice ((H7153 x7262.toNat 0).1) ((rdD t7146 x7262 z_Row).Cells).length ((H7153 x7262.toNat 0).2))), (1, (iv (((rdD t7146 x7262 z_Row).South).e0))), (2, (iv (((rdD t7146 x7262 z_Row).South).e1))), (3, (iv (((rdD t7146 x7262 z_Row).South).e2))), (4, (iv (((rdD t7146 x7262 z_Row).South).e3))), (5, (iv (((rdD t7146 x7262 z_Row).South).e4))), (6, (iv (((rdD t7146 x7262 z_Row).South).e5))), (7, (iv (((rdD t7146 x7262 z_Row).South).e6))), (8, (iv (((rdD t7146 x7262 z_Row).South).e7))), (9, (iv (((rdD t7146 x7262 z_Row).North).e0))), (10, (iv (((rdD t7146 x7262 z_Row).North).e1))), (11, (iv (((rdD t7146 x7262 z_Row).North).e2))), (12, (iv (((rdD t7146 x7262 z_Row).North).e3))), (13, (iv (((rdD t7146 x7262 z_Row).North).e4))), (14, (iv (((rdD t7146 x7262 z_Row).North).e5))), (15, (iv (((rdD t7146 x7262 z_Row).North).e6))), (16, (iv (((rdD t7146 x7262 z_Row).North).e7))), (17, (iv ((rdD t7146 x7262 z_Row).West))), (18, (iv ((rdD t7146 x7262 z_Row).East)))] #[(.slice ((H7153 x7262.toNat 0).1) ((rdD t7146 x7262 z_Row).Cells).length ((H7153 x7262.toNat 0).2)), (iv (((rdD t7146 x7262 z_Row).South).e0)), (iv (((rdD t7146 x7262 z_Row).South).e1)), (iv (((rdD t7146 x7262 z_Row).South).e2)), (iv (((rdD t7146 x7262 z_Row).South).e3)), (iv (((rdD t7146 x7262 z_Row).South).e4)), (iv (((rdD t7146 x7262 z_Row).South).e5)), (iv (((rdD t7146 x7262 z_Row).South).e6)), (iv (((rdD t7146 x7262 z_Row).South).e7)), (iv (((rdD t7146 x7262 z_Row).North).e0)), (iv (((rdD t7146 x7262 z_Row).North).e1)), (iv (((rdD t7146 x7262 z_Row).North).e2)), (iv (((rdD t7146 x7262 z_Row).North).e3)), (iv (((rdD t7146 x7262 z_Row).North).e4)), (iv (((rdD t7146 x7262 z_Row).North).e5)), (iv (((rdD t7146 x7262 z_Row).North).e6)), (iv (((rdD t7146 x7262 z_Row).North).e7)), (iv ((rdD t7146 x7262 z_Row).West)), (iv ((rdD t7146 x7262 z_Row).East))] (fun fb => by kernel_rfl) (by kernel_rfl) (by kernel_rfl) [1, 2, 3] (by decide) (by decide) (fun w7279 hS7280 => ?_)
    refine ⟨trivial, ?_⟩
    refine WL.done rfl ?_
    refine WX.next ?_
    refine WC.seq ?_
    refine WC.region ?_
    refine seg 5 [.v (iv ((rdD t7146 x7262 z_Row).West)), .v (iv ((rdD t7146 x7262 z_Row).East))] [5, 7, 10, 11, 12, 20] [(5, (.slice A7258 l7260.length c7259)), (7, (pt g7275)), (10, (.slice A7151 t7146.length c7152)), (11, (iv (t7146.length : Int))), (12, (iv x7262)), (20, (.bool (((rdD t7146 x7262 z_Row).West) == ((rdD t7146 x7262 z_Row).East))))] [.cell ⟨g7275, 17, none⟩ (iv ((rdD t7146 x7262 z_Row).West)), .cell ⟨g7275, 18, none⟩ (iv ((rdD t7146 x7262 z_Row).East))] (fun fb => by kernel_rfl) rfl ⟨hS7280.cell 0 rfl 17 rfl, hS7280.cell 0 rfl 18 rfl, trivial⟩ ?_
    refine WL.done rfl ?_
    refine WX.next ?_
    obtain ⟨x7297, hx7298, hl7272⟩ := bind_some hl7272
    refine WC.cutN (T := (List Row) × (Option Addr) × Nat × (Nat → HF)) (fun t => [(5, (.slice t.2.1 t.1.length t.2.2.1)), (10, (.slice A7151 t7146.length c7152)), (11, (iv (t7146.length : Int))), (12, (iv x7262))]) (fun t w1 => St NoS w w1 [rowR enc_Tile A_p0 c_p0 p0] [rowO 88 encN_Row t.2.1 t.2.2.1 (tag t.2.2.2 t.1), poolO [nestO subN_Row t.2.2.2 t.1, nestO subN_Row H7153 t7146], rowO 88 encN_Row A7151 c7152 (tag H7153 t7146)] ∧ x7297 = t.1) (fun Kx7297 => ?_) ?_
    ·
     rcases br_some hx7298 with ⟨h7299, hx7298⟩ | ⟨h7299, hx7298⟩
     ·refine WC.condT2 (fun fb => by kernel_rfl) h7299 ?_
      refine WC.region ?_
      refine seg 2 [.v (.slice ((H7153 x7262.toNat 0).1) ((rdD t7146 x7262 z_Row).Cells).length ((H7153 x7262.toNat 0).2)), .v (iv (((rdD t7146 x7262 z_Row).South).e0)), .v (iv (((rdD t7146 x7262 z_Row).South).e1)), .v (iv (((rdD t7146 x7262 z_Row).South).e2)), .v (iv (((rdD t7146 x7262 z_Row).South).e3)), .v (iv (((rdD t7146 x7262 z_Row).South).e4)), .v (iv (((rdD t7146 x7262 z_Row).South).e5)), .v (iv (((rdD t7146 x7262 z_Row).South).e6)), .v (iv (((rdD t7146 x7262 z_Row).South).e7)), .v (iv (((rdD t7146 x7262 z_Row).North).e0)), .v (iv (((rdD t7146 x7262 z_Row).North).e1)), .v (iv (((rdD t7146 x7262 z_Row).North).e2)), .v (iv (((rdD t7146 x7262 z_Row).North).e3)), .v (iv (((rdD t7146 x7262 z_Row).North).e4)), .v (iv (((rdD t7146 x7262 z_Row).North).e5)), .v (iv (((rdD t7146 x7262 z_Row).North).e6)), .v (iv (((rdD t7146 x7262 z_Row).North).e7)), .v (iv ((rdD t7146 x7262 z_Row).West)), .v (iv ((rdD t7146 x7262 z_Row).East))] [10, 11, 12, 21, 22] [(10, (.slice A7151 t7146.length c7152)), (11, (iv (t7146.length : Int))), (12, (iv x7262)), (21, (.slice A7258 l7260.length c7259)), (22, (.agg #[(.slice ((H7153 x7262.toNat 0).1) ((rdD t7146 x7262 z_Row).Cells).length ((H7153 x7262.toNat 0).2)), (iv (((rdD t7146 x7262 z_Row).South).e0)), (iv (((rdD t7146 x7262 z_Row).South).e1)), (iv (((rdD t7146 x7262 z_Row).South).e2)), (iv (((rdD t7146 x7262 z_Row).South).e3)), (iv (((rdD t7146 x7262 z_Row).South).e4)), (iv (((rdD t7146 x7262 z_Row).South).e5)), (iv (((rdD t7146 x7262 z_Row).South).e6)), (iv (((rdD t7146 x7262 z_Row).South).e7)), (iv (((rdD t7146 x7262 z_Row).North).e0)), (iv (((rdD t7146 x7262 z_Row).North).e1)), (iv (((rdD t7146 x7262 z_Row).North).e2)), (iv (((rdD t7146 x7262 z_Row).North).e3)), (iv (((rdD t7146 x7262 z_Row).North).e4)), (iv (((rdD t7146 x7262 z_Row).North).e5)), (iv (((rdD t7146 x7262 z_Row).North).e6)), (iv (((rdD t7146 x7262 z_Row).North).e7)), (iv ((rdD t7146 x7262 z_Row).West)), (iv ((rdD t7146 x7262 z_Row).East))]))] [.cell ⟨g7275, 0, none⟩ (.slice ((H7153 x7262.toNat 0).1) ((rdD t7146 x7262 z_Row).Cells).length ((H7153 x7262.toNat 0).2)), .cell ⟨g7275, 1, none⟩ (iv (((rdD t7146 x7262 z_Row).South).e0)), .cell ⟨g7275, 2, none⟩ (iv (((rdD t7146 x7262 z_Row).South).e1)), .cell ⟨g7275, 3, none⟩ (iv (((rdD t7146 x7262 z_Row).South).e2)), .cell ⟨g7275, 4, none⟩ (iv (((rdD t7146 x7262 z_Row).South).e3)), .cell ⟨g7275, 5, none⟩ (iv (((rdD t7146 x7262 z_Row).South).e4)), .cell ⟨g7275, 6, none⟩ (iv (((rdD t7146 x7262 z_Row).South).e5)), .cell ⟨g7275, 7, none⟩ (iv (((rdD t7146 x7262 z_Row).South).e6)), .cell ⟨g7275, 8, none⟩ (iv (((rdD t7146 x7262 z_Row).South).e7)), .cell ⟨g7275, 9, none⟩ (iv (((rdD t7146 x7262 z_Row).North).e0)), .cell ⟨g7275, 10, none⟩ (iv (((rdD t7146 x7262 z_Row).North).e1)), .cell ⟨g7275, 11, none⟩ (iv (((rdD t7146 x7262 z_Row).North).e2)), .cell ⟨g7275, 12, none⟩ (iv (((rdD t7146 x7262 z_Row).North).e3)), .cell ⟨g7275, 13, none⟩ (iv (((rdD t7146 x7262 z_Row).North).e4)), .cell ⟨g7275, 14, none⟩ (iv (((rdD t7146 x7262 z_Row).North).e5)), .cell ⟨g7275, 15, none⟩ (iv (((rdD t7146 x7262 z_Row).North).e6)), .cell ⟨g7275, 16, none⟩ (iv (((rdD t7146 x7262 z_Row).North).e7)), .cell ⟨g7275, 17, none⟩ (iv ((rdD t7146 x7262 z_Row).West)), .cell ⟨g7275, 18, none⟩ (iv ((rdD t7146 x7262 z_Row).East))] (fun fb => by kernel_rfl) rfl ⟨hS7280.cell 0 rfl 0 rfl, hS7280.cell 0 rfl 1 rfl, hS7280.cell 0 rfl 2 rfl, hS7280.cell 0 rfl 3 rfl, hS7280.cell 0 rfl 4 rfl, hS7280.cell 0 rfl 5 rfl, hS7280.cell 0 rfl 6 rfl, hS7280.cell 0 rfl 7 rfl, hS7280.cell 0 rfl 8 rfl, hS7280.cell 0 rfl 9 rfl, hS7280.cell 0 rfl 10 rfl, hS7280.cell 0 rfl 11 rfl, hS7280.cell 0 rfl 12 rfl, hS7280.cell 0 rfl 13 rfl, hS7280.cell 0 rfl 14 rfl, hS7280.cell 0 rfl 15 rfl, hS7280.cell 0 rfl 16 rfl, hS7280.cell 0 rfl 17 rfl, hS7280.cell 0 rfl 18 rfl, trivial⟩ ?_
      refine WL.new hS7280 23 [] (fun g => (.slice (some ⟨g, 0, none⟩) 1 1)) (.cells #[(.slice ((H7153 x7262.toNat 0).1) ((rdD t7146 x7262 z_Row).Cells).length ((H7153 x7262.toNat 0).2)), (iv (((rdD t7146 x7262 z_Row).South).e0)), (iv (((rdD t7146 x7262 z_Row).South).e1)), (iv (((rdD t7146 x7262 z_Row).South).e2)), (iv (((rdD t7146 x7262 z_Row).South).e3)), (iv (((rdD t7146 x7262 z_Row).South).e4)), (iv (((rdD t7146 x7262 z_Row).South).e5)), (iv (((rdD t7146 x7262 z_Row).South).e6)), (iv (((rdD t7146 x7262 z_Row).South).e7)), (iv (((rdD t7146 x7262 z_Row).North).e0)), (iv (((rdD t7146 x7262 z_Row).North).e1)), (iv (((rdD t7146 x7262 z_Row).North).e2)), (iv (((rdD t7146 x7262 z_Row).North).e3)), (iv (((rdD t7146 x7262 z_Row).North).e4)), (iv (((rdD t7146 x7262 z_Row).North).e5)), (iv (((rdD t7146 x7262 z_Row).North).e6)), (iv (((rdD t7146 x7262 z_Row).North).e7)), (iv ((rdD t7146 x7262 z_Row).West)), (iv ((rdD t7146 x7262 z_Row).East))] 88 (0, 0)) [] (fun fb g => by kernel_rfl) trivial (fun g7300 w7301 hS7302 => ?_)
      refine ⟨trivial, ?_⟩
      have hS7304 : St NoS w w7301 [rowR enc_Tile A_p0 c_p0 p0] [rowO 88 encN_Row (some ⟨g7300, 0, none⟩) 1 [((hd1 ((H7153 x7262.toNat 0).1) ((H7153 x7262.toNat 0).2)), (rdD t7146 x7262 z_Row))], blk g7275 (.cells #[(.slice ((H7153 x7262.toNat 0).1) ((rdD t7146 x7262 z_Row).Cells).length ((H7153 x7262.toNat 0).2)), (iv (((rdD t7146 x7262 z_Row).South).e0)), (iv (((rdD t7146 x7262 z_Row).South).e1)), (iv (((rdD t7146 x7262 z_Row).South).e2)), (iv (((rdD t7146 x7262 z_Row).South).e3)), (iv (((rdD t7146 x7262 z_Row).South).e4)), (iv (((rdD t7146 x7262 z_Row).South).e5)), (iv (((rdD t7146 x7262 z_Row).South).e6)), (iv (((rdD t7146 x7262 z_Row).South).e7)), (iv (((rdD t7146 x7262 z_Row).North).e0)), (iv (((rdD t7146 x7262 z_Row).North).e1)), (iv (((rdD t7146 x7262 z_Row).North).e2)), (iv (((rdD t7146 x7262 z_Row).North).e3)), (iv (((rdD t7146 x7262 z_Row).North).e4)), (iv (((rdD t7146 x7262 z_Row).North).e5)), (iv (((rdD t7146 x7262 z_Row).North).e6)), (iv (((rdD t7146 x7262 z_Row).North).e7)), (iv ((rdD t7146 x7262 z_Row).West)), (iv ((rdD t7146 x7262 z_Row).East))] 88 (0, 0)), rowO 88 encN_Row A7258 c7259 (tag H7261 l7260), poolO [nestO subN_Row H7261 l7260, nestO subN_Row H7153 t7146], rowO 88 encN_Row A7151 c7152 (tag H7153 t7146)] := hS7302.map1 0 _ (fun h => rowO.ofBlk h rfl (Nat.le_of_ble_eq_true (by kernel_rfl))) (fun _ h => by obtain ⟨_, h1, h2⟩ := h; injection h1 with h1; subst h1; exact h2) [1, 2, 3, 4] (by decide) (by decide)
      obtain ⟨h7305, hx7298⟩ := as_some hx7298
      refine WL.appendN hS7304 2 (d := 24) (tS := 82) (z := (.agg #[(.slice none 0 0), (iv 0), (iv 0), (iv 0), (iv 0), (iv 0), (iv 0), (iv 0), (iv 0), (iv 0), (iv 0), (iv 0), (iv 0), (iv 0), (iv 0), (iv 0), (iv 0), (iv 0), (iv 0)])) (bytes := 168) (c2 := 1) (hx := (hd1 ((H7153 x7262.toNat 0).1) ((H7153 x7262.toNat 0).2))) (x := (rdD t7146 x7262 z_Row)) rfl (fun fb => by kernel_rfl) (rowO.rd (hS7304.own 0).1) (by kernel_rfl) (by kernel_rfl) rfl (by decide) h7305 (by decide) [0, 1, 3, 4] (by decide) (by decide) (fun A7306 c7307 w7308 hS7309 => ?_)
      have hS7310 : St NoS w w7308 [rowR enc_Tile A_p0 c_p0 p0] [poolO [nestO subN_Row (updH H7261 l7260.length (hd1 ((H7153 x7262.toNat 0).1) ((H7153 x7262.toNat 0).2))) (l7260 ++ [(rdD t7146 x7262 z_Row)]), nestO subN_Row H7153 t7146], rowO 88 encN_Row A7306 c7307 (tag (updH H7261 l7260.length (hd1 ((H7153 x7262.toNat 0).1) ((H7153 x7262.toNat 0).2))) (l7260 ++ [(rdD t7146 x7262 z_Row)])), rowO 88 encN_Row (some ⟨g7300, 0, none⟩) 1 [((hd1 ((H7153 x7262.toNat 0).1) ((H7153 x7262.toNat 0).2)), (rdD t7146 x7262 z_Row))], blk g7275 (.cells #[(.slice ((H7153 x7262.toNat 0).1) ((rdD t7146 x7262 z_Row).Cells).length ((H7153 x7262.toNat 0).2)), (iv (((rdD t7146 x7262 z_Row).South).e0)), (iv (((rdD t7146 x7262 z_Row).South).e1)), (iv (((rdD t7146 x7262 z_Row).South).e2)), (iv (((rdD t7146 x7262 z_Row).South).e3)), (iv (((rdD t7146 x7262 z_Row).South).e4)), (iv (((rdD t7146 x7262 z_Row).South).e5)), (iv (((rdD t7146 x7262 z_Row).South).e6)), (iv (((rdD t7146 x7262 z_Row).South).e7)), (iv (((rdD t7146 x7262 z_Row).North).e0)), (iv (((rdD t7146 x7262 z_Row).North).e1)), (iv (((rdD t7146 x7262 z_Row).North).e2)), (iv (((rdD t7146 x7262 z_Row).North).e3)), (iv (((rdD t7146 x7262 z_Row).North).e4)), (iv (((rdD t7146 x7262 z_Row).North).e5)), (iv (((rdD t7146 x7262 z_Row).North).e6)), (iv (((rdD t7146 x7262 z_Row).North).e7)), (iv ((rdD t7146 x7262 z_Row).West)), (iv ((rdD t7146 x7262 z_Row).East))] 88 (0, 0)), rowO 88 encN_Row A7151 c7152 (tag H7153 t7146)] := hS7309.poolPush 3 rfl 0 (by simp) rfl (hd1 ((H7153 x7262.toNat 0).1) ((H7153 x7262.toNat 0).2)) (rdD t7146 x7262 z_Row) (nestO.ro (poolO.ro (hS7309.ow 3) 1) z_Row h7274.1 h7274.2) [] (fun g hg => ⟨3, by simp, ⟨1, ⟨_, _, rdD_at (d := z_Row) h7274.1 h7274.2, hg⟩⟩⟩) _ rfl [0, 1, 2, 4] (by decide) (by decide)
      refine ⟨trivial, ?_⟩
      refine seg 5 [] [5, 10, 11, 12] [(5, (.slice A7306 (l7260 ++ [(rdD t7146 x7262 z_Row)]).length c7307)), (10, (.slice A7151 t7146.length c7152)), (11, (iv (t7146.length : Int))), (12, (iv x7262))] [] (fun fb => by kernel_rfl) rfl trivial ?_
      refine WL.done rfl ?_
      injection hx7298 with hx7298
      exact WX.to Kx7297 (l7260 ++ [(rdD t7146 x7262 z_Row)], A7306, c7307, (updH H7261 l7260.length (hd1 ((H7153 x7262.toNat 0).1) ((H7153 x7262.toNat 0).2)))) [5, 10, 11, 12] rfl ⟨(hS7310.subR [0]).sub [1, 0, 4] (by decide), hx7298.symm⟩
     refine WC.condF2 (fun fb => by kernel_rfl) h7299 ?_
     refine WC.skip ?_
     injection hx7298 with hx7298
     exact WX.to Kx7297 (l7260, A7258, c7259, H7261) [5, 10, 11, 12] rfl ⟨(hS7280.subR [0]).sub [1, 2, 3] (by decide), hx7298.symm⟩
    rintro ⟨y7314, A7293, c7294, H7296⟩ w7311 ⟨hS7312, hq7313⟩
    subst hq7313
    refine WX.blockN (WX.next ?_)
    refine WC.region ?_
    refine seg 2 [] [5, 10, 11, 12] [(5, (.slice A7293 x7297.length c7294)), (10, (.slice A7151 t7146.length c7152)), (11, (iv (t7146.length : Int))), (12, (iv (w64 (x7262 + 1))))] [] (fun fb => by kernel_rfl) rfl trivial ?_
    refine WL.done rfl ?_
    exact WX.again k7269 (Nat.lt_succ_self _) ((x7297, w64 (x7262 + 1)), A7293, c7294, H7296) [5, 10, 11, 12] rfl ⟨(hS7312.subR [0]).sub [0, 1, 2] (by decide), hl7272⟩
   refine WC.condF2 (fun fb => by kernel_rfl) h7273 ?_
   refine WC.exit ?_
   have hS7315 : St NoS w w7270 [rowR enc_Tile A_p0 c_p0 p0] [poolO [nestO subN_Row H7261 l7260], rowO 88 encN_Row A7258 c7259 (tag H7261 l7260), rowO 88 encN_Row A7151 c7152 (tag H7153 t7146)] := hS7271.poolSub 1 rfl [0] [0, 2] (by decide) (by decide)
   injection hl7272 with hl7272
   exact WX.thenX (WX.thenX (WX.blockHere (WX.to Kx7267 (l7260, A7258, c7259, H7261) [5] rfl ⟨(hS7315.subR [0]).sub [1, 0] (by decide), hl7272.symm⟩)))
 rintro ⟨y7319, A7263, c7264, H7266⟩ w7316 ⟨hS7317, hq7318⟩
 subst hq7318
 refine WX.next ?_
 refine WC.seq ?_
 refine WC.region ?_
 refine seg 2 [] [4] [(4, (.slice A7263 x7267.length c7264))] [] (fun fb => by kernel_rfl) rfl trivial ?_
 refine WL.done rfl ?_
 refine WX.next ?_
 refine WC.ret ?_
 injection hf with hf
 subst hf
 exact WX.ret_ [] (.slice A7263 x7267.length c7264) [] (fun fb => by kernel_rfl) trivial ⟨_, rfl, A7263, c7264, H7266, rfl, (hS7317.sub [0, 1] (by decide)).noR⟩
theorem torus_back_key86 : KeyK Try.prog 86 (aggI ints_A8_Int) := KeyK.array (n := 8) (by kernel_rfl) ints_A8_Int (fun _ => rfl) (fun x y h => by cases x; cases y; simp only [ints_A8_Int, List.cons.injEq, and_true] at h; obtain ⟨rfl, rfl, rfl, rfl, rfl, rfl, rfl, rfl⟩ := h; rfl)
theorem torus_back_calls (k : Nat) (p0 : List Row) (p1 : A8_Int) (p2 : Int) (A_p0 : Option Addr) (c_p0 : Nat) (H_p0 : Nat → HF) (r : (List (Option (List (A8_Int × Bool))))) (w : World) (hR0 : RO NoS w (rowR encN_Row A_p0 c_p0 (tag H_p0 p0))) (hR1 : RO NoS w (nestO subN_Row H_p0 p0)) (hf : torus_back k p0 p1 p2 = some r) :
  CallsR Try.prog 63 #[(.slice A_p0 p0.length c_p0), (.agg #[(iv p1.e0), (iv p1.e1), (iv p1.e2), (iv p1.e3), (iv p1.e4), (iv p1.e5), (iv p1.e6), (iv p1.e7)]), (iv p2)] w (fun v w' => ∃ (A1_ : Option Addr), ∃ (c1_ : Nat), ∃ (m1_ : Nat → Nat), v = (.slice A1_ r.length c1_) ∧ St NoS w w' [] [rowO 81 (encMap A8_Int Bool) A1_ c1_ (tag m1_ r), mapsO (aggI ints_A8_Int) vB m1_ r]) := by
 have hS : St NoS w w [rowR encN_Row A_p0 c_p0 (tag H_p0 p0), nestO subN_Row H_p0 p0] [] := St.init (ro_cons hR0 (ro_cons hR1 (ro_nil _ _)))
 refine enter 46 Try.func63 rfl Try.ntmps63 rfl ?_
 unfold torus_back at hf
 refine WC.seq ?_
 refine WC.region ?_
 refine WL.new hS 4 [] (fun g => (.pointer (some ⟨g, 0, none⟩))) (.cells #[(iv p1.e0), (iv p1.e1), (iv p1.e2), (iv p1.e3), (iv p1.e4), (iv p1.e5), (iv p1.e6), (iv p1.e7)] 86 (0, 0)) [] (fun fb g => by kernel_rfl) trivial (fun g7349 w7350 hS7351 => ?_)
 refine ⟨trivial, ?_⟩
 refine seg 2 [] [0, 2, 4] [(0, (.slice A_p0 p0.length c_p0)), (2, (iv p2)), (4, (pt g7349))] [] (fun fb => by kernel_rfl) rfl trivial ?_
 refine WL.done rfl ?_
 refine WX.next ?_
 refine WC.seq ?_
 refine WC.region ?_
 refine WL.new hS7351 12 [] (fun g => (.map (some g))) (mapObj (aggI ints_A8_Int) vB ([] : List (A8_Int × Bool))) [] (fun fb g => by kernel_rfl) trivial (fun g7353 w7354 hS7355 => ?_)
 refine ⟨trivial, ?_⟩
 refine seg 2 [.v (iv p1.e0), .v (iv p1.e1), .v (iv p1.e2), .v (iv p1.e3), .v (iv p1.e4), .v (iv p1.e5), .v (iv p1.e6), .v (iv p1.e7)] [0, 2, 12, 13] [(0, (.slice A_p0 p0.length c_p0)), (2, (iv p2)), (12, (.map (some g7353))), (13, (.agg #[(iv p1.e0), (iv p1.e1), (iv p1.e2), (iv p1.e3), (iv p1.e4), (iv p1.e5), (iv p1.e6), (iv p1.e7)]))] [.cell ⟨g7349, 0, none⟩ (iv p1.e0), .cell ⟨g7349, 1, none⟩ (iv p1.e1), .cell ⟨g7349, 2, none⟩ (iv p1.e2), .cell ⟨g7349, 3, none⟩ (iv p1.e3), .cell ⟨g7349, 4, none⟩ (iv p1.e4), .cell ⟨g7349, 5, none⟩ (iv p1.e5), .cell ⟨g7349, 6, none⟩ (iv p1.e6), .cell ⟨g7349, 7, none⟩ (iv p1.e7)] (fun fb => by kernel_rfl) rfl ⟨hS7355.cell 1 rfl 0 rfl, hS7355.cell 1 rfl 1 rfl, hS7355.cell 1 rfl 2 rfl, hS7355.cell 1 rfl 3 rfl, hS7355.cell 1 rfl 4 rfl, hS7355.cell 1 rfl 5 rfl, hS7355.cell 1 rfl 6 rfl, hS7355.cell 1 rfl 7 rfl, trivial⟩ ?_
 refine WL.mapput hS7355 0 (t := 81) (kT := 86) (eT := 4) (kE := (aggI ints_A8_Int)) (vE := vB) (l := ([] : List (A8_Int × Bool))) rfl p1 true (fun fb => by kernel_rfl) torus_back_key86 (by kernel_rfl) [1] (by decide) (by decide) (fun w7356 hS7357 => ?_)
 refine ⟨trivial, ?_⟩
 refine seg 4 [] [0, 2, 14] [(0, (.slice A_p0 p0.length c_p0)), (2, (iv p2)), (14, (.map (some g7353)))] [] (fun fb => by kernel_rfl) rfl trivial ?_
 refine WL.new hS7357 15 [] (fun g => (.slice (some ⟨g, 0, none⟩) 1 1)) (.cells #[(.map (some g7353))] 81 (0, 0)) [] (fun fb g => by kernel_rfl) trivial (fun g7358 w7359 hS7360 => ?_)
 refine ⟨trivial, ?_⟩
 have hS7362 : St NoS w w7359 [rowR encN_Row A_p0 c_p0 (tag H_p0 p0), nestO subN_Row H_p0 p0] [rowO 81 (encMap A8_Int Bool) (some ⟨g7358, 0, none⟩) 1 (tag (fun _ => g7353) [some (mput p1 true ([] : List (A8_Int × Bool)))]), blk g7353 (mapObj (aggI ints_A8_Int) vB (mput p1 true ([] : List (A8_Int × Bool)))), blk g7349 (.cells #[(iv p1.e0), (iv p1.e1), (iv p1.e2), (iv p1.e3), (iv p1.e4), (iv p1.e5), (iv p1.e6), (iv p1.e7)] 86 (0, 0))] := hS7360.map1 0 _ (fun h => rowO.ofBlk h rfl (Nat.le_of_ble_eq_true (by kernel_rfl))) (fun _ h => by obtain ⟨_, h1, h2⟩ := h; injection h1 with h1; subst h1; exact h2) [1, 2] (by decide) (by decide)
 have hS7363 : St NoS w w7359 [rowR encN_Row A_p0 c_p0 (tag H_p0 p0), nestO subN_Row H_p0 p0] [mapsO (aggI ints_A8_Int) vB (fun _ => g7353) [some (mput p1 true ([] : List (A8_Int × Bool)))], rowO 81 (encMap A8_Int Bool) (some ⟨g7358, 0, none⟩) 1 (tag (fun _ => g7353) [some (mput p1 true ([] : List (A8_Int × Bool)))]), blk g7349 (.cells #[(iv p1.e0), (iv p1.e1), (iv p1.e2), (iv p1.e3), (iv p1.e4), (iv p1.e5), (iv p1.e6), (iv p1.e7)] 86 (0, 0))] := hS7362.mapsOne 1 rfl [0, 2] (by decide) (by decide)
 refine seg 6 [] [0, 2, 7] [(0, (.slice A_p0 p0.length c_p0)), (2, (iv p2)), (7, (.slice (some ⟨g7358, 0, none⟩) [some (mput p1 true ([] : List (A8_Int × Bool)))].length 1))] [] (fun fb => by kernel_rfl) rfl trivial ?_
 refine WL.done rfl ?_
 refine WX.next ?_
 refine WC.seq ?_
 refine WC.seq ?_
 refine WC.region ?_
 refine seg 2 [] [0, 7, 16, 17] [(0, (.slice A_p0 p0.length c_p0)), (7, (.slice (some ⟨g7358, 0, none⟩) [some (mput p1 true ([] : List (A8_Int × Bool)))].length 1)), (16, (iv p2)), (17, (iv 0))] [] (fun fb => by kernel_rfl) rfl trivial ?_
 refine WL.done rfl ?_
 refine WX.next ?_
 obtain ⟨x7572, hx7573, hf⟩ := bind_some hf
 refine WC.cutN (T := (List (Option (List (A8_Int × Bool)))) × (Option Addr) × Nat × (Nat → Nat)) (fun t => [(7, (.slice t.2.1 t.1.length t.2.2.1))]) (fun t w1 => St NoS w w1 [rowR encN_Row A_p0 c_p0 (tag H_p0 p0), nestO subN_Row H_p0 p0] [rowO 81 (encMap A8_Int Bool) t.2.1 t.2.2.1 (tag t.2.2.2 t.1), mapsO (aggI ints_A8_Int) vB t.2.2.2 t.1] ∧ x7572 = t.1) (fun Kx7572 => ?_) ?_
 ·
  refine WC.block ?_
  refine WC.loop (T := ((List (Option (List (A8_Int × Bool)))) × Int) × (Option Addr) × Nat × (Nat → Nat)) (fun t => [(0, (.slice A_p0 p0.length c_p0)), (7, (.slice t.2.1 t.1.1.length t.2.2.1)), (16, (iv p2)), (17, (iv t.1.2))]) (fun n t w1 => St NoS w w1 [rowR encN_Row A_p0 c_p0 (tag H_p0 p0), nestO subN_Row H_p0 p0] [rowO 81 (encMap A8_Int Bool) t.2.1 t.2.2.1 (tag t.2.2.2 t.1.1), mapsO (aggI ints_A8_Int) vB t.2.2.2 t.1.1] ∧ torus_back.l0 n t.1.1 t.1.2 p0 p2 = some x7572) k (([some (mput p1 true ([] : List (A8_Int × Bool)))], 0), (some ⟨g7358, 0, none⟩), 1, (fun _ => g7353)) [0, 7, 16, 17] rfl ⟨(hS7363.subR [0, 1]).sub [1, 0] (by decide), hx7573⟩ ?_
  rintro k7574 ⟨⟨l7565, x7567⟩, A7563, c7564, H7566⟩ w7575 ⟨hS7576, hl7577⟩
  cases k7574 with
  | zero => rw [torus_back.l0] at hl7577; cases hl7577
  | succ k7574 =>
   rw [torus_back.l0] at hl7577
   refine WC.seq ?_
   refine WC.region ?_
   refine seg 1 [] [0, 7, 16, 17, 18] [(0, (.slice A_p0 p0.length c_p0)), (7, (.slice A7563 l7565.length c7564)), (16, (iv p2)), (17, (iv x7567)), (18, (.bool (decide (x7567 < p2))))] [] (fun fb => by kernel_rfl) rfl trivial ?_
   refine WL.done rfl ?_
   refine WX.next ?_
   refine WC.seq ?_
   rcases br_some hl7577 with ⟨h7578, hl7577⟩ | ⟨h7578, hl7577⟩
   ·refine WC.condT2 (fun fb => by kernel_rfl) h7578 ?_
    refine WC.skip ?_
    refine WX.next ?_
    refine WC.seq ?_
    refine WC.block ?_
    refine WC.seq ?_
    refine WC.region ?_
    refine seg 4 [] [0, 7, 16, 17, 19, 22] [(0, (.slice A_p0 p0.length c_p0)), (7, (.slice A7563 l7565.length c7564)), (16, (iv p2)), (17, (iv x7567)), (19, (.slice A7563 l7565.length c7564)), (22, (iv (w64 ((l7565.length : Int) - 1))))] [] (fun fb => by kernel_rfl) rfl trivial ?_
    obtain ⟨h7579, hl7577⟩ := as_some hl7577
    refine seg 5 [] [0, 7, 16, 17, 23] [(0, (.slice A_p0 p0.length c_p0)), (7, (.slice A7563 l7565.length c7564)), (16, (iv p2)), (17, (iv x7567)), (23, (.pointer (some ((adr A7563).add ((w64 ((l7565.length : Int) - 1)).toNat * 1)))))] [.idx A7563 (w64 ((l7565.length : Int) - 1)) l7565.length] (fun fb => by kernel_rfl) rfl ⟨nrow_adr (rowO.rd (hS7576.own 0).1) h7579.1 h7579.2, trivial⟩ ?_
    obtain ⟨m7580, hm7581, hl7577⟩ := bind_some hl7577
    refine seg 6 [.v (.map (some (H7566 (w64 ((l7565.length : Int) - 1)).toNat)))] [0, 7, 16, 17, 24] [(0, (.slice A_p0 p0.length c_p0)), (7, (.slice A7563 l7565.length c7564)), (16, (iv p2)), (17, (iv x7567)), (24, (.map (some (H7566 (w64 ((l7565.length : Int) - 1)).toNat))))] [.cell ((adr A7563).add ((w64 ((l7565.length : Int) - 1)).toNat * 1)) (.map (some (H7566 (w64 ((l7565.length : Int) - 1)).toNat)))] (fun fb => by kernel_rfl) rfl ⟨nrow_cell (rowO.rd (hS7576.own 0).1) none h7579.1 h7579.2 0 (mapV_some hm7581), trivial⟩ ?_
    refine WL.new hS7576 25 [] (fun g => (.map (some g))) (mapObj (aggI ints_A8_Int) vB ([] : List (A8_Int × Bool))) [] (fun fb g => by kernel_rfl) trivial (fun g7582 w7583 hS7584 => ?_)
    refine ⟨trivial, ?_⟩
    refine seg 9 [] [0, 7, 8, 9, 16, 17] [(0, (.slice A_p0 p0.length c_p0)), (7, (.slice A7563 l7565.length c7564)), (8, (.map (some (H7566 (w64 ((l7565.length : Int) - 1)).toNat)))), (9, (.map (some g7582))), (16, (iv p2)), (17, (iv x7567))] [] (fun fb => by kernel_rfl) rfl trivial ?_
    refine WL.done rfl ?_
    refine WX.next ?_
    refine WC.seq ?_
    refine WC.seq ?_
    refine WC.region ?_
    refine seg 3 [] [0, 7, 8, 9, 16, 17, 26, 27, 28] [(0, (.slice A_p0 p0.length c_p0)), (7, (.slice A7563 l7565.length c7564)), (8, (.map (some (H7566 (w64 ((l7565.length : Int) - 1)).toNat)))), (9, (.map (some g7582))), (16, (iv p2)), (17, (iv x7567)), (26, (.slice A_p0 p0.length c_p0)), (27, (iv (p0.length : Int))), (28, (iv 0))] [] (fun fb => by kernel_rfl) rfl trivial ?_
    refine WL.done rfl ?_
    refine WX.next ?_
    obtain ⟨x7632, hx7633, hl7577⟩ := bind_some hl7577
    refine WC.cutN (T := (List (A8_Int × Bool))) (fun t => [(0, (.slice A_p0 p0.length c_p0)), (7, (.slice A7563 l7565.length c7564)), (9, (.map (some g7582))), (16, (iv p2)), (17, (iv x7567))]) (fun t w1 => St NoS w w1 [rowR encN_Row A_p0 c_p0 (tag H_p0 p0), nestO subN_Row H_p0 p0] [rowO 81 (encMap A8_Int Bool) A7563 c7564 (tag H7566 l7565), mapsO (aggI ints_A8_Int) vB H7566 l7565, blk g7582 (mapObj (aggI ints_A8_Int) vB t)] ∧ x7632 = t) (fun Kx7632 => ?_) ?_
    ·
     refine WC.block ?_
     refine WC.loop (T := (List (A8_Int × Bool)) × Int) (fun t => [(0, (.slice A_p0 p0.length c_p0)), (7, (.slice A7563 l7565.length c7564)), (8, (.map (some (H7566 (w64 ((l7565.length : Int) - 1)).toNat)))), (9, (.map (some g7582))), (16, (iv p2)), (17, (iv x7567)), (26, (.slice A_p0 p0.length c_p0)), (27, (iv (p0.length : Int))), (28, (iv t.2))]) (fun n t w1 => St NoS w w1 [rowR encN_Row A_p0 c_p0 (tag H_p0 p0), nestO subN_Row H_p0 p0] [rowO 81 (encMap A8_Int Bool) A7563 c7564 (tag H7566 l7565), mapsO (aggI ints_A8_Int) vB H7566 l7565, blk g7582 (mapObj (aggI ints_A8_Int) vB t.1)] ∧ torus_back.l1 n t.1 t.2 p0 m7580 = some x7632) k7574 (([] : List (A8_Int × Bool)), 0) [0, 7, 8, 9, 16, 17, 26, 27, 28] rfl ⟨(hS7584.subR [0, 1]).sub [1, 2, 0] (by decide), hx7633⟩ ?_
     rintro k7634 ⟨l7629, x7630⟩ w7635 ⟨hS7636, hl7637⟩
     cases k7634 with
     | zero => rw [torus_back.l1] at hl7637; cases hl7637
     | succ k7634 =>
      rw [torus_back.l1] at hl7637
      refine WC.seq ?_
      refine WC.region ?_
      refine seg 1 [] [0, 7, 8, 9, 16, 17, 26, 27, 28, 29] [(0, (.slice A_p0 p0.length c_p0)), (7, (.slice A7563 l7565.length c7564)), (8, (.map (some (H7566 (w64 ((l7565.length : Int) - 1)).toNat)))), (9, (.map (some g7582))), (16, (iv p2)), (17, (iv x7567)), (26, (.slice A_p0 p0.length c_p0)), (27, (iv (p0.length : Int))), (28, (iv x7630)), (29, (.bool (decide (x7630 < (p0.length : Int)))))] [] (fun fb => by kernel_rfl) rfl trivial ?_
      refine WL.done rfl ?_
      refine WX.next ?_
      refine WC.seq ?_
      rcases br_some hl7637 with ⟨h7638, hl7637⟩ | ⟨h7638, hl7637⟩
      ·refine WC.condT2 (fun fb => by kernel_rfl) h7638 ?_
       refine WC.skip ?_
       refine WX.next ?_
       refine WC.seq ?_
       refine WC.block ?_
       refine WC.seq ?_
       refine WC.region ?_
       obtain ⟨h7639, hl7637⟩ := as_some hl7637
       refine seg 2 [.v (.slice ((H_p0 x7630.toNat 0).1) ((rdD p0 x7630 z_Row).Cells).length ((H_p0 x7630.toNat 0).2)), .v (iv (((rdD p0 x7630 z_Row).South).e0)), .v (iv (((rdD p0 x7630 z_Row).South).e1)), .v (iv (((rdD p0 x7630 z_Row).South).e2)), .v (iv (((rdD p0 x7630 z_Row).South).e3)), .v (iv (((rdD p0 x7630 z_Row).South).e4)), .v (iv (((rdD p0 x7630 z_Row).South).e5)), .v (iv (((rdD p0 x7630 z_Row).South).e6)), .v (iv (((rdD p0 x7630 z_Row).South).e7)), .v (iv (((rdD p0 x7630 z_Row).North).e0)), .v (iv (((rdD p0 x7630 z_Row).North).e1)), .v (iv (((rdD p0 x7630 z_Row).North).e2)), .v (iv (((rdD p0 x7630 z_Row).North).e3)), .v (iv (((rdD p0 x7630 z_Row).North).e4)), .v (iv (((rdD p0 x7630 z_Row).North).e5)), .v (iv (((rdD p0 x7630 z_Row).North).e6)), .v (iv (((rdD p0 x7630 z_Row).North).e7)), .v (iv ((rdD p0 x7630 z_Row).West)), .v (iv ((rdD p0 x7630 z_Row).East))] [0, 7, 8, 9, 16, 17, 26, 27, 28, 31] [(0, (.slice A_p0 p0.length c_p0)), (7, (.slice A7563 l7565.length c7564)), (8, (.map (some (H7566 (w64 ((l7565.length : Int) - 1)).toNat)))), (9, (.map (some g7582))), (16, (iv p2)), (17, (iv x7567)), (26, (.slice A_p0 p0.length c_p0)), (27, (iv (p0.length : Int))), (28, (iv x7630)), (31, (.agg #[(.slice ((H_p0 x7630.toNat 0).1) ((rdD p0 x7630 z_Row).Cells).length ((H_p0 x7630.toNat 0).2)), (iv (((rdD p0 x7630 z_Row).South).e0)), (iv (((rdD p0 x7630 z_Row).South).e1)), (iv (((rdD p0 x7630 z_Row).South).e2)), (iv (((rdD p0 x7630 z_Row).South).e3)), (iv (((rdD p0 x7630 z_Row).South).e4)), (iv (((rdD p0 x7630 z_Row).South).e5)), (iv (((rdD p0 x7630 z_Row).South).e6)), (iv (((rdD p0 x7630 z_Row).South).e7)), (iv (((rdD p0 x7630 z_Row).North).e0)), (iv (((rdD p0 x7630 z_Row).North).e1)), (iv (((rdD p0 x7630 z_Row).North).e2)), (iv (((rdD p0 x7630 z_Row).North).e3)), (iv (((rdD p0 x7630 z_Row).North).e4)), (iv (((rdD p0 x7630 z_Row).North).e5)), (iv (((rdD p0 x7630 z_Row).North).e6)), (iv (((rdD p0 x7630 z_Row).North).e7)), (iv ((rdD p0 x7630 z_Row).West)), (iv ((rdD p0 x7630 z_Row).East))]))] [.idx A_p0 x7630 p0.length, .cell ((adr A_p0).add ((x7630).toNat * 19)) (.slice ((H_p0 x7630.toNat 0).1) ((rdD p0 x7630 z_Row).Cells).length ((H_p0 x7630.toNat 0).2)), .cell (((adr A_p0).add ((x7630).toNat * 19)).add 1) (iv (((rdD p0 x7630 z_Row).South).e0)), .cell (((adr A_p0).add ((x7630).toNat * 19)).add 2) (iv (((rdD p0 x7630 z_Row).South).e1)), .cell (((adr A_p0).add ((x7630).toNat * 19)).add 3) (iv (((rdD p0 x7630 z_Row).South).e2)), .cell (((adr A_p0).add ((x7630).toNat * 19)).add 4) (iv (((rdD p0 x7630 z_Row).South).e3)), .cell (((adr A_p0).add ((x7630).toNat * 19)).add 5) (iv (((rdD p0 x7630 z_Row).South).e4)), .cell (((adr A_p0).add ((x7630).toNat * 19)).add 6) (iv (((rdD p0 x7630 z_Row).South).e5)), .cell (((adr A_p0).add ((x7630).toNat * 19)).add 7) (iv (((rdD p0 x7630 z_Row).South).e6)), .cell (((adr A_p0).add ((x7630).toNat * 19)).add 8) (iv (((rdD p0 x7630 z_Row).South).e7)), .cell (((adr A_p0).add ((x7630).toNat * 19)).add 9) (iv (((rdD p0 x7630 z_Row).North).e0)), .cell (((adr A_p0).add ((x7630).toNat * 19)).add 10) (iv (((rdD p0 x7630 z_Row).North).e1)), .cell (((adr A_p0).add ((x7630).toNat * 19)).add 11) (iv (((rdD p0 x7630 z_Row).North).e2)), .cell (((adr A_p0).add ((x7630).toNat * 19)).add 12) (iv (((rdD p0 x7630 z_Row).North).e3)), .cell (((adr A_p0).add ((x7630).toNat * 19)).add 13) (iv (((rdD p0 x7630 z_Row).North).e4)), .cell (((adr A_p0).add ((x7630).toNat * 19)).add 14) (iv (((rdD p0 x7630 z_Row).North).e5)), .cell (((adr A_p0).add ((x7630).toNat * 19)).add 15) (iv (((rdD p0 x7630 z_Row).North).e6)), .cell (((adr A_p0).add ((x7630).toNat * 19)).add 16) (iv (((rdD p0 x7630 z_Row).North).e7)), .cell (((adr A_p0).add ((x7630).toNat * 19)).add 17) (iv ((rdD p0 x7630 z_Row).West)), .cell (((adr A_p0).add ((x7630).toNat * 19)).add 18) (iv ((rdD p0 x7630 z_Row).East))] (fun fb => by kernel_rfl) rfl ⟨nrow_adr (hS7636.rd 0).1 h7639.1 h7639.2, nrow_cell (hS7636.rd 0).1 z_Row h7639.1 h7639.2 0 rfl, nrow_cell (hS7636.rd 0).1 z_Row h7639.1 h7639.2 1 rfl, nrow_cell (hS7636.rd 0).1 z_Row h7639.1 h7639.2 2 rfl, nrow_cell (hS7636.rd 0).1 z_Row h7639.1 h7639.2 3 rfl, nrow_cell (hS7636.rd 0).1 z_Row h7639.1 h7639.2 4 rfl, nrow_cell (hS7636.rd 0).1 z_Row h7639.1 h7639.2 5 rfl, nrow_cell (hS7636.rd 0).1 z_Row h7639.1 h7639.2 6 rfl, nrow_cell (hS7636.rd 0).1 z_Row h7639.1 h7639.2 7 rfl, nrow_cell (hS7636.rd 0).1 z_Row h7639.1 h7639.2 8 rfl, nrow_cell (hS7636.rd 0).1 z_Row h7639.1 h7639.2 9 rfl, nrow_cell (hS7636.rd 0).1 z_Row h7639.1 h7639.2 10 rfl, nrow_cell (hS7636.rd 0).1 z_Row h7639.1 h7639.2 11 rfl, nrow_cell (hS7636.rd 0).1 z_Row h7639.1 h7639.2 12 rfl, nrow_cell (hS7636.rd 0).1 z_Row h7639.1 h7639.2 13 rfl, nrow_cell (hS7636.rd 0).1 z_Row h7639.1 h7639.2 14 rfl, nrow_cell (hS7636.rd 0).1 z_Row h7639.1 h7639.2 15 rfl, nrow_cell (hS7636.rd 0).1 z_Row h7639.1 h7639.2 16 rfl, nrow_cell (hS7636.rd 0).1 z_Row h7639.1 h7639.2 17 rfl, nrow_cell (hS7636.rd 0).1 z_Row h7639.1 h7639.2 18 rfl, trivial⟩ ?_
       refine WL.new hS7636 11 [] (fun g => (.pointer (some ⟨g, 0, none⟩))) (.cells #[(.slice none 0 0), (iv 0), (iv 0), (iv 0), (iv 0), (iv 0), (iv 0), (iv 0), (iv 0), (iv 0), (iv 0), (iv 0), (iv 0), (iv 0), (iv 0), (iv 0), (iv 0), (iv 0), (iv 0)] 88 (0, 0)) [] (fun fb g => by kernel_rfl) trivial (fun g7640 w7641 hS7642 => ?_)
       refine ⟨trivial, ?_⟩
       refine WL.store hS7642 0 rfl [(0, (.slice ((H_p0 x7630.toNat 0).1) ((rdD p0 x7630 z_Row).Cells).length ((H_p0 x7630.toNat 0).2))), (1, (iv (((rdD p0 x7630 z_Row).South).e0))), (2, (iv (((rdD p0 x7630 z_Row).South).e1))), (3, (iv (((rdD p0 x7630 z_Row).South).e2))), (4, (iv (((rdD p0 x7630 z_Row).South).e3))), (5, (iv (((rdD p0 x7630 z_Row).South).e4))), (6, (iv (((rdD p0 x7630 z_Row).South).e5))), (7, (iv (((rdD p0 x7630 z_Row).South).e6))), (8, (iv (((rdD p0 x7630 z_Row).South).e7))), (9, (iv (((rdD p0 x7630 z_Row).North).e0))), (10, (iv (((rdD p0 x7630 z_Row).North).e1))), (11, (iv (((rdD p0 x7630 z_Row).North).e2))), (12, (iv (((rdD p0 x7630 z_Row).North).e3))), (13, (iv (((rdD p0 x7630 z_Row).North).e4))), (14, (iv (((rdD p0 x7630 z_Row).North).e5))), (15, (iv (((rdD p0 x7630 z_Row).North).e6))), (16, (iv (((rdD p0 x7630 z_Row).North).e7))), (17, (iv ((rdD p0 x7630 z_Row).West))), (18, (iv ((rdD p0 x7630 z_Row).East)))] #[(.slice ((H_p0 x7630.toNat 0).1) ((rdD p0 x7630 z_Row).Cells).length ((H_p0 x7630.toNat 0).2)), (iv (((rdD p0 x7630 z_Row).South).e0)), (iv (((rdD p0 x7630 z_Row).South).e1)), (iv (((rdD p0 x7630 z_Row).South).e2)), (iv (((rdD p0 x7630 z_Row).South).e3)), (iv (((rdD p0 x7630 z_Row).South).e4)), (iv (((rdD p0 x7630 z_Row).South).e5)), (iv (((rdD p0 x7630 z_Row).South).e6)), (iv (((rdD p0 x7630 z_Row).South).e7)), (iv (((rdD p0 x7630 z_Row).North).e0)), (iv (((rdD p0 x7630 z_Row).North).e1)), (iv (((rdD p0 x7630 z_Row).North).e2)), (iv (((rdD p0 x7630 z_Row).North).e3)), (iv (((rdD p0 x7630 z_Row).North).e4)), (iv (((rdD p0 x7630 z_Row).North).e5)), (iv (((rdD p0 x7630 z_Row).North).e6)), (iv (((rdD p0 x7630 z_Row).North).e7)), (iv ((rdD p0 x7630 z_Row).West)), (iv ((rdD p0 x7630 z_Row).East))] (fun fb => by kernel_rfl) (by kernel_rfl) (by kernel_rfl) [1, 2, 3] (by decide) (by decide) (fun w7644 hS7645 => ?_)
       refine ⟨trivial, ?_⟩
       refine WL.done rfl ?_
       refine WX.next ?_
       refine WC.seq ?_
       refine WC.region ?_
       refine seg 3 [.v (iv (((rdD p0 x7630 z_Row).North).e0)), .v (iv (((rdD p0 x7630 z_Row).North).e1)), .v (iv (((rdD p0 x7630 z_Row).North).e2)), .v (iv (((rdD p0 x7630 z_Row).North).e3)), .v (iv (((rdD p0 x7630 z_Row).North).e4)), .v (iv (((rdD p0 x7630 z_Row).North).e5)), .v (iv (((rdD p0 x7630 z_Row).North).e6)), .v (iv (((rdD p0 x7630 z_Row).North).e7))] [0, 7, 8, 9, 11, 16, 17, 26, 27, 28, 32, 34] [(0, (.slice A_p0 p0.length c_p0)), (7, (.slice A7563 l7565.length c7564)), (8, (.map (some (H7566 (w64 ((l7565.length : Int) - 1)).toNat)))), (9, (.map (some g7582))), (11, (pt g7640)), (16, (iv p2)), (17, (iv x7567)), (26, (.slice A_p0 p0.length c_p0)), (27, (iv (p0.length : Int))), (28, (iv x7630)), (32, (.map (some (H7566 (w64 ((l7565.length : Int) - 1)).toNat)))), (34, (.agg #[(iv (((rdD p0 x7630 z_Row).North).e0)), (iv (((rdD p0 x7630 z_Row).North).e1)), (iv (((rdD p0 x7630 z_Row).North).e2)), (iv (((rdD p0 x7630 z_Row).North).e3)), (iv (((rdD p0 x7630 z_Row).North).e4)), (iv (((rdD p0 x7630 z_Row).North).e5)), (iv (((rdD p0 x7630 z_Row).North).e6)), (iv (((rdD p0 x7630 z_Row).North).e7))]))] [.cell ⟨g7640, 9, none⟩ (iv (((rdD p0 x7630 z_Row).North).e0)), .cell ⟨g7640, 10, none⟩ (iv (((rdD p0 x7630 z_Row).North).e1)), .cell ⟨g7640, 11, none⟩ (iv (((rdD p0 x7630 z_Row).North).e2)), .cell ⟨g7640, 12, none⟩ (iv (((rdD p0 x7630 z_Row).North).e3)), .cell ⟨g7640, 13, none⟩ (iv (((rdD p0 x7630 z_Row).North).e4)), .cell ⟨g7640, 14, none⟩ (iv (((rdD p0 x7630 z_Row).North).e5)), .cell ⟨g7640, 15, none⟩ (iv (((rdD p0 x7630 z_Row).North).e6)), .cell ⟨g7640, 16, none⟩ (iv (((rdD p0 x7630 z_Row).North).e7))] (fun fb => by kernel_rfl) rfl ⟨hS7645.cell 0 rfl 9 rfl, hS7645.cell 0 rfl 10 rfl, hS7645.cell 0 rfl 11 rfl, hS7645.cell 0 rfl 12 rfl, hS7645.cell 0 rfl 13 rfl, hS7645.cell 0 rfl 14 rfl, hS7645.cell 0 rfl 15 rfl, hS7645.cell 0 rfl 16 rfl, trivial⟩ ?_
       refine WL.lookup (mapsO.at (hS7645.own 2).1 h7579.1 h7579.2 hm7581) ((rdD p0 x7630 z_Row).North) (d := 35) (c := false) (t := 81) (kT := 86) (eT := 4) (z := false) (kE := (aggI ints_A8_Int)) (vE := vB) (l := m7580) (.bool (mget ((rdD p0 x7630 z_Row).North) false m7580)) (fun fb => by kernel_rfl) torus_back_key86 (by kernel_rfl) (fun _ => by kernel_rfl) rfl ?_
       refine ⟨trivial, ?_⟩
       refine WL.done rfl ?_
       refine WX.next ?_
       obtain ⟨x7650, hx7651, hl7637⟩ := bind_some hl7637
       refine WC.cutN (T := (List (A8_Int × Bool))) (fun t => [(0, (.slice A_p0 p0.length c_p0)), (7, (.slice A7563 l7565.length c7564)), (8, (.map (some (H7566 (w64 ((l7565.length : Int) - 1)).toNat)))), (9, (.map (some g7582))), (16, (iv p2)), (17, (iv x7567)), (26, (.slice A_p0 p0.length c_p0)), (27, (iv (p0.length : Int))), (28, (iv x7630))]) (fun t w1 => St NoS w w1 [rowR encN_Row A_p0 c_p0 (tag H_p0 p0), nestO subN_Row H_p0 p0] [rowO 81 (encMap A8_Int Bool) A7563 c7564 (tag H7566 l7565), mapsO (aggI ints_A8_Int) vB H7566 l7565, blk g7582 (mapObj (aggI ints_A8_Int) vB t)] ∧ x7650 = t) (fun Kx7650 => ?_) ?_
       ·
        rcases br_some hx7651 with ⟨h7652, hx7651⟩ | ⟨h7652, hx7651⟩
        ·refine WC.condT2 (fun fb => by kernel_rfl) h7652 ?_
         refine WC.region ?_
         refine seg 3 [.v (iv (((rdD p0 x7630 z_Row).South).e0)), .v (iv (((rdD p0 x7630 z_Row).South).e1)), .v (iv (((rdD p0 x7630 z_Row).South).e2)), .v (iv (((rdD p0 x7630 z_Row).South).e3)), .v (iv (((rdD p0 x7630 z_Row).South).e4)), .v (iv (((rdD p0 x7630 z_Row).South).e5)), .v (iv (((rdD p0 x7630 z_Row).South).e6)), .v (iv (((rdD p0 x7630 z_Row).South).e7))] [0, 7, 8, 9, 16, 17, 26, 27, 28, 36, 38] [(0, (.slice A_p0 p0.length c_p0)), (7, (.slice A7563 l7565.length c7564)), (8, (.map (some (H7566 (w64 ((l7565.length : Int) - 1)).toNat)))), (9, (.map (some g7582))), (16, (iv p2)), (17, (iv x7567)), (26, (.slice A_p0 p0.length c_p0)), (27, (iv (p0.length : Int))), (28, (iv x7630)), (36, (.map (some g7582))), (38, (.agg #[(iv (((rdD p0 x7630 z_Row).South).e0)), (iv (((rdD p0 x7630 z_Row).South).e1)), (iv (((rdD p0 x7630 z_Row).South).e2)), (iv (((rdD p0 x7630 z_Row).South).e3)), (iv (((rdD p0 x7630 z_Row).South).e4)), (iv (((rdD p0 x7630 z_Row).South).e5)), (iv (((rdD p0 x7630 z_Row).South).e6)), (iv (((rdD p0 x7630 z_Row).South).e7))]))] [.cell ⟨g7640, 1, none⟩ (iv (((rdD p0 x7630 z_Row).South).e0)), .cell ⟨g7640, 2, none⟩ (iv (((rdD p0 x7630 z_Row).South).e1)), .cell ⟨g7640, 3, none⟩ (iv (((rdD p0 x7630 z_Row).South).e2)), .cell ⟨g7640, 4, none⟩ (iv (((rdD p0 x7630 z_Row).South).e3)), .cell ⟨g7640, 5, none⟩ (iv (((rdD p0 x7630 z_Row).South).e4)), .cell ⟨g7640, 6, none⟩ (iv (((rdD p0 x7630 z_Row).South).e5)), .cell ⟨g7640, 7, none⟩ (iv (((rdD p0 x7630 z_Row).South).e6)), .cell ⟨g7640, 8, none⟩ (iv (((rdD p0 x7630 z_Row).South).e7))] (fun fb => by kernel_rfl) rfl ⟨hS7645.cell 0 rfl 1 rfl, hS7645.cell 0 rfl 2 rfl, hS7645.cell 0 rfl 3 rfl, hS7645.cell 0 rfl 4 rfl, hS7645.cell 0 rfl 5 rfl, hS7645.cell 0 rfl 6 rfl, hS7645.cell 0 rfl 7 rfl, hS7645.cell 0 rfl 8 rfl, trivial⟩ ?_
         refine WL.mapput hS7645 3 (t := 81) (kT := 86) (eT := 4) (kE := (aggI ints_A8_Int)) (vE := vB) (l := l7629) rfl ((rdD p0 x7630 z_Row).South) true (fun fb => by kernel_rfl) torus_back_key86 (by kernel_rfl) [0, 1, 2] (by decide) (by decide) (fun w7653 hS7654 => ?_)
         refine ⟨trivial, ?_⟩
         refine WL.done rfl ?_
         injection hx7651 with hx7651
         exact WX.to Kx7650 (mput ((rdD p0 x7630 z_Row).South) true l7629) [0, 7, 8, 9, 16, 17, 26, 27, 28] rfl ⟨(hS7654.subR [0, 1]).sub [2, 3, 0] (by decide), hx7651.symm⟩
        refine WC.condF2 (fun fb => by kernel_rfl) h7652 ?_
        refine WC.skip ?_
        injection hx7651 with hx7651
        exact WX.to Kx7650 l7629 [0, 7, 8, 9, 16, 17, 26, 27, 28] rfl ⟨(hS7645.subR [0, 1]).sub [1, 2, 3] (by decide), hx7651.symm⟩
       rintro y7658 w7655 ⟨hS7656, hq7657⟩
       subst hq7657
       refine WX.blockN (WX.next ?_)
       refine WC.region ?_
       refine seg 2 [] [0, 7, 8, 9, 16, 17, 26, 27, 28] [(0, (.slice A_p0 p0.length c_p0)), (7, (.slice A7563 l7565.length c7564)), (8, (.map (some (H7566 (w64 ((l7565.length : Int) - 1)).toNat)))), (9, (.map (some g7582))), (16, (iv p2)), (17, (iv x7567)), (26, (.slice A_p0 p0.length c_p0)), (27, (iv (p0.length : Int))), (28, (iv (w64 (x7630 + 1))))] [] (fun fb => by kernel_rfl) rfl trivial ?_
       refine WL.done rfl ?_
       exact WX.again k7634 (Nat.lt_succ_self _) (x7650, w64 (x7630 + 1)) [0, 7, 8, 9, 16, 17, 26, 27, 28] rfl ⟨(hS7656.subR [0, 1]).sub [0, 1, 2] (by decide), hl7637⟩
      refine WC.condF2 (fun fb => by kernel_rfl) h7638 ?_
      refine WC.exit ?_
      injection hl7637 with hl7637
      exact WX.thenX (WX.thenX (WX.blockHere (WX.to Kx7632 l7629 [0, 7, 9, 16, 17] rfl ⟨(hS7636.subR [0, 1]).sub [0, 1, 2] (by decide), hl7637.symm⟩)))
    rintro y7662 w7659 ⟨hS7660, hq7661⟩
    subst hq7661
    refine WX.next ?_
    refine WC.region ?_
    refine seg 2 [] [0, 16, 17, 40, 41] [(0, (.slice A_p0 p0.length c_p0)), (16, (iv p2)), (17, (iv x7567)), (40, (.slice A7563 l7565.length c7564)), (41, (.map (some g7582)))] [] (fun fb => by kernel_rfl) rfl trivial ?_
    refine WL.new hS7660 42 [] (fun g => (.slice (some ⟨g, 0, none⟩) 1 1)) (.cells #[(.map (some g7582))] 81 (0, 0)) [] (fun fb g => by kernel_rfl) trivial (fun g7663 w7664 hS7665 => ?_)
    refine ⟨trivial, ?_⟩
    have hS7667 : St NoS w w7664 [rowR encN_Row A_p0 c_p0 (tag H_p0 p0), nestO subN_Row H_p0 p0] [rowO 81 (encMap A8_Int Bool) (some ⟨g7663, 0, none⟩) 1 (tag (fun _ => g7582) [some x7632]), rowO 81 (encMap A8_Int Bool) A7563 c7564 (tag H7566 l7565), mapsO (aggI ints_A8_Int) vB H7566 l7565, blk g7582 (mapObj (aggI ints_A8_Int) vB x7632)] := hS7665.map1 0 _ (fun h => rowO.ofBlk h rfl (Nat.le_of_ble_eq_true (by kernel_rfl))) (fun _ h => by obtain ⟨_, h1, h2⟩ := h; injection h1 with h1; subst h1; exact h2) [1, 2, 3] (by decide) (by decide)
    have hS7668 : St NoS w w7664 [rowR encN_Row A_p0 c_p0 (tag H_p0 p0), nestO subN_Row H_p0 p0] [mapsO (aggI ints_A8_Int) vB (fun _ => g7582) [some x7632], rowO 81 (encMap A8_Int Bool) (some ⟨g7663, 0, none⟩) 1 (tag (fun _ => g7582) [some x7632]), rowO 81 (encMap A8_Int Bool) A7563 c7564 (tag H7566 l7565), mapsO (aggI ints_A8_Int) vB H7566 l7565] := hS7667.mapsOne 3 rfl [0, 1, 2] (by decide) (by decide)
    obtain ⟨h7669, hl7577⟩ := as_some hl7577
    refine WL.appendN hS7668 2 (d := 43) (tS := 80) (z := (.map none)) (bytes := 8) (c2 := 1) (hx := g7582) (x := (some x7632)) rfl (fun fb => by kernel_rfl) (rowO.rd (hS7668.own 1).1) (by kernel_rfl) (by kernel_rfl) rfl (by decide) h7669 (by decide) [0, 1, 3] (by decide) (by decide) (fun A7670 c7671 w7672 hS7673 => ?_)
    have hS7674 : St NoS w w7672 [rowR encN_Row A_p0 c_p0 (tag H_p0 p0), nestO subN_Row H_p0 p0] [mapsO (aggI ints_A8_Int) vB (updH H7566 l7565.length g7582) (l7565 ++ [some x7632]), rowO 81 (encMap A8_Int Bool) A7670 c7671 (tag (updH H7566 l7565.length g7582) (l7565 ++ [some x7632])), rowO 81 (encMap A8_Int Bool) (some ⟨g7663, 0, none⟩) 1 (tag (fun _ => g7582) [some x7632])] := hS7673.mapsPush 3 1 rfl rfl (by decide) [0, 2] (by decide) (by decide)
    refine ⟨trivial, ?_⟩
    refine seg 5 [] [0, 7, 16, 17] [(0, (.slice A_p0 p0.length c_p0)), (7, (.slice A7670 (l7565 ++ [some x7632]).length c7671)), (16, (iv p2)), (17, (iv x7567))] [] (fun fb => by kernel_rfl) rfl trivial ?_
    refine WL.done rfl ?_
    refine WX.blockN (WX.next ?_)
    refine WC.region ?_
    refine seg 2 [] [0, 7, 16, 17] [(0, (.slice A_p0 p0.length c_p0)), (7, (.slice A7670 (l7565 ++ [some x7632]).length c7671)), (16, (iv p2)), (17, (iv (w64 (x7567 + 1))))] [] (fun fb => by kernel_rfl) rfl trivial ?_
    refine WL.done rfl ?_
    exact WX.again k7574 (Nat.lt_succ_self _) ((l7565 ++ [some x7632], w64 (x7567 + 1)), A7670, c7671, (updH H7566 l7565.length g7582)) [0, 7, 16, 17] rfl ⟨(hS7674.subR [0, 1]).sub [1, 0] (by decide), hl7577⟩
   refine WC.condF2 (fun fb => by kernel_rfl) h7578 ?_
   refine WC.exit ?_
   injection hl7577 with hl7577
   exact WX.thenX (WX.thenX (WX.blockHere (WX.to Kx7572 (l7565, A7563, c7564, H7566) [7] rfl ⟨(hS7576.subR [0, 1]).sub [0, 1] (by decide), hl7577.symm⟩)))
 rintro ⟨y7678, A7568, c7569, H7571⟩ w7675 ⟨hS7676, hq7677⟩
 subst hq7677
 refine WX.next ?_
 refine WC.seq ?_
 refine WC.region ?_
 refine seg 2 [] [6] [(6, (.slice A7568 x7572.length c7569))] [] (fun fb => by kernel_rfl) rfl trivial ?_
 refine WL.done rfl ?_
 refine WX.next ?_
 refine WC.ret ?_
 injection hf with hf
 subst hf
 exact WX.ret_ [] (.slice A7568 x7572.length c7569) [] (fun fb => by kernel_rfl) trivial ⟨_, rfl, A7568, c7569, H7571, rfl, (hS7676.sub [0, 1] (by decide)).noR⟩
theorem torus_find_key86 : KeyK Try.prog 86 (aggI ints_A8_Int) := KeyK.array (n := 8) (by kernel_rfl) ints_A8_Int (fun _ => rfl) (fun x y h => by cases x; cases y; simp only [ints_A8_Int, List.cons.injEq, and_true] at h; obtain ⟨rfl, rfl, rfl, rfl, rfl, rfl, rfl, rfl⟩ := h; rfl)
theorem torus_find_calls (k : Nat) (p0 : List Tile) (p1 : Int) (p2 : Int) (A_p0 : Option Addr) (c_p0 : Nat) (r : Pattern × Bool) (w : World) (hR0 : RO NoS w (rowR enc_Tile A_p0 c_p0 p0)) (hf : torus_find k p0 p1 p2 = some r) :
  CallsR Try.prog 46 #[(.slice A_p0 p0.length c_p0), (iv p1), (iv p2)] w (fun v w' => ∃ (A1_ : Option Addr), ∃ (c1_ : Nat), v = (.tuple #[(.agg #[(iv r.1.Width), (iv r.1.Height), (.slice A1_ r.1.Cells.length c1_)]), (.bool r.2)]) ∧ St NoS w w' [] [rowO 3 encInt A1_ c1_ r.1.Cells]) := by
 have hS : St NoS w w [rowR enc_Tile A_p0 c_p0 p0] [] := St.init (ro_cons hR0 (ro_nil _ _))
 refine enter 105 Try.func46 rfl Try.ntmps46 rfl ?_
 unfold torus_find at hf
 refine WC.seq ?_
 refine WC.region ?_
 refine WL.new hS 6 [] (fun g => (.pointer (some ⟨g, 0, none⟩))) (.cells #[(iv 0), (iv 0), (.slice none 0 0)] 38 (0, 0)) [] (fun fb g => by kernel_rfl) trivial (fun g7142 w7143 hS7144 => ?_)
 refine ⟨trivial, ?_⟩
 refine seg 2 [] [0, 1, 2, 6] [(0, (.slice A_p0 p0.length c_p0)), (1, (iv p1)), (2, (iv p2)), (6, (pt g7142))] [] (fun fb => by kernel_rfl) rfl trivial ?_
 refine WL.done rfl ?_
 refine WX.next ?_
 refine WC.scope ?_
 refine WC.seq ?_
 refine WC.region ?_
 refine seg 2 [] [1, 2, 6, 19, 20] [(1, (iv p1)), (2, (iv p2)), (6, (pt g7142)), (19, (.slice A_p0 p0.length c_p0)), (20, (iv p1))] [] (fun fb => by kernel_rfl) rfl trivial ?_
 obtain ⟨t7320, ht7321, hf⟩ := bind_some hf
 refine WL.call (some 21) 62 #[(.slice A_p0 p0.length c_p0), (iv p1)] (fun fb => by kernel_rfl) (torus_rings_calls _ p0 p1 A_p0 c_p0 t7320 _ (hS7144.rd 0) ht7321) (fun v w7322 hR7323 => ?_)
 obtain ⟨A7325, c7326, H7327, rfl, hk_⟩ := hR7323
 have hS7324 : St NoS w w7322 [rowR enc_Tile A_p0 c_p0 p0] [rowO 88 encN_Row A7325 c7326 (tag H7327 t7320), poolO [nestO subN_Row H7327 t7320], blk g7142 (.cells #[(iv 0), (iv 0), (.slice none 0 0)] 38 (0, 0))] := hS7144.call hk_ [] [0] (fun g hg => hg.elim) (by simp) (by decide)
 refine ⟨trivial, ?_⟩
 refine seg 4 [] [1, 2, 6, 8] [(1, (iv p1)), (2, (iv p2)), (6, (pt g7142)), (8, (.slice A7325 t7320.length c7326))] [] (fun fb => by kernel_rfl) rfl trivial ?_
 refine WL.done rfl ?_
 refine WX.next ?_
 refine WC.seq ?_
 refine WC.region ?_
 refine WL.new hS7324 22 [] (fun g => (.map (some g))) (mapObj (aggI ints_A8_Int) slV ([] : List (A8_Int × (HM × List (Option (List (A8_Int × Bool))))))) [] (fun fb g => by kernel_rfl) trivial (fun g7328 w7329 hS7330 => ?_)
 have hS7331 : St NoS w w7329 [knestO (aggI ints_A8_Int) vB ([] : List (A8_Int × (HM × List (Option (List (A8_Int × Bool)))))) ([] : List (A8_Int × List (Option (List (A8_Int × Bool))))), rowR enc_Tile A_p0 c_p0 p0] [blk g7328 (mapObj (aggI ints_A8_Int) slV ([] : List (A8_Int × (HM × List (Option (List (A8_Int × Bool))))))), rowO 88 encN_Row A7325 c7326 (tag H7327 t7320), poolO [nestO subN_Row H7327 t7320], blk g7142 (.cells #[(iv 0), (iv 0), (.slice none 0 0)] 38 (0, 0))] := hS7330.addR _ (knestO_nil _ _ _ _)
 refine ⟨trivial, ?_⟩
 refine seg 2 [] [1, 2, 6, 8, 9] [(1, (iv p1)), (2, (iv p2)), (6, (pt g7142)), (8, (.slice A7325 t7320.length c7326)), (9, (.map (some g7328)))] [] (fun fb => by kernel_rfl) rfl trivial ?_
 refine WL.done rfl ?_
 refine WX.next ?_
 refine WC.seq ?_
 refine WC.region ?_
 refine seg 3 [] [2, 6, 8, 9, 25] [(2, (iv p2)), (6, (pt g7142)), (8, (.slice A7325 t7320.length c7326)), (9, (.map (some g7328))), (25, (.agg #[(iv p1), (iv p2), (.slice none 0 0)]))] [] (fun fb => by kernel_rfl) rfl trivial ?_
 refine WL.new hS7331 10 [] (fun g => (.pointer (some ⟨g, 0, none⟩))) (.cells #[(iv 0), (iv 0), (.slice none 0 0)] 38 (0, 0)) [] (fun fb g => by kernel_rfl) trivial (fun g7332 w7333 hS7334 => ?_)
 refine ⟨trivial, ?_⟩
 refine WL.store hS7334 0 rfl [(0, (iv p1)), (1, (iv p2)), (2, (.slice none 0 0))] #[(iv p1), (iv p2), (.slice none 0 0)] (fun fb => by kernel_rfl) (by kernel_rfl) rfl [1, 2, 3, 4] (by decide) (by decide) (fun w7336 hS7337 => ?_)
 refine ⟨trivial, ?_⟩
 refine WL.done rfl ?_
 refine WX.next ?_
 refine WC.seq ?_
 refine WC.label ?_
 refine WX.next ?_
 refine WC.seq ?_
 refine WC.seq ?_
 refine WC.region ?_
 refine seg 3 [] [2, 6, 8, 9, 10, 26, 27, 28] [(2, (iv p2)), (6, (pt g7142)), (8, (.slice A7325 t7320.length c7326)), (9, (.map (some g7328))), (10, (pt g7332)), (26, (.slice A7325 t7320.length c7326)), (27, (iv (t7320.length : Int))), (28, (iv 0))] [] (fun fb => by kernel_rfl) rfl trivial ?_
 refine WL.done rfl ?_
 refine WX.next ?_
 obtain ⟨x8929, hx8930, hf⟩ := bind_some hf
 refine WC.cutN (T := Unit) (fun t => [(6, (pt g7142))]) (fun t w1 => St NoS w w1 [knestO (aggI ints_A8_Int) vB ([] : List (A8_Int × (HM × List (Option (List (A8_Int × Bool)))))) ([] : List (A8_Int × List (Option (List (A8_Int × Bool))))), rowR enc_Tile A_p0 c_p0 p0] [blk g7142 (.cells #[(iv 0), (iv 0), (.slice none 0 0)] 38 (0, 0))] ∧ x8929 = .inr t) (fun Kx8929 => ?_) ?_
 ·
  refine WC.block ?_
  refine WC.loop (T := ((List (A8_Int × List (Option (List (A8_Int × Bool))))) × Int) × (List (A8_Int × (HM × List (Option (List (A8_Int × Bool))))))) (fun t => [(2, (iv p2)), (6, (pt g7142)), (8, (.slice A7325 t7320.length c7326)), (9, (.map (some g7328))), (10, (pt g7332)), (26, (.slice A7325 t7320.length c7326)), (27, (iv (t7320.length : Int))), (28, (iv t.1.2))]) (fun n t w1 => St NoS w w1 [knestO (aggI ints_A8_Int) vB t.2 t.1.1, knestO (aggI ints_A8_Int) vB ([] : List (A8_Int × (HM × List (Option (List (A8_Int × Bool)))))) ([] : List (A8_Int × List (Option (List (A8_Int × Bool))))), rowR enc_Tile A_p0 c_p0 p0] [blk g7142 (.cells #[(iv 0), (iv 0), (.slice none 0 0)] 38 (0, 0)), rowO 88 encN_Row A7325 c7326 (tag H7327 t7320), poolO [nestO subN_Row H7327 t7320], blk g7328 (mapObj (aggI ints_A8_Int) slV t.2), blk g7332 (.cells #[(iv p1), (iv p2), (.slice none 0 0)] 38 (0, 0))] ∧ torus_find.l0 n t.1.1 t.1.2 p1 p2 t7320 = some x8929) k ((([] : List (A8_Int × List (Option (List (A8_Int × Bool))))), 0), ([] : List (A8_Int × (HM × List (Option (List (A8_Int × Bool))))))) [2, 6, 8, 9, 10, 26, 27, 28] rfl ⟨(hS7337.subR [0, 0, 1]).sub [4, 2, 3, 1, 0] (by decide), hx8930⟩ ?_
  rintro k8931 ⟨⟨l8926, x8928⟩, K8927⟩ w8932 ⟨hS8933, hl8934⟩
  cases k8931 with
  | zero => rw [torus_find.l0] at hl8934; cases hl8934
  | succ k8931 =>
   rw [torus_find.l0] at hl8934
   refine WC.seq ?_
   refine WC.region ?_
   refine seg 1 [] [2, 6, 8, 9, 10, 26, 27, 28, 29] [(2, (iv p2)), (6, (pt g7142)), (8, (.slice A7325 t7320.length c7326)), (9, (.map (some g7328))), (10, (pt g7332)), (26, (.slice A7325 t7320.length c7326)), (27, (iv (t7320.length : Int))), (28, (iv x8928)), (29, (.bool (decide (x8928 < (t7320.length : Int)))))] [] (fun fb => by kernel_rfl) rfl trivial ?_
   refine WL.done rfl ?_
   refine WX.next ?_
   refine WC.seq ?_
   rcases br_some hl8934 with ⟨h8935, hl8934⟩ | ⟨h8935, hl8934⟩
   ·refine WC.condT2 (fun fb => by kernel_rfl) h8935 ?_
    refine WC.skip ?_
    refine WX.next ?_
    refine WC.seq ?_
    refine WC.block ?_
    refine WC.seq ?_
    refine WC.region ?_
    obtain ⟨h8936, hl8934⟩ := as_some hl8934
    refine seg 2 [.v (.slice ((H7327 x8928.toNat 0).1) ((rdD t7320 x8928 z_Row).Cells).length ((H7327 x8928.toNat 0).2)), .v (iv (((rdD t7320 x8928 z_Row).South).e0)), .v (iv (((rdD t7320 x8928 z_Row).South).e1)), .v (iv (((rdD t7320 x8928 z_Row).South).e2)), .v (iv (((rdD t7320 x8928 z_Row).South).e3)), .v (iv (((rdD t7320 x8928 z_Row).South).e4)), .v (iv (((rdD t7320 x8928 z_Row).South).e5)), .v (iv (((rdD t7320 x8928 z_Row).South).e6)), .v (iv (((rdD t7320 x8928 z_Row).South).e7)), .v (iv (((rdD t7320 x8928 z_Row).North).e0)), .v (iv (((rdD t7320 x8928 z_Row).North).e1)), .v (iv (((rdD t7320 x8928 z_Row).North).e2)), .v (iv (((rdD t7320 x8928 z_Row).North).e3)), .v (iv (((rdD t7320 x8928 z_Row).North).e4)), .v (iv (((rdD t7320 x8928 z_Row).North).e5)), .v (iv (((rdD t7320 x8928 z_Row).North).e6)), .v (iv (((rdD t7320 x8928 z_Row).North).e7)), .v (iv ((rdD t7320 x8928 z_Row).West)), .v (iv ((rdD t7320 x8928 z_Row).East))] [2, 6, 8, 9, 10, 26, 27, 28, 31] [(2, (iv p2)), (6, (pt g7142)), (8, (.slice A7325 t7320.length c7326)), (9, (.map (some g7328))), (10, (pt g7332)), (26, (.slice A7325 t7320.length c7326)), (27, (iv (t7320.length : Int))), (28, (iv x8928)), (31, (.agg #[(.slice ((H7327 x8928.toNat 0).1) ((rdD t7320 x8928 z_Row).Cells).length ((H7327 x8928.toNat 0).2)), (iv (((rdD t7320 x8928 z_Row).South).e0)), (iv (((rdD t7320 x8928 z_Row).South).e1)), (iv (((rdD t7320 x8928 z_Row).South).e2)), (iv (((rdD t7320 x8928 z_Row).South).e3)), (iv (((rdD t7320 x8928 z_Row).South).e4)), (iv (((rdD t7320 x8928 z_Row).South).e5)), (iv (((rdD t7320 x8928 z_Row).South).e6)), (iv (((rdD t7320 x8928 z_Row).South).e7)), (iv (((rdD t7320 x8928 z_Row).North).e0)), (iv (((rdD t7320 x8928 z_Row).North).e1)), (iv (((rdD t7320 x8928 z_Row).North).e2)), (iv (((rdD t7320 x8928 z_Row).North).e3)), (iv (((rdD t7320 x8928 z_Row).North).e4)), (iv (((rdD t7320 x8928 z_Row).North).e5)), (iv (((rdD t7320 x8928 z_Row).North).e6)), (iv (((rdD t7320 x8928 z_Row).North).e7)), (iv ((rdD t7320 x8928 z_Row).West)), (iv ((rdD t7320 x8928 z_Row).East))]))] [.idx A7325 x8928 t7320.length, .cell ((adr A7325).add ((x8928).toNat * 19)) (.slice ((H7327 x8928.toNat 0).1) ((rdD t7320 x8928 z_Row).Cells).length ((H7327 x8928.toNat 0).2)), .cell (((adr A7325).add ((x8928).toNat * 19)).add 1) (iv (((rdD t7320 x8928 z_Row).South).e0)), .cell (((adr A7325).add ((x8928).toNat * 19)).add 2) (iv (((rdD t7320 x8928 z_Row).South).e1)), .cell (((adr A7325).add ((x8928).toNat * 19)).add 3) (iv (((rdD t7320 x8928 z_Row).South).e2)), .cell (((adr A7325).add ((x8928).toNat * 19)).add 4) (iv (((rdD t7320 x8928 z_Row).South).e3)), .cell (((adr A7325).add ((x8928).toNat * 19)).add 5) (iv (((rdD t7320 x8928 z_Row).South).e4)), .cell (((adr A7325).add ((x8928).toNat * 19)).add 6) (iv (((rdD t7320 x8928 z_Row).South).e5)), .cell (((adr A7325).add ((x8928).toNat * 19)).add 7) (iv (((rdD t7320 x8928 z_Row).South).e6)), .cell (((adr A7325).add ((x8928).toNat * 19)).add 8) (iv (((rdD t7320 x8928 z_Row).South).e7)), .cell (((adr A7325).add ((x8928).toNat * 19)).add 9) (iv (((rdD t7320 x8928 z_Row).North).e0)), .cell (((adr A7325).add ((x8928).toNat * 19)).add 10) (iv (((rdD t7320 x8928 z_Row).North).e1)), .cell (((adr A7325).add ((x8928).toNat * 19)).add 11) (iv (((rdD t7320 x8928 z_Row).North).e2)), .cell (((adr A7325).add ((x8928).toNat * 19)).add 12) (iv (((rdD t7320 x8928 z_Row).North).e3)), .cell (((adr A7325).add ((x8928).toNat * 19)).add 13) (iv (((rdD t7320 x8928 z_Row).North).e4)), .cell (((adr A7325).add ((x8928).toNat * 19)).add 14) (iv (((rdD t7320 x8928 z_Row).North).e5)), .cell (((adr A7325).add ((x8928).toNat * 19)).add 15) (iv (((rdD t7320 x8928 z_Row).North).e6)), .cell (((adr A7325).add ((x8928).toNat * 19)).add 16) (iv (((rdD t7320 x8928 z_Row).North).e7)), .cell (((adr A7325).add ((x8928).toNat * 19)).add 17) (iv ((rdD t7320 x8928 z_Row).West)), .cell (((adr A7325).add ((x8928).toNat * 19)).add 18) (iv ((rdD t7320 x8928 z_Row).East))] (fun fb => by kernel_rfl) rfl ⟨nrow_adr (rowO.rd (hS8933.own 1).1) h8936.1 h8936.2, nrow_cell (rowO.rd (hS8933.own 1).1) z_Row h8936.1 h8936.2 0 rfl, nrow_cell (rowO.rd (hS8933.own 1).1) z_Row h8936.1 h8936.2 1 rfl, nrow_cell (rowO.rd (hS8933.own 1).1) z_Row h8936.1 h8936.2 2 rfl, nrow_cell (rowO.rd (hS8933.own 1).1) z_Row h8936.1 h8936.2 3 rfl, nrow_cell (rowO.rd (hS8933.own 1).1) z_Row h8936.1 h8936.2 4 rfl, nrow_cell (rowO.rd (hS8933.own 1).1) z_Row h8936.1 h8936.2 5 rfl, nrow_cell (rowO.rd (hS8933.own 1).1) z_Row h8936.1 h8936.2 6 rfl, nrow_cell (rowO.rd (hS8933.own 1).1) z_Row h8936.1 h8936.2 7 rfl, nrow_cell (rowO.rd (hS8933.own 1).1) z_Row h8936.1 h8936.2 8 rfl, nrow_cell (rowO.rd (hS8933.own 1).1) z_Row h8936.1 h8936.2 9 rfl, nrow_cell (rowO.rd (hS8933.own 1).1) z_Row h8936.1 h8936.2 10 rfl, nrow_cell (rowO.rd (hS8933.own 1).1) z_Row h8936.1 h8936.2 11 rfl, nrow_cell (rowO.rd (hS8933.own 1).1) z_Row h8936.1 h8936.2 12 rfl, nrow_cell (rowO.rd (hS8933.own 1).1) z_Row h8936.1 h8936.2 13 rfl, nrow_cell (rowO.rd (hS8933.own 1).1) z_Row h8936.1 h8936.2 14 rfl, nrow_cell (rowO.rd (hS8933.own 1).1) z_Row h8936.1 h8936.2 15 rfl, nrow_cell (rowO.rd (hS8933.own 1).1) z_Row h8936.1 h8936.2 16 rfl, nrow_cell (rowO.rd (hS8933.own 1).1) z_Row h8936.1 h8936.2 17 rfl, nrow_cell (rowO.rd (hS8933.own 1).1) z_Row h8936.1 h8936.2 18 rfl, trivial⟩ ?_
    refine WL.new hS8933 12 [] (fun g => (.pointer (some ⟨g, 0, none⟩))) (.cells #[(.slice none 0 0), (iv 0), (iv 0), (iv 0), (iv 0), (iv 0), (iv 0), (iv 0), (iv 0), (iv 0), (iv 0), (iv 0), (iv 0), (iv 0), (iv 0), (iv 0), (iv 0), (iv 0), (iv 0)] 88 (0, 0)) [] (fun fb g => by kernel_rfl) trivial (fun g8937 w8938 hS8939 => ?_)
    refine ⟨trivial, ?_⟩
    refine WL.store hS8939 0 rfl [(0, (.slice ((H7327 x8928.toNat 0).1) ((rdD t7320 x8928 z_Row).Cells).length ((H7327 x8928.toNat 0).2))), (1, (iv (((rdD t7320 x8928 z_Row).South).e0))), (2, (iv (((rdD t7320 x8928 z_Row).South).e1))), (3, (iv (((rdD t7320 x8928 z_Row).South).e2))), (4, (iv (((rdD t7320 x8928 z_Row).South).e3))), (5, (iv (((rdD t7320 x8928 z_Row).South).e4))), (6, (iv (((rdD t7320 x8928 z_Row).South).e5))), (7, (iv (((rdD t7320 x8928 z_Row).South).e6))), (8, (iv (((rdD t7320 x8928 z_Row).South).e7))), (9, (iv (((rdD t7320 x8928 z_Row).North).e0))), (10, (iv (((rdD t7320 x8928 z_Row).North).e1))), (11, (iv (((rdD t7320 x8928 z_Row).North).e2))), (12, (iv (((rdD t7320 x8928 z_Row).North).e3))), (13, (iv (((rdD t7320 x8928 z_Row).North).e4))), (14, (iv (((rdD t7320 x8928 z_Row).North).e5))), (15, (iv (((rdD t7320 x8928 z_Row).North).e6))), (16, (iv (((rdD t7320 x8928 z_Row).North).e7))), (17, (iv ((rdD t7320 x8928 z_Row).West))), (18, (iv ((rdD t7320 x8928 z_Row).East)))] #[(.slice ((H7327 x8928.toNat 0).1) ((rdD t7320 x8928 z_Row).Cells).length ((H7327 x8928.toNat 0).2)), (iv (((rdD t7320 x8928 z_Row).South).e0)), (iv (((rdD t7320 x8928 z_Row).South).e1)), (iv (((rdD t7320 x8928 z_Row).South).e2)), (iv (((rdD t7320 x8928 z_Row).South).e3)), (iv (((rdD t7320 x8928 z_Row).South).e4)), (iv (((rdD t7320 x8928 z_Row).South).e5)), (iv (((rdD t7320 x8928 z_Row).South).e6)), (iv (((rdD t7320 x8928 z_Row).South).e7)), (iv (((rdD t7320 x8928 z_Row).North).e0)), (iv (((rdD t7320 x8928 z_Row).North).e1)), (iv (((rdD t7320 x8928 z_Row).North).e2)), (iv (((rdD t7320 x8928 z_Row).North).e3)), (iv (((rdD t7320 x8928 z_Row).North).e4)), (iv (((rdD t7320 x8928 z_Row).North).e5)), (iv (((rdD t7320 x8928 z_Row).North).e6)), (iv (((rdD t7320 x8928 z_Row).North).e7)), (iv ((rdD t7320 x8928 z_Row).West)), (iv ((rdD t7320 x8928 z_Row).East))] (fun fb => by kernel_rfl) (by kernel_rfl) (by kernel_rfl) [1, 2, 3, 4, 5] (by decide) (by decide) (fun w8941 hS8942 => ?_)
    refine ⟨trivial, ?_⟩
    refine WL.done rfl ?_
    refine WX.next ?_
    refine WC.seq ?_
    refine WC.region ?_
    refine seg 3 [.v (iv (((rdD t7320 x8928 z_Row).South).e0)), .v (iv (((rdD t7320 x8928 z_Row).South).e1)), .v (iv (((rdD t7320 x8928 z_Row).South).e2)), .v (iv (((rdD t7320 x8928 z_Row).South).e3)), .v (iv (((rdD t7320 x8928 z_Row).South).e4)), .v (iv (((rdD t7320 x8928 z_Row).South).e5)), .v (iv (((rdD t7320 x8928 z_Row).South).e6)), .v (iv (((rdD t7320 x8928 z_Row).South).e7))] [2, 6, 8, 9, 10, 12, 26, 27, 28, 33, 35] [(2, (iv p2)), (6, (pt g7142)), (8, (.slice A7325 t7320.length c7326)), (9, (.map (some g7328))), (10, (pt g7332)), (12, (pt g8937)), (26, (.slice A7325 t7320.length c7326)), (27, (iv (t7320.length : Int))), (28, (iv x8928)), (33, (.map (some g7328))), (35, (.agg #[(iv (((rdD t7320 x8928 z_Row).South).e0)), (iv (((rdD t7320 x8928 z_Row).South).e1)), (iv (((rdD t7320 x8928 z_Row).South).e2)), (iv (((rdD t7320 x8928 z_Row).South).e3)), (iv (((rdD t7320 x8928 z_Row).South).e4)), (iv (((rdD t7320 x8928 z_Row).South).e5)), (iv (((rdD t7320 x8928 z_Row).South).e6)), (iv (((rdD t7320 x8928 z_Row).South).e7))]))] [.cell ⟨g8937, 1, none⟩ (iv (((rdD t7320 x8928 z_Row).South).e0)), .cell ⟨g8937, 2, none⟩ (iv (((rdD t7320 x8928 z_Row).South).e1)), .cell ⟨g8937, 3, none⟩ (iv (((rdD t7320 x8928 z_Row).South).e2)), .cell ⟨g8937, 4, none⟩ (iv (((rdD t7320 x8928 z_Row).South).e3)), .cell ⟨g8937, 5, none⟩ (iv (((rdD t7320 x8928 z_Row).South).e4)), .cell ⟨g8937, 6, none⟩ (iv (((rdD t7320 x8928 z_Row).South).e5)), .cell ⟨g8937, 7, none⟩ (iv (((rdD t7320 x8928 z_Row).South).e6)), .cell ⟨g8937, 8, none⟩ (iv (((rdD t7320 x8928 z_Row).South).e7))] (fun fb => by kernel_rfl) rfl ⟨hS8942.cell 0 rfl 1 rfl, hS8942.cell 0 rfl 2 rfl, hS8942.cell 0 rfl 3 rfl, hS8942.cell 0 rfl 4 rfl, hS8942.cell 0 rfl 5 rfl, hS8942.cell 0 rfl 6 rfl, hS8942.cell 0 rfl 7 rfl, hS8942.cell 0 rfl 8 rfl, trivial⟩ ?_
    refine WL.lookup (hS8942.own 4).1 ((rdD t7320 x8928 z_Row).South) (d := 36) (c := true) (t := 104) (kT := 86) (eT := 80) (z := zHM) (kE := (aggI ints_A8_Int)) (vE := slV) (l := K8927) (.tuple #[(.slice ((mget ((rdD t7320 x8928 z_Row).South) zHM K8927).1.1) (mget ((rdD t7320 x8928 z_Row).South) [] l8926).length ((mget ((rdD t7320 x8928 z_Row).South) zHM K8927).1.2.1)), (.bool (mhas ((rdD t7320 x8928 z_Row).South) l8926))]) (fun fb => by kernel_rfl) torus_find_key86 (by kernel_rfl) (fun _ => by kernel_rfl) (by rw [mhas_unK, (knestO.eq (hS8942.rd 0))]; rw [slV_get _ _ (knestO.eq (hS8942.rd 0))]; rfl) ?_
    refine ⟨trivial, ?_⟩
    have hS8943 : St NoS w w8941 [rowR (encMap A8_Int Bool) ((mget ((rdD t7320 x8928 z_Row).South) zHM K8927).1.1) ((mget ((rdD t7320 x8928 z_Row).South) zHM K8927).1.2.1) (tag ((mget ((rdD t7320 x8928 z_Row).South) zHM K8927).1.2.2) (mget ((rdD t7320 x8928 z_Row).South) [] l8926)), knestO (aggI ints_A8_Int) vB K8927 l8926, knestO (aggI ints_A8_Int) vB ([] : List (A8_Int × (HM × List (Option (List (A8_Int × Bool)))))) ([] : List (A8_Int × List (Option (List (A8_Int × Bool))))), rowR enc_Tile A_p0 c_p0 p0] [blk g8937 (.cells #[(.slice ((H7327 x8928.toNat 0).1) ((rdD t7320 x8928 z_Row).Cells).length ((H7327 x8928.toNat 0).2)), (iv (((rdD t7320 x8928 z_Row).South).e0)), (iv (((rdD t7320 x8928 z_Row).South).e1)), (iv (((rdD t7320 x8928 z_Row).South).e2)), (iv (((rdD t7320 x8928 z_Row).South).e3)), (iv (((rdD t7320 x8928 z_Row).South).e4)), (iv (((rdD t7320 x8928 z_Row).South).e5)), (iv (((rdD t7320 x8928 z_Row).South).e6)), (iv (((rdD t7320 x8928 z_Row).South).e7)), (iv (((rdD t7320 x8928 z_Row).North).e0)), (iv (((rdD t7320 x8928 z_Row).North).e1)), (iv (((rdD t7320 x8928 z_Row).North).e2)), (iv (((rdD t7320 x8928 z_Row).North).e3)), (iv (((rdD t7320 x8928 z_Row).North).e4)), (iv (((rdD t7320 x8928 z_Row).North).e5)), (iv (((rdD t7320 x8928 z_Row).North).e6)), (iv (((rdD t7320 x8928 z_Row).North).e7)), (iv ((rdD t7320 x8928 z_Row).West)), (iv ((rdD t7320 x8928 z_Row).East))] 88 (0, 0)), blk g7142 (.cells #[(iv 0), (iv 0), (.slice none 0 0)] 38 (0, 0)), rowO 88 encN_Row A7325 c7326 (tag H7327 t7320), poolO [nestO subN_Row H7327 t7320], blk g7328 (mapObj (aggI ints_A8_Int) slV K8927), blk g7332 (.cells #[(iv p1), (iv p2), (.slice none 0 0)] 38 (0, 0))] := hS8942.addR _ (knestO.row (hS8942.rdL 0) ((rdD t7320 x8928 z_Row).South))
    have hS8944 : St NoS w w8941 [mapsO (aggI ints_A8_Int) vB ((mget ((rdD t7320 x8928 z_Row).South) zHM K8927).1.2.2) (mget ((rdD t7320 x8928 z_Row).South) [] l8926), rowR (encMap A8_Int Bool) ((mget ((rdD t7320 x8928 z_Row).South) zHM K8927).1.1) ((mget ((rdD t7320 x8928 z_Row).South) zHM K8927).1.2.1) (tag ((mget ((rdD t7320 x8928 z_Row).South) zHM K8927).1.2.2) (mget ((rdD t7320 x8928 z_Row).South) [] l8926)), knestO (aggI ints_A8_Int) vB K8927 l8926, knestO (aggI ints_A8_Int) vB ([] : List (A8_Int × (HM × List (Option (List (A8_Int × Bool)))))) ([] : List (A8_Int × List (Option (List (A8_Int × Bool))))), rowR enc_Tile A_p0 c_p0 p0] [blk g8937 (.cells #[(.slice ((H7327 x8928.toNat 0).1) ((rdD t7320 x8928 z_Row).Cells).length ((H7327 x8928.toNat 0).2)), (iv (((rdD t7320 x8928 z_Row).South).e0)), (iv (((rdD t7320 x8928 z_Row).South).e1)), (iv (((rdD t7320 x8928 z_Row).South).e2)), (iv (((rdD t7320 x8928 z_Row).South).e3)), (iv (((rdD t7320 x8928 z_Row).South).e4)), (iv (((rdD t7320 x8928 z_Row).South).e5)), (iv (((rdD t7320 x8928 z_Row).South).e6)), (iv (((rdD t7320 x8928 z_Row).South).e7)), (iv (((rdD t7320 x8928 z_Row).North).e0)), (iv (((rdD t7320 x8928 z_Row).North).e1)), (iv (((rdD t7320 x8928 z_Row).North).e2)), (iv (((rdD t7320 x8928 z_Row).North).e3)), (iv (((rdD t7320 x8928 z_Row).North).e4)), (iv (((rdD t7320 x8928 z_Row).North).e5)), (iv (((rdD t7320 x8928 z_Row).North).e6)), (iv (((rdD t7320 x8928 z_Row).North).e7)), (iv ((rdD t7320 x8928 z_Row).West)), (iv ((rdD t7320 x8928 z_Row).East))] 88 (0, 0)), blk g7142 (.cells #[(iv 0), (iv 0), (.slice none 0 0)] 38 (0, 0)), rowO 88 encN_Row A7325 c7326 (tag H7327 t7320), poolO [nestO subN_Row H7327 t7320], blk g7328 (mapObj (aggI ints_A8_Int) slV K8927), blk g7332 (.cells #[(iv p1), (iv p2), (.slice none 0 0)] 38 (0, 0))] := hS8943.addR _ (knestO.maps (hS8943.rdL 1) ((rdD t7320 x8928 z_Row).South))
    refine seg 9 [] [2, 6, 8, 9, 10, 12, 13, 14, 26, 27, 28] [(2, (iv p2)), (6, (pt g7142)), (8, (.slice A7325 t7320.length c7326)), (9, (.map (some g7328))), (10, (pt g7332)), (12, (pt g8937)), (13, (.slice ((mget ((rdD t7320 x8928 z_Row).South) zHM K8927).1.1) (mget ((rdD t7320 x8928 z_Row).South) [] l8926).length ((mget ((rdD t7320 x8928 z_Row).South) zHM K8927).1.2.1))), (14, (.bool (mhas ((rdD t7320 x8928 z_Row).South) l8926))), (26, (.slice A7325 t7320.length c7326)), (27, (iv (t7320.length : Int))), (28, (iv x8928))] [] (fun fb => by kernel_rfl) rfl trivial ?_
    refine WL.done rfl ?_
    refine WX.next ?_
    refine WC.seq ?_
    refine WC.seq ?_
    refine WC.region ?_
    refine seg 2 [] [2, 6, 8, 9, 10, 12, 13, 26, 27, 28, 40] [(2, (iv p2)), (6, (pt g7142)), (8, (.slice A7325 t7320.length c7326)), (9, (.map (some g7328))), (10, (pt g7332)), (12, (pt g8937)), (13, (.slice ((mget ((rdD t7320 x8928 z_Row).South) zHM K8927).1.1) (mget ((rdD t7320 x8928 z_Row).South) [] l8926).length ((mget ((rdD t7320 x8928 z_Row).South) zHM K8927).1.2.1))), (26, (.slice A7325 t7320.length c7326)), (27, (iv (t7320.length : Int))), (28, (iv x8928)), (40, (.bool (!(mhas ((rdD t7320 x8928 z_Row).South) l8926))))] [] (fun fb => by kernel_rfl) rfl trivial ?_
    refine WL.done rfl ?_
    refine WX.next ?_
    obtain ⟨x8965, hx8966, hl8934⟩ := bind_some hl8934
    refine WC.cutN (T := ((List (A8_Int × List (Option (List (A8_Int × Bool))))) × (List (Option (List (A8_Int × Bool))))) × (List (A8_Int × (HM × List (Option (List (A8_Int × Bool)))))) × (Option Addr) × Nat × (Nat → Nat)) (fun t => [(2, (iv p2)), (6, (pt g7142)), (8, (.slice A7325 t7320.length c7326)), (9, (.map (some g7328))), (10, (pt g7332)), (12, (pt g8937)), (13, (.slice t.2.2.1 t.1.2.length t.2.2.2.1)), (26, (.slice A7325 t7320.length c7326)), (27, (iv (t7320.length : Int))), (28, (iv x8928))]) (fun t w1 => St NoS w w1 [knestO (aggI ints_A8_Int) vB t.2.1 t.1.1, rowR (encMap A8_Int Bool) t.2.2.1 t.2.2.2.1 (tag t.2.2.2.2 t.1.2), mapsO (aggI ints_A8_Int) vB t.2.2.2.2 t.1.2, mapsO (aggI ints_A8_Int) vB ((mget ((rdD t7320 x8928 z_Row).South) zHM K8927).1.2.2) (mget ((rdD t7320 x8928 z_Row).South) [] l8926), rowR (encMap A8_Int Bool) ((mget ((rdD t7320 x8928 z_Row).South) zHM K8927).1.1) ((mget ((rdD t7320 x8928 z_Row).South) zHM K8927).1.2.1) (tag ((mget ((rdD t7320 x8928 z_Row).South) zHM K8927).1.2.2) (mget ((rdD t7320 x8928 z_Row).South) [] l8926)), knestO (aggI ints_A8_Int) vB K8927 l8926, knestO (aggI ints_A8_Int) vB ([] : List (A8_Int × (HM × List (Option (List (A8_Int × Bool)))))) ([] : List (A8_Int × List (Option (List (A8_Int × Bool))))), rowR enc_Tile A_p0 c_p0 p0] [blk g7142 (.cells #[(iv 0), (iv 0), (.slice none 0 0)] 38 (0, 0)), rowO 88 encN_Row A7325 c7326 (tag H7327 t7320), poolO [nestO subN_Row H7327 t7320], blk g7328 (mapObj (aggI ints_A8_Int) slV t.2.1), blk g7332 (.cells #[(iv p1), (iv p2), (.slice none 0 0)] 38 (0, 0)), blk g8937 (.cells #[(.slice ((H7327 x8928.toNat 0).1) ((rdD t7320 x8928 z_Row).Cells).length ((H7327 x8928.toNat 0).2)), (iv (((rdD t7320 x8928 z_Row).South).e0)), (iv (((rdD t7320 x8928 z_Row).South).e1)), (iv (((rdD t7320 x8928 z_Row).South).e2)), (iv (((rdD t7320 x8928 z_Row).South).e3)), (iv (((rdD t7320 x8928 z_Row).South).e4)), (iv (((rdD t7320 x8928 z_Row).South).e5)), (iv (((rdD t7320 x8928 z_Row).South).e6)), (iv (((rdD t7320 x8928 z_Row).South).e7)), (iv (((rdD t7320 x8928 z_Row).North).e0)), (iv (((rdD t7320 x8928 z_Row).North).e1)), (iv (((rdD t7320 x8928 z_Row).North).e2)), (iv (((rdD t7320 x8928 z_Row).North).e3)), (iv (((rdD t7320 x8928 z_Row).North).e4)), (iv (((rdD t7320 x8928 z_Row).North).e5)), (iv (((rdD t7320 x8928 z_Row).North).e6)), (iv (((rdD t7320 x8928 z_Row).North).e7)), (iv ((rdD t7320 x8928 z_Row).West)), (iv ((rdD t7320 x8928 z_Row).East))] 88 (0, 0))] ∧ x8965 = t.1) (fun Kx8965 => ?_) ?_
    ·
     rcases br_some hx8966 with ⟨h8967, hx8966⟩ | ⟨h8967, hx8966⟩
     ·refine WC.condT2 (fun fb => by kernel_rfl) h8967 ?_
      refine WC.seq ?_
      refine WC.region ?_
      refine seg 5 [.v (iv (((rdD t7320 x8928 z_Row).South).e0)), .v (iv (((rdD t7320 x8928 z_Row).South).e1)), .v (iv (((rdD t7320 x8928 z_Row).South).e2)), .v (iv (((rdD t7320 x8928 z_Row).South).e3)), .v (iv (((rdD t7320 x8928 z_Row).South).e4)), .v (iv (((rdD t7320 x8928 z_Row).South).e5)), .v (iv (((rdD t7320 x8928 z_Row).South).e6)), .v (iv (((rdD t7320 x8928 z_Row).South).e7))] [2, 6, 8, 9, 10, 12, 26, 27, 28, 41, 43, 45] [(2, (iv p2)), (6, (pt g7142)), (8, (.slice A7325 t7320.length c7326)), (9, (.map (some g7328))), (10, (pt g7332)), (12, (pt g8937)), (26, (.slice A7325 t7320.length c7326)), (27, (iv (t7320.length : Int))), (28, (iv x8928)), (41, (.slice A7325 t7320.length c7326)), (43, (.agg #[(iv (((rdD t7320 x8928 z_Row).South).e0)), (iv (((rdD t7320 x8928 z_Row).South).e1)), (iv (((rdD t7320 x8928 z_Row).South).e2)), (iv (((rdD t7320 x8928 z_Row).South).e3)), (iv (((rdD t7320 x8928 z_Row).South).e4)), (iv (((rdD t7320 x8928 z_Row).South).e5)), (iv (((rdD t7320 x8928 z_Row).South).e6)), (iv (((rdD t7320 x8928 z_Row).South).e7))])), (45, (iv (w64 (p2 - 1))))] [.cell ⟨g8937, 1, none⟩ (iv (((rdD t7320 x8928 z_Row).South).e0)), .cell ⟨g8937, 2, none⟩ (iv (((rdD t7320 x8928 z_Row).South).e1)), .cell ⟨g8937, 3, none⟩ (iv (((rdD t7320 x8928 z_Row).South).e2)), .cell ⟨g8937, 4, none⟩ (iv (((rdD t7320 x8928 z_Row).South).e3)), .cell ⟨g8937, 5, none⟩ (iv (((rdD t7320 x8928 z_Row).South).e4)), .cell ⟨g8937, 6, none⟩ (iv (((rdD t7320 x8928 z_Row).South).e5)), .cell ⟨g8937, 7, none⟩ (iv (((rdD t7320 x8928 z_Row).South).e6)), .cell ⟨g8937, 8, none⟩ (iv (((rdD t7320 x8928 z_Row).South).e7))] (fun fb => by kernel_rfl) rfl ⟨hS8944.cell 0 rfl 1 rfl, hS8944.cell 0 rfl 2 rfl, hS8944.cell 0 rfl 3 rfl, hS8944.cell 0 rfl 4 rfl, hS8944.cell 0 rfl 5 rfl, hS8944.cell 0 rfl 6 rfl, hS8944.cell 0 rfl 7 rfl, hS8944.cell 0 rfl 8 rfl, trivial⟩ ?_
      obtain ⟨t8968, ht8969, hx8966⟩ := bind_some hx8966
      refine WL.call (some 46) 63 #[(.slice A7325 t7320.length c7326), (.agg #[(iv (((rdD t7320 x8928 z_Row).South).e0)), (iv (((rdD t7320 x8928 z_Row).South).e1)), (iv (((rdD t7320 x8928 z_Row).South).e2)), (iv (((rdD t7320 x8928 z_Row).South).e3)), (iv (((rdD t7320 x8928 z_Row).South).e4)), (iv (((rdD t7320 x8928 z_Row).South).e5)), (iv (((rdD t7320 x8928 z_Row).South).e6)), (iv (((rdD t7320 x8928 z_Row).South).e7))]), (iv (w64 (p2 - 1)))] (fun fb => by kernel_rfl) (torus_back_calls _ t7320 ((rdD t7320 x8928 z_Row).South) (w64 (p2 - 1)) A7325 c7326 H7327 t8968 _ (hS8944.ow 2).ofO (poolO.ro (hS8944.ow 3) 0) ht8969) (fun v w8970 hR8971 => ?_)
      obtain ⟨A8973, c8974, H8975, rfl, hk_⟩ := hR8971
      have hS8972 : St NoS w w8970 [mapsO (aggI ints_A8_Int) vB ((mget ((rdD t7320 x8928 z_Row).South) zHM K8927).1.2.2) (mget ((rdD t7320 x8928 z_Row).South) [] l8926), rowR (encMap A8_Int Bool) ((mget ((rdD t7320 x8928 z_Row).South) zHM K8927).1.1) ((mget ((rdD t7320 x8928 z_Row).South) zHM K8927).1.2.1) (tag ((mget ((rdD t7320 x8928 z_Row).South) zHM K8927).1.2.2) (mget ((rdD t7320 x8928 z_Row).South) [] l8926)), knestO (aggI ints_A8_Int) vB K8927 l8926, knestO (aggI ints_A8_Int) vB ([] : List (A8_Int × (HM × List (Option (List (A8_Int × Bool)))))) ([] : List (A8_Int × List (Option (List (A8_Int × Bool))))), rowR enc_Tile A_p0 c_p0 p0] [rowO 81 (encMap A8_Int Bool) A8973 c8974 (tag H8975 t8968), mapsO (aggI ints_A8_Int) vB H8975 t8968, blk g8937 (.cells #[(.slice ((H7327 x8928.toNat 0).1) ((rdD t7320 x8928 z_Row).Cells).length ((H7327 x8928.toNat 0).2)), (iv (((rdD t7320 x8928 z_Row).South).e0)), (iv (((rdD t7320 x8928 z_Row).South).e1)), (iv (((rdD t7320 x8928 z_Row).South).e2)), (iv (((rdD t7320 x8928 z_Row).South).e3)), (iv (((rdD t7320 x8928 z_Row).South).e4)), (iv (((rdD t7320 x8928 z_Row).South).e5)), (iv (((rdD t7320 x8928 z_Row).South).e6)), (iv (((rdD t7320 x8928 z_Row).South).e7)), (iv (((rdD t7320 x8928 z_Row).North).e0)), (iv (((rdD t7320 x8928 z_Row).North).e1)), (iv (((rdD t7320 x8928 z_Row).North).e2)), (iv (((rdD t7320 x8928 z_Row).North).e3)), (iv (((rdD t7320 x8928 z_Row).North).e4)), (iv (((rdD t7320 x8928 z_Row).North).e5)), (iv (((rdD t7320 x8928 z_Row).North).e6)), (iv (((rdD t7320 x8928 z_Row).North).e7)), (iv ((rdD t7320 x8928 z_Row).West)), (iv ((rdD t7320 x8928 z_Row).East))] 88 (0, 0)), blk g7142 (.cells #[(iv 0), (iv 0), (.slice none 0 0)] 38 (0, 0)), rowO 88 encN_Row A7325 c7326 (tag H7327 t7320), poolO [nestO subN_Row H7327 t7320], blk g7328 (mapObj (aggI ints_A8_Int) slV K8927), blk g7332 (.cells #[(iv p1), (iv p2), (.slice none 0 0)] 38 (0, 0))] := hS8944.call hk_ [] [0, 1, 2, 3, 4, 5] (fun g hg => hg.elim) (by simp) (by decide)
      refine ⟨trivial, ?_⟩
      refine seg 7 [] [2, 6, 8, 9, 10, 12, 13, 26, 27, 28] [(2, (iv p2)), (6, (pt g7142)), (8, (.slice A7325 t7320.length c7326)), (9, (.map (some g7328))), (10, (pt g7332)), (12, (pt g8937)), (13, (.slice A8973 t8968.length c8974)), (26, (.slice A7325 t7320.length c7326)), (27, (iv (t7320.length : Int))), (28, (iv x8928))] [] (fun fb => by kernel_rfl) rfl trivial ?_
      refine WL.done rfl ?_
      refine WX.next ?_
      refine WC.region ?_
      refine seg 4 [.v (iv (((rdD t7320 x8928 z_Row).South).e0)), .v (iv (((rdD t7320 x8928 z_Row).South).e1)), .v (iv (((rdD t7320 x8928 z_Row).South).e2)), .v (iv (((rdD t7320 x8928 z_Row).South).e3)), .v (iv (((rdD t7320 x8928 z_Row).South).e4)), .v (iv (((rdD t7320 x8928 z_Row).South).e5)), .v (iv (((rdD t7320 x8928 z_Row).South).e6)), .v (iv (((rdD t7320 x8928 z_Row).South).e7))] [2, 6, 8, 9, 10, 12, 13, 26, 27, 28, 47, 49, 50] [(2, (iv p2)), (6, (pt g7142)), (8, (.slice A7325 t7320.length c7326)), (9, (.map (some g7328))), (10, (pt g7332)), (12, (pt g8937)), (13, (.slice A8973 t8968.length c8974)), (26, (.slice A7325 t7320.length c7326)), (27, (iv (t7320.length : Int))), (28, (iv x8928)), (47, (.map (some g7328))), (49, (.agg #[(iv (((rdD t7320 x8928 z_Row).South).e0)), (iv (((rdD t7320 x8928 z_Row).South).e1)), (iv (((rdD t7320 x8928 z_Row).South).e2)), (iv (((rdD t7320 x8928 z_Row).South).e3)), (iv (((rdD t7320 x8928 z_Row).South).e4)), (iv (((rdD t7320 x8928 z_Row).South).e5)), (iv (((rdD t7320 x8928 z_Row).South).e6)), (iv (((rdD t7320 x8928 z_Row).South).e7))])), (50, (.slice A8973 t8968.length c8974))] [.cell ⟨g8937, 1, none⟩ (iv (((rdD t7320 x8928 z_Row).South).e0)), .cell ⟨g8937, 2, none⟩ (iv (((rdD t7320 x8928 z_Row).South).e1)), .cell ⟨g8937, 3, none⟩ (iv (((rdD t7320 x8928 z_Row).South).e2)), .cell ⟨g8937, 4, none⟩ (iv (((rdD t7320 x8928 z_Row).South).e3)), .cell ⟨g8937, 5, none⟩ (iv (((rdD t7320 x8928 z_Row).South).e4)), .cell ⟨g8937, 6, none⟩ (iv (((rdD t7320 x8928 z_Row).South).e5)), .cell ⟨g8937, 7, none⟩ (iv (((rdD t7320 x8928 z_Row).South).e6)), .cell ⟨g8937, 8, none⟩ (iv (((rdD t7320 x8928 z_Row).South).e7))] (fun fb => by kernel_rfl) rfl ⟨hS8972.cell 2 rfl 1 rfl, hS8972.cell 2 rfl 2 rfl, hS8972.cell 2 rfl 3 rfl, hS8972.cell 2 rfl 4 rfl, hS8972.cell 2 rfl 5 rfl, hS8972.cell 2 rfl 6 rfl, hS8972.cell 2 rfl 7 rfl, hS8972.cell 2 rfl 8 rfl, trivial⟩ ?_
      have hS8976 : St NoS w w8970 [mapsO (aggI ints_A8_Int) vB H8975 t8968, mapsO (aggI ints_A8_Int) vB ((mget ((rdD t7320 x8928 z_Row).South) zHM K8927).1.2.2) (mget ((rdD t7320 x8928 z_Row).South) [] l8926), rowR (encMap A8_Int Bool) ((mget ((rdD t7320 x8928 z_Row).South) zHM K8927).1.1) ((mget ((rdD t7320 x8928 z_Row).South) zHM K8927).1.2.1) (tag ((mget ((rdD t7320 x8928 z_Row).South) zHM K8927).1.2.2) (mget ((rdD t7320 x8928 z_Row).South) [] l8926)), knestO (aggI ints_A8_Int) vB K8927 l8926, knestO (aggI ints_A8_Int) vB ([] : List (A8_Int × (HM × List (Option (List (A8_Int × Bool)))))) ([] : List (A8_Int × List (Option (List (A8_Int × Bool))))), rowR enc_Tile A_p0 c_p0 p0] [rowO 81 (encMap A8_Int Bool) A8973 c8974 (tag H8975 t8968), blk g8937 (.cells #[(.slice ((H7327 x8928.toNat 0).1) ((rdD t7320 x8928 z_Row).Cells).length ((H7327 x8928.toNat 0).2)), (iv (((rdD t7320 x8928 z_Row).South).e0)), (iv (((rdD t7320 x8928 z_Row).South).e1)), (iv (((rdD t7320 x8928 z_Row).South).e2)), (iv (((rdD t7320 x8928 z_Row).South).e3)), (iv (((rdD t7320 x8928 z_Row).South).e4)), (iv (((rdD t7320 x8928 z_Row).South).e5)), (iv (((rdD t7320 x8928 z_Row).South).e6)), (iv (((rdD t7320 x8928 z_Row).South).e7)), (iv (((rdD t7320 x8928 z_Row).North).e0)), (iv (((rdD t7320 x8928 z_Row).North).e1)), (iv (((rdD t7320 x8928 z_Row).North).e2)), (iv (((rdD t7320 x8928 z_Row).North).e3)), (iv (((rdD t7320 x8928 z_Row).North).e4)), (iv (((rdD t7320 x8928 z_Row).North).e5)), (iv (((rdD t7320 x8928 z_Row).North).e6)), (iv (((rdD t7320 x8928 z_Row).North).e7)), (iv ((rdD t7320 x8928 z_Row).West)), (iv ((rdD t7320 x8928 z_Row).East))] 88 (0, 0)), blk g7142 (.cells #[(iv 0), (iv 0), (.slice none 0 0)] 38 (0, 0)), rowO 88 encN_Row A7325 c7326 (tag H7327 t7320), poolO [nestO subN_Row H7327 t7320], blk g7328 (mapObj (aggI ints_A8_Int) slV K8927), blk g7332 (.cells #[(iv p1), (iv p2), (.slice none 0 0)] 38 (0, 0))] := hS8972.freezeO 1 [0, 2, 3, 4, 5, 6, 7] (by decide) (by decide)
      have hS8977 : St NoS w w8970 [rowR (encMap A8_Int Bool) A8973 c8974 (tag H8975 t8968), mapsO (aggI ints_A8_Int) vB H8975 t8968, mapsO (aggI ints_A8_Int) vB ((mget ((rdD t7320 x8928 z_Row).South) zHM K8927).1.2.2) (mget ((rdD t7320 x8928 z_Row).South) [] l8926), rowR (encMap A8_Int Bool) ((mget ((rdD t7320 x8928 z_Row).South) zHM K8927).1.1) ((mget ((rdD t7320 x8928 z_Row).South) zHM K8927).1.2.1) (tag ((mget ((rdD t7320 x8928 z_Row).South) zHM K8927).1.2.2) (mget ((rdD t7320 x8928 z_Row).South) [] l8926)), knestO (aggI ints_A8_Int) vB K8927 l8926, knestO (aggI ints_A8_Int) vB ([] : List (A8_Int × (HM × List (Option (List (A8_Int × Bool)))))) ([] : List (A8_Int × List (Option (List (A8_Int × Bool))))), rowR enc_Tile A_p0 c_p0 p0] [blk g8937 (.cells #[(.slice ((H7327 x8928.toNat 0).1) ((rdD t7320 x8928 z_Row).Cells).length ((H7327 x8928.toNat 0).2)), (iv (((rdD t7320 x8928 z_Row).South).e0)), (iv (((rdD t7320 x8928 z_Row).South).e1)), (iv (((rdD t7320 x8928 z_Row).South).e2)), (iv (((rdD t7320 x8928 z_Row).South).e3)), (iv (((rdD t7320 x8928 z_Row).South).e4)), (iv (((rdD t7320 x8928 z_Row).South).e5)), (iv (((rdD t7320 x8928 z_Row).South).e6)), (iv (((rdD t7320 x8928 z_Row).South).e7)), (iv (((rdD t7320 x8928 z_Row).North).e0)), (iv (((rdD t7320 x8928 z_Row).North).e1)), (iv (((rdD t7320 x8928 z_Row).North).e2)), (iv (((rdD t7320 x8928 z_Row).North).e3)), (iv (((rdD t7320 x8928 z_Row).North).e4)), (iv (((rdD t7320 x8928 z_Row).North).e5)), (iv (((rdD t7320 x8928 z_Row).North).e6)), (iv (((rdD t7320 x8928 z_Row).North).e7)), (iv ((rdD t7320 x8928 z_Row).West)), (iv ((rdD t7320 x8928 z_Row).East))] 88 (0, 0)), blk g7142 (.cells #[(iv 0), (iv 0), (.slice none 0 0)] 38 (0, 0)), rowO 88 encN_Row A7325 c7326 (tag H7327 t7320), poolO [nestO subN_Row H7327 t7320], blk g7328 (mapObj (aggI ints_A8_Int) slV K8927), blk g7332 (.cells #[(iv p1), (iv p2), (.slice none 0 0)] 38 (0, 0))] := hS8976.freezeRow 0 rfl [1, 2, 3, 4, 5, 6] (by decide) (by decide)
      refine WL.mapput hS8977 4 (t := 104) (kT := 86) (eT := 80) (kE := (aggI ints_A8_Int)) (vE := slV) (l := K8927) rfl ((rdD t7320 x8928 z_Row).South) ((A8973, c8974, H8975), t8968) (fun fb => by kernel_rfl) torus_find_key86 (by kernel_rfl) [0, 1, 2, 3, 5] (by decide) (by decide) (fun w8978 hS8979 => ?_)
      have hS8980 : St NoS w w8978 [knestO (aggI ints_A8_Int) vB (mput ((rdD t7320 x8928 z_Row).South) ((A8973, c8974, H8975), t8968) K8927) (mput ((rdD t7320 x8928 z_Row).South) t8968 l8926), rowR (encMap A8_Int Bool) A8973 c8974 (tag H8975 t8968), mapsO (aggI ints_A8_Int) vB H8975 t8968, mapsO (aggI ints_A8_Int) vB ((mget ((rdD t7320 x8928 z_Row).South) zHM K8927).1.2.2) (mget ((rdD t7320 x8928 z_Row).South) [] l8926), rowR (encMap A8_Int Bool) ((mget ((rdD t7320 x8928 z_Row).South) zHM K8927).1.1) ((mget ((rdD t7320 x8928 z_Row).South) zHM K8927).1.2.1) (tag ((mget ((rdD t7320 x8928 z_Row).South) zHM K8927).1.2.2) (mget ((rdD t7320 x8928 z_Row).South) [] l8926)), knestO (aggI ints_A8_Int) vB K8927 l8926, knestO (aggI ints_A8_Int) vB ([] : List (A8_Int × (HM × List (Option (List (A8_Int × Bool)))))) ([] : List (A8_Int × List (Option (List (A8_Int × Bool))))), rowR enc_Tile A_p0 c_p0 p0] [blk g7328 (mapObj (aggI ints_A8_Int) slV (mput ((rdD t7320 x8928 z_Row).South) ((A8973, c8974, H8975), t8968) K8927)), blk g8937 (.cells #[(.slice ((H7327 x8928.toNat 0).1) ((rdD t7320 x8928 z_Row).Cells).length ((H7327 x8928.toNat 0).2)), (iv (((rdD t7320 x8928 z_Row).South).e0)), (iv (((rdD t7320 x8928 z_Row).South).e1)), (iv (((rdD t7320 x8928 z_Row).South).e2)), (iv (((rdD t7320 x8928 z_Row).South).e3)), (iv (((rdD t7320 x8928 z_Row).South).e4)), (iv (((rdD t7320 x8928 z_Row).South).e5)), (iv (((rdD t7320 x8928 z_Row).South).e6)), (iv (((rdD t7320 x8928 z_Row).South).e7)), (iv (((rdD t7320 x8928 z_Row).North).e0)), (iv (((rdD t7320 x8928 z_Row).North).e1)), (iv (((rdD t7320 x8928 z_Row).North).e2)), (iv (((rdD t7320 x8928 z_Row).North).e3)), (iv (((rdD t7320 x8928 z_Row).North).e4)), (iv (((rdD t7320 x8928 z_Row).North).e5)), (iv (((rdD t7320 x8928 z_Row).North).e6)), (iv (((rdD t7320 x8928 z_Row).North).e7)), (iv ((rdD t7320 x8928 z_Row).West)), (iv ((rdD t7320 x8928 z_Row).East))] 88 (0, 0)), blk g7142 (.cells #[(iv 0), (iv 0), (.slice none 0 0)] 38 (0, 0)), rowO 88 encN_Row A7325 c7326 (tag H7327 t7320), poolO [nestO subN_Row H7327 t7320], blk g7332 (.cells #[(iv p1), (iv p2), (.slice none 0 0)] 38 (0, 0))] := hS8979.addR _ (knestO.put (hS8979.rdL 4) ((rdD t7320 x8928 z_Row).South) (hS8979.rdL 0) (hS8979.rdL 1))
      refine ⟨trivial, ?_⟩
      refine WL.done rfl ?_
      injection hx8966 with hx8966
      exact WX.to Kx8965 ((mput ((rdD t7320 x8928 z_Row).South) t8968 l8926, t8968), mput ((rdD t7320 x8928 z_Row).South) ((A8973, c8974, H8975), t8968) K8927, A8973, c8974, H8975) [2, 6, 8, 9, 10, 12, 13, 26, 27, 28] rfl ⟨(hS8980.subR [0, 1, 2, 3, 4, 5, 6, 7]).sub [2, 3, 4, 0, 5, 1] (by decide), hx8966.symm⟩
     refine WC.condF2 (fun fb => by kernel_rfl) h8967 ?_
     refine WC.skip ?_
     injection hx8966 with hx8966
     exact WX.to Kx8965 ((l8926, (mget ((rdD t7320 x8928 z_Row).South) [] l8926)), K8927, (mget ((rdD t7320 x8928 z_Row).South) zHM K8927).1.1, (mget ((rdD t7320 x8928 z_Row).South) zHM K8927).1.2.1, ((mget ((rdD t7320 x8928 z_Row).South) zHM K8927).1.2.2)) [2, 6, 8, 9, 10, 12, 13, 26, 27, 28] rfl ⟨(hS8944.subR [2, 1, 0, 0, 1, 2, 3, 4]).sub [1, 2, 3, 4, 5, 0] (by decide), hx8966.symm⟩
    rintro ⟨y8984, K8960, A8961, c8962, H8964⟩ w8981 ⟨hS8982, hq8983⟩
    subst hq8983
    refine WX.next ?_
    refine WC.seq ?_
    refine WC.seq ?_
    obtain ⟨h8993, hl8934⟩ := as_some hl8934
    obtain ⟨m8994, hm8995, hl8934⟩ := bind_some hl8934
    refine WC.regionD ([(4, ((adr A8961).add ((w64 (p2 - 1)).toNat * 1)), (.map (some (H8964 (w64 (p2 - 1)).toNat)))), (6, ⟨g8937, 9, none⟩, (iv (((rdD t7320 x8928 z_Row).North).e0))), (6, ⟨g8937, 10, none⟩, (iv (((rdD t7320 x8928 z_Row).North).e1))), (6, ⟨g8937, 11, none⟩, (iv (((rdD t7320 x8928 z_Row).North).e2))), (6, ⟨g8937, 12, none⟩, (iv (((rdD t7320 x8928 z_Row).North).e3))), (6, ⟨g8937, 13, none⟩, (iv (((rdD t7320 x8928 z_Row).North).e4))), (6, ⟨g8937, 14, none⟩, (iv (((rdD t7320 x8928 z_Row).North).e5))), (6, ⟨g8937, 15, none⟩, (iv (((rdD t7320 x8928 z_Row).North).e6))), (6, ⟨g8937, 16, none⟩, (iv (((rdD t7320 x8928 z_Row).North).e7)))], [0, 1, 2, 3, 4, 5, 6, 8], [[], [], [1], [0, 1, 2], [0, 1, 2, 3], [], [5], [0, 1, 2, 3, 4, 5, 6], [0, 1, 2, 3, 4, 5, 6, 7]]) [[0, 1, 2, 3, 4, 5, 6, 7, 8]] (by kernel_rfl) (by kernel_rfl) (NoPanic.seq (NoPanic.seq (NoPanic.block (NoPanic.seq (NoPanic.seq (NoPanic.block (NoPanic.seq (NoPanic.scope (NoPanic.body))))))))) ?_
    have hS8989 := hS8982.drew
    revert hS8989
    generalize World.drew w8981 = w8988
    intro hS8989
    refine ⟨⟨nrow_cell (hS8989.rd 1).1 none h8993.1 h8993.2 0 (mapV_some hm8995), hS8989.cell 5 rfl 9 rfl, hS8989.cell 5 rfl 10 rfl, hS8989.cell 5 rfl 11 rfl, hS8989.cell 5 rfl 12 rfl, hS8989.cell 5 rfl 13 rfl, hS8989.cell 5 rfl 14 rfl, hS8989.cell 5 rfl 15 rfl, hS8989.cell 5 rfl 16 rfl, trivial⟩, forallC ?_ (forallN)⟩
    refine segF 7 [.v (.map (some (H8964 (w64 (p2 - 1)).toNat))), .v (iv (((rdD t7320 x8928 z_Row).North).e0)), .v (iv (((rdD t7320 x8928 z_Row).North).e1)), .v (iv (((rdD t7320 x8928 z_Row).North).e2)), .v (iv (((rdD t7320 x8928 z_Row).North).e3)), .v (iv (((rdD t7320 x8928 z_Row).North).e4)), .v (iv (((rdD t7320 x8928 z_Row).North).e5)), .v (iv (((rdD t7320 x8928 z_Row).North).e6)), .v (iv (((rdD t7320 x8928 z_Row).North).e7))] [2, 6, 8, 9, 10, 12, 13, 26, 27, 28, 55, 57] [(2, (iv p2)), (6, (pt g7142)), (8, (.slice A7325 t7320.length c7326)), (9, (.map (some g7328))), (10, (pt g7332)), (12, (pt g8937)), (13, (.slice A8961 x8965.2.length c8962)), (26, (.slice A7325 t7320.length c7326)), (27, (iv (t7320.length : Int))), (28, (iv x8928)), (55, (.map (some (H8964 (w64 (p2 - 1)).toNat)))), (57, (.agg #[(iv (((rdD t7320 x8928 z_Row).North).e0)), (iv (((rdD t7320 x8928 z_Row).North).e1)), (iv (((rdD t7320 x8928 z_Row).North).e2)), (iv (((rdD t7320 x8928 z_Row).North).e3)), (iv (((rdD t7320 x8928 z_Row).North).e4)), (iv (((rdD t7320 x8928 z_Row).North).e5)), (iv (((rdD t7320 x8928 z_Row).North).e6)), (iv (((rdD t7320 x8928 z_Row).North).e7))]))] [.idx A8961 (w64 (p2 - 1)) x8965.2.length] [0, 1, 2, 3, 4, 5, 6, 7, 8] [(4, ((adr A8961).add ((w64 (p2 - 1)).toNat * 1)), (.map (some (H8964 (w64 (p2 - 1)).toNat)))), (6, ⟨g8937, 9, none⟩, (iv (((rdD t7320 x8928 z_Row).North).e0))), (6, ⟨g8937, 10, none⟩, (iv (((rdD t7320 x8928 z_Row).North).e1))), (6, ⟨g8937, 11, none⟩, (iv (((rdD t7320 x8928 z_Row).North).e2))), (6, ⟨g8937, 12, none⟩, (iv (((rdD t7320 x8928 z_Row).North).e3))), (6, ⟨g8937, 13, none⟩, (iv (((rdD t7320 x8928 z_Row).North).e4))), (6, ⟨g8937, 14, none⟩, (iv (((rdD t7320 x8928 z_Row).North).e5))), (6, ⟨g8937, 15, none⟩, (iv (((rdD t7320 x8928 z_Row).North).e6))), (6, ⟨g8937, 16, none⟩, (iv (((rdD t7320 x8928 z_Row).North).e7)))] (fun fb => by kernel_rfl) rfl ⟨nrow_adr (hS8989.rd 1).1 h8993.1 h8993.2, trivial⟩ rfl ?_
    refine WL.lookup (mapsO.at (hS8989.rd 2).1 h8993.1 h8993.2 hm8995) ((rdD t7320 x8928 z_Row).North) (d := 58) (c := false) (t := 81) (kT := 86) (eT := 4) (z := false) (kE := (aggI ints_A8_Int)) (vE := vB) (l := m8994) (.bool (mget ((rdD t7320 x8928 z_Row).North) false m8994)) (fun fb => by kernel_rfl) torus_find_key86 (by kernel_rfl) (fun _ => by kernel_rfl) rfl ?_
    refine ⟨trivial, ?_⟩
    refine seg 9 [] [2, 6, 8, 9, 10, 12, 13, 26, 27, 28, 59] [(2, (iv p2)), (6, (pt g7142)), (8, (.slice A7325 t7320.length c7326)), (9, (.map (some g7328))), (10, (pt g7332)), (12, (pt g8937)), (13, (.slice A8961 x8965.2.length c8962)), (26, (.slice A7325 t7320.length c7326)), (27, (iv (t7320.length : Int))), (28, (iv x8928)), (59, (.bool (!(mget ((rdD t7320 x8928 z_Row).North) false m8994))))] [] (fun fb => by kernel_rfl) rfl trivial ?_
    refine WL.done rfl ?_
    refine WX.next ?_
    rcases br_some hl8934 with ⟨h8996, hl8934⟩ | ⟨h8996, hl8934⟩
    ·refine WC.condT2 (fun fb => by kernel_rfl) h8996 ?_
     refine WC.exit ?_
     refine WX.thenX (WX.blockHere (WX.next ?_))
     refine WC.region ?_
     refine seg 2 [] [2, 6, 8, 9, 10, 26, 27, 28] [(2, (iv p2)), (6, (pt g7142)), (8, (.slice A7325 t7320.length c7326)), (9, (.map (some g7328))), (10, (pt g7332)), (26, (.slice A7325 t7320.length c7326)), (27, (iv (t7320.length : Int))), (28, (iv (w64 (x8928 + 1))))] [] (fun fb => by kernel_rfl) rfl trivial ?_
     refine WL.done rfl ?_
     exact WX.again k8931 (Nat.lt_succ_self _) ((x8965.1, w64 (x8928 + 1)), K8960) [2, 6, 8, 9, 10, 26, 27, 28] rfl ⟨(hS8989.subR [0, 6, 7]).sub [0, 1, 2, 3, 4] (by decide), hl8934⟩
    refine WC.condF2 (fun fb => by kernel_rfl) h8996 ?_
    refine WC.skip ?_
    refine WX.next ?_
    refine WC.seq ?_
    refine WC.region ?_
    refine seg 4 [.v (.slice none 0 0), .v (.slice ((H7327 x8928.toNat 0).1) ((rdD t7320 x8928 z_Row).Cells).length ((H7327 x8928.toNat 0).2))] [2, 6, 8, 10, 12, 13, 61, 63] [(2, (iv p2)), (6, (pt g7142)), (8, (.slice A7325 t7320.length c7326)), (10, (pt g7332)), (12, (pt g8937)), (13, (.slice A8961 x8965.2.length c8962)), (61, (.slice none 0 0)), (63, (.slice ((H7327 x8928.toNat 0).1) ((rdD t7320 x8928 z_Row).Cells).length ((H7327 x8928.toNat 0).2)))] [.cell ⟨g7332, 2, none⟩ (.slice none 0 0), .cell ⟨g8937, 0, none⟩ (.slice ((H7327 x8928.toNat 0).1) ((rdD t7320 x8928 z_Row).Cells).length ((H7327 x8928.toNat 0).2))] (fun fb => by kernel_rfl) rfl ⟨hS8989.cell 4 rfl 2 rfl, hS8989.cell 5 rfl 0 rfl, trivial⟩ ?_
    have hS8997 := hS8989.nilrow 3 encInt
    obtain ⟨h8998, hl8934⟩ := as_some hl8934
    refine WL.append hS8997 0 (d := 64) (tS := 36) (z := (iv 0)) (bytes := 8) (c2 := (H7327 x8928.toNat 0).2) rfl (fun fb => by kernel_rfl) (nestO.at ((hS8997.own 3).1 0) z_Row h8936.1 h8936.2) (by kernel_rfl) (by kernel_rfl) rfl (by decide) h8998 (by decide) [1, 2, 3, 4, 5, 6] (by decide) (by decide) (fun A8999 c9000 w9001 hS9002 => ?_)
    refine ⟨trivial, ?_⟩
    refine seg 6 [] [2, 6, 8, 10, 12, 13, 64, 65] [(2, (iv p2)), (6, (pt g7142)), (8, (.slice A7325 t7320.length c7326)), (10, (pt g7332)), (12, (pt g8937)), (13, (.slice A8961 x8965.2.length c8962)), (64, (.slice A8999 (([] : List Int) ++ ((rdD t7320 x8928 z_Row).Cells)).length c9000)), (65, (.pointer (some ⟨g7332, 2, none⟩)))] [] (fun fb => by kernel_rfl) rfl trivial ?_
    refine WL.store hS9002 5 rfl [(2, (.slice A8999 (([] : List Int) ++ ((rdD t7320 x8928 z_Row).Cells)).length c9000))] #[(iv p1), (iv p2), (.slice A8999 (([] : List Int) ++ ((rdD t7320 x8928 z_Row).Cells)).length c9000)] (fun fb => by kernel_rfl) (by kernel_rfl) rfl [0, 1, 2, 3, 4, 6] (by decide) (by decide) (fun w9003 hS9004 => ?_)
    refine ⟨trivial, ?_⟩
    refine WL.done rfl ?_
    refine WX.next ?_
    refine WC.seq ?_
    refine WC.region ?_
    refine seg 2 [.v (iv (((rdD t7320 x8928 z_Row).North).e0)), .v (iv (((rdD t7320 x8928 z_Row).North).e1)), .v (iv (((rdD t7320 x8928 z_Row).North).e2)), .v (iv (((rdD t7320 x8928 z_Row).North).e3)), .v (iv (((rdD t7320 x8928 z_Row).North).e4)), .v (iv (((rdD t7320 x8928 z_Row).North).e5)), .v (iv (((rdD t7320 x8928 z_Row).North).e6)), .v (iv (((rdD t7320 x8928 z_Row).North).e7))] [2, 6, 8, 10, 13, 67] [(2, (iv p2)), (6, (pt g7142)), (8, (.slice A7325 t7320.length c7326)), (10, (pt g7332)), (13, (.slice A8961 x8965.2.length c8962)), (67, (.agg #[(iv (((rdD t7320 x8928 z_Row).North).e0)), (iv (((rdD t7320 x8928 z_Row).North).e1)), (iv (((rdD t7320 x8928 z_Row).North).e2)), (iv (((rdD t7320 x8928 z_Row).North).e3)), (iv (((rdD t7320 x8928 z_Row).North).e4)), (iv (((rdD t7320 x8928 z_Row).North).e5)), (iv (((rdD t7320 x8928 z_Row).North).e6)), (iv (((rdD t7320 x8928 z_Row).North).e7))]))] [.cell ⟨g8937, 9, none⟩ (iv (((rdD t7320 x8928 z_Row).North).e0)), .cell ⟨g8937, 10, none⟩ (iv (((rdD t7320 x8928 z_Row).North).e1)), .cell ⟨g8937, 11, none⟩ (iv (((rdD t7320 x8928 z_Row).North).e2)), .cell ⟨g8937, 12, none⟩ (iv (((rdD t7320 x8928 z_Row).North).e3)), .cell ⟨g8937, 13, none⟩ (iv (((rdD t7320 x8928 z_Row).North).e4)), .cell ⟨g8937, 14, none⟩ (iv (((rdD t7320 x8928 z_Row).North).e5)), .cell ⟨g8937, 15, none⟩ (iv (((rdD t7320 x8928 z_Row).North).e6)), .cell ⟨g8937, 16, none⟩ (iv (((rdD t7320 x8928 z_Row).North).e7))] (fun fb => by kernel_rfl) rfl ⟨hS9004.cell 6 rfl 9 rfl, hS9004.cell 6 rfl 10 rfl, hS9004.cell 6 rfl 11 rfl, hS9004.cell 6 rfl 12 rfl, hS9004.cell 6 rfl 13 rfl, hS9004.cell 6 rfl 14 rfl, hS9004.cell 6 rfl 15 rfl, hS9004.cell 6 rfl 16 rfl, trivial⟩ ?_
    refine WL.new hS9004 15 [] (fun g => (.pointer (some ⟨g, 0, none⟩))) (.cells #[(iv 0), (iv 0), (iv 0), (iv 0), (iv 0), (iv 0), (iv 0), (iv 0)] 86 (0, 0)) [] (fun fb g => by kernel_rfl) trivial (fun g9005 w9006 hS9007 => ?_)
    refine ⟨trivial, ?_⟩
    refine WL.store hS9007 0 rfl [(0, (iv (((rdD t7320 x8928 z_Row).North).e0))), (1, (iv (((rdD t7320 x8928 z_Row).North).e1))), (2, (iv (((rdD t7320 x8928 z_Row).North).e2))), (3, (iv (((rdD t7320 x8928 z_Row).North).e3))), (4, (iv (((rdD t7320 x8928 z_Row).North).e4))), (5, (iv (((rdD t7320 x8928 z_Row).North).e5))), (6, (iv (((rdD t7320 x8928 z_Row).North).e6))), (7, (iv (((rdD t7320 x8928 z_Row).North).e7)))] #[(iv (((rdD t7320 x8928 z_Row).North).e0)), (iv (((rdD t7320 x8928 z_Row).North).e1)), (iv (((rdD t7320 x8928 z_Row).North).e2)), (iv (((rdD t7320 x8928 z_Row).North).e3)), (iv (((rdD t7320 x8928 z_Row).North).e4)), (iv (((rdD t7320 x8928 z_Row).North).e5)), (iv (((rdD t7320 x8928 z_Row).North).e6)), (iv (((rdD t7320 x8928 z_Row).North).e7))] (fun fb => by kernel_rfl) (by kernel_rfl) rfl [1, 2, 3, 4, 5, 6, 7] (by decide) (by decide) (fun w9009 hS9010 => ?_)
    refine ⟨trivial, ?_⟩
    refine WL.done rfl ?_
    refine WX.next ?_
    refine WC.seq ?_
    refine WC.seq ?_
    refine WC.region ?_
    refine seg 3 [] [6, 8, 10, 13, 15, 16] [(6, (pt g7142)), (8, (.slice A7325 t7320.length c7326)), (10, (pt g7332)), (13, (.slice A8961 x8965.2.length c8962)), (15, (pt g9005)), (16, (iv (w64 (p2 - 2))))] [] (fun fb => by kernel_rfl) rfl trivial ?_
    refine WL.done rfl ?_
    refine WX.next ?_
    obtain ⟨x9376, hx9377, hl8934⟩ := bind_some hl8934
    refine WC.cutN (T := (List Int) × (Option Addr) × Nat) (fun t => [(6, (pt g7142)), (10, (pt g7332))]) (fun t w1 => St NoS w w1 [knestO (aggI ints_A8_Int) vB K8960 x8965.1, rowR (encMap A8_Int Bool) A8961 c8962 (tag H8964 x8965.2), mapsO (aggI ints_A8_Int) vB H8964 x8965.2, mapsO (aggI ints_A8_Int) vB ((mget ((rdD t7320 x8928 z_Row).South) zHM K8927).1.2.2) (mget ((rdD t7320 x8928 z_Row).South) [] l8926), rowR (encMap A8_Int Bool) ((mget ((rdD t7320 x8928 z_Row).South) zHM K8927).1.1) ((mget ((rdD t7320 x8928 z_Row).South) zHM K8927).1.2.1) (tag ((mget ((rdD t7320 x8928 z_Row).South) zHM K8927).1.2.2) (mget ((rdD t7320 x8928 z_Row).South) [] l8926)), knestO (aggI ints_A8_Int) vB K8927 l8926, knestO (aggI ints_A8_Int) vB ([] : List (A8_Int × (HM × List (Option (List (A8_Int × Bool)))))) ([] : List (A8_Int × List (Option (List (A8_Int × Bool))))), rowR enc_Tile A_p0 c_p0 p0] [blk g7142 (.cells #[(iv 0), (iv 0), (.slice none 0 0)] 38 (0, 0)), blk g7332 (.cells #[(iv p1), (iv p2), (.slice t.2.1 t.1.length t.2.2)] 38 (0, 0)), rowO 3 encInt t.2.1 t.2.2 t.1] ∧ x9376 = t.1) (fun Kx9376 => ?_) ?_
    ·
     refine WC.block ?_
     refine WC.loop (T := ((List Int) × A8_Int × Int) × (Option Addr) × Nat) (fun t => [(6, (pt g7142)), (8, (.slice A7325 t7320.length c7326)), (10, (pt g7332)), (13, (.slice A8961 x8965.2.length c8962)), (15, (pt g9005)), (16, (iv t.1.2.2))]) (fun n t w1 => St NoS w w1 [knestO (aggI ints_A8_Int) vB K8960 x8965.1, rowR (encMap A8_Int Bool) A8961 c8962 (tag H8964 x8965.2), mapsO (aggI ints_A8_Int) vB H8964 x8965.2, mapsO (aggI ints_A8_Int) vB ((mget ((rdD t7320 x8928 z_Row).South) zHM K8927).1.2.2) (mget ((rdD t7320 x8928 z_Row).South) [] l8926), rowR (encMap A8_Int Bool) ((mget ((rdD t7320 x8928 z_Row).South) zHM K8927).1.1) ((mget ((rdD t7320 x8928 z_Row).South) zHM K8927).1.2.1) (tag ((mget ((rdD t7320 x8928 z_Row).South) zHM K8927).1.2.2) (mget ((rdD t7320 x8928 z_Row).South) [] l8926)), knestO (aggI ints_A8_Int) vB K8927 l8926, knestO (aggI ints_A8_Int) vB ([] : List (A8_Int × (HM × List (Option (List (A8_Int × Bool)))))) ([] : List (A8_Int × List (Option (List (A8_Int × Bool))))), rowR enc_Tile A_p0 c_p0 p0] [blk g7142 (.cells #[(iv 0), (iv 0), (.slice none 0 0)] 38 (0, 0)), rowO 88 encN_Row A7325 c7326 (tag H7327 t7320), poolO [nestO subN_Row H7327 t7320], blk g7332 (.cells #[(iv p1), (iv p2), (.slice t.2.1 t.1.1.length t.2.2)] 38 (0, 0)), rowO 3 encInt t.2.1 t.2.2 t.1.1, blk g9005 (.cells #[(iv t.1.2.1.e0), (iv t.1.2.1.e1), (iv t.1.2.1.e2), (iv t.1.2.1.e3), (iv t.1.2.1.e4), (iv t.1.2.1.e5), (iv t.1.2.1.e6), (iv t.1.2.1.e7)] 86 (0, 0))] ∧ torus_find.l1 n t.1.1 t.1.2.1 t.1.2.2 t7320 x8965 = some x9376) k8931 ((([] : List Int) ++ ((rdD t7320 x8928 z_Row).Cells), ((rdD t7320 x8928 z_Row).North), w64 (p2 - 2)), A8999, c9000) [6, 8, 10, 13, 15, 16] rfl ⟨(hS9010.subR [0, 1, 2, 3, 4, 5, 6, 7]).sub [3, 4, 5, 1, 2, 0] (by decide), hx9377⟩ ?_
     rintro k9378 ⟨⟨l9370, a9371, x9372⟩, A9368, c9369⟩ w9379 ⟨hS9380, hl9381⟩
     cases k9378 with
     | zero => rw [torus_find.l1] at hl9381; cases hl9381
     | succ k9378 =>
      rw [torus_find.l1] at hl9381
      refine WC.seq ?_
      refine WC.seq ?_
      refine WC.region ?_
      refine seg 2 [] [6, 8, 10, 13, 15, 16, 71] [(6, (pt g7142)), (8, (.slice A7325 t7320.length c7326)), (10, (pt g7332)), (13, (.slice A8961 x8965.2.length c8962)), (15, (pt g9005)), (16, (iv x9372)), (71, (.bool (decide (x9372 ≥ 0))))] [] (fun fb => by kernel_rfl) rfl trivial ?_
      refine WL.done rfl ?_
      refine WX.next ?_
      rcases br_some hl9381 with ⟨h9382, hl9381⟩ | ⟨h9382, hl9381⟩
      ·refine WC.condT2 (fun fb => by kernel_rfl) h9382 ?_
       refine WC.skip ?_
       refine WX.next ?_
       refine WC.seq ?_
       refine WC.block ?_
       refine WC.scope ?_
       refine WC.seq ?_
       refine WC.label ?_
       refine WX.next ?_
       refine WC.seq ?_
       refine WC.region ?_
       refine seg 3 [] [6, 8, 10, 13, 15, 16, 74, 75, 76] [(6, (pt g7142)), (8, (.slice A7325 t7320.length c7326)), (10, (pt g7332)), (13, (.slice A8961 x8965.2.length c8962)), (15, (pt g9005)), (16, (iv x9372)), (74, (.slice A7325 t7320.length c7326)), (75, (iv (t7320.length : Int))), (76, (iv 0))] [] (fun fb => by kernel_rfl) rfl trivial ?_
       refine WL.done rfl ?_
       refine WX.next ?_
       obtain ⟨x9495, hx9496, hl9381⟩ := bind_some hl9381
       refine WC.cutN (T := ((List Int) × A8_Int) × (Option Addr) × Nat) (fun t => [(6, (pt g7142)), (8, (.slice A7325 t7320.length c7326)), (10, (pt g7332)), (13, (.slice A8961 x8965.2.length c8962)), (15, (pt g9005)), (16, (iv x9372))]) (fun t w1 => St NoS w w1 [knestO (aggI ints_A8_Int) vB K8960 x8965.1, rowR (encMap A8_Int Bool) A8961 c8962 (tag H8964 x8965.2), mapsO (aggI ints_A8_Int) vB H8964 x8965.2, mapsO (aggI ints_A8_Int) vB ((mget ((rdD t7320 x8928 z_Row).South) zHM K8927).1.2.2) (mget ((rdD t7320 x8928 z_Row).South) [] l8926), rowR (encMap A8_Int Bool) ((mget ((rdD t7320 x8928 z_Row).South) zHM K8927).1.1) ((mget ((rdD t7320 x8928 z_Row).South) zHM K8927).1.2.1) (tag ((mget ((rdD t7320 x8928 z_Row).South) zHM K8927).1.2.2) (mget ((rdD t7320 x8928 z_Row).South) [] l8926)), knestO (aggI ints_A8_Int) vB K8927 l8926, knestO (aggI ints_A8_Int) vB ([] : List (A8_Int × (HM × List (Option (List (A8_Int × Bool)))))) ([] : List (A8_Int × List (Option (List (A8_Int × Bool))))), rowR enc_Tile A_p0 c_p0 p0] [blk g7142 (.cells #[(iv 0), (iv 0), (.slice none 0 0)] 38 (0, 0)), rowO 88 encN_Row A7325 c7326 (tag H7327 t7320), poolO [nestO subN_Row H7327 t7320], blk g7332 (.cells #[(iv p1), (iv p2), (.slice t.2.1 t.1.1.length t.2.2)] 38 (0, 0)), rowO 3 encInt t.2.1 t.2.2 t.1.1, blk g9005 (.cells #[(iv t.1.2.e0), (iv t.1.2.e1), (iv t.1.2.e2), (iv t.1.2.e3), (iv t.1.2.e4), (iv t.1.2.e5), (iv t.1.2.e6), (iv t.1.2.e7)] 86 (0, 0))] ∧ x9495 = t.1) (fun Kx9495 => ?_) ?_
       ·
        refine WC.block ?_
        refine WC.loop (T := Int) (fun t => [(6, (pt g7142)), (8, (.slice A7325 t7320.length c7326)), (10, (pt g7332)), (13, (.slice A8961 x8965.2.length c8962)), (15, (pt g9005)), (16, (iv x9372)), (74, (.slice A7325 t7320.length c7326)), (75, (iv (t7320.length : Int))), (76, (iv t))]) (fun n t w1 => St NoS w w1 [knestO (aggI ints_A8_Int) vB K8960 x8965.1, rowR (encMap A8_Int Bool) A8961 c8962 (tag H8964 x8965.2), mapsO (aggI ints_A8_Int) vB H8964 x8965.2, mapsO (aggI ints_A8_Int) vB ((mget ((rdD t7320 x8928 z_Row).South) zHM K8927).1.2.2) (mget ((rdD t7320 x8928 z_Row).South) [] l8926), rowR (encMap A8_Int Bool) ((mget ((rdD t7320 x8928 z_Row).South) zHM K8927).1.1) ((mget ((rdD t7320 x8928 z_Row).South) zHM K8927).1.2.1) (tag ((mget ((rdD t7320 x8928 z_Row).South) zHM K8927).1.2.2) (mget ((rdD t7320 x8928 z_Row).South) [] l8926)), knestO (aggI ints_A8_Int) vB K8927 l8926, knestO (aggI ints_A8_Int) vB ([] : List (A8_Int × (HM × List (Option (List (A8_Int × Bool)))))) ([] : List (A8_Int × List (Option (List (A8_Int × Bool))))), rowR enc_Tile A_p0 c_p0 p0] [blk g7142 (.cells #[(iv 0), (iv 0), (.slice none 0 0)] 38 (0, 0)), rowO 88 encN_Row A7325 c7326 (tag H7327 t7320), poolO [nestO subN_Row H7327 t7320], blk g7332 (.cells #[(iv p1), (iv p2), (.slice A9368 l9370.length c9369)] 38 (0, 0)), rowO 3 encInt A9368 c9369 l9370, blk g9005 (.cells #[(iv a9371.e0), (iv a9371.e1), (iv a9371.e2), (iv a9371.e3), (iv a9371.e4), (iv a9371.e5), (iv a9371.e6), (iv a9371.e7)] 86 (0, 0))] ∧ torus_find.l2 n t t7320 x8965 l9370 a9371 x9372 = some x9495) k9378 0 [6, 8, 10, 13, 15, 16, 74, 75, 76] rfl ⟨(hS9380.subR [0, 1, 2, 3, 4, 5, 6, 7]).sub [0, 1, 2, 3, 4, 5] (by decide), hx9496⟩ ?_
        rintro k9497 x9490 w9498 ⟨hS9499, hl9500⟩
        cases k9497 with
        | zero => rw [torus_find.l2] at hl9500; cases hl9500
        | succ k9497 =>
         rw [torus_find.l2] at hl9500
         refine WC.seq ?_
         refine WC.region ?_
         refine seg 1 [] [6, 8, 10, 13, 15, 16, 74, 75, 76, 77] [(6, (pt g7142)), (8, (.slice A7325 t7320.length c7326)), (10, (pt g7332)), (13, (.slice A8961 x8965.2.length c8962)), (15, (pt g9005)), (16, (iv x9372)), (74, (.slice A7325 t7320.length c7326)), (75, (iv (t7320.length : Int))), (76, (iv x9490)), (77, (.bool (decide (x9490 < (t7320.length : Int)))))] [] (fun fb => by kernel_rfl) rfl trivial ?_
         refine WL.done rfl ?_
         refine WX.next ?_
         refine WC.seq ?_
         rcases br_some hl9500 with ⟨h9501, hl9500⟩ | ⟨h9501, hl9500⟩
         ·refine WC.condT2 (fun fb => by kernel_rfl) h9501 ?_
          refine WC.skip ?_
          refine WX.next ?_
          refine WC.seq ?_
          refine WC.block ?_
          refine WC.seq ?_
          refine WC.region ?_
          obtain ⟨h9502, hl9500⟩ := as_some hl9500
          refine seg 2 [.v (.slice ((H7327 x9490.toNat 0).1) ((rdD t7320 x9490 z_Row).Cells).length ((H7327 x9490.toNat 0).2)), .v (iv (((rdD t7320 x9490 z_Row).South).e0)), .v (iv (((rdD t7320 x9490 z_Row).South).e1)), .v (iv (((rdD t7320 x9490 z_Row).South).e2)), .v (iv (((rdD t7320 x9490 z_Row).South).e3)), .v (iv (((rdD t7320 x9490 z_Row).South).e4)), .v (iv (((rdD t7320 x9490 z_Row).South).e5)), .v (iv (((rdD t7320 x9490 z_Row).South).e6)), .v (iv (((rdD t7320 x9490 z_Row).South).e7)), .v (iv (((rdD t7320 x9490 z_Row).North).e0)), .v (iv (((rdD t7320 x9490 z_Row).North).e1)), .v (iv (((rdD t7320 x9490 z_Row).North).e2)), .v (iv (((rdD t7320 x9490 z_Row).North).e3)), .v (iv (((rdD t7320 x9490 z_Row).North).e4)), .v (iv (((rdD t7320 x9490 z_Row).North).e5)), .v (iv (((rdD t7320 x9490 z_Row).North).e6)), .v (iv (((rdD t7320 x9490 z_Row).North).e7)), .v (iv ((rdD t7320 x9490 z_Row).West)), .v (iv ((rdD t7320 x9490 z_Row).East))] [6, 8, 10, 13, 15, 16, 74, 75, 76, 79] [(6, (pt g7142)), (8, (.slice A7325 t7320.length c7326)), (10, (pt g7332)), (13, (.slice A8961 x8965.2.length c8962)), (15, (pt g9005)), (16, (iv x9372)), (74, (.slice A7325 t7320.length c7326)), (75, (iv (t7320.length : Int))), (76, (iv x9490)), (79, (.agg #[(.slice ((H7327 x9490.toNat 0).1) ((rdD t7320 x9490 z_Row).Cells).length ((H7327 x9490.toNat 0).2)), (iv (((rdD t7320 x9490 z_Row).South).e0)), (iv (((rdD t7320 x9490 z_Row).South).e1)), (iv (((rdD t7320 x9490 z_Row).South).e2)), (iv (((rdD t7320 x9490 z_Row).South).e3)), (iv (((rdD t7320 x9490 z_Row).South).e4)), (iv (((rdD t7320 x9490 z_Row).South).e5)), (iv (((rdD t7320 x9490 z_Row).South).e6)), (iv (((rdD t7320 x9490 z_Row).South).e7)), (iv (((rdD t7320 x9490 z_Row).North).e0)), (iv (((rdD t7320 x9490 z_Row).North).e1)), (iv (((rdD t7320 x9490 z_Row).North).e2)), (iv (((rdD t7320 x9490 z_Row).North).e3)), (iv (((rdD t7320 x9490 z_Row).North).e4)), (iv (((rdD t7320 x9490 z_Row).North).e5)), (iv (((rdD t7320 x9490 z_Row).North).e6)), (iv (((rdD t7320 x9490 z_Row).North).e7)), (iv ((rdD t7320 x9490 z_Row).West)), (iv ((rdD t7320 x9490 z_Row).East))]))] [.idx A7325 x9490 t7320.length, .cell ((adr A7325).add ((x9490).toNat * 19)) (.slice ((H7327 x9490.toNat 0).1) ((rdD t7320 x9490 z_Row).Cells).length ((H7327 x9490.toNat 0).2)), .cell (((adr A7325).add ((x9490).toNat * 19)).add 1) (iv (((rdD t7320 x9490 z_Row).South).e0)), .cell (((adr A7325).add ((x9490).toNat * 19)).add 2) (iv (((rdD t7320 x9490 z_Row).South).e1)), .cell (((adr A7325).add ((x9490).toNat * 19)).add 3) (iv (((rdD t7320 x9490 z_Row).South).e2)), .cell (((adr A7325).add ((x9490).toNat * 19)).add 4) (iv (((rdD t7320 x9490 z_Row).South).e3)), .cell (((adr A7325).add ((x9490).toNat * 19)).add 5) (iv (((rdD t7320 x9490 z_Row).South).e4)), .cell (((adr A7325).add ((x9490).toNat * 19)).add 6) (iv (((rdD t7320 x9490 z_Row).South).e5)), .cell (((adr A7325).add ((x9490).toNat * 19)).add 7) (iv (((rdD t7320 x9490 z_Row).South).e6)), .cell (((adr A7325).add ((x9490).toNat * 19)).add 8) (iv (((rdD t7320 x9490 z_Row).South).e7)), .cell (((adr A7325).add ((x9490).toNat * 19)).add 9) (iv (((rdD t7320 x9490 z_Row).North).e0)), .cell (((adr A7325).add ((x9490).toNat * 19)).add 10) (iv (((rdD t7320 x9490 z_Row).North).e1)), .cell (((adr A7325).add ((x9490).toNat * 19)).add 11) (iv (((rdD t7320 x9490 z_Row).North).e2)), .cell (((adr A7325).add ((x9490).toNat * 19)).add 12) (iv (((rdD t7320 x9490 z_Row).North).e3)), .cell (((adr A7325).add ((x9490).toNat * 19)).add 13) (iv (((rdD t7320 x9490 z_Row).North).e4)), .cell (((adr A7325).add ((x9490).toNat * 19)).add 14) (iv (((rdD t7320 x9490 z_Row).North).e5)), .cell (((adr A7325).add ((x9490).toNat * 19)).add 15) (iv (((rdD t7320 x9490 z_Row).North).e6)), .cell (((adr A7325).add ((x9490).toNat * 19)).add 16) (iv (((rdD t7320 x9490 z_Row).North).e7)), .cell (((adr A7325).add ((x9490).toNat * 19)).add 17) (iv ((rdD t7320 x9490 z_Row).West)), .cell (((adr A7325).add ((x9490).toNat * 19)).add 18) (iv ((rdD t7320 x9490 z_Row).East))] (fun fb => by kernel_rfl) rfl ⟨nrow_adr (rowO.rd (hS9499.own 1).1) h9502.1 h9502.2, nrow_cell (rowO.rd (hS9499.own 1).1) z_Row h9502.1 h9502.2 0 rfl, nrow_cell (rowO.rd (hS9499.own 1).1) z_Row h9502.1 h9502.2 1 rfl, nrow_cell (rowO.rd (hS9499.own 1).1) z_Row h9502.1 h9502.2 2 rfl, nrow_cell (rowO.rd (hS9499.own 1).1) z_Row h9502.1 h9502.2 3 rfl, nrow_cell (rowO.rd (hS9499.own 1).1) z_Row h9502.1 h9502.2 4 rfl, nrow_cell (rowO.rd (hS9499.own 1).1) z_Row h9502.1 h9502.2 5 rfl, nrow_cell (rowO.rd (hS9499.own 1).1) z_Row h9502.1 h9502.2 6 rfl, nrow_cell (rowO.rd (hS9499.own 1).1) z_Row h9502.1 h9502.2 7 rfl, nrow_cell (rowO.rd (hS9499.own 1).1) z_Row h9502.1 h9502.2 8 rfl, nrow_cell (rowO.rd (hS9499.own 1).1) z_Row h9502.1 h9502.2 9 rfl, nrow_cell (rowO.rd (hS9499.own 1).1) z_Row h9502.1 h9502.2 10 rfl, nrow_cell (rowO.rd (hS9499.own 1).1) z_Row h9502.1 h9502.2 11 rfl, nrow_cell (rowO.rd (hS9499.own 1).1) z_Row h9502.1 h9502.2 12 rfl, nrow_cell (rowO.rd (hS9499.own 1).1) z_Row h9502.1 h9502.2 13 rfl, nrow_cell (rowO.rd (hS9499.own 1).1) z_Row h9502.1 h9502.2 14 rfl, nrow_cell (rowO.rd (hS9499.own 1).1) z_Row h9502.1 h9502.2 15 rfl, nrow_cell (rowO.rd (hS9499.own 1).1) z_Row h9502.1 h9502.2 16 rfl, nrow_cell (rowO.rd (hS9499.own 1).1) z_Row h9502.1 h9502.2 17 rfl, nrow_cell (rowO.rd (hS9499.own 1).1) z_Row h9502.1 h9502.2 18 rfl, trivial⟩ ?_
          refine WL.new hS9499 18 [] (fun g => (.pointer (some ⟨g, 0, none⟩))) (.cells #[(.slice none 0 0), (iv 0), (iv 0), (iv 0), (iv 0), (iv 0), (iv 0), (iv 0), (iv 0), (iv 0), (iv 0), (iv 0), (iv 0), (iv 0), (iv 0), (iv 0), (iv 0), (iv 0), (iv 0)] 88 (0, 0)) [] (fun fb g => by kernel_rfl) trivial (fun g9503 w9504 hS9505 => ?_)
          refine ⟨trivial, ?_⟩
          refine WL.store hS9505 0 rfl [(0, (.slice ((H7327 x9490.toNat 0).1) ((rdD t7320 x9490 z_Row).Cells).length ((H7327 x9490.toNat 0).2))), (1, (iv (((rdD t7320 x9490 z_Row).South).e0))), (2, (iv (((rdD t7320 x9490 z_Row).South).e1))), (3, (iv (((rdD t7320 x9490 z_Row).South).e2))), (4, (iv (((rdD t7320 x9490 z_Row).South).e3))), (5, (iv (((rdD t7320 x9490 z_Row).South).e4))), (6, (iv (((rdD t7320 x9490 z_Row).South).e5))), (7, (iv (((rdD t7320 x9490 z_Row).South).e6))), (8, (iv (((rdD t7320 x9490 z_Row).South).e7))), (9, (iv (((rdD t7320 x9490 z_Row).North).e0))), (10, (iv (((rdD t7320 x9490 z_Row).North).e1))), (11, (iv (((rdD t7320 x9490 z_Row).North).e2))), (12, (iv (((rdD t7320 x9490 z_Row).North).e3))), (13, (iv (((rdD t7320 x9490 z_Row).North).e4))), (14, (iv (((rdD t7320 x9490 z_Row).North).e5))), (15, (iv (((rdD t7320 x9490 z_Row).North).e6))), (16, (iv (((rdD t7320 x9490 z_Row).North).e7))), (17, (iv ((rdD t7320 x9490 z_Row).West))), (18, (iv ((rdD t7320 x9490 z_Row).East)))] #[(.slice ((H7327 x9490.toNat 0).1) ((rdD t7320 x9490 z_Row).Cells).length ((H7327 x9490.toNat 0).2)), (iv (((rdD t7320 x9490 z_Row).South).e0)), (iv (((rdD t7320 x9490 z_Row).South).e1)), (iv (((rdD t7320 x9490 z_Row).South).e2)), (iv (((rdD t7320 x9490 z_Row).South).e3)), (iv (((rdD t7320 x9490 z_Row).South).e4)), (iv (((rdD t7320 x9490 z_Row).South).e5)), (iv (((rdD t7320 x9490 z_Row).South).e6)), (iv (((rdD t7320 x9490 z_Row).South).e7)), (iv (((rdD t7320 x9490 z_Row).North).e0)), (iv (((rdD t7320 x9490 z_Row).North).e1)), (iv (((rdD t7320 x9490 z_Row).North).e2)), (iv (((rdD t7320 x9490 z_Row).North).e3)), (iv (((rdD t7320 x9490 z_Row).North).e4)), (iv (((rdD t7320 x9490 z_Row).North).e5)), (iv (((rdD t7320 x9490 z_Row).North).e6)), (iv (((rdD t7320 x9490 z_Row).North).e7)), (iv ((rdD t7320 x9490 z_Row).West)), (iv ((rdD t7320 x9490 z_Row).East))] (fun fb => by kernel_rfl) (by kernel_rfl) (by kernel_rfl) [1, 2, 3, 4, 5, 6] (by decide) (by decide) (fun w9507 hS9508 => ?_)
          refine ⟨trivial, ?_⟩
          refine WL.done rfl ?_
          refine WX.next ?_
          refine WC.seq ?_
          obtain ⟨x9524, hx9525, hl9500⟩ := bind_some hl9500
          refine WC.cutN (T := Bool) (fun t => [(6, (pt g7142)), (8, (.slice A7325 t7320.length c7326)), (10, (pt g7332)), (13, (.slice A8961 x8965.2.length c8962)), (15, (pt g9005)), (16, (iv x9372)), (18, (pt g9503)), (74, (.slice A7325 t7320.length c7326)), (75, (iv (t7320.length : Int))), (76, (iv x9490)), (92, (.bool t))]) (fun t w1 => St NoS w w1 [knestO (aggI ints_A8_Int) vB K8960 x8965.1, rowR (encMap A8_Int Bool) A8961 c8962 (tag H8964 x8965.2), mapsO (aggI ints_A8_Int) vB H8964 x8965.2, mapsO (aggI ints_A8_Int) vB ((mget ((rdD t7320 x8928 z_Row).South) zHM K8927).1.2.2) (mget ((rdD t7320 x8928 z_Row).South) [] l8926), rowR (encMap A8_Int Bool) ((mget ((rdD t7320 x8928 z_Row).South) zHM K8927).1.1) ((mget ((rdD t7320 x8928 z_Row).South) zHM K8927).1.2.1) (tag ((mget ((rdD t7320 x8928 z_Row).South) zHM K8927).1.2.2) (mget ((rdD t7320 x8928 z_Row).South) [] l8926)), knestO (aggI ints_A8_Int) vB K8927 l8926, knestO (aggI ints_A8_Int) vB ([] : List (A8_Int × (HM × List (Option (List (A8_Int × Bool)))))) ([] : List (A8_Int × List (Option (List (A8_Int × Bool))))), rowR enc_Tile A_p0 c_p0 p0] [blk g7142 (.cells #[(iv 0), (iv 0), (.slice none 0 0)] 38 (0, 0)), rowO 88 encN_Row A7325 c7326 (tag H7327 t7320), poolO [nestO subN_Row H7327 t7320], blk g7332 (.cells #[(iv p1), (iv p2), (.slice A9368 l9370.length c9369)] 38 (0, 0)), rowO 3 encInt A9368 c9369 l9370, blk g9005 (.cells #[(iv a9371.e0), (iv a9371.e1), (iv a9371.e2), (iv a9371.e3), (iv a9371.e4), (iv a9371.e5), (iv a9371.e6), (iv a9371.e7)] 86 (0, 0)), blk g9503 (.cells #[(.slice ((H7327 x9490.toNat 0).1) ((rdD t7320 x9490 z_Row).Cells).length ((H7327 x9490.toNat 0).2)), (iv (((rdD t7320 x9490 z_Row).South).e0)), (iv (((rdD t7320 x9490 z_Row).South).e1)), (iv (((rdD t7320 x9490 z_Row).South).e2)), (iv (((rdD t7320 x9490 z_Row).South).e3)), (iv (((rdD t7320 x9490 z_Row).South).e4)), (iv (((rdD t7320 x9490 z_Row).South).e5)), (iv (((rdD t7320 x9490 z_Row).South).e6)), (iv (((rdD t7320 x9490 z_Row).South).e7)), (iv (((rdD t7320 x9490 z_Row).North).e0)), (iv (((rdD t7320 x9490 z_Row).North).e1)), (iv (((rdD t7320 x9490 z_Row).North).e2)), (iv (((rdD t7320 x9490 z_Row).North).e3)), (iv (((rdD t7320 x9490 z_Row).North).e4)), (iv (((rdD t7320 x9490 z_Row).North).e5)), (iv (((rdD t7320 x9490 z_Row).North).e6)), (iv (((rdD t7320 x9490 z_Row).North).e7)), (iv ((rdD t7320 x9490 z_Row).West)), (iv ((rdD t7320 x9490 z_Row).East))] 88 (0, 0))] ∧ x9524 = t) (fun Kx9524 => ?_) ?_
          ·
           rcases br_some hx9525 with ⟨h9526, hx9525⟩ | ⟨h9526, hx9525⟩
           ·
            obtain ⟨h9535, hx9525⟩ := as_some hx9525
            obtain ⟨m9536, hm9537, hx9525⟩ := bind_some hx9525
            refine WC.regionD ([(1, ⟨g9503, 1, none⟩, (iv (((rdD t7320 x9490 z_Row).South).e0))), (1, ⟨g9503, 2, none⟩, (iv (((rdD t7320 x9490 z_Row).South).e1))), (1, ⟨g9503, 3, none⟩, (iv (((rdD t7320 x9490 z_Row).South).e2))), (1, ⟨g9503, 4, none⟩, (iv (((rdD t7320 x9490 z_Row).South).e3))), (1, ⟨g9503, 5, none⟩, (iv (((rdD t7320 x9490 z_Row).South).e4))), (1, ⟨g9503, 6, none⟩, (iv (((rdD t7320 x9490 z_Row).South).e5))), (1, ⟨g9503, 7, none⟩, (iv (((rdD t7320 x9490 z_Row).South).e6))), (1, ⟨g9503, 8, none⟩, (iv (((rdD t7320 x9490 z_Row).South).e7))), (2, ⟨g9005, 0, none⟩, (iv a9371.e0)), (2, ⟨g9005, 1, none⟩, (iv a9371.e1)), (2, ⟨g9005, 2, none⟩, (iv a9371.e2)), (2, ⟨g9005, 3, none⟩, (iv a9371.e3)), (2, ⟨g9005, 4, none⟩, (iv a9371.e4)), (2, ⟨g9005, 5, none⟩, (iv a9371.e5)), (2, ⟨g9005, 6, none⟩, (iv a9371.e6)), (2, ⟨g9005, 7, none⟩, (iv a9371.e7)), (8, ((adr A8961).add ((x9372).toNat * 1)), (.map (some (H8964 x9372.toNat)))), (10, ⟨g9503, 9, none⟩, (iv (((rdD t7320 x9490 z_Row).North).e0))), (10, ⟨g9503, 10, none⟩, (iv (((rdD t7320 x9490 z_Row).North).e1))), (10, ⟨g9503, 11, none⟩, (iv (((rdD t7320 x9490 z_Row).North).e2))), (10, ⟨g9503, 12, none⟩, (iv (((rdD t7320 x9490 z_Row).North).e3))), (10, ⟨g9503, 13, none⟩, (iv (((rdD t7320 x9490 z_Row).North).e4))), (10, ⟨g9503, 14, none⟩, (iv (((rdD t7320 x9490 z_Row).North).e5))), (10, ⟨g9503, 15, none⟩, (iv (((rdD t7320 x9490 z_Row).North).e6))), (10, ⟨g9503, 16, none⟩, (iv (((rdD t7320 x9490 z_Row).North).e7)))], [0, 1, 2, 3, 4, 5, 6, 7, 8, 9, 10, 12], [[], [0], [], [0, 1, 2], [0, 1, 2, 3], [0, 1, 2, 3, 4], [0, 1, 2, 3, 4], [0, 1, 2, 3, 4, 5, 6], [0, 1, 2, 3, 4, 5, 6, 7], [0, 1, 2, 3, 4], [0, 1, 2, 3, 4, 9], [0, 1, 2, 3, 4, 5, 6, 7, 8, 9, 10], [0, 1, 2, 3, 4, 5, 6, 7, 8, 9, 10, 11]]) [[0, 1, 2, 3, 4, 5, 6, 7, 8, 9, 10, 11, 12]] (by kernel_rfl) (by kernel_rfl) (NoPanic.seq (NoPanic.block (NoPanic.seq (NoPanic.seq (NoPanic.block (NoPanic.scope (NoPanic.block (NoPanic.seq (NoPanic.seq (NoPanic.block (NoPanic.seq (NoPanic.block (NoPanic.seq (NoPanic.seq (NoPanic.block (NoPanic.seq (NoPanic.scope (NoPanic.body)))))))))))))))))) ?_
            have hS9531 := hS9508.drew
            revert hS9531
            generalize World.drew w9507 = w9530
            intro hS9531
            refine ⟨⟨hS9531.cell 0 rfl 1 rfl, hS9531.cell 0 rfl 2 rfl, hS9531.cell 0 rfl 3 rfl, hS9531.cell 0 rfl 4 rfl, hS9531.cell 0 rfl 5 rfl, hS9531.cell 0 rfl 6 rfl, hS9531.cell 0 rfl 7 rfl, hS9531.cell 0 rfl 8 rfl, hS9531.cell 6 rfl 0 rfl, hS9531.cell 6 rfl 1 rfl, hS9531.cell 6 rfl 2 rfl, hS9531.cell 6 rfl 3 rfl, hS9531.cell 6 rfl 4 rfl, hS9531.cell 6 rfl 5 rfl, hS9531.cell 6 rfl 6 rfl, hS9531.cell 6 rfl 7 rfl, nrow_cell (hS9531.rd 1).1 none h9535.1 h9535.2 0 (mapV_some hm9537), hS9531.cell 0 rfl 9 rfl, hS9531.cell 0 rfl 10 rfl, hS9531.cell 0 rfl 11 rfl, hS9531.cell 0 rfl 12 rfl, hS9531.cell 0 rfl 13 rfl, hS9531.cell 0 rfl 14 rfl, hS9531.cell 0 rfl 15 rfl, hS9531.cell 0 rfl 16 rfl, trivial⟩, forallC ?_ (forallN)⟩
            refine segF 5 [.v (iv (((rdD t7320 x9490 z_Row).South).e0)), .v (iv (((rdD t7320 x9490 z_Row).South).e1)), .v (iv (((rdD t7320 x9490 z_Row).South).e2)), .v (iv (((rdD t7320 x9490 z_Row).South).e3)), .v (iv (((rdD t7320 x9490 z_Row).South).e4)), .v (iv (((rdD t7320 x9490 z_Row).South).e5)), .v (iv (((rdD t7320 x9490 z_Row).South).e6)), .v (iv (((rdD t7320 x9490 z_Row).South).e7)), .v (iv a9371.e0), .v (iv a9371.e1), .v (iv a9371.e2), .v (iv a9371.e3), .v (iv a9371.e4), .v (iv a9371.e5), .v (iv a9371.e6), .v (iv a9371.e7)] [6, 8, 10, 13, 15, 16, 18, 74, 75, 76, 84] [(6, (pt g7142)), (8, (.slice A7325 t7320.length c7326)), (10, (pt g7332)), (13, (.slice A8961 x8965.2.length c8962)), (15, (pt g9005)), (16, (iv x9372)), (18, (pt g9503)), (74, (.slice A7325 t7320.length c7326)), (75, (iv (t7320.length : Int))), (76, (iv x9490)), (84, (.bool ((((rdD t7320 x9490 z_Row).South).e0) == a9371.e0 && ((((rdD t7320 x9490 z_Row).South).e1) == a9371.e1 && ((((rdD t7320 x9490 z_Row).South).e2) == a9371.e2 && ((((rdD t7320 x9490 z_Row).South).e3) == a9371.e3 && ((((rdD t7320 x9490 z_Row).South).e4) == a9371.e4 && ((((rdD t7320 x9490 z_Row).South).e5) == a9371.e5 && ((((rdD t7320 x9490 z_Row).South).e6) == a9371.e6 && ((((rdD t7320 x9490 z_Row).South).e7) == a9371.e7))))))))))] [] [0, 1, 2, 3, 4, 5, 6, 7, 8, 9, 10, 11, 12, 13, 14, 15] [(1, ⟨g9503, 1, none⟩, (iv (((rdD t7320 x9490 z_Row).South).e0))), (1, ⟨g9503, 2, none⟩, (iv (((rdD t7320 x9490 z_Row).South).e1))), (1, ⟨g9503, 3, none⟩, (iv (((rdD t7320 x9490 z_Row).South).e2))), (1, ⟨g9503, 4, none⟩, (iv (((rdD t7320 x9490 z_Row).South).e3))), (1, ⟨g9503, 5, none⟩, (iv (((rdD t7320 x9490 z_Row).South).e4))), (1, ⟨g9503, 6, none⟩, (iv (((rdD t7320 x9490 z_Row).South).e5))), (1, ⟨g9503, 7, none⟩, (iv (((rdD t7320 x9490 z_Row).South).e6))), (1, ⟨g9503, 8, none⟩, (iv (((rdD t7320 x9490 z_Row).South).e7))), (2, ⟨g9005, 0, none⟩, (iv a9371.e0)), (2, ⟨g9005, 1, none⟩, (iv a9371.e1)), (2, ⟨g9005, 2, none⟩, (iv a9371.e2)), (2, ⟨g9005, 3, none⟩, (iv a9371.e3)), (2, ⟨g9005, 4, none⟩, (iv a9371.e4)), (2, ⟨g9005, 5, none⟩, (iv a9371.e5)), (2, ⟨g9005, 6, none⟩, (iv a9371.e6)), (2, ⟨g9005, 7, none⟩, (iv a9371.e7))] (fun fb => by kernel_rfl) rfl trivial rfl ?_
            refine WL.setB 84 h9526 rfl ?_
            refine segF 11 [.v (.map (some (H8964 x9372.toNat))), .v (iv (((rdD t7320 x9490 z_Row).North).e0)), .v (iv (((rdD t7320 x9490 z_Row).North).e1)), .v (iv (((rdD t7320 x9490 z_Row).North).e2)), .v (iv (((rdD t7320 x9490 z_Row).North).e3)), .v (iv (((rdD t7320 x9490 z_Row).North).e4)), .v (iv (((rdD t7320 x9490 z_Row).North).e5)), .v (iv (((rdD t7320 x9490 z_Row).North).e6)), .v (iv (((rdD t7320 x9490 z_Row).North).e7))] [6, 8, 10, 13, 15, 16, 18, 74, 75, 76, 84, 88, 90] [(6, (pt g7142)), (8, (.slice A7325 t7320.length c7326)), (10, (pt g7332)), (13, (.slice A8961 x8965.2.length c8962)), (15, (pt g9005)), (16, (iv x9372)), (18, (pt g9503)), (74, (.slice A7325 t7320.length c7326)), (75, (iv (t7320.length : Int))), (76, (iv x9490)), (84, (.bool true)), (88, (.map (some (H8964 x9372.toNat)))), (90, (.agg #[(iv (((rdD t7320 x9490 z_Row).North).e0)), (iv (((rdD t7320 x9490 z_Row).North).e1)), (iv (((rdD t7320 x9490 z_Row).North).e2)), (iv (((rdD t7320 x9490 z_Row).North).e3)), (iv (((rdD t7320 x9490 z_Row).North).e4)), (iv (((rdD t7320 x9490 z_Row).North).e5)), (iv (((rdD t7320 x9490 z_Row).North).e6)), (iv (((rdD t7320 x9490 z_Row).North).e7))]))] [.idx A8961 x9372 x8965.2.length] [16, 17, 18, 19, 20, 21, 22, 23, 24] [(8, ((adr A8961).add ((x9372).toNat * 1)), (.map (some (H8964 x9372.toNat)))), (10, ⟨g9503, 9, none⟩, (iv (((rdD t7320 x9490 z_Row).North).e0))), (10, ⟨g9503, 10, none⟩, (iv (((rdD t7320 x9490 z_Row).North).e1))), (10, ⟨g9503, 11, none⟩, (iv (((rdD t7320 x9490 z_Row).North).e2))), (10, ⟨g9503, 12, none⟩, (iv (((rdD t7320 x9490 z_Row).North).e3))), (10, ⟨g9503, 13, none⟩, (iv (((rdD t7320 x9490 z_Row).North).e4))), (10, ⟨g9503, 14, none⟩, (iv (((rdD t7320 x9490 z_Row).North).e5))), (10, ⟨g9503, 15, none⟩, (iv (((rdD t7320 x9490 z_Row).North).e6))), (10, ⟨g9503, 16, none⟩, (iv (((rdD t7320 x9490 z_Row).North).e7)))] (fun fb => by kernel_rfl) rfl ⟨nrow_adr (hS9531.rd 1).1 h9535.1 h9535.2, trivial⟩ rfl ?_
            refine WL.lookup (mapsO.at (hS9531.rd 2).1 h9535.1 h9535.2 hm9537) ((rdD t7320 x9490 z_Row).North) (d := 91) (c := false) (t := 81) (kT := 86) (eT := 4) (z := false) (kE := (aggI ints_A8_Int)) (vE := vB) (l := m9536) (.bool (mget ((rdD t7320 x9490 z_Row).North) false m9536)) (fun fb => by kernel_rfl) torus_find_key86 (by kernel_rfl) (fun _ => by kernel_rfl) rfl ?_
            refine ⟨trivial, ?_⟩
            refine seg 13 [] [6, 8, 10, 13, 15, 16, 18, 74, 75, 76, 92] [(6, (pt g7142)), (8, (.slice A7325 t7320.length c7326)), (10, (pt g7332)), (13, (.slice A8961 x8965.2.length c8962)), (15, (pt g9005)), (16, (iv x9372)), (18, (pt g9503)), (74, (.slice A7325 t7320.length c7326)), (75, (iv (t7320.length : Int))), (76, (iv x9490)), (92, (.bool (mget ((rdD t7320 x9490 z_Row).North) false m9536)))] [] (fun fb => by kernel_rfl) rfl trivial ?_
            refine WL.done rfl ?_
            injection hx9525 with hx9525
            exact WX.to Kx9524 (mget ((rdD t7320 x9490 z_Row).North) false m9536) [6, 8, 10, 13, 15, 16, 18, 74, 75, 76, 92] rfl ⟨(hS9531.subR [0, 1, 2, 3, 4, 5, 6, 7]).sub [1, 2, 3, 4, 5, 6, 0] (by decide), hx9525.symm⟩
           refine WC.regionD ([(1, ⟨g9503, 1, none⟩, (iv (((rdD t7320 x9490 z_Row).South).e0))), (1, ⟨g9503, 2, none⟩, (iv (((rdD t7320 x9490 z_Row).South).e1))), (1, ⟨g9503, 3, none⟩, (iv (((rdD t7320 x9490 z_Row).South).e2))), (1, ⟨g9503, 4, none⟩, (iv (((rdD t7320 x9490 z_Row).South).e3))), (1, ⟨g9503, 5, none⟩, (iv (((rdD t7320 x9490 z_Row).South).e4))), (1, ⟨g9503, 6, none⟩, (iv (((rdD t7320 x9490 z_Row).South).e5))), (1, ⟨g9503, 7, none⟩, (iv (((rdD t7320 x9490 z_Row).South).e6))), (1, ⟨g9503, 8, none⟩, (iv (((rdD t7320 x9490 z_Row).South).e7))), (2, ⟨g9005, 0, none⟩, (iv a9371.e0)), (2, ⟨g9005, 1, none⟩, (iv a9371.e1)), (2, ⟨g9005, 2, none⟩, (iv a9371.e2)), (2, ⟨g9005, 3, none⟩, (iv a9371.e3)), (2, ⟨g9005, 4, none⟩, (iv a9371.e4)), (2, ⟨g9005, 5, none⟩, (iv a9371.e5)), (2, ⟨g9005, 6, none⟩, (iv a9371.e6)), (2, ⟨g9005, 7, none⟩, (iv a9371.e7))], [0, 1, 2, 3, 4, 5, 6, 7, 8, 9, 10, 12], [[], [0], [], [0, 1, 2], [0, 1, 2, 3], [0, 1, 2, 3, 4], [0, 1, 2, 3, 4], [0, 1, 2, 3, 4, 5, 6], [0, 1, 2, 3, 4, 5, 6, 7], [0, 1, 2, 3, 4], [0, 1, 2, 3, 4, 9], [0, 1, 2, 3, 4, 5, 6, 7, 8, 9, 10], [0, 1, 2, 3, 4, 5, 6, 7, 8, 9, 10, 11]]) [[0, 1, 2, 3, 4, 5, 6, 7, 8, 9, 10, 11, 12]] (by kernel_rfl) (by kernel_rfl) (NoPanic.seq (NoPanic.block (NoPanic.seq (NoPanic.seq (NoPanic.block (NoPanic.scope (NoPanic.block (NoPanic.seq (NoPanic.seq (NoPanic.block (NoPanic.seq (NoPanic.block (NoPanic.seq (NoPanic.seq (NoPanic.block (NoPanic.seq (NoPanic.scope (NoPanic.body)))))))))))))))))) ?_
           have hS9539 := hS9508.drew
           revert hS9539
           generalize World.drew w9507 = w9538
           intro hS9539
           refine ⟨⟨hS9539.cell 0 rfl 1 rfl, hS9539.cell 0 rfl 2 rfl, hS9539.cell 0 rfl 3 rfl, hS9539.cell 0 rfl 4 rfl, hS9539.cell 0 rfl 5 rfl, hS9539.cell 0 rfl 6 rfl, hS9539.cell 0 rfl 7 rfl, hS9539.cell 0 rfl 8 rfl, hS9539.cell 6 rfl 0 rfl, hS9539.cell 6 rfl 1 rfl, hS9539.cell 6 rfl 2 rfl, hS9539.cell 6 rfl 3 rfl, hS9539.cell 6 rfl 4 rfl, hS9539.cell 6 rfl 5 rfl, hS9539.cell 6 rfl 6 rfl, hS9539.cell 6 rfl 7 rfl, trivial⟩, forallC ?_ (forallN)⟩
           refine segF 5 [.v (iv (((rdD t7320 x9490 z_Row).South).e0)), .v (iv (((rdD t7320 x9490 z_Row).South).e1)), .v (iv (((rdD t7320 x9490 z_Row).South).e2)), .v (iv (((rdD t7320 x9490 z_Row).South).e3)), .v (iv (((rdD t7320 x9490 z_Row).South).e4)), .v (iv (((rdD t7320 x9490 z_Row).South).e5)), .v (iv (((rdD t7320 x9490 z_Row).South).e6)), .v (iv (((rdD t7320 x9490 z_Row).South).e7)), .v (iv a9371.e0), .v (iv a9371.e1), .v (iv a9371.e2), .v (iv a9371.e3), .v (iv a9371.e4), .v (iv a9371.e5), .v (iv a9371.e6), .v (iv a9371.e7)] [6, 8, 10, 13, 15, 16, 18, 74, 75, 76, 84] [(6, (pt g7142)), (8, (.slice A7325 t7320.length c7326)), (10, (pt g7332)), (13, (.slice A8961 x8965.2.length c8962)), (15, (pt g9005)), (16, (iv x9372)), (18, (pt g9503)), (74, (.slice A7325 t7320.length c7326)), (75, (iv (t7320.length : Int))), (76, (iv x9490)), (84, (.bool ((((rdD t7320 x9490 z_Row).South).e0) == a9371.e0 && ((((rdD t7320 x9490 z_Row).South).e1) == a9371.e1 && ((((rdD t7320 x9490 z_Row).South).e2) == a9371.e2 && ((((rdD t7320 x9490 z_Row).South).e3) == a9371.e3 && ((((rdD t7320 x9490 z_Row).South).e4) == a9371.e4 && ((((rdD t7320 x9490 z_Row).South).e5) == a9371.e5 && ((((rdD t7320 x9490 z_Row).South).e6) == a9371.e6 && ((((rdD t7320 x9490 z_Row).South).e7) == a9371.e7))))))))))] [] [0, 1, 2, 3, 4, 5, 6, 7, 8, 9, 10, 11, 12, 13, 14, 15] [(1, ⟨g9503, 1, none⟩, (iv (((rdD t7320 x9490 z_Row).South).e0))), (1, ⟨g9503, 2, none⟩, (iv (((rdD t7320 x9490 z_Row).South).e1))), (1, ⟨g9503, 3, none⟩, (iv (((rdD t7320 x9490 z_Row).South).e2))), (1, ⟨g9503, 4, none⟩, (iv (((rdD t7320 x9490 z_Row).South).e3))), (1, ⟨g9503, 5, none⟩, (iv (((rdD t7320 x9490 z_Row).South).e4))), (1, ⟨g9503, 6, none⟩, (iv (((rdD t7320 x9490 z_Row).South).e5))), (1, ⟨g9503, 7, none⟩, (iv (((rdD t7320 x9490 z_Row).South).e6))), (1, ⟨g9503, 8, none⟩, (iv (((rdD t7320 x9490 z_Row).South).e7))), (2, ⟨g9005, 0, none⟩, (iv a9371.e0)), (2, ⟨g9005, 1, none⟩, (iv a9371.e1)), (2, ⟨g9005, 2, none⟩, (iv a9371.e2)), (2, ⟨g9005, 3, none⟩, (iv a9371.e3)), (2, ⟨g9005, 4, none⟩, (iv a9371.e4)), (2, ⟨g9005, 5, none⟩, (iv a9371.e5)), (2, ⟨g9005, 6, none⟩, (iv a9371.e6)), (2, ⟨g9005, 7, none⟩, (iv a9371.e7))] (fun fb => by kernel_rfl) rfl trivial rfl ?_
           refine WL.setB 84 h9526 rfl ?_
           refine seg 13 [] [6, 8, 10, 13, 15, 16, 18, 74, 75, 76, 92] [(6, (pt g7142)), (8, (.slice A7325 t7320.length c7326)), (10, (pt g7332)), (13, (.slice A8961 x8965.2.length c8962)), (15, (pt g9005)), (16, (iv x9372)), (18, (pt g9503)), (74, (.slice A7325 t7320.length c7326)), (75, (iv (t7320.length : Int))), (76, (iv x9490)), (92, (.bool false))] [] (fun fb => by kernel_rfl) rfl trivial ?_
           refine WL.done rfl ?_
           injection hx9525 with hx9525
           exact WX.to Kx9524 false [6, 8, 10, 13, 15, 16, 18, 74, 75, 76, 92] rfl ⟨(hS9539.subR [0, 1, 2, 3, 4, 5, 6, 7]).sub [1, 2, 3, 4, 5, 6, 0] (by decide), hx9525.symm⟩
          rintro y9543 w9540 ⟨hS9541, hq9542⟩
          subst hq9542
          refine WX.next ?_
          rcases br_some hl9500 with ⟨h9544, hl9500⟩ | ⟨h9544, hl9500⟩
          ·refine WC.condT2 (fun fb => by kernel_rfl) h9544 ?_
           refine WC.seq ?_
           refine WC.region ?_
           refine seg 4 [.v (.slice A9368 l9370.length c9369), .v (.slice ((H7327 x9490.toNat 0).1) ((rdD t7320 x9490 z_Row).Cells).length ((H7327 x9490.toNat 0).2))] [6, 8, 10, 13, 15, 16, 18, 94, 96] [(6, (pt g7142)), (8, (.slice A7325 t7320.length c7326)), (10, (pt g7332)), (13, (.slice A8961 x8965.2.length c8962)), (15, (pt g9005)), (16, (iv x9372)), (18, (pt g9503)), (94, (.slice A9368 l9370.length c9369)), (96, (.slice ((H7327 x9490.toNat 0).1) ((rdD t7320 x9490 z_Row).Cells).length ((H7327 x9490.toNat 0).2)))] [.cell ⟨g7332, 2, none⟩ (.slice A9368 l9370.length c9369), .cell ⟨g9503, 0, none⟩ (.slice ((H7327 x9490.toNat 0).1) ((rdD t7320 x9490 z_Row).Cells).length ((H7327 x9490.toNat 0).2))] (fun fb => by kernel_rfl) rfl ⟨hS9541.cell 3 rfl 2 rfl, hS9541.cell 6 rfl 0 rfl, trivial⟩ ?_
           obtain ⟨h9545, hl9500⟩ := as_some hl9500
           refine WL.append hS9541 4 (d := 97) (tS := 36) (z := (iv 0)) (bytes := 8) (c2 := (H7327 x9490.toNat 0).2) rfl (fun fb => by kernel_rfl) (nestO.at ((hS9541.own 2).1 0) z_Row h9502.1 h9502.2) (by kernel_rfl) (by kernel_rfl) rfl (by decide) h9545 (by decide) [0, 1, 2, 3, 5, 6] (by decide) (by decide) (fun A9546 c9547 w9548 hS9549 => ?_)
           refine ⟨trivial, ?_⟩
           refine seg 6 [] [6, 8, 10, 13, 15, 16, 18, 97, 98] [(6, (pt g7142)), (8, (.slice A7325 t7320.length c7326)), (10, (pt g7332)), (13, (.slice A8961 x8965.2.length c8962)), (15, (pt g9005)), (16, (iv x9372)), (18, (pt g9503)), (97, (.slice A9546 (l9370 ++ ((rdD t7320 x9490 z_Row).Cells)).length c9547)), (98, (.pointer (some ⟨g7332, 2, none⟩)))] [] (fun fb => by kernel_rfl) rfl trivial ?_
           refine WL.store hS9549 4 rfl [(2, (.slice A9546 (l9370 ++ ((rdD t7320 x9490 z_Row).Cells)).length c9547))] #[(iv p1), (iv p2), (.slice A9546 (l9370 ++ ((rdD t7320 x9490 z_Row).Cells)).length c9547)] (fun fb => by kernel_rfl) (by kernel_rfl) rfl [0, 1, 2, 3, 5, 6] (by decide) (by decide) (fun w9550 hS9551 => ?_)
           refine ⟨trivial, ?_⟩
           refine WL.done rfl ?_
           refine WX.next ?_
           refine WC.seq ?_
           refine WC.region ?_
           refine seg 2 [.v (iv (((rdD t7320 x9490 z_Row).North).e0)), .v (iv (((rdD t7320 x9490 z_Row).North).e1)), .v (iv (((rdD t7320 x9490 z_Row).North).e2)), .v (iv (((rdD t7320 x9490 z_Row).North).e3)), .v (iv (((rdD t7320 x9490 z_Row).North).e4)), .v (iv (((rdD t7320 x9490 z_Row).North).e5)), .v (iv (((rdD t7320 x9490 z_Row).North).e6)), .v (iv (((rdD t7320 x9490 z_Row).North).e7))] [6, 8, 10, 13, 15, 16, 100] [(6, (pt g7142)), (8, (.slice A7325 t7320.length c7326)), (10, (pt g7332)), (13, (.slice A8961 x8965.2.length c8962)), (15, (pt g9005)), (16, (iv x9372)), (100, (.agg #[(iv (((rdD t7320 x9490 z_Row).North).e0)), (iv (((rdD t7320 x9490 z_Row).North).e1)), (iv (((rdD t7320 x9490 z_Row).North).e2)), (iv (((rdD t7320 x9490 z_Row).North).e3)), (iv (((rdD t7320 x9490 z_Row).North).e4)), (iv (((rdD t7320 x9490 z_Row).North).e5)), (iv (((rdD t7320 x9490 z_Row).North).e6)), (iv (((rdD t7320 x9490 z_Row).North).e7))]))] [.cell ⟨g9503, 9, none⟩ (iv (((rdD t7320 x9490 z_Row).North).e0)), .cell ⟨g9503, 10, none⟩ (iv (((rdD t7320 x9490 z_Row).North).e1)), .cell ⟨g9503, 11, none⟩ (iv (((rdD t7320 x9490 z_Row).North).e2)), .cell ⟨g9503, 12, none⟩ (iv (((rdD t7320 x9490 z_Row).North).e3)), .cell ⟨g9503, 13, none⟩ (iv (((rdD t7320 x9490 z_Row).North).e4)), .cell ⟨g9503, 14, none⟩ (iv (((rdD t7320 x9490 z_Row).North).e5)), .cell ⟨g9503, 15, none⟩ (iv (((rdD t7320 x9490 z_Row).North).e6)), .cell ⟨g9503, 16, none⟩ (iv (((rdD t7320 x9490 z_Row).North).e7))] (fun fb => by kernel_rfl) rfl ⟨hS9551.cell 6 rfl 9 rfl, hS9551.cell 6 rfl 10 rfl, hS9551.cell 6 rfl 11 rfl, hS9551.cell 6 rfl 12 rfl, hS9551.cell 6 rfl 13 rfl, hS9551.cell 6 rfl 14 rfl, hS9551.cell 6 rfl 15 rfl, hS9551.cell 6 rfl 16 rfl, trivial⟩ ?_
           refine WL.store hS9551 5 rfl [(0, (iv (((rdD t7320 x9490 z_Row).North).e0))), (1, (iv (((rdD t7320 x9490 z_Row).North).e1))), (2, (iv (((rdD t7320 x9490 z_Row).North).e2))), (3, (iv (((rdD t7320 x9490 z_Row).North).e3))), (4, (iv (((rdD t7320 x9490 z_Row).North).e4))), (5, (iv (((rdD t7320 x9490 z_Row).North).e5))), (6, (iv (((rdD t7320 x9490 z_Row).North).e6))), (7, (iv (((rdD t7320 x9490 z_Row).North).e7)))] #[(iv (((rdD t7320 x9490 z_Row).North).e0)), (iv (((rdD t7320 x9490 z_Row).North).e1)), (iv (((rdD t7320 x9490 z_Row).North).e2)), (iv (((rdD t7320 x9490 z_Row).North).e3)), (iv (((rdD t7320 x9490 z_Row).North).e4)), (iv (((rdD t7320 x9490 z_Row).North).e5)), (iv (((rdD t7320 x9490 z_Row).North).e6)), (iv (((rdD t7320 x9490 z_Row).North).e7))] (fun fb => by kernel_rfl) (by kernel_rfl) rfl [0, 1, 2, 3, 4, 6] (by decide) (by decide) (fun w9552 hS9553 => ?_)
           refine ⟨trivial, ?_⟩
           refine WL.done rfl ?_
           refine WX.next ?_
           refine WC.exit ?_
           injection hl9500 with hl9500
           exact WX.blockPast (by decide) (WX.thenX (WX.thenX (WX.blockHere (WX.to Kx9495 ((l9370 ++ ((rdD t7320 x9490 z_Row).Cells), ((rdD t7320 x9490 z_Row).North)), A9546, c9547) [6, 8, 10, 13, 15, 16] rfl ⟨(hS9553.subR [0, 1, 2, 3, 4, 5, 6, 7]).sub [3, 4, 5, 1, 2, 0] (by decide), hl9500.symm⟩))))
          refine WC.condF2 (fun fb => by kernel_rfl) h9544 ?_
          refine WC.skip ?_
          refine WX.blockN (WX.next ?_)
          refine WC.region ?_
          refine seg 2 [] [6, 8, 10, 13, 15, 16, 74, 75, 76] [(6, (pt g7142)), (8, (.slice A7325 t7320.length c7326)), (10, (pt g7332)), (13, (.slice A8961 x8965.2.length c8962)), (15, (pt g9005)), (16, (iv x9372)), (74, (.slice A7325 t7320.length c7326)), (75, (iv (t7320.length : Int))), (76, (iv (w64 (x9490 + 1))))] [] (fun fb => by kernel_rfl) rfl trivial ?_
          refine WL.done rfl ?_
          exact WX.again k9497 (Nat.lt_succ_self _) (w64 (x9490 + 1)) [6, 8, 10, 13, 15, 16, 74, 75, 76] rfl ⟨(hS9541.subR [0, 1, 2, 3, 4, 5, 6, 7]).sub [0, 1, 2, 3, 4, 5] (by decide), hl9500⟩
         refine WC.condF2 (fun fb => by kernel_rfl) h9501 ?_
         refine WC.exit ?_
         injection hl9500 with hl9500
         exact WX.thenX (WX.thenX (WX.blockHere (WX.to Kx9495 ((l9370, a9371), A9368, c9369) [6, 8, 10, 13, 15, 16] rfl ⟨(hS9499.subR [0, 1, 2, 3, 4, 5, 6, 7]).sub [0, 1, 2, 3, 4, 5] (by decide), hl9500.symm⟩)))
       rintro ⟨y9557, A9491, c9492⟩ w9554 ⟨hS9555, hq9556⟩
       subst hq9556
       refine WX.scopeN (WX.blockN (WX.next ?_))
       refine WC.region ?_
       refine seg 3 [] [6, 8, 10, 13, 15, 16] [(6, (pt g7142)), (8, (.slice A7325 t7320.length c7326)), (10, (pt g7332)), (13, (.slice A8961 x8965.2.length c8962)), (15, (pt g9005)), (16, (iv (w64 (x9372 - 1))))] [] (fun fb => by kernel_rfl) rfl trivial ?_
       refine WL.done rfl ?_
       exact WX.again k9378 (Nat.lt_succ_self _) ((x9495.1, x9495.2, w64 (x9372 - 1)), A9491, c9492) [6, 8, 10, 13, 15, 16] rfl ⟨(hS9555.subR [0, 1, 2, 3, 4, 5, 6, 7]).sub [0, 1, 2, 3, 4, 5] (by decide), hl9381⟩
      refine WC.condF2 (fun fb => by kernel_rfl) h9382 ?_
      refine WC.exit ?_
      injection hl9381 with hl9381
      exact WX.thenX (WX.thenX (WX.blockHere (WX.to Kx9376 (l9370, A9368, c9369) [6, 10] rfl ⟨(hS9380.subR [0, 1, 2, 3, 4, 5, 6, 7]).sub [0, 3, 4] (by decide), hl9381.symm⟩)))
    rintro ⟨y9561, A9373, c9374⟩ w9558 ⟨hS9559, hq9560⟩
    subst hq9560
    refine WX.next ?_
    refine WC.seq ?_
    refine WC.region ?_
    refine seg 1 [.v (iv p1), .v (iv p2), .v (.slice A9373 x9376.length c9374)] [6, 102] [(6, (pt g7142)), (102, (.agg #[(iv p1), (iv p2), (.slice A9373 x9376.length c9374)]))] [.cell ⟨g7332, 0, none⟩ (iv p1), .cell ⟨g7332, 1, none⟩ (iv p2), .cell ⟨g7332, 2, none⟩ (.slice A9373 x9376.length c9374)] (fun fb => by kernel_rfl) rfl ⟨hS9559.cell 1 rfl 0 rfl, hS9559.cell 1 rfl 1 rfl, hS9559.cell 1 rfl 2 rfl, trivial⟩ ?_
    refine WL.store hS9559 0 rfl [(0, (iv p1)), (1, (iv p2)), (2, (.slice A9373 x9376.length c9374))] #[(iv p1), (iv p2), (.slice A9373 x9376.length c9374)] (fun fb => by kernel_rfl) (by kernel_rfl) rfl [1, 2] (by decide) (by decide) (fun w9562 hS9563 => ?_)
    refine ⟨trivial, ?_⟩
    refine seg 3 [] [6, 7] [(6, (pt g7142)), (7, (.bool true))] [] (fun fb => by kernel_rfl) rfl trivial ?_
    refine WL.done rfl ?_
    refine WX.next ?_
    refine WC.ret ?_
    injection hl8934 with hl8934
    subst hl8934
    injection hf with hf
    subst hf
    exact WX.blockR (WX.thenR (WX.thenR (WX.blockR (WX.thenR (WX.scopeR (WX.ret_ [.v (iv p1), .v (iv p2), .v (.slice A9373 x9376.length c9374)] (.tuple #[(.agg #[(iv p1), (iv p2), (.slice A9373 x9376.length c9374)]), (.bool true)]) [.cell ⟨g7142, 0, none⟩ (iv p1), .cell ⟨g7142, 1, none⟩ (iv p2), .cell ⟨g7142, 2, none⟩ (.slice A9373 x9376.length c9374)] (fun fb => by kernel_rfl) ⟨hS9563.cell 0 rfl 0 rfl, hS9563.cell 0 rfl 1 rfl, hS9563.cell 0 rfl 2 rfl, trivial⟩ ⟨_, rfl, A9373, c9374, rfl, (hS9563.sub [2] (by decide)).noR⟩))))))
   refine WC.condF2 (fun fb => by kernel_rfl) h8935 ?_
   refine WC.exit ?_
   injection hl8934 with hl8934
   exact WX.thenX (WX.thenX (WX.blockHere (WX.to Kx8929 () [6] rfl ⟨(hS8933.subR [1, 2]).sub [0] (by decide), hl8934.symm⟩)))
 rintro y9567 w9564 ⟨hS9565, hq9566⟩
 subst hq9566
 have hf := sum_inr hf
 refine WX.next ?_
 refine WC.seq ?_
 refine WC.region ?_
 refine seg 1 [] [6, 104] [(6, (pt g7142)), (104, (.agg #[(iv 0), (iv 0), (.slice none 0 0)]))] [] (fun fb => by kernel_rfl) rfl trivial ?_
 refine WL.store hS9565 0 rfl [(0, (iv 0)), (1, (iv 0)), (2, (.slice none 0 0))] #[(iv 0), (iv 0), (.slice none 0 0)] (fun fb => by kernel_rfl) (by kernel_rfl) rfl [] (by decide) (by decide) (fun w9569 hS9570 => ?_)
 refine ⟨trivial, ?_⟩
 refine seg 3 [] [6, 7] [(6, (pt g7142)), (7, (.bool false))] [] (fun fb => by kernel_rfl) rfl trivial ?_
 refine WL.done rfl ?_
 refine WX.next ?_
 refine WC.ret ?_
 have hS9571 := hS9570.nilrow 3 encInt
 injection hf with hf
 subst hf
 exact WX.scopeR (WX.ret_ [.v (iv 0), .v (iv 0), .v (.slice none 0 0)] (.tuple #[(.agg #[(iv 0), (iv 0), (.slice none ([] : List Int).length 0)]), (.bool false)]) [.cell ⟨g7142, 0, none⟩ (iv 0), .cell ⟨g7142, 1, none⟩ (iv 0), .cell ⟨g7142, 2, none⟩ (.slice none 0 0)] (fun fb => by kernel_rfl) ⟨hS9570.cell 0 rfl 0 rfl, hS9570.cell 0 rfl 1 rfl, hS9570.cell 0 rfl 2 rfl, trivial⟩ ⟨_, rfl, none, 0, rfl, (hS9571.sub [0] (by decide)).noR⟩)
theorem torus_Least_calls (k : Nat) (p0 : List Tile) (p1 : Int) (A_p0 : Option Addr) (c_p0 : Nat) (r : Pattern × Int) (w : World) (hR0 : RO NoS w (rowR enc_Tile A_p0 c_p0 p0)) (hf : torus_Least k p0 p1 = some r) :
  CallsR Try.prog 25 #[(.slice A_p0 p0.length c_p0), (iv p1)] w (fun v w' => ∃ (A1_ : Option Addr), ∃ (c1_ : Nat), v = (.tuple #[(.agg #[(iv r.1.Width), (iv r.1.Height), (.slice A1_ r.1.Cells.length c1_)]), (iv r.2)]) ∧ St NoS w w' [] [rowO 3 encInt A1_ c1_ r.1.Cells]) := by
 have hS : St NoS w w [rowR enc_Tile A_p0 c_p0 p0] [] := St.init (ro_cons hR0 (ro_nil _ _))
 refine enter 61 Try.func25 rfl Try.ntmps25 rfl ?_
 unfold torus_Least at hf
 refine WC.seq ?_
 refine WC.region ?_
 refine WL.new hS 4 [] (fun g => (.pointer (some ⟨g, 0, none⟩))) (.cells #[(iv 0), (iv 0), (.slice none 0 0)] 38 (0, 0)) [] (fun fb g => by kernel_rfl) trivial (fun g7109 w7110 hS7111 => ?_)
 refine ⟨trivial, ?_⟩
 refine seg 2 [] [0, 1, 4] [(0, (.slice A_p0 p0.length c_p0)), (1, (iv p1)), (4, (pt g7109))] [] (fun fb => by kernel_rfl) rfl trivial ?_
 refine WL.done rfl ?_
 refine WX.next ?_
 refine WC.seq ?_
 refine WC.seq ?_
 refine WC.region ?_
 refine seg 1 [] [0, 1, 4, 10] [(0, (.slice A_p0 p0.length c_p0)), (1, (iv p1)), (4, (pt g7109)), (10, (.slice A_p0 p0.length c_p0))] [] (fun fb => by kernel_rfl) rfl trivial ?_
 obtain ⟨t7113, ht7114, hf⟩ := bind_some hf
 refine WL.call (some 11) 38 #[(.slice A_p0 p0.length c_p0)] (fun fb => by kernel_rfl) (tile_Valid_calls _ p0 A_p0 c_p0 t7113 _ (hS7111.rd 0) ht7114) (fun v w7115 hR7116 => ?_)
 obtain ⟨rfl, hk_⟩ := hR7116
 have hS7117 := hS7111.keepN hk_
 refine ⟨trivial, ?_⟩
 refine seg 3 [] [0, 1, 4, 12] [(0, (.slice A_p0 p0.length c_p0)), (1, (iv p1)), (4, (pt g7109)), (12, (.bool (!t7113)))] [] (fun fb => by kernel_rfl) rfl trivial ?_
 refine WL.done rfl ?_
 refine WX.next ?_
 rcases br_some hf with ⟨h7118, hf⟩ | ⟨h7118, hf⟩
 ·refine WC.condT2 (fun fb => by kernel_rfl) h7118 ?_
  refine WC.seq ?_
  refine WC.region ?_
  refine seg 1 [] [4, 13] [(4, (pt g7109)), (13, (.agg #[(iv 0), (iv 0), (.slice none 0 0)]))] [] (fun fb => by kernel_rfl) rfl trivial ?_
  refine WL.store hS7117 0 rfl [(0, (iv 0)), (1, (iv 0)), (2, (.slice none 0 0))] #[(iv 0), (iv 0), (.slice none 0 0)] (fun fb => by kernel_rfl) (by kernel_rfl) rfl [] (by decide) (by decide) (fun w7119 hS7120 => ?_)
  refine ⟨trivial, ?_⟩
  refine seg 3 [] [4, 5] [(4, (pt g7109)), (5, (iv 1))] [] (fun fb => by kernel_rfl) rfl trivial ?_
  refine WL.done rfl ?_
  refine WX.next ?_
  refine WC.ret ?_
  have hS7121 := hS7120.nilrow 3 encInt
  injection hf with hf
  subst hf
  exact WX.thenR (WX.ret_ [.v (iv 0), .v (iv 0), .v (.slice none 0 0)] (.tuple #[(.agg #[(iv 0), (iv 0), (.slice none ([] : List Int).length 0)]), (iv 1)]) [.cell ⟨g7109, 0, none⟩ (iv 0), .cell ⟨g7109, 1, none⟩ (iv 0), .cell ⟨g7109, 2, none⟩ (.slice none 0 0)] (fun fb => by kernel_rfl) ⟨hS7120.cell 0 rfl 0 rfl, hS7120.cell 0 rfl 1 rfl, hS7120.cell 0 rfl 2 rfl, trivial⟩ ⟨_, rfl, none, 0, rfl, (hS7121.sub [0] (by decide)).noR⟩)
 refine WC.condF2 (fun fb => by kernel_rfl) h7118 ?_
 refine WC.skip ?_
 refine WX.next ?_
 refine WC.seq ?_
 refine WC.seq ?_
 refine WC.region ?_
 refine seg 3 [] [0, 1, 4, 16] [(0, (.slice A_p0 p0.length c_p0)), (1, (iv p1)), (4, (pt g7109)), (16, (.bool (decide (p1 < 1))))] [] (fun fb => by kernel_rfl) rfl trivial ?_
 refine WL.cutV (T := Bool) 6 (fun t => [(19, (.bool t)), (0, (.slice A_p0 p0.length c_p0)), (1, (iv p1)), (4, (pt g7109))]) (fun t => ((decide (p1 < 1)) || (decide (p1 > 6))) = t) (fun K => ?_) ?_
 ·
  rcases Bool.eq_false_or_eq_true (decide (p1 < 1)) with h7122 | h7122
  ·
   refine WL.setB 16 h7122 rfl ?_
   refine seg 6 [] [0, 1, 4, 19] [(0, (.slice A_p0 p0.length c_p0)), (1, (iv p1)), (4, (pt g7109)), (19, (.bool true))] [] (fun fb => by kernel_rfl) rfl trivial ?_
   exact WL.toV K true [19, 0, 1, 4] rfl (by first | (rw [h7122]; done) | (rw [h7122]; rfl))
  refine WL.setB 16 h7122 rfl ?_
  refine seg 6 [] [0, 1, 4, 19] [(0, (.slice A_p0 p0.length c_p0)), (1, (iv p1)), (4, (pt g7109)), (19, (.bool (decide (p1 > 6))))] [] (fun fb => by kernel_rfl) rfl trivial ?_
  exact WL.toV K (decide (p1 > 6)) [19, 0, 1, 4] rfl (by first | (rw [h7122]; done) | (rw [h7122]; rfl))
 rintro b7123 rfl
 refine WL.done rfl ?_
 refine WX.next ?_
 rcases br_some hf with ⟨h7124, hf⟩ | ⟨h7124, hf⟩
 ·refine WC.condT2 (fun fb => by kernel_rfl) h7124 ?_
  refine WC.seq ?_
  refine WC.region ?_
  refine seg 1 [] [4, 20] [(4, (pt g7109)), (20, (.agg #[(iv 0), (iv 0), (.slice none 0 0)]))] [] (fun fb => by kernel_rfl) rfl trivial ?_
  refine WL.store hS7117 0 rfl [(0, (iv 0)), (1, (iv 0)), (2, (.slice none 0 0))] #[(iv 0), (iv 0), (.slice none 0 0)] (fun fb => by kernel_rfl) (by kernel_rfl) rfl [] (by decide) (by decide) (fun w7125 hS7126 => ?_)
  refine ⟨trivial, ?_⟩
  refine seg 3 [] [4, 5] [(4, (pt g7109)), (5, (iv 2))] [] (fun fb => by kernel_rfl) rfl trivial ?_
  refine WL.done rfl ?_
  refine WX.next ?_
  refine WC.ret ?_
  have hS7127 := hS7126.nilrow 3 encInt
  injection hf with hf
  subst hf
  exact WX.thenR (WX.ret_ [.v (iv 0), .v (iv 0), .v (.slice none 0 0)] (.tuple #[(.agg #[(iv 0), (iv 0), (.slice none ([] : List Int).length 0)]), (iv 2)]) [.cell ⟨g7109, 0, none⟩ (iv 0), .cell ⟨g7109, 1, none⟩ (iv 0), .cell ⟨g7109, 2, none⟩ (.slice none 0 0)] (fun fb => by kernel_rfl) ⟨hS7126.cell 0 rfl 0 rfl, hS7126.cell 0 rfl 1 rfl, hS7126.cell 0 rfl 2 rfl, trivial⟩ ⟨_, rfl, none, 0, rfl, (hS7127.sub [0] (by decide)).noR⟩)
 refine WC.condF2 (fun fb => by kernel_rfl) h7124 ?_
 refine WC.skip ?_
 refine WX.next ?_
 refine WC.seq ?_
 refine WC.seq ?_
 refine WC.region ?_
 refine seg 2 [] [0, 1, 4, 21, 22] [(0, (.slice A_p0 p0.length c_p0)), (1, (iv p1)), (4, (pt g7109)), (21, (.slice A_p0 p0.length c_p0)), (22, (iv p1))] [] (fun fb => by kernel_rfl) rfl trivial ?_
 obtain ⟨t7128, ht7129, hf⟩ := bind_some hf
 refine WL.call (some 23) 45 #[(.slice A_p0 p0.length c_p0), (iv p1)] (fun fb => by kernel_rfl) (rows_Few_calls _ p0 p1 A_p0 c_p0 t7128 _ (hS7117.rd 0) ht7129) (fun v w7130 hR7131 => ?_)
 obtain ⟨rfl, hk_⟩ := hR7131
 have hS7132 := hS7117.keepN hk_
 refine ⟨trivial, ?_⟩
 refine seg 4 [] [0, 1, 4, 24] [(0, (.slice A_p0 p0.length c_p0)), (1, (iv p1)), (4, (pt g7109)), (24, (.bool (!t7128)))] [] (fun fb => by kernel_rfl) rfl trivial ?_
 refine WL.done rfl ?_
 refine WX.next ?_
 rcases br_some hf with ⟨h7133, hf⟩ | ⟨h7133, hf⟩
 ·refine WC.condT2 (fun fb => by kernel_rfl) h7133 ?_
  refine WC.seq ?_
  refine WC.region ?_
  refine seg 1 [] [4, 25] [(4, (pt g7109)), (25, (.agg #[(iv 0), (iv 0), (.slice none 0 0)]))] [] (fun fb => by kernel_rfl) rfl trivial ?_
  refine WL.store hS7132 0 rfl [(0, (iv 0)), (1, (iv 0)), (2, (.slice none 0 0))] #[(iv 0), (iv 0), (.slice none 0 0)] (fun fb => by kernel_rfl) (by kernel_rfl) rfl [] (by decide) (by decide) (fun w7134 hS7135 => ?_)
  refine ⟨trivial, ?_⟩
  refine seg 3 [] [4, 5] [(4, (pt g7109)), (5, (iv 4))] [] (fun fb => by kernel_rfl) rfl trivial ?_
  refine WL.done rfl ?_
  refine WX.next ?_
  refine WC.ret ?_
  have hS7136 := hS7135.nilrow 3 encInt
  injection hf with hf
  subst hf
  exact WX.thenR (WX.ret_ [.v (iv 0), .v (iv 0), .v (.slice none 0 0)] (.tuple #[(.agg #[(iv 0), (iv 0), (.slice none ([] : List Int).length 0)]), (iv 4)]) [.cell ⟨g7109, 0, none⟩ (iv 0), .cell ⟨g7109, 1, none⟩ (iv 0), .cell ⟨g7109, 2, none⟩ (.slice none 0 0)] (fun fb => by kernel_rfl) ⟨hS7135.cell 0 rfl 0 rfl, hS7135.cell 0 rfl 1 rfl, hS7135.cell 0 rfl 2 rfl, trivial⟩ ⟨_, rfl, none, 0, rfl, (hS7136.sub [0] (by decide)).noR⟩)
 refine WC.condF2 (fun fb => by kernel_rfl) h7133 ?_
 refine WC.skip ?_
 refine WX.next ?_
 refine WC.seq ?_
 refine WC.seq ?_
 refine WC.region ?_
 refine seg 1 [] [0, 1, 4, 6] [(0, (.slice A_p0 p0.length c_p0)), (1, (iv p1)), (4, (pt g7109)), (6, (iv 1))] [] (fun fb => by kernel_rfl) rfl trivial ?_
 refine WL.done rfl ?_
 refine WX.next ?_
 obtain ⟨x9881, hx9882, hf⟩ := bind_some hf
 refine WC.cutN (T := Unit) (fun t => [(4, (pt g7109))]) (fun t w1 => St NoS w w1 [rowR enc_Tile A_p0 c_p0 p0] [blk g7109 (.cells #[(iv 0), (iv 0), (.slice none 0 0)] 38 (0, 0))] ∧ x9881 = .inr t) (fun Kx9881 => ?_) ?_
 ·
  refine WC.block ?_
  refine WC.loop (T := Int) (fun t => [(0, (.slice A_p0 p0.length c_p0)), (1, (iv p1)), (4, (pt g7109)), (6, (iv t))]) (fun n t w1 => St NoS w w1 [rowR enc_Tile A_p0 c_p0 p0] [blk g7109 (.cells #[(iv 0), (iv 0), (.slice none 0 0)] 38 (0, 0))] ∧ torus_Least.l0 n t p0 p1 = some x9881) k 1 [0, 1, 4, 6] rfl ⟨(hS7132.subR [0]).sub [0] (by decide), hx9882⟩ ?_
  rintro k9883 x9880 w9884 ⟨hS9885, hl9886⟩
  cases k9883 with
  | zero => rw [torus_Least.l0] at hl9886; cases hl9886
  | succ k9883 =>
   rw [torus_Least.l0] at hl9886
   refine WC.seq ?_
   refine WC.seq ?_
   refine WC.region ?_
   refine seg 5 [] [0, 1, 4, 6, 30] [(0, (.slice A_p0 p0.length c_p0)), (1, (iv p1)), (4, (pt g7109)), (6, (iv x9880)), (30, (.bool (decide (x9880 ≤ w64 (p1 * p1)))))] [] (fun fb => by kernel_rfl) rfl trivial ?_
   refine WL.done rfl ?_
   refine WX.next ?_
   rcases br_some hl9886 with ⟨h9887, hl9886⟩ | ⟨h9887, hl9886⟩
   ·refine WC.condT2 (fun fb => by kernel_rfl) h9887 ?_
    refine WC.skip ?_
    refine WX.next ?_
    refine WC.seq ?_
    refine WC.block ?_
    refine WC.seq ?_
    refine WC.region ?_
    refine seg 1 [] [0, 1, 4, 6, 7] [(0, (.slice A_p0 p0.length c_p0)), (1, (iv p1)), (4, (pt g7109)), (6, (iv x9880)), (7, (iv 1))] [] (fun fb => by kernel_rfl) rfl trivial ?_
    refine WL.done rfl ?_
    refine WX.next ?_
    obtain ⟨x9984, hx9985, hl9886⟩ := bind_some hl9886
    refine WC.cutN (T := Unit) (fun t => [(0, (.slice A_p0 p0.length c_p0)), (1, (iv p1)), (4, (pt g7109)), (6, (iv x9880))]) (fun t w1 => St NoS w w1 [rowR enc_Tile A_p0 c_p0 p0] [blk g7109 (.cells #[(iv 0), (iv 0), (.slice none 0 0)] 38 (0, 0))] ∧ x9984 = .inr t) (fun Kx9984 => ?_) ?_
    ·
     refine WC.block ?_
     refine WC.loop (T := Int) (fun t => [(0, (.slice A_p0 p0.length c_p0)), (1, (iv p1)), (4, (pt g7109)), (6, (iv x9880)), (7, (iv t))]) (fun n t w1 => St NoS w w1 [rowR enc_Tile A_p0 c_p0 p0] [blk g7109 (.cells #[(iv 0), (iv 0), (.slice none 0 0)] 38 (0, 0))] ∧ torus_Least.l1 n t p0 p1 x9880 = some x9984) k9883 1 [0, 1, 4, 6, 7] rfl ⟨(hS9885.subR [0]).sub [0] (by decide), hx9985⟩ ?_
     rintro k9986 x9983 w9987 ⟨hS9988, hl9989⟩
     cases k9986 with
     | zero => rw [torus_Least.l1] at hl9989; cases hl9989
     | succ k9986 =>
      rw [torus_Least.l1] at hl9989
      refine WC.seq ?_
      refine WC.seq ?_
      refine WC.region ?_
      refine seg 3 [] [0, 1, 4, 6, 7, 35] [(0, (.slice A_p0 p0.length c_p0)), (1, (iv p1)), (4, (pt g7109)), (6, (iv x9880)), (7, (iv x9983)), (35, (.bool (decide (x9983 ≤ p1))))] [] (fun fb => by kernel_rfl) rfl trivial ?_
      refine WL.done rfl ?_
      refine WX.next ?_
      rcases br_some hl9989 with ⟨h9990, hl9989⟩ | ⟨h9990, hl9989⟩
      ·refine WC.condT2 (fun fb => by kernel_rfl) h9990 ?_
       refine WC.skip ?_
       refine WX.next ?_
       refine WC.seq ?_
       obtain ⟨x10011, hx10012, hl9989⟩ := bind_some hl9989
       refine WC.cutN (T := Unit) (fun t => [(0, (.slice A_p0 p0.length c_p0)), (1, (iv p1)), (4, (pt g7109)), (6, (iv x9880)), (7, (iv x9983))]) (fun t w1 => St NoS w w1 [rowR enc_Tile A_p0 c_p0 p0] [blk g7109 (.cells #[(iv 0), (iv 0), (.slice none 0 0)] 38 (0, 0))] ∧ x10011 = .inr t) (fun Kx10011 => ?_) ?_
       ·
        refine WC.block ?_
        refine WC.seq ?_
        refine WC.seq ?_
        refine WC.region ?_
        refine seg 2 [] [0, 1, 4, 6, 7, 38, 39] [(0, (.slice A_p0 p0.length c_p0)), (1, (iv p1)), (4, (pt g7109)), (6, (iv x9880)), (7, (iv x9983)), (38, (iv x9880)), (39, (iv x9983))] [] (fun fb => by kernel_rfl) rfl trivial ?_
        obtain ⟨h10013, hx10012⟩ := as_some hx10012
        refine seg 5 [] [0, 1, 4, 6, 7, 42] [(0, (.slice A_p0 p0.length c_p0)), (1, (iv p1)), (4, (pt g7109)), (6, (iv x9880)), (7, (iv x9983)), (42, (.bool ((Int.tmod x9880 x9983) != 0)))] [.ne x9983] (fun fb => by kernel_rfl) rfl ⟨h10013, trivial⟩ ?_
        refine WL.cutV (T := Bool) 11 (fun t => [(48, (.bool t)), (0, (.slice A_p0 p0.length c_p0)), (1, (iv p1)), (4, (pt g7109)), (6, (iv x9880)), (7, (iv x9983))]) (fun t => (((Int.tmod x9880 x9983) != 0) || (decide (w64 (Int.tdiv x9880 x9983) > p1))) = t) (fun K => ?_) ?_
        ·
         rcases Bool.eq_false_or_eq_true ((Int.tmod x9880 x9983) != 0) with h10014 | h10014
         ·
          refine WL.setB 42 h10014 rfl ?_
          refine seg 11 [] [0, 1, 4, 6, 7, 48] [(0, (.slice A_p0 p0.length c_p0)), (1, (iv p1)), (4, (pt g7109)), (6, (iv x9880)), (7, (iv x9983)), (48, (.bool true))] [] (fun fb => by kernel_rfl) rfl trivial ?_
          exact WL.toV K true [48, 0, 1, 4, 6, 7] rfl (by first | (rw [h10014]; done) | (rw [h10014]; rfl))
         refine WL.setB 42 h10014 rfl ?_
         refine seg 11 [] [0, 1, 4, 6, 7, 48] [(0, (.slice A_p0 p0.length c_p0)), (1, (iv p1)), (4, (pt g7109)), (6, (iv x9880)), (7, (iv x9983)), (48, (.bool (decide (w64 (Int.tdiv x9880 x9983) > p1))))] [.ne x9983] (fun fb => by kernel_rfl) rfl ⟨h10013, trivial⟩ ?_
         exact WL.toV K (decide (w64 (Int.tdiv x9880 x9983) > p1)) [48, 0, 1, 4, 6, 7] rfl (by first | (rw [h10014]; done) | (rw [h10014]; rfl))
        rintro b10015 rfl
        refine WL.done rfl ?_
        refine WX.next ?_
        rcases br_some hx10012 with ⟨h10016, hx10012⟩ | ⟨h10016, hx10012⟩
        ·refine WC.condT2 (fun fb => by kernel_rfl) h10016 ?_
         refine WC.exit ?_
         injection hx10012 with hx10012
         exact WX.thenX (WX.blockHere (WX.to Kx10011 () [0, 1, 4, 6, 7] rfl ⟨(hS9988.subR [0]).sub [0] (by decide), hx10012.symm⟩))
        refine WC.condF2 (fun fb => by kernel_rfl) h10016 ?_
        refine WC.skip ?_
        refine WX.next ?_
        refine WC.seq ?_
        refine WC.region ?_
        refine seg 5 [] [0, 1, 4, 6, 7, 50, 51, 54] [(0, (.slice A_p0 p0.length c_p0)), (1, (iv p1)), (4, (pt g7109)), (6, (iv x9880)), (7, (iv x9983)), (50, (.slice A_p0 p0.length c_p0)), (51, (iv x9983)), (54, (iv (w64 (Int.tdiv x9880 x9983))))] [.ne x9983] (fun fb => by kernel_rfl) rfl ⟨h10013, trivial⟩ ?_
        obtain ⟨t10017, ht10018, hx10012⟩ := bind_some hx10012
        refine WL.call (some 55) 46 #[(.slice A_p0 p0.length c_p0), (iv x9983), (iv (w64 (Int.tdiv x9880 x9983)))] (fun fb => by kernel_rfl) (torus_find_calls _ p0 x9983 (w64 (Int.tdiv x9880 x9983)) A_p0 c_p0 t10017 _ (hS9988.rd 0) ht10018) (fun v w10019 hR10020 => ?_)
        obtain ⟨A10022, c10023, rfl, hk_⟩ := hR10020
        have hS10021 : St NoS w w10019 [rowR enc_Tile A_p0 c_p0 p0] [rowO 3 encInt A10022 c10023 t10017.1.Cells, blk g7109 (.cells #[(iv 0), (iv 0), (.slice none 0 0)] 38 (0, 0))] := hS9988.call hk_ [] [0] (fun g hg => hg.elim) (by simp) (by decide)
        refine ⟨trivial, ?_⟩
        refine seg 9 [] [0, 1, 4, 6, 7, 56, 57] [(0, (.slice A_p0 p0.length c_p0)), (1, (iv p1)), (4, (pt g7109)), (6, (iv x9880)), (7, (iv x9983)), (56, (.agg #[(iv t10017.1.Width), (iv t10017.1.Height), (.slice A10022 t10017.1.Cells.length c10023)])), (57, (.bool t10017.2))] [] (fun fb => by kernel_rfl) rfl trivial ?_
        refine WL.new hS10021 8 [] (fun g => (.pointer (some ⟨g, 0, none⟩))) (.cells #[(iv 0), (iv 0), (.slice none 0 0)] 38 (0, 0)) [] (fun fb g => by kernel_rfl) trivial (fun g10024 w10025 hS10026 => ?_)
        refine ⟨trivial, ?_⟩
        refine WL.store hS10026 0 rfl [(0, (iv t10017.1.Width)), (1, (iv t10017.1.Height)), (2, (.slice A10022 t10017.1.Cells.length c10023))] #[(iv t10017.1.Width), (iv t10017.1.Height), (.slice A10022 t10017.1.Cells.length c10023)] (fun fb => by kernel_rfl) (by kernel_rfl) rfl [1, 2] (by decide) (by decide) (fun w10028 hS10029 => ?_)
        refine ⟨trivial, ?_⟩
        refine seg 12 [] [0, 1, 4, 6, 7, 8, 9] [(0, (.slice A_p0 p0.length c_p0)), (1, (iv p1)), (4, (pt g7109)), (6, (iv x9880)), (7, (iv x9983)), (8, (pt g10024)), (9, (.bool t10017.2))] [] (fun fb => by kernel_rfl) rfl trivial ?_
        refine WL.done rfl ?_
        refine WX.next ?_
        refine WC.seq ?_
        refine WC.region ?_
        refine seg 1 [] [0, 1, 4, 6, 7, 8, 58] [(0, (.slice A_p0 p0.length c_p0)), (1, (iv p1)), (4, (pt g7109)), (6, (iv x9880)), (7, (iv x9983)), (8, (pt g10024)), (58, (.bool t10017.2))] [] (fun fb => by kernel_rfl) rfl trivial ?_
        refine WL.done rfl ?_
        refine WX.next ?_
        rcases br_some hx10012 with ⟨h10030, hx10012⟩ | ⟨h10030, hx10012⟩
        ·refine WC.condT2 (fun fb => by kernel_rfl) h10030 ?_
         refine WC.seq ?_
         refine WC.region ?_
         refine seg 1 [.v (iv t10017.1.Width), .v (iv t10017.1.Height), .v (.slice A10022 t10017.1.Cells.length c10023)] [4, 59] [(4, (pt g7109)), (59, (.agg #[(iv t10017.1.Width), (iv t10017.1.Height), (.slice A10022 t10017.1.Cells.length c10023)]))] [.cell ⟨g10024, 0, none⟩ (iv t10017.1.Width), .cell ⟨g10024, 1, none⟩ (iv t10017.1.Height), .cell ⟨g10024, 2, none⟩ (.slice A10022 t10017.1.Cells.length c10023)] (fun fb => by kernel_rfl) rfl ⟨hS10029.cell 0 rfl 0 rfl, hS10029.cell 0 rfl 1 rfl, hS10029.cell 0 rfl 2 rfl, trivial⟩ ?_
         refine WL.store hS10029 2 rfl [(0, (iv t10017.1.Width)), (1, (iv t10017.1.Height)), (2, (.slice A10022 t10017.1.Cells.length c10023))] #[(iv t10017.1.Width), (iv t10017.1.Height), (.slice A10022 t10017.1.Cells.length c10023)] (fun fb => by kernel_rfl) (by kernel_rfl) rfl [0, 1] (by decide) (by decide) (fun w10031 hS10032 => ?_)
         refine ⟨trivial, ?_⟩
         refine seg 3 [] [4, 5] [(4, (pt g7109)), (5, (iv 0))] [] (fun fb => by kernel_rfl) rfl trivial ?_
         refine WL.done rfl ?_
         refine WX.next ?_
         refine WC.ret ?_
         injection hx10012 with hx10012
         subst hx10012
         injection hl9989 with hl9989
         subst hl9989
         injection hl9886 with hl9886
         subst hl9886
         injection hf with hf
         subst hf
         exact WX.blockR (WX.thenR (WX.thenR (WX.blockR (WX.blockR (WX.thenR (WX.thenR (WX.blockR (WX.thenR (WX.ret_ [.v (iv t10017.1.Width), .v (iv t10017.1.Height), .v (.slice A10022 t10017.1.Cells.length c10023)] (.tuple #[(.agg #[(iv t10017.1.Width), (iv t10017.1.Height), (.slice A10022 t10017.1.Cells.length c10023)]), (iv 0)]) [.cell ⟨g7109, 0, none⟩ (iv t10017.1.Width), .cell ⟨g7109, 1, none⟩ (iv t10017.1.Height), .cell ⟨g7109, 2, none⟩ (.slice A10022 t10017.1.Cells.length c10023)] (fun fb => by kernel_rfl) ⟨hS10032.cell 0 rfl 0 rfl, hS10032.cell 0 rfl 1 rfl, hS10032.cell 0 rfl 2 rfl, trivial⟩ ⟨_, rfl, A10022, c10023, rfl, (hS10032.sub [2] (by decide)).noR⟩)))))))))
        refine WC.condF2 (fun fb => by kernel_rfl) h10030 ?_
        refine WC.skip ?_
        injection hx10012 with hx10012
        exact WX.blockN (WX.to Kx10011 () [0, 1, 4, 6, 7] rfl ⟨(hS10029.subR [0]).sub [2] (by decide), hx10012.symm⟩)
       rintro y10036 w10033 ⟨hS10034, hq10035⟩
       subst hq10035
       have hl9989 := sum_inr hl9989
       refine WX.next ?_
       refine WC.region ?_
       refine seg 3 [] [0, 1, 4, 6, 7] [(0, (.slice A_p0 p0.length c_p0)), (1, (iv p1)), (4, (pt g7109)), (6, (iv x9880)), (7, (iv (w64 (x9983 + 1))))] [] (fun fb => by kernel_rfl) rfl trivial ?_
       refine WL.done rfl ?_
       exact WX.again k9986 (Nat.lt_succ_self _) (w64 (x9983 + 1)) [0, 1, 4, 6, 7] rfl ⟨(hS10034.subR [0]).sub [0] (by decide), hl9989⟩
      refine WC.condF2 (fun fb => by kernel_rfl) h9990 ?_
      refine WC.exit ?_
      injection hl9989 with hl9989
      exact WX.thenX (WX.thenX (WX.blockHere (WX.to Kx9984 () [0, 1, 4, 6] rfl ⟨(hS9988.subR [0]).sub [0] (by decide), hl9989.symm⟩)))
    rintro y10041 w10038 ⟨hS10039, hq10040⟩
    subst hq10040
    have hl9886 := sum_inr hl9886
    refine WX.blockN (WX.next ?_)
    refine WC.region ?_
    refine seg 3 [] [0, 1, 4, 6] [(0, (.slice A_p0 p0.length c_p0)), (1, (iv p1)), (4, (pt g7109)), (6, (iv (w64 (x9880 + 1))))] [] (fun fb => by kernel_rfl) rfl trivial ?_
    refine WL.done rfl ?_
    exact WX.again k9883 (Nat.lt_succ_self _) (w64 (x9880 + 1)) [0, 1, 4, 6] rfl ⟨(hS10039.subR [0]).sub [0] (by decide), hl9886⟩
   refine WC.condF2 (fun fb => by kernel_rfl) h9887 ?_
   refine WC.exit ?_
   injection hl9886 with hl9886
   exact WX.thenX (WX.thenX (WX.blockHere (WX.to Kx9881 () [4] rfl ⟨(hS9885.subR [0]).sub [0] (by decide), hl9886.symm⟩)))
 rintro y10046 w10043 ⟨hS10044, hq10045⟩
 subst hq10045
 have hf := sum_inr hf
 refine WX.next ?_
 refine WC.seq ?_
 refine WC.region ?_
 refine seg 1 [] [4, 60] [(4, (pt g7109)), (60, (.agg #[(iv 0), (iv 0), (.slice none 0 0)]))] [] (fun fb => by kernel_rfl) rfl trivial ?_
 refine WL.store hS10044 0 rfl [(0, (iv 0)), (1, (iv 0)), (2, (.slice none 0 0))] #[(iv 0), (iv 0), (.slice none 0 0)] (fun fb => by kernel_rfl) (by kernel_rfl) rfl [] (by decide) (by decide) (fun w10048 hS10049 => ?_)
 refine ⟨trivial, ?_⟩
 refine seg 3 [] [4, 5] [(4, (pt g7109)), (5, (iv 6))] [] (fun fb => by kernel_rfl) rfl trivial ?_
 refine WL.done rfl ?_
 refine WX.next ?_
 refine WC.ret ?_
 have hS10050 := hS10049.nilrow 3 encInt
 injection hf with hf
 subst hf
 exact WX.ret_ [.v (iv 0), .v (iv 0), .v (.slice none 0 0)] (.tuple #[(.agg #[(iv 0), (iv 0), (.slice none ([] : List Int).length 0)]), (iv 6)]) [.cell ⟨g7109, 0, none⟩ (iv 0), .cell ⟨g7109, 1, none⟩ (iv 0), .cell ⟨g7109, 2, none⟩ (.slice none 0 0)] (fun fb => by kernel_rfl) ⟨hS10049.cell 0 rfl 0 rfl, hS10049.cell 0 rfl 1 rfl, hS10049.cell 0 rfl 2 rfl, trivial⟩ ⟨_, rfl, none, 0, rfl, (hS10050.sub [0] (by decide)).noR⟩
theorem decide_Decide_calls (k : Nat) (p0 : List Tile) (A_p0 : Option Addr) (c_p0 : Nat) (r : Verdict × Int) (w : World) (hR0 : RO NoS w (rowR enc_Tile A_p0 c_p0 p0)) (hf : decide_Decide k p0 = some r) :
  CallsR Try.prog 22 #[(.slice A_p0 p0.length c_p0)] w (fun v w' => ∃ (A1_ : Option Addr), ∃ (c1_ : Nat), v = (.tuple #[(.agg #[(.bool r.1.Fills), (iv r.1.Torus.Width), (iv r.1.Torus.Height), (.slice A1_ r.1.Torus.Cells.length c1_), (iv r.1.Side)]), (iv r.2)]) ∧ St NoS w w' [] [rowO 3 encInt A1_ c1_ r.1.Torus.Cells]) := by
 have hS : St NoS w w [rowR enc_Tile A_p0 c_p0 p0] [] := St.init (ro_cons hR0 (ro_nil _ _))
 refine enter 34 Try.func22 rfl Try.ntmps22 rfl ?_
 unfold decide_Decide at hf
 refine WC.seq ?_
 refine WC.region ?_
 refine WL.new hS 2 [] (fun g => (.pointer (some ⟨g, 0, none⟩))) (.cells #[(.bool false), (iv 0), (iv 0), (.slice none 0 0), (iv 0)] 40 (0, 0)) [] (fun fb g => by kernel_rfl) trivial (fun g1135 w1136 hS1137 => ?_)
 refine ⟨trivial, ?_⟩
 refine WL.new hS1137 3 [] (fun g => (.pointer (some ⟨g, 0, none⟩))) (.cells #[(iv 0)] 25 (0, 0)) [] (fun fb g => by kernel_rfl) trivial (fun g1139 w1140 hS1141 => ?_)
 refine ⟨trivial, ?_⟩
 refine WL.done rfl ?_
 refine WX.next ?_
 refine WC.seq ?_
 refine WC.seq ?_
 refine WC.region ?_
 refine seg 1 [] [0, 2, 3, 9] [(0, (.slice A_p0 p0.length c_p0)), (2, (pt g1135)), (3, (pt g1139)), (9, (.slice A_p0 p0.length c_p0))] [] (fun fb => by kernel_rfl) rfl trivial ?_
 obtain ⟨t1338, ht1339, hf⟩ := bind_some hf
 refine WL.call (some 10) 43 #[(.slice A_p0 p0.length c_p0)] (fun fb => by kernel_rfl) (decide_asks_calls _ p0 A_p0 c_p0 t1338 _ (hS1141.rd 0) ht1339) (fun v w1340 hR1341 => ?_)
 obtain ⟨rfl, hk_⟩ := hR1341
 have hS1342 := hS1141.keepN hk_
 refine ⟨trivial, ?_⟩
 refine seg 3 [] [0, 2, 3, 4] [(0, (.slice A_p0 p0.length c_p0)), (2, (pt g1135)), (3, (pt g1139)), (4, (iv t1338))] [] (fun fb => by kernel_rfl) rfl trivial ?_
 refine WL.done rfl ?_
 refine WX.next ?_
 refine WC.seq ?_
 refine WC.region ?_
 refine seg 2 [] [0, 2, 3, 4, 12] [(0, (.slice A_p0 p0.length c_p0)), (2, (pt g1135)), (3, (pt g1139)), (4, (iv t1338)), (12, (.bool (t1338 != 0)))] [] (fun fb => by kernel_rfl) rfl trivial ?_
 refine WL.done rfl ?_
 refine WX.next ?_
 rcases br_some hf with ⟨h1343, hf⟩ | ⟨h1343, hf⟩
 ·refine WC.condT2 (fun fb => by kernel_rfl) h1343 ?_
  refine WC.seq ?_
  refine WC.region ?_
  refine seg 2 [] [2, 3, 13, 14] [(2, (pt g1135)), (3, (pt g1139)), (13, (.agg #[(.bool false), (iv 0), (iv 0), (.slice none 0 0), (iv 0)])), (14, (iv t1338))] [] (fun fb => by kernel_rfl) rfl trivial ?_
  refine WL.store hS1342 1 rfl [(0, (.bool false)), (1, (iv 0)), (2, (iv 0)), (3, (.slice none 0 0)), (4, (iv 0))] #[(.bool false), (iv 0), (iv 0), (.slice none 0 0), (iv 0)] (fun fb => by kernel_rfl) (by kernel_rfl) rfl [0] (by decide) (by decide) (fun w1344 hS1345 => ?_)
  refine ⟨trivial, ?_⟩
  refine WL.store hS1345 1 rfl [(0, (iv t1338))] #[(iv t1338)] (fun fb => by kernel_rfl) (by kernel_rfl) rfl [0] (by decide) (by decide) (fun w1346 hS1347 => ?_)
  refine ⟨trivial, ?_⟩
  refine WL.done rfl ?_
  refine WX.next ?_
  refine WC.ret ?_
  have hS1348 := hS1347.nilrow 3 encInt
  injection hf with hf
  subst hf
  exact WX.thenR (WX.ret_ [.v (.bool false), .v (iv 0), .v (iv 0), .v (.slice none 0 0), .v (iv 0), .v (iv t1338)] (.tuple #[(.agg #[(.bool false), (iv 0), (iv 0), (.slice none ([] : List Int).length 0), (iv 0)]), (iv t1338)]) [.cell ⟨g1135, 0, none⟩ (.bool false), .cell ⟨g1135, 1, none⟩ (iv 0), .cell ⟨g1135, 2, none⟩ (iv 0), .cell ⟨g1135, 3, none⟩ (.slice none 0 0), .cell ⟨g1135, 4, none⟩ (iv 0), .cell ⟨g1139, 0, none⟩ (iv t1338)] (fun fb => by kernel_rfl) ⟨hS1347.cell 1 rfl 0 rfl, hS1347.cell 1 rfl 1 rfl, hS1347.cell 1 rfl 2 rfl, hS1347.cell 1 rfl 3 rfl, hS1347.cell 1 rfl 4 rfl, hS1347.cell 0 rfl 0 rfl, trivial⟩ ⟨_, rfl, none, 0, rfl, (hS1348.sub [0] (by decide)).noR⟩)
 refine WC.condF2 (fun fb => by kernel_rfl) h1343 ?_
 refine WC.skip ?_
 refine WX.next ?_
 refine WC.seq ?_
 refine WC.seq ?_
 refine WC.region ?_
 refine seg 1 [] [0, 2, 3, 15] [(0, (.slice A_p0 p0.length c_p0)), (2, (pt g1135)), (3, (pt g1139)), (15, (.slice A_p0 p0.length c_p0))] [] (fun fb => by kernel_rfl) rfl trivial ?_
 obtain ⟨t1353, ht1354, hf⟩ := bind_some hf
 refine WL.call (some 16) 44 #[(.slice A_p0 p0.length c_p0)] (fun fb => by kernel_rfl) (decide_sides_calls p0 A_p0 c_p0 t1353 _ (hS1342.rd 0) ht1354) (fun v w1355 hR1356 => ?_)
 obtain ⟨g1358, rfl, hk_⟩ := hR1356
 have hS1357 : St NoS w w1355 [rowR enc_Tile A_p0 c_p0 p0] [blk g1358 (.cells #[(.slice A_p0 p0.length c_p0)] 22 (0, 0)), blk g1139 (.cells #[(iv 0)] 25 (0, 0)), blk g1135 (.cells #[(.bool false), (iv 0), (iv 0), (.slice none 0 0), (iv 0)] 40 (0, 0))] := hS1342.call hk_ [] [0, 1] (fun g hg => hg.elim) (by simp) (by decide)
 refine ⟨trivial, ?_⟩
 refine WL.done rfl ?_
 refine WX.next ?_
 refine WC.block ?_
 refine WC.rangeO hS1357 (fun _ _ h => h) rfl (gf := 61) (lb := [(pt g1358)]) (fun fb => by kernel_rfl) (fun _ => by kernel_rfl) (fun LO1375 LB1376 LX1377 l1378 D1379 w1380 hK1381 hS1382 => ?_)
 have hS1385 : St NoS w w1380 [rowR enc_Tile A_p0 c_p0 p0] [(fun (s_ : Int × Int) (t_ : Unit) => sepO (blk l1378 (LO1375 (pendN [.ret] s_.2)) :: [blk g1135 (.cells #[(.bool false), (iv 0), (iv 0), (.slice none 0 0), (iv s_.1)] 40 (0, 0)), blk g1139 (.cells #[(iv 0)] 25 (0, 0))])) (0, (0 : Int)) (), blk D1379 (.deferred (some [])), blk g1358 (.cells #[(.slice A_p0 p0.length c_p0)] 22 (0, 0))] := hS1382.pack [0, 4, 3] [1, 2] (by decide) (by decide) (by decide)
 have hY1388 : ∀ (x0_ : Int) (x1_ : Bool) (s_ : Int × Int) (t_ : Unit) (r_ : (Int × Int) × Bool) (w_ : World), RO (fpL [(fun (s_ : Int × Int) (t_ : Unit) => sepO (blk l1378 (LO1375 (pendN [.ret] s_.2)) :: [blk g1135 (.cells #[(.bool false), (iv 0), (iv 0), (.slice none 0 0), (iv s_.1)] 40 (0, 0)), blk g1139 (.cells #[(iv 0)] 25 (0, 0))])) s_ t_]) w_ (poolO [rowR enc_Tile A_p0 c_p0 p0]) → IoOK w_ [(fun (s_ : Int × Int) (t_ : Unit) => sepO (blk l1378 (LO1375 (pendN [.ret] s_.2)) :: [blk g1135 (.cells #[(.bool false), (iv 0), (iv 0), (.slice none 0 0), (iv s_.1)] 40 (0, 0)), blk g1139 (.cells #[(iv 0)] 25 (0, 0))])) s_ t_] → decide_Decide.b1 k  x0_ x1_ s_ = some r_ → YieldR Try.prog (.func (.yield l1378) #[] #[]) #[(iv x0_), (.bool x1_)] w_ (fun v_ w' => ∃ t1_, v_ = .bool r_.2 ∧ St (fpL [(fun (s_ : Int × Int) (t_ : Unit) => sepO (blk l1378 (LO1375 (pendN [.ret] s_.2)) :: [blk g1135 (.cells #[(.bool false), (iv 0), (iv 0), (.slice none 0 0), (iv s_.1)] 40 (0, 0)), blk g1139 (.cells #[(iv 0)] 25 (0, 0))])) s_ t_]) w_ w' [] [(fun (s_ : Int × Int) (t_ : Unit) => sepO (blk l1378 (LO1375 (pendN [.ret] s_.2)) :: [blk g1135 (.cells #[(.bool false), (iv 0), (iv 0), (.slice none 0 0), (iv s_.1)] 40 (0, 0)), blk g1139 (.cells #[(iv 0)] 25 (0, 0))])) r_.1 t1_]) := by
  rintro x1386 x1387 ⟨x1374, j1389⟩ ⟨⟩ r1390 w1391 hRd1392 hI1393 hf1394
  rw [decide_Decide.b1] at hf1394
  obtain ⟨hj1396, hf1394⟩ := as_some hf1394
  subst hj1396
  have hRo1397 := hRd1392.openSep
  have hS1395 : St (fpL [blk l1378 (LO1375 none), blk g1135 (.cells #[(.bool false), (iv 0), (iv 0), (.slice none 0 0), (iv x1374)] 40 (0, 0)), blk g1139 (.cells #[(iv 0)] 25 (0, 0))]) w1391 w1391 [rowR enc_Tile A_p0 c_p0 p0] [blk l1378 (LO1375 none), blk g1135 (.cells #[(.bool false), (iv 0), (iv 0), (.slice none 0 0), (iv x1374)] 40 (0, 0)), blk g1139 (.cells #[(iv 0)] 25 (0, 0))] := St.initIO (ro_cons (poolO.ro hRo1397 0) (ro_nil _ _)) hI1393.openSep
  refine YieldR.of_loop hK1381 (hS1395.blkAt 0 rfl) [(iv x1386), (.bool x1387)] [0, 2, 3] [(0, (.slice A_p0 p0.length c_p0)), (2, (pt g1135)), (3, (pt g1139))] [(18, (.bool x1387)), (17, (iv x1386)), (0, (.slice A_p0 p0.length c_p0)), (2, (pt g1135)), (3, (pt g1139))] rfl rfl rfl rfl rfl ?_
  refine WC.seq ?_
  refine WC.region ?_
  refine seg 1 [] [0, 2, 3, 5, 18] [(0, (.slice A_p0 p0.length c_p0)), (2, (pt g1135)), (3, (pt g1139)), (5, (iv x1386)), (18, (.bool x1387))] [] (fun fb => by kernel_rfl) rfl trivial ?_
  refine WL.done rfl ?_
  refine WX.next ?_
  refine WC.region ?_
  refine seg 1 [] [0, 2, 3, 5, 6] [(0, (.slice A_p0 p0.length c_p0)), (2, (pt g1135)), (3, (pt g1139)), (5, (iv x1386)), (6, (.bool x1387))] [] (fun fb => by kernel_rfl) rfl trivial ?_
  refine WL.done rfl ?_
  refine WX.begin' hK1381 (hS1395.blkAt 0 rfl) ?_
  have hS1398 := hS1395.putO 0 rfl LB1376 [1, 2] (by decide) (by decide)
  revert hS1398
  generalize World.putObj _ _ _ = w1399
  intro hS1398
  have hS1400 : St (fpL [blk l1378 (LO1375 none), blk g1135 (.cells #[(.bool false), (iv 0), (iv 0), (.slice none 0 0), (iv x1374)] 40 (0, 0)), blk g1139 (.cells #[(iv 0)] 25 (0, 0))]) w1391 w1399 [rowR enc_Tile A_p0 c_p0 p0] [blk l1378 LB1376, blk g1135 (.cells #[(.bool false), (iv 0), (iv 0), (.slice none 0 0), (iv x1374)] 40 (0, 0)), blk g1139 (.cells #[(iv 0)] 25 (0, 0))] := hS1398
  refine WC.block ?_
  refine WC.seq ?_
  refine WC.region ?_
  refine seg 2 [] [0, 2, 3, 5, 20] [(0, (.slice A_p0 p0.length c_p0)), (2, (pt g1135)), (3, (pt g1139)), (5, (iv x1386)), (20, (.bool (!x1387)))] [] (fun fb => by kernel_rfl) rfl trivial ?_
  refine WL.done rfl ?_
  refine WX.next ?_
  rcases br_some hf1394 with ⟨h1401, hf1394⟩ | ⟨h1401, hf1394⟩
  ·refine WC.condT2 (fun fb => by kernel_rfl) h1401 ?_
   refine WC.seq ?_
   refine WC.region ?_
   refine seg 2 [] [0, 2, 3, 22] [(0, (.slice A_p0 p0.length c_p0)), (2, (pt g1135)), (3, (pt g1139)), (22, (.agg #[(.bool false), (iv 0), (iv 0), (.slice none 0 0), (iv x1386)]))] [] (fun fb => by kernel_rfl) rfl trivial ?_
   refine WL.store hS1400 1 rfl [(0, (.bool false)), (1, (iv 0)), (2, (iv 0)), (3, (.slice none 0 0)), (4, (iv x1386))] #[(.bool false), (iv 0), (iv 0), (.slice none 0 0), (iv x1386)] (fun fb => by kernel_rfl) (by kernel_rfl) rfl [0, 2] (by decide) (by decide) (fun w1402 hS1403 => ?_)
   refine ⟨trivial, ?_⟩
   refine WL.store hS1403 2 rfl [(0, (iv 0))] #[(iv 0)] (fun fb => by kernel_rfl) (by kernel_rfl) rfl [0, 1] (by decide) (by decide) (fun w1404 hS1405 => ?_)
   refine ⟨trivial, ?_⟩
   refine WL.done rfl ?_
   refine WX.next ?_
   refine WC.ret ?_
   injection hf1394 with hf1394
   subst hf1394
   exact WX.blockR (WX.roundR' hK1381 (hS1405.blkAt 2 rfl) ⟨(), rfl, ((hS1405.putO 2 rfl (LO1375 (some .ret)) [0, 1] (by decide) (by decide)).sub [0, 2, 1] (by decide)).noR.closeSep⟩)
  refine WC.condF2 (fun fb => by kernel_rfl) h1401 ?_
  refine WC.skip ?_
  injection hf1394 with hf1394
  subst hf1394
  exact WX.blockN (WX.roundN' hK1381 (hS1400.blkAt 0 rfl) ⟨(), rfl, ((hS1400.putO 0 rfl (LO1375 none) [1, 2] (by decide) (by decide)).sub [0, 1, 2] (by decide)).noR.closeSep⟩)
 obtain ⟨t7094, ht7095, hf⟩ := bind_some hf
 refine (decide_sides_1_y_calls _ p0 (decide_Decide.b1 k ) (0, (0 : Int)) g1358 A_p0 c_p0 (.func (.yield l1378) #[] #[]) (fun (s_ : Int × Int) (t_ : Unit) => sepO (blk l1378 (LO1375 (pendN [.ret] s_.2)) :: [blk g1135 (.cells #[(.bool false), (iv 0), (iv 0), (.slice none 0 0), (iv s_.1)] 40 (0, 0)), blk g1139 (.cells #[(iv 0)] 25 (0, 0))])) () (poolO [rowR enc_Tile A_p0 c_p0 p0]) t7094 _ (hS1385.rdP [0]) (hS1385.owT [0] 2 (by decide)) (hS1385.rdT [0] 0) (hS1385.io [0] (by decide)) hY1388 ht7095).post (fun v w7096 hR7097 => ?_)
 obtain ⟨tt7099, rfl, hk_⟩ := hR7097
 have hS7098 : St NoS w w7096 [rowR enc_Tile A_p0 c_p0 p0] [(fun (s_ : Int × Int) (t_ : Unit) => sepO (blk l1378 (LO1375 (pendN [.ret] s_.2)) :: [blk g1135 (.cells #[(.bool false), (iv 0), (iv 0), (.slice none 0 0), (iv s_.1)] 40 (0, 0)), blk g1139 (.cells #[(iv 0)] 25 (0, 0))])) t7094 tt7099, blk D1379 (.deferred (some [])), blk g1358 (.cells #[(.slice A_p0 p0.length c_p0)] 22 (0, 0))] := hS1385.call hk_ [0] [1, 2] (fun g hg => fpL_sel g hg) (by decide) (by decide)
 have hS7100 : St NoS w w7096 [rowR enc_Tile A_p0 c_p0 p0] [blk l1378 (LO1375 (pendN [.ret] t7094.2)), blk g1135 (.cells #[(.bool false), (iv 0), (iv 0), (.slice none 0 0), (iv t7094.1)] 40 (0, 0)), blk g1139 (.cells #[(iv 0)] 25 (0, 0)), blk D1379 (.deferred (some [])), blk g1358 (.cells #[(.slice A_p0 p0.length c_p0)] 22 (0, 0))] := hS7098.unpack 0 rfl [1, 2] (by decide) (by decide)
 refine ⟨_, hS7100.blkAt 0 rfl, ?_⟩
 have hS7101 := (hS7100.putO 0 rfl (LX1377 (pendN [.ret] t7094.2)) [1, 2, 3, 4] (by decide) (by decide)).tail
 revert hS7101
 generalize World.putObj _ _ _ = w7102
 intro hS7101
 have hS7103 : St NoS w w7102 [rowR enc_Tile A_p0 c_p0 p0] [blk g1135 (.cells #[(.bool false), (iv 0), (iv 0), (.slice none 0 0), (iv t7094.1)] 40 (0, 0)), blk g1139 (.cells #[(iv 0)] 25 (0, 0)), blk D1379 (.deferred (some [])), blk g1358 (.cells #[(.slice A_p0 p0.length c_p0)] 22 (0, 0))] := hS7101
 rcases br_some hf with ⟨h7104, hf⟩ | ⟨h7104, hf⟩
 ·
  have hj_ := eq_of_beq h7104
  rw [hj_]
  refine WC.keep [0, 2, 3, 4294967295] [(0, (.slice A_p0 p0.length c_p0)), (2, (pt g1135)), (3, (pt g1139)), (4294967295, (.func (.yield D1379) #[] #[]))] rfl ?_
  refine WC.ret ?_
  have hS7105 := hS7103.nilrow 3 encInt
  injection hf with hf
  subst hf
  exact WX.blockR (WX.thenR (WX.retM hS7105 3 rfl rfl [0, 1, 2, 4] (by decide) (by decide) [.v (.bool false), .v (iv 0), .v (iv 0), .v (.slice none ([] : List Int).length 0), .v (iv t7094.1), .v (iv 0)] (.tuple #[(.agg #[(.bool false), (iv 0), (iv 0), (.slice none ([] : List Int).length 0), (iv t7094.1)]), (iv 0)]) [.cell ⟨g1135, 0, none⟩ (.bool false), .cell ⟨g1135, 1, none⟩ (iv 0), .cell ⟨g1135, 2, none⟩ (iv 0), .cell ⟨g1135, 3, none⟩ (.slice none ([] : List Int).length 0), .cell ⟨g1135, 4, none⟩ (iv t7094.1), .cell ⟨g1139, 0, none⟩ (iv 0)] (fun fb => by kernel_rfl) (fun w7107 hS7106 => ⟨⟨hS7106.cell 1 rfl 0 rfl, hS7106.cell 1 rfl 1 rfl, hS7106.cell 1 rfl 2 rfl, hS7106.cell 1 rfl 3 rfl, hS7106.cell 1 rfl 4 rfl, hS7106.cell 2 rfl 0 rfl, trivial⟩, ⟨none, 0, rfl, (hS7106.sub [0] (by decide)).noR⟩⟩)))
 obtain ⟨h7108, hf⟩ := as_some hf
 rw [h7108]
 refine WX.keep [0, 2, 3, 4294967295] [(0, (.slice A_p0 p0.length c_p0)), (2, (pt g1135)), (3, (pt g1139)), (4294967295, (.func (.yield D1379) #[] #[]))] rfl ?_
 refine WX.blockN (WX.next ?_)
 refine WC.seq ?_
 refine WC.region ?_
 refine seg 1 [] [2, 3, 24, 4294967295] [(2, (pt g1135)), (3, (pt g1139)), (24, (.slice A_p0 p0.length c_p0)), (4294967295, (.func (.yield D1379) #[] #[]))] [] (fun fb => by kernel_rfl) rfl trivial ?_
 obtain ⟨t10051, ht10052, hf⟩ := bind_some hf
 refine WL.call (some 25) 25 #[(.slice A_p0 p0.length c_p0), (iv 6)] (fun fb => by kernel_rfl) (torus_Least_calls _ p0 6 A_p0 c_p0 t10051 _ (hS7103.rd 0) ht10052) (fun v w10053 hR10054 => ?_)
 obtain ⟨A10056, c10057, rfl, hk_⟩ := hR10054
 have hS10055 : St NoS w w10053 [rowR enc_Tile A_p0 c_p0 p0] [rowO 3 encInt A10056 c10057 t10051.1.Cells, blk g1135 (.cells #[(.bool false), (iv 0), (iv 0), (.slice none 0 0), (iv t7094.1)] 40 (0, 0)), blk g1139 (.cells #[(iv 0)] 25 (0, 0)), blk D1379 (.deferred (some [])), blk g1358 (.cells #[(.slice A_p0 p0.length c_p0)] 22 (0, 0))] := hS7103.call hk_ [] [0, 1, 2, 3] (fun g hg => hg.elim) (by simp) (by decide)
 refine ⟨trivial, ?_⟩
 refine seg 5 [] [2, 3, 26, 27, 4294967295] [(2, (pt g1135)), (3, (pt g1139)), (26, (.agg #[(iv t10051.1.Width), (iv t10051.1.Height), (.slice A10056 t10051.1.Cells.length c10057)])), (27, (iv t10051.2)), (4294967295, (.func (.yield D1379) #[] #[]))] [] (fun fb => by kernel_rfl) rfl trivial ?_
 refine WL.new hS10055 7 [] (fun g => (.pointer (some ⟨g, 0, none⟩))) (.cells #[(iv 0), (iv 0), (.slice none 0 0)] 38 (0, 0)) [] (fun fb g => by kernel_rfl) trivial (fun g10058 w10059 hS10060 => ?_)
 refine ⟨trivial, ?_⟩
 refine WL.store hS10060 0 rfl [(0, (iv t10051.1.Width)), (1, (iv t10051.1.Height)), (2, (.slice A10056 t10051.1.Cells.length c10057))] #[(iv t10051.1.Width), (iv t10051.1.Height), (.slice A10056 t10051.1.Cells.length c10057)] (fun fb => by kernel_rfl) (by kernel_rfl) rfl [1, 2, 3, 4, 5] (by decide) (by decide) (fun w10062 hS10063 => ?_)
 refine ⟨trivial, ?_⟩
 refine seg 8 [] [2, 3, 7, 8, 4294967295] [(2, (pt g1135)), (3, (pt g1139)), (7, (pt g10058)), (8, (iv t10051.2)), (4294967295, (.func (.yield D1379) #[] #[]))] [] (fun fb => by kernel_rfl) rfl trivial ?_
 refine WL.done rfl ?_
 refine WX.next ?_
 refine WC.seq ?_
 refine WC.seq ?_
 refine WC.region ?_
 refine seg 2 [] [2, 3, 7, 8, 29, 4294967295] [(2, (pt g1135)), (3, (pt g1139)), (7, (pt g10058)), (8, (iv t10051.2)), (29, (.bool (t10051.2 != 0))), (4294967295, (.func (.yield D1379) #[] #[]))] [] (fun fb => by kernel_rfl) rfl trivial ?_
 refine WL.done rfl ?_
 refine WX.next ?_
 rcases br_some hf with ⟨h10064, hf⟩ | ⟨h10064, hf⟩
 ·refine WC.condT2 (fun fb => by kernel_rfl) h10064 ?_
  refine WC.seq ?_
  refine WC.region ?_
  refine seg 2 [] [2, 3, 30, 31, 4294967295] [(2, (pt g1135)), (3, (pt g1139)), (30, (.agg #[(.bool false), (iv 0), (iv 0), (.slice none 0 0), (iv 0)])), (31, (iv t10051.2)), (4294967295, (.func (.yield D1379) #[] #[]))] [] (fun fb => by kernel_rfl) rfl trivial ?_
  refine WL.store hS10063 2 rfl [(0, (.bool false)), (1, (iv 0)), (2, (iv 0)), (3, (.slice none 0 0)), (4, (iv 0))] #[(.bool false), (iv 0), (iv 0), (.slice none 0 0), (iv 0)] (fun fb => by kernel_rfl) (by kernel_rfl) rfl [0, 1, 3, 4, 5] (by decide) (by decide) (fun w10065 hS10066 => ?_)
  refine ⟨trivial, ?_⟩
  refine WL.store hS10066 3 rfl [(0, (iv t10051.2))] #[(iv t10051.2)] (fun fb => by kernel_rfl) (by kernel_rfl) rfl [0, 1, 2, 4, 5] (by decide) (by decide) (fun w10067 hS10068 => ?_)
  refine ⟨trivial, ?_⟩
  refine WL.done rfl ?_
  refine WX.next ?_
  refine WC.ret ?_
  have hS10069 := hS10068.nilrow 3 encInt
  injection hf with hf
  subst hf
  exact WX.thenR (WX.retM hS10069 5 rfl rfl [0, 1, 2, 3, 4, 6] (by decide) (by decide) [.v (.bool false), .v (iv 0), .v (iv 0), .v (.slice none ([] : List Int).length 0), .v (iv 0), .v (iv t10051.2)] (.tuple #[(.agg #[(.bool false), (iv 0), (iv 0), (.slice none ([] : List Int).length 0), (iv 0)]), (iv t10051.2)]) [.cell ⟨g1135, 0, none⟩ (.bool false), .cell ⟨g1135, 1, none⟩ (iv 0), .cell ⟨g1135, 2, none⟩ (iv 0), .cell ⟨g1135, 3, none⟩ (.slice none ([] : List Int).length 0), .cell ⟨g1135, 4, none⟩ (iv 0), .cell ⟨g1139, 0, none⟩ (iv t10051.2)] (fun fb => by kernel_rfl) (fun w10071 hS10070 => ⟨⟨hS10070.cell 2 rfl 0 rfl, hS10070.cell 2 rfl 1 rfl, hS10070.cell 2 rfl 2 rfl, hS10070.cell 2 rfl 3 rfl, hS10070.cell 2 rfl 4 rfl, hS10070.cell 1 rfl 0 rfl, trivial⟩, ⟨none, 0, rfl, (hS10070.sub [0] (by decide)).noR⟩⟩))
 refine WC.condF2 (fun fb => by kernel_rfl) h10064 ?_
 refine WC.skip ?_
 refine WX.next ?_
 refine WC.seq ?_
 refine WC.region ?_
 refine seg 2 [.v (iv t10051.1.Width), .v (iv t10051.1.Height), .v (.slice A10056 t10051.1.Cells.length c10057)] [2, 3, 33, 4294967295] [(2, (pt g1135)), (3, (pt g1139)), (33, (.agg #[(.bool true), (iv t10051.1.Width), (iv t10051.1.Height), (.slice A10056 t10051.1.Cells.length c10057), (iv 0)])), (4294967295, (.func (.yield D1379) #[] #[]))] [.cell ⟨g10058, 0, none⟩ (iv t10051.1.Width), .cell ⟨g10058, 1, none⟩ (iv t10051.1.Height), .cell ⟨g10058, 2, none⟩ (.slice A10056 t10051.1.Cells.length c10057)] (fun fb => by kernel_rfl) rfl ⟨hS10063.cell 0 rfl 0 rfl, hS10063.cell 0 rfl 1 rfl, hS10063.cell 0 rfl 2 rfl, trivial⟩ ?_
 refine WL.store hS10063 2 rfl [(0, (.bool true)), (1, (iv t10051.1.Width)), (2, (iv t10051.1.Height)), (3, (.slice A10056 t10051.1.Cells.length c10057)), (4, (iv 0))] #[(.bool true), (iv t10051.1.Width), (iv t10051.1.Height), (.slice A10056 t10051.1.Cells.length c10057), (iv 0)] (fun fb => by kernel_rfl) (by kernel_rfl) rfl [0, 1, 3, 4, 5] (by decide) (by decide) (fun w10072 hS10073 => ?_)
 refine ⟨trivial, ?_⟩
 refine WL.store hS10073 3 rfl [(0, (iv 0))] #[(iv 0)] (fun fb => by kernel_rfl) (by kernel_rfl) rfl [0, 1, 2, 4, 5] (by decide) (by decide) (fun w10074 hS10075 => ?_)
 refine ⟨trivial, ?_⟩
 refine WL.done rfl ?_
 refine WX.next ?_
 refine WC.ret ?_
 injection hf with hf
 subst hf
 exact WX.retM hS10075 4 rfl rfl [0, 1, 2, 3, 5] (by decide) (by decide) [.v (.bool true), .v (iv t10051.1.Width), .v (iv t10051.1.Height), .v (.slice A10056 t10051.1.Cells.length c10057), .v (iv 0), .v (iv 0)] (.tuple #[(.agg #[(.bool true), (iv t10051.1.Width), (iv t10051.1.Height), (.slice A10056 t10051.1.Cells.length c10057), (iv 0)]), (iv 0)]) [.cell ⟨g1135, 0, none⟩ (.bool true), .cell ⟨g1135, 1, none⟩ (iv t10051.1.Width), .cell ⟨g1135, 2, none⟩ (iv t10051.1.Height), .cell ⟨g1135, 3, none⟩ (.slice A10056 t10051.1.Cells.length c10057), .cell ⟨g1135, 4, none⟩ (iv 0), .cell ⟨g1139, 0, none⟩ (iv 0)] (fun fb => by kernel_rfl) (fun w10077 hS10076 => ⟨⟨hS10076.cell 1 rfl 0 rfl, hS10076.cell 1 rfl 1 rfl, hS10076.cell 1 rfl 2 rfl, hS10076.cell 1 rfl 3 rfl, hS10076.cell 1 rfl 4 rfl, hS10076.cell 0 rfl 0 rfl, trivial⟩, ⟨A10056, c10057, rfl, (hS10076.sub [3] (by decide)).noR⟩⟩)
theorem tile_Form_calls (p0 : Pattern) (A_p0_Cells : Option Addr) (c_p0_Cells : Nat) (r : Bool) (w : World) (hR0 : RO NoS w (rowR encInt A_p0_Cells c_p0_Cells p0.Cells)) (hf : tile_Form p0 = some r) :
  CallsR Try.prog 64 #[(.agg #[(iv p0.Width), (iv p0.Height), (.slice A_p0_Cells p0.Cells.length c_p0_Cells)])] w (fun v w' => v = (.bool r) ∧ Keeps NoS w w') := by
 have hS : St NoS w w [rowR encInt A_p0_Cells c_p0_Cells p0.Cells] [] := St.init (ro_cons hR0 (ro_nil _ _))
 refine enter 40 Try.func64 rfl Try.ntmps64 rfl ?_
 unfold tile_Form at hf
 refine WC.seq ?_
 refine WC.region ?_
 refine WL.new hS 1 [] (fun g => (.pointer (some ⟨g, 0, none⟩))) (.cells #[(iv p0.Width), (iv p0.Height), (.slice A_p0_Cells p0.Cells.length c_p0_Cells)] 38 (0, 0)) [] (fun fb g => by kernel_rfl) trivial (fun g10119 w10120 hS10121 => ?_)
 refine ⟨trivial, ?_⟩
 refine seg 2 [] [1] [(1, (pt g10119))] [] (fun fb => by kernel_rfl) rfl trivial ?_
 refine WL.done rfl ?_
 refine WX.next ?_
 refine WC.seq ?_
 refine WC.region ?_
 refine seg 4 [.v (iv p0.Width)] [1, 6] [(1, (pt g10119)), (6, (.bool (decide (p0.Width ≥ 1))))] [.cell ⟨g10119, 0, none⟩ (iv p0.Width)] (fun fb => by kernel_rfl) rfl ⟨hS10121.cell 0 rfl 0 rfl, trivial⟩ ?_
 refine WL.cutV (T := Bool) 8 (fun t => [(10, (.bool t)), (1, (pt g10119))]) (fun t => ((decide (p0.Width ≥ 1)) && (decide (p0.Height ≥ 1))) = t) (fun K => ?_) ?_
 ·
  rcases Bool.eq_false_or_eq_true (decide (p0.Width ≥ 1)) with h10123 | h10123
  ·
   refine WL.setB 6 h10123 rfl ?_
   refine seg 8 [.v (iv p0.Height)] [1, 10] [(1, (pt g10119)), (10, (.bool (decide (p0.Height ≥ 1))))] [.cell ⟨g10119, 1, none⟩ (iv p0.Height)] (fun fb => by kernel_rfl) rfl ⟨hS10121.cell 0 rfl 1 rfl, trivial⟩ ?_
   exact WL.toV K (decide (p0.Height ≥ 1)) [10, 1] rfl (by first | (rw [h10123]; done) | (rw [h10123]; rfl))
  refine WL.setB 6 h10123 rfl ?_
  refine seg 8 [] [1, 10] [(1, (pt g10119)), (10, (.bool false))] [] (fun fb => by kernel_rfl) rfl trivial ?_
  exact WL.toV K false [10, 1] rfl (by first | (rw [h10123]; done) | (rw [h10123]; rfl))
 rintro b10124 rfl
 refine seg 9 [] [1, 11] [(1, (pt g10119)), (11, (.bool ((decide (p0.Width ≥ 1)) && (decide (p0.Height ≥ 1)))))] [] (fun fb => by kernel_rfl) rfl trivial ?_
 refine WL.cutV (T := Bool) 13 (fun t => [(15, (.bool t)), (1, (pt g10119))]) (fun t => (((decide (p0.Width ≥ 1)) && (decide (p0.Height ≥ 1))) && (decide (p0.Width ≤ 40000))) = t) (fun K => ?_) ?_
 ·
  rcases Bool.eq_false_or_eq_true ((decide (p0.Width ≥ 1)) && (decide (p0.Height ≥ 1))) with h10125 | h10125
  ·
   refine WL.setB 11 h10125 rfl ?_
   refine seg 13 [.v (iv p0.Width)] [1, 15] [(1, (pt g10119)), (15, (.bool (decide (p0.Width ≤ 40000))))] [.cell ⟨g10119, 0, none⟩ (iv p0.Width)] (fun fb => by kernel_rfl) rfl ⟨hS10121.cell 0 rfl 0 rfl, trivial⟩ ?_
   exact WL.toV K (decide (p0.Width ≤ 40000)) [15, 1] rfl (by first | (rw [h10125]; done) | (rw [h10125]; rfl))
  refine WL.setB 11 h10125 rfl ?_
  refine seg 13 [] [1, 15] [(1, (pt g10119)), (15, (.bool false))] [] (fun fb => by kernel_rfl) rfl trivial ?_
  exact WL.toV K false [15, 1] rfl (by first | (rw [h10125]; done) | (rw [h10125]; rfl))
 rintro b10126 rfl
 refine seg 14 [] [1, 16] [(1, (pt g10119)), (16, (.bool (((decide (p0.Width ≥ 1)) && (decide (p0.Height ≥ 1))) && (decide (p0.Width ≤ 40000)))))] [] (fun fb => by kernel_rfl) rfl trivial ?_
 refine WL.cutV (T := Bool) 18 (fun t => [(20, (.bool t)), (1, (pt g10119))]) (fun t => ((((decide (p0.Width ≥ 1)) && (decide (p0.Height ≥ 1))) && (decide (p0.Width ≤ 40000))) && (decide (p0.Height ≤ 40000))) = t) (fun K => ?_) ?_
 ·
  rcases Bool.eq_false_or_eq_true (((decide (p0.Width ≥ 1)) && (decide (p0.Height ≥ 1))) && (decide (p0.Width ≤ 40000))) with h10127 | h10127
  ·
   refine WL.setB 16 h10127 rfl ?_
   refine seg 18 [.v (iv p0.Height)] [1, 20] [(1, (pt g10119)), (20, (.bool (decide (p0.Height ≤ 40000))))] [.cell ⟨g10119, 1, none⟩ (iv p0.Height)] (fun fb => by kernel_rfl) rfl ⟨hS10121.cell 0 rfl 1 rfl, trivial⟩ ?_
   exact WL.toV K (decide (p0.Height ≤ 40000)) [20, 1] rfl (by first | (rw [h10127]; done) | (rw [h10127]; rfl))
  refine WL.setB 16 h10127 rfl ?_
  refine seg 18 [] [1, 20] [(1, (pt g10119)), (20, (.bool false))] [] (fun fb => by kernel_rfl) rfl trivial ?_
  exact WL.toV K false [20, 1] rfl (by first | (rw [h10127]; done) | (rw [h10127]; rfl))
 rintro b10128 rfl
 refine seg 19 [] [1, 21] [(1, (pt g10119)), (21, (.bool ((((decide (p0.Width ≥ 1)) && (decide (p0.Height ≥ 1))) && (decide (p0.Width ≤ 40000))) && (decide (p0.Height ≤ 40000)))))] [] (fun fb => by kernel_rfl) rfl trivial ?_
 refine WL.cutV (T := Bool) 26 (fun t => [(28, (.bool t)), (1, (pt g10119))]) (fun t => (((((decide (p0.Width ≥ 1)) && (decide (p0.Height ≥ 1))) && (decide (p0.Width ≤ 40000))) && (decide (p0.Height ≤ 40000))) && (decide (w64 (p0.Width * p0.Height) ≤ 40000))) = t) (fun K => ?_) ?_
 ·
  rcases Bool.eq_false_or_eq_true ((((decide (p0.Width ≥ 1)) && (decide (p0.Height ≥ 1))) && (decide (p0.Width ≤ 40000))) && (decide (p0.Height ≤ 40000))) with h10129 | h10129
  ·
   refine WL.setB 21 h10129 rfl ?_
   refine seg 26 [.v (iv p0.Width), .v (iv p0.Height)] [1, 28] [(1, (pt g10119)), (28, (.bool (decide (w64 (p0.Width * p0.Height) ≤ 40000))))] [.cell ⟨g10119, 0, none⟩ (iv p0.Width), .cell ⟨g10119, 1, none⟩ (iv p0.Height)] (fun fb => by kernel_rfl) rfl ⟨hS10121.cell 0 rfl 0 rfl, hS10121.cell 0 rfl 1 rfl, trivial⟩ ?_
   exact WL.toV K (decide (w64 (p0.Width * p0.Height) ≤ 40000)) [28, 1] rfl (by first | (rw [h10129]; done) | (rw [h10129]; rfl))
  refine WL.setB 21 h10129 rfl ?_
  refine seg 26 [] [1, 28] [(1, (pt g10119)), (28, (.bool false))] [] (fun fb => by kernel_rfl) rfl trivial ?_
  exact WL.toV K false [28, 1] rfl (by first | (rw [h10129]; done) | (rw [h10129]; rfl))
 rintro b10130 rfl
 refine seg 27 [] [1, 29] [(1, (pt g10119)), (29, (.bool (((((decide (p0.Width ≥ 1)) && (decide (p0.Height ≥ 1))) && (decide (p0.Width ≤ 40000))) && (decide (p0.Height ≤ 40000))) && (decide (w64 (p0.Width * p0.Height) ≤ 40000)))))] [] (fun fb => by kernel_rfl) rfl trivial ?_
 refine WL.cutV (T := Bool) 37 (fun t => [(39, (.bool t))]) (fun t => ((((((decide (p0.Width ≥ 1)) && (decide (p0.Height ≥ 1))) && (decide (p0.Width ≤ 40000))) && (decide (p0.Height ≤ 40000))) && (decide (w64 (p0.Width * p0.Height) ≤ 40000))) && ((p0.Cells.length : Int) == (w64 (p0.Width * p0.Height)))) = t) (fun K => ?_) ?_
 ·
  rcases Bool.eq_false_or_eq_true (((((decide (p0.Width ≥ 1)) && (decide (p0.Height ≥ 1))) && (decide (p0.Width ≤ 40000))) && (decide (p0.Height ≤ 40000))) && (decide (w64 (p0.Width * p0.Height) ≤ 40000))) with h10131 | h10131
  ·
   refine WL.setB 29 h10131 rfl ?_
   refine seg 37 [.v (.slice A_p0_Cells p0.Cells.length c_p0_Cells), .v (iv p0.Width), .v (iv p0.Height)] [39] [(39, (.bool ((p0.Cells.length : Int) == (w64 (p0.Width * p0.Height)))))] [.cell ⟨g10119, 2, none⟩ (.slice A_p0_Cells p0.Cells.length c_p0_Cells), .cell ⟨g10119, 0, none⟩ (iv p0.Width), .cell ⟨g10119, 1, none⟩ (iv p0.Height)] (fun fb => by kernel_rfl) rfl ⟨hS10121.cell 0 rfl 2 rfl, hS10121.cell 0 rfl 0 rfl, hS10121.cell 0 rfl 1 rfl, trivial⟩ ?_
   exact WL.toV K ((p0.Cells.length : Int) == (w64 (p0.Width * p0.Height))) [39] rfl (by first | (rw [h10131]; done) | (rw [h10131]; rfl))
  refine WL.setB 29 h10131 rfl ?_
  refine seg 37 [] [39] [(39, (.bool false))] [] (fun fb => by kernel_rfl) rfl trivial ?_
  exact WL.toV K false [39] rfl (by first | (rw [h10131]; done) | (rw [h10131]; rfl))
 rintro b10132 rfl
 refine seg 38 [] [2] [(2, (.bool ((((((decide (p0.Width ≥ 1)) && (decide (p0.Height ≥ 1))) && (decide (p0.Width ≤ 40000))) && (decide (p0.Height ≤ 40000))) && (decide (w64 (p0.Width * p0.Height) ≤ 40000))) && ((p0.Cells.length : Int) == (w64 (p0.Width * p0.Height))))))] [] (fun fb => by kernel_rfl) rfl trivial ?_
 refine WL.done rfl ?_
 refine WX.next ?_
 refine WC.ret ?_
 injection hf with hf
 subst hf
 exact WX.ret_ [] (.bool ((((((decide (p0.Width ≥ 1)) && (decide (p0.Height ≥ 1))) && (decide (p0.Width ≤ 40000))) && (decide (p0.Height ≤ 40000))) && (decide (w64 (p0.Width * p0.Height) ≤ 40000))) && ((p0.Cells.length : Int) == (w64 (p0.Width * p0.Height))))) [] (fun fb => by kernel_rfl) trivial ⟨_, rfl, rfl, hS10121.keep⟩
theorem tile_of_1_calls (p0 : Int) (f0 : List Tile) (g_f0 : Nat) (A_f0 : Option Addr) (c_f0 : Nat) (r : Bool) (w : World) (hR0 : RO NoS w (blk g_f0 (.cells #[(.slice A_f0 f0.length c_f0)] 22 (0, 0)))) (hR1 : RO NoS w (rowR enc_Tile A_f0 c_f0 f0)) (hf : tile_of_1 p0 f0 = some r) :
  CallsR Try.prog 66 #[(iv p0), (.pointer (some ⟨g_f0, 0, none⟩))] w (fun v w' => v = (.bool r) ∧ Keeps NoS w w') := by
 have hS : St NoS w w [blk g_f0 (.cells #[(.slice A_f0 f0.length c_f0)] 22 (0, 0)), rowR enc_Tile A_f0 c_f0 f0] [] := St.init (ro_cons hR0 (ro_cons hR1 (ro_nil _ _)))
 refine enter 12 Try.func66 rfl Try.ntmps66 rfl ?_
 unfold tile_of_1 at hf
 refine WC.seq ?_
 refine WC.region ?_
 refine seg 1 [] [0, 1] [(0, (iv p0)), (1, (.pointer (some ⟨g_f0, 0, none⟩)))] [] (fun fb => by kernel_rfl) rfl trivial ?_
 refine WL.done rfl ?_
 refine WX.next ?_
 refine WC.seq ?_
 refine WC.region ?_
 refine seg 3 [] [0, 1, 6] [(0, (iv p0)), (1, (.pointer (some ⟨g_f0, 0, none⟩))), (6, (.bool (decide (p0 < 0))))] [] (fun fb => by kernel_rfl) rfl trivial ?_
 refine WL.cutV (T := Bool) 8 (fun t => [(11, (.bool t))]) (fun t => ((decide (p0 < 0)) || (decide (p0 ≥ (f0.length : Int)))) = t) (fun K => ?_) ?_
 ·
  rcases Bool.eq_false_or_eq_true (decide (p0 < 0)) with h10154 | h10154
  ·
   refine WL.setB 6 h10154 rfl ?_
   refine seg 8 [] [11] [(11, (.bool true))] [] (fun fb => by kernel_rfl) rfl trivial ?_
   exact WL.toV K true [11] rfl (by first | (rw [h10154]; done) | (rw [h10154]; rfl))
  refine WL.setB 6 h10154 rfl ?_
  refine seg 8 [.v (.slice A_f0 f0.length c_f0)] [11] [(11, (.bool (decide (p0 ≥ (f0.length : Int)))))] [.cell ⟨g_f0, 0, none⟩ (.slice A_f0 f0.length c_f0)] (fun fb => by kernel_rfl) rfl ⟨blk_cell (hS.rd 0).1 0 rfl, trivial⟩ ?_
  exact WL.toV K (decide (p0 ≥ (f0.length : Int))) [11] rfl (by first | (rw [h10154]; done) | (rw [h10154]; rfl))
 rintro b10155 rfl
 refine seg 9 [] [3] [(3, (.bool ((decide (p0 < 0)) || (decide (p0 ≥ (f0.length : Int))))))] [] (fun fb => by kernel_rfl) rfl trivial ?_
 refine WL.done rfl ?_
 refine WX.next ?_
 refine WC.ret ?_
 injection hf with hf
 subst hf
 exact WX.ret_ [] (.bool ((decide (p0 < 0)) || (decide (p0 ≥ (f0.length : Int))))) [] (fun fb => by kernel_rfl) trivial ⟨_, rfl, rfl, hS.keep⟩
theorem slices_IndexFunc_int_int_with_tile_of_1_calls (k : Nat) (p0 : List Int) (p1_0 : List Tile) (A_p0 : Option Addr) (c_p0 : Nat) (g_p1_0 : Nat) (A_p1_0 : Option Addr) (c_p1_0 : Nat) (r : Int) (w : World) (hR0 : RO NoS w (rowR encInt A_p0 c_p0 p0)) (hR1 : RO NoS w (blk g_p1_0 (.cells #[(.slice A_p1_0 p1_0.length c_p1_0)] 22 (0, 0)))) (hR2 : RO NoS w (rowR enc_Tile A_p1_0 c_p1_0 p1_0)) (hf : slices_IndexFunc_int_int_with_tile_of_1 k p0 p1_0 = some r) :
  CallsR Try.prog 81 #[(.slice A_p0 p0.length c_p0), (.func (.func 66) #[] #[(.pointer (some ⟨g_p1_0, 0, none⟩))])] w (fun v w' => v = (iv r) ∧ Keeps NoS w w') := by
 have hS : St NoS w w [rowR encInt A_p0 c_p0 p0, blk g_p1_0 (.cells #[(.slice A_p1_0 p1_0.length c_p1_0)] 22 (0, 0)), rowR enc_Tile A_p1_0 c_p1_0 p1_0] [] := St.init (ro_cons hR0 (ro_cons hR1 (ro_cons hR2 (ro_nil _ _))))
 refine enter 19 Try.func81 rfl Try.ntmps81 rfl ?_
 unfold slices_IndexFunc_int_int_with_tile_of_1 at hf
 refine WC.seq ?_
 refine WC.region ?_
 refine seg 1 [] [0, 1] [(0, (.slice A_p0 p0.length c_p0)), (1, (.func (.func 66) #[] #[(.pointer (some ⟨g_p1_0, 0, none⟩))]))] [] (fun fb => by kernel_rfl) rfl trivial ?_
 refine WL.done rfl ?_
 refine WX.next ?_
 refine WC.seq ?_
 refine WC.seq ?_
 refine WC.region ?_
 refine seg 3 [] [0, 1, 7, 8] [(0, (.slice A_p0 p0.length c_p0)), (1, (.func (.func 66) #[] #[(.pointer (some ⟨g_p1_0, 0, none⟩))])), (7, (iv (p0.length : Int))), (8, (iv 0))] [] (fun fb => by kernel_rfl) rfl trivial ?_
 refine WL.done rfl ?_
 refine WX.next ?_
 obtain ⟨x10172, hx10173, hf⟩ := bind_some hf
 refine WC.cutN (T := Unit) (fun t => []) (fun t w1 => St NoS w w1 [rowR encInt A_p0 c_p0 p0, blk g_p1_0 (.cells #[(.slice A_p1_0 p1_0.length c_p1_0)] 22 (0, 0)), rowR enc_Tile A_p1_0 c_p1_0 p1_0] [] ∧ x10172 = .inr t) (fun Kx10172 => ?_) ?_
 ·
  refine WC.block ?_
  refine WC.loop (T := Int) (fun t => [(0, (.slice A_p0 p0.length c_p0)), (1, (.func (.func 66) #[] #[(.pointer (some ⟨g_p1_0, 0, none⟩))])), (7, (iv (p0.length : Int))), (8, (iv t))]) (fun n t w1 => St NoS w w1 [rowR encInt A_p0 c_p0 p0, blk g_p1_0 (.cells #[(.slice A_p1_0 p1_0.length c_p1_0)] 22 (0, 0)), rowR enc_Tile A_p1_0 c_p1_0 p1_0] [] ∧ slices_IndexFunc_int_int_with_tile_of_1.l0 n t p0 p1_0 = some x10172) k 0 [0, 1, 7, 8] rfl ⟨(hS.subR [0, 1, 2]).sub [] (by decide), hx10173⟩ ?_
  rintro k10174 x10171 w10175 ⟨hS10176, hl10177⟩
  cases k10174 with
  | zero => rw [slices_IndexFunc_int_int_with_tile_of_1.l0] at hl10177; cases hl10177
  | succ k10174 =>
   rw [slices_IndexFunc_int_int_with_tile_of_1.l0] at hl10177
   refine WC.seq ?_
   refine WC.region ?_
   refine seg 1 [] [0, 1, 7, 8, 9] [(0, (.slice A_p0 p0.length c_p0)), (1, (.func (.func 66) #[] #[(.pointer (some ⟨g_p1_0, 0, none⟩))])), (7, (iv (p0.length : Int))), (8, (iv x10171)), (9, (.bool (decide (x10171 < (p0.length : Int)))))] [] (fun fb => by kernel_rfl) rfl trivial ?_
   refine WL.done rfl ?_
   refine WX.next ?_
   refine WC.seq ?_
   rcases br_some hl10177 with ⟨h10178, hl10177⟩ | ⟨h10178, hl10177⟩
   ·refine WC.condT2 (fun fb => by kernel_rfl) h10178 ?_
    refine WC.skip ?_
    refine WX.next ?_
    refine WC.seq ?_
    refine WC.block ?_
    refine WC.seq ?_
    refine WC.region ?_
    refine seg 2 [] [0, 1, 5, 7, 8] [(0, (.slice A_p0 p0.length c_p0)), (1, (.func (.func 66) #[] #[(.pointer (some ⟨g_p1_0, 0, none⟩))])), (5, (iv x10171)), (7, (iv (p0.length : Int))), (8, (iv x10171))] [] (fun fb => by kernel_rfl) rfl trivial ?_
    refine WL.done rfl ?_
    refine WX.next ?_
    refine WC.seq ?_
    refine WC.region ?_
    refine seg 3 [] [0, 1, 5, 7, 8, 11, 12, 13] [(0, (.slice A_p0 p0.length c_p0)), (1, (.func (.func 66) #[] #[(.pointer (some ⟨g_p1_0, 0, none⟩))])), (5, (iv x10171)), (7, (iv (p0.length : Int))), (8, (iv x10171)), (11, (.func (.func 66) #[] #[(.pointer (some ⟨g_p1_0, 0, none⟩))])), (12, (.slice A_p0 p0.length c_p0)), (13, (iv x10171))] [] (fun fb => by kernel_rfl) rfl trivial ?_
    obtain ⟨h10179, hl10177⟩ := as_some hl10177
    refine seg 5 [.v (iv (rdD p0 x10171 0))] [0, 1, 5, 7, 8, 11, 15] [(0, (.slice A_p0 p0.length c_p0)), (1, (.func (.func 66) #[] #[(.pointer (some ⟨g_p1_0, 0, none⟩))])), (5, (iv x10171)), (7, (iv (p0.length : Int))), (8, (iv x10171)), (11, (.func (.func 66) #[] #[(.pointer (some ⟨g_p1_0, 0, none⟩))])), (15, (iv (rdD p0 x10171 0)))] [.idx A_p0 x10171 p0.length, .cell ((adr A_p0).add ((x10171).toNat * 1)) (iv (rdD p0 x10171 0))] (fun fb => by kernel_rfl) rfl ⟨rowR.adr (hS10176.rd 0).1 h10179.1 h10179.2, rowR.cell (hS10176.rd 0).1 0 h10179.1 h10179.2 0 rfl, trivial⟩ ?_
    obtain ⟨t10180, ht10181, hl10177⟩ := bind_some hl10177
    refine WL.call (some 16) 66 #[(iv (rdD p0 x10171 0)), (.pointer (some ⟨g_p1_0, 0, none⟩))] (fun fb => by kernel_rfl) (tile_of_1_calls (rdD p0 x10171 0) p1_0 g_p1_0 A_p1_0 c_p1_0 t10180 _ (hS10176.rd 1) (hS10176.rd 2) ht10181) (fun v w10182 hR10183 => ?_)
    obtain ⟨rfl, hk_⟩ := hR10183
    have hS10184 := hS10176.keepN hk_
    refine ⟨trivial, ?_⟩
    refine WL.done rfl ?_
    refine WX.next ?_
    rcases br_some hl10177 with ⟨h10185, hl10177⟩ | ⟨h10185, hl10177⟩
    ·refine WC.condT2 (fun fb => by kernel_rfl) h10185 ?_
     refine WC.seq ?_
     refine WC.region ?_
     refine seg 2 [] [4] [(4, (iv x10171))] [] (fun fb => by kernel_rfl) rfl trivial ?_
     refine WL.done rfl ?_
     refine WX.next ?_
     refine WC.ret ?_
     injection hl10177 with hl10177
     subst hl10177
     injection hf with hf
     subst hf
     exact WX.blockR (WX.thenR (WX.thenR (WX.blockR (WX.thenR (WX.ret_ [] (iv x10171) [] (fun fb => by kernel_rfl) trivial ⟨_, rfl, rfl, hS10184.keep⟩)))))
    refine WC.condF2 (fun fb => by kernel_rfl) h10185 ?_
    refine WC.skip ?_
    refine WX.blockN (WX.next ?_)
    refine WC.region ?_
    refine seg 2 [] [0, 1, 7, 8] [(0, (.slice A_p0 p0.length c_p0)), (1, (.func (.func 66) #[] #[(.pointer (some ⟨g_p1_0, 0, none⟩))])), (7, (iv (p0.length : Int))), (8, (iv (w64 (x10171 + 1))))] [] (fun fb => by kernel_rfl) rfl trivial ?_
    refine WL.done rfl ?_
    exact WX.again k10174 (Nat.lt_succ_self _) (w64 (x10171 + 1)) [0, 1, 7, 8] rfl ⟨(hS10184.subR [0, 1, 2]).sub [] (by decide), hl10177⟩
   refine WC.condF2 (fun fb => by kernel_rfl) h10178 ?_
   refine WC.exit ?_
   injection hl10177 with hl10177
   exact WX.thenX (WX.thenX (WX.blockHere (WX.to Kx10172 () [] rfl ⟨(hS10176.subR [0, 1, 2]).sub [] (by decide), hl10177.symm⟩)))
 rintro y10189 w10186 ⟨hS10187, hq10188⟩
 subst hq10188
 have hf := sum_inr hf
 refine WX.next ?_
 refine WC.seq ?_
 refine WC.region ?_
 refine seg 1 [] [4] [(4, (iv (-1)))] [] (fun fb => by kernel_rfl) rfl trivial ?_
 refine WL.done rfl ?_
 refine WX.next ?_
 refine WC.ret ?_
 injection hf with hf
 subst hf
 exact WX.ret_ [] (iv (-1)) [] (fun fb => by kernel_rfl) trivial ⟨_, rfl, rfl, hS10187.keep⟩
theorem slices_ContainsFunc_int_int_with_tile_of_1_calls (k : Nat) (p0 : List Int) (p1_0 : List Tile) (A_p0 : Option Addr) (c_p0 : Nat) (g_p1_0 : Nat) (A_p1_0 : Option Addr) (c_p1_0 : Nat) (r : Bool) (w : World) (hR0 : RO NoS w (rowR encInt A_p0 c_p0 p0)) (hR1 : RO NoS w (blk g_p1_0 (.cells #[(.slice A_p1_0 p1_0.length c_p1_0)] 22 (0, 0)))) (hR2 : RO NoS w (rowR enc_Tile A_p1_0 c_p1_0 p1_0)) (hf : slices_ContainsFunc_int_int_with_tile_of_1 k p0 p1_0 = some r) :
  CallsR Try.prog 65 #[(.slice A_p0 p0.length c_p0), (.func (.func 66) #[] #[(.pointer (some ⟨g_p1_0, 0, none⟩))])] w (fun v w' => v = (.bool r) ∧ Keeps NoS w w') := by
 have hS : St NoS w w [rowR encInt A_p0 c_p0 p0, blk g_p1_0 (.cells #[(.slice A_p1_0 p1_0.length c_p1_0)] 22 (0, 0)), rowR enc_Tile A_p1_0 c_p1_0 p1_0] [] := St.init (ro_cons hR0 (ro_cons hR1 (ro_cons hR2 (ro_nil _ _))))
 refine enter 9 Try.func65 rfl Try.ntmps65 rfl ?_
 unfold slices_ContainsFunc_int_int_with_tile_of_1 at hf
 refine WC.seq ?_
 refine WC.region ?_
 refine seg 1 [] [0, 1] [(0, (.slice A_p0 p0.length c_p0)), (1, (.func (.func 66) #[] #[(.pointer (some ⟨g_p1_0, 0, none⟩))]))] [] (fun fb => by kernel_rfl) rfl trivial ?_
 refine WL.done rfl ?_
 refine WX.next ?_
 refine WC.seq ?_
 refine WC.region ?_
 refine seg 2 [] [5, 6] [(5, (.slice A_p0 p0.length c_p0)), (6, (.func (.func 66) #[] #[(.pointer (some ⟨g_p1_0, 0, none⟩))]))] [] (fun fb => by kernel_rfl) rfl trivial ?_
 obtain ⟨t10191, ht10192, hf⟩ := bind_some hf
 refine WL.call (some 7) 81 #[(.slice A_p0 p0.length c_p0), (.func (.func 66) #[] #[(.pointer (some ⟨g_p1_0, 0, none⟩))])] (fun fb => by kernel_rfl) (slices_IndexFunc_int_int_with_tile_of_1_calls _ p0 p1_0 A_p0 c_p0 g_p1_0 A_p1_0 c_p1_0 t10191 _ (hS.rd 0) (hS.rd 1) (hS.rd 2) ht10192) (fun v w10193 hR10194 => ?_)
 obtain ⟨rfl, hk_⟩ := hR10194
 have hS10195 := hS.keepN hk_
 refine ⟨trivial, ?_⟩
 refine seg 5 [] [4] [(4, (.bool (decide (t10191 ≥ 0))))] [] (fun fb => by kernel_rfl) rfl trivial ?_
 refine WL.done rfl ?_
 refine WX.next ?_
 refine WC.ret ?_
 injection hf with hf
 subst hf
 exact WX.ret_ [] (.bool (decide (t10191 ≥ 0))) [] (fun fb => by kernel_rfl) trivial ⟨_, rfl, rfl, hS10195.keep⟩
theorem tile_of_calls (k : Nat) (p0 : List Tile) (p1 : Pattern) (A_p0 : Option Addr) (c_p0 : Nat) (A_p1_Cells : Option Addr) (c_p1_Cells : Nat) (r : Bool) (w : World) (hR0 : RO NoS w (rowR enc_Tile A_p0 c_p0 p0)) (hR1 : RO NoS w (rowR encInt A_p1_Cells c_p1_Cells p1.Cells)) (hf : tile_of k p0 p1 = some r) :
  CallsR Try.prog 48 #[(.slice A_p0 p0.length c_p0), (.agg #[(iv p1.Width), (iv p1.Height), (.slice A_p1_Cells p1.Cells.length c_p1_Cells)])] w (fun v w' => v = (.bool r) ∧ Keeps NoS w w') := by
 have hS : St NoS w w [rowR enc_Tile A_p0 c_p0 p0, rowR encInt A_p1_Cells c_p1_Cells p1.Cells] [] := St.init (ro_cons hR0 (ro_cons hR1 (ro_nil _ _)))
 refine enter 18 Try.func48 rfl Try.ntmps48 rfl ?_
 unfold tile_of at hf
 refine WC.seq ?_
 refine WC.region ?_
 refine WL.new hS 2 [] (fun g => (.pointer (some ⟨g, 0, none⟩))) (.cells #[(.slice A_p0 p0.length c_p0)] 22 (0, 0)) [] (fun fb g => by kernel_rfl) trivial (fun g10106 w10107 hS10108 => ?_)
 refine ⟨trivial, ?_⟩
 refine WL.new hS10108 3 [] (fun g => (.pointer (some ⟨g, 0, none⟩))) (.cells #[(iv p1.Width), (iv p1.Height), (.slice A_p1_Cells p1.Cells.length c_p1_Cells)] 38 (0, 0)) [] (fun fb g => by kernel_rfl) trivial (fun g10110 w10111 hS10112 => ?_)
 refine ⟨trivial, ?_⟩
 refine seg 3 [] [2, 3] [(2, (pt g10106)), (3, (pt g10110))] [] (fun fb => by kernel_rfl) rfl trivial ?_
 refine WL.done rfl ?_
 refine WX.next ?_
 refine WC.seq ?_
 refine WC.region ?_
 refine seg 1 [.v (.slice A_p0 p0.length c_p0)] [2, 3, 5] [(2, (pt g10106)), (3, (pt g10110)), (5, (.slice A_p0 p0.length c_p0))] [.cell ⟨g10106, 0, none⟩ (.slice A_p0 p0.length c_p0)] (fun fb => by kernel_rfl) rfl ⟨hS10112.cell 1 rfl 0 rfl, trivial⟩ ?_
 obtain ⟨t10114, ht10115, hf⟩ := bind_some hf
 refine WL.call (some 6) 38 #[(.slice A_p0 p0.length c_p0)] (fun fb => by kernel_rfl) (tile_Valid_calls _ p0 A_p0 c_p0 t10114 _ (hS10112.rd 0) ht10115) (fun v w10116 hR10117 => ?_)
 obtain ⟨rfl, hk_⟩ := hR10117
 have hS10118 := hS10112.keepN hk_
 refine ⟨trivial, ?_⟩
 refine seg 3 [] [2, 3, 7] [(2, (pt g10106)), (3, (pt g10110)), (7, (.bool t10114))] [] (fun fb => by kernel_rfl) rfl trivial ?_
 obtain ⟨x10139, hx10140, hf⟩ := bind_some hf
 refine WL.cutW (T := Bool) 6 (fun t => [(2, (pt g10106)), (3, (pt g10110)), (10, (.bool t))]) (fun t w1 => (St NoS w w1 [rowR enc_Tile A_p0 c_p0 p0, rowR encInt A_p1_Cells c_p1_Cells p1.Cells] [blk g10106 (.cells #[(.slice A_p0 p0.length c_p0)] 22 (0, 0)), blk g10110 (.cells #[(iv p1.Width), (iv p1.Height), (.slice A_p1_Cells p1.Cells.length c_p1_Cells)] 38 (0, 0))] ∧ x10139 = t) ∧ CellsOK [] w1) (fun K => ?_) ?_
 ·
  rcases br_some hx10140 with ⟨h10141, hx10140⟩ | ⟨h10141, hx10140⟩
  ·
   refine WL.setB 7 h10141 rfl ?_
   refine seg 4 [.v (iv p1.Width), .v (iv p1.Height), .v (.slice A_p1_Cells p1.Cells.length c_p1_Cells)] [2, 3, 7, 8] [(2, (pt g10106)), (3, (pt g10110)), (7, (.bool true)), (8, (.agg #[(iv p1.Width), (iv p1.Height), (.slice A_p1_Cells p1.Cells.length c_p1_Cells)]))] [.cell ⟨g10110, 0, none⟩ (iv p1.Width), .cell ⟨g10110, 1, none⟩ (iv p1.Height), .cell ⟨g10110, 2, none⟩ (.slice A_p1_Cells p1.Cells.length c_p1_Cells)] (fun fb => by kernel_rfl) rfl ⟨hS10118.cell 0 rfl 0 rfl, hS10118.cell 0 rfl 1 rfl, hS10118.cell 0 rfl 2 rfl, trivial⟩ ?_
   obtain ⟨t10142, ht10143, hx10140⟩ := bind_some hx10140
   refine WL.call (some 9) 64 #[(.agg #[(iv p1.Width), (iv p1.Height), (.slice A_p1_Cells p1.Cells.length c_p1_Cells)])] (fun fb => by kernel_rfl) (tile_Form_calls p1 A_p1_Cells c_p1_Cells t10142 _ (hS10118.rd 1) ht10143) (fun v w10144 hR10145 => ?_)
   obtain ⟨rfl, hk_⟩ := hR10145
   have hS10146 := hS10118.keepN hk_
   refine ⟨trivial, ?_⟩
   refine seg 6 [] [2, 3, 10] [(2, (pt g10106)), (3, (pt g10110)), (10, (.bool t10142))] [] (fun fb => by kernel_rfl) rfl trivial ?_
   injection hx10140 with hx10140
   exact WL.to K t10142 [2, 3, 10] rfl ⟨⟨(hS10146.subR [0, 1]).sub [1, 0] (by decide), hx10140.symm⟩, trivial⟩
  refine WL.setB 7 h10141 rfl ?_
  refine seg 6 [] [2, 3, 10] [(2, (pt g10106)), (3, (pt g10110)), (10, (.bool false))] [] (fun fb => by kernel_rfl) rfl trivial ?_
  injection hx10140 with hx10140
  exact WL.to K false [2, 3, 10] rfl ⟨⟨(hS10118.subR [0, 1]).sub [1, 0] (by decide), hx10140.symm⟩, trivial⟩
 rintro y10147 w10149 ⟨⟨hS10150, hq10148⟩, hF10151⟩
 subst hq10148
 refine seg 7 [] [2, 3, 11] [(2, (pt g10106)), (3, (pt g10110)), (11, (.bool x10139))] [] (fun fb => by kernel_rfl) rfl trivial ?_
 obtain ⟨x10202, hx10203, hf⟩ := bind_some hf
 refine WL.cutW (T := Bool) 13 (fun t => [(17, (.bool t))]) (fun t w1 => (St NoS w w1 [rowR enc_Tile A_p0 c_p0 p0, rowR encInt A_p1_Cells c_p1_Cells p1.Cells] [] ∧ x10202 = t) ∧ CellsOK [] w1) (fun K => ?_) ?_
 ·
  rcases br_some hx10203 with ⟨h10204, hx10203⟩ | ⟨h10204, hx10203⟩
  ·
   refine WL.setB 11 h10204 rfl ?_
   refine seg 10 [.v (.slice A_p1_Cells p1.Cells.length c_p1_Cells)] [11, 13, 14] [(11, (.bool true)), (13, (.slice A_p1_Cells p1.Cells.length c_p1_Cells)), (14, (.func (.func 66) #[] #[(pt g10106)]))] [.cell ⟨g10110, 2, none⟩ (.slice A_p1_Cells p1.Cells.length c_p1_Cells)] (fun fb => by kernel_rfl) rfl ⟨hS10150.cell 1 rfl 2 rfl, trivial⟩ ?_
   obtain ⟨t10205, ht10206, hx10203⟩ := bind_some hx10203
   refine WL.call (some 15) 65 #[(.slice A_p1_Cells p1.Cells.length c_p1_Cells), (.func (.func 66) #[] #[(pt g10106)])] (fun fb => by kernel_rfl) (slices_ContainsFunc_int_int_with_tile_of_1_calls _ p1.Cells p0 A_p1_Cells c_p1_Cells g10106 A_p0 c_p0 t10205 _ (hS10150.rd 1) (hS10150.ow 0) (hS10150.rd 0) ht10206) (fun v w10207 hR10208 => ?_)
   obtain ⟨rfl, hk_⟩ := hR10208
   have hS10209 := hS10150.keepN hk_
   refine ⟨trivial, ?_⟩
   refine seg 13 [] [17] [(17, (.bool (!t10205)))] [] (fun fb => by kernel_rfl) rfl trivial ?_
   injection hx10203 with hx10203
   exact WL.to K (!t10205) [17] rfl ⟨⟨(hS10209.subR [0, 1]).sub [] (by decide), hx10203.symm⟩, trivial⟩
  refine WL.setB 11 h10204 rfl ?_
  refine seg 13 [] [17] [(17, (.bool false))] [] (fun fb => by kernel_rfl) rfl trivial ?_
  injection hx10203 with hx10203
  exact WL.to K false [17] rfl ⟨⟨(hS10150.subR [0, 1]).sub [] (by decide), hx10203.symm⟩, trivial⟩
 rintro y10210 w10212 ⟨⟨hS10213, hq10211⟩, hF10214⟩
 subst hq10211
 refine seg 14 [] [4] [(4, (.bool x10202))] [] (fun fb => by kernel_rfl) rfl trivial ?_
 refine WL.done rfl ?_
 refine WX.next ?_
 refine WC.ret ?_
 injection hf with hf
 subst hf
 exact WX.ret_ [] (.bool x10202) [] (fun fb => by kernel_rfl) trivial ⟨_, rfl, rfl, hS10213.keep⟩
end Gp
