/- Walks: each function of the program computes its plain function. -/
import Derived.Test.YtpbnoldflfcllaaGx2
set_option linter.unusedVariables false
set_option linter.unusedSimpArgs false
set_option maxHeartbeats 4000000
set_option maxRecDepth 8000
namespace Gp
open Go Gw Go.Proofs
theorem torus_rings_calls (k : Nat) (p0 : List Tile) (p1 : Int) (Aa : Option Addr) (ca : Nat) (r : (List Row)) (w : World) (hR0 : RO NoS w (rowR enc_Tile Aa ca p0)) (hf : torus_rings k p0 p1 = some r) :
  CallsR Try.prog 61 #[(sv Aa p0 ca), (iv p1)] w (fun v w' => ∃ (A1_ : Option Addr), ∃ (c1_ : Nat), ∃ (h1_ : Nat → HF), v = (sv A1_ r c1_) ∧ St NoS w w' [] [rowO 99 encN_Row A1_ c1_ (tag h1_ r), poolO [nestO subN_Row h1_ r]]) := by
 have hS : St NoS w w [rowR enc_Tile Aa ca p0] [] := St.init (ro_cons hR0 (ro_nil _ _))
 refine enter 27 Try.func61 rfl Try.ntmps61 rfl ?_
 unfold torus_rings at hf
 refine WC.seq (WC.region ?_)
 refine sg 1 [] [0, 1] [(0, (sv Aa p0 ca)), (1, (iv p1))] (by kernel_rfl) ?_
 refine WL.done rfl (WX.next (WC.seq (WC.region ?_)))
 refine sg 1 [] [0, 1, 5] [(0, (sv Aa p0 ca)), (1, (iv p1)), (5, (.slice none 0 0))] (by kernel_rfl) ?_
 refine WL.done rfl (WX.next (WC.seq (WC.seq (WC.region ?_))))
 refine sg 2 [] [5, 8, 9] [(5, (.slice none 0 0)), (8, (sv Aa p0 ca)), (9, (iv p1))] (by kernel_rfl) ?_
 obtain ⟨t8, ht9, hf⟩ := bind_some hf
 refine WL.call (some 10) 84 #[(sv Aa p0 ca), (iv p1)] (fun fb => by kernel_rfl) (rows_All_calls _ p0 p1 Aa ca t8 _ (hS.rd 0) ht9) (fun v w10 hR11 => ?_)
 obtain ⟨A13, c14, H15, rfl, hk_⟩ := hR11
 have hS12 := hS.go w10 [rowO 99 encN_Row A13 c14 (tag H15 t8), poolO [nestO subN_Row H15 t8]] (hS.call hk_ [] [] (fun g hg => hg.elim) (by simp) (by decide))
 refine ⟨trivial, ?_⟩
 refine sg 5 [] [5, 10, 11, 12] [(5, (.slice none 0 0)), (10, (sv A13 t8 c14)), (11, (iv (t8.length : Int))), (12, (iv 0))] (by kernel_rfl) ?_
 refine WL.done rfl (WX.next ?_)
 have hS16 := hS12.go w10 [rowO 99 encN_Row none 0 (tag h0 ([] : List Row)), rowO 99 encN_Row A13 c14 (tag H15 t8), poolO [nestO subN_Row H15 t8]] (hS12.nilrow 99 encN_Row)
 have hS17 := hS16.poolNil subN_Row h0
 have hS18 := hS16.go w10 [poolO [nestO subN_Row h0 ([] : List Row), nestO subN_Row H15 t8], rowO 99 encN_Row none 0 (tag h0 ([] : List Row)), rowO 99 encN_Row A13 c14 (tag H15 t8)] (hS17.poolMerge 0 3 rfl rfl [1, 2] (by decide) (by decide))
 obtain ⟨x27, hx28, hf⟩ := bind_some hf
 refine WC.cutN (T := (List Row) × (Option Addr) × Nat × (Nat → HF)) (fun t => [(5, (sv t.2.1 t.1 t.2.2.1))]) (fun t w1 => St NoS w w1 [rowR enc_Tile Aa ca p0] [rowO 99 encN_Row t.2.1 t.2.2.1 (tag t.2.2.2 t.1), poolO [nestO subN_Row t.2.2.2 t.1]] ∧ x27 = t.1) (fun Kx27 => ?_) ?_
 ·
  refine WC.block ?_
  refine WC.loop (T := ((List Row) × Int) × (Option Addr) × Nat × (Nat → HF)) (fun t => [(5, (sv t.2.1 t.1.1 t.2.2.1)), (10, (sv A13 t8 c14)), (11, (iv (t8.length : Int))), (12, (iv t.1.2))]) (fun n t w1 => St NoS w w1 [rowR enc_Tile Aa ca p0] [rowO 99 encN_Row t.2.1 t.2.2.1 (tag t.2.2.2 t.1.1), poolO [nestO subN_Row t.2.2.2 t.1.1, nestO subN_Row H15 t8], rowO 99 encN_Row A13 c14 (tag H15 t8)] ∧ torus_rings.l0 n t.1.1 t.1.2 t8 = some x27) k ((([] : List Row), 0), none, 0, h0) [5, 10, 11, 12] rfl ⟨(hS18.subR [0]).sub [1, 0, 2] (by decide), hx28⟩ ?_
  rintro k29 ⟨⟨l21, x23⟩, A19, c20, H22⟩ w30 ⟨hS31, hl32⟩
  cases k29 with
  | zero => rw [torus_rings.l0] at hl32; cases hl32
  | succ k29 =>
   rw [torus_rings.l0] at hl32
   refine WC.seq (WC.region ?_)
   refine sg 1 [] [5, 10, 11, 12, 13] [(5, (sv A19 l21 c20)), (10, (sv A13 t8 c14)), (11, (iv (t8.length : Int))), (12, (iv x23)), (13, (bv (decide (x23 < (t8.length : Int)))))] (by kernel_rfl) ?_
   refine WL.done rfl (WX.next (WC.seq ?_))
   rcases br_some hl32 with ⟨h33, hl32⟩ | ⟨h33, hl32⟩
   ·refine WC.condT2 (fun fb => by kernel_rfl) h33 ?_
    refine WC.skip (WX.next (WC.seq (WC.block (WC.seq (WC.region ?_)))))
    obtain ⟨h34, hl32⟩ := as_some hl32
    refine seg 2 [.v (sv ((H15 x23.toNat 0).1) ((rdD t8 x23 z_Row).Cells) ((H15 x23.toNat 0).2)), .v (iv (((rdD t8 x23 z_Row).South).e0)), .v (iv (((rdD t8 x23 z_Row).South).e1)), .v (iv (((rdD t8 x23 z_Row).South).e2)), .v (iv (((rdD t8 x23 z_Row).South).e3)), .v (iv (((rdD t8 x23 z_Row).South).e4)), .v (iv (((rdD t8 x23 z_Row).South).e5)), .v (iv (((rdD t8 x23 z_Row).South).e6)), .v (iv (((rdD t8 x23 z_Row).South).e7)), .v (iv (((rdD t8 x23 z_Row).North).e0)), .v (iv (((rdD t8 x23 z_Row).North).e1)), .v (iv (((rdD t8 x23 z_Row).North).e2)), .v (iv (((rdD t8 x23 z_Row).North).e3)), .v (iv (((rdD t8 x23 z_Row).North).e4)), .v (iv (((rdD t8 x23 z_Row).North).e5)), .v (iv (((rdD t8 x23 z_Row).North).e6)), .v (iv (((rdD t8 x23 z_Row).North).e7)), .v (iv ((rdD t8 x23 z_Row).West)), .v (iv ((rdD t8 x23 z_Row).East))] [5, 10, 11, 12, 15] [(5, (sv A19 l21 c20)), (10, (sv A13 t8 c14)), (11, (iv (t8.length : Int))), (12, (iv x23)), (15, (.agg #[(sv ((H15 x23.toNat 0).1) ((rdD t8 x23 z_Row).Cells) ((H15 x23.toNat 0).2)), (iv (((rdD t8 x23 z_Row).South).e0)), (iv (((rdD t8 x23 z_Row).South).e1)), (iv (((rdD t8 x23 z_Row).South).e2)), (iv (((rdD t8 x23 z_Row).South).e3)), (iv (((rdD t8 x23 z_Row).South).e4)), (iv (((rdD t8 x23 z_Row).South).e5)), (iv (((rdD t8 x23 z_Row).South).e6)), (iv (((rdD t8 x23 z_Row).South).e7)), (iv (((rdD t8 x23 z_Row).North).e0)), (iv (((rdD t8 x23 z_Row).North).e1)), (iv (((rdD t8 x23 z_Row).North).e2)), (iv (((rdD t8 x23 z_Row).North).e3)), (iv (((rdD t8 x23 z_Row).North).e4)), (iv (((rdD t8 x23 z_Row).North).e5)), (iv (((rdD t8 x23 z_Row).North).e6)), (iv (((rdD t8 x23 z_Row).North).e7)), (iv ((rdD t8 x23 z_Row).West)), (iv ((rdD t8 x23 z_Row).East))]))] [.idx A13 x23 t8.length, .cell ((adr A13).add ((x23).toNat * 19)) (sv ((H15 x23.toNat 0).1) ((rdD t8 x23 z_Row).Cells) ((H15 x23.toNat 0).2)), .cell (((adr A13).add ((x23).toNat * 19)).add 1) (iv (((rdD t8 x23 z_Row).South).e0)), .cell (((adr A13).add ((x23).toNat * 19)).add 2) (iv (((rdD t8 x23 z_Row).South).e1)), .cell (((adr A13).add ((x23).toNat * 19)).add 3) (iv (((rdD t8 x23 z_Row).South).e2)), .cell (((adr A13).add ((x23).toNat * 19)).add 4) (iv (((rdD t8 x23 z_Row).South).e3)), .cell (((adr A13).add ((x23).toNat * 19)).add 5) (iv (((rdD t8 x23 z_Row).South).e4)), .cell (((adr A13).add ((x23).toNat * 19)).add 6) (iv (((rdD t8 x23 z_Row).South).e5)), .cell (((adr A13).add ((x23).toNat * 19)).add 7) (iv (((rdD t8 x23 z_Row).South).e6)), .cell (((adr A13).add ((x23).toNat * 19)).add 8) (iv (((rdD t8 x23 z_Row).South).e7)), .cell (((adr A13).add ((x23).toNat * 19)).add 9) (iv (((rdD t8 x23 z_Row).North).e0)), .cell (((adr A13).add ((x23).toNat * 19)).add 10) (iv (((rdD t8 x23 z_Row).North).e1)), .cell (((adr A13).add ((x23).toNat * 19)).add 11) (iv (((rdD t8 x23 z_Row).North).e2)), .cell (((adr A13).add ((x23).toNat * 19)).add 12) (iv (((rdD t8 x23 z_Row).North).e3)), .cell (((adr A13).add ((x23).toNat * 19)).add 13) (iv (((rdD t8 x23 z_Row).North).e4)), .cell (((adr A13).add ((x23).toNat * 19)).add 14) (iv (((rdD t8 x23 z_Row).North).e5)), .cell (((adr A13).add ((x23).toNat * 19)).add 15) (iv (((rdD t8 x23 z_Row).North).e6)), .cell (((adr A13).add ((x23).toNat * 19)).add 16) (iv (((rdD t8 x23 z_Row).North).e7)), .cell (((adr A13).add ((x23).toNat * 19)).add 17) (iv ((rdD t8 x23 z_Row).West)), .cell (((adr A13).add ((x23).toNat * 19)).add 18) (iv ((rdD t8 x23 z_Row).East))] (fun fb => by kernel_rfl) rfl ⟨nrow_adr (rowO.rd (hS31.own 2).1) h34.1 h34.2, nrow_cell (rowO.rd (hS31.own 2).1) z_Row h34.1 h34.2 0 rfl, nrow_cell (rowO.rd (hS31.own 2).1) z_Row h34.1 h34.2 1 rfl, nrow_cell (rowO.rd (hS31.own 2).1) z_Row h34.1 h34.2 2 rfl, nrow_cell (rowO.rd (hS31.own 2).1) z_Row h34.1 h34.2 3 rfl, nrow_cell (rowO.rd (hS31.own 2).1) z_Row h34.1 h34.2 4 rfl, nrow_cell (rowO.rd (hS31.own 2).1) z_Row h34.1 h34.2 5 rfl, nrow_cell (rowO.rd (hS31.own 2).1) z_Row h34.1 h34.2 6 rfl, nrow_cell (rowO.rd (hS31.own 2).1) z_Row h34.1 h34.2 7 rfl, nrow_cell (rowO.rd (hS31.own 2).1) z_Row h34.1 h34.2 8 rfl, nrow_cell (rowO.rd (hS31.own 2).1) z_Row h34.1 h34.2 9 rfl, nrow_cell (rowO.rd (hS31.own 2).1) z_Row h34.1 h34.2 10 rfl, nrow_cell (rowO.rd (hS31.own 2).1) z_Row h34.1 h34.2 11 rfl, nrow_cell (rowO.rd (hS31.own 2).1) z_Row h34.1 h34.2 12 rfl, nrow_cell (rowO.rd (hS31.own 2).1) z_Row h34.1 h34.2 13 rfl, nrow_cell (rowO.rd (hS31.own 2).1) z_Row h34.1 h34.2 14 rfl, nrow_cell (rowO.rd (hS31.own 2).1) z_Row h34.1 h34.2 15 rfl, nrow_cell (rowO.rd (hS31.own 2).1) z_Row h34.1 h34.2 16 rfl, nrow_cell (rowO.rd (hS31.own 2).1) z_Row h34.1 h34.2 17 rfl, nrow_cell (rowO.rd (hS31.own 2).1) z_Row h34.1 h34.2 18 rfl, trivial⟩ ?_
    refine WL.new hS31 7 [] (fun g => (pt g)) (.cells #[(.slice none 0 0), (iv 0), (iv 0), (iv 0), (iv 0), (iv 0), (iv 0), (iv 0), (iv 0), (iv 0), (iv 0), (iv 0), (iv 0), (iv 0), (iv 0), (iv 0), (iv 0), (iv 0), (iv 0)] 99 (0, 0)) [] (fun fb g => by kernel_rfl) trivial (fun g35 w36 hS37 => ?_)
    refine ⟨trivial, ?_⟩
    refine WL.store hS37 0 rfl [(0, (sv ((H15 x23.toNat 0).1) ((rdD t8 x23 z_Row).Cells) ((H15 x23.toNat 0).2))), (1, (iv (((rdD t8 x23 z_Row).South).e0))), (2, (iv (((rdD t8 x23 z_Row).South).e1))), (3, (iv (((rdD t8 x23 z_Row).South).e2))), (4, (iv (((rdD t8 x23 z_Row).South).e3))), (5, (iv (((rdD t8 x23 z_Row).South).e4))), (6, (iv (((rdD t8 x23 z_Row).South).e5))), (7, (iv (((rdD t8 x23 z_Row).South).e6))), (8, (iv (((rdD t8 x23 z_Row).South).e7))), (9, (iv (((rdD t8 x23 z_Row).North).e0))), (10, (iv (((rdD t8 x23 z_Row).North).e1))), (11, (iv (((rdD t8 x23 z_Row).North).e2))), (12, (iv (((rdD t8 x23 z_Row).North).e3))), (13, (iv (((rdD t8 x23 z_Row).North).e4))), (14, (iv (((rdD t8 x23 z_Row).North).e5))), (15, (iv (((rdD t8 x23 z_Row).North).e6))), (16, (iv (((rdD t8 x23 z_Row).North).e7))), (17, (iv ((rdD t8 x23 z_Row).West))), (18, (iv ((rdD t8 x23 z_Row).East)))] #[(sv ((H15 x23.toNat 0).1) ((rdD t8 x23 z_Row).Cells) ((H15 x23.toNat 0).2)), (iv (((rdD t8 x23 z_Row).South).e0)), (iv (((rdD t8 x23 z_Row).South).e1)), (iv (((rdD t8 x23 z_Row).South).e2)), (iv (((rdD t8 x23 z_Row).South).e3)), (iv (((rdD t8 x23 z_Row).South).e4)), (iv (((rdD t8 x23 z_Row).South).e5)), (iv (((rdD t8 x23 z_Row).South).e6)), (iv (((rdD t8 x23 z_Row).South).e7)), (iv (((rdD t8 x23 z_Row).North).e0)), (iv (((rdD t8 x23 z_Row).North).e1)), (iv (((rdD t8 x23 z_Row).North).e2)), (iv (((rdD t8 x23 z_Row).North).e3)), (iv (((rdD t8 x23 z_Row).North).e4)), (iv (((rdD t8 x23 z_Row).North).e5)), (iv (((rdD t8 x23 z_Row).North).e6)), (iv (((rdD t8 x23 z_Row).North).e7)), (iv ((rdD t8 x23 z_Row).West)), (iv ((rdD t8 x23 z_Row).East))] (fun fb => by kernel_rfl) (by kernel_rfl) (by kernel_rfl) [1, 2, 3] (by decide) (by decide) (fun w38 hS39 => ?_)
    refine ⟨trivial, ?_⟩
    refine WL.done rfl (WX.next (WC.seq (WC.region ?_)))
    refine seg 5 [.v (iv ((rdD t8 x23 z_Row).West)), .v (iv ((rdD t8 x23 z_Row).East))] [5, 7, 10, 11, 12, 20] [(5, (sv A19 l21 c20)), (7, (pt g35)), (10, (sv A13 t8 c14)), (11, (iv (t8.length : Int))), (12, (iv x23)), (20, (bv (((rdD t8 x23 z_Row).West) == ((rdD t8 x23 z_Row).East))))] [.cell ⟨g35, 17, none⟩ (iv ((rdD t8 x23 z_Row).West)), .cell ⟨g35, 18, none⟩ (iv ((rdD t8 x23 z_Row).East))] (fun fb => by kernel_rfl) rfl ⟨hS39.cell 0 rfl 17 rfl, hS39.cell 0 rfl 18 rfl, trivial⟩ ?_
    refine WL.done rfl (WX.next ?_)
    obtain ⟨x43, hx44, hl32⟩ := bind_some hl32
    refine WC.cutN (T := (List Row) × (Option Addr) × Nat × (Nat → HF)) (fun t => [(5, (sv t.2.1 t.1 t.2.2.1)), (10, (sv A13 t8 c14)), (11, (iv (t8.length : Int))), (12, (iv x23))]) (fun t w1 => St NoS w w1 [rowR enc_Tile Aa ca p0] [rowO 99 encN_Row t.2.1 t.2.2.1 (tag t.2.2.2 t.1), poolO [nestO subN_Row t.2.2.2 t.1, nestO subN_Row H15 t8], rowO 99 encN_Row A13 c14 (tag H15 t8)] ∧ x43 = t.1) (fun Kx43 => ?_) ?_
    ·
     rcases br_some hx44 with ⟨h45, hx44⟩ | ⟨h45, hx44⟩
     ·refine WC.condT2 (fun fb => by kernel_rfl) h45 ?_
      refine WC.region ?_
      refine seg 2 [.v (sv ((H15 x23.toNat 0).1) ((rdD t8 x23 z_Row).Cells) ((H15 x23.toNat 0).2)), .v (iv (((rdD t8 x23 z_Row).South).e0)), .v (iv (((rdD t8 x23 z_Row).South).e1)), .v (iv (((rdD t8 x23 z_Row).South).e2)), .v (iv (((rdD t8 x23 z_Row).South).e3)), .v (iv (((rdD t8 x23 z_Row).South).e4)), .v (iv (((rdD t8 x23 z_Row).South).e5)), .v (iv (((rdD t8 x23 z_Row).South).e6)), .v (iv (((rdD t8 x23 z_Row).South).e7)), .v (iv (((rdD t8 x23 z_Row).North).e0)), .v (iv (((rdD t8 x23 z_Row).North).e1)), .v (iv (((rdD t8 x23 z_Row).North).e2)), .v (iv (((rdD t8 x23 z_Row).North).e3)), .v (iv (((rdD t8 x23 z_Row).North).e4)), .v (iv (((rdD t8 x23 z_Row).North).e5)), .v (iv (((rdD t8 x23 z_Row).North).e6)), .v (iv (((rdD t8 x23 z_Row).North).e7)), .v (iv ((rdD t8 x23 z_Row).West)), .v (iv ((rdD t8 x23 z_Row).East))] [10, 11, 12, 21, 22] [(10, (sv A13 t8 c14)), (11, (iv (t8.length : Int))), (12, (iv x23)), (21, (sv A19 l21 c20)), (22, (.agg #[(sv ((H15 x23.toNat 0).1) ((rdD t8 x23 z_Row).Cells) ((H15 x23.toNat 0).2)), (iv (((rdD t8 x23 z_Row).South).e0)), (iv (((rdD t8 x23 z_Row).South).e1)), (iv (((rdD t8 x23 z_Row).South).e2)), (iv (((rdD t8 x23 z_Row).South).e3)), (iv (((rdD t8 x23 z_Row).South).e4)), (iv (((rdD t8 x23 z_Row).South).e5)), (iv (((rdD t8 x23 z_Row).South).e6)), (iv (((rdD t8 x23 z_Row).South).e7)), (iv (((rdD t8 x23 z_Row).North).e0)), (iv (((rdD t8 x23 z_Row).North).e1)), (iv (((rdD t8 x23 z_Row).North).e2)), (iv (((rdD t8 x23 z_Row).North).e3)), (iv (((rdD t8 x23 z_Row).North).e4)), (iv (((rdD t8 x23 z_Row).North).e5)), (iv (((rdD t8 x23 z_Row).North).e6)), (iv (((rdD t8 x23 z_Row).North).e7)), (iv ((rdD t8 x23 z_Row).West)), (iv ((rdD t8 x23 z_Row).East))]))] [.cell ⟨g35, 0, none⟩ (sv ((H15 x23.toNat 0).1) ((rdD t8 x23 z_Row).Cells) ((H15 x23.toNat 0).2)), .cell ⟨g35, 1, none⟩ (iv (((rdD t8 x23 z_Row).South).e0)), .cell ⟨g35, 2, none⟩ (iv (((rdD t8 x23 z_Row).South).e1)), .cell ⟨g35, 3, none⟩ (iv (((rdD t8 x23 z_Row).South).e2)), .cell ⟨g35, 4, none⟩ (iv (((rdD t8 x23 z_Row).South).e3)), .cell ⟨g35, 5, none⟩ (iv (((rdD t8 x23 z_Row).South).e4)), .cell ⟨g35, 6, none⟩ (iv (((rdD t8 x23 z_Row).South).e5)), .cell ⟨g35, 7, none⟩ (iv (((rdD t8 x23 z_Row).South).e6)), .cell ⟨g35, 8, none⟩ (iv (((rdD t8 x23 z_Row).South).e7)), .cell ⟨g35, 9, none⟩ (iv (((rdD t8 x23 z_Row).North).e0)), .cell ⟨g35, 10, none⟩ (iv (((rdD t8 x23 z_Row).North).e1)), .cell ⟨g35, 11, none⟩ (iv (((rdD t8 x23 z_Row).North).e2)), .cell ⟨g35, 12, none⟩ (iv (((rdD t8 x23 z_Row).North).e3)), .cell ⟨g35, 13, none⟩ (iv (((rdD t8 x23 z_Row).North).e4)), .cell ⟨g35, 14, none⟩ (iv (((rdD t8 x23 z_Row).North).e5)), .cell ⟨g35, 15, none⟩ (iv (((rdD t8 x23 z_Row).North).e6)), .cell ⟨g35, 16, none⟩ (iv (((rdD t8 x23 z_Row).North).e7)), .cell ⟨g35, 17, none⟩ (iv ((rdD t8 x23 z_Row).West)), .cell ⟨g35, 18, none⟩ (iv ((rdD t8 x23 z_Row).East))] (fun fb => by kernel_rfl) rfl ⟨hS39.cell 0 rfl 0 rfl, hS39.cell 0 rfl 1 rfl, hS39.cell 0 rfl 2 rfl, hS39.cell 0 rfl 3 rfl, hS39.cell 0 rfl 4 rfl, hS39.cell 0 rfl 5 rfl, hS39.cell 0 rfl 6 rfl, hS39.cell 0 rfl 7 rfl, hS39.cell 0 rfl 8 rfl, hS39.cell 0 rfl 9 rfl, hS39.cell 0 rfl 10 rfl, hS39.cell 0 rfl 11 rfl, hS39.cell 0 rfl 12 rfl, hS39.cell 0 rfl 13 rfl, hS39.cell 0 rfl 14 rfl, hS39.cell 0 rfl 15 rfl, hS39.cell 0 rfl 16 rfl, hS39.cell 0 rfl 17 rfl, hS39.cell 0 rfl 18 rfl, trivial⟩ ?_
      refine WL.new hS39 23 [] (fun g => (.slice (some ⟨g, 0, none⟩) 1 1)) (.cells #[(sv ((H15 x23.toNat 0).1) ((rdD t8 x23 z_Row).Cells) ((H15 x23.toNat 0).2)), (iv (((rdD t8 x23 z_Row).South).e0)), (iv (((rdD t8 x23 z_Row).South).e1)), (iv (((rdD t8 x23 z_Row).South).e2)), (iv (((rdD t8 x23 z_Row).South).e3)), (iv (((rdD t8 x23 z_Row).South).e4)), (iv (((rdD t8 x23 z_Row).South).e5)), (iv (((rdD t8 x23 z_Row).South).e6)), (iv (((rdD t8 x23 z_Row).South).e7)), (iv (((rdD t8 x23 z_Row).North).e0)), (iv (((rdD t8 x23 z_Row).North).e1)), (iv (((rdD t8 x23 z_Row).North).e2)), (iv (((rdD t8 x23 z_Row).North).e3)), (iv (((rdD t8 x23 z_Row).North).e4)), (iv (((rdD t8 x23 z_Row).North).e5)), (iv (((rdD t8 x23 z_Row).North).e6)), (iv (((rdD t8 x23 z_Row).North).e7)), (iv ((rdD t8 x23 z_Row).West)), (iv ((rdD t8 x23 z_Row).East))] 99 (0, 0)) [] (fun fb g => by kernel_rfl) trivial (fun g46 w47 hS48 => ?_)
      refine ⟨trivial, ?_⟩
      have hS49 := hS18.go w47 [rowO 99 encN_Row (some ⟨g46, 0, none⟩) 1 [((hd1 ((H15 x23.toNat 0).1) ((H15 x23.toNat 0).2)), (rdD t8 x23 z_Row))], blk g35 (.cells #[(sv ((H15 x23.toNat 0).1) ((rdD t8 x23 z_Row).Cells) ((H15 x23.toNat 0).2)), (iv (((rdD t8 x23 z_Row).South).e0)), (iv (((rdD t8 x23 z_Row).South).e1)), (iv (((rdD t8 x23 z_Row).South).e2)), (iv (((rdD t8 x23 z_Row).South).e3)), (iv (((rdD t8 x23 z_Row).South).e4)), (iv (((rdD t8 x23 z_Row).South).e5)), (iv (((rdD t8 x23 z_Row).South).e6)), (iv (((rdD t8 x23 z_Row).South).e7)), (iv (((rdD t8 x23 z_Row).North).e0)), (iv (((rdD t8 x23 z_Row).North).e1)), (iv (((rdD t8 x23 z_Row).North).e2)), (iv (((rdD t8 x23 z_Row).North).e3)), (iv (((rdD t8 x23 z_Row).North).e4)), (iv (((rdD t8 x23 z_Row).North).e5)), (iv (((rdD t8 x23 z_Row).North).e6)), (iv (((rdD t8 x23 z_Row).North).e7)), (iv ((rdD t8 x23 z_Row).West)), (iv ((rdD t8 x23 z_Row).East))] 99 (0, 0)), rowO 99 encN_Row A19 c20 (tag H22 l21), poolO [nestO subN_Row H22 l21, nestO subN_Row H15 t8], rowO 99 encN_Row A13 c14 (tag H15 t8)] (hS48.map1 0 _ (fun h => rowO.ofBlk h rfl (Nat.le_of_ble_eq_true (by kernel_rfl))) (fun _ h => by obtain ⟨_, h1, h2⟩ := h; injection h1 with h1; subst h1; exact h2) [1, 2, 3, 4] (by decide) (by decide))
      obtain ⟨h50, hx44⟩ := as_some hx44
      refine WL.appendN hS49 2 (d := 24) (tS := 93) (z := (.agg #[(.slice none 0 0), (iv 0), (iv 0), (iv 0), (iv 0), (iv 0), (iv 0), (iv 0), (iv 0), (iv 0), (iv 0), (iv 0), (iv 0), (iv 0), (iv 0), (iv 0), (iv 0), (iv 0), (iv 0)])) (bytes := 168) (c2 := 1) (hx := (hd1 ((H15 x23.toNat 0).1) ((H15 x23.toNat 0).2))) (x := (rdD t8 x23 z_Row)) rfl (fun fb => by kernel_rfl) (rowO.rd (hS49.own 0).1) (by kernel_rfl) (by kernel_rfl) rfl (by decide) h50 (by decide) [0, 1, 3, 4] (by decide) (by decide) (fun A51 c52 w53 hS54 => ?_)
      have hS55 := hS49.go w53 [poolO [nestO subN_Row (updH H22 l21.length (hd1 ((H15 x23.toNat 0).1) ((H15 x23.toNat 0).2))) (l21 ++ [(rdD t8 x23 z_Row)]), nestO subN_Row H15 t8], rowO 99 encN_Row A51 c52 (tag (updH H22 l21.length (hd1 ((H15 x23.toNat 0).1) ((H15 x23.toNat 0).2))) (l21 ++ [(rdD t8 x23 z_Row)])), rowO 99 encN_Row (some ⟨g46, 0, none⟩) 1 [((hd1 ((H15 x23.toNat 0).1) ((H15 x23.toNat 0).2)), (rdD t8 x23 z_Row))], blk g35 (.cells #[(.slice ((H15 x23.toNat 0).1) ((rdD t8 x23 z_Row).Cells).length ((H15 x23.toNat 0).2)), (iv (((rdD t8 x23 z_Row).South).e0)), (iv (((rdD t8 x23 z_Row).South).e1)), (iv (((rdD t8 x23 z_Row).South).e2)), (iv (((rdD t8 x23 z_Row).South).e3)), (iv (((rdD t8 x23 z_Row).South).e4)), (iv (((rdD t8 x23 z_Row).South).e5)), (iv (((rdD t8 x23 z_Row).South).e6)), (iv (((rdD t8 x23 z_Row).South).e7)), (iv (((rdD t8 x23 z_Row).North).e0)), (iv (((rdD t8 x23 z_Row).North).e1)), (iv (((rdD t8 x23 z_Row).North).e2)), (iv (((rdD t8 x23 z_Row).North).e3)), (iv (((rdD t8 x23 z_Row).North).e4)), (iv (((rdD t8 x23 z_Row).North).e5)), (iv (((rdD t8 x23 z_Row).North).e6)), (iv (((rdD t8 x23 z_Row).North).e7)), (iv ((rdD t8 x23 z_Row).West)), (iv ((rdD t8 x23 z_Row).East))] 99 (0, 0)), rowO 99 encN_Row A13 c14 (tag H15 t8)] (hS54.poolPush 3 rfl 0 (by simp) rfl (hd1 ((H15 x23.toNat 0).1) ((H15 x23.toNat 0).2)) (rdD t8 x23 z_Row) (nestO.ro (poolO.ro (hS54.ow 3) 1) z_Row h34.1 h34.2) [] (fun g hg => ⟨3, by simp, ⟨1, ⟨_, _, rdD_at (d := z_Row) h34.1 h34.2, hg⟩⟩⟩) _ rfl [0, 1, 2, 4] (by decide) (by decide))
      refine ⟨trivial, ?_⟩
      refine sg 5 [] [5, 10, 11, 12] [(5, (sv A51 (l21 ++ [(rdD t8 x23 z_Row)]) c52)), (10, (sv A13 t8 c14)), (11, (iv (t8.length : Int))), (12, (iv x23))] (by kernel_rfl) ?_
      refine WL.done rfl ?_
      injection hx44 with hx44
      exact WX.to Kx43 (l21 ++ [(rdD t8 x23 z_Row)], A51, c52, (updH H22 l21.length (hd1 ((H15 x23.toNat 0).1) ((H15 x23.toNat 0).2)))) [5, 10, 11, 12] rfl ⟨(hS55.subR [0]).sub [1, 0, 4] (by decide), hx44.symm⟩
     refine WC.condF2 (fun fb => by kernel_rfl) h45 ?_
     refine WC.skip ?_
     injection hx44 with hx44
     exact WX.to Kx43 (l21, A19, c20, H22) [5, 10, 11, 12] rfl ⟨(hS39.subR [0]).sub [1, 2, 3] (by decide), hx44.symm⟩
    rintro ⟨y59, A40, c41, H42⟩ w56 ⟨hS57, hq58⟩
    subst hq58
    refine WX.blockN (WX.next ?_)
    refine WC.region ?_
    refine sg 2 [] [5, 10, 11, 12] [(5, (sv A40 x43 c41)), (10, (sv A13 t8 c14)), (11, (iv (t8.length : Int))), (12, (iv (w64 (x23 + 1))))] (by kernel_rfl) ?_
    refine WL.done rfl ?_
    exact WX.again k29 (Nat.lt_succ_self _) ((x43, w64 (x23 + 1)), A40, c41, H42) [5, 10, 11, 12] rfl ⟨(hS57.subR [0]).sub [0, 1, 2] (by decide), hl32⟩
   refine WC.condF2 (fun fb => by kernel_rfl) h33 ?_
   refine WC.exit ?_
   have hS60 := hS18.go w30 [poolO [nestO subN_Row H22 l21], rowO 99 encN_Row A19 c20 (tag H22 l21), rowO 99 encN_Row A13 c14 (tag H15 t8)] (hS31.poolSub 1 rfl [0] [0, 2] (by decide) (by decide))
   injection hl32 with hl32
   exact WX.thenX (WX.thenX (WX.blockHere (WX.to Kx27 (l21, A19, c20, H22) [5] rfl ⟨(hS60.subR [0]).sub [1, 0] (by decide), hl32.symm⟩)))
 rintro ⟨y66, A24, c25, H26⟩ w62 ⟨hS63, hq65⟩
 subst hq65
 refine WX.next (WC.seq (WC.region ?_))
 refine sg 2 [] [4] [(4, (sv A24 x27 c25))] (by kernel_rfl) ?_
 refine WL.done rfl (WX.next ?_)
 refine WC.ret ?_
 injection hf with hf
 subst hf
 exact WX.ret_ [] (sv A24 x27 c25) [] (fun fb => by kernel_rfl) trivial ⟨_, rfl, A24, c25, H26, rfl, (hS63.sub [0, 1] (by decide)).noR⟩
theorem torus_back_key97 : KeyK Try.prog 97 (aggI ints_A8_Int) := KeyK.array (n := 8) (by kernel_rfl) ints_A8_Int (fun _ => rfl) (fun x y h => by cases x; cases y; simp only [ints_A8_Int, List.cons.injEq, and_true] at h; obtain ⟨rfl, rfl, rfl, rfl, rfl, rfl, rfl, rfl⟩ := h; rfl)
theorem torus_back_calls (k : Nat) (p0 : List Row) (p1 : A8_Int) (p2 : Int) (Aa : Option Addr) (ca : Nat) (Ha : Nat → HF) (r : (List (Option (List (A8_Int × Bool))))) (w : World) (hR0 : RO NoS w (rowR encN_Row Aa ca (tag Ha p0))) (hR1 : RO NoS w (nestO subN_Row Ha p0)) (hf : torus_back k p0 p1 p2 = some r) :
  CallsR Try.prog 62 #[(sv Aa p0 ca), (.agg #[(iv p1.e0), (iv p1.e1), (iv p1.e2), (iv p1.e3), (iv p1.e4), (iv p1.e5), (iv p1.e6), (iv p1.e7)]), (iv p2)] w (fun v w' => ∃ (A1_ : Option Addr), ∃ (c1_ : Nat), ∃ (m1_ : Nat → Nat), v = (sv A1_ r c1_) ∧ St NoS w w' [] [rowO 103 (encMap A8_Int Bool) A1_ c1_ (tag m1_ r), mapsO (aggI ints_A8_Int) vB m1_ r]) := by
 have hS : St NoS w w [rowR encN_Row Aa ca (tag Ha p0), nestO subN_Row Ha p0] [] := St.init (ro_cons hR0 (ro_cons hR1 (ro_nil _ _)))
 refine enter 46 Try.func62 rfl Try.ntmps62 rfl ?_
 unfold torus_back at hf
 refine WC.seq (WC.region ?_)
 refine WL.new hS 4 [] (fun g => (pt g)) (.cells #[(iv p1.e0), (iv p1.e1), (iv p1.e2), (iv p1.e3), (iv p1.e4), (iv p1.e5), (iv p1.e6), (iv p1.e7)] 97 (0, 0)) [] (fun fb g => by kernel_rfl) trivial (fun g9 w10 hS11 => ?_)
 refine ⟨trivial, ?_⟩
 refine sg 2 [] [0, 2, 4] [(0, (sv Aa p0 ca)), (2, (iv p2)), (4, (pt g9))] (by kernel_rfl) ?_
 refine WL.done rfl (WX.next (WC.seq (WC.region ?_)))
 refine WL.new hS11 12 [] (fun g => (.map (some g))) (mapObj (aggI ints_A8_Int) vB ([] : List (A8_Int × Bool))) [] (fun fb g => by kernel_rfl) trivial (fun g12 w13 hS14 => ?_)
 refine ⟨trivial, ?_⟩
 refine seg 2 [.v (iv p1.e0), .v (iv p1.e1), .v (iv p1.e2), .v (iv p1.e3), .v (iv p1.e4), .v (iv p1.e5), .v (iv p1.e6), .v (iv p1.e7)] [0, 2, 12, 13] [(0, (sv Aa p0 ca)), (2, (iv p2)), (12, (.map (some g12))), (13, (.agg #[(iv p1.e0), (iv p1.e1), (iv p1.e2), (iv p1.e3), (iv p1.e4), (iv p1.e5), (iv p1.e6), (iv p1.e7)]))] [.cell ⟨g9, 0, none⟩ (iv p1.e0), .cell ⟨g9, 1, none⟩ (iv p1.e1), .cell ⟨g9, 2, none⟩ (iv p1.e2), .cell ⟨g9, 3, none⟩ (iv p1.e3), .cell ⟨g9, 4, none⟩ (iv p1.e4), .cell ⟨g9, 5, none⟩ (iv p1.e5), .cell ⟨g9, 6, none⟩ (iv p1.e6), .cell ⟨g9, 7, none⟩ (iv p1.e7)] (fun fb => by kernel_rfl) rfl ⟨hS14.cell 1 rfl 0 rfl, hS14.cell 1 rfl 1 rfl, hS14.cell 1 rfl 2 rfl, hS14.cell 1 rfl 3 rfl, hS14.cell 1 rfl 4 rfl, hS14.cell 1 rfl 5 rfl, hS14.cell 1 rfl 6 rfl, hS14.cell 1 rfl 7 rfl, trivial⟩ ?_
 refine WL.mapput hS14 0 (t := 103) (kT := 97) (eT := 4) (kE := (aggI ints_A8_Int)) (vE := vB) (l := ([] : List (A8_Int × Bool))) rfl p1 true (fun fb => by kernel_rfl) torus_back_key97 (by kernel_rfl) [1] (by decide) (by decide) (fun w15 hS16 => ?_)
 refine ⟨trivial, ?_⟩
 refine sg 4 [] [0, 2, 14] [(0, (sv Aa p0 ca)), (2, (iv p2)), (14, (.map (some g12)))] (by kernel_rfl) ?_
 refine WL.new hS16 15 [] (fun g => (.slice (some ⟨g, 0, none⟩) 1 1)) (.cells #[(.map (some g12))] 103 (0, 0)) [] (fun fb g => by kernel_rfl) trivial (fun g17 w18 hS19 => ?_)
 refine ⟨trivial, ?_⟩
 have hS20 := hS.go w18 [rowO 103 (encMap A8_Int Bool) (some ⟨g17, 0, none⟩) 1 (tag (fun _ => g12) [some (mput p1 true ([] : List (A8_Int × Bool)))]), blk g12 (mapObj (aggI ints_A8_Int) vB (mput p1 true ([] : List (A8_Int × Bool)))), blk g9 (.cells #[(iv p1.e0), (iv p1.e1), (iv p1.e2), (iv p1.e3), (iv p1.e4), (iv p1.e5), (iv p1.e6), (iv p1.e7)] 97 (0, 0))] (hS19.map1 0 _ (fun h => rowO.ofBlk h rfl (Nat.le_of_ble_eq_true (by kernel_rfl))) (fun _ h => by obtain ⟨_, h1, h2⟩ := h; injection h1 with h1; subst h1; exact h2) [1, 2] (by decide) (by decide))
 have hS21 := hS20.go w18 [mapsO (aggI ints_A8_Int) vB (fun _ => g12) [some (mput p1 true ([] : List (A8_Int × Bool)))], rowO 103 (encMap A8_Int Bool) (some ⟨g17, 0, none⟩) 1 (tag (fun _ => g12) [some (mput p1 true ([] : List (A8_Int × Bool)))]), blk g9 (.cells #[(iv p1.e0), (iv p1.e1), (iv p1.e2), (iv p1.e3), (iv p1.e4), (iv p1.e5), (iv p1.e6), (iv p1.e7)] 97 (0, 0))] (hS20.mapsOne 1 rfl [0, 2] (by decide) (by decide))
 refine sg 6 [] [0, 2, 7] [(0, (sv Aa p0 ca)), (2, (iv p2)), (7, (sv (some ⟨g17, 0, none⟩) [some (mput p1 true ([] : List (A8_Int × Bool)))] 1))] (by kernel_rfl) ?_
 refine WL.done rfl (WX.next (WC.seq (WC.seq (WC.region ?_))))
 refine sg 2 [] [0, 7, 16, 17] [(0, (sv Aa p0 ca)), (7, (sv (some ⟨g17, 0, none⟩) [some (mput p1 true ([] : List (A8_Int × Bool)))] 1)), (16, (iv p2)), (17, (iv 0))] (by kernel_rfl) ?_
 refine WL.done rfl (WX.next ?_)
 obtain ⟨x30, hx31, hf⟩ := bind_some hf
 refine WC.cutN (T := (List (Option (List (A8_Int × Bool)))) × (Option Addr) × Nat × (Nat → Nat)) (fun t => [(7, (sv t.2.1 t.1 t.2.2.1))]) (fun t w1 => St NoS w w1 [rowR encN_Row Aa ca (tag Ha p0), nestO subN_Row Ha p0] [rowO 103 (encMap A8_Int Bool) t.2.1 t.2.2.1 (tag t.2.2.2 t.1), mapsO (aggI ints_A8_Int) vB t.2.2.2 t.1] ∧ x30 = t.1) (fun Kx30 => ?_) ?_
 ·
  refine WC.block ?_
  refine WC.loop (T := ((List (Option (List (A8_Int × Bool)))) × Int) × (Option Addr) × Nat × (Nat → Nat)) (fun t => [(0, (sv Aa p0 ca)), (7, (sv t.2.1 t.1.1 t.2.2.1)), (16, (iv p2)), (17, (iv t.1.2))]) (fun n t w1 => St NoS w w1 [rowR encN_Row Aa ca (tag Ha p0), nestO subN_Row Ha p0] [rowO 103 (encMap A8_Int Bool) t.2.1 t.2.2.1 (tag t.2.2.2 t.1.1), mapsO (aggI ints_A8_Int) vB t.2.2.2 t.1.1] ∧ torus_back.l0 n t.1.1 t.1.2 p0 p2 = some x30) k (([some (mput p1 true ([] : List (A8_Int × Bool)))], 0), (some ⟨g17, 0, none⟩), 1, (fun _ => g12)) [0, 7, 16, 17] rfl ⟨(hS21.subR [0, 1]).sub [1, 0] (by decide), hx31⟩ ?_
  rintro k32 ⟨⟨l24, x26⟩, A22, c23, H25⟩ w33 ⟨hS34, hl35⟩
  cases k32 with
  | zero => rw [torus_back.l0] at hl35; cases hl35
  | succ k32 =>
   rw [torus_back.l0] at hl35
   refine WC.seq (WC.region ?_)
   refine sg 1 [] [0, 7, 16, 17, 18] [(0, (sv Aa p0 ca)), (7, (sv A22 l24 c23)), (16, (iv p2)), (17, (iv x26)), (18, (bv (decide (x26 < p2))))] (by kernel_rfl) ?_
   refine WL.done rfl (WX.next (WC.seq ?_))
   rcases br_some hl35 with ⟨h36, hl35⟩ | ⟨h36, hl35⟩
   ·refine WC.condT2 (fun fb => by kernel_rfl) h36 ?_
    refine WC.skip (WX.next (WC.seq (WC.block (WC.seq (WC.region ?_)))))
    refine sg 4 [] [0, 7, 16, 17, 19, 22] [(0, (sv Aa p0 ca)), (7, (sv A22 l24 c23)), (16, (iv p2)), (17, (iv x26)), (19, (sv A22 l24 c23)), (22, (iv (w64 ((l24.length : Int) - 1))))] (by kernel_rfl) ?_
    obtain ⟨h37, hl35⟩ := as_some hl35
    refine seg 5 [] [0, 7, 16, 17, 23] [(0, (sv Aa p0 ca)), (7, (sv A22 l24 c23)), (16, (iv p2)), (17, (iv x26)), (23, (.pointer (some ((adr A22).add ((w64 ((l24.length : Int) - 1)).toNat * 1)))))] [.idx A22 (w64 ((l24.length : Int) - 1)) l24.length] (fun fb => by kernel_rfl) rfl ⟨nrow_adr (rowO.rd (hS34.own 0).1) h37.1 h37.2, trivial⟩ ?_
    obtain ⟨m38, hm39, hl35⟩ := bind_some hl35
    refine seg 6 [.v (.map (some (H25 (w64 ((l24.length : Int) - 1)).toNat)))] [0, 7, 16, 17, 24] [(0, (sv Aa p0 ca)), (7, (sv A22 l24 c23)), (16, (iv p2)), (17, (iv x26)), (24, (.map (some (H25 (w64 ((l24.length : Int) - 1)).toNat))))] [.cell ((adr A22).add ((w64 ((l24.length : Int) - 1)).toNat * 1)) (.map (some (H25 (w64 ((l24.length : Int) - 1)).toNat)))] (fun fb => by kernel_rfl) rfl ⟨nrow_cell (rowO.rd (hS34.own 0).1) none h37.1 h37.2 0 (mapV_some hm39), trivial⟩ ?_
    refine WL.new hS34 25 [] (fun g => (.map (some g))) (mapObj (aggI ints_A8_Int) vB ([] : List (A8_Int × Bool))) [] (fun fb g => by kernel_rfl) trivial (fun g40 w41 hS42 => ?_)
    refine ⟨trivial, ?_⟩
    refine sg 9 [] [0, 7, 8, 9, 16, 17] [(0, (sv Aa p0 ca)), (7, (sv A22 l24 c23)), (8, (.map (some (H25 (w64 ((l24.length : Int) - 1)).toNat)))), (9, (.map (some g40))), (16, (iv p2)), (17, (iv x26))] (by kernel_rfl) ?_
    refine WL.done rfl (WX.next (WC.seq (WC.seq (WC.region ?_))))
    refine sg 3 [] [0, 7, 8, 9, 16, 17, 26, 27, 28] [(0, (sv Aa p0 ca)), (7, (sv A22 l24 c23)), (8, (.map (some (H25 (w64 ((l24.length : Int) - 1)).toNat)))), (9, (.map (some g40))), (16, (iv p2)), (17, (iv x26)), (26, (sv Aa p0 ca)), (27, (iv (p0.length : Int))), (28, (iv 0))] (by kernel_rfl) ?_
    refine WL.done rfl (WX.next ?_)
    obtain ⟨x45, hx46, hl35⟩ := bind_some hl35
    refine WC.cutN (T := (List (A8_Int × Bool))) (fun t => [(0, (sv Aa p0 ca)), (7, (sv A22 l24 c23)), (9, (.map (some g40))), (16, (iv p2)), (17, (iv x26))]) (fun t w1 => St NoS w w1 [rowR encN_Row Aa ca (tag Ha p0), nestO subN_Row Ha p0] [rowO 103 (encMap A8_Int Bool) A22 c23 (tag H25 l24), mapsO (aggI ints_A8_Int) vB H25 l24, blk g40 (mapObj (aggI ints_A8_Int) vB t)] ∧ x45 = t) (fun Kx45 => ?_) ?_
    ·
     refine WC.block ?_
     refine WC.loop (T := (List (A8_Int × Bool)) × Int) (fun t => [(0, (sv Aa p0 ca)), (7, (sv A22 l24 c23)), (8, (.map (some (H25 (w64 ((l24.length : Int) - 1)).toNat)))), (9, (.map (some g40))), (16, (iv p2)), (17, (iv x26)), (26, (sv Aa p0 ca)), (27, (iv (p0.length : Int))), (28, (iv t.2))]) (fun n t w1 => St NoS w w1 [rowR encN_Row Aa ca (tag Ha p0), nestO subN_Row Ha p0] [rowO 103 (encMap A8_Int Bool) A22 c23 (tag H25 l24), mapsO (aggI ints_A8_Int) vB H25 l24, blk g40 (mapObj (aggI ints_A8_Int) vB t.1)] ∧ torus_back.l1 n t.1 t.2 p0 m38 = some x45) k32 (([] : List (A8_Int × Bool)), 0) [0, 7, 8, 9, 16, 17, 26, 27, 28] rfl ⟨(hS42.subR [0, 1]).sub [1, 2, 0] (by decide), hx46⟩ ?_
     rintro k47 ⟨l43, x44⟩ w48 ⟨hS49, hl50⟩
     cases k47 with
     | zero => rw [torus_back.l1] at hl50; cases hl50
     | succ k47 =>
      rw [torus_back.l1] at hl50
      refine WC.seq (WC.region ?_)
      refine sg 1 [] [0, 7, 8, 9, 16, 17, 26, 27, 28, 29] [(0, (sv Aa p0 ca)), (7, (sv A22 l24 c23)), (8, (.map (some (H25 (w64 ((l24.length : Int) - 1)).toNat)))), (9, (.map (some g40))), (16, (iv p2)), (17, (iv x26)), (26, (sv Aa p0 ca)), (27, (iv (p0.length : Int))), (28, (iv x44)), (29, (bv (decide (x44 < (p0.length : Int)))))] (by kernel_rfl) ?_
      refine WL.done rfl (WX.next (WC.seq ?_))
      rcases br_some hl50 with ⟨h51, hl50⟩ | ⟨h51, hl50⟩
      ·refine WC.condT2 (fun fb => by kernel_rfl) h51 ?_
       refine WC.skip (WX.next (WC.seq (WC.block (WC.seq (WC.region ?_)))))
       obtain ⟨h52, hl50⟩ := as_some hl50
       refine seg 2 [.v (sv ((Ha x44.toNat 0).1) ((rdD p0 x44 z_Row).Cells) ((Ha x44.toNat 0).2)), .v (iv (((rdD p0 x44 z_Row).South).e0)), .v (iv (((rdD p0 x44 z_Row).South).e1)), .v (iv (((rdD p0 x44 z_Row).South).e2)), .v (iv (((rdD p0 x44 z_Row).South).e3)), .v (iv (((rdD p0 x44 z_Row).South).e4)), .v (iv (((rdD p0 x44 z_Row).South).e5)), .v (iv (((rdD p0 x44 z_Row).South).e6)), .v (iv (((rdD p0 x44 z_Row).South).e7)), .v (iv (((rdD p0 x44 z_Row).North).e0)), .v (iv (((rdD p0 x44 z_Row).North).e1)), .v (iv (((rdD p0 x44 z_Row).North).e2)), .v (iv (((rdD p0 x44 z_Row).North).e3)), .v (iv (((rdD p0 x44 z_Row).North).e4)), .v (iv (((rdD p0 x44 z_Row).North).e5)), .v (iv (((rdD p0 x44 z_Row).North).e6)), .v (iv (((rdD p0 x44 z_Row).North).e7)), .v (iv ((rdD p0 x44 z_Row).West)), .v (iv ((rdD p0 x44 z_Row).East))] [0, 7, 8, 9, 16, 17, 26, 27, 28, 31] [(0, (sv Aa p0 ca)), (7, (sv A22 l24 c23)), (8, (.map (some (H25 (w64 ((l24.length : Int) - 1)).toNat)))), (9, (.map (some g40))), (16, (iv p2)), (17, (iv x26)), (26, (sv Aa p0 ca)), (27, (iv (p0.length : Int))), (28, (iv x44)), (31, (.agg #[(sv ((Ha x44.toNat 0).1) ((rdD p0 x44 z_Row).Cells) ((Ha x44.toNat 0).2)), (iv (((rdD p0 x44 z_Row).South).e0)), (iv (((rdD p0 x44 z_Row).South).e1)), (iv (((rdD p0 x44 z_Row).South).e2)), (iv (((rdD p0 x44 z_Row).South).e3)), (iv (((rdD p0 x44 z_Row).South).e4)), (iv (((rdD p0 x44 z_Row).South).e5)), (iv (((rdD p0 x44 z_Row).South).e6)), (iv (((rdD p0 x44 z_Row).South).e7)), (iv (((rdD p0 x44 z_Row).North).e0)), (iv (((rdD p0 x44 z_Row).North).e1)), (iv (((rdD p0 x44 z_Row).North).e2)), (iv (((rdD p0 x44 z_Row).North).e3)), (iv (((rdD p0 x44 z_Row).North).e4)), (iv (((rdD p0 x44 z_Row).North).e5)), (iv (((rdD p0 x44 z_Row).North).e6)), (iv (((rdD p0 x44 z_Row).North).e7)), (iv ((rdD p0 x44 z_Row).West)), (iv ((rdD p0 x44 z_Row).East))]))] [.idx Aa x44 p0.length, .cell ((adr Aa).add ((x44).toNat * 19)) (sv ((Ha x44.toNat 0).1) ((rdD p0 x44 z_Row).Cells) ((Ha x44.toNat 0).2)), .cell (((adr Aa).add ((x44).toNat * 19)).add 1) (iv (((rdD p0 x44 z_Row).South).e0)), .cell (((adr Aa).add ((x44).toNat * 19)).add 2) (iv (((rdD p0 x44 z_Row).South).e1)), .cell (((adr Aa).add ((x44).toNat * 19)).add 3) (iv (((rdD p0 x44 z_Row).South).e2)), .cell (((adr Aa).add ((x44).toNat * 19)).add 4) (iv (((rdD p0 x44 z_Row).South).e3)), .cell (((adr Aa).add ((x44).toNat * 19)).add 5) (iv (((rdD p0 x44 z_Row).South).e4)), .cell (((adr Aa).add ((x44).toNat * 19)).add 6) (iv (((rdD p0 x44 z_Row).South).e5)), .cell (((adr Aa).add ((x44).toNat * 19)).add 7) (iv (((rdD p0 x44 z_Row).South).e6)), .cell (((adr Aa).add ((x44).toNat * 19)).add 8) (iv (((rdD p0 x44 z_Row).South).e7)), .cell (((adr Aa).add ((x44).toNat * 19)).add 9) (iv (((rdD p0 x44 z_Row).North).e0)), .cell (((adr Aa).add ((x44).toNat * 19)).add 10) (iv (((rdD p0 x44 z_Row).North).e1)), .cell (((adr Aa).add ((x44).toNat * 19)).add 11) (iv (((rdD p0 x44 z_Row).North).e2)), .cell (((adr Aa).add ((x44).toNat * 19)).add 12) (iv (((rdD p0 x44 z_Row).North).e3)), .cell (((adr Aa).add ((x44).toNat * 19)).add 13) (iv (((rdD p0 x44 z_Row).North).e4)), .cell (((adr Aa).add ((x44).toNat * 19)).add 14) (iv (((rdD p0 x44 z_Row).North).e5)), .cell (((adr Aa).add ((x44).toNat * 19)).add 15) (iv (((rdD p0 x44 z_Row).North).e6)), .cell (((adr Aa).add ((x44).toNat * 19)).add 16) (iv (((rdD p0 x44 z_Row).North).e7)), .cell (((adr Aa).add ((x44).toNat * 19)).add 17) (iv ((rdD p0 x44 z_Row).West)), .cell (((adr Aa).add ((x44).toNat * 19)).add 18) (iv ((rdD p0 x44 z_Row).East))] (fun fb => by kernel_rfl) rfl ⟨nrow_adr (hS49.rd 0).1 h52.1 h52.2, nrow_cell (hS49.rd 0).1 z_Row h52.1 h52.2 0 rfl, nrow_cell (hS49.rd 0).1 z_Row h52.1 h52.2 1 rfl, nrow_cell (hS49.rd 0).1 z_Row h52.1 h52.2 2 rfl, nrow_cell (hS49.rd 0).1 z_Row h52.1 h52.2 3 rfl, nrow_cell (hS49.rd 0).1 z_Row h52.1 h52.2 4 rfl, nrow_cell (hS49.rd 0).1 z_Row h52.1 h52.2 5 rfl, nrow_cell (hS49.rd 0).1 z_Row h52.1 h52.2 6 rfl, nrow_cell (hS49.rd 0).1 z_Row h52.1 h52.2 7 rfl, nrow_cell (hS49.rd 0).1 z_Row h52.1 h52.2 8 rfl, nrow_cell (hS49.rd 0).1 z_Row h52.1 h52.2 9 rfl, nrow_cell (hS49.rd 0).1 z_Row h52.1 h52.2 10 rfl, nrow_cell (hS49.rd 0).1 z_Row h52.1 h52.2 11 rfl, nrow_cell (hS49.rd 0).1 z_Row h52.1 h52.2 12 rfl, nrow_cell (hS49.rd 0).1 z_Row h52.1 h52.2 13 rfl, nrow_cell (hS49.rd 0).1 z_Row h52.1 h52.2 14 rfl, nrow_cell (hS49.rd 0).1 z_Row h52.1 h52.2 15 rfl, nrow_cell (hS49.rd 0).1 z_Row h52.1 h52.2 16 rfl, nrow_cell (hS49.rd 0).1 z_Row h52.1 h52.2 17 rfl, nrow_cell (hS49.rd 0).1 z_Row h52.1 h52.2 18 rfl, trivial⟩ ?_
       refine WL.new hS49 11 [] (fun g => (pt g)) (.cells #[(.slice none 0 0), (iv 0), (iv 0), (iv 0), (iv 0), (iv 0), (iv 0), (iv 0), (iv 0), (iv 0), (iv 0), (iv 0), (iv 0), (iv 0), (iv 0), (iv 0), (iv 0), (iv 0), (iv 0)] 99 (0, 0)) [] (fun fb g => by kernel_rfl) trivial (fun g53 w54 hS55 => ?_)
       refine ⟨trivial, ?_⟩
       refine WL.store hS55 0 rfl [(0, (sv ((Ha x44.toNat 0).1) ((rdD p0 x44 z_Row).Cells) ((Ha x44.toNat 0).2))), (1, (iv (((rdD p0 x44 z_Row).South).e0))), (2, (iv (((rdD p0 x44 z_Row).South).e1))), (3, (iv (((rdD p0 x44 z_Row).South).e2))), (4, (iv (((rdD p0 x44 z_Row).South).e3))), (5, (iv (((rdD p0 x44 z_Row).South).e4))), (6, (iv (((rdD p0 x44 z_Row).South).e5))), (7, (iv (((rdD p0 x44 z_Row).South).e6))), (8, (iv (((rdD p0 x44 z_Row).South).e7))), (9, (iv (((rdD p0 x44 z_Row).North).e0))), (10, (iv (((rdD p0 x44 z_Row).North).e1))), (11, (iv (((rdD p0 x44 z_Row).North).e2))), (12, (iv (((rdD p0 x44 z_Row).North).e3))), (13, (iv (((rdD p0 x44 z_Row).North).e4))), (14, (iv (((rdD p0 x44 z_Row).North).e5))), (15, (iv (((rdD p0 x44 z_Row).North).e6))), (16, (iv (((rdD p0 x44 z_Row).North).e7))), (17, (iv ((rdD p0 x44 z_Row).West))), (18, (iv ((rdD p0 x44 z_Row).East)))] #[(sv ((Ha x44.toNat 0).1) ((rdD p0 x44 z_Row).Cells) ((Ha x44.toNat 0).2)), (iv (((rdD p0 x44 z_Row).South).e0)), (iv (((rdD p0 x44 z_Row).South).e1)), (iv (((rdD p0 x44 z_Row).South).e2)), (iv (((rdD p0 x44 z_Row).South).e3)), (iv (((rdD p0 x44 z_Row).South).e4)), (iv (((rdD p0 x44 z_Row).South).e5)), (iv (((rdD p0 x44 z_Row).South).e6)), (iv (((rdD p0 x44 z_Row).South).e7)), (iv (((rdD p0 x44 z_Row).North).e0)), (iv (((rdD p0 x44 z_Row).North).e1)), (iv (((rdD p0 x44 z_Row).North).e2)), (iv (((rdD p0 x44 z_Row).North).e3)), (iv (((rdD p0 x44 z_Row).North).e4)), (iv (((rdD p0 x44 z_Row).North).e5)), (iv (((rdD p0 x44 z_Row).North).e6)), (iv (((rdD p0 x44 z_Row).North).e7)), (iv ((rdD p0 x44 z_Row).West)), (iv ((rdD p0 x44 z_Row).East))] (fun fb => by kernel_rfl) (by kernel_rfl) (by kernel_rfl) [1, 2, 3] (by decide) (by decide) (fun w56 hS57 => ?_)
       refine ⟨trivial, ?_⟩
       refine WL.done rfl (WX.next (WC.seq (WC.region ?_)))
       refine seg 3 [.v (iv (((rdD p0 x44 z_Row).North).e0)), .v (iv (((rdD p0 x44 z_Row).North).e1)), .v (iv (((rdD p0 x44 z_Row).North).e2)), .v (iv (((rdD p0 x44 z_Row).North).e3)), .v (iv (((rdD p0 x44 z_Row).North).e4)), .v (iv (((rdD p0 x44 z_Row).North).e5)), .v (iv (((rdD p0 x44 z_Row).North).e6)), .v (iv (((rdD p0 x44 z_Row).North).e7))] [0, 7, 8, 9, 11, 16, 17, 26, 27, 28, 32, 34] [(0, (sv Aa p0 ca)), (7, (sv A22 l24 c23)), (8, (.map (some (H25 (w64 ((l24.length : Int) - 1)).toNat)))), (9, (.map (some g40))), (11, (pt g53)), (16, (iv p2)), (17, (iv x26)), (26, (sv Aa p0 ca)), (27, (iv (p0.length : Int))), (28, (iv x44)), (32, (.map (some (H25 (w64 ((l24.length : Int) - 1)).toNat)))), (34, (.agg #[(iv (((rdD p0 x44 z_Row).North).e0)), (iv (((rdD p0 x44 z_Row).North).e1)), (iv (((rdD p0 x44 z_Row).North).e2)), (iv (((rdD p0 x44 z_Row).North).e3)), (iv (((rdD p0 x44 z_Row).North).e4)), (iv (((rdD p0 x44 z_Row).North).e5)), (iv (((rdD p0 x44 z_Row).North).e6)), (iv (((rdD p0 x44 z_Row).North).e7))]))] [.cell ⟨g53, 9, none⟩ (iv (((rdD p0 x44 z_Row).North).e0)), .cell ⟨g53, 10, none⟩ (iv (((rdD p0 x44 z_Row).North).e1)), .cell ⟨g53, 11, none⟩ (iv (((rdD p0 x44 z_Row).North).e2)), .cell ⟨g53, 12, none⟩ (iv (((rdD p0 x44 z_Row).North).e3)), .cell ⟨g53, 13, none⟩ (iv (((rdD p0 x44 z_Row).North).e4)), .cell ⟨g53, 14, none⟩ (iv (((rdD p0 x44 z_Row).North).e5)), .cell ⟨g53, 15, none⟩ (iv (((rdD p0 x44 z_Row).North).e6)), .cell ⟨g53, 16, none⟩ (iv (((rdD p0 x44 z_Row).North).e7))] (fun fb => by kernel_rfl) rfl ⟨hS57.cell 0 rfl 9 rfl, hS57.cell 0 rfl 10 rfl, hS57.cell 0 rfl 11 rfl, hS57.cell 0 rfl 12 rfl, hS57.cell 0 rfl 13 rfl, hS57.cell 0 rfl 14 rfl, hS57.cell 0 rfl 15 rfl, hS57.cell 0 rfl 16 rfl, trivial⟩ ?_
       refine WL.lookup (mapsO.at (hS57.own 2).1 h37.1 h37.2 hm39) ((rdD p0 x44 z_Row).North) (d := 35) (c := false) (t := 103) (kT := 97) (eT := 4) (z := false) (kE := (aggI ints_A8_Int)) (vE := vB) (l := m38) (bv (mget ((rdD p0 x44 z_Row).North) false m38)) (fun fb => by kernel_rfl) torus_back_key97 (by kernel_rfl) (fun _ => by kernel_rfl) rfl ?_
       refine ⟨trivial, ?_⟩
       refine WL.done rfl (WX.next ?_)
       obtain ⟨x58, hx59, hl50⟩ := bind_some hl50
       refine WC.cutN (T := (List (A8_Int × Bool))) (fun t => [(0, (sv Aa p0 ca)), (7, (sv A22 l24 c23)), (8, (.map (some (H25 (w64 ((l24.length : Int) - 1)).toNat)))), (9, (.map (some g40))), (16, (iv p2)), (17, (iv x26)), (26, (sv Aa p0 ca)), (27, (iv (p0.length : Int))), (28, (iv x44))]) (fun t w1 => St NoS w w1 [rowR encN_Row Aa ca (tag Ha p0), nestO subN_Row Ha p0] [rowO 103 (encMap A8_Int Bool) A22 c23 (tag H25 l24), mapsO (aggI ints_A8_Int) vB H25 l24, blk g40 (mapObj (aggI ints_A8_Int) vB t)] ∧ x58 = t) (fun Kx58 => ?_) ?_
       ·
        rcases br_some hx59 with ⟨h60, hx59⟩ | ⟨h60, hx59⟩
        ·refine WC.condT2 (fun fb => by kernel_rfl) h60 ?_
         refine WC.region ?_
         refine seg 3 [.v (iv (((rdD p0 x44 z_Row).South).e0)), .v (iv (((rdD p0 x44 z_Row).South).e1)), .v (iv (((rdD p0 x44 z_Row).South).e2)), .v (iv (((rdD p0 x44 z_Row).South).e3)), .v (iv (((rdD p0 x44 z_Row).South).e4)), .v (iv (((rdD p0 x44 z_Row).South).e5)), .v (iv (((rdD p0 x44 z_Row).South).e6)), .v (iv (((rdD p0 x44 z_Row).South).e7))] [0, 7, 8, 9, 16, 17, 26, 27, 28, 36, 38] [(0, (sv Aa p0 ca)), (7, (sv A22 l24 c23)), (8, (.map (some (H25 (w64 ((l24.length : Int) - 1)).toNat)))), (9, (.map (some g40))), (16, (iv p2)), (17, (iv x26)), (26, (sv Aa p0 ca)), (27, (iv (p0.length : Int))), (28, (iv x44)), (36, (.map (some g40))), (38, (.agg #[(iv (((rdD p0 x44 z_Row).South).e0)), (iv (((rdD p0 x44 z_Row).South).e1)), (iv (((rdD p0 x44 z_Row).South).e2)), (iv (((rdD p0 x44 z_Row).South).e3)), (iv (((rdD p0 x44 z_Row).South).e4)), (iv (((rdD p0 x44 z_Row).South).e5)), (iv (((rdD p0 x44 z_Row).South).e6)), (iv (((rdD p0 x44 z_Row).South).e7))]))] [.cell ⟨g53, 1, none⟩ (iv (((rdD p0 x44 z_Row).South).e0)), .cell ⟨g53, 2, none⟩ (iv (((rdD p0 x44 z_Row).South).e1)), .cell ⟨g53, 3, none⟩ (iv (((rdD p0 x44 z_Row).South).e2)), .cell ⟨g53, 4, none⟩ (iv (((rdD p0 x44 z_Row).South).e3)), .cell ⟨g53, 5, none⟩ (iv (((rdD p0 x44 z_Row).South).e4)), .cell ⟨g53, 6, none⟩ (iv (((rdD p0 x44 z_Row).South).e5)), .cell ⟨g53, 7, none⟩ (iv (((rdD p0 x44 z_Row).South).e6)), .cell ⟨g53, 8, none⟩ (iv (((rdD p0 x44 z_Row).South).e7))] (fun fb => by kernel_rfl) rfl ⟨hS57.cell 0 rfl 1 rfl, hS57.cell 0 rfl 2 rfl, hS57.cell 0 rfl 3 rfl, hS57.cell 0 rfl 4 rfl, hS57.cell 0 rfl 5 rfl, hS57.cell 0 rfl 6 rfl, hS57.cell 0 rfl 7 rfl, hS57.cell 0 rfl 8 rfl, trivial⟩ ?_
         refine WL.mapput hS57 3 (t := 103) (kT := 97) (eT := 4) (kE := (aggI ints_A8_Int)) (vE := vB) (l := l43) rfl ((rdD p0 x44 z_Row).South) true (fun fb => by kernel_rfl) torus_back_key97 (by kernel_rfl) [0, 1, 2] (by decide) (by decide) (fun w61 hS63 => ?_)
         refine ⟨trivial, ?_⟩
         refine WL.done rfl ?_
         injection hx59 with hx59
         exact WX.to Kx58 (mput ((rdD p0 x44 z_Row).South) true l43) [0, 7, 8, 9, 16, 17, 26, 27, 28] rfl ⟨(hS63.subR [0, 1]).sub [2, 3, 0] (by decide), hx59.symm⟩
        refine WC.condF2 (fun fb => by kernel_rfl) h60 ?_
        refine WC.skip ?_
        injection hx59 with hx59
        exact WX.to Kx58 l43 [0, 7, 8, 9, 16, 17, 26, 27, 28] rfl ⟨(hS57.subR [0, 1]).sub [1, 2, 3] (by decide), hx59.symm⟩
       rintro y68 w65 ⟨hS66, hq67⟩
       subst hq67
       refine WX.blockN (WX.next ?_)
       refine WC.region ?_
       refine sg 2 [] [0, 7, 8, 9, 16, 17, 26, 27, 28] [(0, (sv Aa p0 ca)), (7, (sv A22 l24 c23)), (8, (.map (some (H25 (w64 ((l24.length : Int) - 1)).toNat)))), (9, (.map (some g40))), (16, (iv p2)), (17, (iv x26)), (26, (sv Aa p0 ca)), (27, (iv (p0.length : Int))), (28, (iv (w64 (x44 + 1))))] (by kernel_rfl) ?_
       refine WL.done rfl ?_
       exact WX.again k47 (Nat.lt_succ_self _) (x58, w64 (x44 + 1)) [0, 7, 8, 9, 16, 17, 26, 27, 28] rfl ⟨(hS66.subR [0, 1]).sub [0, 1, 2] (by decide), hl50⟩
      refine WC.condF2 (fun fb => by kernel_rfl) h51 ?_
      refine WC.exit ?_
      injection hl50 with hl50
      exact WX.thenX (WX.thenX (WX.blockHere (WX.to Kx45 l43 [0, 7, 9, 16, 17] rfl ⟨(hS49.subR [0, 1]).sub [0, 1, 2] (by decide), hl50.symm⟩)))
    rintro y72 w69 ⟨hS70, hq71⟩
    subst hq71
    refine WX.next (WC.region ?_)
    refine sg 2 [] [0, 16, 17, 40, 41] [(0, (sv Aa p0 ca)), (16, (iv p2)), (17, (iv x26)), (40, (sv A22 l24 c23)), (41, (.map (some g40)))] (by kernel_rfl) ?_
    refine WL.new hS70 42 [] (fun g => (.slice (some ⟨g, 0, none⟩) 1 1)) (.cells #[(.map (some g40))] 103 (0, 0)) [] (fun fb g => by kernel_rfl) trivial (fun g73 w74 hS75 => ?_)
    refine ⟨trivial, ?_⟩
    have hS76 := hS21.go w74 [rowO 103 (encMap A8_Int Bool) (some ⟨g73, 0, none⟩) 1 (tag (fun _ => g40) [some x45]), rowO 103 (encMap A8_Int Bool) A22 c23 (tag H25 l24), mapsO (aggI ints_A8_Int) vB H25 l24, blk g40 (mapObj (aggI ints_A8_Int) vB x45)] (hS75.map1 0 _ (fun h => rowO.ofBlk h rfl (Nat.le_of_ble_eq_true (by kernel_rfl))) (fun _ h => by obtain ⟨_, h1, h2⟩ := h; injection h1 with h1; subst h1; exact h2) [1, 2, 3] (by decide) (by decide))
    have hS77 := hS76.go w74 [mapsO (aggI ints_A8_Int) vB (fun _ => g40) [some x45], rowO 103 (encMap A8_Int Bool) (some ⟨g73, 0, none⟩) 1 (tag (fun _ => g40) [some x45]), rowO 103 (encMap A8_Int Bool) A22 c23 (tag H25 l24), mapsO (aggI ints_A8_Int) vB H25 l24] (hS76.mapsOne 3 rfl [0, 1, 2] (by decide) (by decide))
    obtain ⟨h78, hl35⟩ := as_some hl35
    refine WL.appendN hS77 2 (d := 43) (tS := 100) (z := (.map none)) (bytes := 8) (c2 := 1) (hx := g40) (x := (some x45)) rfl (fun fb => by kernel_rfl) (rowO.rd (hS77.own 1).1) (by kernel_rfl) (by kernel_rfl) rfl (by decide) h78 (by decide) [0, 1, 3] (by decide) (by decide) (fun A79 c80 w81 hS82 => ?_)
    have hS83 := hS77.go w81 [mapsO (aggI ints_A8_Int) vB (updH H25 l24.length g40) (l24 ++ [some x45]), rowO 103 (encMap A8_Int Bool) A79 c80 (tag (updH H25 l24.length g40) (l24 ++ [some x45])), rowO 103 (encMap A8_Int Bool) (some ⟨g73, 0, none⟩) 1 (tag (fun _ => g40) [some x45])] (hS82.mapsPush 3 1 rfl rfl (by decide) [0, 2] (by decide) (by decide))
    refine ⟨trivial, ?_⟩
    refine sg 5 [] [0, 7, 16, 17] [(0, (sv Aa p0 ca)), (7, (sv A79 (l24 ++ [some x45]) c80)), (16, (iv p2)), (17, (iv x26))] (by kernel_rfl) ?_
    refine WL.done rfl ?_
    refine WX.blockN (WX.next ?_)
    refine WC.region ?_
    refine sg 2 [] [0, 7, 16, 17] [(0, (sv Aa p0 ca)), (7, (sv A79 (l24 ++ [some x45]) c80)), (16, (iv p2)), (17, (iv (w64 (x26 + 1))))] (by kernel_rfl) ?_
    refine WL.done rfl ?_
    exact WX.again k32 (Nat.lt_succ_self _) ((l24 ++ [some x45], w64 (x26 + 1)), A79, c80, (updH H25 l24.length g40)) [0, 7, 16, 17] rfl ⟨(hS83.subR [0, 1]).sub [1, 0] (by decide), hl35⟩
   refine WC.condF2 (fun fb => by kernel_rfl) h36 ?_
   refine WC.exit ?_
   injection hl35 with hl35
   exact WX.thenX (WX.thenX (WX.blockHere (WX.to Kx30 (l24, A22, c23, H25) [7] rfl ⟨(hS34.subR [0, 1]).sub [0, 1] (by decide), hl35.symm⟩)))
 rintro ⟨y87, A27, c28, H29⟩ w84 ⟨hS85, hq86⟩
 subst hq86
 refine WX.next (WC.seq (WC.region ?_))
 refine sg 2 [] [6] [(6, (sv A27 x30 c28))] (by kernel_rfl) ?_
 refine WL.done rfl (WX.next ?_)
 refine WC.ret ?_
 injection hf with hf
 subst hf
 exact WX.ret_ [] (sv A27 x30 c28) [] (fun fb => by kernel_rfl) trivial ⟨_, rfl, A27, c28, H29, rfl, (hS85.sub [0, 1] (by decide)).noR⟩
theorem torus_find_key97 : KeyK Try.prog 97 (aggI ints_A8_Int) := KeyK.array (n := 8) (by kernel_rfl) ints_A8_Int (fun _ => rfl) (fun x y h => by cases x; cases y; simp only [ints_A8_Int, List.cons.injEq, and_true] at h; obtain ⟨rfl, rfl, rfl, rfl, rfl, rfl, rfl, rfl⟩ := h; rfl)
theorem torus_find_calls (k : Nat) (p0 : List Tile) (p1 : Int) (p2 : Int) (Aa : Option Addr) (ca : Nat) (r : Pattern × Bool) (w : World) (hR0 : RO NoS w (rowR enc_Tile Aa ca p0)) (hf : torus_find k p0 p1 p2 = some r) :
  CallsR Try.prog 45 #[(sv Aa p0 ca), (iv p1), (iv p2)] w (fun v w' => ∃ (A1_ : Option Addr), ∃ (c1_ : Nat), v = (.tuple #[(.agg #[(iv r.1.Width), (iv r.1.Height), (sv A1_ r.1.Cells c1_)]), (bv r.2)]) ∧ St NoS w w' [] [rowO 3 encInt A1_ c1_ r.1.Cells]) := by
 have hS : St NoS w w [rowR enc_Tile Aa ca p0] [] := St.init (ro_cons hR0 (ro_nil _ _))
 refine enter 105 Try.func45 rfl Try.ntmps45 rfl ?_
 unfold torus_find at hf
 refine WC.seq (WC.region ?_)
 refine WL.new hS 6 [] (fun g => (pt g)) (.cells #[(iv 0), (iv 0), (.slice none 0 0)] 39 (0, 0)) [] (fun fb g => by kernel_rfl) trivial (fun g9 w10 hS11 => ?_)
 refine ⟨trivial, ?_⟩
 refine sg 2 [] [0, 1, 2, 6] [(0, (sv Aa p0 ca)), (1, (iv p1)), (2, (iv p2)), (6, (pt g9))] (by kernel_rfl) ?_
 refine WL.done rfl (WX.next ?_)
 refine WC.scope ?_
 refine WC.seq (WC.region ?_)
 refine sg 2 [] [1, 2, 6, 19, 20] [(1, (iv p1)), (2, (iv p2)), (6, (pt g9)), (19, (sv Aa p0 ca)), (20, (iv p1))] (by kernel_rfl) ?_
 obtain ⟨t12, ht13, hf⟩ := bind_some hf
 refine WL.call (some 21) 61 #[(sv Aa p0 ca), (iv p1)] (fun fb => by kernel_rfl) (torus_rings_calls _ p0 p1 Aa ca t12 _ (hS11.rd 0) ht13) (fun v w14 hR15 => ?_)
 obtain ⟨A17, c18, H19, rfl, hk_⟩ := hR15
 have hS16 := hS.go w14 [rowO 99 encN_Row A17 c18 (tag H19 t12), poolO [nestO subN_Row H19 t12], blk g9 (.cells #[(iv 0), (iv 0), (.slice none 0 0)] 39 (0, 0))] (hS11.call hk_ [] [0] (fun g hg => hg.elim) (by simp) (by decide))
 refine ⟨trivial, ?_⟩
 refine sg 4 [] [1, 2, 6, 8] [(1, (iv p1)), (2, (iv p2)), (6, (pt g9)), (8, (sv A17 t12 c18))] (by kernel_rfl) ?_
 refine WL.done rfl (WX.next (WC.seq (WC.region ?_)))
 refine WL.new hS16 22 [] (fun g => (.map (some g))) (mapObj (aggI ints_A8_Int) slV ([] : List (A8_Int × (HM × List (Option (List (A8_Int × Bool))))))) [] (fun fb g => by kernel_rfl) trivial (fun g20 w21 hS22 => ?_)
 have hS23 : St NoS w w21 [knestO (aggI ints_A8_Int) vB ([] : List (A8_Int × (HM × List (Option (List (A8_Int × Bool)))))) ([] : List (A8_Int × List (Option (List (A8_Int × Bool))))), rowR enc_Tile Aa ca p0] [blk g20 (mapObj (aggI ints_A8_Int) slV ([] : List (A8_Int × (HM × List (Option (List (A8_Int × Bool))))))), rowO 99 encN_Row A17 c18 (tag H19 t12), poolO [nestO subN_Row H19 t12], blk g9 (.cells #[(iv 0), (iv 0), (.slice none 0 0)] 39 (0, 0))] := hS22.addR _ (knestO_nil _ _ _ _)
 refine ⟨trivial, ?_⟩
 refine sg 2 [] [1, 2, 6, 8, 9] [(1, (iv p1)), (2, (iv p2)), (6, (pt g9)), (8, (sv A17 t12 c18)), (9, (.map (some g20)))] (by kernel_rfl) ?_
 refine WL.done rfl (WX.next (WC.seq (WC.region ?_)))
 refine sg 3 [] [2, 6, 8, 9, 25] [(2, (iv p2)), (6, (pt g9)), (8, (sv A17 t12 c18)), (9, (.map (some g20))), (25, (.agg #[(iv p1), (iv p2), (.slice none 0 0)]))] (by kernel_rfl) ?_
 refine WL.new hS23 10 [] (fun g => (pt g)) (.cells #[(iv 0), (iv 0), (.slice none 0 0)] 39 (0, 0)) [] (fun fb g => by kernel_rfl) trivial (fun g24 w25 hS26 => ?_)
 refine ⟨trivial, ?_⟩
 refine WL.store hS26 0 rfl [(0, (iv p1)), (1, (iv p2)), (2, (.slice none 0 0))] #[(iv p1), (iv p2), (.slice none 0 0)] (fun fb => by kernel_rfl) (by kernel_rfl) rfl [1, 2, 3, 4] (by decide) (by decide) (fun w27 hS28 => ?_)
 refine ⟨trivial, ?_⟩
 refine WL.done rfl (WX.next (WC.seq ?_))
 refine WC.label ?_
 refine WX.next (WC.seq (WC.seq (WC.region ?_)))
 refine sg 3 [] [2, 6, 8, 9, 10, 26, 27, 28] [(2, (iv p2)), (6, (pt g9)), (8, (sv A17 t12 c18)), (9, (.map (some g20))), (10, (pt g24)), (26, (sv A17 t12 c18)), (27, (iv (t12.length : Int))), (28, (iv 0))] (by kernel_rfl) ?_
 refine WL.done rfl (WX.next ?_)
 obtain ⟨x32, hx33, hf⟩ := bind_some hf
 refine WC.cutN (T := Unit) (fun t => [(6, (pt g9))]) (fun t w1 => St NoS w w1 [knestO (aggI ints_A8_Int) vB ([] : List (A8_Int × (HM × List (Option (List (A8_Int × Bool)))))) ([] : List (A8_Int × List (Option (List (A8_Int × Bool))))), rowR enc_Tile Aa ca p0] [blk g9 (.cells #[(iv 0), (iv 0), (.slice none 0 0)] 39 (0, 0))] ∧ x32 = .inr t) (fun Kx32 => ?_) ?_
 ·
  refine WC.block ?_
  refine WC.loop (T := ((List (A8_Int × List (Option (List (A8_Int × Bool))))) × Int) × (List (A8_Int × (HM × List (Option (List (A8_Int × Bool))))))) (fun t => [(2, (iv p2)), (6, (pt g9)), (8, (sv A17 t12 c18)), (9, (.map (some g20))), (10, (pt g24)), (26, (sv A17 t12 c18)), (27, (iv (t12.length : Int))), (28, (iv t.1.2))]) (fun n t w1 => St NoS w w1 [knestO (aggI ints_A8_Int) vB t.2 t.1.1, knestO (aggI ints_A8_Int) vB ([] : List (A8_Int × (HM × List (Option (List (A8_Int × Bool)))))) ([] : List (A8_Int × List (Option (List (A8_Int × Bool))))), rowR enc_Tile Aa ca p0] [blk g9 (.cells #[(iv 0), (iv 0), (.slice none 0 0)] 39 (0, 0)), rowO 99 encN_Row A17 c18 (tag H19 t12), poolO [nestO subN_Row H19 t12], blk g20 (mapObj (aggI ints_A8_Int) slV t.2), blk g24 (.cells #[(iv p1), (iv p2), (.slice none 0 0)] 39 (0, 0))] ∧ torus_find.l0 n t.1.1 t.1.2 p1 p2 t12 = some x32) k ((([] : List (A8_Int × List (Option (List (A8_Int × Bool))))), 0), ([] : List (A8_Int × (HM × List (Option (List (A8_Int × Bool))))))) [2, 6, 8, 9, 10, 26, 27, 28] rfl ⟨(hS28.subR [0, 0, 1]).sub [4, 2, 3, 1, 0] (by decide), hx33⟩ ?_
  rintro k34 ⟨⟨l29, x31⟩, K30⟩ w35 ⟨hS36, hl37⟩
  cases k34 with
  | zero => rw [torus_find.l0] at hl37; cases hl37
  | succ k34 =>
   rw [torus_find.l0] at hl37
   refine WC.seq (WC.region ?_)
   refine sg 1 [] [2, 6, 8, 9, 10, 26, 27, 28, 29] [(2, (iv p2)), (6, (pt g9)), (8, (sv A17 t12 c18)), (9, (.map (some g20))), (10, (pt g24)), (26, (sv A17 t12 c18)), (27, (iv (t12.length : Int))), (28, (iv x31)), (29, (bv (decide (x31 < (t12.length : Int)))))] (by kernel_rfl) ?_
   refine WL.done rfl (WX.next (WC.seq ?_))
   rcases br_some hl37 with ⟨h38, hl37⟩ | ⟨h38, hl37⟩
   ·refine WC.condT2 (fun fb => by kernel_rfl) h38 ?_
    refine WC.skip (WX.next (WC.seq (WC.block (WC.seq (WC.region ?_)))))
    obtain ⟨h39, hl37⟩ := as_some hl37
    refine seg 2 [.v (sv ((H19 x31.toNat 0).1) ((rdD t12 x31 z_Row).Cells) ((H19 x31.toNat 0).2)), .v (iv (((rdD t12 x31 z_Row).South).e0)), .v (iv (((rdD t12 x31 z_Row).South).e1)), .v (iv (((rdD t12 x31 z_Row).South).e2)), .v (iv (((rdD t12 x31 z_Row).South).e3)), .v (iv (((rdD t12 x31 z_Row).South).e4)), .v (iv (((rdD t12 x31 z_Row).South).e5)), .v (iv (((rdD t12 x31 z_Row).South).e6)), .v (iv (((rdD t12 x31 z_Row).South).e7)), .v (iv (((rdD t12 x31 z_Row).North).e0)), .v (iv (((rdD t12 x31 z_Row).North).e1)), .v (iv (((rdD t12 x31 z_Row).North).e2)), .v (iv (((rdD t12 x31 z_Row).North).e3)), .v (iv (((rdD t12 x31 z_Row).North).e4)), .v (iv (((rdD t12 x31 z_Row).North).e5)), .v (iv (((rdD t12 x31 z_Row).North).e6)), .v (iv (((rdD t12 x31 z_Row).North).e7)), .v (iv ((rdD t12 x31 z_Row).West)), .v (iv ((rdD t12 x31 z_Row).East))] [2, 6, 8, 9, 10, 26, 27, 28, 31] [(2, (iv p2)), (6, (pt g9)), (8, (sv A17 t12 c18)), (9, (.map (some g20))), (10, (pt g24)), (26, (sv A17 t12 c18)), (27, (iv (t12.length : Int))), (28, (iv x31)), (31, (.agg #[(sv ((H19 x31.toNat 0).1) ((rdD t12 x31 z_Row).Cells) ((H19 x31.toNat 0).2)), (iv (((rdD t12 x31 z_Row).South).e0)), (iv (((rdD t12 x31 z_Row).South).e1)), (iv (((rdD t12 x31 z_Row).South).e2)), (iv (((rdD t12 x31 z_Row).South).e3)), (iv (((rdD t12 x31 z_Row).South).e4)), (iv (((rdD t12 x31 z_Row).South).e5)), (iv (((rdD t12 x31 z_Row).South).e6)), (iv (((rdD t12 x31 z_Row).South).e7)), (iv (((rdD t12 x31 z_Row).North).e0)), (iv (((rdD t12 x31 z_Row).North).e1)), (iv (((rdD t12 x31 z_Row).North).e2)), (iv (((rdD t12 x31 z_Row).North).e3)), (iv (((rdD t12 x31 z_Row).North).e4)), (iv (((rdD t12 x31 z_Row).North).e5)), (iv (((rdD t12 x31 z_Row).North).e6)), (iv (((rdD t12 x31 z_Row).North).e7)), (iv ((rdD t12 x31 z_Row).West)), (iv ((rdD t12 x31 z_Row).East))]))] [.idx A17 x31 t12.length, .cell ((adr A17).add ((x31).toNat * 19)) (sv ((H19 x31.toNat 0).1) ((rdD t12 x31 z_Row).Cells) ((H19 x31.toNat 0).2)), .cell (((adr A17).add ((x31).toNat * 19)).add 1) (iv (((rdD t12 x31 z_Row).South).e0)), .cell (((adr A17).add ((x31).toNat * 19)).add 2) (iv (((rdD t12 x31 z_Row).South).e1)), .cell (((adr A17).add ((x31).toNat * 19)).add 3) (iv (((rdD t12 x31 z_Row).South).e2)), .cell (((adr A17).add ((x31).toNat * 19)).add 4) (iv (((rdD t12 x31 z_Row).South).e3)), .cell (((adr A17).add ((x31).toNat * 19)).add 5) (iv (((rdD t12 x31 z_Row).South).e4)), .cell (((adr A17).add ((x31).toNat * 19)).add 6) (iv (((rdD t12 x31 z_Row).South).e5)), .cell (((adr A17).add ((x31).toNat * 19)).add 7) (iv (((rdD t12 x31 z_Row).South).e6)), .cell (((adr A17).add ((x31).toNat * 19)).add 8) (iv (((rdD t12 x31 z_Row).South).e7)), .cell (((adr A17).add ((x31).toNat * 19)).add 9) (iv (((rdD t12 x31 z_Row).North).e0)), .cell (((adr A17).add ((x31).toNat * 19)).add 10) (iv (((rdD t12 x31 z_Row).North).e1)), .cell (((adr A17).add ((x31).toNat * 19)).add 11) (iv (((rdD t12 x31 z_Row).North).e2)), .cell (((adr A17).add ((x31).toNat * 19)).add 12) (iv (((rdD t12 x31 z_Row).North).e3)), .cell (((adr A17).add ((x31).toNat * 19)).add 13) (iv (((rdD t12 x31 z_Row).North).e4)), .cell (((adr A17).add ((x31).toNat * 19)).add 14) (iv (((rdD t12 x31 z_Row).North).e5)), .cell (((adr A17).add ((x31).toNat * 19)).add 15) (iv (((rdD t12 x31 z_Row).North).e6)), .cell (((adr A17).add ((x31).toNat * 19)).add 16) (iv (((rdD t12 x31 z_Row).North).e7)), .cell (((adr A17).add ((x31).toNat * 19)).add 17) (iv ((rdD t12 x31 z_Row).West)), .cell (((adr A17).add ((x31).toNat * 19)).add 18) (iv ((rdD t12 x31 z_Row).East))] (fun fb => by kernel_rfl) rfl ⟨nrow_adr (rowO.rd (hS36.own 1).1) h39.1 h39.2, nrow_cell (rowO.rd (hS36.own 1).1) z_Row h39.1 h39.2 0 rfl, nrow_cell (rowO.rd (hS36.own 1).1) z_Row h39.1 h39.2 1 rfl, nrow_cell (rowO.rd (hS36.own 1).1) z_Row h39.1 h39.2 2 rfl, nrow_cell (rowO.rd (hS36.own 1).1) z_Row h39.1 h39.2 3 rfl, nrow_cell (rowO.rd (hS36.own 1).1) z_Row h39.1 h39.2 4 rfl, nrow_cell (rowO.rd (hS36.own 1).1) z_Row h39.1 h39.2 5 rfl, nrow_cell (rowO.rd (hS36.own 1).1) z_Row h39.1 h39.2 6 rfl, nrow_cell (rowO.rd (hS36.own 1).1) z_Row h39.1 h39.2 7 rfl, nrow_cell (rowO.rd (hS36.own 1).1) z_Row h39.1 h39.2 8 rfl, nrow_cell (rowO.rd (hS36.own 1).1) z_Row h39.1 h39.2 9 rfl, nrow_cell (rowO.rd (hS36.own 1).1) z_Row h39.1 h39.2 10 rfl, nrow_cell (rowO.rd (hS36.own 1).1) z_Row h39.1 h39.2 11 rfl, nrow_cell (rowO.rd (hS36.own 1).1) z_Row h39.1 h39.2 12 rfl, nrow_cell (rowO.rd (hS36.own 1).1) z_Row h39.1 h39.2 13 rfl, nrow_cell (rowO.rd (hS36.own 1).1) z_Row h39.1 h39.2 14 rfl, nrow_cell (rowO.rd (hS36.own 1).1) z_Row h39.1 h39.2 15 rfl, nrow_cell (rowO.rd (hS36.own 1).1) z_Row h39.1 h39.2 16 rfl, nrow_cell (rowO.rd (hS36.own 1).1) z_Row h39.1 h39.2 17 rfl, nrow_cell (rowO.rd (hS36.own 1).1) z_Row h39.1 h39.2 18 rfl, trivial⟩ ?_
    refine WL.new hS36 12 [] (fun g => (pt g)) (.cells #[(.slice none 0 0), (iv 0), (iv 0), (iv 0), (iv 0), (iv 0), (iv 0), (iv 0), (iv 0), (iv 0), (iv 0), (iv 0), (iv 0), (iv 0), (iv 0), (iv 0), (iv 0), (iv 0), (iv 0)] 99 (0, 0)) [] (fun fb g => by kernel_rfl) trivial (fun g40 w41 hS42 => ?_)
    refine ⟨trivial, ?_⟩
    refine WL.store hS42 0 rfl [(0, (sv ((H19 x31.toNat 0).1) ((rdD t12 x31 z_Row).Cells) ((H19 x31.toNat 0).2))), (1, (iv (((rdD t12 x31 z_Row).South).e0))), (2, (iv (((rdD t12 x31 z_Row).South).e1))), (3, (iv (((rdD t12 x31 z_Row).South).e2))), (4, (iv (((rdD t12 x31 z_Row).South).e3))), (5, (iv (((rdD t12 x31 z_Row).South).e4))), (6, (iv (((rdD t12 x31 z_Row).South).e5))), (7, (iv (((rdD t12 x31 z_Row).South).e6))), (8, (iv (((rdD t12 x31 z_Row).South).e7))), (9, (iv (((rdD t12 x31 z_Row).North).e0))), (10, (iv (((rdD t12 x31 z_Row).North).e1))), (11, (iv (((rdD t12 x31 z_Row).North).e2))), (12, (iv (((rdD t12 x31 z_Row).North).e3))), (13, (iv (((rdD t12 x31 z_Row).North).e4))), (14, (iv (((rdD t12 x31 z_Row).North).e5))), (15, (iv (((rdD t12 x31 z_Row).North).e6))), (16, (iv (((rdD t12 x31 z_Row).North).e7))), (17, (iv ((rdD t12 x31 z_Row).West))), (18, (iv ((rdD t12 x31 z_Row).East)))] #[(sv ((H19 x31.toNat 0).1) ((rdD t12 x31 z_Row).Cells) ((H19 x31.toNat 0).2)), (iv (((rdD t12 x31 z_Row).South).e0)), (iv (((rdD t12 x31 z_Row).South).e1)), (iv (((rdD t12 x31 z_Row).South).e2)), (iv (((rdD t12 x31 z_Row).South).e3)), (iv (((rdD t12 x31 z_Row).South).e4)), (iv (((rdD t12 x31 z_Row).South).e5)), (iv (((rdD t12 x31 z_Row).South).e6)), (iv (((rdD t12 x31 z_Row).South).e7)), (iv (((rdD t12 x31 z_Row).North).e0)), (iv (((rdD t12 x31 z_Row).North).e1)), (iv (((rdD t12 x31 z_Row).North).e2)), (iv (((rdD t12 x31 z_Row).North).e3)), (iv (((rdD t12 x31 z_Row).North).e4)), (iv (((rdD t12 x31 z_Row).North).e5)), (iv (((rdD t12 x31 z_Row).North).e6)), (iv (((rdD t12 x31 z_Row).North).e7)), (iv ((rdD t12 x31 z_Row).West)), (iv ((rdD t12 x31 z_Row).East))] (fun fb => by kernel_rfl) (by kernel_rfl) (by kernel_rfl) [1, 2, 3, 4, 5] (by decide) (by decide) (fun w43 hS44 => ?_)
    refine ⟨trivial, ?_⟩
    refine WL.done rfl (WX.next (WC.seq (WC.region ?_)))
    refine seg 3 [.v (iv (((rdD t12 x31 z_Row).South).e0)), .v (iv (((rdD t12 x31 z_Row).South).e1)), .v (iv (((rdD t12 x31 z_Row).South).e2)), .v (iv (((rdD t12 x31 z_Row).South).e3)), .v (iv (((rdD t12 x31 z_Row).South).e4)), .v (iv (((rdD t12 x31 z_Row).South).e5)), .v (iv (((rdD t12 x31 z_Row).South).e6)), .v (iv (((rdD t12 x31 z_Row).South).e7))] [2, 6, 8, 9, 10, 12, 26, 27, 28, 33, 35] [(2, (iv p2)), (6, (pt g9)), (8, (sv A17 t12 c18)), (9, (.map (some g20))), (10, (pt g24)), (12, (pt g40)), (26, (sv A17 t12 c18)), (27, (iv (t12.length : Int))), (28, (iv x31)), (33, (.map (some g20))), (35, (.agg #[(iv (((rdD t12 x31 z_Row).South).e0)), (iv (((rdD t12 x31 z_Row).South).e1)), (iv (((rdD t12 x31 z_Row).South).e2)), (iv (((rdD t12 x31 z_Row).South).e3)), (iv (((rdD t12 x31 z_Row).South).e4)), (iv (((rdD t12 x31 z_Row).South).e5)), (iv (((rdD t12 x31 z_Row).South).e6)), (iv (((rdD t12 x31 z_Row).South).e7))]))] [.cell ⟨g40, 1, none⟩ (iv (((rdD t12 x31 z_Row).South).e0)), .cell ⟨g40, 2, none⟩ (iv (((rdD t12 x31 z_Row).South).e1)), .cell ⟨g40, 3, none⟩ (iv (((rdD t12 x31 z_Row).South).e2)), .cell ⟨g40, 4, none⟩ (iv (((rdD t12 x31 z_Row).South).e3)), .cell ⟨g40, 5, none⟩ (iv (((rdD t12 x31 z_Row).South).e4)), .cell ⟨g40, 6, none⟩ (iv (((rdD t12 x31 z_Row).South).e5)), .cell ⟨g40, 7, none⟩ (iv (((rdD t12 x31 z_Row).South).e6)), .cell ⟨g40, 8, none⟩ (iv (((rdD t12 x31 z_Row).South).e7))] (fun fb => by kernel_rfl) rfl ⟨hS44.cell 0 rfl 1 rfl, hS44.cell 0 rfl 2 rfl, hS44.cell 0 rfl 3 rfl, hS44.cell 0 rfl 4 rfl, hS44.cell 0 rfl 5 rfl, hS44.cell 0 rfl 6 rfl, hS44.cell 0 rfl 7 rfl, hS44.cell 0 rfl 8 rfl, trivial⟩ ?_
    refine WL.lookup (hS44.own 4).1 ((rdD t12 x31 z_Row).South) (d := 36) (c := true) (t := 95) (kT := 97) (eT := 100) (z := zHM) (kE := (aggI ints_A8_Int)) (vE := slV) (l := K30) (.tuple #[(.slice ((mget ((rdD t12 x31 z_Row).South) zHM K30).1.1) (mget ((rdD t12 x31 z_Row).South) [] l29).length ((mget ((rdD t12 x31 z_Row).South) zHM K30).1.2.1)), (.bool (mhas ((rdD t12 x31 z_Row).South) l29))]) (fun fb => by kernel_rfl) torus_find_key97 (by kernel_rfl) (fun _ => by kernel_rfl) (by rw [mhas_unK, (knestO.eq (hS44.rd 0))]; rw [slV_get _ _ (knestO.eq (hS44.rd 0))]; rfl) ?_
    refine ⟨trivial, ?_⟩
    have hS46 : St NoS w w43 [rowR (encMap A8_Int Bool) ((mget ((rdD t12 x31 z_Row).South) zHM K30).1.1) ((mget ((rdD t12 x31 z_Row).South) zHM K30).1.2.1) (tag ((mget ((rdD t12 x31 z_Row).South) zHM K30).1.2.2) (mget ((rdD t12 x31 z_Row).South) [] l29)), knestO (aggI ints_A8_Int) vB K30 l29, knestO (aggI ints_A8_Int) vB ([] : List (A8_Int × (HM × List (Option (List (A8_Int × Bool)))))) ([] : List (A8_Int × List (Option (List (A8_Int × Bool))))), rowR enc_Tile Aa ca p0] [blk g40 (.cells #[(sv ((H19 x31.toNat 0).1) ((rdD t12 x31 z_Row).Cells) ((H19 x31.toNat 0).2)), (iv (((rdD t12 x31 z_Row).South).e0)), (iv (((rdD t12 x31 z_Row).South).e1)), (iv (((rdD t12 x31 z_Row).South).e2)), (iv (((rdD t12 x31 z_Row).South).e3)), (iv (((rdD t12 x31 z_Row).South).e4)), (iv (((rdD t12 x31 z_Row).South).e5)), (iv (((rdD t12 x31 z_Row).South).e6)), (iv (((rdD t12 x31 z_Row).South).e7)), (iv (((rdD t12 x31 z_Row).North).e0)), (iv (((rdD t12 x31 z_Row).North).e1)), (iv (((rdD t12 x31 z_Row).North).e2)), (iv (((rdD t12 x31 z_Row).North).e3)), (iv (((rdD t12 x31 z_Row).North).e4)), (iv (((rdD t12 x31 z_Row).North).e5)), (iv (((rdD t12 x31 z_Row).North).e6)), (iv (((rdD t12 x31 z_Row).North).e7)), (iv ((rdD t12 x31 z_Row).West)), (iv ((rdD t12 x31 z_Row).East))] 99 (0, 0)), blk g9 (.cells #[(iv 0), (iv 0), (.slice none 0 0)] 39 (0, 0)), rowO 99 encN_Row A17 c18 (tag H19 t12), poolO [nestO subN_Row H19 t12], blk g20 (mapObj (aggI ints_A8_Int) slV K30), blk g24 (.cells #[(iv p1), (iv p2), (.slice none 0 0)] 39 (0, 0))] := hS44.addR _ (knestO.row (hS44.rdL 0) ((rdD t12 x31 z_Row).South))
    have hS47 : St NoS w w43 [mapsO (aggI ints_A8_Int) vB ((mget ((rdD t12 x31 z_Row).South) zHM K30).1.2.2) (mget ((rdD t12 x31 z_Row).South) [] l29), rowR (encMap A8_Int Bool) ((mget ((rdD t12 x31 z_Row).South) zHM K30).1.1) ((mget ((rdD t12 x31 z_Row).South) zHM K30).1.2.1) (tag ((mget ((rdD t12 x31 z_Row).South) zHM K30).1.2.2) (mget ((rdD t12 x31 z_Row).South) [] l29)), knestO (aggI ints_A8_Int) vB K30 l29, knestO (aggI ints_A8_Int) vB ([] : List (A8_Int × (HM × List (Option (List (A8_Int × Bool)))))) ([] : List (A8_Int × List (Option (List (A8_Int × Bool))))), rowR enc_Tile Aa ca p0] [blk g40 (.cells #[(sv ((H19 x31.toNat 0).1) ((rdD t12 x31 z_Row).Cells) ((H19 x31.toNat 0).2)), (iv (((rdD t12 x31 z_Row).South).e0)), (iv (((rdD t12 x31 z_Row).South).e1)), (iv (((rdD t12 x31 z_Row).South).e2)), (iv (((rdD t12 x31 z_Row).South).e3)), (iv (((rdD t12 x31 z_Row).South).e4)), (iv (((rdD t12 x31 z_Row).South).e5)), (iv (((rdD t12 x31 z_Row).South).e6)), (iv (((rdD t12 x31 z_Row).South).e7)), (iv (((rdD t12 x31 z_Row).North).e0)), (iv (((rdD t12 x31 z_Row).North).e1)), (iv (((rdD t12 x31 z_Row).North).e2)), (iv (((rdD t12 x31 z_Row).North).e3)), (iv (((rdD t12 x31 z_Row).North).e4)), (iv (((rdD t12 x31 z_Row).North).e5)), (iv (((rdD t12 x31 z_Row).North).e6)), (iv (((rdD t12 x31 z_Row).North).e7)), (iv ((rdD t12 x31 z_Row).West)), (iv ((rdD t12 x31 z_Row).East))] 99 (0, 0)), blk g9 (.cells #[(iv 0), (iv 0), (.slice none 0 0)] 39 (0, 0)), rowO 99 encN_Row A17 c18 (tag H19 t12), poolO [nestO subN_Row H19 t12], blk g20 (mapObj (aggI ints_A8_Int) slV K30), blk g24 (.cells #[(iv p1), (iv p2), (.slice none 0 0)] 39 (0, 0))] := hS46.addR _ (knestO.maps (hS46.rdL 1) ((rdD t12 x31 z_Row).South))
    refine sg 9 [] [2, 6, 8, 9, 10, 12, 13, 14, 26, 27, 28] [(2, (iv p2)), (6, (pt g9)), (8, (sv A17 t12 c18)), (9, (.map (some g20))), (10, (pt g24)), (12, (pt g40)), (13, (sv ((mget ((rdD t12 x31 z_Row).South) zHM K30).1.1) (mget ((rdD t12 x31 z_Row).South) [] l29) ((mget ((rdD t12 x31 z_Row).South) zHM K30).1.2.1))), (14, (bv (mhas ((rdD t12 x31 z_Row).South) l29))), (26, (sv A17 t12 c18)), (27, (iv (t12.length : Int))), (28, (iv x31))] (by kernel_rfl) ?_
    refine WL.done rfl (WX.next (WC.seq (WC.seq (WC.region ?_))))
    refine sg 2 [] [2, 6, 8, 9, 10, 12, 13, 26, 27, 28, 40] [(2, (iv p2)), (6, (pt g9)), (8, (sv A17 t12 c18)), (9, (.map (some g20))), (10, (pt g24)), (12, (pt g40)), (13, (sv ((mget ((rdD t12 x31 z_Row).South) zHM K30).1.1) (mget ((rdD t12 x31 z_Row).South) [] l29) ((mget ((rdD t12 x31 z_Row).South) zHM K30).1.2.1))), (26, (sv A17 t12 c18)), (27, (iv (t12.length : Int))), (28, (iv x31)), (40, (bv (!(mhas ((rdD t12 x31 z_Row).South) l29))))] (by kernel_rfl) ?_
    refine WL.done rfl (WX.next ?_)
    obtain ⟨x52, hx53, hl37⟩ := bind_some hl37
    refine WC.cutN (T := ((List (A8_Int × List (Option (List (A8_Int × Bool))))) × (List (Option (List (A8_Int × Bool))))) × (List (A8_Int × (HM × List (Option (List (A8_Int × Bool)))))) × (Option Addr) × Nat × (Nat → Nat)) (fun t => [(2, (iv p2)), (6, (pt g9)), (8, (sv A17 t12 c18)), (9, (.map (some g20))), (10, (pt g24)), (12, (pt g40)), (13, (sv t.2.2.1 t.1.2 t.2.2.2.1)), (26, (sv A17 t12 c18)), (27, (iv (t12.length : Int))), (28, (iv x31))]) (fun t w1 => St NoS w w1 [knestO (aggI ints_A8_Int) vB t.2.1 t.1.1, rowR (encMap A8_Int Bool) t.2.2.1 t.2.2.2.1 (tag t.2.2.2.2 t.1.2), mapsO (aggI ints_A8_Int) vB t.2.2.2.2 t.1.2, mapsO (aggI ints_A8_Int) vB ((mget ((rdD t12 x31 z_Row).South) zHM K30).1.2.2) (mget ((rdD t12 x31 z_Row).South) [] l29), rowR (encMap A8_Int Bool) ((mget ((rdD t12 x31 z_Row).South) zHM K30).1.1) ((mget ((rdD t12 x31 z_Row).South) zHM K30).1.2.1) (tag ((mget ((rdD t12 x31 z_Row).South) zHM K30).1.2.2) (mget ((rdD t12 x31 z_Row).South) [] l29)), knestO (aggI ints_A8_Int) vB K30 l29, knestO (aggI ints_A8_Int) vB ([] : List (A8_Int × (HM × List (Option (List (A8_Int × Bool)))))) ([] : List (A8_Int × List (Option (List (A8_Int × Bool))))), rowR enc_Tile Aa ca p0] [blk g9 (.cells #[(iv 0), (iv 0), (.slice none 0 0)] 39 (0, 0)), rowO 99 encN_Row A17 c18 (tag H19 t12), poolO [nestO subN_Row H19 t12], blk g20 (mapObj (aggI ints_A8_Int) slV t.2.1), blk g24 (.cells #[(iv p1), (iv p2), (.slice none 0 0)] 39 (0, 0)), blk g40 (.cells #[(sv ((H19 x31.toNat 0).1) ((rdD t12 x31 z_Row).Cells) ((H19 x31.toNat 0).2)), (iv (((rdD t12 x31 z_Row).South).e0)), (iv (((rdD t12 x31 z_Row).South).e1)), (iv (((rdD t12 x31 z_Row).South).e2)), (iv (((rdD t12 x31 z_Row).South).e3)), (iv (((rdD t12 x31 z_Row).South).e4)), (iv (((rdD t12 x31 z_Row).South).e5)), (iv (((rdD t12 x31 z_Row).South).e6)), (iv (((rdD t12 x31 z_Row).South).e7)), (iv (((rdD t12 x31 z_Row).North).e0)), (iv (((rdD t12 x31 z_Row).North).e1)), (iv (((rdD t12 x31 z_Row).North).e2)), (iv (((rdD t12 x31 z_Row).North).e3)), (iv (((rdD t12 x31 z_Row).North).e4)), (iv (((rdD t12 x31 z_Row).North).e5)), (iv (((rdD t12 x31 z_Row).North).e6)), (iv (((rdD t12 x31 z_Row).North).e7)), (iv ((rdD t12 x31 z_Row).West)), (iv ((rdD t12 x31 z_Row).East))] 99 (0, 0))] ∧ x52 = t.1) (fun Kx52 => ?_) ?_
    ·
     rcases br_some hx53 with ⟨h54, hx53⟩ | ⟨h54, hx53⟩
     ·refine WC.condT2 (fun fb => by kernel_rfl) h54 ?_
      refine WC.seq (WC.region ?_)
      refine seg 5 [.v (iv (((rdD t12 x31 z_Row).South).e0)), .v (iv (((rdD t12 x31 z_Row).South).e1)), .v (iv (((rdD t12 x31 z_Row).South).e2)), .v (iv (((rdD t12 x31 z_Row).South).e3)), .v (iv (((rdD t12 x31 z_Row).South).e4)), .v (iv (((rdD t12 x31 z_Row).South).e5)), .v (iv (((rdD t12 x31 z_Row).South).e6)), .v (iv (((rdD t12 x31 z_Row).South).e7))] [2, 6, 8, 9, 10, 12, 26, 27, 28, 41, 43, 45] [(2, (iv p2)), (6, (pt g9)), (8, (sv A17 t12 c18)), (9, (.map (some g20))), (10, (pt g24)), (12, (pt g40)), (26, (sv A17 t12 c18)), (27, (iv (t12.length : Int))), (28, (iv x31)), (41, (sv A17 t12 c18)), (43, (.agg #[(iv (((rdD t12 x31 z_Row).South).e0)), (iv (((rdD t12 x31 z_Row).South).e1)), (iv (((rdD t12 x31 z_Row).South).e2)), (iv (((rdD t12 x31 z_Row).South).e3)), (iv (((rdD t12 x31 z_Row).South).e4)), (iv (((rdD t12 x31 z_Row).South).e5)), (iv (((rdD t12 x31 z_Row).South).e6)), (iv (((rdD t12 x31 z_Row).South).e7))])), (45, (iv (w64 (p2 - 1))))] [.cell ⟨g40, 1, none⟩ (iv (((rdD t12 x31 z_Row).South).e0)), .cell ⟨g40, 2, none⟩ (iv (((rdD t12 x31 z_Row).South).e1)), .cell ⟨g40, 3, none⟩ (iv (((rdD t12 x31 z_Row).South).e2)), .cell ⟨g40, 4, none⟩ (iv (((rdD t12 x31 z_Row).South).e3)), .cell ⟨g40, 5, none⟩ (iv (((rdD t12 x31 z_Row).South).e4)), .cell ⟨g40, 6, none⟩ (iv (((rdD t12 x31 z_Row).South).e5)), .cell ⟨g40, 7, none⟩ (iv (((rdD t12 x31 z_Row).South).e6)), .cell ⟨g40, 8, none⟩ (iv (((rdD t12 x31 z_Row).South).e7))] (fun fb => by kernel_rfl) rfl ⟨hS47.cell 0 rfl 1 rfl, hS47.cell 0 rfl 2 rfl, hS47.cell 0 rfl 3 rfl, hS47.cell 0 rfl 4 rfl, hS47.cell 0 rfl 5 rfl, hS47.cell 0 rfl 6 rfl, hS47.cell 0 rfl 7 rfl, hS47.cell 0 rfl 8 rfl, trivial⟩ ?_
      obtain ⟨t55, ht56, hx53⟩ := bind_some hx53
      refine WL.call (some 46) 62 #[(sv A17 t12 c18), (.agg #[(iv (((rdD t12 x31 z_Row).South).e0)), (iv (((rdD t12 x31 z_Row).South).e1)), (iv (((rdD t12 x31 z_Row).South).e2)), (iv (((rdD t12 x31 z_Row).South).e3)), (iv (((rdD t12 x31 z_Row).South).e4)), (iv (((rdD t12 x31 z_Row).South).e5)), (iv (((rdD t12 x31 z_Row).South).e6)), (iv (((rdD t12 x31 z_Row).South).e7))]), (iv (w64 (p2 - 1)))] (fun fb => by kernel_rfl) (torus_back_calls _ t12 ((rdD t12 x31 z_Row).South) (w64 (p2 - 1)) A17 c18 H19 t55 _ (hS47.ow 2).ofO (poolO.ro (hS47.ow 3) 0) ht56) (fun v w57 hR58 => ?_)
      obtain ⟨A60, c61, H62, rfl, hk_⟩ := hR58
      have hS59 := hS47.go w57 [rowO 103 (encMap A8_Int Bool) A60 c61 (tag H62 t55), mapsO (aggI ints_A8_Int) vB H62 t55, blk g40 (.cells #[(.slice ((H19 x31.toNat 0).1) ((rdD t12 x31 z_Row).Cells).length ((H19 x31.toNat 0).2)), (iv (((rdD t12 x31 z_Row).South).e0)), (iv (((rdD t12 x31 z_Row).South).e1)), (iv (((rdD t12 x31 z_Row).South).e2)), (iv (((rdD t12 x31 z_Row).South).e3)), (iv (((rdD t12 x31 z_Row).South).e4)), (iv (((rdD t12 x31 z_Row).South).e5)), (iv (((rdD t12 x31 z_Row).South).e6)), (iv (((rdD t12 x31 z_Row).South).e7)), (iv (((rdD t12 x31 z_Row).North).e0)), (iv (((rdD t12 x31 z_Row).North).e1)), (iv (((rdD t12 x31 z_Row).North).e2)), (iv (((rdD t12 x31 z_Row).North).e3)), (iv (((rdD t12 x31 z_Row).North).e4)), (iv (((rdD t12 x31 z_Row).North).e5)), (iv (((rdD t12 x31 z_Row).North).e6)), (iv (((rdD t12 x31 z_Row).North).e7)), (iv ((rdD t12 x31 z_Row).West)), (iv ((rdD t12 x31 z_Row).East))] 99 (0, 0)), blk g9 (.cells #[(iv 0), (iv 0), (.slice none 0 0)] 39 (0, 0)), rowO 99 encN_Row A17 c18 (tag H19 t12), poolO [nestO subN_Row H19 t12], blk g20 (mapObj (aggI ints_A8_Int) slV K30), blk g24 (.cells #[(iv p1), (iv p2), (.slice none 0 0)] 39 (0, 0))] (hS47.call hk_ [] [0, 1, 2, 3, 4, 5] (fun g hg => hg.elim) (by simp) (by decide))
      refine ⟨trivial, ?_⟩
      refine sg 7 [] [2, 6, 8, 9, 10, 12, 13, 26, 27, 28] [(2, (iv p2)), (6, (pt g9)), (8, (sv A17 t12 c18)), (9, (.map (some g20))), (10, (pt g24)), (12, (pt g40)), (13, (sv A60 t55 c61)), (26, (sv A17 t12 c18)), (27, (iv (t12.length : Int))), (28, (iv x31))] (by kernel_rfl) ?_
      refine WL.done rfl (WX.next (WC.region ?_))
      refine seg 4 [.v (iv (((rdD t12 x31 z_Row).South).e0)), .v (iv (((rdD t12 x31 z_Row).South).e1)), .v (iv (((rdD t12 x31 z_Row).South).e2)), .v (iv (((rdD t12 x31 z_Row).South).e3)), .v (iv (((rdD t12 x31 z_Row).South).e4)), .v (iv (((rdD t12 x31 z_Row).South).e5)), .v (iv (((rdD t12 x31 z_Row).South).e6)), .v (iv (((rdD t12 x31 z_Row).South).e7))] [2, 6, 8, 9, 10, 12, 13, 26, 27, 28, 47, 49, 50] [(2, (iv p2)), (6, (pt g9)), (8, (sv A17 t12 c18)), (9, (.map (some g20))), (10, (pt g24)), (12, (pt g40)), (13, (sv A60 t55 c61)), (26, (sv A17 t12 c18)), (27, (iv (t12.length : Int))), (28, (iv x31)), (47, (.map (some g20))), (49, (.agg #[(iv (((rdD t12 x31 z_Row).South).e0)), (iv (((rdD t12 x31 z_Row).South).e1)), (iv (((rdD t12 x31 z_Row).South).e2)), (iv (((rdD t12 x31 z_Row).South).e3)), (iv (((rdD t12 x31 z_Row).South).e4)), (iv (((rdD t12 x31 z_Row).South).e5)), (iv (((rdD t12 x31 z_Row).South).e6)), (iv (((rdD t12 x31 z_Row).South).e7))])), (50, (sv A60 t55 c61))] [.cell ⟨g40, 1, none⟩ (iv (((rdD t12 x31 z_Row).South).e0)), .cell ⟨g40, 2, none⟩ (iv (((rdD t12 x31 z_Row).South).e1)), .cell ⟨g40, 3, none⟩ (iv (((rdD t12 x31 z_Row).South).e2)), .cell ⟨g40, 4, none⟩ (iv (((rdD t12 x31 z_Row).South).e3)), .cell ⟨g40, 5, none⟩ (iv (((rdD t12 x31 z_Row).South).e4)), .cell ⟨g40, 6, none⟩ (iv (((rdD t12 x31 z_Row).South).e5)), .cell ⟨g40, 7, none⟩ (iv (((rdD t12 x31 z_Row).South).e6)), .cell ⟨g40, 8, none⟩ (iv (((rdD t12 x31 z_Row).South).e7))] (fun fb => by kernel_rfl) rfl ⟨hS59.cell 2 rfl 1 rfl, hS59.cell 2 rfl 2 rfl, hS59.cell 2 rfl 3 rfl, hS59.cell 2 rfl 4 rfl, hS59.cell 2 rfl 5 rfl, hS59.cell 2 rfl 6 rfl, hS59.cell 2 rfl 7 rfl, hS59.cell 2 rfl 8 rfl, trivial⟩ ?_
      have hS63 : St NoS w w57 [mapsO (aggI ints_A8_Int) vB H62 t55, mapsO (aggI ints_A8_Int) vB ((mget ((rdD t12 x31 z_Row).South) zHM K30).1.2.2) (mget ((rdD t12 x31 z_Row).South) [] l29), rowR (encMap A8_Int Bool) ((mget ((rdD t12 x31 z_Row).South) zHM K30).1.1) ((mget ((rdD t12 x31 z_Row).South) zHM K30).1.2.1) (tag ((mget ((rdD t12 x31 z_Row).South) zHM K30).1.2.2) (mget ((rdD t12 x31 z_Row).South) [] l29)), knestO (aggI ints_A8_Int) vB K30 l29, knestO (aggI ints_A8_Int) vB ([] : List (A8_Int × (HM × List (Option (List (A8_Int × Bool)))))) ([] : List (A8_Int × List (Option (List (A8_Int × Bool))))), rowR enc_Tile Aa ca p0] [rowO 103 (encMap A8_Int Bool) A60 c61 (tag H62 t55), blk g40 (.cells #[(sv ((H19 x31.toNat 0).1) ((rdD t12 x31 z_Row).Cells) ((H19 x31.toNat 0).2)), (iv (((rdD t12 x31 z_Row).South).e0)), (iv (((rdD t12 x31 z_Row).South).e1)), (iv (((rdD t12 x31 z_Row).South).e2)), (iv (((rdD t12 x31 z_Row).South).e3)), (iv (((rdD t12 x31 z_Row).South).e4)), (iv (((rdD t12 x31 z_Row).South).e5)), (iv (((rdD t12 x31 z_Row).South).e6)), (iv (((rdD t12 x31 z_Row).South).e7)), (iv (((rdD t12 x31 z_Row).North).e0)), (iv (((rdD t12 x31 z_Row).North).e1)), (iv (((rdD t12 x31 z_Row).North).e2)), (iv (((rdD t12 x31 z_Row).North).e3)), (iv (((rdD t12 x31 z_Row).North).e4)), (iv (((rdD t12 x31 z_Row).North).e5)), (iv (((rdD t12 x31 z_Row).North).e6)), (iv (((rdD t12 x31 z_Row).North).e7)), (iv ((rdD t12 x31 z_Row).West)), (iv ((rdD t12 x31 z_Row).East))] 99 (0, 0)), blk g9 (.cells #[(iv 0), (iv 0), (.slice none 0 0)] 39 (0, 0)), rowO 99 encN_Row A17 c18 (tag H19 t12), poolO [nestO subN_Row H19 t12], blk g20 (mapObj (aggI ints_A8_Int) slV K30), blk g24 (.cells #[(iv p1), (iv p2), (.slice none 0 0)] 39 (0, 0))] := hS59.freezeO 1 [0, 2, 3, 4, 5, 6, 7] (by decide) (by decide)
      have hS65 : St NoS w w57 [rowR (encMap A8_Int Bool) A60 c61 (tag H62 t55), mapsO (aggI ints_A8_Int) vB H62 t55, mapsO (aggI ints_A8_Int) vB ((mget ((rdD t12 x31 z_Row).South) zHM K30).1.2.2) (mget ((rdD t12 x31 z_Row).South) [] l29), rowR (encMap A8_Int Bool) ((mget ((rdD t12 x31 z_Row).South) zHM K30).1.1) ((mget ((rdD t12 x31 z_Row).South) zHM K30).1.2.1) (tag ((mget ((rdD t12 x31 z_Row).South) zHM K30).1.2.2) (mget ((rdD t12 x31 z_Row).South) [] l29)), knestO (aggI ints_A8_Int) vB K30 l29, knestO (aggI ints_A8_Int) vB ([] : List (A8_Int × (HM × List (Option (List (A8_Int × Bool)))))) ([] : List (A8_Int × List (Option (List (A8_Int × Bool))))), rowR enc_Tile Aa ca p0] [blk g40 (.cells #[(sv ((H19 x31.toNat 0).1) ((rdD t12 x31 z_Row).Cells) ((H19 x31.toNat 0).2)), (iv (((rdD t12 x31 z_Row).South).e0)), (iv (((rdD t12 x31 z_Row).South).e1)), (iv (((rdD t12 x31 z_Row).South).e2)), (iv (((rdD t12 x31 z_Row).South).e3)), (iv (((rdD t12 x31 z_Row).South).e4)), (iv (((rdD t12 x31 z_Row).South).e5)), (iv (((rdD t12 x31 z_Row).South).e6)), (iv (((rdD t12 x31 z_Row).South).e7)), (iv (((rdD t12 x31 z_Row).North).e0)), (iv (((rdD t12 x31 z_Row).North).e1)), (iv (((rdD t12 x31 z_Row).North).e2)), (iv (((rdD t12 x31 z_Row).North).e3)), (iv (((rdD t12 x31 z_Row).North).e4)), (iv (((rdD t12 x31 z_Row).North).e5)), (iv (((rdD t12 x31 z_Row).North).e6)), (iv (((rdD t12 x31 z_Row).North).e7)), (iv ((rdD t12 x31 z_Row).West)), (iv ((rdD t12 x31 z_Row).East))] 99 (0, 0)), blk g9 (.cells #[(iv 0), (iv 0), (.slice none 0 0)] 39 (0, 0)), rowO 99 encN_Row A17 c18 (tag H19 t12), poolO [nestO subN_Row H19 t12], blk g20 (mapObj (aggI ints_A8_Int) slV K30), blk g24 (.cells #[(iv p1), (iv p2), (.slice none 0 0)] 39 (0, 0))] := hS63.freezeRow 0 rfl [1, 2, 3, 4, 5, 6] (by decide) (by decide)
      refine WL.mapput hS65 4 (t := 95) (kT := 97) (eT := 100) (kE := (aggI ints_A8_Int)) (vE := slV) (l := K30) rfl ((rdD t12 x31 z_Row).South) ((A60, c61, H62), t55) (fun fb => by kernel_rfl) torus_find_key97 (by kernel_rfl) [0, 1, 2, 3, 5] (by decide) (by decide) (fun w66 hS67 => ?_)
      have hS68 : St NoS w w66 [knestO (aggI ints_A8_Int) vB (mput ((rdD t12 x31 z_Row).South) ((A60, c61, H62), t55) K30) (mput ((rdD t12 x31 z_Row).South) t55 l29), rowR (encMap A8_Int Bool) A60 c61 (tag H62 t55), mapsO (aggI ints_A8_Int) vB H62 t55, mapsO (aggI ints_A8_Int) vB ((mget ((rdD t12 x31 z_Row).South) zHM K30).1.2.2) (mget ((rdD t12 x31 z_Row).South) [] l29), rowR (encMap A8_Int Bool) ((mget ((rdD t12 x31 z_Row).South) zHM K30).1.1) ((mget ((rdD t12 x31 z_Row).South) zHM K30).1.2.1) (tag ((mget ((rdD t12 x31 z_Row).South) zHM K30).1.2.2) (mget ((rdD t12 x31 z_Row).South) [] l29)), knestO (aggI ints_A8_Int) vB K30 l29, knestO (aggI ints_A8_Int) vB ([] : List (A8_Int × (HM × List (Option (List (A8_Int × Bool)))))) ([] : List (A8_Int × List (Option (List (A8_Int × Bool))))), rowR enc_Tile Aa ca p0] [blk g20 (mapObj (aggI ints_A8_Int) slV (mput ((rdD t12 x31 z_Row).South) ((A60, c61, H62), t55) K30)), blk g40 (.cells #[(sv ((H19 x31.toNat 0).1) ((rdD t12 x31 z_Row).Cells) ((H19 x31.toNat 0).2)), (iv (((rdD t12 x31 z_Row).South).e0)), (iv (((rdD t12 x31 z_Row).South).e1)), (iv (((rdD t12 x31 z_Row).South).e2)), (iv (((rdD t12 x31 z_Row).South).e3)), (iv (((rdD t12 x31 z_Row).South).e4)), (iv (((rdD t12 x31 z_Row).South).e5)), (iv (((rdD t12 x31 z_Row).South).e6)), (iv (((rdD t12 x31 z_Row).South).e7)), (iv (((rdD t12 x31 z_Row).North).e0)), (iv (((rdD t12 x31 z_Row).North).e1)), (iv (((rdD t12 x31 z_Row).North).e2)), (iv (((rdD t12 x31 z_Row).North).e3)), (iv (((rdD t12 x31 z_Row).North).e4)), (iv (((rdD t12 x31 z_Row).North).e5)), (iv (((rdD t12 x31 z_Row).North).e6)), (iv (((rdD t12 x31 z_Row).North).e7)), (iv ((rdD t12 x31 z_Row).West)), (iv ((rdD t12 x31 z_Row).East))] 99 (0, 0)), blk g9 (.cells #[(iv 0), (iv 0), (.slice none 0 0)] 39 (0, 0)), rowO 99 encN_Row A17 c18 (tag H19 t12), poolO [nestO subN_Row H19 t12], blk g24 (.cells #[(iv p1), (iv p2), (.slice none 0 0)] 39 (0, 0))] := hS67.addR _ (knestO.put (hS67.rdL 4) ((rdD t12 x31 z_Row).South) (hS67.rdL 0) (hS67.rdL 1))
      refine ⟨trivial, ?_⟩
      refine WL.done rfl ?_
      injection hx53 with hx53
      exact WX.to Kx52 ((mput ((rdD t12 x31 z_Row).South) t55 l29, t55), mput ((rdD t12 x31 z_Row).South) ((A60, c61, H62), t55) K30, A60, c61, H62) [2, 6, 8, 9, 10, 12, 13, 26, 27, 28] rfl ⟨(hS68.subR [0, 1, 2, 3, 4, 5, 6, 7]).sub [2, 3, 4, 0, 5, 1] (by decide), hx53.symm⟩
     refine WC.condF2 (fun fb => by kernel_rfl) h54 ?_
     refine WC.skip ?_
     injection hx53 with hx53
     exact WX.to Kx52 ((l29, (mget ((rdD t12 x31 z_Row).South) [] l29)), K30, (mget ((rdD t12 x31 z_Row).South) zHM K30).1.1, (mget ((rdD t12 x31 z_Row).South) zHM K30).1.2.1, ((mget ((rdD t12 x31 z_Row).South) zHM K30).1.2.2)) [2, 6, 8, 9, 10, 12, 13, 26, 27, 28] rfl ⟨(hS47.subR [2, 1, 0, 0, 1, 2, 3, 4]).sub [1, 2, 3, 4, 5, 0] (by decide), hx53.symm⟩
    rintro ⟨y72, K48, A49, c50, H51⟩ w69 ⟨hS70, hq71⟩
    subst hq71
    refine WX.next (WC.seq (WC.seq ?_))
    obtain ⟨h75, hl37⟩ := as_some hl37
    obtain ⟨m76, hm77, hl37⟩ := bind_some hl37
    refine WC.regionD ([(4, ((adr A49).add ((w64 (p2 - 1)).toNat * 1)), (.map (some (H51 (w64 (p2 - 1)).toNat)))), (6, ⟨g40, 9, none⟩, (iv (((rdD t12 x31 z_Row).North).e0))), (6, ⟨g40, 10, none⟩, (iv (((rdD t12 x31 z_Row).North).e1))), (6, ⟨g40, 11, none⟩, (iv (((rdD t12 x31 z_Row).North).e2))), (6, ⟨g40, 12, none⟩, (iv (((rdD t12 x31 z_Row).North).e3))), (6, ⟨g40, 13, none⟩, (iv (((rdD t12 x31 z_Row).North).e4))), (6, ⟨g40, 14, none⟩, (iv (((rdD t12 x31 z_Row).North).e5))), (6, ⟨g40, 15, none⟩, (iv (((rdD t12 x31 z_Row).North).e6))), (6, ⟨g40, 16, none⟩, (iv (((rdD t12 x31 z_Row).North).e7)))], [0, 1, 2, 3, 4, 5, 6, 8], [[], [], [1], [0, 1, 2], [0, 1, 2, 3], [], [5], [0, 1, 2, 3, 4, 5, 6], [0, 1, 2, 3, 4, 5, 6, 7]]) [[0, 1, 2, 3, 4, 5, 6, 7, 8]] (by kernel_rfl) (by kernel_rfl) (NoPanic.seq (NoPanic.seq (NoPanic.block (NoPanic.seq (NoPanic.seq (NoPanic.block (NoPanic.seq (NoPanic.scope (NoPanic.body))))))))) ?_
    have hS74 := hS70.drew
    revert hS74
    generalize World.drew w69 = w73
    intro hS74
    refine ⟨⟨nrow_cell (hS74.rd 1).1 none h75.1 h75.2 0 (mapV_some hm77), hS74.cell 5 rfl 9 rfl, hS74.cell 5 rfl 10 rfl, hS74.cell 5 rfl 11 rfl, hS74.cell 5 rfl 12 rfl, hS74.cell 5 rfl 13 rfl, hS74.cell 5 rfl 14 rfl, hS74.cell 5 rfl 15 rfl, hS74.cell 5 rfl 16 rfl, trivial⟩, forallC ?_ (forallN)⟩
    refine segF 7 [.v (.map (some (H51 (w64 (p2 - 1)).toNat))), .v (iv (((rdD t12 x31 z_Row).North).e0)), .v (iv (((rdD t12 x31 z_Row).North).e1)), .v (iv (((rdD t12 x31 z_Row).North).e2)), .v (iv (((rdD t12 x31 z_Row).North).e3)), .v (iv (((rdD t12 x31 z_Row).North).e4)), .v (iv (((rdD t12 x31 z_Row).North).e5)), .v (iv (((rdD t12 x31 z_Row).North).e6)), .v (iv (((rdD t12 x31 z_Row).North).e7))] [2, 6, 8, 9, 10, 12, 13, 26, 27, 28, 55, 57] [(2, (iv p2)), (6, (pt g9)), (8, (sv A17 t12 c18)), (9, (.map (some g20))), (10, (pt g24)), (12, (pt g40)), (13, (sv A49 x52.2 c50)), (26, (sv A17 t12 c18)), (27, (iv (t12.length : Int))), (28, (iv x31)), (55, (.map (some (H51 (w64 (p2 - 1)).toNat)))), (57, (.agg #[(iv (((rdD t12 x31 z_Row).North).e0)), (iv (((rdD t12 x31 z_Row).North).e1)), (iv (((rdD t12 x31 z_Row).North).e2)), (iv (((rdD t12 x31 z_Row).North).e3)), (iv (((rdD t12 x31 z_Row).North).e4)), (iv (((rdD t12 x31 z_Row).North).e5)), (iv (((rdD t12 x31 z_Row).North).e6)), (iv (((rdD t12 x31 z_Row).North).e7))]))] [.idx A49 (w64 (p2 - 1)) x52.2.length] [0, 1, 2, 3, 4, 5, 6, 7, 8] [(4, ((adr A49).add ((w64 (p2 - 1)).toNat * 1)), (.map (some (H51 (w64 (p2 - 1)).toNat)))), (6, ⟨g40, 9, none⟩, (iv (((rdD t12 x31 z_Row).North).e0))), (6, ⟨g40, 10, none⟩, (iv (((rdD t12 x31 z_Row).North).e1))), (6, ⟨g40, 11, none⟩, (iv (((rdD t12 x31 z_Row).North).e2))), (6, ⟨g40, 12, none⟩, (iv (((rdD t12 x31 z_Row).North).e3))), (6, ⟨g40, 13, none⟩, (iv (((rdD t12 x31 z_Row).North).e4))), (6, ⟨g40, 14, none⟩, (iv (((rdD t12 x31 z_Row).North).e5))), (6, ⟨g40, 15, none⟩, (iv (((rdD t12 x31 z_Row).North).e6))), (6, ⟨g40, 16, none⟩, (iv (((rdD t12 x31 z_Row).North).e7)))] (fun fb => by kernel_rfl) rfl ⟨nrow_adr (hS74.rd 1).1 h75.1 h75.2, trivial⟩ rfl ?_
    refine WL.lookup (mapsO.at (hS74.rd 2).1 h75.1 h75.2 hm77) ((rdD t12 x31 z_Row).North) (d := 58) (c := false) (t := 103) (kT := 97) (eT := 4) (z := false) (kE := (aggI ints_A8_Int)) (vE := vB) (l := m76) (bv (mget ((rdD t12 x31 z_Row).North) false m76)) (fun fb => by kernel_rfl) torus_find_key97 (by kernel_rfl) (fun _ => by kernel_rfl) rfl ?_
    refine ⟨trivial, ?_⟩
    refine sg 9 [] [2, 6, 8, 9, 10, 12, 13, 26, 27, 28, 59] [(2, (iv p2)), (6, (pt g9)), (8, (sv A17 t12 c18)), (9, (.map (some g20))), (10, (pt g24)), (12, (pt g40)), (13, (sv A49 x52.2 c50)), (26, (sv A17 t12 c18)), (27, (iv (t12.length : Int))), (28, (iv x31)), (59, (bv (!(mget ((rdD t12 x31 z_Row).North) false m76))))] (by kernel_rfl) ?_
    refine WL.done rfl (WX.next ?_)
    rcases br_some hl37 with ⟨h78, hl37⟩ | ⟨h78, hl37⟩
    ·refine WC.condT2 (fun fb => by kernel_rfl) h78 ?_
     refine WC.exit ?_
     refine WX.thenX (WX.blockHere (WX.next ?_))
     refine WC.region ?_
     refine sg 2 [] [2, 6, 8, 9, 10, 26, 27, 28] [(2, (iv p2)), (6, (pt g9)), (8, (sv A17 t12 c18)), (9, (.map (some g20))), (10, (pt g24)), (26, (sv A17 t12 c18)), (27, (iv (t12.length : Int))), (28, (iv (w64 (x31 + 1))))] (by kernel_rfl) ?_
     refine WL.done rfl ?_
     exact WX.again k34 (Nat.lt_succ_self _) ((x52.1, w64 (x31 + 1)), K48) [2, 6, 8, 9, 10, 26, 27, 28] rfl ⟨(hS74.subR [0, 6, 7]).sub [0, 1, 2, 3, 4] (by decide), hl37⟩
    refine WC.condF2 (fun fb => by kernel_rfl) h78 ?_
    refine WC.skip (WX.next (WC.seq (WC.region ?_)))
    refine seg 4 [.v (.slice none 0 0), .v (sv ((H19 x31.toNat 0).1) ((rdD t12 x31 z_Row).Cells) ((H19 x31.toNat 0).2))] [2, 6, 8, 10, 12, 13, 61, 63] [(2, (iv p2)), (6, (pt g9)), (8, (sv A17 t12 c18)), (10, (pt g24)), (12, (pt g40)), (13, (sv A49 x52.2 c50)), (61, (.slice none 0 0)), (63, (sv ((H19 x31.toNat 0).1) ((rdD t12 x31 z_Row).Cells) ((H19 x31.toNat 0).2)))] [.cell ⟨g24, 2, none⟩ (.slice none 0 0), .cell ⟨g40, 0, none⟩ (sv ((H19 x31.toNat 0).1) ((rdD t12 x31 z_Row).Cells) ((H19 x31.toNat 0).2))] (fun fb => by kernel_rfl) rfl ⟨hS74.cell 4 rfl 2 rfl, hS74.cell 5 rfl 0 rfl, trivial⟩ ?_
    have hS79 := hS74.nilrow 3 encInt
    obtain ⟨h80, hl37⟩ := as_some hl37
    refine WL.append hS79 0 (d := 64) (tS := 37) (z := (iv 0)) (bytes := 8) (c2 := (H19 x31.toNat 0).2) rfl (fun fb => by kernel_rfl) (nestO.at ((hS79.own 3).1 0) z_Row h39.1 h39.2) (by kernel_rfl) (by kernel_rfl) rfl (by decide) h80 (by decide) [1, 2, 3, 4, 5, 6] (by decide) (by decide) (fun A81 c82 w83 hS84 => ?_)
    refine ⟨trivial, ?_⟩
    refine sg 6 [] [2, 6, 8, 10, 12, 13, 64, 65] [(2, (iv p2)), (6, (pt g9)), (8, (sv A17 t12 c18)), (10, (pt g24)), (12, (pt g40)), (13, (sv A49 x52.2 c50)), (64, (sv A81 (([] : List Int) ++ ((rdD t12 x31 z_Row).Cells)) c82)), (65, (.pointer (some ⟨g24, 2, none⟩)))] (by kernel_rfl) ?_
    refine WL.store hS84 5 rfl [(2, (sv A81 (([] : List Int) ++ ((rdD t12 x31 z_Row).Cells)) c82))] #[(iv p1), (iv p2), (sv A81 (([] : List Int) ++ ((rdD t12 x31 z_Row).Cells)) c82)] (fun fb => by kernel_rfl) (by kernel_rfl) rfl [0, 1, 2, 3, 4, 6] (by decide) (by decide) (fun w85 hS86 => ?_)
    refine ⟨trivial, ?_⟩
    refine WL.done rfl (WX.next (WC.seq (WC.region ?_)))
    refine seg 2 [.v (iv (((rdD t12 x31 z_Row).North).e0)), .v (iv (((rdD t12 x31 z_Row).North).e1)), .v (iv (((rdD t12 x31 z_Row).North).e2)), .v (iv (((rdD t12 x31 z_Row).North).e3)), .v (iv (((rdD t12 x31 z_Row).North).e4)), .v (iv (((rdD t12 x31 z_Row).North).e5)), .v (iv (((rdD t12 x31 z_Row).North).e6)), .v (iv (((rdD t12 x31 z_Row).North).e7))] [2, 6, 8, 10, 13, 67] [(2, (iv p2)), (6, (pt g9)), (8, (sv A17 t12 c18)), (10, (pt g24)), (13, (sv A49 x52.2 c50)), (67, (.agg #[(iv (((rdD t12 x31 z_Row).North).e0)), (iv (((rdD t12 x31 z_Row).North).e1)), (iv (((rdD t12 x31 z_Row).North).e2)), (iv (((rdD t12 x31 z_Row).North).e3)), (iv (((rdD t12 x31 z_Row).North).e4)), (iv (((rdD t12 x31 z_Row).North).e5)), (iv (((rdD t12 x31 z_Row).North).e6)), (iv (((rdD t12 x31 z_Row).North).e7))]))] [.cell ⟨g40, 9, none⟩ (iv (((rdD t12 x31 z_Row).North).e0)), .cell ⟨g40, 10, none⟩ (iv (((rdD t12 x31 z_Row).North).e1)), .cell ⟨g40, 11, none⟩ (iv (((rdD t12 x31 z_Row).North).e2)), .cell ⟨g40, 12, none⟩ (iv (((rdD t12 x31 z_Row).North).e3)), .cell ⟨g40, 13, none⟩ (iv (((rdD t12 x31 z_Row).North).e4)), .cell ⟨g40, 14, none⟩ (iv (((rdD t12 x31 z_Row).North).e5)), .cell ⟨g40, 15, none⟩ (iv (((rdD t12 x31 z_Row).North).e6)), .cell ⟨g40, 16, none⟩ (iv (((rdD t12 x31 z_Row).North).e7))] (fun fb => by kernel_rfl) rfl ⟨hS86.cell 6 rfl 9 rfl, hS86.cell 6 rfl 10 rfl, hS86.cell 6 rfl 11 rfl, hS86.cell 6 rfl 12 rfl, hS86.cell 6 rfl 13 rfl, hS86.cell 6 rfl 14 rfl, hS86.cell 6 rfl 15 rfl, hS86.cell 6 rfl 16 rfl, trivial⟩ ?_
    refine WL.new hS86 15 [] (fun g => (pt g)) (.cells #[(iv 0), (iv 0), (iv 0), (iv 0), (iv 0), (iv 0), (iv 0), (iv 0)] 97 (0, 0)) [] (fun fb g => by kernel_rfl) trivial (fun g87 w88 hS89 => ?_)
    refine ⟨trivial, ?_⟩
    refine WL.store hS89 0 rfl [(0, (iv (((rdD t12 x31 z_Row).North).e0))), (1, (iv (((rdD t12 x31 z_Row).North).e1))), (2, (iv (((rdD t12 x31 z_Row).North).e2))), (3, (iv (((rdD t12 x31 z_Row).North).e3))), (4, (iv (((rdD t12 x31 z_Row).North).e4))), (5, (iv (((rdD t12 x31 z_Row).North).e5))), (6, (iv (((rdD t12 x31 z_Row).North).e6))), (7, (iv (((rdD t12 x31 z_Row).North).e7)))] #[(iv (((rdD t12 x31 z_Row).North).e0)), (iv (((rdD t12 x31 z_Row).North).e1)), (iv (((rdD t12 x31 z_Row).North).e2)), (iv (((rdD t12 x31 z_Row).North).e3)), (iv (((rdD t12 x31 z_Row).North).e4)), (iv (((rdD t12 x31 z_Row).North).e5)), (iv (((rdD t12 x31 z_Row).North).e6)), (iv (((rdD t12 x31 z_Row).North).e7))] (fun fb => by kernel_rfl) (by kernel_rfl) rfl [1, 2, 3, 4, 5, 6, 7] (by decide) (by decide) (fun w90 hS91 => ?_)
    refine ⟨trivial, ?_⟩
    refine WL.done rfl (WX.next (WC.seq (WC.seq (WC.region ?_))))
    refine sg 3 [] [6, 8, 10, 13, 15, 16] [(6, (pt g9)), (8, (sv A17 t12 c18)), (10, (pt g24)), (13, (sv A49 x52.2 c50)), (15, (pt g87)), (16, (iv (w64 (p2 - 2))))] (by kernel_rfl) ?_
    refine WL.done rfl (WX.next ?_)
    obtain ⟨x100, hx101, hl37⟩ := bind_some hl37
    refine WC.cutN (T := (List Int) × (Option Addr) × Nat) (fun t => [(6, (pt g9)), (10, (pt g24))]) (fun t w1 => St NoS w w1 [knestO (aggI ints_A8_Int) vB K48 x52.1, rowR (encMap A8_Int Bool) A49 c50 (tag H51 x52.2), mapsO (aggI ints_A8_Int) vB H51 x52.2, mapsO (aggI ints_A8_Int) vB ((mget ((rdD t12 x31 z_Row).South) zHM K30).1.2.2) (mget ((rdD t12 x31 z_Row).South) [] l29), rowR (encMap A8_Int Bool) ((mget ((rdD t12 x31 z_Row).South) zHM K30).1.1) ((mget ((rdD t12 x31 z_Row).South) zHM K30).1.2.1) (tag ((mget ((rdD t12 x31 z_Row).South) zHM K30).1.2.2) (mget ((rdD t12 x31 z_Row).South) [] l29)), knestO (aggI ints_A8_Int) vB K30 l29, knestO (aggI ints_A8_Int) vB ([] : List (A8_Int × (HM × List (Option (List (A8_Int × Bool)))))) ([] : List (A8_Int × List (Option (List (A8_Int × Bool))))), rowR enc_Tile Aa ca p0] [blk g9 (.cells #[(iv 0), (iv 0), (.slice none 0 0)] 39 (0, 0)), blk g24 (.cells #[(iv p1), (iv p2), (sv t.2.1 t.1 t.2.2)] 39 (0, 0)), rowO 3 encInt t.2.1 t.2.2 t.1] ∧ x100 = t.1) (fun Kx100 => ?_) ?_
    ·
     refine WC.block ?_
     refine WC.loop (T := ((List Int) × A8_Int × Int) × (Option Addr) × Nat) (fun t => [(6, (pt g9)), (8, (sv A17 t12 c18)), (10, (pt g24)), (13, (sv A49 x52.2 c50)), (15, (pt g87)), (16, (iv t.1.2.2))]) (fun n t w1 => St NoS w w1 [knestO (aggI ints_A8_Int) vB K48 x52.1, rowR (encMap A8_Int Bool) A49 c50 (tag H51 x52.2), mapsO (aggI ints_A8_Int) vB H51 x52.2, mapsO (aggI ints_A8_Int) vB ((mget ((rdD t12 x31 z_Row).South) zHM K30).1.2.2) (mget ((rdD t12 x31 z_Row).South) [] l29), rowR (encMap A8_Int Bool) ((mget ((rdD t12 x31 z_Row).South) zHM K30).1.1) ((mget ((rdD t12 x31 z_Row).South) zHM K30).1.2.1) (tag ((mget ((rdD t12 x31 z_Row).South) zHM K30).1.2.2) (mget ((rdD t12 x31 z_Row).South) [] l29)), knestO (aggI ints_A8_Int) vB K30 l29, knestO (aggI ints_A8_Int) vB ([] : List (A8_Int × (HM × List (Option (List (A8_Int × Bool)))))) ([] : List (A8_Int × List (Option (List (A8_Int × Bool))))), rowR enc_Tile Aa ca p0] [blk g9 (.cells #[(iv 0), (iv 0), (.slice none 0 0)] 39 (0, 0)), rowO 99 encN_Row A17 c18 (tag H19 t12), poolO [nestO subN_Row H19 t12], blk g24 (.cells #[(iv p1), (iv p2), (sv t.2.1 t.1.1 t.2.2)] 39 (0, 0)), rowO 3 encInt t.2.1 t.2.2 t.1.1, blk g87 (.cells #[(iv t.1.2.1.e0), (iv t.1.2.1.e1), (iv t.1.2.1.e2), (iv t.1.2.1.e3), (iv t.1.2.1.e4), (iv t.1.2.1.e5), (iv t.1.2.1.e6), (iv t.1.2.1.e7)] 97 (0, 0))] ∧ torus_find.l1 n t.1.1 t.1.2.1 t.1.2.2 t12 x52 = some x100) k34 ((([] : List Int) ++ ((rdD t12 x31 z_Row).Cells), ((rdD t12 x31 z_Row).North), w64 (p2 - 2)), A81, c82) [6, 8, 10, 13, 15, 16] rfl ⟨(hS91.subR [0, 1, 2, 3, 4, 5, 6, 7]).sub [3, 4, 5, 1, 2, 0] (by decide), hx101⟩ ?_
     rintro k102 ⟨⟨l94, a95, x96⟩, A92, c93⟩ w103 ⟨hS104, hl105⟩
     cases k102 with
     | zero => rw [torus_find.l1] at hl105; cases hl105
     | succ k102 =>
      rw [torus_find.l1] at hl105
      refine WC.seq (WC.seq (WC.region ?_))
      refine sg 2 [] [6, 8, 10, 13, 15, 16, 71] [(6, (pt g9)), (8, (sv A17 t12 c18)), (10, (pt g24)), (13, (sv A49 x52.2 c50)), (15, (pt g87)), (16, (iv x96)), (71, (bv (decide (x96 ≥ 0))))] (by kernel_rfl) ?_
      refine WL.done rfl (WX.next ?_)
      rcases br_some hl105 with ⟨h106, hl105⟩ | ⟨h106, hl105⟩
      ·refine WC.condT2 (fun fb => by kernel_rfl) h106 ?_
       refine WC.skip (WX.next (WC.seq (WC.block ?_)))
       refine WC.scope ?_
       refine WC.seq ?_
       refine WC.label ?_
       refine WX.next (WC.seq (WC.region ?_))
       refine sg 3 [] [6, 8, 10, 13, 15, 16, 74, 75, 76] [(6, (pt g9)), (8, (sv A17 t12 c18)), (10, (pt g24)), (13, (sv A49 x52.2 c50)), (15, (pt g87)), (16, (iv x96)), (74, (sv A17 t12 c18)), (75, (iv (t12.length : Int))), (76, (iv 0))] (by kernel_rfl) ?_
       refine WL.done rfl (WX.next ?_)
       obtain ⟨x110, hx111, hl105⟩ := bind_some hl105
       refine WC.cutN (T := ((List Int) × A8_Int) × (Option Addr) × Nat) (fun t => [(6, (pt g9)), (8, (sv A17 t12 c18)), (10, (pt g24)), (13, (sv A49 x52.2 c50)), (15, (pt g87)), (16, (iv x96))]) (fun t w1 => St NoS w w1 [knestO (aggI ints_A8_Int) vB K48 x52.1, rowR (encMap A8_Int Bool) A49 c50 (tag H51 x52.2), mapsO (aggI ints_A8_Int) vB H51 x52.2, mapsO (aggI ints_A8_Int) vB ((mget ((rdD t12 x31 z_Row).South) zHM K30).1.2.2) (mget ((rdD t12 x31 z_Row).South) [] l29), rowR (encMap A8_Int Bool) ((mget ((rdD t12 x31 z_Row).South) zHM K30).1.1) ((mget ((rdD t12 x31 z_Row).South) zHM K30).1.2.1) (tag ((mget ((rdD t12 x31 z_Row).South) zHM K30).1.2.2) (mget ((rdD t12 x31 z_Row).South) [] l29)), knestO (aggI ints_A8_Int) vB K30 l29, knestO (aggI ints_A8_Int) vB ([] : List (A8_Int × (HM × List (Option (List (A8_Int × Bool)))))) ([] : List (A8_Int × List (Option (List (A8_Int × Bool))))), rowR enc_Tile Aa ca p0] [blk g9 (.cells #[(iv 0), (iv 0), (.slice none 0 0)] 39 (0, 0)), rowO 99 encN_Row A17 c18 (tag H19 t12), poolO [nestO subN_Row H19 t12], blk g24 (.cells #[(iv p1), (iv p2), (sv t.2.1 t.1.1 t.2.2)] 39 (0, 0)), rowO 3 encInt t.2.1 t.2.2 t.1.1, blk g87 (.cells #[(iv t.1.2.e0), (iv t.1.2.e1), (iv t.1.2.e2), (iv t.1.2.e3), (iv t.1.2.e4), (iv t.1.2.e5), (iv t.1.2.e6), (iv t.1.2.e7)] 97 (0, 0))] ∧ x110 = t.1) (fun Kx110 => ?_) ?_
       ·
        refine WC.block ?_
        refine WC.loop (T := Int) (fun t => [(6, (pt g9)), (8, (sv A17 t12 c18)), (10, (pt g24)), (13, (sv A49 x52.2 c50)), (15, (pt g87)), (16, (iv x96)), (74, (sv A17 t12 c18)), (75, (iv (t12.length : Int))), (76, (iv t))]) (fun n t w1 => St NoS w w1 [knestO (aggI ints_A8_Int) vB K48 x52.1, rowR (encMap A8_Int Bool) A49 c50 (tag H51 x52.2), mapsO (aggI ints_A8_Int) vB H51 x52.2, mapsO (aggI ints_A8_Int) vB ((mget ((rdD t12 x31 z_Row).South) zHM K30).1.2.2) (mget ((rdD t12 x31 z_Row).South) [] l29), rowR (encMap A8_Int Bool) ((mget ((rdD t12 x31 z_Row).South) zHM K30).1.1) ((mget ((rdD t12 x31 z_Row).South) zHM K30).1.2.1) (tag ((mget ((rdD t12 x31 z_Row).South) zHM K30).1.2.2) (mget ((rdD t12 x31 z_Row).South) [] l29)), knestO (aggI ints_A8_Int) vB K30 l29, knestO (aggI ints_A8_Int) vB ([] : List (A8_Int × (HM × List (Option (List (A8_Int × Bool)))))) ([] : List (A8_Int × List (Option (List (A8_Int × Bool))))), rowR enc_Tile Aa ca p0] [blk g9 (.cells #[(iv 0), (iv 0), (.slice none 0 0)] 39 (0, 0)), rowO 99 encN_Row A17 c18 (tag H19 t12), poolO [nestO subN_Row H19 t12], blk g24 (.cells #[(iv p1), (iv p2), (sv A92 l94 c93)] 39 (0, 0)), rowO 3 encInt A92 c93 l94, blk g87 (.cells #[(iv a95.e0), (iv a95.e1), (iv a95.e2), (iv a95.e3), (iv a95.e4), (iv a95.e5), (iv a95.e6), (iv a95.e7)] 97 (0, 0))] ∧ torus_find.l2 n t t12 x52 l94 a95 x96 = some x110) k102 0 [6, 8, 10, 13, 15, 16, 74, 75, 76] rfl ⟨(hS104.subR [0, 1, 2, 3, 4, 5, 6, 7]).sub [0, 1, 2, 3, 4, 5] (by decide), hx111⟩ ?_
        rintro k112 x107 w113 ⟨hS114, hl115⟩
        cases k112 with
        | zero => rw [torus_find.l2] at hl115; cases hl115
        | succ k112 =>
         rw [torus_find.l2] at hl115
         refine WC.seq (WC.region ?_)
         refine sg 1 [] [6, 8, 10, 13, 15, 16, 74, 75, 76, 77] [(6, (pt g9)), (8, (sv A17 t12 c18)), (10, (pt g24)), (13, (sv A49 x52.2 c50)), (15, (pt g87)), (16, (iv x96)), (74, (sv A17 t12 c18)), (75, (iv (t12.length : Int))), (76, (iv x107)), (77, (bv (decide (x107 < (t12.length : Int)))))] (by kernel_rfl) ?_
         refine WL.done rfl (WX.next (WC.seq ?_))
         rcases br_some hl115 with ⟨h116, hl115⟩ | ⟨h116, hl115⟩
         ·refine WC.condT2 (fun fb => by kernel_rfl) h116 ?_
          refine WC.skip (WX.next (WC.seq (WC.block (WC.seq (WC.region ?_)))))
          obtain ⟨h117, hl115⟩ := as_some hl115
          refine seg 2 [.v (sv ((H19 x107.toNat 0).1) ((rdD t12 x107 z_Row).Cells) ((H19 x107.toNat 0).2)), .v (iv (((rdD t12 x107 z_Row).South).e0)), .v (iv (((rdD t12 x107 z_Row).South).e1)), .v (iv (((rdD t12 x107 z_Row).South).e2)), .v (iv (((rdD t12 x107 z_Row).South).e3)), .v (iv (((rdD t12 x107 z_Row).South).e4)), .v (iv (((rdD t12 x107 z_Row).South).e5)), .v (iv (((rdD t12 x107 z_Row).South).e6)), .v (iv (((rdD t12 x107 z_Row).South).e7)), .v (iv (((rdD t12 x107 z_Row).North).e0)), .v (iv (((rdD t12 x107 z_Row).North).e1)), .v (iv (((rdD t12 x107 z_Row).North).e2)), .v (iv (((rdD t12 x107 z_Row).North).e3)), .v (iv (((rdD t12 x107 z_Row).North).e4)), .v (iv (((rdD t12 x107 z_Row).North).e5)), .v (iv (((rdD t12 x107 z_Row).North).e6)), .v (iv (((rdD t12 x107 z_Row).North).e7)), .v (iv ((rdD t12 x107 z_Row).West)), .v (iv ((rdD t12 x107 z_Row).East))] [6, 8, 10, 13, 15, 16, 74, 75, 76, 79] [(6, (pt g9)), (8, (sv A17 t12 c18)), (10, (pt g24)), (13, (sv A49 x52.2 c50)), (15, (pt g87)), (16, (iv x96)), (74, (sv A17 t12 c18)), (75, (iv (t12.length : Int))), (76, (iv x107)), (79, (.agg #[(sv ((H19 x107.toNat 0).1) ((rdD t12 x107 z_Row).Cells) ((H19 x107.toNat 0).2)), (iv (((rdD t12 x107 z_Row).South).e0)), (iv (((rdD t12 x107 z_Row).South).e1)), (iv (((rdD t12 x107 z_Row).South).e2)), (iv (((rdD t12 x107 z_Row).South).e3)), (iv (((rdD t12 x107 z_Row).South).e4)), (iv (((rdD t12 x107 z_Row).South).e5)), (iv (((rdD t12 x107 z_Row).South).e6)), (iv (((rdD t12 x107 z_Row).South).e7)), (iv (((rdD t12 x107 z_Row).North).e0)), (iv (((rdD t12 x107 z_Row).North).e1)), (iv (((rdD t12 x107 z_Row).North).e2)), (iv (((rdD t12 x107 z_Row).North).e3)), (iv (((rdD t12 x107 z_Row).North).e4)), (iv (((rdD t12 x107 z_Row).North).e5)), (iv (((rdD t12 x107 z_Row).North).e6)), (iv (((rdD t12 x107 z_Row).North).e7)), (iv ((rdD t12 x107 z_Row).West)), (iv ((rdD t12 x107 z_Row).East))]))] [.idx A17 x107 t12.length, .cell ((adr A17).add ((x107).toNat * 19)) (sv ((H19 x107.toNat 0).1) ((rdD t12 x107 z_Row).Cells) ((H19 x107.toNat 0).2)), .cell (((adr A17).add ((x107).toNat * 19)).add 1) (iv (((rdD t12 x107 z_Row).South).e0)), .cell (((adr A17).add ((x107).toNat * 19)).add 2) (iv (((rdD t12 x107 z_Row).South).e1)), .cell (((adr A17).add ((x107).toNat * 19)).add 3) (iv (((rdD t12 x107 z_Row).South).e2)), .cell (((adr A17).add ((x107).toNat * 19)).add 4) (iv (((rdD t12 x107 z_Row).South).e3)), .cell (((adr A17).add ((x107).toNat * 19)).add 5) (iv (((rdD t12 x107 z_Row).South).e4)), .cell (((adr A17).add ((x107).toNat * 19)).add 6) (iv (((rdD t12 x107 z_Row).South).e5)), .cell (((adr A17).add ((x107).toNat * 19)).add 7) (iv (((rdD t12 x107 z_Row).South).e6)), .cell (((adr A17).add ((x107).toNat * 19)).add 8) (iv (((rdD t12 x107 z_Row).South).e7)), .cell (((adr A17).add ((x107).toNat * 19)).add 9) (iv (((rdD t12 x107 z_Row).North).e0)), .cell (((adr A17).add ((x107).toNat * 19)).add 10) (iv (((rdD t12 x107 z_Row).North).e1)), .cell (((adr A17).add ((x107).toNat * 19)).add 11) (iv (((rdD t12 x107 z_Row).North).e2)), .cell (((adr A17).add ((x107).toNat * 19)).add 12) (iv (((rdD t12 x107 z_Row).North).e3)), .cell (((adr A17).add ((x107).toNat * 19)).add 13) (iv (((rdD t12 x107 z_Row).North).e4)), .cell (((adr A17).add ((x107).toNat * 19)).add 14) (iv (((rdD t12 x107 z_Row).North).e5)), .cell (((adr A17).add ((x107).toNat * 19)).add 15) (iv (((rdD t12 x107 z_Row).North).e6)), .cell (((adr A17).add ((x107).toNat * 19)).add 16) (iv (((rdD t12 x107 z_Row).North).e7)), .cell (((adr A17).add ((x107).toNat * 19)).add 17) (iv ((rdD t12 x107 z_Row).West)), .cell (((adr A17).add ((x107).toNat * 19)).add 18) (iv ((rdD t12 x107 z_Row).East))] (fun fb => by kernel_rfl) rfl ⟨nrow_adr (rowO.rd (hS114.own 1).1) h117.1 h117.2, nrow_cell (rowO.rd (hS114.own 1).1) z_Row h117.1 h117.2 0 rfl, nrow_cell (rowO.rd (hS114.own 1).1) z_Row h117.1 h117.2 1 rfl, nrow_cell (rowO.rd (hS114.own 1).1) z_Row h117.1 h117.2 2 rfl, nrow_cell (rowO.rd (hS114.own 1).1) z_Row h117.1 h117.2 3 rfl, nrow_cell (rowO.rd (hS114.own 1).1) z_Row h117.1 h117.2 4 rfl, nrow_cell (rowO.rd (hS114.own 1).1) z_Row h117.1 h117.2 5 rfl, nrow_cell (rowO.rd (hS114.own 1).1) z_Row h117.1 h117.2 6 rfl, nrow_cell (rowO.rd (hS114.own 1).1) z_Row h117.1 h117.2 7 rfl, nrow_cell (rowO.rd (hS114.own 1).1) z_Row h117.1 h117.2 8 rfl, nrow_cell (rowO.rd (hS114.own 1).1) z_Row h117.1 h117.2 9 rfl, nrow_cell (rowO.rd (hS114.own 1).1) z_Row h117.1 h117.2 10 rfl, nrow_cell (rowO.rd (hS114.own 1).1) z_Row h117.1 h117.2 11 rfl, nrow_cell (rowO.rd (hS114.own 1).1) z_Row h117.1 h117.2 12 rfl, nrow_cell (rowO.rd (hS114.own 1).1) z_Row h117.1 h117.2 13 rfl, nrow_cell (rowO.rd (hS114.own 1).1) z_Row h117.1 h117.2 14 rfl, nrow_cell (rowO.rd (hS114.own 1).1) z_Row h117.1 h117.2 15 rfl, nrow_cell (rowO.rd (hS114.own 1).1) z_Row h117.1 h117.2 16 rfl, nrow_cell (rowO.rd (hS114.own 1).1) z_Row h117.1 h117.2 17 rfl, nrow_cell (rowO.rd (hS114.own 1).1) z_Row h117.1 h117.2 18 rfl, trivial⟩ ?_
          refine WL.new hS114 18 [] (fun g => (pt g)) (.cells #[(.slice none 0 0), (iv 0), (iv 0), (iv 0), (iv 0), (iv 0), (iv 0), (iv 0), (iv 0), (iv 0), (iv 0), (iv 0), (iv 0), (iv 0), (iv 0), (iv 0), (iv 0), (iv 0), (iv 0)] 99 (0, 0)) [] (fun fb g => by kernel_rfl) trivial (fun g118 w119 hS120 => ?_)
          refine ⟨trivial, ?_⟩
          refine WL.store hS120 0 rfl [(0, (sv ((H19 x107.toNat 0).1) ((rdD t12 x107 z_Row).Cells) ((H19 x107.toNat 0).2))), (1, (iv (((rdD t12 x107 z_Row).South).e0))), (2, (iv (((rdD t12 x107 z_Row).South).e1))), (3, (iv (((rdD t12 x107 z_Row).South).e2))), (4, (iv (((rdD t12 x107 z_Row).South).e3))), (5, (iv (((rdD t12 x107 z_Row).South).e4))), (6, (iv (((rdD t12 x107 z_Row).South).e5))), (7, (iv (((rdD t12 x107 z_Row).South).e6))), (8, (iv (((rdD t12 x107 z_Row).South).e7))), (9, (iv (((rdD t12 x107 z_Row).North).e0))), (10, (iv (((rdD t12 x107 z_Row).North).e1))), (11, (iv (((rdD t12 x107 z_Row).North).e2))), (12, (iv (((rdD t12 x107 z_Row).North).e3))), (13, (iv (((rdD t12 x107 z_Row).North).e4))), (14, (iv (((rdD t12 x107 z_Row).North).e5))), (15, (iv (((rdD t12 x107 z_Row).North).e6))), (16, (iv (((rdD t12 x107 z_Row).North).e7))), (17, (iv ((rdD t12 x107 z_Row).West))), (18, (iv ((rdD t12 x107 z_Row).East)))] #[(sv ((H19 x107.toNat 0).1) ((rdD t12 x107 z_Row).Cells) ((H19 x107.toNat 0).2)), (iv (((rdD t12 x107 z_Row).South).e0)), (iv (((rdD t12 x107 z_Row).South).e1)), (iv (((rdD t12 x107 z_Row).South).e2)), (iv (((rdD t12 x107 z_Row).South).e3)), (iv (((rdD t12 x107 z_Row).South).e4)), (iv (((rdD t12 x107 z_Row).South).e5)), (iv (((rdD t12 x107 z_Row).South).e6)), (iv (((rdD t12 x107 z_Row).South).e7)), (iv (((rdD t12 x107 z_Row).North).e0)), (iv (((rdD t12 x107 z_Row).North).e1)), (iv (((rdD t12 x107 z_Row).North).e2)), (iv (((rdD t12 x107 z_Row).North).e3)), (iv (((rdD t12 x107 z_Row).North).e4)), (iv (((rdD t12 x107 z_Row).North).e5)), (iv (((rdD t12 x107 z_Row).North).e6)), (iv (((rdD t12 x107 z_Row).North).e7)), (iv ((rdD t12 x107 z_Row).West)), (iv ((rdD t12 x107 z_Row).East))] (fun fb => by kernel_rfl) (by kernel_rfl) (by kernel_rfl) [1, 2, 3, 4, 5, 6] (by decide) (by decide) (fun w121 hS122 => ?_)
          refine ⟨trivial, ?_⟩
          refine WL.done rfl (WX.next (WC.seq ?_))
          obtain ⟨x123, hx124, hl115⟩ := bind_some hl115
          refine WC.cutN (T := Bool) (fun t => [(6, (pt g9)), (8, (sv A17 t12 c18)), (10, (pt g24)), (13, (sv A49 x52.2 c50)), (15, (pt g87)), (16, (iv x96)), (18, (pt g118)), (74, (sv A17 t12 c18)), (75, (iv (t12.length : Int))), (76, (iv x107)), (92, (bv t))]) (fun t w1 => St NoS w w1 [knestO (aggI ints_A8_Int) vB K48 x52.1, rowR (encMap A8_Int Bool) A49 c50 (tag H51 x52.2), mapsO (aggI ints_A8_Int) vB H51 x52.2, mapsO (aggI ints_A8_Int) vB ((mget ((rdD t12 x31 z_Row).South) zHM K30).1.2.2) (mget ((rdD t12 x31 z_Row).South) [] l29), rowR (encMap A8_Int Bool) ((mget ((rdD t12 x31 z_Row).South) zHM K30).1.1) ((mget ((rdD t12 x31 z_Row).South) zHM K30).1.2.1) (tag ((mget ((rdD t12 x31 z_Row).South) zHM K30).1.2.2) (mget ((rdD t12 x31 z_Row).South) [] l29)), knestO (aggI ints_A8_Int) vB K30 l29, knestO (aggI ints_A8_Int) vB ([] : List (A8_Int × (HM × List (Option (List (A8_Int × Bool)))))) ([] : List (A8_Int × List (Option (List (A8_Int × Bool))))), rowR enc_Tile Aa ca p0] [blk g9 (.cells #[(iv 0), (iv 0), (.slice none 0 0)] 39 (0, 0)), rowO 99 encN_Row A17 c18 (tag H19 t12), poolO [nestO subN_Row H19 t12], blk g24 (.cells #[(iv p1), (iv p2), (sv A92 l94 c93)] 39 (0, 0)), rowO 3 encInt A92 c93 l94, blk g87 (.cells #[(iv a95.e0), (iv a95.e1), (iv a95.e2), (iv a95.e3), (iv a95.e4), (iv a95.e5), (iv a95.e6), (iv a95.e7)] 97 (0, 0)), blk g118 (.cells #[(sv ((H19 x107.toNat 0).1) ((rdD t12 x107 z_Row).Cells) ((H19 x107.toNat 0).2)), (iv (((rdD t12 x107 z_Row).South).e0)), (iv (((rdD t12 x107 z_Row).South).e1)), (iv (((rdD t12 x107 z_Row).South).e2)), (iv (((rdD t12 x107 z_Row).South).e3)), (iv (((rdD t12 x107 z_Row).South).e4)), (iv (((rdD t12 x107 z_Row).South).e5)), (iv (((rdD t12 x107 z_Row).South).e6)), (iv (((rdD t12 x107 z_Row).South).e7)), (iv (((rdD t12 x107 z_Row).North).e0)), (iv (((rdD t12 x107 z_Row).North).e1)), (iv (((rdD t12 x107 z_Row).North).e2)), (iv (((rdD t12 x107 z_Row).North).e3)), (iv (((rdD t12 x107 z_Row).North).e4)), (iv (((rdD t12 x107 z_Row).North).e5)), (iv (((rdD t12 x107 z_Row).North).e6)), (iv (((rdD t12 x107 z_Row).North).e7)), (iv ((rdD t12 x107 z_Row).West)), (iv ((rdD t12 x107 z_Row).East))] 99 (0, 0))] ∧ x123 = t) (fun Kx123 => ?_) ?_
          ·
           rcases br_some hx124 with ⟨h125, hx124⟩ | ⟨h125, hx124⟩
           ·
            obtain ⟨h128, hx124⟩ := as_some hx124
            obtain ⟨m129, hm130, hx124⟩ := bind_some hx124
            refine WC.regionD ([(1, ⟨g118, 1, none⟩, (iv (((rdD t12 x107 z_Row).South).e0))), (1, ⟨g118, 2, none⟩, (iv (((rdD t12 x107 z_Row).South).e1))), (1, ⟨g118, 3, none⟩, (iv (((rdD t12 x107 z_Row).South).e2))), (1, ⟨g118, 4, none⟩, (iv (((rdD t12 x107 z_Row).South).e3))), (1, ⟨g118, 5, none⟩, (iv (((rdD t12 x107 z_Row).South).e4))), (1, ⟨g118, 6, none⟩, (iv (((rdD t12 x107 z_Row).South).e5))), (1, ⟨g118, 7, none⟩, (iv (((rdD t12 x107 z_Row).South).e6))), (1, ⟨g118, 8, none⟩, (iv (((rdD t12 x107 z_Row).South).e7))), (2, ⟨g87, 0, none⟩, (iv a95.e0)), (2, ⟨g87, 1, none⟩, (iv a95.e1)), (2, ⟨g87, 2, none⟩, (iv a95.e2)), (2, ⟨g87, 3, none⟩, (iv a95.e3)), (2, ⟨g87, 4, none⟩, (iv a95.e4)), (2, ⟨g87, 5, none⟩, (iv a95.e5)), (2, ⟨g87, 6, none⟩, (iv a95.e6)), (2, ⟨g87, 7, none⟩, (iv a95.e7)), (8, ((adr A49).add ((x96).toNat * 1)), (.map (some (H51 x96.toNat)))), (10, ⟨g118, 9, none⟩, (iv (((rdD t12 x107 z_Row).North).e0))), (10, ⟨g118, 10, none⟩, (iv (((rdD t12 x107 z_Row).North).e1))), (10, ⟨g118, 11, none⟩, (iv (((rdD t12 x107 z_Row).North).e2))), (10, ⟨g118, 12, none⟩, (iv (((rdD t12 x107 z_Row).North).e3))), (10, ⟨g118, 13, none⟩, (iv (((rdD t12 x107 z_Row).North).e4))), (10, ⟨g118, 14, none⟩, (iv (((rdD t12 x107 z_Row).North).e5))), (10, ⟨g118, 15, none⟩, (iv (((rdD t12 x107 z_Row).North).e6))), (10, ⟨g118, 16, none⟩, (iv (((rdD t12 x107 z_Row).North).e7)))], [0, 1, 2, 3, 4, 5, 6, 7, 8, 9, 10, 12], [[], [0], [], [0, 1, 2], [0, 1, 2, 3], [0, 1, 2, 3, 4], [0, 1, 2, 3, 4], [0, 1, 2, 3, 4, 5, 6], [0, 1, 2, 3, 4, 5, 6, 7], [0, 1, 2, 3, 4], [0, 1, 2, 3, 4, 9], [0, 1, 2, 3, 4, 5, 6, 7, 8, 9, 10], [0, 1, 2, 3, 4, 5, 6, 7, 8, 9, 10, 11]]) [[0, 1, 2, 3, 4, 5, 6, 7, 8, 9, 10, 11, 12]] (by kernel_rfl) (by kernel_rfl) (NoPanic.seq (NoPanic.block (NoPanic.seq (NoPanic.seq (NoPanic.block (NoPanic.scope (NoPanic.block (NoPanic.seq (NoPanic.seq (NoPanic.block (NoPanic.seq (NoPanic.block (NoPanic.seq (NoPanic.seq (NoPanic.block (NoPanic.seq (NoPanic.scope (NoPanic.body)))))))))))))))))) ?_
            have hS127 := hS122.drew
            revert hS127
            generalize World.drew w121 = w126
            intro hS127
            refine ⟨⟨hS127.cell 0 rfl 1 rfl, hS127.cell 0 rfl 2 rfl, hS127.cell 0 rfl 3 rfl, hS127.cell 0 rfl 4 rfl, hS127.cell 0 rfl 5 rfl, hS127.cell 0 rfl 6 rfl, hS127.cell 0 rfl 7 rfl, hS127.cell 0 rfl 8 rfl, hS127.cell 6 rfl 0 rfl, hS127.cell 6 rfl 1 rfl, hS127.cell 6 rfl 2 rfl, hS127.cell 6 rfl 3 rfl, hS127.cell 6 rfl 4 rfl, hS127.cell 6 rfl 5 rfl, hS127.cell 6 rfl 6 rfl, hS127.cell 6 rfl 7 rfl, nrow_cell (hS127.rd 1).1 none h128.1 h128.2 0 (mapV_some hm130), hS127.cell 0 rfl 9 rfl, hS127.cell 0 rfl 10 rfl, hS127.cell 0 rfl 11 rfl, hS127.cell 0 rfl 12 rfl, hS127.cell 0 rfl 13 rfl, hS127.cell 0 rfl 14 rfl, hS127.cell 0 rfl 15 rfl, hS127.cell 0 rfl 16 rfl, trivial⟩, forallC ?_ (forallN)⟩
            refine segF 5 [.v (iv (((rdD t12 x107 z_Row).South).e0)), .v (iv (((rdD t12 x107 z_Row).South).e1)), .v (iv (((rdD t12 x107 z_Row).South).e2)), .v (iv (((rdD t12 x107 z_Row).South).e3)), .v (iv (((rdD t12 x107 z_Row).South).e4)), .v (iv (((rdD t12 x107 z_Row).South).e5)), .v (iv (((rdD t12 x107 z_Row).South).e6)), .v (iv (((rdD t12 x107 z_Row).South).e7)), .v (iv a95.e0), .v (iv a95.e1), .v (iv a95.e2), .v (iv a95.e3), .v (iv a95.e4), .v (iv a95.e5), .v (iv a95.e6), .v (iv a95.e7)] [6, 8, 10, 13, 15, 16, 18, 74, 75, 76, 84] [(6, (pt g9)), (8, (sv A17 t12 c18)), (10, (pt g24)), (13, (sv A49 x52.2 c50)), (15, (pt g87)), (16, (iv x96)), (18, (pt g118)), (74, (sv A17 t12 c18)), (75, (iv (t12.length : Int))), (76, (iv x107)), (84, (bv ((((rdD t12 x107 z_Row).South).e0) == a95.e0 && ((((rdD t12 x107 z_Row).South).e1) == a95.e1 && ((((rdD t12 x107 z_Row).South).e2) == a95.e2 && ((((rdD t12 x107 z_Row).South).e3) == a95.e3 && ((((rdD t12 x107 z_Row).South).e4) == a95.e4 && ((((rdD t12 x107 z_Row).South).e5) == a95.e5 && ((((rdD t12 x107 z_Row).South).e6) == a95.e6 && ((((rdD t12 x107 z_Row).South).e7) == a95.e7))))))))))] [] [0, 1, 2, 3, 4, 5, 6, 7, 8, 9, 10, 11, 12, 13, 14, 15] [(1, ⟨g118, 1, none⟩, (iv (((rdD t12 x107 z_Row).South).e0))), (1, ⟨g118, 2, none⟩, (iv (((rdD t12 x107 z_Row).South).e1))), (1, ⟨g118, 3, none⟩, (iv (((rdD t12 x107 z_Row).South).e2))), (1, ⟨g118, 4, none⟩, (iv (((rdD t12 x107 z_Row).South).e3))), (1, ⟨g118, 5, none⟩, (iv (((rdD t12 x107 z_Row).South).e4))), (1, ⟨g118, 6, none⟩, (iv (((rdD t12 x107 z_Row).South).e5))), (1, ⟨g118, 7, none⟩, (iv (((rdD t12 x107 z_Row).South).e6))), (1, ⟨g118, 8, none⟩, (iv (((rdD t12 x107 z_Row).South).e7))), (2, ⟨g87, 0, none⟩, (iv a95.e0)), (2, ⟨g87, 1, none⟩, (iv a95.e1)), (2, ⟨g87, 2, none⟩, (iv a95.e2)), (2, ⟨g87, 3, none⟩, (iv a95.e3)), (2, ⟨g87, 4, none⟩, (iv a95.e4)), (2, ⟨g87, 5, none⟩, (iv a95.e5)), (2, ⟨g87, 6, none⟩, (iv a95.e6)), (2, ⟨g87, 7, none⟩, (iv a95.e7))] (fun fb => by kernel_rfl) rfl trivial rfl ?_
            refine WL.setB 84 h125 rfl ?_
            refine segF 11 [.v (.map (some (H51 x96.toNat))), .v (iv (((rdD t12 x107 z_Row).North).e0)), .v (iv (((rdD t12 x107 z_Row).North).e1)), .v (iv (((rdD t12 x107 z_Row).North).e2)), .v (iv (((rdD t12 x107 z_Row).North).e3)), .v (iv (((rdD t12 x107 z_Row).North).e4)), .v (iv (((rdD t12 x107 z_Row).North).e5)), .v (iv (((rdD t12 x107 z_Row).North).e6)), .v (iv (((rdD t12 x107 z_Row).North).e7))] [6, 8, 10, 13, 15, 16, 18, 74, 75, 76, 84, 88, 90] [(6, (pt g9)), (8, (sv A17 t12 c18)), (10, (pt g24)), (13, (sv A49 x52.2 c50)), (15, (pt g87)), (16, (iv x96)), (18, (pt g118)), (74, (sv A17 t12 c18)), (75, (iv (t12.length : Int))), (76, (iv x107)), (84, (bv true)), (88, (.map (some (H51 x96.toNat)))), (90, (.agg #[(iv (((rdD t12 x107 z_Row).North).e0)), (iv (((rdD t12 x107 z_Row).North).e1)), (iv (((rdD t12 x107 z_Row).North).e2)), (iv (((rdD t12 x107 z_Row).North).e3)), (iv (((rdD t12 x107 z_Row).North).e4)), (iv (((rdD t12 x107 z_Row).North).e5)), (iv (((rdD t12 x107 z_Row).North).e6)), (iv (((rdD t12 x107 z_Row).North).e7))]))] [.idx A49 x96 x52.2.length] [16, 17, 18, 19, 20, 21, 22, 23, 24] [(8, ((adr A49).add ((x96).toNat * 1)), (.map (some (H51 x96.toNat)))), (10, ⟨g118, 9, none⟩, (iv (((rdD t12 x107 z_Row).North).e0))), (10, ⟨g118, 10, none⟩, (iv (((rdD t12 x107 z_Row).North).e1))), (10, ⟨g118, 11, none⟩, (iv (((rdD t12 x107 z_Row).North).e2))), (10, ⟨g118, 12, none⟩, (iv (((rdD t12 x107 z_Row).North).e3))), (10, ⟨g118, 13, none⟩, (iv (((rdD t12 x107 z_Row).North).e4))), (10, ⟨g118, 14, none⟩, (iv (((rdD t12 x107 z_Row).North).e5))), (10, ⟨g118, 15, none⟩, (iv (((rdD t12 x107 z_Row).North).e6))), (10, ⟨g118, 16, none⟩, (iv (((rdD t12 x107 z_Row).North).e7)))] (fun fb => by kernel_rfl) rfl ⟨nrow_adr (hS127.rd 1).1 h128.1 h128.2, trivial⟩ rfl ?_
            refine WL.lookup (mapsO.at (hS127.rd 2).1 h128.1 h128.2 hm130) ((rdD t12 x107 z_Row).North) (d := 91) (c := false) (t := 103) (kT := 97) (eT := 4) (z := false) (kE := (aggI ints_A8_Int)) (vE := vB) (l := m129) (bv (mget ((rdD t12 x107 z_Row).North) false m129)) (fun fb => by kernel_rfl) torus_find_key97 (by kernel_rfl) (fun _ => by kernel_rfl) rfl ?_
            refine ⟨trivial, ?_⟩
            refine sg 13 [] [6, 8, 10, 13, 15, 16, 18, 74, 75, 76, 92] [(6, (pt g9)), (8, (sv A17 t12 c18)), (10, (pt g24)), (13, (sv A49 x52.2 c50)), (15, (pt g87)), (16, (iv x96)), (18, (pt g118)), (74, (sv A17 t12 c18)), (75, (iv (t12.length : Int))), (76, (iv x107)), (92, (bv (mget ((rdD t12 x107 z_Row).North) false m129)))] (by kernel_rfl) ?_
            refine WL.done rfl ?_
            injection hx124 with hx124
            exact WX.to Kx123 (mget ((rdD t12 x107 z_Row).North) false m129) [6, 8, 10, 13, 15, 16, 18, 74, 75, 76, 92] rfl ⟨(hS127.subR [0, 1, 2, 3, 4, 5, 6, 7]).sub [1, 2, 3, 4, 5, 6, 0] (by decide), hx124.symm⟩
           refine WC.regionD ([(1, ⟨g118, 1, none⟩, (iv (((rdD t12 x107 z_Row).South).e0))), (1, ⟨g118, 2, none⟩, (iv (((rdD t12 x107 z_Row).South).e1))), (1, ⟨g118, 3, none⟩, (iv (((rdD t12 x107 z_Row).South).e2))), (1, ⟨g118, 4, none⟩, (iv (((rdD t12 x107 z_Row).South).e3))), (1, ⟨g118, 5, none⟩, (iv (((rdD t12 x107 z_Row).South).e4))), (1, ⟨g118, 6, none⟩, (iv (((rdD t12 x107 z_Row).South).e5))), (1, ⟨g118, 7, none⟩, (iv (((rdD t12 x107 z_Row).South).e6))), (1, ⟨g118, 8, none⟩, (iv (((rdD t12 x107 z_Row).South).e7))), (2, ⟨g87, 0, none⟩, (iv a95.e0)), (2, ⟨g87, 1, none⟩, (iv a95.e1)), (2, ⟨g87, 2, none⟩, (iv a95.e2)), (2, ⟨g87, 3, none⟩, (iv a95.e3)), (2, ⟨g87, 4, none⟩, (iv a95.e4)), (2, ⟨g87, 5, none⟩, (iv a95.e5)), (2, ⟨g87, 6, none⟩, (iv a95.e6)), (2, ⟨g87, 7, none⟩, (iv a95.e7))], [0, 1, 2, 3, 4, 5, 6, 7, 8, 9, 10, 12], [[], [0], [], [0, 1, 2], [0, 1, 2, 3], [0, 1, 2, 3, 4], [0, 1, 2, 3, 4], [0, 1, 2, 3, 4, 5, 6], [0, 1, 2, 3, 4, 5, 6, 7], [0, 1, 2, 3, 4], [0, 1, 2, 3, 4, 9], [0, 1, 2, 3, 4, 5, 6, 7, 8, 9, 10], [0, 1, 2, 3, 4, 5, 6, 7, 8, 9, 10, 11]]) [[0, 1, 2, 3, 4, 5, 6, 7, 8, 9, 10, 11, 12]] (by kernel_rfl) (by kernel_rfl) (NoPanic.seq (NoPanic.block (NoPanic.seq (NoPanic.seq (NoPanic.block (NoPanic.scope (NoPanic.block (NoPanic.seq (NoPanic.seq (NoPanic.block (NoPanic.seq (NoPanic.block (NoPanic.seq (NoPanic.seq (NoPanic.block (NoPanic.seq (NoPanic.scope (NoPanic.body)))))))))))))))))) ?_
           have hS132 := hS122.drew
           revert hS132
           generalize World.drew w121 = w131
           intro hS132
           refine ⟨⟨hS132.cell 0 rfl 1 rfl, hS132.cell 0 rfl 2 rfl, hS132.cell 0 rfl 3 rfl, hS132.cell 0 rfl 4 rfl, hS132.cell 0 rfl 5 rfl, hS132.cell 0 rfl 6 rfl, hS132.cell 0 rfl 7 rfl, hS132.cell 0 rfl 8 rfl, hS132.cell 6 rfl 0 rfl, hS132.cell 6 rfl 1 rfl, hS132.cell 6 rfl 2 rfl, hS132.cell 6 rfl 3 rfl, hS132.cell 6 rfl 4 rfl, hS132.cell 6 rfl 5 rfl, hS132.cell 6 rfl 6 rfl, hS132.cell 6 rfl 7 rfl, trivial⟩, forallC ?_ (forallN)⟩
           refine segF 5 [.v (iv (((rdD t12 x107 z_Row).South).e0)), .v (iv (((rdD t12 x107 z_Row).South).e1)), .v (iv (((rdD t12 x107 z_Row).South).e2)), .v (iv (((rdD t12 x107 z_Row).South).e3)), .v (iv (((rdD t12 x107 z_Row).South).e4)), .v (iv (((rdD t12 x107 z_Row).South).e5)), .v (iv (((rdD t12 x107 z_Row).South).e6)), .v (iv (((rdD t12 x107 z_Row).South).e7)), .v (iv a95.e0), .v (iv a95.e1), .v (iv a95.e2), .v (iv a95.e3), .v (iv a95.e4), .v (iv a95.e5), .v (iv a95.e6), .v (iv a95.e7)] [6, 8, 10, 13, 15, 16, 18, 74, 75, 76, 84] [(6, (pt g9)), (8, (sv A17 t12 c18)), (10, (pt g24)), (13, (sv A49 x52.2 c50)), (15, (pt g87)), (16, (iv x96)), (18, (pt g118)), (74, (sv A17 t12 c18)), (75, (iv (t12.length : Int))), (76, (iv x107)), (84, (bv ((((rdD t12 x107 z_Row).South).e0) == a95.e0 && ((((rdD t12 x107 z_Row).South).e1) == a95.e1 && ((((rdD t12 x107 z_Row).South).e2) == a95.e2 && ((((rdD t12 x107 z_Row).South).e3) == a95.e3 && ((((rdD t12 x107 z_Row).South).e4) == a95.e4 && ((((rdD t12 x107 z_Row).South).e5) == a95.e5 && ((((rdD t12 x107 z_Row).South).e6) == a95.e6 && ((((rdD t12 x107 z_Row).South).e7) == a95.e7))))))))))] [] [0, 1, 2, 3, 4, 5, 6, 7, 8, 9, 10, 11, 12, 13, 14, 15] [(1, ⟨g118, 1, none⟩, (iv (((rdD t12 x107 z_Row).South).e0))), (1, ⟨g118, 2, none⟩, (iv (((rdD t12 x107 z_Row).South).e1))), (1, ⟨g118, 3, none⟩, (iv (((rdD t12 x107 z_Row).South).e2))), (1, ⟨g118, 4, none⟩, (iv (((rdD t12 x107 z_Row).South).e3))), (1, ⟨g118, 5, none⟩, (iv (((rdD t12 x107 z_Row).South).e4))), (1, ⟨g118, 6, none⟩, (iv (((rdD t12 x107 z_Row).South).e5))), (1, ⟨g118, 7, none⟩, (iv (((rdD t12 x107 z_Row).South).e6))), (1, ⟨g118, 8, none⟩, (iv (((rdD t12 x107 z_Row).South).e7))), (2, ⟨g87, 0, none⟩, (iv a95.e0)), (2, ⟨g87, 1, none⟩, (iv a95.e1)), (2, ⟨g87, 2, none⟩, (iv a95.e2)), (2, ⟨g87, 3, none⟩, (iv a95.e3)), (2, ⟨g87, 4, none⟩, (iv a95.e4)), (2, ⟨g87, 5, none⟩, (iv a95.e5)), (2, ⟨g87, 6, none⟩, (iv a95.e6)), (2, ⟨g87, 7, none⟩, (iv a95.e7))] (fun fb => by kernel_rfl) rfl trivial rfl ?_
           refine WL.setB 84 h125 rfl ?_
           refine sg 13 [] [6, 8, 10, 13, 15, 16, 18, 74, 75, 76, 92] [(6, (pt g9)), (8, (sv A17 t12 c18)), (10, (pt g24)), (13, (sv A49 x52.2 c50)), (15, (pt g87)), (16, (iv x96)), (18, (pt g118)), (74, (sv A17 t12 c18)), (75, (iv (t12.length : Int))), (76, (iv x107)), (92, (bv false))] (by kernel_rfl) ?_
           refine WL.done rfl ?_
           injection hx124 with hx124
           exact WX.to Kx123 false [6, 8, 10, 13, 15, 16, 18, 74, 75, 76, 92] rfl ⟨(hS132.subR [0, 1, 2, 3, 4, 5, 6, 7]).sub [1, 2, 3, 4, 5, 6, 0] (by decide), hx124.symm⟩
          rintro y136 w133 ⟨hS134, hq135⟩
          subst hq135
          refine WX.next ?_
          rcases br_some hl115 with ⟨h137, hl115⟩ | ⟨h137, hl115⟩
          ·refine WC.condT2 (fun fb => by kernel_rfl) h137 ?_
           refine WC.seq (WC.region ?_)
           refine seg 4 [.v (sv A92 l94 c93), .v (sv ((H19 x107.toNat 0).1) ((rdD t12 x107 z_Row).Cells) ((H19 x107.toNat 0).2))] [6, 8, 10, 13, 15, 16, 18, 94, 96] [(6, (pt g9)), (8, (sv A17 t12 c18)), (10, (pt g24)), (13, (sv A49 x52.2 c50)), (15, (pt g87)), (16, (iv x96)), (18, (pt g118)), (94, (sv A92 l94 c93)), (96, (sv ((H19 x107.toNat 0).1) ((rdD t12 x107 z_Row).Cells) ((H19 x107.toNat 0).2)))] [.cell ⟨g24, 2, none⟩ (sv A92 l94 c93), .cell ⟨g118, 0, none⟩ (sv ((H19 x107.toNat 0).1) ((rdD t12 x107 z_Row).Cells) ((H19 x107.toNat 0).2))] (fun fb => by kernel_rfl) rfl ⟨hS134.cell 3 rfl 2 rfl, hS134.cell 6 rfl 0 rfl, trivial⟩ ?_
           obtain ⟨h138, hl115⟩ := as_some hl115
           refine WL.append hS134 4 (d := 97) (tS := 37) (z := (iv 0)) (bytes := 8) (c2 := (H19 x107.toNat 0).2) rfl (fun fb => by kernel_rfl) (nestO.at ((hS134.own 2).1 0) z_Row h117.1 h117.2) (by kernel_rfl) (by kernel_rfl) rfl (by decide) h138 (by decide) [0, 1, 2, 3, 5, 6] (by decide) (by decide) (fun A139 c140 w141 hS142 => ?_)
           refine ⟨trivial, ?_⟩
           refine sg 6 [] [6, 8, 10, 13, 15, 16, 18, 97, 98] [(6, (pt g9)), (8, (sv A17 t12 c18)), (10, (pt g24)), (13, (sv A49 x52.2 c50)), (15, (pt g87)), (16, (iv x96)), (18, (pt g118)), (97, (sv A139 (l94 ++ ((rdD t12 x107 z_Row).Cells)) c140)), (98, (.pointer (some ⟨g24, 2, none⟩)))] (by kernel_rfl) ?_
           refine WL.store hS142 4 rfl [(2, (sv A139 (l94 ++ ((rdD t12 x107 z_Row).Cells)) c140))] #[(iv p1), (iv p2), (sv A139 (l94 ++ ((rdD t12 x107 z_Row).Cells)) c140)] (fun fb => by kernel_rfl) (by kernel_rfl) rfl [0, 1, 2, 3, 5, 6] (by decide) (by decide) (fun w143 hS144 => ?_)
           refine ⟨trivial, ?_⟩
           refine WL.done rfl (WX.next (WC.seq (WC.region ?_)))
           refine seg 2 [.v (iv (((rdD t12 x107 z_Row).North).e0)), .v (iv (((rdD t12 x107 z_Row).North).e1)), .v (iv (((rdD t12 x107 z_Row).North).e2)), .v (iv (((rdD t12 x107 z_Row).North).e3)), .v (iv (((rdD t12 x107 z_Row).North).e4)), .v (iv (((rdD t12 x107 z_Row).North).e5)), .v (iv (((rdD t12 x107 z_Row).North).e6)), .v (iv (((rdD t12 x107 z_Row).North).e7))] [6, 8, 10, 13, 15, 16, 100] [(6, (pt g9)), (8, (sv A17 t12 c18)), (10, (pt g24)), (13, (sv A49 x52.2 c50)), (15, (pt g87)), (16, (iv x96)), (100, (.agg #[(iv (((rdD t12 x107 z_Row).North).e0)), (iv (((rdD t12 x107 z_Row).North).e1)), (iv (((rdD t12 x107 z_Row).North).e2)), (iv (((rdD t12 x107 z_Row).North).e3)), (iv (((rdD t12 x107 z_Row).North).e4)), (iv (((rdD t12 x107 z_Row).North).e5)), (iv (((rdD t12 x107 z_Row).North).e6)), (iv (((rdD t12 x107 z_Row).North).e7))]))] [.cell ⟨g118, 9, none⟩ (iv (((rdD t12 x107 z_Row).North).e0)), .cell ⟨g118, 10, none⟩ (iv (((rdD t12 x107 z_Row).North).e1)), .cell ⟨g118, 11, none⟩ (iv (((rdD t12 x107 z_Row).North).e2)), .cell ⟨g118, 12, none⟩ (iv (((rdD t12 x107 z_Row).North).e3)), .cell ⟨g118, 13, none⟩ (iv (((rdD t12 x107 z_Row).North).e4)), .cell ⟨g118, 14, none⟩ (iv (((rdD t12 x107 z_Row).North).e5)), .cell ⟨g118, 15, none⟩ (iv (((rdD t12 x107 z_Row).North).e6)), .cell ⟨g118, 16, none⟩ (iv (((rdD t12 x107 z_Row).North).e7))] (fun fb => by kernel_rfl) rfl ⟨hS144.cell 6 rfl 9 rfl, hS144.cell 6 rfl 10 rfl, hS144.cell 6 rfl 11 rfl, hS144.cell 6 rfl 12 rfl, hS144.cell 6 rfl 13 rfl, hS144.cell 6 rfl 14 rfl, hS144.cell 6 rfl 15 rfl, hS144.cell 6 rfl 16 rfl, trivial⟩ ?_
           refine WL.store hS144 5 rfl [(0, (iv (((rdD t12 x107 z_Row).North).e0))), (1, (iv (((rdD t12 x107 z_Row).North).e1))), (2, (iv (((rdD t12 x107 z_Row).North).e2))), (3, (iv (((rdD t12 x107 z_Row).North).e3))), (4, (iv (((rdD t12 x107 z_Row).North).e4))), (5, (iv (((rdD t12 x107 z_Row).North).e5))), (6, (iv (((rdD t12 x107 z_Row).North).e6))), (7, (iv (((rdD t12 x107 z_Row).North).e7)))] #[(iv (((rdD t12 x107 z_Row).North).e0)), (iv (((rdD t12 x107 z_Row).North).e1)), (iv (((rdD t12 x107 z_Row).North).e2)), (iv (((rdD t12 x107 z_Row).North).e3)), (iv (((rdD t12 x107 z_Row).North).e4)), (iv (((rdD t12 x107 z_Row).North).e5)), (iv (((rdD t12 x107 z_Row).North).e6)), (iv (((rdD t12 x107 z_Row).North).e7))] (fun fb => by kernel_rfl) (by kernel_rfl) rfl [0, 1, 2, 3, 4, 6] (by decide) (by decide) (fun w145 hS146 => ?_)
           refine ⟨trivial, ?_⟩
           refine WL.done rfl (WX.next ?_)
           refine WC.exit ?_
           injection hl115 with hl115
           exact WX.blockPast (by decide) (WX.thenX (WX.thenX (WX.blockHere (WX.to Kx110 ((l94 ++ ((rdD t12 x107 z_Row).Cells), ((rdD t12 x107 z_Row).North)), A139, c140) [6, 8, 10, 13, 15, 16] rfl ⟨(hS146.subR [0, 1, 2, 3, 4, 5, 6, 7]).sub [3, 4, 5, 1, 2, 0] (by decide), hl115.symm⟩))))
          refine WC.condF2 (fun fb => by kernel_rfl) h137 ?_
          refine WC.skip ?_
          refine WX.blockN (WX.next ?_)
          refine WC.region ?_
          refine sg 2 [] [6, 8, 10, 13, 15, 16, 74, 75, 76] [(6, (pt g9)), (8, (sv A17 t12 c18)), (10, (pt g24)), (13, (sv A49 x52.2 c50)), (15, (pt g87)), (16, (iv x96)), (74, (sv A17 t12 c18)), (75, (iv (t12.length : Int))), (76, (iv (w64 (x107 + 1))))] (by kernel_rfl) ?_
          refine WL.done rfl ?_
          exact WX.again k112 (Nat.lt_succ_self _) (w64 (x107 + 1)) [6, 8, 10, 13, 15, 16, 74, 75, 76] rfl ⟨(hS134.subR [0, 1, 2, 3, 4, 5, 6, 7]).sub [0, 1, 2, 3, 4, 5] (by decide), hl115⟩
         refine WC.condF2 (fun fb => by kernel_rfl) h116 ?_
         refine WC.exit ?_
         injection hl115 with hl115
         exact WX.thenX (WX.thenX (WX.blockHere (WX.to Kx110 ((l94, a95), A92, c93) [6, 8, 10, 13, 15, 16] rfl ⟨(hS114.subR [0, 1, 2, 3, 4, 5, 6, 7]).sub [0, 1, 2, 3, 4, 5] (by decide), hl115.symm⟩)))
       rintro ⟨y150, A108, c109⟩ w147 ⟨hS148, hq149⟩
       subst hq149
       refine WX.scopeN (WX.blockN (WX.next ?_))
       refine WC.region ?_
       refine sg 3 [] [6, 8, 10, 13, 15, 16] [(6, (pt g9)), (8, (sv A17 t12 c18)), (10, (pt g24)), (13, (sv A49 x52.2 c50)), (15, (pt g87)), (16, (iv (w64 (x96 - 1))))] (by kernel_rfl) ?_
       refine WL.done rfl ?_
       exact WX.again k102 (Nat.lt_succ_self _) ((x110.1, x110.2, w64 (x96 - 1)), A108, c109) [6, 8, 10, 13, 15, 16] rfl ⟨(hS148.subR [0, 1, 2, 3, 4, 5, 6, 7]).sub [0, 1, 2, 3, 4, 5] (by decide), hl105⟩
      refine WC.condF2 (fun fb => by kernel_rfl) h106 ?_
      refine WC.exit ?_
      injection hl105 with hl105
      exact WX.thenX (WX.thenX (WX.blockHere (WX.to Kx100 (l94, A92, c93) [6, 10] rfl ⟨(hS104.subR [0, 1, 2, 3, 4, 5, 6, 7]).sub [0, 3, 4] (by decide), hl105.symm⟩)))
    rintro ⟨y154, A98, c99⟩ w151 ⟨hS152, hq153⟩
    subst hq153
    refine WX.next (WC.seq (WC.region ?_))
    refine seg 1 [.v (iv p1), .v (iv p2), .v (sv A98 x100 c99)] [6, 102] [(6, (pt g9)), (102, (.agg #[(iv p1), (iv p2), (sv A98 x100 c99)]))] [.cell ⟨g24, 0, none⟩ (iv p1), .cell ⟨g24, 1, none⟩ (iv p2), .cell ⟨g24, 2, none⟩ (sv A98 x100 c99)] (fun fb => by kernel_rfl) rfl ⟨hS152.cell 1 rfl 0 rfl, hS152.cell 1 rfl 1 rfl, hS152.cell 1 rfl 2 rfl, trivial⟩ ?_
    refine WL.store hS152 0 rfl [(0, (iv p1)), (1, (iv p2)), (2, (sv A98 x100 c99))] #[(iv p1), (iv p2), (sv A98 x100 c99)] (fun fb => by kernel_rfl) (by kernel_rfl) rfl [1, 2] (by decide) (by decide) (fun w155 hS156 => ?_)
    refine ⟨trivial, ?_⟩
    refine sg 3 [] [6, 7] [(6, (pt g9)), (7, (bv true))] (by kernel_rfl) ?_
    refine WL.done rfl (WX.next ?_)
    refine WC.ret ?_
    injection hl37 with hl37
    subst hl37
    injection hf with hf
    subst hf
    exact WX.blockR (WX.thenR (WX.thenR (WX.blockR (WX.thenR (WX.scopeR (WX.ret_ [.v (iv p1), .v (iv p2), .v (sv A98 x100 c99)] (.tuple #[(.agg #[(iv p1), (iv p2), (sv A98 x100 c99)]), (bv true)]) [.cell ⟨g9, 0, none⟩ (iv p1), .cell ⟨g9, 1, none⟩ (iv p2), .cell ⟨g9, 2, none⟩ (sv A98 x100 c99)] (fun fb => by kernel_rfl) ⟨hS156.cell 0 rfl 0 rfl, hS156.cell 0 rfl 1 rfl, hS156.cell 0 rfl 2 rfl, trivial⟩ ⟨_, rfl, A98, c99, rfl, (hS156.sub [2] (by decide)).noR⟩))))))
   refine WC.condF2 (fun fb => by kernel_rfl) h38 ?_
   refine WC.exit ?_
   injection hl37 with hl37
   exact WX.thenX (WX.thenX (WX.blockHere (WX.to Kx32 () [6] rfl ⟨(hS36.subR [1, 2]).sub [0] (by decide), hl37.symm⟩)))
 rintro y160 w157 ⟨hS158, hq159⟩
 subst hq159
 have hf := sum_inr hf
 refine WX.next (WC.seq (WC.region ?_))
 refine sg 1 [] [6, 104] [(6, (pt g9)), (104, (.agg #[(iv 0), (iv 0), (.slice none 0 0)]))] (by kernel_rfl) ?_
 refine WL.store hS158 0 rfl [(0, (iv 0)), (1, (iv 0)), (2, (.slice none 0 0))] #[(iv 0), (iv 0), (.slice none 0 0)] (fun fb => by kernel_rfl) (by kernel_rfl) rfl [] (by decide) (by decide) (fun w161 hS162 => ?_)
 refine ⟨trivial, ?_⟩
 refine sg 3 [] [6, 7] [(6, (pt g9)), (7, (bv false))] (by kernel_rfl) ?_
 refine WL.done rfl (WX.next ?_)
 refine WC.ret ?_
 have hS163 := hS162.nilrow 3 encInt
 injection hf with hf
 subst hf
 exact WX.scopeR (WX.ret_ [.v (iv 0), .v (iv 0), .v (.slice none 0 0)] (.tuple #[(.agg #[(iv 0), (iv 0), (sv none ([] : List Int) 0)]), (bv false)]) [.cell ⟨g9, 0, none⟩ (iv 0), .cell ⟨g9, 1, none⟩ (iv 0), .cell ⟨g9, 2, none⟩ (.slice none 0 0)] (fun fb => by kernel_rfl) ⟨hS162.cell 0 rfl 0 rfl, hS162.cell 0 rfl 1 rfl, hS162.cell 0 rfl 2 rfl, trivial⟩ ⟨_, rfl, none, 0, rfl, (hS163.sub [0] (by decide)).noR⟩)
theorem torus_Least_calls (k : Nat) (p0 : List Tile) (p1 : Int) (Aa : Option Addr) (ca : Nat) (r : Pattern × Int) (w : World) (hR0 : RO NoS w (rowR enc_Tile Aa ca p0)) (hf : torus_Least k p0 p1 = some r) :
  CallsR Try.prog 32 #[(sv Aa p0 ca), (iv p1)] w (fun v w' => ∃ (A1_ : Option Addr), ∃ (c1_ : Nat), v = (.tuple #[(.agg #[(iv r.1.Width), (iv r.1.Height), (sv A1_ r.1.Cells c1_)]), (iv r.2)]) ∧ St NoS w w' [] [rowO 3 encInt A1_ c1_ r.1.Cells]) := by
 have hS : St NoS w w [rowR enc_Tile Aa ca p0] [] := St.init (ro_cons hR0 (ro_nil _ _))
 refine enter 61 Try.func32 rfl Try.ntmps32 rfl ?_
 unfold torus_Least at hf
 refine WC.seq (WC.region ?_)
 refine WL.new hS 4 [] (fun g => (pt g)) (.cells #[(iv 0), (iv 0), (.slice none 0 0)] 39 (0, 0)) [] (fun fb g => by kernel_rfl) trivial (fun g3 w4 hS5 => ?_)
 refine ⟨trivial, ?_⟩
 refine sg 2 [] [0, 1, 4] [(0, (sv Aa p0 ca)), (1, (iv p1)), (4, (pt g3))] (by kernel_rfl) ?_
 refine WL.done rfl (WX.next (WC.seq (WC.seq (WC.region ?_))))
 refine sg 1 [] [0, 1, 4, 10] [(0, (sv Aa p0 ca)), (1, (iv p1)), (4, (pt g3)), (10, (sv Aa p0 ca))] (by kernel_rfl) ?_
 obtain ⟨t6, ht7, hf⟩ := bind_some hf
 refine WL.call (some 11) 33 #[(sv Aa p0 ca)] (fun fb => by kernel_rfl) (tile_Valid_calls _ p0 Aa ca t6 _ (hS5.rd 0) ht7) (fun v w8 hR9 => ?_)
 obtain ⟨rfl, hk_⟩ := hR9
 have hS10 := hS5.keepN hk_
 refine ⟨trivial, ?_⟩
 refine sg 3 [] [0, 1, 4, 12] [(0, (sv Aa p0 ca)), (1, (iv p1)), (4, (pt g3)), (12, (bv (!t6)))] (by kernel_rfl) ?_
 refine WL.done rfl (WX.next ?_)
 rcases br_some hf with ⟨h11, hf⟩ | ⟨h11, hf⟩
 ·refine WC.condT2 (fun fb => by kernel_rfl) h11 ?_
  refine WC.seq (WC.region ?_)
  refine sg 1 [] [4, 13] [(4, (pt g3)), (13, (.agg #[(iv 0), (iv 0), (.slice none 0 0)]))] (by kernel_rfl) ?_
  refine WL.store hS10 0 rfl [(0, (iv 0)), (1, (iv 0)), (2, (.slice none 0 0))] #[(iv 0), (iv 0), (.slice none 0 0)] (fun fb => by kernel_rfl) (by kernel_rfl) rfl [] (by decide) (by decide) (fun w12 hS13 => ?_)
  refine ⟨trivial, ?_⟩
  refine sg 3 [] [4, 5] [(4, (pt g3)), (5, (iv 1))] (by kernel_rfl) ?_
  refine WL.done rfl (WX.next ?_)
  refine WC.ret ?_
  have hS14 := hS13.nilrow 3 encInt
  injection hf with hf
  subst hf
  exact WX.thenR (WX.ret_ [.v (iv 0), .v (iv 0), .v (.slice none 0 0)] (.tuple #[(.agg #[(iv 0), (iv 0), (sv none ([] : List Int) 0)]), (iv 1)]) [.cell ⟨g3, 0, none⟩ (iv 0), .cell ⟨g3, 1, none⟩ (iv 0), .cell ⟨g3, 2, none⟩ (.slice none 0 0)] (fun fb => by kernel_rfl) ⟨hS13.cell 0 rfl 0 rfl, hS13.cell 0 rfl 1 rfl, hS13.cell 0 rfl 2 rfl, trivial⟩ ⟨_, rfl, none, 0, rfl, (hS14.sub [0] (by decide)).noR⟩)
 refine WC.condF2 (fun fb => by kernel_rfl) h11 ?_
 refine WC.skip (WX.next (WC.seq (WC.seq (WC.region ?_))))
 refine sg 3 [] [0, 1, 4, 16] [(0, (sv Aa p0 ca)), (1, (iv p1)), (4, (pt g3)), (16, (bv (decide (p1 < 1))))] (by kernel_rfl) ?_
 refine WL.cutV (T := Bool) 6 (fun t => [(19, (bv t)), (0, (sv Aa p0 ca)), (1, (iv p1)), (4, (pt g3))]) (fun t => ((decide (p1 < 1)) || (decide (p1 > 6))) = t) (fun K => ?_) ?_
 ·
  rcases Bool.eq_false_or_eq_true (decide (p1 < 1)) with h15 | h15
  ·
   refine WL.setB 16 h15 rfl ?_
   refine sg 6 [] [0, 1, 4, 19] [(0, (sv Aa p0 ca)), (1, (iv p1)), (4, (pt g3)), (19, (bv true))] (by kernel_rfl) ?_
   exact WL.toV K true [19, 0, 1, 4] rfl (by first | (rw [h15]; done) | (rw [h15]; rfl))
  refine WL.setB 16 h15 rfl ?_
  refine sg 6 [] [0, 1, 4, 19] [(0, (sv Aa p0 ca)), (1, (iv p1)), (4, (pt g3)), (19, (bv (decide (p1 > 6))))] (by kernel_rfl) ?_
  exact WL.toV K (decide (p1 > 6)) [19, 0, 1, 4] rfl (by first | (rw [h15]; done) | (rw [h15]; rfl))
 rintro b16 rfl
 refine WL.done rfl (WX.next ?_)
 rcases br_some hf with ⟨h17, hf⟩ | ⟨h17, hf⟩
 ·refine WC.condT2 (fun fb => by kernel_rfl) h17 ?_
  refine WC.seq (WC.region ?_)
  refine sg 1 [] [4, 20] [(4, (pt g3)), (20, (.agg #[(iv 0), (iv 0), (.slice none 0 0)]))] (by kernel_rfl) ?_
  refine WL.store hS10 0 rfl [(0, (iv 0)), (1, (iv 0)), (2, (.slice none 0 0))] #[(iv 0), (iv 0), (.slice none 0 0)] (fun fb => by kernel_rfl) (by kernel_rfl) rfl [] (by decide) (by decide) (fun w18 hS19 => ?_)
  refine ⟨trivial, ?_⟩
  refine sg 3 [] [4, 5] [(4, (pt g3)), (5, (iv 2))] (by kernel_rfl) ?_
  refine WL.done rfl (WX.next ?_)
  refine WC.ret ?_
  have hS20 := hS19.nilrow 3 encInt
  injection hf with hf
  subst hf
  exact WX.thenR (WX.ret_ [.v (iv 0), .v (iv 0), .v (.slice none 0 0)] (.tuple #[(.agg #[(iv 0), (iv 0), (sv none ([] : List Int) 0)]), (iv 2)]) [.cell ⟨g3, 0, none⟩ (iv 0), .cell ⟨g3, 1, none⟩ (iv 0), .cell ⟨g3, 2, none⟩ (.slice none 0 0)] (fun fb => by kernel_rfl) ⟨hS19.cell 0 rfl 0 rfl, hS19.cell 0 rfl 1 rfl, hS19.cell 0 rfl 2 rfl, trivial⟩ ⟨_, rfl, none, 0, rfl, (hS20.sub [0] (by decide)).noR⟩)
 refine WC.condF2 (fun fb => by kernel_rfl) h17 ?_
 refine WC.skip (WX.next (WC.seq (WC.seq (WC.region ?_))))
 refine sg 2 [] [0, 1, 4, 21, 22] [(0, (sv Aa p0 ca)), (1, (iv p1)), (4, (pt g3)), (21, (sv Aa p0 ca)), (22, (iv p1))] (by kernel_rfl) ?_
 obtain ⟨t21, ht22, hf⟩ := bind_some hf
 refine WL.call (some 23) 44 #[(sv Aa p0 ca), (iv p1)] (fun fb => by kernel_rfl) (rows_Few_calls _ p0 p1 Aa ca t21 _ (hS10.rd 0) ht22) (fun v w23 hR24 => ?_)
 obtain ⟨rfl, hk_⟩ := hR24
 have hS25 := hS10.keepN hk_
 refine ⟨trivial, ?_⟩
 refine sg 4 [] [0, 1, 4, 24] [(0, (sv Aa p0 ca)), (1, (iv p1)), (4, (pt g3)), (24, (bv (!t21)))] (by kernel_rfl) ?_
 refine WL.done rfl (WX.next ?_)
 rcases br_some hf with ⟨h26, hf⟩ | ⟨h26, hf⟩
 ·refine WC.condT2 (fun fb => by kernel_rfl) h26 ?_
  refine WC.seq (WC.region ?_)
  refine sg 1 [] [4, 25] [(4, (pt g3)), (25, (.agg #[(iv 0), (iv 0), (.slice none 0 0)]))] (by kernel_rfl) ?_
  refine WL.store hS25 0 rfl [(0, (iv 0)), (1, (iv 0)), (2, (.slice none 0 0))] #[(iv 0), (iv 0), (.slice none 0 0)] (fun fb => by kernel_rfl) (by kernel_rfl) rfl [] (by decide) (by decide) (fun w27 hS28 => ?_)
  refine ⟨trivial, ?_⟩
  refine sg 3 [] [4, 5] [(4, (pt g3)), (5, (iv 4))] (by kernel_rfl) ?_
  refine WL.done rfl (WX.next ?_)
  refine WC.ret ?_
  have hS29 := hS28.nilrow 3 encInt
  injection hf with hf
  subst hf
  exact WX.thenR (WX.ret_ [.v (iv 0), .v (iv 0), .v (.slice none 0 0)] (.tuple #[(.agg #[(iv 0), (iv 0), (sv none ([] : List Int) 0)]), (iv 4)]) [.cell ⟨g3, 0, none⟩ (iv 0), .cell ⟨g3, 1, none⟩ (iv 0), .cell ⟨g3, 2, none⟩ (.slice none 0 0)] (fun fb => by kernel_rfl) ⟨hS28.cell 0 rfl 0 rfl, hS28.cell 0 rfl 1 rfl, hS28.cell 0 rfl 2 rfl, trivial⟩ ⟨_, rfl, none, 0, rfl, (hS29.sub [0] (by decide)).noR⟩)
 refine WC.condF2 (fun fb => by kernel_rfl) h26 ?_
 refine WC.skip (WX.next (WC.seq (WC.seq (WC.region ?_))))
 refine sg 1 [] [0, 1, 4, 6] [(0, (sv Aa p0 ca)), (1, (iv p1)), (4, (pt g3)), (6, (iv 1))] (by kernel_rfl) ?_
 refine WL.done rfl (WX.next ?_)
 obtain ⟨x31, hx33, hf⟩ := bind_some hf
 refine WC.cutN (T := Unit) (fun t => [(4, (pt g3))]) (fun t w1 => St NoS w w1 [rowR enc_Tile Aa ca p0] [blk g3 (.cells #[(iv 0), (iv 0), (.slice none 0 0)] 39 (0, 0))] ∧ x31 = .inr t) (fun Kx31 => ?_) ?_
 ·
  refine WC.block ?_
  refine WC.loop (T := Int) (fun t => [(0, (sv Aa p0 ca)), (1, (iv p1)), (4, (pt g3)), (6, (iv t))]) (fun n t w1 => St NoS w w1 [rowR enc_Tile Aa ca p0] [blk g3 (.cells #[(iv 0), (iv 0), (.slice none 0 0)] 39 (0, 0))] ∧ torus_Least.l0 n t p0 p1 = some x31) k 1 [0, 1, 4, 6] rfl ⟨(hS25.subR [0]).sub [0] (by decide), hx33⟩ ?_
  rintro k34 x30 w35 ⟨hS36, hl37⟩
  cases k34 with
  | zero => rw [torus_Least.l0] at hl37; cases hl37
  | succ k34 =>
   rw [torus_Least.l0] at hl37
   refine WC.seq (WC.seq (WC.region ?_))
   refine sg 5 [] [0, 1, 4, 6, 30] [(0, (sv Aa p0 ca)), (1, (iv p1)), (4, (pt g3)), (6, (iv x30)), (30, (bv (decide (x30 ≤ w64 (p1 * p1)))))] (by kernel_rfl) ?_
   refine WL.done rfl (WX.next ?_)
   rcases br_some hl37 with ⟨h38, hl37⟩ | ⟨h38, hl37⟩
   ·refine WC.condT2 (fun fb => by kernel_rfl) h38 ?_
    refine WC.skip (WX.next (WC.seq (WC.block (WC.seq (WC.region ?_)))))
    refine sg 1 [] [0, 1, 4, 6, 7] [(0, (sv Aa p0 ca)), (1, (iv p1)), (4, (pt g3)), (6, (iv x30)), (7, (iv 1))] (by kernel_rfl) ?_
    refine WL.done rfl (WX.next ?_)
    obtain ⟨x40, hx41, hl37⟩ := bind_some hl37
    refine WC.cutN (T := Unit) (fun t => [(0, (sv Aa p0 ca)), (1, (iv p1)), (4, (pt g3)), (6, (iv x30))]) (fun t w1 => St NoS w w1 [rowR enc_Tile Aa ca p0] [blk g3 (.cells #[(iv 0), (iv 0), (.slice none 0 0)] 39 (0, 0))] ∧ x40 = .inr t) (fun Kx40 => ?_) ?_
    ·
     refine WC.block ?_
     refine WC.loop (T := Int) (fun t => [(0, (sv Aa p0 ca)), (1, (iv p1)), (4, (pt g3)), (6, (iv x30)), (7, (iv t))]) (fun n t w1 => St NoS w w1 [rowR enc_Tile Aa ca p0] [blk g3 (.cells #[(iv 0), (iv 0), (.slice none 0 0)] 39 (0, 0))] ∧ torus_Least.l1 n t p0 p1 x30 = some x40) k34 1 [0, 1, 4, 6, 7] rfl ⟨(hS36.subR [0]).sub [0] (by decide), hx41⟩ ?_
     rintro k42 x39 w43 ⟨hS44, hl45⟩
     cases k42 with
     | zero => rw [torus_Least.l1] at hl45; cases hl45
     | succ k42 =>
      rw [torus_Least.l1] at hl45
      refine WC.seq (WC.seq (WC.region ?_))
      refine sg 3 [] [0, 1, 4, 6, 7, 35] [(0, (sv Aa p0 ca)), (1, (iv p1)), (4, (pt g3)), (6, (iv x30)), (7, (iv x39)), (35, (bv (decide (x39 ≤ p1))))] (by kernel_rfl) ?_
      refine WL.done rfl (WX.next ?_)
      rcases br_some hl45 with ⟨h46, hl45⟩ | ⟨h46, hl45⟩
      ·refine WC.condT2 (fun fb => by kernel_rfl) h46 ?_
       refine WC.skip (WX.next (WC.seq ?_))
       obtain ⟨x47, hx48, hl45⟩ := bind_some hl45
       refine WC.cutN (T := Unit) (fun t => [(0, (sv Aa p0 ca)), (1, (iv p1)), (4, (pt g3)), (6, (iv x30)), (7, (iv x39))]) (fun t w1 => St NoS w w1 [rowR enc_Tile Aa ca p0] [blk g3 (.cells #[(iv 0), (iv 0), (.slice none 0 0)] 39 (0, 0))] ∧ x47 = .inr t) (fun Kx47 => ?_) ?_
       ·
        refine WC.block (WC.seq (WC.seq (WC.region ?_)))
        refine sg 2 [] [0, 1, 4, 6, 7, 38, 39] [(0, (sv Aa p0 ca)), (1, (iv p1)), (4, (pt g3)), (6, (iv x30)), (7, (iv x39)), (38, (iv x30)), (39, (iv x39))] (by kernel_rfl) ?_
        obtain ⟨h49, hx48⟩ := as_some hx48
        refine seg 5 [] [0, 1, 4, 6, 7, 42] [(0, (sv Aa p0 ca)), (1, (iv p1)), (4, (pt g3)), (6, (iv x30)), (7, (iv x39)), (42, (bv ((Int.tmod x30 x39) != 0)))] [.ne x39] (fun fb => by kernel_rfl) rfl ⟨h49, trivial⟩ ?_
        refine WL.cutV (T := Bool) 11 (fun t => [(48, (bv t)), (0, (sv Aa p0 ca)), (1, (iv p1)), (4, (pt g3)), (6, (iv x30)), (7, (iv x39))]) (fun t => (((Int.tmod x30 x39) != 0) || (decide (w64 (Int.tdiv x30 x39) > p1))) = t) (fun K => ?_) ?_
        ·
         rcases Bool.eq_false_or_eq_true ((Int.tmod x30 x39) != 0) with h50 | h50
         ·
          refine WL.setB 42 h50 rfl ?_
          refine sg 11 [] [0, 1, 4, 6, 7, 48] [(0, (sv Aa p0 ca)), (1, (iv p1)), (4, (pt g3)), (6, (iv x30)), (7, (iv x39)), (48, (bv true))] (by kernel_rfl) ?_
          exact WL.toV K true [48, 0, 1, 4, 6, 7] rfl (by first | (rw [h50]; done) | (rw [h50]; rfl))
         refine WL.setB 42 h50 rfl ?_
         refine seg 11 [] [0, 1, 4, 6, 7, 48] [(0, (sv Aa p0 ca)), (1, (iv p1)), (4, (pt g3)), (6, (iv x30)), (7, (iv x39)), (48, (bv (decide (w64 (Int.tdiv x30 x39) > p1))))] [.ne x39] (fun fb => by kernel_rfl) rfl ⟨h49, trivial⟩ ?_
         exact WL.toV K (decide (w64 (Int.tdiv x30 x39) > p1)) [48, 0, 1, 4, 6, 7] rfl (by first | (rw [h50]; done) | (rw [h50]; rfl))
        rintro b51 rfl
        refine WL.done rfl (WX.next ?_)
        rcases br_some hx48 with ⟨h52, hx48⟩ | ⟨h52, hx48⟩
        ·refine WC.condT2 (fun fb => by kernel_rfl) h52 ?_
         refine WC.exit ?_
         injection hx48 with hx48
         exact WX.thenX (WX.blockHere (WX.to Kx47 () [0, 1, 4, 6, 7] rfl ⟨(hS44.subR [0]).sub [0] (by decide), hx48.symm⟩))
        refine WC.condF2 (fun fb => by kernel_rfl) h52 ?_
        refine WC.skip (WX.next (WC.seq (WC.region ?_)))
        refine seg 5 [] [0, 1, 4, 6, 7, 50, 51, 54] [(0, (sv Aa p0 ca)), (1, (iv p1)), (4, (pt g3)), (6, (iv x30)), (7, (iv x39)), (50, (sv Aa p0 ca)), (51, (iv x39)), (54, (iv (w64 (Int.tdiv x30 x39))))] [.ne x39] (fun fb => by kernel_rfl) rfl ⟨h49, trivial⟩ ?_
        obtain ⟨t53, ht54, hx48⟩ := bind_some hx48
        refine WL.call (some 55) 45 #[(sv Aa p0 ca), (iv x39), (iv (w64 (Int.tdiv x30 x39)))] (fun fb => by kernel_rfl) (torus_find_calls _ p0 x39 (w64 (Int.tdiv x30 x39)) Aa ca t53 _ (hS44.rd 0) ht54) (fun v w55 hR56 => ?_)
        obtain ⟨A58, c59, rfl, hk_⟩ := hR56
        have hS57 := hS.go w55 [rowO 3 encInt A58 c59 t53.1.Cells, blk g3 (.cells #[(iv 0), (iv 0), (.slice none 0 0)] 39 (0, 0))] (hS44.call hk_ [] [0] (fun g hg => hg.elim) (by simp) (by decide))
        refine ⟨trivial, ?_⟩
        refine sg 9 [] [0, 1, 4, 6, 7, 56, 57] [(0, (sv Aa p0 ca)), (1, (iv p1)), (4, (pt g3)), (6, (iv x30)), (7, (iv x39)), (56, (.agg #[(iv t53.1.Width), (iv t53.1.Height), (sv A58 t53.1.Cells c59)])), (57, (bv t53.2))] (by kernel_rfl) ?_
        refine WL.new hS57 8 [] (fun g => (pt g)) (.cells #[(iv 0), (iv 0), (.slice none 0 0)] 39 (0, 0)) [] (fun fb g => by kernel_rfl) trivial (fun g60 w61 hS62 => ?_)
        refine ⟨trivial, ?_⟩
        refine WL.store hS62 0 rfl [(0, (iv t53.1.Width)), (1, (iv t53.1.Height)), (2, (sv A58 t53.1.Cells c59))] #[(iv t53.1.Width), (iv t53.1.Height), (sv A58 t53.1.Cells c59)] (fun fb => by kernel_rfl) (by kernel_rfl) rfl [1, 2] (by decide) (by decide) (fun w63 hS65 => ?_)
        refine ⟨trivial, ?_⟩
        refine sg 12 [] [0, 1, 4, 6, 7, 8, 9] [(0, (sv Aa p0 ca)), (1, (iv p1)), (4, (pt g3)), (6, (iv x30)), (7, (iv x39)), (8, (pt g60)), (9, (bv t53.2))] (by kernel_rfl) ?_
        refine WL.done rfl (WX.next (WC.seq (WC.region ?_)))
        refine sg 1 [] [0, 1, 4, 6, 7, 8, 58] [(0, (sv Aa p0 ca)), (1, (iv p1)), (4, (pt g3)), (6, (iv x30)), (7, (iv x39)), (8, (pt g60)), (58, (bv t53.2))] (by kernel_rfl) ?_
        refine WL.done rfl (WX.next ?_)
        rcases br_some hx48 with ⟨h66, hx48⟩ | ⟨h66, hx48⟩
        ·refine WC.condT2 (fun fb => by kernel_rfl) h66 ?_
         refine WC.seq (WC.region ?_)
         refine seg 1 [.v (iv t53.1.Width), .v (iv t53.1.Height), .v (sv A58 t53.1.Cells c59)] [4, 59] [(4, (pt g3)), (59, (.agg #[(iv t53.1.Width), (iv t53.1.Height), (sv A58 t53.1.Cells c59)]))] [.cell ⟨g60, 0, none⟩ (iv t53.1.Width), .cell ⟨g60, 1, none⟩ (iv t53.1.Height), .cell ⟨g60, 2, none⟩ (sv A58 t53.1.Cells c59)] (fun fb => by kernel_rfl) rfl ⟨hS65.cell 0 rfl 0 rfl, hS65.cell 0 rfl 1 rfl, hS65.cell 0 rfl 2 rfl, trivial⟩ ?_
         refine WL.store hS65 2 rfl [(0, (iv t53.1.Width)), (1, (iv t53.1.Height)), (2, (sv A58 t53.1.Cells c59))] #[(iv t53.1.Width), (iv t53.1.Height), (sv A58 t53.1.Cells c59)] (fun fb => by kernel_rfl) (by kernel_rfl) rfl [0, 1] (by decide) (by decide) (fun w67 hS68 => ?_)
         refine ⟨trivial, ?_⟩
         refine sg 3 [] [4, 5] [(4, (pt g3)), (5, (iv 0))] (by kernel_rfl) ?_
         refine WL.done rfl (WX.next ?_)
         refine WC.ret ?_
         injection hx48 with hx48
         subst hx48
         injection hl45 with hl45
         subst hl45
         injection hl37 with hl37
         subst hl37
         injection hf with hf
         subst hf
         exact WX.blockR (WX.thenR (WX.thenR (WX.blockR (WX.blockR (WX.thenR (WX.thenR (WX.blockR (WX.thenR (WX.ret_ [.v (iv t53.1.Width), .v (iv t53.1.Height), .v (sv A58 t53.1.Cells c59)] (.tuple #[(.agg #[(iv t53.1.Width), (iv t53.1.Height), (sv A58 t53.1.Cells c59)]), (iv 0)]) [.cell ⟨g3, 0, none⟩ (iv t53.1.Width), .cell ⟨g3, 1, none⟩ (iv t53.1.Height), .cell ⟨g3, 2, none⟩ (sv A58 t53.1.Cells c59)] (fun fb => by kernel_rfl) ⟨hS68.cell 0 rfl 0 rfl, hS68.cell 0 rfl 1 rfl, hS68.cell 0 rfl 2 rfl, trivial⟩ ⟨_, rfl, A58, c59, rfl, (hS68.sub [2] (by decide)).noR⟩)))))))))
        refine WC.condF2 (fun fb => by kernel_rfl) h66 ?_
        refine WC.skip ?_
        injection hx48 with hx48
        exact WX.blockN (WX.to Kx47 () [0, 1, 4, 6, 7] rfl ⟨(hS65.subR [0]).sub [2] (by decide), hx48.symm⟩)
       rintro y72 w69 ⟨hS70, hq71⟩
       subst hq71
       have hl45 := sum_inr hl45
       refine WX.next (WC.region ?_)
       refine sg 3 [] [0, 1, 4, 6, 7] [(0, (sv Aa p0 ca)), (1, (iv p1)), (4, (pt g3)), (6, (iv x30)), (7, (iv (w64 (x39 + 1))))] (by kernel_rfl) ?_
       refine WL.done rfl ?_
       exact WX.again k42 (Nat.lt_succ_self _) (w64 (x39 + 1)) [0, 1, 4, 6, 7] rfl ⟨(hS70.subR [0]).sub [0] (by decide), hl45⟩
      refine WC.condF2 (fun fb => by kernel_rfl) h46 ?_
      refine WC.exit ?_
      injection hl45 with hl45
      exact WX.thenX (WX.thenX (WX.blockHere (WX.to Kx40 () [0, 1, 4, 6] rfl ⟨(hS44.subR [0]).sub [0] (by decide), hl45.symm⟩)))
    rintro y76 w73 ⟨hS74, hq75⟩
    subst hq75
    have hl37 := sum_inr hl37
    refine WX.blockN (WX.next ?_)
    refine WC.region ?_
    refine sg 3 [] [0, 1, 4, 6] [(0, (sv Aa p0 ca)), (1, (iv p1)), (4, (pt g3)), (6, (iv (w64 (x30 + 1))))] (by kernel_rfl) ?_
    refine WL.done rfl ?_
    exact WX.again k34 (Nat.lt_succ_self _) (w64 (x30 + 1)) [0, 1, 4, 6] rfl ⟨(hS74.subR [0]).sub [0] (by decide), hl37⟩
   refine WC.condF2 (fun fb => by kernel_rfl) h38 ?_
   refine WC.exit ?_
   injection hl37 with hl37
   exact WX.thenX (WX.thenX (WX.blockHere (WX.to Kx31 () [4] rfl ⟨(hS36.subR [0]).sub [0] (by decide), hl37.symm⟩)))
 rintro y80 w77 ⟨hS78, hq79⟩
 subst hq79
 have hf := sum_inr hf
 refine WX.next (WC.seq (WC.region ?_))
 refine sg 1 [] [4, 60] [(4, (pt g3)), (60, (.agg #[(iv 0), (iv 0), (.slice none 0 0)]))] (by kernel_rfl) ?_
 refine WL.store hS78 0 rfl [(0, (iv 0)), (1, (iv 0)), (2, (.slice none 0 0))] #[(iv 0), (iv 0), (.slice none 0 0)] (fun fb => by kernel_rfl) (by kernel_rfl) rfl [] (by decide) (by decide) (fun w81 hS82 => ?_)
 refine ⟨trivial, ?_⟩
 refine sg 3 [] [4, 5] [(4, (pt g3)), (5, (iv 6))] (by kernel_rfl) ?_
 refine WL.done rfl (WX.next ?_)
 refine WC.ret ?_
 have hS83 := hS82.nilrow 3 encInt
 injection hf with hf
 subst hf
 exact WX.ret_ [.v (iv 0), .v (iv 0), .v (.slice none 0 0)] (.tuple #[(.agg #[(iv 0), (iv 0), (sv none ([] : List Int) 0)]), (iv 6)]) [.cell ⟨g3, 0, none⟩ (iv 0), .cell ⟨g3, 1, none⟩ (iv 0), .cell ⟨g3, 2, none⟩ (.slice none 0 0)] (fun fb => by kernel_rfl) ⟨hS82.cell 0 rfl 0 rfl, hS82.cell 0 rfl 1 rfl, hS82.cell 0 rfl 2 rfl, trivial⟩ ⟨_, rfl, none, 0, rfl, (hS83.sub [0] (by decide)).noR⟩
theorem decide_Decide_calls (k : Nat) (p0 : List Tile) (Aa : Option Addr) (ca : Nat) (r : Verdict × Int) (w : World) (hR0 : RO NoS w (rowR enc_Tile Aa ca p0)) (hf : decide_Decide k p0 = some r) :
  CallsR Try.prog 17 #[(sv Aa p0 ca)] w (fun v w' => ∃ (A1_ : Option Addr), ∃ (c1_ : Nat), v = (.tuple #[(.agg #[(bv r.1.Fills), (iv r.1.Torus.Width), (iv r.1.Torus.Height), (sv A1_ r.1.Torus.Cells c1_), (iv r.1.Side)]), (iv r.2)]) ∧ St NoS w w' [] [rowO 3 encInt A1_ c1_ r.1.Torus.Cells]) := by
 have hS : St NoS w w [rowR enc_Tile Aa ca p0] [] := St.init (ro_cons hR0 (ro_nil _ _))
 refine enter 34 Try.func17 rfl Try.ntmps17 rfl ?_
 unfold decide_Decide at hf
 refine WC.seq (WC.region ?_)
 refine WL.new hS 2 [] (fun g => (pt g)) (.cells #[(bv false), (iv 0), (iv 0), (.slice none 0 0), (iv 0)] 41 (0, 0)) [] (fun fb g => by kernel_rfl) trivial (fun g3 w4 hS5 => ?_)
 refine ⟨trivial, ?_⟩
 refine WL.new hS5 3 [] (fun g => (pt g)) (.cells #[(iv 0)] 23 (0, 0)) [] (fun fb g => by kernel_rfl) trivial (fun g6 w7 hS8 => ?_)
 refine ⟨trivial, ?_⟩
 refine WL.done rfl (WX.next (WC.seq (WC.seq (WC.region ?_))))
 refine sg 1 [] [0, 2, 3, 9] [(0, (sv Aa p0 ca)), (2, (pt g3)), (3, (pt g6)), (9, (sv Aa p0 ca))] (by kernel_rfl) ?_
 obtain ⟨t9, ht10, hf⟩ := bind_some hf
 refine WL.call (some 10) 30 #[(sv Aa p0 ca)] (fun fb => by kernel_rfl) (decide_asks_calls _ p0 Aa ca t9 _ (hS8.rd 0) ht10) (fun v w11 hR12 => ?_)
 obtain ⟨rfl, hk_⟩ := hR12
 have hS13 := hS8.keepN hk_
 refine ⟨trivial, ?_⟩
 refine sg 3 [] [0, 2, 3, 4] [(0, (sv Aa p0 ca)), (2, (pt g3)), (3, (pt g6)), (4, (iv t9))] (by kernel_rfl) ?_
 refine WL.done rfl (WX.next (WC.seq (WC.region ?_)))
 refine sg 2 [] [0, 2, 3, 4, 12] [(0, (sv Aa p0 ca)), (2, (pt g3)), (3, (pt g6)), (4, (iv t9)), (12, (bv (t9 != 0)))] (by kernel_rfl) ?_
 refine WL.done rfl (WX.next ?_)
 rcases br_some hf with ⟨h14, hf⟩ | ⟨h14, hf⟩
 ·refine WC.condT2 (fun fb => by kernel_rfl) h14 ?_
  refine WC.seq (WC.region ?_)
  refine sg 2 [] [2, 3, 13, 14] [(2, (pt g3)), (3, (pt g6)), (13, (.agg #[(bv false), (iv 0), (iv 0), (.slice none 0 0), (iv 0)])), (14, (iv t9))] (by kernel_rfl) ?_
  refine WL.store hS13 1 rfl [(0, (bv false)), (1, (iv 0)), (2, (iv 0)), (3, (.slice none 0 0)), (4, (iv 0))] #[(bv false), (iv 0), (iv 0), (.slice none 0 0), (iv 0)] (fun fb => by kernel_rfl) (by kernel_rfl) rfl [0] (by decide) (by decide) (fun w15 hS16 => ?_)
  refine ⟨trivial, ?_⟩
  refine WL.store hS16 1 rfl [(0, (iv t9))] #[(iv t9)] (fun fb => by kernel_rfl) (by kernel_rfl) rfl [0] (by decide) (by decide) (fun w18 hS19 => ?_)
  refine ⟨trivial, ?_⟩
  refine WL.done rfl (WX.next ?_)
  refine WC.ret ?_
  have hS20 := hS19.nilrow 3 encInt
  injection hf with hf
  subst hf
  exact WX.thenR (WX.ret_ [.v (bv false), .v (iv 0), .v (iv 0), .v (.slice none 0 0), .v (iv 0), .v (iv t9)] (.tuple #[(.agg #[(bv false), (iv 0), (iv 0), (sv none ([] : List Int) 0), (iv 0)]), (iv t9)]) [.cell ⟨g3, 0, none⟩ (bv false), .cell ⟨g3, 1, none⟩ (iv 0), .cell ⟨g3, 2, none⟩ (iv 0), .cell ⟨g3, 3, none⟩ (.slice none 0 0), .cell ⟨g3, 4, none⟩ (iv 0), .cell ⟨g6, 0, none⟩ (iv t9)] (fun fb => by kernel_rfl) ⟨hS19.cell 1 rfl 0 rfl, hS19.cell 1 rfl 1 rfl, hS19.cell 1 rfl 2 rfl, hS19.cell 1 rfl 3 rfl, hS19.cell 1 rfl 4 rfl, hS19.cell 0 rfl 0 rfl, trivial⟩ ⟨_, rfl, none, 0, rfl, (hS20.sub [0] (by decide)).noR⟩)
 refine WC.condF2 (fun fb => by kernel_rfl) h14 ?_
 refine WC.skip (WX.next (WC.seq (WC.seq (WC.region ?_))))
 refine sg 1 [] [0, 2, 3, 15] [(0, (sv Aa p0 ca)), (2, (pt g3)), (3, (pt g6)), (15, (sv Aa p0 ca))] (by kernel_rfl) ?_
 obtain ⟨t21, ht22, hf⟩ := bind_some hf
 refine WL.call (some 16) 31 #[(sv Aa p0 ca)] (fun fb => by kernel_rfl) (decide_sides_calls p0 Aa ca t21 _ (hS13.rd 0) ht22) (fun v w23 hR24 => ?_)
 obtain ⟨g26, rfl, hk_⟩ := hR24
 have hS25 := hS.go w23 [blk g26 (.cells #[(.slice Aa p0.length ca)] 28 (0, 0)), blk g6 (.cells #[(iv 0)] 23 (0, 0)), blk g3 (.cells #[(.bool false), (iv 0), (iv 0), (.slice none 0 0), (iv 0)] 41 (0, 0))] (hS13.call hk_ [] [0, 1] (fun g hg => hg.elim) (by simp) (by decide))
 refine ⟨trivial, ?_⟩
 refine WL.done rfl (WX.next (WC.block ?_))
 refine WC.rangeO hS25 (fun _ _ h => h) rfl (gf := 42) (lb := [(pt g26)]) (fun fb => by kernel_rfl) (fun _ => by kernel_rfl) (fun LO28 LB29 LX30 l31 D32 w33 hK34 hS35 => ?_)
 have hS36 := hS25.go w33 [(fun (s_ : Int × Int) (t_ : Unit) => sepO (blk l31 (LO28 (pendN [.ret] s_.2)) :: [blk g3 (.cells #[(bv false), (iv 0), (iv 0), (.slice none 0 0), (iv s_.1)] 41 (0, 0)), blk g6 (.cells #[(iv 0)] 23 (0, 0))])) (0, (0 : Int)) (), blk D32 (.deferred (some [])), blk g26 (.cells #[(sv Aa p0 ca)] 28 (0, 0))] (hS35.pack [0, 4, 3] [1, 2] (by decide) (by decide) (by decide))
 have hY39 : ∀ (x0_ : Int) (x1_ : Bool) (s_ : Int × Int) (t_ : Unit) (r_ : (Int × Int) × Bool) (w_ : World), RO (fpL [(fun (s_ : Int × Int) (t_ : Unit) => sepO (blk l31 (LO28 (pendN [.ret] s_.2)) :: [blk g3 (.cells #[(bv false), (iv 0), (iv 0), (.slice none 0 0), (iv s_.1)] 41 (0, 0)), blk g6 (.cells #[(iv 0)] 23 (0, 0))])) s_ t_]) w_ (poolO [rowR enc_Tile Aa ca p0]) → IoOK w_ [(fun (s_ : Int × Int) (t_ : Unit) => sepO (blk l31 (LO28 (pendN [.ret] s_.2)) :: [blk g3 (.cells #[(bv false), (iv 0), (iv 0), (.slice none 0 0), (iv s_.1)] 41 (0, 0)), blk g6 (.cells #[(iv 0)] 23 (0, 0))])) s_ t_] → decide_Decide.b1 k  x0_ x1_ s_ = some r_ → YieldR Try.prog (.func (.yield l31) #[] #[]) #[(iv x0_), (bv x1_)] w_ (fun v_ w' => ∃ t1_, v_ = .bool r_.2 ∧ St (fpL [(fun (s_ : Int × Int) (t_ : Unit) => sepO (blk l31 (LO28 (pendN [.ret] s_.2)) :: [blk g3 (.cells #[(bv false), (iv 0), (iv 0), (.slice none 0 0), (iv s_.1)] 41 (0, 0)), blk g6 (.cells #[(iv 0)] 23 (0, 0))])) s_ t_]) w_ w' [] [(fun (s_ : Int × Int) (t_ : Unit) => sepO (blk l31 (LO28 (pendN [.ret] s_.2)) :: [blk g3 (.cells #[(bv false), (iv 0), (iv 0), (.slice none 0 0), (iv s_.1)] 41 (0, 0)), blk g6 (.cells #[(iv 0)] 23 (0, 0))])) r_.1 t1_]) := by
  rintro x37 x38 ⟨x27, j40⟩ ⟨⟩ r41 w42 hRd43 hI44 hf45
  rw [decide_Decide.b1] at hf45
  replace hf45 := as_some hf45
  obtain ⟨hj47, hf45⟩ := hf45
  subst hj47
  have hRo48 := hRd43.openSep
  have hS46 : St (fpL [blk l31 (LO28 none), blk g3 (.cells #[(bv false), (iv 0), (iv 0), (.slice none 0 0), (iv x27)] 41 (0, 0)), blk g6 (.cells #[(iv 0)] 23 (0, 0))]) w42 w42 [rowR enc_Tile Aa ca p0] [blk l31 (LO28 none), blk g3 (.cells #[(bv false), (iv 0), (iv 0), (.slice none 0 0), (iv x27)] 41 (0, 0)), blk g6 (.cells #[(iv 0)] 23 (0, 0))] := St.initIO (ro_cons (poolO.ro hRo48 0) (ro_nil _ _)) hI44.openSep
  refine YieldR.of_loop hK34 (hS46.blkAt 0 rfl) [(iv x37), (bv x38)] [0, 2, 3] [(0, (sv Aa p0 ca)), (2, (pt g3)), (3, (pt g6))] [(18, (bv x38)), (17, (iv x37)), (0, (sv Aa p0 ca)), (2, (pt g3)), (3, (pt g6))] rfl rfl rfl rfl rfl ?_
  refine WC.seq (WC.region ?_)
  refine sg 1 [] [0, 2, 3, 5, 18] [(0, (sv Aa p0 ca)), (2, (pt g3)), (3, (pt g6)), (5, (iv x37)), (18, (bv x38))] (by kernel_rfl) ?_
  refine WL.done rfl (WX.next (WC.region ?_))
  refine sg 1 [] [0, 2, 3, 5, 6] [(0, (sv Aa p0 ca)), (2, (pt g3)), (3, (pt g6)), (5, (iv x37)), (6, (bv x38))] (by kernel_rfl) ?_
  refine WL.done rfl ?_
  refine WX.begin' hK34 (hS46.blkAt 0 rfl) ?_
  have hS49 := hS46.putO 0 rfl LB29 [1, 2] (by decide) (by decide)
  revert hS49
  generalize World.putObj _ _ _ = w50
  intro hS49
  have hS51 := hS46.go w50 [blk l31 LB29, blk g3 (.cells #[(bv false), (iv 0), (iv 0), (.slice none 0 0), (iv x27)] 41 (0, 0)), blk g6 (.cells #[(iv 0)] 23 (0, 0))] (hS49)
  refine WC.block (WC.seq (WC.region ?_))
  refine sg 2 [] [0, 2, 3, 5, 20] [(0, (sv Aa p0 ca)), (2, (pt g3)), (3, (pt g6)), (5, (iv x37)), (20, (bv (!x38)))] (by kernel_rfl) ?_
  refine WL.done rfl (WX.next ?_)
  rcases br_some hf45 with ⟨h52, hf45⟩ | ⟨h52, hf45⟩
  ·refine WC.condT2 (fun fb => by kernel_rfl) h52 ?_
   refine WC.seq (WC.region ?_)
   refine sg 2 [] [0, 2, 3, 22] [(0, (sv Aa p0 ca)), (2, (pt g3)), (3, (pt g6)), (22, (.agg #[(bv false), (iv 0), (iv 0), (.slice none 0 0), (iv x37)]))] (by kernel_rfl) ?_
   refine WL.store hS51 1 rfl [(0, (bv false)), (1, (iv 0)), (2, (iv 0)), (3, (.slice none 0 0)), (4, (iv x37))] #[(bv false), (iv 0), (iv 0), (.slice none 0 0), (iv x37)] (fun fb => by kernel_rfl) (by kernel_rfl) rfl [0, 2] (by decide) (by decide) (fun w53 hS54 => ?_)
   refine ⟨trivial, ?_⟩
   refine WL.store hS54 2 rfl [(0, (iv 0))] #[(iv 0)] (fun fb => by kernel_rfl) (by kernel_rfl) rfl [0, 1] (by decide) (by decide) (fun w55 hS56 => ?_)
   refine ⟨trivial, ?_⟩
   refine WL.done rfl (WX.next ?_)
   refine WC.ret ?_
   injection hf45 with hf45
   subst hf45
   exact WX.blockR (WX.roundR' hK34 (hS56.blkAt 2 rfl) ⟨(), rfl, ((hS56.putO 2 rfl (LO28 (some .ret)) [0, 1] (by decide) (by decide)).sub [0, 2, 1] (by decide)).noR.closeSep⟩)
  refine WC.condF2 (fun fb => by kernel_rfl) h52 ?_
  refine WC.skip ?_
  injection hf45 with hf45
  subst hf45
  exact WX.blockN (WX.roundN' hK34 (hS51.blkAt 0 rfl) ⟨(), rfl, ((hS51.putO 0 rfl (LO28 none) [1, 2] (by decide) (by decide)).sub [0, 1, 2] (by decide)).noR.closeSep⟩)
 obtain ⟨t57, ht58, hf⟩ := bind_some hf
 refine (decide_sides_1_y_calls _ p0 (decide_Decide.b1 k ) (0, (0 : Int)) g26 Aa ca l31 (fun (s_ : Int × Int) (t_ : Unit) => sepO (blk l31 (LO28 (pendN [.ret] s_.2)) :: [blk g3 (.cells #[(bv false), (iv 0), (iv 0), (.slice none 0 0), (iv s_.1)] 41 (0, 0)), blk g6 (.cells #[(iv 0)] 23 (0, 0))])) () (poolO [rowR enc_Tile Aa ca p0]) t57 _ (hS36.rdP [0]) (hS36.owT [0] 2 (by decide)) (hS36.rdT [0] 0) (hS36.io [0] (by decide)) hY39 ht58).post (fun v w59 hR60 => ?_)
 obtain ⟨tt62, rfl, hk_⟩ := hR60
 have hS61 := hS36.go w59 [(fun (s_ : Int × Int) (t_ : Unit) => sepO (blk l31 (LO28 (pendN [.ret] s_.2)) :: [blk g3 (.cells #[(bv false), (iv 0), (iv 0), (.slice none 0 0), (iv s_.1)] 41 (0, 0)), blk g6 (.cells #[(iv 0)] 23 (0, 0))])) t57 tt62, blk D32 (.deferred (some [])), blk g26 (.cells #[(sv Aa p0 ca)] 28 (0, 0))] (hS36.call hk_ [0] [1, 2] (fun g hg => fpL_sel g hg) (by decide) (by decide))
 have hS63 := hS61.go w59 [blk l31 (LO28 (pendN [.ret] t57.2)), blk g3 (.cells #[(bv false), (iv 0), (iv 0), (.slice none 0 0), (iv t57.1)] 41 (0, 0)), blk g6 (.cells #[(iv 0)] 23 (0, 0)), blk D32 (.deferred (some [])), blk g26 (.cells #[(sv Aa p0 ca)] 28 (0, 0))] (hS61.unpack 0 rfl [1, 2] (by decide) (by decide))
 refine ⟨_, hS63.blkAt 0 rfl, ?_⟩
 have hS65 := (hS63.putO 0 rfl (LX30 (pendN [.ret] t57.2)) [1, 2, 3, 4] (by decide) (by decide)).tail
 revert hS65
 generalize World.putObj _ _ _ = w66
 intro hS65
 have hS67 := hS63.go w66 [blk g3 (.cells #[(bv false), (iv 0), (iv 0), (.slice none 0 0), (iv t57.1)] 41 (0, 0)), blk g6 (.cells #[(iv 0)] 23 (0, 0)), blk D32 (.deferred (some [])), blk g26 (.cells #[(sv Aa p0 ca)] 28 (0, 0))] (hS65)
 rcases br_some hf with ⟨h68, hf⟩ | ⟨h68, hf⟩
 ·
  have hj_ := eq_of_beq h68
  rw [hj_]
  refine WC.keep [0, 2, 3, 4294967295] [(0, (sv Aa p0 ca)), (2, (pt g3)), (3, (pt g6)), (4294967295, (.func (.yield D32) #[] #[]))] rfl ?_
  refine WC.ret ?_
  have hS69 := hS67.nilrow 3 encInt
  injection hf with hf
  subst hf
  exact WX.blockR (WX.thenR (WX.retM hS69 3 rfl rfl [0, 1, 2, 4] (by decide) (by decide) [.v (bv false), .v (iv 0), .v (iv 0), .v (sv none ([] : List Int) 0), .v (iv t57.1), .v (iv 0)] (.tuple #[(.agg #[(bv false), (iv 0), (iv 0), (sv none ([] : List Int) 0), (iv t57.1)]), (iv 0)]) [.cell ⟨g3, 0, none⟩ (bv false), .cell ⟨g3, 1, none⟩ (iv 0), .cell ⟨g3, 2, none⟩ (iv 0), .cell ⟨g3, 3, none⟩ (sv none ([] : List Int) 0), .cell ⟨g3, 4, none⟩ (iv t57.1), .cell ⟨g6, 0, none⟩ (iv 0)] (fun fb => by kernel_rfl) (fun w71 hS70 => ⟨⟨hS70.cell 1 rfl 0 rfl, hS70.cell 1 rfl 1 rfl, hS70.cell 1 rfl 2 rfl, hS70.cell 1 rfl 3 rfl, hS70.cell 1 rfl 4 rfl, hS70.cell 2 rfl 0 rfl, trivial⟩, ⟨none, 0, rfl, (hS70.sub [0] (by decide)).noR⟩⟩)))
 obtain ⟨h72, hf⟩ := as_some hf
 rw [h72]
 refine WX.keep [0, 2, 3, 4294967295] [(0, (sv Aa p0 ca)), (2, (pt g3)), (3, (pt g6)), (4294967295, (.func (.yield D32) #[] #[]))] rfl ?_
 refine WX.blockN (WX.next ?_)
 refine WC.seq (WC.region ?_)
 refine sg 1 [] [2, 3, 24, 4294967295] [(2, (pt g3)), (3, (pt g6)), (24, (sv Aa p0 ca)), (4294967295, (.func (.yield D32) #[] #[]))] (by kernel_rfl) ?_
 obtain ⟨t73, ht74, hf⟩ := bind_some hf
 refine WL.call (some 25) 32 #[(sv Aa p0 ca), (iv 6)] (fun fb => by kernel_rfl) (torus_Least_calls _ p0 6 Aa ca t73 _ (hS67.rd 0) ht74) (fun v w75 hR76 => ?_)
 obtain ⟨A78, c79, rfl, hk_⟩ := hR76
 have hS77 := hS67.go w75 [rowO 3 encInt A78 c79 t73.1.Cells, blk g3 (.cells #[(.bool false), (iv 0), (iv 0), (.slice none 0 0), (iv t57.1)] 41 (0, 0)), blk g6 (.cells #[(iv 0)] 23 (0, 0)), blk D32 (.deferred (some [])), blk g26 (.cells #[(.slice Aa p0.length ca)] 28 (0, 0))] (hS67.call hk_ [] [0, 1, 2, 3] (fun g hg => hg.elim) (by simp) (by decide))
 refine ⟨trivial, ?_⟩
 refine sg 5 [] [2, 3, 26, 27, 4294967295] [(2, (pt g3)), (3, (pt g6)), (26, (.agg #[(iv t73.1.Width), (iv t73.1.Height), (sv A78 t73.1.Cells c79)])), (27, (iv t73.2)), (4294967295, (.func (.yield D32) #[] #[]))] (by kernel_rfl) ?_
 refine WL.new hS77 7 [] (fun g => (pt g)) (.cells #[(iv 0), (iv 0), (.slice none 0 0)] 39 (0, 0)) [] (fun fb g => by kernel_rfl) trivial (fun g80 w81 hS82 => ?_)
 refine ⟨trivial, ?_⟩
 refine WL.store hS82 0 rfl [(0, (iv t73.1.Width)), (1, (iv t73.1.Height)), (2, (sv A78 t73.1.Cells c79))] #[(iv t73.1.Width), (iv t73.1.Height), (sv A78 t73.1.Cells c79)] (fun fb => by kernel_rfl) (by kernel_rfl) rfl [1, 2, 3, 4, 5] (by decide) (by decide) (fun w83 hS84 => ?_)
 refine ⟨trivial, ?_⟩
 refine sg 8 [] [2, 3, 7, 8, 4294967295] [(2, (pt g3)), (3, (pt g6)), (7, (pt g80)), (8, (iv t73.2)), (4294967295, (.func (.yield D32) #[] #[]))] (by kernel_rfl) ?_
 refine WL.done rfl (WX.next (WC.seq (WC.seq (WC.region ?_))))
 refine sg 2 [] [2, 3, 7, 8, 29, 4294967295] [(2, (pt g3)), (3, (pt g6)), (7, (pt g80)), (8, (iv t73.2)), (29, (bv (t73.2 != 0))), (4294967295, (.func (.yield D32) #[] #[]))] (by kernel_rfl) ?_
 refine WL.done rfl (WX.next ?_)
 rcases br_some hf with ⟨h85, hf⟩ | ⟨h85, hf⟩
 ·refine WC.condT2 (fun fb => by kernel_rfl) h85 ?_
  refine WC.seq (WC.region ?_)
  refine sg 2 [] [2, 3, 30, 31, 4294967295] [(2, (pt g3)), (3, (pt g6)), (30, (.agg #[(bv false), (iv 0), (iv 0), (.slice none 0 0), (iv 0)])), (31, (iv t73.2)), (4294967295, (.func (.yield D32) #[] #[]))] (by kernel_rfl) ?_
  refine WL.store hS84 2 rfl [(0, (bv false)), (1, (iv 0)), (2, (iv 0)), (3, (.slice none 0 0)), (4, (iv 0))] #[(bv false), (iv 0), (iv 0), (.slice none 0 0), (iv 0)] (fun fb => by kernel_rfl) (by kernel_rfl) rfl [0, 1, 3, 4, 5] (by decide) (by decide) (fun w86 hS87 => ?_)
  refine ⟨trivial, ?_⟩
  refine WL.store hS87 3 rfl [(0, (iv t73.2))] #[(iv t73.2)] (fun fb => by kernel_rfl) (by kernel_rfl) rfl [0, 1, 2, 4, 5] (by decide) (by decide) (fun w88 hS89 => ?_)
  refine ⟨trivial, ?_⟩
  refine WL.done rfl (WX.next ?_)
  refine WC.ret ?_
  have hS90 := hS89.nilrow 3 encInt
  injection hf with hf
  subst hf
  exact WX.thenR (WX.retM hS90 5 rfl rfl [0, 1, 2, 3, 4, 6] (by decide) (by decide) [.v (bv false), .v (iv 0), .v (iv 0), .v (sv none ([] : List Int) 0), .v (iv 0), .v (iv t73.2)] (.tuple #[(.agg #[(bv false), (iv 0), (iv 0), (sv none ([] : List Int) 0), (iv 0)]), (iv t73.2)]) [.cell ⟨g3, 0, none⟩ (bv false), .cell ⟨g3, 1, none⟩ (iv 0), .cell ⟨g3, 2, none⟩ (iv 0), .cell ⟨g3, 3, none⟩ (sv none ([] : List Int) 0), .cell ⟨g3, 4, none⟩ (iv 0), .cell ⟨g6, 0, none⟩ (iv t73.2)] (fun fb => by kernel_rfl) (fun w92 hS91 => ⟨⟨hS91.cell 2 rfl 0 rfl, hS91.cell 2 rfl 1 rfl, hS91.cell 2 rfl 2 rfl, hS91.cell 2 rfl 3 rfl, hS91.cell 2 rfl 4 rfl, hS91.cell 1 rfl 0 rfl, trivial⟩, ⟨none, 0, rfl, (hS91.sub [0] (by decide)).noR⟩⟩))
 refine WC.condF2 (fun fb => by kernel_rfl) h85 ?_
 refine WC.skip (WX.next (WC.seq (WC.region ?_)))
 refine seg 2 [.v (iv t73.1.Width), .v (iv t73.1.Height), .v (sv A78 t73.1.Cells c79)] [2, 3, 33, 4294967295] [(2, (pt g3)), (3, (pt g6)), (33, (.agg #[(bv true), (iv t73.1.Width), (iv t73.1.Height), (sv A78 t73.1.Cells c79), (iv 0)])), (4294967295, (.func (.yield D32) #[] #[]))] [.cell ⟨g80, 0, none⟩ (iv t73.1.Width), .cell ⟨g80, 1, none⟩ (iv t73.1.Height), .cell ⟨g80, 2, none⟩ (sv A78 t73.1.Cells c79)] (fun fb => by kernel_rfl) rfl ⟨hS84.cell 0 rfl 0 rfl, hS84.cell 0 rfl 1 rfl, hS84.cell 0 rfl 2 rfl, trivial⟩ ?_
 refine WL.store hS84 2 rfl [(0, (bv true)), (1, (iv t73.1.Width)), (2, (iv t73.1.Height)), (3, (sv A78 t73.1.Cells c79)), (4, (iv 0))] #[(bv true), (iv t73.1.Width), (iv t73.1.Height), (sv A78 t73.1.Cells c79), (iv 0)] (fun fb => by kernel_rfl) (by kernel_rfl) rfl [0, 1, 3, 4, 5] (by decide) (by decide) (fun w93 hS94 => ?_)
 refine ⟨trivial, ?_⟩
 refine WL.store hS94 3 rfl [(0, (iv 0))] #[(iv 0)] (fun fb => by kernel_rfl) (by kernel_rfl) rfl [0, 1, 2, 4, 5] (by decide) (by decide) (fun w95 hS96 => ?_)
 refine ⟨trivial, ?_⟩
 refine WL.done rfl (WX.next ?_)
 refine WC.ret ?_
 injection hf with hf
 subst hf
 exact WX.retM hS96 4 rfl rfl [0, 1, 2, 3, 5] (by decide) (by decide) [.v (bv true), .v (iv t73.1.Width), .v (iv t73.1.Height), .v (sv A78 t73.1.Cells c79), .v (iv 0), .v (iv 0)] (.tuple #[(.agg #[(bv true), (iv t73.1.Width), (iv t73.1.Height), (sv A78 t73.1.Cells c79), (iv 0)]), (iv 0)]) [.cell ⟨g3, 0, none⟩ (bv true), .cell ⟨g3, 1, none⟩ (iv t73.1.Width), .cell ⟨g3, 2, none⟩ (iv t73.1.Height), .cell ⟨g3, 3, none⟩ (sv A78 t73.1.Cells c79), .cell ⟨g3, 4, none⟩ (iv 0), .cell ⟨g6, 0, none⟩ (iv 0)] (fun fb => by kernel_rfl) (fun w98 hS97 => ⟨⟨hS97.cell 1 rfl 0 rfl, hS97.cell 1 rfl 1 rfl, hS97.cell 1 rfl 2 rfl, hS97.cell 1 rfl 3 rfl, hS97.cell 1 rfl 4 rfl, hS97.cell 0 rfl 0 rfl, trivial⟩, ⟨A78, c79, rfl, (hS97.sub [3] (by decide)).noR⟩⟩)
theorem census_Count_calls (k : Nat) (p0 : Int)  (r : Tally × Int) (w : World)  (hf : census_Count k p0 = some r) :
  CallsR Try.prog 16 #[(iv p0)] w (fun v w' => v = (.tuple #[(.agg #[(iv r.1.Sets), (iv r.1.Fill), (iv r.1.Cells), (iv r.1.Side)]), (iv r.2)]) ∧ Keeps NoS w w') := by
 have hS : St NoS w w [] [] := St.init (ro_nil _ _)
 refine enter 55 Try.func16 rfl Try.ntmps16 rfl ?_
 unfold census_Count at hf
 refine WC.seq (WC.region ?_)
 refine WL.new hS 2 [] (fun g => (pt g)) (.cells #[(iv 0), (iv 0), (iv 0), (iv 0)] 34 (0, 0)) [] (fun fb g => by kernel_rfl) trivial (fun g14 w15 hS16 => ?_)
 refine ⟨trivial, ?_⟩
 refine sg 2 [] [0, 2] [(0, (iv p0)), (2, (pt g14))] (by kernel_rfl) ?_
 refine WL.done rfl (WX.next (WC.seq (WC.seq (WC.region ?_))))
 refine sg 1 [] [0, 2, 9] [(0, (iv p0)), (2, (pt g14)), (9, (iv p0))] (by kernel_rfl) ?_
 obtain ⟨t20, ht21, hf⟩ := bind_some hf
 refine WL.call (some 10) 21 #[(iv p0)] (fun fb => by kernel_rfl) (census_few_calls p0 t20 _ ht21) (fun v w22 hR23 => ?_)
 obtain ⟨rfl, hk_⟩ := hR23
 have hS24 := hS16.keepN hk_
 refine ⟨trivial, ?_⟩
 refine sg 3 [] [0, 2, 11] [(0, (iv p0)), (2, (pt g14)), (11, (bv (!t20)))] (by kernel_rfl) ?_
 refine WL.done rfl (WX.next ?_)
 rcases br_some hf with ⟨h25, hf⟩ | ⟨h25, hf⟩
 ·refine WC.condT2 (fun fb => by kernel_rfl) h25 ?_
  refine WC.seq (WC.region ?_)
  refine sg 1 [] [2, 12] [(2, (pt g14)), (12, (.agg #[(iv 0), (iv 0), (iv 0), (iv 0)]))] (by kernel_rfl) ?_
  refine WL.store hS24 0 rfl [(0, (iv 0)), (1, (iv 0)), (2, (iv 0)), (3, (iv 0))] #[(iv 0), (iv 0), (iv 0), (iv 0)] (fun fb => by kernel_rfl) (by kernel_rfl) rfl [] (by decide) (by decide) (fun w26 hS27 => ?_)
  refine ⟨trivial, ?_⟩
  refine sg 3 [] [2, 3] [(2, (pt g14)), (3, (iv 2))] (by kernel_rfl) ?_
  refine WL.done rfl (WX.next ?_)
  refine WC.ret ?_
  injection hf with hf
  subst hf
  exact WX.thenR (WX.ret_ [.v (iv 0), .v (iv 0), .v (iv 0), .v (iv 0)] (.tuple #[(.agg #[(iv 0), (iv 0), (iv 0), (iv 0)]), (iv 2)]) [.cell ⟨g14, 0, none⟩ (iv 0), .cell ⟨g14, 1, none⟩ (iv 0), .cell ⟨g14, 2, none⟩ (iv 0), .cell ⟨g14, 3, none⟩ (iv 0)] (fun fb => by kernel_rfl) ⟨hS27.cell 0 rfl 0 rfl, hS27.cell 0 rfl 1 rfl, hS27.cell 0 rfl 2 rfl, hS27.cell 0 rfl 3 rfl, trivial⟩ ⟨_, rfl, rfl, hS27.keep⟩)
 refine WC.condF2 (fun fb => by kernel_rfl) h25 ?_
 refine WC.skip (WX.next (WC.seq (WC.region ?_)))
 refine WL.new hS24 4 [] (fun g => (pt g)) (.cells #[(iv 0), (iv 0), (iv 0), (iv 0)] 34 (0, 0)) [] (fun fb g => by kernel_rfl) trivial (fun g28 w29 hS30 => ?_)
 refine ⟨trivial, ?_⟩
 refine WL.done rfl (WX.next (WC.seq (WC.seq (WC.region ?_))))
 refine sg 1 [] [2, 4, 13] [(2, (pt g14)), (4, (pt g28)), (13, (iv p0))] (by kernel_rfl) ?_
 obtain ⟨t3, ht4, hf⟩ := bind_some hf
 refine WL.call (some 14) 22 #[(iv p0)] (fun fb => by kernel_rfl) (census_forms_calls _ p0 t3 _ ht4) (fun v w5 hR6 => ?_)
 obtain ⟨A8, c9, H10, rfl, hk_⟩ := hR6
 have hS7 := hS.go w5 [rowO 28 (encSl Tile) A8 c9 (tag H10 t3), rowsO 48 enc_Tile H10 t3, blk g28 (.cells #[(iv 0), (iv 0), (iv 0), (iv 0)] 34 (0, 0)), blk g14 (.cells #[(iv 0), (iv 0), (iv 0), (iv 0)] 34 (0, 0))] (hS30.call hk_ [] [0, 1] (fun g hg => hg.elim) (by simp) (by decide))
 refine ⟨trivial, ?_⟩
 refine sg 4 [] [2, 4, 14, 15, 16] [(2, (pt g14)), (4, (pt g28)), (14, (sv A8 t3 c9)), (15, (iv (t3.length : Int))), (16, (iv 0))] (by kernel_rfl) ?_
 refine WL.done rfl (WX.next ?_)
 obtain ⟨x19, hx31, hf⟩ := bind_some hf
 refine WC.cutN (T := Int × Int × Int × Int) (fun t => [(2, (pt g14)), (4, (pt g28))]) (fun t w1 => St NoS w w1 [] [blk g14 (.cells #[(iv 0), (iv 0), (iv 0), (iv 0)] 34 (0, 0)), blk g28 (.cells #[(iv t.1), (iv t.2.1), (iv t.2.2.1), (iv t.2.2.2)] 34 (0, 0))] ∧ x19 = .inr t) (fun Kx19 => ?_) ?_
 ·
  refine WC.block ?_
  refine WC.loop (T := Int × Int × Int × Int × Int) (fun t => [(2, (pt g14)), (4, (pt g28)), (14, (sv A8 t3 c9)), (15, (iv (t3.length : Int))), (16, (iv t.2.2.2.2))]) (fun n t w1 => St NoS w w1 [] [blk g14 (.cells #[(iv 0), (iv 0), (iv 0), (iv 0)] 34 (0, 0)), blk g28 (.cells #[(iv t.1), (iv t.2.1), (iv t.2.2.1), (iv t.2.2.2.1)] 34 (0, 0)), rowO 28 (encSl Tile) A8 c9 (tag H10 t3), rowsO 48 enc_Tile H10 t3] ∧ census_Count.l0 n t.1 t.2.1 t.2.2.1 t.2.2.2.1 t.2.2.2.2 t3 = some x19) k (0, 0, 0, 0, 0) [2, 4, 14, 15, 16] rfl ⟨(hS7.subR []).sub [3, 2, 0, 1] (by decide), hx31⟩ ?_
  rintro k32 ⟨x11, x12, x13, x17, x18⟩ w33 ⟨hS34, hl35⟩
  cases k32 with
  | zero => rw [census_Count.l0] at hl35; cases hl35
  | succ k32 =>
   rw [census_Count.l0] at hl35
   refine WC.seq (WC.region ?_)
   refine sg 1 [] [2, 4, 14, 15, 16, 17] [(2, (pt g14)), (4, (pt g28)), (14, (sv A8 t3 c9)), (15, (iv (t3.length : Int))), (16, (iv x18)), (17, (bv (decide (x18 < (t3.length : Int)))))] (by kernel_rfl) ?_
   refine WL.done rfl (WX.next (WC.seq ?_))
   rcases br_some hl35 with ⟨h36, hl35⟩ | ⟨h36, hl35⟩
   ·refine WC.condT2 (fun fb => by kernel_rfl) h36 ?_
    refine WC.skip (WX.next (WC.seq (WC.block (WC.seq (WC.region ?_)))))
    obtain ⟨h37, hl35⟩ := as_some hl35
    refine seg 3 [.v (sv ((H10 x18.toNat).1) (rdD t3 x18 []) ((H10 x18.toNat).2))] [2, 4, 6, 14, 15, 16] [(2, (pt g14)), (4, (pt g28)), (6, (sv ((H10 x18.toNat).1) (rdD t3 x18 []) ((H10 x18.toNat).2))), (14, (sv A8 t3 c9)), (15, (iv (t3.length : Int))), (16, (iv x18))] [.idx A8 x18 t3.length, .cell ((adr A8).add ((x18).toNat * 1)) (sv ((H10 x18.toNat).1) (rdD t3 x18 []) ((H10 x18.toNat).2))] (fun fb => by kernel_rfl) rfl ⟨nrow_adr (rowO.rd (hS34.own 2).1) h37.1 h37.2, nrow_cell (rowO.rd (hS34.own 2).1) [] h37.1 h37.2 0 rfl, trivial⟩ ?_
    refine WL.done rfl (WX.next (WC.seq (WC.region ?_)))
    refine sg 1 [] [2, 4, 14, 15, 16, 21] [(2, (pt g14)), (4, (pt g28)), (14, (sv A8 t3 c9)), (15, (iv (t3.length : Int))), (16, (iv x18)), (21, (sv ((H10 x18.toNat).1) (rdD t3 x18 []) ((H10 x18.toNat).2)))] (by kernel_rfl) ?_
    obtain ⟨t38, ht39, hl35⟩ := bind_some hl35
    refine WL.call (some 22) 17 #[(sv ((H10 x18.toNat).1) (rdD t3 x18 []) ((H10 x18.toNat).2))] (fun fb => by kernel_rfl) (decide_Decide_calls _ (rdD t3 x18 []) ((H10 x18.toNat).1) ((H10 x18.toNat).2) t38 _ (rowsO.ro (hS34.ow 3) h37.1 h37.2).ofO ht39) (fun v w40 hR41 => ?_)
    obtain ⟨A43, c44, rfl, hk_⟩ := hR41
    have hS42 := hS7.go w40 [rowO 3 encInt A43 c44 t38.1.Torus.Cells, blk g14 (.cells #[(iv 0), (iv 0), (iv 0), (iv 0)] 34 (0, 0)), blk g28 (.cells #[(iv x11), (iv x12), (iv x13), (iv x17)] 34 (0, 0)), rowO 28 (encSl Tile) A8 c9 (tag H10 t3), rowsO 48 enc_Tile H10 t3] (hS34.call hk_ [] [0, 1, 2, 3] (fun g hg => hg.elim) (by simp) (by decide))
    refine ⟨trivial, ?_⟩
    refine sg 5 [] [2, 4, 14, 15, 16, 23, 24] [(2, (pt g14)), (4, (pt g28)), (14, (sv A8 t3 c9)), (15, (iv (t3.length : Int))), (16, (iv x18)), (23, (.agg #[(bv t38.1.Fills), (iv t38.1.Torus.Width), (iv t38.1.Torus.Height), (sv A43 t38.1.Torus.Cells c44), (iv t38.1.Side)])), (24, (iv t38.2))] (by kernel_rfl) ?_
    refine WL.new hS42 7 [] (fun g => (pt g)) (.cells #[(bv false), (iv 0), (iv 0), (.slice none 0 0), (iv 0)] 41 (0, 0)) [] (fun fb g => by kernel_rfl) trivial (fun g45 w46 hS47 => ?_)
    refine ⟨trivial, ?_⟩
    refine WL.store hS47 0 rfl [(0, (bv t38.1.Fills)), (1, (iv t38.1.Torus.Width)), (2, (iv t38.1.Torus.Height)), (3, (sv A43 t38.1.Torus.Cells c44)), (4, (iv t38.1.Side))] #[(bv t38.1.Fills), (iv t38.1.Torus.Width), (iv t38.1.Torus.Height), (sv A43 t38.1.Torus.Cells c44), (iv t38.1.Side)] (fun fb => by kernel_rfl) (by kernel_rfl) rfl [1, 2, 3, 4, 5] (by decide) (by decide) (fun w48 hS49 => ?_)
    refine ⟨trivial, ?_⟩
    refine sg 8 [] [2, 4, 7, 8, 14, 15, 16] [(2, (pt g14)), (4, (pt g28)), (7, (pt g45)), (8, (iv t38.2)), (14, (sv A8 t3 c9)), (15, (iv (t3.length : Int))), (16, (iv x18))] (by kernel_rfl) ?_
    refine WL.done rfl (WX.next (WC.seq (WC.seq (WC.region ?_))))
    refine sg 2 [] [2, 4, 7, 8, 14, 15, 16, 26] [(2, (pt g14)), (4, (pt g28)), (7, (pt g45)), (8, (iv t38.2)), (14, (sv A8 t3 c9)), (15, (iv (t3.length : Int))), (16, (iv x18)), (26, (bv (t38.2 != 0)))] (by kernel_rfl) ?_
    refine WL.done rfl (WX.next ?_)
    rcases br_some hl35 with ⟨h50, hl35⟩ | ⟨h50, hl35⟩
    ·refine WC.condT2 (fun fb => by kernel_rfl) h50 ?_
     refine WC.seq (WC.region ?_)
     refine sg 2 [] [2, 27, 28] [(2, (pt g14)), (27, (.agg #[(iv 0), (iv 0), (iv 0), (iv 0)])), (28, (iv t38.2))] (by kernel_rfl) ?_
     refine WL.store hS49 2 rfl [(0, (iv 0)), (1, (iv 0)), (2, (iv 0)), (3, (iv 0))] #[(iv 0), (iv 0), (iv 0), (iv 0)] (fun fb => by kernel_rfl) (by kernel_rfl) rfl [0, 1, 3, 4, 5] (by decide) (by decide) (fun w51 hS52 => ?_)
     refine ⟨trivial, ?_⟩
     refine sg 4 [] [2, 3] [(2, (pt g14)), (3, (iv t38.2))] (by kernel_rfl) ?_
     refine WL.done rfl (WX.next ?_)
     refine WC.ret ?_
     injection hl35 with hl35
     subst hl35
     injection hf with hf
     subst hf
     exact WX.thenR (WX.blockR (WX.thenR (WX.thenR (WX.blockR (WX.thenR (WX.ret_ [.v (iv 0), .v (iv 0), .v (iv 0), .v (iv 0)] (.tuple #[(.agg #[(iv 0), (iv 0), (iv 0), (iv 0)]), (iv t38.2)]) [.cell ⟨g14, 0, none⟩ (iv 0), .cell ⟨g14, 1, none⟩ (iv 0), .cell ⟨g14, 2, none⟩ (iv 0), .cell ⟨g14, 3, none⟩ (iv 0)] (fun fb => by kernel_rfl) ⟨hS52.cell 0 rfl 0 rfl, hS52.cell 0 rfl 1 rfl, hS52.cell 0 rfl 2 rfl, hS52.cell 0 rfl 3 rfl, trivial⟩ ⟨_, rfl, rfl, hS52.keep⟩))))))
    refine WC.condF2 (fun fb => by kernel_rfl) h50 ?_
    refine WC.skip (WX.next (WC.seq (WC.region ?_)))
    refine seg 4 [.v (iv x11)] [2, 4, 7, 14, 15, 16, 31, 32] [(2, (pt g14)), (4, (pt g28)), (7, (pt g45)), (14, (sv A8 t3 c9)), (15, (iv (t3.length : Int))), (16, (iv x18)), (31, (iv (w64 (x11 + 1)))), (32, (pt g28))] [.cell ⟨g28, 0, none⟩ (iv x11)] (fun fb => by kernel_rfl) rfl ⟨hS49.cell 3 rfl 0 rfl, trivial⟩ ?_
    refine WL.store hS49 3 rfl [(0, (iv (w64 (x11 + 1))))] #[(iv (w64 (x11 + 1))), (iv x12), (iv x13), (iv x17)] (fun fb => by kernel_rfl) (by kernel_rfl) rfl [0, 1, 2, 4, 5] (by decide) (by decide) (fun w53 hS54 => ?_)
    refine ⟨trivial, ?_⟩
    refine WL.done rfl (WX.next (WC.seq (WC.seq (WC.region ?_))))
    refine seg 2 [.v (bv t38.1.Fills)] [2, 4, 7, 14, 15, 16, 34] [(2, (pt g14)), (4, (pt g28)), (7, (pt g45)), (14, (sv A8 t3 c9)), (15, (iv (t3.length : Int))), (16, (iv x18)), (34, (bv t38.1.Fills))] [.cell ⟨g45, 0, none⟩ (bv t38.1.Fills)] (fun fb => by kernel_rfl) rfl ⟨hS54.cell 1 rfl 0 rfl, trivial⟩ ?_
    refine WL.done rfl (WX.next ?_)
    obtain ⟨x55, hx56, hl35⟩ := bind_some hl35
    refine WC.cutN (T := Int) (fun t => [(2, (pt g14)), (4, (pt g28)), (7, (pt g45)), (14, (sv A8 t3 c9)), (15, (iv (t3.length : Int))), (16, (iv x18))]) (fun t w1 => St NoS w w1 [] [blk g14 (.cells #[(iv 0), (iv 0), (iv 0), (iv 0)] 34 (0, 0)), blk g28 (.cells #[(iv (w64 (x11 + 1))), (iv t), (iv x13), (iv x17)] 34 (0, 0)), blk g45 (.cells #[(bv t38.1.Fills), (iv t38.1.Torus.Width), (iv t38.1.Torus.Height), (sv A43 t38.1.Torus.Cells c44), (iv t38.1.Side)] 41 (0, 0)), rowO 3 encInt A43 c44 t38.1.Torus.Cells, rowO 28 (encSl Tile) A8 c9 (tag H10 t3), rowsO 48 enc_Tile H10 t3] ∧ x55 = t) (fun Kx55 => ?_) ?_
    ·
     rcases br_some hx56 with ⟨h57, hx56⟩ | ⟨h57, hx56⟩
     ·refine WC.condT2 (fun fb => by kernel_rfl) h57 ?_
      refine WC.region ?_
      refine seg 4 [.v (iv x12)] [2, 4, 7, 14, 15, 16, 37, 38] [(2, (pt g14)), (4, (pt g28)), (7, (pt g45)), (14, (sv A8 t3 c9)), (15, (iv (t3.length : Int))), (16, (iv x18)), (37, (iv (w64 (x12 + 1)))), (38, (.pointer (some ⟨g28, 1, none⟩)))] [.cell ⟨g28, 1, none⟩ (iv x12)] (fun fb => by kernel_rfl) rfl ⟨hS54.cell 0 rfl 1 rfl, trivial⟩ ?_
      refine WL.store hS54 0 rfl [(1, (iv (w64 (x12 + 1))))] #[(iv (w64 (x11 + 1))), (iv (w64 (x12 + 1))), (iv x13), (iv x17)] (fun fb => by kernel_rfl) (by kernel_rfl) rfl [1, 2, 3, 4, 5] (by decide) (by decide) (fun w58 hS59 => ?_)
      refine ⟨trivial, ?_⟩
      refine WL.done rfl ?_
      injection hx56 with hx56
      exact WX.to Kx55 (w64 (x12 + 1)) [2, 4, 7, 14, 15, 16] rfl ⟨(hS59.subR []).sub [3, 0, 1, 2, 4, 5] (by decide), hx56.symm⟩
     refine WC.condF2 (fun fb => by kernel_rfl) h57 ?_
     refine WC.skip ?_
     injection hx56 with hx56
     exact WX.to Kx55 x12 [2, 4, 7, 14, 15, 16] rfl ⟨(hS54.subR []).sub [3, 0, 1, 2, 4, 5] (by decide), hx56.symm⟩
    rintro y63 w60 ⟨hS61, hq62⟩
    subst hq62
    refine WX.next (WC.seq (WC.region ?_))
    refine seg 8 [.v (iv x13), .v (sv A43 t38.1.Torus.Cells c44)] [2, 4, 7, 14, 15, 16, 45, 46] [(2, (pt g14)), (4, (pt g28)), (7, (pt g45)), (14, (sv A8 t3 c9)), (15, (iv (t3.length : Int))), (16, (iv x18)), (45, (iv (maxI x13 (t38.1.Torus.Cells.length : Int)))), (46, (.pointer (some ⟨g28, 2, none⟩)))] [.cell ⟨g28, 2, none⟩ (iv x13), .cell ⟨g45, 3, none⟩ (sv A43 t38.1.Torus.Cells c44)] (fun fb => by kernel_rfl) rfl ⟨hS61.cell 1 rfl 2 rfl, hS61.cell 2 rfl 3 rfl, trivial⟩ ?_
    refine WL.store hS61 1 rfl [(2, (iv (maxI x13 (t38.1.Torus.Cells.length : Int))))] #[(iv (w64 (x11 + 1))), (iv x55), (iv (maxI x13 (t38.1.Torus.Cells.length : Int))), (iv x17)] (fun fb => by kernel_rfl) (by kernel_rfl) rfl [0, 2, 3, 4, 5] (by decide) (by decide) (fun w65 hS66 => ?_)
    refine ⟨trivial, ?_⟩
    refine WL.done rfl (WX.next (WC.region ?_))
    refine seg 6 [.v (iv x17), .v (iv t38.1.Side)] [2, 4, 14, 15, 16, 51, 52] [(2, (pt g14)), (4, (pt g28)), (14, (sv A8 t3 c9)), (15, (iv (t3.length : Int))), (16, (iv x18)), (51, (iv (maxI x17 t38.1.Side))), (52, (.pointer (some ⟨g28, 3, none⟩)))] [.cell ⟨g28, 3, none⟩ (iv x17), .cell ⟨g45, 4, none⟩ (iv t38.1.Side)] (fun fb => by kernel_rfl) rfl ⟨hS66.cell 0 rfl 3 rfl, hS66.cell 2 rfl 4 rfl, trivial⟩ ?_
    refine WL.store hS66 0 rfl [(3, (iv (maxI x17 t38.1.Side)))] #[(iv (w64 (x11 + 1))), (iv x55), (iv (maxI x13 (t38.1.Torus.Cells.length : Int))), (iv (maxI x17 t38.1.Side))] (fun fb => by kernel_rfl) (by kernel_rfl) rfl [1, 2, 3, 4, 5] (by decide) (by decide) (fun w67 hS68 => ?_)
    refine ⟨trivial, ?_⟩
    refine WL.done rfl ?_
    refine WX.blockN (WX.next ?_)
    refine WC.region ?_
    refine sg 2 [] [2, 4, 14, 15, 16] [(2, (pt g14)), (4, (pt g28)), (14, (sv A8 t3 c9)), (15, (iv (t3.length : Int))), (16, (iv (w64 (x18 + 1))))] (by kernel_rfl) ?_
    refine WL.done rfl ?_
    exact WX.again k32 (Nat.lt_succ_self _) (w64 (x11 + 1), x55, maxI x13 (t38.1.Torus.Cells.length : Int), maxI x17 t38.1.Side, w64 (x18 + 1)) [2, 4, 14, 15, 16] rfl ⟨(hS68.subR []).sub [1, 0, 4, 5] (by decide), hl35⟩
   refine WC.condF2 (fun fb => by kernel_rfl) h36 ?_
   refine WC.exit ?_
   injection hl35 with hl35
   exact WX.thenX (WX.thenX (WX.blockHere (WX.to Kx19 (x11, x12, x13, x17) [2, 4] rfl ⟨(hS34.subR []).sub [0, 1] (by decide), hl35.symm⟩)))
 rintro y72 w69 ⟨hS70, hq71⟩
 subst hq71
 have hf := sum_inr hf
 refine WX.next (WC.seq (WC.region ?_))
 refine seg 1 [.v (iv y72.1), .v (iv y72.2.1), .v (iv y72.2.2.1), .v (iv y72.2.2.2)] [2, 54] [(2, (pt g14)), (54, (.agg #[(iv y72.1), (iv y72.2.1), (iv y72.2.2.1), (iv y72.2.2.2)]))] [.cell ⟨g28, 0, none⟩ (iv y72.1), .cell ⟨g28, 1, none⟩ (iv y72.2.1), .cell ⟨g28, 2, none⟩ (iv y72.2.2.1), .cell ⟨g28, 3, none⟩ (iv y72.2.2.2)] (fun fb => by kernel_rfl) rfl ⟨hS70.cell 1 rfl 0 rfl, hS70.cell 1 rfl 1 rfl, hS70.cell 1 rfl 2 rfl, hS70.cell 1 rfl 3 rfl, trivial⟩ ?_
 refine WL.store hS70 0 rfl [(0, (iv y72.1)), (1, (iv y72.2.1)), (2, (iv y72.2.2.1)), (3, (iv y72.2.2.2))] #[(iv y72.1), (iv y72.2.1), (iv y72.2.2.1), (iv y72.2.2.2)] (fun fb => by kernel_rfl) (by kernel_rfl) rfl [1] (by decide) (by decide) (fun w73 hS74 => ?_)
 refine ⟨trivial, ?_⟩
 refine sg 3 [] [2, 3] [(2, (pt g14)), (3, (iv 0))] (by kernel_rfl) ?_
 refine WL.done rfl (WX.next ?_)
 refine WC.ret ?_
 injection hf with hf
 subst hf
 exact WX.ret_ [.v (iv y72.1), .v (iv y72.2.1), .v (iv y72.2.2.1), .v (iv y72.2.2.2)] (.tuple #[(.agg #[(iv y72.1), (iv y72.2.1), (iv y72.2.2.1), (iv y72.2.2.2)]), (iv 0)]) [.cell ⟨g14, 0, none⟩ (iv y72.1), .cell ⟨g14, 1, none⟩ (iv y72.2.1), .cell ⟨g14, 2, none⟩ (iv y72.2.2.1), .cell ⟨g14, 3, none⟩ (iv y72.2.2.2)] (fun fb => by kernel_rfl) ⟨hS74.cell 0 rfl 0 rfl, hS74.cell 0 rfl 1 rfl, hS74.cell 0 rfl 2 rfl, hS74.cell 0 rfl 3 rfl, trivial⟩ ⟨_, rfl, rfl, hS74.keep⟩
theorem top_chess_calls   (r : (List Tile)) (w : World)  (hf : top_chess = some r) :
  CallsR Try.prog 35 #[] w (fun v w' => ∃ (A1_ : Option Addr), ∃ (c1_ : Nat), v = (sv A1_ r c1_) ∧ St NoS w w' [] [rowO 48 enc_Tile A1_ c1_ r]) := by
 have hS : St NoS w w [] [] := St.init (ro_nil _ _)
 refine enter 4 Try.func35 rfl Try.ntmps35 rfl ?_
 unfold top_chess at hf
 refine WC.seq (WC.region ?_)
 refine sg 1 [] [] [] (by kernel_rfl) ?_
 refine WL.done rfl (WX.next (WC.seq (WC.region ?_)))
 refine sg 2 [] [1, 2] [(1, (.agg #[(iv 0), (iv 1), (iv 1), (iv 0)])), (2, (.agg #[(iv 1), (iv 0), (iv 0), (iv 1)]))] (by kernel_rfl) ?_
 refine WL.new hS 3 [] (fun g => (.slice (some ⟨g, 0, none⟩) 2 2)) (.cells #[(iv 0), (iv 1), (iv 1), (iv 0), (iv 1), (iv 0), (iv 0), (iv 1)] 48 (0, 0)) [] (fun fb g => by kernel_rfl) trivial (fun g3 w4 hS5 => ?_)
 refine ⟨trivial, ?_⟩
 have hS6 := hS.go w4 [rowO 48 enc_Tile (some ⟨g3, 0, none⟩) 2 [(Tile.mk 0 1 1 0), (Tile.mk 1 0 0 1)]] (hS5.map1 0 _ (fun h => rowO.ofBlk h rfl (Nat.le_of_ble_eq_true (by kernel_rfl))) (fun _ h => by obtain ⟨_, h1, h2⟩ := h; injection h1 with h1; subst h1; exact h2) [] (by decide) (by decide))
 refine sg 4 [] [0] [(0, (sv (some ⟨g3, 0, none⟩) [(Tile.mk 0 1 1 0), (Tile.mk 1 0 0 1)] 2))] (by kernel_rfl) ?_
 refine WL.done rfl (WX.next ?_)
 refine WC.ret ?_
 injection hf with hf
 subst hf
 exact WX.ret_ [] (sv (some ⟨g3, 0, none⟩) [(Tile.mk 0 1 1 0), (Tile.mk 1 0 0 1)] 2) [] (fun fb => by kernel_rfl) trivial ⟨_, rfl, (some ⟨g3, 0, none⟩), 2, rfl, (hS6.sub [0] (by decide)).noR⟩
end Gp
