/- Walks: each function of the program computes its plain function. -/
import Derived.Test.YtfehljifahnipaaGreatDoorGx4
set_option linter.unusedVariables false
set_option linter.unusedSimpArgs false
set_option maxHeartbeats 4000000
set_option maxRecDepth 8000
namespace Gp
open Go Gw Go.Proofs
theorem torus_back_key107 : KeyK Tryz.prog 107 (aggI ints_A8_Int) := KeyK.array (n := 8) (by kernel_rfl) ints_A8_Int (fun _ => rfl) (fun x y h => by cases x; cases y; simp only [ints_A8_Int, List.cons.injEq, and_true] at h; obtain ⟨rfl, rfl, rfl, rfl, rfl, rfl, rfl, rfl⟩ := h; rfl)
theorem torus_back_calls (k : Nat) (p0 : List Row) (p1 : A8_Int) (p2 : Int) (Aa : Option Addr) (ca : Nat) (Ha : Nat → HF) (r : (List (Option (List (A8_Int × Bool))))) (w : World) (hR0 : RO NoS w (rowR encN_Row Aa ca (tag Ha p0))) (hR1 : RO NoS w (nestO subN_Row Ha p0)) (hf : torus_back k p0 p1 p2 = some r) :
  CallsR Tryz.prog 76 #[(sv Aa p0 ca), (.agg #[(iv p1.e0), (iv p1.e1), (iv p1.e2), (iv p1.e3), (iv p1.e4), (iv p1.e5), (iv p1.e6), (iv p1.e7)]), (iv p2)] w (fun v w' => ∃ (A1_ : Option Addr), ∃ (c1_ : Nat), ∃ (m1_ : Nat → Nat), v = (sv A1_ r c1_) ∧ St NoS w w' [] [rowO 113 (encMap A8_Int Bool) A1_ c1_ (tag m1_ r), mapsO (aggI ints_A8_Int) vB m1_ r]) := by
 have hS : St NoS w w [rowR encN_Row Aa ca (tag Ha p0), nestO subN_Row Ha p0] [] := St.init (ro_cons hR0 (ro_cons hR1 (ro_nil _ _)))
 refine enter 46 Tryz.func76 rfl Tryz.ntmps76 rfl ?_
 unfold torus_back at hf
 refine WC.seq (WC.region ?_)
 refine WL.new hS 4 [] (fun g => (pt g)) (.cells #[(iv p1.e0), (iv p1.e1), (iv p1.e2), (iv p1.e3), (iv p1.e4), (iv p1.e5), (iv p1.e6), (iv p1.e7)] 107 (0, 0)) [] (fun fb g => by kernel_rfl) trivial (fun g9 w10 hS11 => ?_)
 refine ⟨trivial, ?_⟩
 refine sg 2 [] [0, 2, 4] [(0, (sv Aa p0 ca)), (2, (iv p2)), (4, (pt g9))] (by kernel_rfl) ?_
 refine WL.done rfl (WX.next (WC.seq (WC.region ?_)))
 refine WL.new hS11 12 [] (fun g => (.map (some g))) (mapObj (aggI ints_A8_Int) vB ([] : List (A8_Int × Bool))) [] (fun fb g => by kernel_rfl) trivial (fun g12 w13 hS14 => ?_)
 refine ⟨trivial, ?_⟩
 refine seg 2 [.v (iv p1.e0), .v (iv p1.e1), .v (iv p1.e2), .v (iv p1.e3), .v (iv p1.e4), .v (iv p1.e5), .v (iv p1.e6), .v (iv p1.e7)] [0, 2, 12, 13] [(0, (sv Aa p0 ca)), (2, (iv p2)), (12, (.map (some g12))), (13, (.agg #[(iv p1.e0), (iv p1.e1), (iv p1.e2), (iv p1.e3), (iv p1.e4), (iv p1.e5), (iv p1.e6), (iv p1.e7)]))] [.cell ⟨g9, 0, none⟩ (iv p1.e0), .cell ⟨g9, 1, none⟩ (iv p1.e1), .cell ⟨g9, 2, none⟩ (iv p1.e2), .cell ⟨g9, 3, none⟩ (iv p1.e3), .cell ⟨g9, 4, none⟩ (iv p1.e4), .cell ⟨g9, 5, none⟩ (iv p1.e5), .cell ⟨g9, 6, none⟩ (iv p1.e6), .cell ⟨g9, 7, none⟩ (iv p1.e7)] (fun fb => by kernel_rfl) rfl ⟨hS14.cell 1 rfl 0 rfl, hS14.cell 1 rfl 1 rfl, hS14.cell 1 rfl 2 rfl, hS14.cell 1 rfl 3 rfl, hS14.cell 1 rfl 4 rfl, hS14.cell 1 rfl 5 rfl, hS14.cell 1 rfl 6 rfl, hS14.cell 1 rfl 7 rfl, trivial⟩ ?_
 refine WL.mapput hS14 0 (t := 113) (kT := 107) (eT := 4) (kE := (aggI ints_A8_Int)) (vE := vB) (l := ([] : List (A8_Int × Bool))) rfl p1 true (fun fb => by kernel_rfl) torus_back_key107 (by kernel_rfl) [1] (by decide) (by decide) (fun w15 hS16 => ?_)
 refine ⟨trivial, ?_⟩
 refine sg 4 [] [0, 2, 14] [(0, (sv Aa p0 ca)), (2, (iv p2)), (14, (.map (some g12)))] (by kernel_rfl) ?_
 refine WL.new hS16 15 [] (fun g => (.slice (some ⟨g, 0, none⟩) 1 1)) (.cells #[(.map (some g12))] 113 (0, 0)) [] (fun fb g => by kernel_rfl) trivial (fun g17 w18 hS19 => ?_)
 refine ⟨trivial, ?_⟩
 have hS20 := hS.go w18 [rowO 113 (encMap A8_Int Bool) (some ⟨g17, 0, none⟩) 1 (tag (fun _ => g12) [some (mput p1 true ([] : List (A8_Int × Bool)))]), blk g12 (mapObj (aggI ints_A8_Int) vB (mput p1 true ([] : List (A8_Int × Bool)))), blk g9 (.cells #[(iv p1.e0), (iv p1.e1), (iv p1.e2), (iv p1.e3), (iv p1.e4), (iv p1.e5), (iv p1.e6), (iv p1.e7)] 107 (0, 0))] (hS19.map1 0 _ (fun h => rowO.ofBlk h rfl (Nat.le_of_ble_eq_true (by kernel_rfl))) (fun _ h => by obtain ⟨_, h1, h2⟩ := h; injection h1 with h1; subst h1; exact h2) [1, 2] (by decide) (by decide))
 have hS21 := hS20.go w18 [mapsO (aggI ints_A8_Int) vB (fun _ => g12) [some (mput p1 true ([] : List (A8_Int × Bool)))], rowO 113 (encMap A8_Int Bool) (some ⟨g17, 0, none⟩) 1 (tag (fun _ => g12) [some (mput p1 true ([] : List (A8_Int × Bool)))]), blk g9 (.cells #[(iv p1.e0), (iv p1.e1), (iv p1.e2), (iv p1.e3), (iv p1.e4), (iv p1.e5), (iv p1.e6), (iv p1.e7)] 107 (0, 0))] (hS20.mapsOne 1 rfl [0, 2] (by decide) (by decide))
 refine sg 6 [] [0, 2, 7] [(0, (sv Aa p0 ca)), (2, (iv p2)), (7, (sv (some ⟨g17, 0, none⟩) [some (mput p1 true ([] : List (A8_Int × Bool)))] 1))] (by kernel_rfl) ?_
 refine WL.done rfl (WX.next (WC.seq (WC.seq (WC.region ?_))))
 refine sg 2 [] [0, 7, 16, 17] [(0, (sv Aa p0 ca)), (7, (sv (some ⟨g17, 0, none⟩) [some (mput p1 true ([] : List (A8_Int × Bool)))] 1)), (16, (iv p2)), (17, (iv 0))] (by kernel_rfl) ?_
 refine WL.done rfl (WX.next ?_)
 obtain ⟨x30, hx31, hf⟩ := bind_some hf
 let e14 : Nat × Value := (0, (sv Aa p0 ca))
 let e16 := aggI ints_A8_Int
 let e17 : List Own := [rowR encN_Row Aa ca (tag Ha p0), nestO subN_Row Ha p0]
 let e18 : Nat × Value := (27, (iv (p0.length : Int)))
 let e19 := encMap A8_Int Bool
 let e20 : Nat × Value := (16, (iv p2))
 let e22 : List Nat := [0, 7, 8, 9, 16, 17, 26, 27, 28]
 let e23 : Nat × Value := (26, (sv Aa p0 ca))
 let e25 := A8_Int × Bool
 refine WC.cutN (T := (List (Option (List e25))) × (Option Addr) × Nat × (Nat → Nat)) (fun t => [(7, (sv t.2.1 t.1 t.2.2.1))]) (fun t w1 => St NoS w w1 e17 [rowO 113 e19 t.2.1 t.2.2.1 (tag t.2.2.2 t.1), mapsO e16 vB t.2.2.2 t.1] ∧ x30 = t.1) (fun Kx30 => ?_) ?_
 ·
  refine WC.block ?_
  refine WC.loop (T := ((List (Option (List e25))) × Int) × (Option Addr) × Nat × (Nat → Nat)) (fun t => [e14, (7, (sv t.2.1 t.1.1 t.2.2.1)), e20, (17, (iv t.1.2))]) (fun n t w1 => St NoS w w1 e17 [rowO 113 e19 t.2.1 t.2.2.1 (tag t.2.2.2 t.1.1), mapsO e16 vB t.2.2.2 t.1.1] ∧ torus_back.l0 n t.1.1 t.1.2 p0 p2 = some x30) k (([some (mput p1 true ([] : List e25))], 0), (some ⟨g17, 0, none⟩), 1, (fun _ => g12)) [0, 7, 16, 17] rfl ⟨(hS21.subR [0, 1]).sub [1, 0] (by decide), hx31⟩ ?_
  rintro k32 ⟨⟨l24, x26⟩, A22, c23, H25⟩ w33 ⟨hS34, hl35⟩
  let e9 := (some (H25 (w64 ((l24.length : Int) - 1)).toNat))
  let e15 : Nat × Value := (7, (sv A22 l24 c23))
  let e21 : Nat × Value := (17, (iv x26))
  let e26 := (w64 ((l24.length : Int) - 1))
  cases k32 with
  | zero => rw [torus_back.l0] at hl35; cases hl35
  | succ k32 =>
   rw [torus_back.l0] at hl35
   refine WC.seq (WC.region ?_)
   refine sg 1 [] [0, 7, 16, 17, 18] [e14, e15, e20, e21, (18, (bv (decide (x26 < p2))))] (by kernel_rfl) ?_
   refine WL.done rfl (WX.next (WC.seq ?_))
   rcases br_some hl35 with ⟨h36, hl35⟩ | ⟨h36, hl35⟩
   ·refine WC.condT2 (fun fb => by kernel_rfl) h36 ?_
    refine WC.skip (WX.next (WC.seq (WC.block (WC.seq (WC.region ?_)))))
    refine sg 4 [] [0, 7, 16, 17, 19, 22] [e14, e15, e20, e21, (19, (sv A22 l24 c23)), (22, (iv e26))] (by kernel_rfl) ?_
    obtain ⟨h37, hl35⟩ := as_some hl35
    refine seg 5 [] [0, 7, 16, 17, 23] [e14, e15, e20, e21, (23, (.pointer (some ((adr A22).add (e26.toNat * 1)))))] [.idx A22 e26 l24.length] (fun fb => by kernel_rfl) rfl ⟨nrow_adr (rowO.rd (hS34.own 0).1) h37.1 h37.2, trivial⟩ ?_
    obtain ⟨m38, hm39, hl35⟩ := bind_some hl35
    refine seg 6 [.v (.map e9)] [0, 7, 16, 17, 24] [e14, e15, e20, e21, (24, (.map e9))] [.cell ((adr A22).add (e26.toNat * 1)) (.map e9)] (fun fb => by kernel_rfl) rfl ⟨nrow_cell (rowO.rd (hS34.own 0).1) none h37.1 h37.2 0 (mapV_some hm39), trivial⟩ ?_
    refine WL.new hS34 25 [] (fun g => (.map (some g))) (mapObj e16 vB ([] : List e25)) [] (fun fb g => by kernel_rfl) trivial (fun g40 w41 hS42 => ?_)
    refine ⟨trivial, ?_⟩
    refine sg 9 [] [0, 7, 8, 9, 16, 17] [e14, e15, (8, (.map e9)), (9, (.map (some g40))), e20, e21] (by kernel_rfl) ?_
    refine WL.done rfl (WX.next (WC.seq (WC.seq (WC.region ?_))))
    refine sg 3 [] e22 [e14, e15, (8, (.map e9)), (9, (.map (some g40))), e20, e21, e23, e18, (28, (iv 0))] (by kernel_rfl) ?_
    refine WL.done rfl (WX.next ?_)
    obtain ⟨x45, hx46, hl35⟩ := bind_some hl35
    let e27 := some g40
    refine WC.cutN (T := (List e25)) (fun t => [e14, e15, (9, (.map e27)), e20, e21]) (fun t w1 => St NoS w w1 e17 [rowO 113 e19 A22 c23 (tag H25 l24), mapsO e16 vB H25 l24, blk g40 (mapObj e16 vB t)] ∧ x45 = t) (fun Kx45 => ?_) ?_
    ·
     refine WC.block ?_
     refine WC.loop (T := (List e25) × Int) (fun t => [e14, e15, (8, (.map e9)), (9, (.map e27)), e20, e21, e23, e18, (28, (iv t.2))]) (fun n t w1 => St NoS w w1 e17 [rowO 113 e19 A22 c23 (tag H25 l24), mapsO e16 vB H25 l24, blk g40 (mapObj e16 vB t.1)] ∧ torus_back.l1 n t.1 t.2 p0 m38 = some x45) k32 (([] : List e25), 0) e22 rfl ⟨(hS42.subR [0, 1]).sub [1, 2, 0] (by decide), hx46⟩ ?_
     rintro k47 ⟨l43, x44⟩ w48 ⟨hS49, hl50⟩
     let e8 := rdD p0 x44 z_Row
     let e10 := (adr Aa).add ((x44).toNat * 19)
     let e11 := e8.South
     let e12 := e8.North
     let e13 : Array Value := #[(sv ((Ha x44.toNat 0).1) (e8.Cells) ((Ha x44.toNat 0).2)), (iv (e11.e0)), (iv (e11.e1)), (iv (e11.e2)), (iv (e11.e3)), (iv (e11.e4)), (iv (e11.e5)), (iv (e11.e6)), (iv (e11.e7)), (iv (e12.e0)), (iv (e12.e1)), (iv (e12.e2)), (iv (e12.e3)), (iv (e12.e4)), (iv (e12.e5)), (iv (e12.e6)), (iv (e12.e7)), (iv (e8.West)), (iv (e8.East))]
     let e24 := sv ((Ha x44.toNat 0).1) (e8.Cells) ((Ha x44.toNat 0).2)
     cases k47 with
     | zero => rw [torus_back.l1] at hl50; cases hl50
     | succ k47 =>
      rw [torus_back.l1] at hl50
      refine WC.seq (WC.region ?_)
      refine sg 1 [] [0, 7, 8, 9, 16, 17, 26, 27, 28, 29] [e14, e15, (8, (.map e9)), (9, (.map e27)), e20, e21, e23, e18, (28, (iv x44)), (29, (bv (decide (x44 < (p0.length : Int)))))] (by kernel_rfl) ?_
      refine WL.done rfl (WX.next (WC.seq ?_))
      rcases br_some hl50 with ⟨h51, hl50⟩ | ⟨h51, hl50⟩
      ·refine WC.condT2 (fun fb => by kernel_rfl) h51 ?_
       refine WC.skip (WX.next (WC.seq (WC.block (WC.seq (WC.region ?_)))))
       obtain ⟨h52, hl50⟩ := as_some hl50
       refine seg 2 [.v e24, .v (iv (e11.e0)), .v (iv (e11.e1)), .v (iv (e11.e2)), .v (iv (e11.e3)), .v (iv (e11.e4)), .v (iv (e11.e5)), .v (iv (e11.e6)), .v (iv (e11.e7)), .v (iv (e12.e0)), .v (iv (e12.e1)), .v (iv (e12.e2)), .v (iv (e12.e3)), .v (iv (e12.e4)), .v (iv (e12.e5)), .v (iv (e12.e6)), .v (iv (e12.e7)), .v (iv (e8.West)), .v (iv (e8.East))] [0, 7, 8, 9, 16, 17, 26, 27, 28, 31] [e14, e15, (8, (.map e9)), (9, (.map e27)), e20, e21, e23, e18, (28, (iv x44)), (31, (.agg e13))] [.idx Aa x44 p0.length, .cell e10 e24, .cell (e10.add 1) (iv (e11.e0)), .cell (e10.add 2) (iv (e11.e1)), .cell (e10.add 3) (iv (e11.e2)), .cell (e10.add 4) (iv (e11.e3)), .cell (e10.add 5) (iv (e11.e4)), .cell (e10.add 6) (iv (e11.e5)), .cell (e10.add 7) (iv (e11.e6)), .cell (e10.add 8) (iv (e11.e7)), .cell (e10.add 9) (iv (e12.e0)), .cell (e10.add 10) (iv (e12.e1)), .cell (e10.add 11) (iv (e12.e2)), .cell (e10.add 12) (iv (e12.e3)), .cell (e10.add 13) (iv (e12.e4)), .cell (e10.add 14) (iv (e12.e5)), .cell (e10.add 15) (iv (e12.e6)), .cell (e10.add 16) (iv (e12.e7)), .cell (e10.add 17) (iv (e8.West)), .cell (e10.add 18) (iv (e8.East))] (fun fb => by kernel_rfl) rfl ⟨nrow_adr (hS49.rd 0).1 h52.1 h52.2, nrow_cell (hS49.rd 0).1 z_Row h52.1 h52.2 0 rfl, nrow_cell (hS49.rd 0).1 z_Row h52.1 h52.2 1 rfl, nrow_cell (hS49.rd 0).1 z_Row h52.1 h52.2 2 rfl, nrow_cell (hS49.rd 0).1 z_Row h52.1 h52.2 3 rfl, nrow_cell (hS49.rd 0).1 z_Row h52.1 h52.2 4 rfl, nrow_cell (hS49.rd 0).1 z_Row h52.1 h52.2 5 rfl, nrow_cell (hS49.rd 0).1 z_Row h52.1 h52.2 6 rfl, nrow_cell (hS49.rd 0).1 z_Row h52.1 h52.2 7 rfl, nrow_cell (hS49.rd 0).1 z_Row h52.1 h52.2 8 rfl, nrow_cell (hS49.rd 0).1 z_Row h52.1 h52.2 9 rfl, nrow_cell (hS49.rd 0).1 z_Row h52.1 h52.2 10 rfl, nrow_cell (hS49.rd 0).1 z_Row h52.1 h52.2 11 rfl, nrow_cell (hS49.rd 0).1 z_Row h52.1 h52.2 12 rfl, nrow_cell (hS49.rd 0).1 z_Row h52.1 h52.2 13 rfl, nrow_cell (hS49.rd 0).1 z_Row h52.1 h52.2 14 rfl, nrow_cell (hS49.rd 0).1 z_Row h52.1 h52.2 15 rfl, nrow_cell (hS49.rd 0).1 z_Row h52.1 h52.2 16 rfl, nrow_cell (hS49.rd 0).1 z_Row h52.1 h52.2 17 rfl, nrow_cell (hS49.rd 0).1 z_Row h52.1 h52.2 18 rfl, trivial⟩ ?_
       refine WL.new hS49 11 [] (fun g => (pt g)) (.cells #[(.slice none 0 0), (iv 0), (iv 0), (iv 0), (iv 0), (iv 0), (iv 0), (iv 0), (iv 0), (iv 0), (iv 0), (iv 0), (iv 0), (iv 0), (iv 0), (iv 0), (iv 0), (iv 0), (iv 0)] 109 (0, 0)) [] (fun fb g => by kernel_rfl) trivial (fun g53 w54 hS55 => ?_)
       refine ⟨trivial, ?_⟩
       refine WL.store hS55 0 rfl [(0, e24), (1, (iv (e11.e0))), (2, (iv (e11.e1))), (3, (iv (e11.e2))), (4, (iv (e11.e3))), (5, (iv (e11.e4))), (6, (iv (e11.e5))), (7, (iv (e11.e6))), (8, (iv (e11.e7))), (9, (iv (e12.e0))), (10, (iv (e12.e1))), (11, (iv (e12.e2))), (12, (iv (e12.e3))), (13, (iv (e12.e4))), (14, (iv (e12.e5))), (15, (iv (e12.e6))), (16, (iv (e12.e7))), (17, (iv (e8.West))), (18, (iv (e8.East)))] e13 (fun fb => by kernel_rfl) (by kernel_rfl) (by kernel_rfl) [1, 2, 3] (by decide) (by decide) (fun w56 hS57 => ?_)
       refine ⟨trivial, ?_⟩
       refine WL.done rfl (WX.next (WC.seq (WC.region ?_)))
       refine seg 3 [.v (iv (e12.e0)), .v (iv (e12.e1)), .v (iv (e12.e2)), .v (iv (e12.e3)), .v (iv (e12.e4)), .v (iv (e12.e5)), .v (iv (e12.e6)), .v (iv (e12.e7))] [0, 7, 8, 9, 11, 16, 17, 26, 27, 28, 32, 34] [e14, e15, (8, (.map e9)), (9, (.map e27)), (11, (pt g53)), e20, e21, e23, e18, (28, (iv x44)), (32, (.map e9)), (34, (.agg #[(iv (e12.e0)), (iv (e12.e1)), (iv (e12.e2)), (iv (e12.e3)), (iv (e12.e4)), (iv (e12.e5)), (iv (e12.e6)), (iv (e12.e7))]))] [.cell ⟨g53, 9, none⟩ (iv (e12.e0)), .cell ⟨g53, 10, none⟩ (iv (e12.e1)), .cell ⟨g53, 11, none⟩ (iv (e12.e2)), .cell ⟨g53, 12, none⟩ (iv (e12.e3)), .cell ⟨g53, 13, none⟩ (iv (e12.e4)), .cell ⟨g53, 14, none⟩ (iv (e12.e5)), .cell ⟨g53, 15, none⟩ (iv (e12.e6)), .cell ⟨g53, 16, none⟩ (iv (e12.e7))] (fun fb => by kernel_rfl) rfl ⟨hS57.cell 0 rfl 9 rfl, hS57.cell 0 rfl 10 rfl, hS57.cell 0 rfl 11 rfl, hS57.cell 0 rfl 12 rfl, hS57.cell 0 rfl 13 rfl, hS57.cell 0 rfl 14 rfl, hS57.cell 0 rfl 15 rfl, hS57.cell 0 rfl 16 rfl, trivial⟩ ?_
       refine WL.lookup (mapsO.at (hS57.own 2).1 h37.1 h37.2 hm39) e12 (d := 35) (c := false) (t := 113) (kT := 107) (eT := 4) (z := false) (kE := e16) (vE := vB) (l := m38) (bv (mget e12 false m38)) (fun fb => by kernel_rfl) torus_back_key107 (by kernel_rfl) (fun _ => by kernel_rfl) rfl ?_
       refine ⟨trivial, ?_⟩
       refine WL.done rfl (WX.next ?_)
       obtain ⟨x58, hx59, hl50⟩ := bind_some hl50
       refine WC.cutN (T := (List e25)) (fun t => [e14, e15, (8, (.map e9)), (9, (.map e27)), e20, e21, e23, e18, (28, (iv x44))]) (fun t w1 => St NoS w w1 e17 [rowO 113 e19 A22 c23 (tag H25 l24), mapsO e16 vB H25 l24, blk g40 (mapObj e16 vB t)] ∧ x58 = t) (fun Kx58 => ?_) ?_
       ·
        rcases br_some hx59 with ⟨h60, hx59⟩ | ⟨h60, hx59⟩
        ·refine WC.condT2 (fun fb => by kernel_rfl) h60 ?_
         refine WC.region ?_
         refine seg 3 [.v (iv (e11.e0)), .v (iv (e11.e1)), .v (iv (e11.e2)), .v (iv (e11.e3)), .v (iv (e11.e4)), .v (iv (e11.e5)), .v (iv (e11.e6)), .v (iv (e11.e7))] [0, 7, 8, 9, 16, 17, 26, 27, 28, 36, 38] [e14, e15, (8, (.map e9)), (9, (.map e27)), e20, e21, e23, e18, (28, (iv x44)), (36, (.map e27)), (38, (.agg #[(iv (e11.e0)), (iv (e11.e1)), (iv (e11.e2)), (iv (e11.e3)), (iv (e11.e4)), (iv (e11.e5)), (iv (e11.e6)), (iv (e11.e7))]))] [.cell ⟨g53, 1, none⟩ (iv (e11.e0)), .cell ⟨g53, 2, none⟩ (iv (e11.e1)), .cell ⟨g53, 3, none⟩ (iv (e11.e2)), .cell ⟨g53, 4, none⟩ (iv (e11.e3)), .cell ⟨g53, 5, none⟩ (iv (e11.e4)), .cell ⟨g53, 6, none⟩ (iv (e11.e5)), .cell ⟨g53, 7, none⟩ (iv (e11.e6)), .cell ⟨g53, 8, none⟩ (iv (e11.e7))] (fun fb => by kernel_rfl) rfl ⟨hS57.cell 0 rfl 1 rfl, hS57.cell 0 rfl 2 rfl, hS57.cell 0 rfl 3 rfl, hS57.cell 0 rfl 4 rfl, hS57.cell 0 rfl 5 rfl, hS57.cell 0 rfl 6 rfl, hS57.cell 0 rfl 7 rfl, hS57.cell 0 rfl 8 rfl, trivial⟩ ?_
         refine WL.mapput hS57 3 (t := 113) (kT := 107) (eT := 4) (kE := e16) (vE := vB) (l := l43) rfl e11 true (fun fb => by kernel_rfl) torus_back_key107 (by kernel_rfl) [0, 1, 2] (by decide) (by decide) (fun w61 hS62 => ?_)
         refine ⟨trivial, ?_⟩
         refine WL.done rfl ?_
         injection hx59 with hx59
         exact WX.to Kx58 (mput e11 true l43) e22 rfl ⟨(hS62.subR [0, 1]).sub [2, 3, 0] (by decide), hx59.symm⟩
        refine WC.condF2 (fun fb => by kernel_rfl) h60 ?_
        refine WC.skip ?_
        injection hx59 with hx59
        exact WX.to Kx58 l43 e22 rfl ⟨(hS57.subR [0, 1]).sub [1, 2, 3] (by decide), hx59.symm⟩
       rintro y67 w63 ⟨hS65, hq66⟩
       subst hq66
       refine WX.blockN (WX.next ?_)
       refine WC.region ?_
       refine sg 2 [] e22 [e14, e15, (8, (.map e9)), (9, (.map e27)), e20, e21, e23, e18, (28, (iv (w64 (x44 + 1))))] (by kernel_rfl) ?_
       refine WL.done rfl ?_
       exact WX.again k47 (Nat.lt_succ_self _) (x58, w64 (x44 + 1)) e22 rfl ⟨(hS65.subR [0, 1]).sub [0, 1, 2] (by decide), hl50⟩
      refine WC.condF2 (fun fb => by kernel_rfl) h51 ?_
      refine WC.exit ?_
      injection hl50 with hl50
      exact WX.thenX (WX.thenX (WX.blockHere (WX.to Kx45 l43 [0, 7, 9, 16, 17] rfl ⟨(hS49.subR [0, 1]).sub [0, 1, 2] (by decide), hl50.symm⟩)))
    rintro y71 w68 ⟨hS69, hq70⟩
    subst hq70
    refine WX.next (WC.region ?_)
    refine sg 2 [] [0, 16, 17, 40, 41] [e14, e20, e21, (40, (sv A22 l24 c23)), (41, (.map e27))] (by kernel_rfl) ?_
    refine WL.new hS69 42 [] (fun g => (.slice (some ⟨g, 0, none⟩) 1 1)) (.cells #[(.map e27)] 113 (0, 0)) [] (fun fb g => by kernel_rfl) trivial (fun g72 w73 hS74 => ?_)
    refine ⟨trivial, ?_⟩
    have hS75 := hS21.go w73 [rowO 113 e19 (some ⟨g72, 0, none⟩) 1 (tag (fun _ => g40) [some x45]), rowO 113 e19 A22 c23 (tag H25 l24), mapsO e16 vB H25 l24, blk g40 (mapObj e16 vB x45)] (hS74.map1 0 _ (fun h => rowO.ofBlk h rfl (Nat.le_of_ble_eq_true (by kernel_rfl))) (fun _ h => by obtain ⟨_, h1, h2⟩ := h; injection h1 with h1; subst h1; exact h2) [1, 2, 3] (by decide) (by decide))
    have hS77 := hS75.go w73 [mapsO e16 vB (fun _ => g40) [some x45], rowO 113 e19 (some ⟨g72, 0, none⟩) 1 (tag (fun _ => g40) [some x45]), rowO 113 e19 A22 c23 (tag H25 l24), mapsO e16 vB H25 l24] (hS75.mapsOne 3 rfl [0, 1, 2] (by decide) (by decide))
    obtain ⟨h78, hl35⟩ := as_some hl35
    refine WL.appendN hS77 2 (d := 43) (tS := 110) (z := (.map none)) (bytes := 8) (c2 := 1) (hx := g40) (x := (some x45)) rfl (fun fb => by kernel_rfl) (rowO.rd (hS77.own 1).1) (by kernel_rfl) (by kernel_rfl) rfl (by decide) h78 (by decide) [0, 1, 3] (by decide) (by decide) (fun A79 c80 w81 hS82 => ?_)
    have hS83 := hS77.go w81 [mapsO e16 vB (updH H25 l24.length g40) (l24 ++ [some x45]), rowO 113 e19 A79 c80 (tag (updH H25 l24.length g40) (l24 ++ [some x45])), rowO 113 e19 (some ⟨g72, 0, none⟩) 1 (tag (fun _ => g40) [some x45])] (hS82.mapsPush 3 1 rfl rfl (by decide) [0, 2] (by decide) (by decide))
    refine ⟨trivial, ?_⟩
    refine sg 5 [] [0, 7, 16, 17] [e14, (7, (sv A79 (l24 ++ [some x45]) c80)), e20, e21] (by kernel_rfl) ?_
    refine WL.done rfl ?_
    refine WX.blockN (WX.next ?_)
    refine WC.region ?_
    refine sg 2 [] [0, 7, 16, 17] [e14, (7, (sv A79 (l24 ++ [some x45]) c80)), e20, (17, (iv (w64 (x26 + 1))))] (by kernel_rfl) ?_
    refine WL.done rfl ?_
    exact WX.again k32 (Nat.lt_succ_self _) ((l24 ++ [some x45], w64 (x26 + 1)), A79, c80, (updH H25 l24.length g40)) [0, 7, 16, 17] rfl ⟨(hS83.subR [0, 1]).sub [1, 0] (by decide), hl35⟩
   refine WC.condF2 (fun fb => by kernel_rfl) h36 ?_
   refine WC.exit ?_
   injection hl35 with hl35
   exact WX.thenX (WX.thenX (WX.blockHere (WX.to Kx30 (l24, A22, c23, H25) [7] rfl ⟨(hS34.subR [0, 1]).sub [0, 1] (by decide), hl35.symm⟩)))
 rintro ⟨y87, A27, c28, H29⟩ w84 ⟨hS85, hq86⟩
 subst hq86
 refine WX.next (WC.seq (WC.region ?_))
 refine sg 2 [] [6] [(6, (sv A27 x30 c28))] (by kernel_rfl) ?_
 refine WL.done rfl (WX.next ?_)
 refine WC.ret ?_
 injection hf with hf
 subst hf
 exact WX.ret_ [] (sv A27 x30 c28) [] (fun fb => by kernel_rfl) trivial ⟨_, rfl, A27, c28, H29, rfl, (hS85.sub [0, 1] (by decide)).noR⟩
theorem torus_find_key107 : KeyK Tryz.prog 107 (aggI ints_A8_Int) := KeyK.array (n := 8) (by kernel_rfl) ints_A8_Int (fun _ => rfl) (fun x y h => by cases x; cases y; simp only [ints_A8_Int, List.cons.injEq, and_true] at h; obtain ⟨rfl, rfl, rfl, rfl, rfl, rfl, rfl, rfl⟩ := h; rfl)
theorem torus_find_calls (k : Nat) (p0 : List Tile) (p1 : Int) (p2 : Int) (Aa : Option Addr) (ca : Nat) (r : Pattern × Bool) (w : World) (hR0 : RO NoS w (rowR enc_Tile Aa ca p0)) (hf : torus_find k p0 p1 p2 = some r) :
  CallsR Tryz.prog 57 #[(sv Aa p0 ca), (iv p1), (iv p2)] w (fun v w' => ∃ (A1_ : Option Addr), ∃ (c1_ : Nat), v = (.tuple #[(.agg #[(iv r.1.Width), (iv r.1.Height), (sv A1_ r.1.Cells c1_)]), (bv r.2)]) ∧ St NoS w w' [] [rowO 3 encInt A1_ c1_ r.1.Cells]) := by
 have hS : St NoS w w [rowR enc_Tile Aa ca p0] [] := St.init (ro_cons hR0 (ro_nil _ _))
 refine enter 105 Tryz.func57 rfl Tryz.ntmps57 rfl ?_
 unfold torus_find at hf
 refine WC.seq (WC.region ?_)
 refine WL.new hS 6 [] (fun g => (pt g)) (.cells #[(iv 0), (iv 0), (.slice none 0 0)] 49 (0, 0)) [] (fun fb g => by kernel_rfl) trivial (fun g9 w10 hS11 => ?_)
 refine ⟨trivial, ?_⟩
 refine sg 2 [] [0, 1, 2, 6] [(0, (sv Aa p0 ca)), (1, (iv p1)), (2, (iv p2)), (6, (pt g9))] (by kernel_rfl) ?_
 refine WL.done rfl (WX.next ?_)
 refine WC.scope ?_
 refine WC.seq (WC.region ?_)
 refine sg 2 [] [1, 2, 6, 19, 20] [(1, (iv p1)), (2, (iv p2)), (6, (pt g9)), (19, (sv Aa p0 ca)), (20, (iv p1))] (by kernel_rfl) ?_
 obtain ⟨t12, ht13, hf⟩ := bind_some hf
 refine WL.call (some 21) 75 #[(sv Aa p0 ca), (iv p1)] (fun fb => by kernel_rfl) (torus_rings_calls _ p0 p1 Aa ca t12 _ (hS11.rd 0) ht13) (fun v w14 hR15 => ?_)
 obtain ⟨A17, c18, H19, rfl, hk_⟩ := hR15
 have hS16 := hS.go w14 [rowO 109 encN_Row A17 c18 (tag H19 t12), poolO [nestO subN_Row H19 t12], blk g9 (.cells #[(iv 0), (iv 0), (.slice none 0 0)] 49 (0, 0))] (hS11.call hk_ [] [0] (fun g hg => hg.elim) (by simp) (by decide))
 refine ⟨trivial, ?_⟩
 refine sg 4 [] [1, 2, 6, 8] [(1, (iv p1)), (2, (iv p2)), (6, (pt g9)), (8, (sv A17 t12 c18))] (by kernel_rfl) ?_
 refine WL.done rfl (WX.next (WC.seq (WC.region ?_)))
 refine WL.new hS16 22 [] (fun g => (.map (some g))) (mapObj (aggI ints_A8_Int) slV ([] : List (A8_Int × (HM × List (Option (List (A8_Int × Bool))))))) [] (fun fb g => by kernel_rfl) trivial (fun g20 w21 hS22 => ?_)
 let e79 := Option (List (A8_Int × Bool))
 have hS23 : St NoS w w21 [knestO (aggI ints_A8_Int) vB ([] : List (A8_Int × (HM × List e79))) ([] : List (A8_Int × List e79)), rowR enc_Tile Aa ca p0] [blk g20 (mapObj (aggI ints_A8_Int) slV ([] : List (A8_Int × (HM × List e79)))), rowO 109 encN_Row A17 c18 (tag H19 t12), poolO [nestO subN_Row H19 t12], blk g9 (.cells #[(iv 0), (iv 0), (.slice none 0 0)] 49 (0, 0))] := hS22.addR _ (knestO_nil _ _ _ _)
 refine ⟨trivial, ?_⟩
 refine sg 2 [] [1, 2, 6, 8, 9] [(1, (iv p1)), (2, (iv p2)), (6, (pt g9)), (8, (sv A17 t12 c18)), (9, (.map (some g20)))] (by kernel_rfl) ?_
 refine WL.done rfl (WX.next (WC.seq (WC.region ?_)))
 refine sg 3 [] [2, 6, 8, 9, 25] [(2, (iv p2)), (6, (pt g9)), (8, (sv A17 t12 c18)), (9, (.map (some g20))), (25, (.agg #[(iv p1), (iv p2), (.slice none 0 0)]))] (by kernel_rfl) ?_
 refine WL.new hS23 10 [] (fun g => (pt g)) (.cells #[(iv 0), (iv 0), (.slice none 0 0)] 49 (0, 0)) [] (fun fb g => by kernel_rfl) trivial (fun g24 w25 hS26 => ?_)
 refine ⟨trivial, ?_⟩
 refine WL.store hS26 0 rfl [(0, (iv p1)), (1, (iv p2)), (2, (.slice none 0 0))] #[(iv p1), (iv p2), (.slice none 0 0)] (fun fb => by kernel_rfl) (by kernel_rfl) rfl [1, 2, 3, 4] (by decide) (by decide) (fun w27 hS28 => ?_)
 refine ⟨trivial, ?_⟩
 refine WL.done rfl (WX.next (WC.seq ?_))
 refine WC.label ?_
 refine WX.next (WC.seq (WC.seq (WC.region ?_)))
 refine sg 3 [] [2, 6, 8, 9, 10, 26, 27, 28] [(2, (iv p2)), (6, (pt g9)), (8, (sv A17 t12 c18)), (9, (.map (some g20))), (10, (pt g24)), (26, (sv A17 t12 c18)), (27, (iv (t12.length : Int))), (28, (iv 0))] (by kernel_rfl) ?_
 refine WL.done rfl (WX.next ?_)
 obtain ⟨x32, hx33, hf⟩ := bind_some hf
 let e13 := Option (List (A8_Int × Bool))
 let e14 := aggI ints_A8_Int
 let e16 := sv A17 t12 c18
 let e23 := (iv (t12.length : Int))
 let e24 : Nat × Value := (10, (pt g24))
 let e25 := A8_Int × (HM × List e13)
 let e28 : Nat × Value := (6, (pt g9))
 let e29 := encMap A8_Int Bool
 let e33 := A8_Int × List e13
 let e34 : List Nat := [0, 1, 2, 3, 4, 5, 6, 7]
 let e37 : List Own := [nestO subN_Row H19 t12]
 let e38 := [[], [0], [], [0, 1, 2], [0, 1, 2, 3], [0, 1, 2, 3, 4], [0, 1, 2, 3, 4], [0, 1, 2, 3, 4, 5, 6], e34, [0, 1, 2, 3, 4], [0, 1, 2, 3, 4, 9], [0, 1, 2, 3, 4, 5, 6, 7, 8, 9, 10], [0, 1, 2, 3, 4, 5, 6, 7, 8, 9, 10, 11]]
 let e42 : Nat × Value := (2, (iv p2))
 let e43 : List Nat := [6, 8, 10, 13, 15, 16, 18, 74, 75, 76, 92]
 let e45 := tag H19 t12
 let e46 := w64 (p2 - 1)
 let e47 := some g20
 let e50 : List Nat := [6, 8, 10, 13, 15, 16]
 let e51 : List Nat := [6, 8, 10, 13, 15, 16, 74, 75, 76]
 let e78 : List Nat := [2, 6, 8, 9, 10, 12, 13, 26, 27, 28]
 let e91 : List Nat := [0, 1, 2, 3, 4, 5, 6, 7, 8, 9, 10, 11, 12, 13, 14, 15]
 let e92 : List Nat := [2, 6, 8, 9, 10, 26, 27, 28]
 refine WC.cutN (T := Unit) (fun t => [e28]) (fun t w1 => St NoS w w1 [knestO e14 vB ([] : List e25) ([] : List e33), rowR enc_Tile Aa ca p0] [blk g9 (.cells #[(iv 0), (iv 0), (.slice none 0 0)] 49 (0, 0))] ∧ x32 = .inr t) (fun Kx32 => ?_) ?_
 ·
  refine WC.block ?_
  refine WC.loop (T := ((List e33) × Int) × (List e25)) (fun t => [e42, e28, (8, e16), (9, (.map e47)), e24, (26, e16), (27, e23), (28, (iv t.1.2))]) (fun n t w1 => St NoS w w1 [knestO e14 vB t.2 t.1.1, knestO e14 vB ([] : List e25) ([] : List e33), rowR enc_Tile Aa ca p0] [blk g9 (.cells #[(iv 0), (iv 0), (.slice none 0 0)] 49 (0, 0)), rowO 109 encN_Row A17 c18 e45, poolO e37, blk g20 (mapObj e14 slV t.2), blk g24 (.cells #[(iv p1), (iv p2), (.slice none 0 0)] 49 (0, 0))] ∧ torus_find.l0 n t.1.1 t.1.2 p1 p2 t12 = some x32) k ((([] : List e33), 0), ([] : List e25)) e92 rfl ⟨(hS28.subR [0, 0, 1]).sub [4, 2, 3, 1, 0] (by decide), hx33⟩ ?_
  rintro k34 ⟨⟨l29, x31⟩, K30⟩ w35 ⟨hS36, hl37⟩
  let e8 := rdD t12 x31 z_Row
  let e10 : Array Value := #[(sv ((H19 x31.toNat 0).1) (e8.Cells) ((H19 x31.toNat 0).2)), (iv ((e8.South).e0)), (iv ((e8.South).e1)), (iv ((e8.South).e2)), (iv ((e8.South).e3)), (iv ((e8.South).e4)), (iv ((e8.South).e5)), (iv ((e8.South).e6)), (iv ((e8.South).e7)), (iv ((e8.North).e0)), (iv ((e8.North).e1)), (iv ((e8.North).e2)), (iv ((e8.North).e3)), (iv ((e8.North).e4)), (iv ((e8.North).e5)), (iv ((e8.North).e6)), (iv ((e8.North).e7)), (iv (e8.West)), (iv (e8.East))]
  let e12 := e8.South
  let e17 := mget e12 zHM K30
  let e19 := e8.North
  let e21 := (adr A17).add ((x31).toNat * 19)
  let e27 : Array Value := #[(iv (e12.e0)), (iv (e12.e1)), (iv (e12.e2)), (iv (e12.e3)), (iv (e12.e4)), (iv (e12.e5)), (iv (e12.e6)), (iv (e12.e7))]
  let e30 := mget e12 [] l29
  let e32 := sv ((H19 x31.toNat 0).1) (e8.Cells) ((H19 x31.toNat 0).2)
  let e35 : Array Value := #[(iv (e19.e0)), (iv (e19.e1)), (iv (e19.e2)), (iv (e19.e3)), (iv (e19.e4)), (iv (e19.e5)), (iv (e19.e6)), (iv (e19.e7))]
  let e40 := tag (e17.1.2.2) e30
  let e44 : Nat × Value := (28, (iv x31))
  let e49 := e17.1.2.1
  let e52 := iv (e12.e0)
  let e53 := iv (e12.e1)
  let e54 := iv (e12.e2)
  let e55 := iv (e12.e3)
  let e56 := iv (e12.e4)
  let e57 := iv (e12.e5)
  let e58 := iv (e12.e6)
  let e59 := iv (e12.e7)
  let e60 := iv (e19.e0)
  let e61 := iv (e19.e1)
  let e62 := iv (e19.e2)
  let e63 := iv (e19.e3)
  let e64 := iv (e19.e4)
  let e65 := iv (e19.e5)
  let e66 := iv (e19.e6)
  let e67 := iv (e19.e7)
  let e68 := e17.1.2.2
  let e80 := (([] : List Int) ++ (e8.Cells))
  let e93 := mapObj e14 slV K30
  cases k34 with
  | zero => rw [torus_find.l0] at hl37; cases hl37
  | succ k34 =>
   rw [torus_find.l0] at hl37
   refine WC.seq (WC.region ?_)
   refine sg 1 [] [2, 6, 8, 9, 10, 26, 27, 28, 29] [e42, e28, (8, e16), (9, (.map e47)), e24, (26, e16), (27, e23), e44, (29, (bv (decide (x31 < (t12.length : Int)))))] (by kernel_rfl) ?_
   refine WL.done rfl (WX.next (WC.seq ?_))
   rcases br_some hl37 with ⟨h38, hl37⟩ | ⟨h38, hl37⟩
   ·refine WC.condT2 (fun fb => by kernel_rfl) h38 ?_
    refine WC.skip (WX.next (WC.seq (WC.block (WC.seq (WC.region ?_)))))
    obtain ⟨h39, hl37⟩ := as_some hl37
    refine seg 2 [.v e32, .v e52, .v e53, .v e54, .v e55, .v e56, .v e57, .v e58, .v e59, .v e60, .v e61, .v e62, .v e63, .v e64, .v e65, .v e66, .v e67, .v (iv (e8.West)), .v (iv (e8.East))] [2, 6, 8, 9, 10, 26, 27, 28, 31] [e42, e28, (8, e16), (9, (.map e47)), e24, (26, e16), (27, e23), e44, (31, (.agg e10))] [.idx A17 x31 t12.length, .cell e21 e32, .cell (e21.add 1) e52, .cell (e21.add 2) e53, .cell (e21.add 3) e54, .cell (e21.add 4) e55, .cell (e21.add 5) e56, .cell (e21.add 6) e57, .cell (e21.add 7) e58, .cell (e21.add 8) e59, .cell (e21.add 9) e60, .cell (e21.add 10) e61, .cell (e21.add 11) e62, .cell (e21.add 12) e63, .cell (e21.add 13) e64, .cell (e21.add 14) e65, .cell (e21.add 15) e66, .cell (e21.add 16) e67, .cell (e21.add 17) (iv (e8.West)), .cell (e21.add 18) (iv (e8.East))] (fun fb => by kernel_rfl) rfl ⟨nrow_adr (rowO.rd (hS36.own 1).1) h39.1 h39.2, nrow_cell (rowO.rd (hS36.own 1).1) z_Row h39.1 h39.2 0 rfl, nrow_cell (rowO.rd (hS36.own 1).1) z_Row h39.1 h39.2 1 rfl, nrow_cell (rowO.rd (hS36.own 1).1) z_Row h39.1 h39.2 2 rfl, nrow_cell (rowO.rd (hS36.own 1).1) z_Row h39.1 h39.2 3 rfl, nrow_cell (rowO.rd (hS36.own 1).1) z_Row h39.1 h39.2 4 rfl, nrow_cell (rowO.rd (hS36.own 1).1) z_Row h39.1 h39.2 5 rfl, nrow_cell (rowO.rd (hS36.own 1).1) z_Row h39.1 h39.2 6 rfl, nrow_cell (rowO.rd (hS36.own 1).1) z_Row h39.1 h39.2 7 rfl, nrow_cell (rowO.rd (hS36.own 1).1) z_Row h39.1 h39.2 8 rfl, nrow_cell (rowO.rd (hS36.own 1).1) z_Row h39.1 h39.2 9 rfl, nrow_cell (rowO.rd (hS36.own 1).1) z_Row h39.1 h39.2 10 rfl, nrow_cell (rowO.rd (hS36.own 1).1) z_Row h39.1 h39.2 11 rfl, nrow_cell (rowO.rd (hS36.own 1).1) z_Row h39.1 h39.2 12 rfl, nrow_cell (rowO.rd (hS36.own 1).1) z_Row h39.1 h39.2 13 rfl, nrow_cell (rowO.rd (hS36.own 1).1) z_Row h39.1 h39.2 14 rfl, nrow_cell (rowO.rd (hS36.own 1).1) z_Row h39.1 h39.2 15 rfl, nrow_cell (rowO.rd (hS36.own 1).1) z_Row h39.1 h39.2 16 rfl, nrow_cell (rowO.rd (hS36.own 1).1) z_Row h39.1 h39.2 17 rfl, nrow_cell (rowO.rd (hS36.own 1).1) z_Row h39.1 h39.2 18 rfl, trivial⟩ ?_
    refine WL.new hS36 12 [] (fun g => (pt g)) (.cells #[(.slice none 0 0), (iv 0), (iv 0), (iv 0), (iv 0), (iv 0), (iv 0), (iv 0), (iv 0), (iv 0), (iv 0), (iv 0), (iv 0), (iv 0), (iv 0), (iv 0), (iv 0), (iv 0), (iv 0)] 109 (0, 0)) [] (fun fb g => by kernel_rfl) trivial (fun g40 w41 hS42 => ?_)
    refine ⟨trivial, ?_⟩
    refine WL.store hS42 0 rfl [(0, e32), (1, e52), (2, e53), (3, e54), (4, e55), (5, e56), (6, e57), (7, e58), (8, e59), (9, e60), (10, e61), (11, e62), (12, e63), (13, e64), (14, e65), (15, e66), (16, e67), (17, (iv (e8.West))), (18, (iv (e8.East)))] e10 (fun fb => by kernel_rfl) (by kernel_rfl) (by kernel_rfl) [1, 2, 3, 4, 5] (by decide) (by decide) (fun w43 hS44 => ?_)
    refine ⟨trivial, ?_⟩
    refine WL.done rfl (WX.next (WC.seq (WC.region ?_)))
    refine seg 3 [.v e52, .v e53, .v e54, .v e55, .v e56, .v e57, .v e58, .v e59] [2, 6, 8, 9, 10, 12, 26, 27, 28, 33, 35] [e42, e28, (8, e16), (9, (.map e47)), e24, (12, (pt g40)), (26, e16), (27, e23), e44, (33, (.map e47)), (35, (.agg e27))] [.cell ⟨g40, 1, none⟩ e52, .cell ⟨g40, 2, none⟩ e53, .cell ⟨g40, 3, none⟩ e54, .cell ⟨g40, 4, none⟩ e55, .cell ⟨g40, 5, none⟩ e56, .cell ⟨g40, 6, none⟩ e57, .cell ⟨g40, 7, none⟩ e58, .cell ⟨g40, 8, none⟩ e59] (fun fb => by kernel_rfl) rfl ⟨hS44.cell 0 rfl 1 rfl, hS44.cell 0 rfl 2 rfl, hS44.cell 0 rfl 3 rfl, hS44.cell 0 rfl 4 rfl, hS44.cell 0 rfl 5 rfl, hS44.cell 0 rfl 6 rfl, hS44.cell 0 rfl 7 rfl, hS44.cell 0 rfl 8 rfl, trivial⟩ ?_
    refine WL.lookup (hS44.own 4).1 ((rdD t12 x31 z_Row).South) (d := 36) (c := true) (t := 105) (kT := 107) (eT := 110) (z := zHM) (kE := (aggI ints_A8_Int)) (vE := slV) (l := K30) (.tuple #[(.slice ((mget ((rdD t12 x31 z_Row).South) zHM K30).1.1) (mget ((rdD t12 x31 z_Row).South) [] l29).length ((mget ((rdD t12 x31 z_Row).South) zHM K30).1.2.1)), (.bool (mhas ((rdD t12 x31 z_Row).South) l29))]) (fun fb => by kernel_rfl) torus_find_key107 (by kernel_rfl) (fun _ => by kernel_rfl) (by rw [mhas_unK, (knestO.eq (hS44.rd 0))]; rw [slV_get _ _ (knestO.eq (hS44.rd 0))]; rfl) ?_
    refine ⟨trivial, ?_⟩
    have hS45 : St NoS w w43 [rowR e29 (e17.1.1) e49 e40, knestO e14 vB K30 l29, knestO e14 vB ([] : List e25) ([] : List e33), rowR enc_Tile Aa ca p0] [blk g40 (.cells e10 109 (0, 0)), blk g9 (.cells #[(iv 0), (iv 0), (.slice none 0 0)] 49 (0, 0)), rowO 109 encN_Row A17 c18 e45, poolO e37, blk g20 e93, blk g24 (.cells #[(iv p1), (iv p2), (.slice none 0 0)] 49 (0, 0))] := hS44.addR _ (knestO.row (hS44.rdL 0) e12)
    have hS46 : St NoS w w43 [mapsO e14 vB e68 e30, rowR e29 (e17.1.1) e49 e40, knestO e14 vB K30 l29, knestO e14 vB ([] : List e25) ([] : List e33), rowR enc_Tile Aa ca p0] [blk g40 (.cells e10 109 (0, 0)), blk g9 (.cells #[(iv 0), (iv 0), (.slice none 0 0)] 49 (0, 0)), rowO 109 encN_Row A17 c18 e45, poolO e37, blk g20 e93, blk g24 (.cells #[(iv p1), (iv p2), (.slice none 0 0)] 49 (0, 0))] := hS45.addR _ (knestO.maps (hS45.rdL 1) e12)
    refine sg 9 [] [2, 6, 8, 9, 10, 12, 13, 14, 26, 27, 28] [e42, e28, (8, e16), (9, (.map e47)), e24, (12, (pt g40)), (13, (sv (e17.1.1) e30 e49)), (14, (bv (mhas e12 l29))), (26, e16), (27, e23), e44] (by kernel_rfl) ?_
    refine WL.done rfl (WX.next (WC.seq (WC.seq (WC.region ?_))))
    refine sg 2 [] [2, 6, 8, 9, 10, 12, 13, 26, 27, 28, 40] [e42, e28, (8, e16), (9, (.map e47)), e24, (12, (pt g40)), (13, (sv (e17.1.1) e30 e49)), (26, e16), (27, e23), e44, (40, (bv (!(mhas e12 l29))))] (by kernel_rfl) ?_
    refine WL.done rfl (WX.next ?_)
    obtain ⟨x51, hx52, hl37⟩ := bind_some hl37
    refine WC.cutN (T := ((List e33) × (List e13)) × (List e25) × (Option Addr) × Nat × (Nat → Nat)) (fun t => [e42, e28, (8, e16), (9, (.map e47)), e24, (12, (pt g40)), (13, (sv t.2.2.1 t.1.2 t.2.2.2.1)), (26, e16), (27, e23), e44]) (fun t w1 => St NoS w w1 [knestO e14 vB t.2.1 t.1.1, rowR e29 t.2.2.1 t.2.2.2.1 (tag t.2.2.2.2 t.1.2), mapsO e14 vB t.2.2.2.2 t.1.2, mapsO e14 vB e68 e30, rowR e29 (e17.1.1) e49 e40, knestO e14 vB K30 l29, knestO e14 vB ([] : List e25) ([] : List e33), rowR enc_Tile Aa ca p0] [blk g9 (.cells #[(iv 0), (iv 0), (.slice none 0 0)] 49 (0, 0)), rowO 109 encN_Row A17 c18 e45, poolO e37, blk g20 (mapObj e14 slV t.2.1), blk g24 (.cells #[(iv p1), (iv p2), (.slice none 0 0)] 49 (0, 0)), blk g40 (.cells e10 109 (0, 0))] ∧ x51 = t.1) (fun Kx51 => ?_) ?_
    ·
     rcases br_some hx52 with ⟨h53, hx52⟩ | ⟨h53, hx52⟩
     ·refine WC.condT2 (fun fb => by kernel_rfl) h53 ?_
      refine WC.seq (WC.region ?_)
      refine seg 5 [.v e52, .v e53, .v e54, .v e55, .v e56, .v e57, .v e58, .v e59] [2, 6, 8, 9, 10, 12, 26, 27, 28, 41, 43, 45] [e42, e28, (8, e16), (9, (.map e47)), e24, (12, (pt g40)), (26, e16), (27, e23), e44, (41, e16), (43, (.agg e27)), (45, (iv e46))] [.cell ⟨g40, 1, none⟩ e52, .cell ⟨g40, 2, none⟩ e53, .cell ⟨g40, 3, none⟩ e54, .cell ⟨g40, 4, none⟩ e55, .cell ⟨g40, 5, none⟩ e56, .cell ⟨g40, 6, none⟩ e57, .cell ⟨g40, 7, none⟩ e58, .cell ⟨g40, 8, none⟩ e59] (fun fb => by kernel_rfl) rfl ⟨hS46.cell 0 rfl 1 rfl, hS46.cell 0 rfl 2 rfl, hS46.cell 0 rfl 3 rfl, hS46.cell 0 rfl 4 rfl, hS46.cell 0 rfl 5 rfl, hS46.cell 0 rfl 6 rfl, hS46.cell 0 rfl 7 rfl, hS46.cell 0 rfl 8 rfl, trivial⟩ ?_
      obtain ⟨t54, ht55, hx52⟩ := bind_some hx52
      refine WL.call (some 46) 76 #[e16, (.agg e27), (iv e46)] (fun fb => by kernel_rfl) (torus_back_calls _ t12 e12 e46 A17 c18 H19 t54 _ (hS46.ow 2).ofO (poolO.ro (hS46.ow 3) 0) ht55) (fun v w56 hR58 => ?_)
      obtain ⟨A60, c61, H62, rfl, hk_⟩ := hR58
      have hS59 := hS46.go w56 [rowO 113 (encMap A8_Int Bool) A60 c61 (tag H62 t54), mapsO (aggI ints_A8_Int) vB H62 t54, blk g40 (.cells #[(.slice ((H19 x31.toNat 0).1) ((rdD t12 x31 z_Row).Cells).length ((H19 x31.toNat 0).2)), (iv (((rdD t12 x31 z_Row).South).e0)), (iv (((rdD t12 x31 z_Row).South).e1)), (iv (((rdD t12 x31 z_Row).South).e2)), (iv (((rdD t12 x31 z_Row).South).e3)), (iv (((rdD t12 x31 z_Row).South).e4)), (iv (((rdD t12 x31 z_Row).South).e5)), (iv (((rdD t12 x31 z_Row).South).e6)), (iv (((rdD t12 x31 z_Row).South).e7)), (iv (((rdD t12 x31 z_Row).North).e0)), (iv (((rdD t12 x31 z_Row).North).e1)), (iv (((rdD t12 x31 z_Row).North).e2)), (iv (((rdD t12 x31 z_Row).North).e3)), (iv (((rdD t12 x31 z_Row).North).e4)), (iv (((rdD t12 x31 z_Row).North).e5)), (iv (((rdD t12 x31 z_Row).North).e6)), (iv (((rdD t12 x31 z_Row).North).e7)), (iv ((rdD t12 x31 z_Row).West)), (iv ((rdD t12 x31 z_Row).East))] 109 (0, 0)), blk g9 (.cells #[(iv 0), (iv 0), (.slice none 0 0)] 49 (0, 0)), rowO 109 encN_Row A17 c18 (tag H19 t12), poolO [nestO subN_Row H19 t12], blk g20 (mapObj (aggI ints_A8_Int) slV K30), blk g24 (.cells #[(iv p1), (iv p2), (.slice none 0 0)] 49 (0, 0))] (hS46.call hk_ [] [0, 1, 2, 3, 4, 5] (fun g hg => hg.elim) (by simp) (by decide))
      refine ⟨trivial, ?_⟩
      refine sg 7 [] e78 [e42, e28, (8, e16), (9, (.map e47)), e24, (12, (pt g40)), (13, (sv A60 t54 c61)), (26, e16), (27, e23), e44] (by kernel_rfl) ?_
      refine WL.done rfl (WX.next (WC.region ?_))
      refine seg 4 [.v e52, .v e53, .v e54, .v e55, .v e56, .v e57, .v e58, .v e59] [2, 6, 8, 9, 10, 12, 13, 26, 27, 28, 47, 49, 50] [e42, e28, (8, e16), (9, (.map e47)), e24, (12, (pt g40)), (13, (sv A60 t54 c61)), (26, e16), (27, e23), e44, (47, (.map e47)), (49, (.agg e27)), (50, (sv A60 t54 c61))] [.cell ⟨g40, 1, none⟩ e52, .cell ⟨g40, 2, none⟩ e53, .cell ⟨g40, 3, none⟩ e54, .cell ⟨g40, 4, none⟩ e55, .cell ⟨g40, 5, none⟩ e56, .cell ⟨g40, 6, none⟩ e57, .cell ⟨g40, 7, none⟩ e58, .cell ⟨g40, 8, none⟩ e59] (fun fb => by kernel_rfl) rfl ⟨hS59.cell 2 rfl 1 rfl, hS59.cell 2 rfl 2 rfl, hS59.cell 2 rfl 3 rfl, hS59.cell 2 rfl 4 rfl, hS59.cell 2 rfl 5 rfl, hS59.cell 2 rfl 6 rfl, hS59.cell 2 rfl 7 rfl, hS59.cell 2 rfl 8 rfl, trivial⟩ ?_
      have hS63 : St NoS w w56 [mapsO e14 vB H62 t54, mapsO e14 vB e68 e30, rowR e29 (e17.1.1) e49 e40, knestO e14 vB K30 l29, knestO e14 vB ([] : List e25) ([] : List e33), rowR enc_Tile Aa ca p0] [rowO 113 e29 A60 c61 (tag H62 t54), blk g40 (.cells e10 109 (0, 0)), blk g9 (.cells #[(iv 0), (iv 0), (.slice none 0 0)] 49 (0, 0)), rowO 109 encN_Row A17 c18 e45, poolO e37, blk g20 e93, blk g24 (.cells #[(iv p1), (iv p2), (.slice none 0 0)] 49 (0, 0))] := hS59.freezeO 1 [0, 2, 3, 4, 5, 6, 7] (by decide) (by decide)
      have hS65 : St NoS w w56 [rowR e29 A60 c61 (tag H62 t54), mapsO e14 vB H62 t54, mapsO e14 vB e68 e30, rowR e29 (e17.1.1) e49 e40, knestO e14 vB K30 l29, knestO e14 vB ([] : List e25) ([] : List e33), rowR enc_Tile Aa ca p0] [blk g40 (.cells e10 109 (0, 0)), blk g9 (.cells #[(iv 0), (iv 0), (.slice none 0 0)] 49 (0, 0)), rowO 109 encN_Row A17 c18 e45, poolO e37, blk g20 e93, blk g24 (.cells #[(iv p1), (iv p2), (.slice none 0 0)] 49 (0, 0))] := hS63.freezeRow 0 rfl [1, 2, 3, 4, 5, 6] (by decide) (by decide)
      refine WL.mapput hS65 4 (t := 105) (kT := 107) (eT := 110) (kE := e14) (vE := slV) (l := K30) rfl e12 ((A60, c61, H62), t54) (fun fb => by kernel_rfl) torus_find_key107 (by kernel_rfl) [0, 1, 2, 3, 5] (by decide) (by decide) (fun w66 hS67 => ?_)
      have hS68 : St NoS w w66 [knestO e14 vB (mput e12 ((A60, c61, H62), t54) K30) (mput e12 t54 l29), rowR e29 A60 c61 (tag H62 t54), mapsO e14 vB H62 t54, mapsO e14 vB e68 e30, rowR e29 (e17.1.1) e49 e40, knestO e14 vB K30 l29, knestO e14 vB ([] : List e25) ([] : List e33), rowR enc_Tile Aa ca p0] [blk g20 (mapObj e14 slV (mput e12 ((A60, c61, H62), t54) K30)), blk g40 (.cells e10 109 (0, 0)), blk g9 (.cells #[(iv 0), (iv 0), (.slice none 0 0)] 49 (0, 0)), rowO 109 encN_Row A17 c18 e45, poolO e37, blk g24 (.cells #[(iv p1), (iv p2), (.slice none 0 0)] 49 (0, 0))] := hS67.addR _ (knestO.put (hS67.rdL 4) e12 (hS67.rdL 0) (hS67.rdL 1))
      refine ⟨trivial, ?_⟩
      refine WL.done rfl ?_
      injection hx52 with hx52
      exact WX.to Kx51 ((mput e12 t54 l29, t54), mput e12 ((A60, c61, H62), t54) K30, A60, c61, H62) e78 rfl ⟨(hS68.subR e34).sub [2, 3, 4, 0, 5, 1] (by decide), hx52.symm⟩
     refine WC.condF2 (fun fb => by kernel_rfl) h53 ?_
     refine WC.skip ?_
     injection hx52 with hx52
     exact WX.to Kx51 ((l29, e30), K30, e17.1.1, e17.1.2.1, e68) e78 rfl ⟨(hS46.subR [2, 1, 0, 0, 1, 2, 3, 4]).sub [1, 2, 3, 4, 5, 0] (by decide), hx52.symm⟩
    rintro ⟨y72, K47, A48, c49, H50⟩ w69 ⟨hS70, hq71⟩
    subst hq71
    refine WX.next (WC.seq (WC.seq ?_))
    obtain ⟨h75, hl37⟩ := as_some hl37
    obtain ⟨m76, hm77, hl37⟩ := bind_some hl37
    refine WC.regionD ([(4, ((adr A48).add (e46.toNat * 1)), (.map (some (H50 e46.toNat)))), (6, ⟨g40, 9, none⟩, e60), (6, ⟨g40, 10, none⟩, e61), (6, ⟨g40, 11, none⟩, e62), (6, ⟨g40, 12, none⟩, e63), (6, ⟨g40, 13, none⟩, e64), (6, ⟨g40, 14, none⟩, e65), (6, ⟨g40, 15, none⟩, e66), (6, ⟨g40, 16, none⟩, e67)], [0, 1, 2, 3, 4, 5, 6, 8], [[], [], [1], [0, 1, 2], [0, 1, 2, 3], [], [5], [0, 1, 2, 3, 4, 5, 6], e34]) [[0, 1, 2, 3, 4, 5, 6, 7, 8]] (by kernel_rfl) (by kernel_rfl) (NoPanic.seq (NoPanic.seq (NoPanic.block (NoPanic.seq (NoPanic.seq (NoPanic.block (NoPanic.seq (NoPanic.scope (NoPanic.body))))))))) ?_
    have hS74 := hS70.drew
    revert hS74
    generalize World.drew w69 = w73
    intro hS74
    refine ⟨⟨nrow_cell (hS74.rd 1).1 none h75.1 h75.2 0 (mapV_some hm77), hS74.cell 5 rfl 9 rfl, hS74.cell 5 rfl 10 rfl, hS74.cell 5 rfl 11 rfl, hS74.cell 5 rfl 12 rfl, hS74.cell 5 rfl 13 rfl, hS74.cell 5 rfl 14 rfl, hS74.cell 5 rfl 15 rfl, hS74.cell 5 rfl 16 rfl, trivial⟩, forallC ?_ (forallN)⟩
    refine segF 7 [.v (.map (some (H50 e46.toNat))), .v e60, .v e61, .v e62, .v e63, .v e64, .v e65, .v e66, .v e67] [2, 6, 8, 9, 10, 12, 13, 26, 27, 28, 55, 57] [e42, e28, (8, e16), (9, (.map e47)), e24, (12, (pt g40)), (13, (sv A48 x51.2 c49)), (26, e16), (27, e23), e44, (55, (.map (some (H50 e46.toNat)))), (57, (.agg e35))] [.idx A48 e46 x51.2.length] [0, 1, 2, 3, 4, 5, 6, 7, 8] [(4, ((adr A48).add (e46.toNat * 1)), (.map (some (H50 e46.toNat)))), (6, ⟨g40, 9, none⟩, e60), (6, ⟨g40, 10, none⟩, e61), (6, ⟨g40, 11, none⟩, e62), (6, ⟨g40, 12, none⟩, e63), (6, ⟨g40, 13, none⟩, e64), (6, ⟨g40, 14, none⟩, e65), (6, ⟨g40, 15, none⟩, e66), (6, ⟨g40, 16, none⟩, e67)] (fun fb => by kernel_rfl) rfl ⟨nrow_adr (hS74.rd 1).1 h75.1 h75.2, trivial⟩ rfl ?_
    refine WL.lookup (mapsO.at (hS74.rd 2).1 h75.1 h75.2 hm77) e19 (d := 58) (c := false) (t := 113) (kT := 107) (eT := 4) (z := false) (kE := e14) (vE := vB) (l := m76) (bv (mget e19 false m76)) (fun fb => by kernel_rfl) torus_find_key107 (by kernel_rfl) (fun _ => by kernel_rfl) rfl ?_
    refine ⟨trivial, ?_⟩
    refine sg 9 [] [2, 6, 8, 9, 10, 12, 13, 26, 27, 28, 59] [e42, e28, (8, e16), (9, (.map e47)), e24, (12, (pt g40)), (13, (sv A48 x51.2 c49)), (26, e16), (27, e23), e44, (59, (bv (!(mget e19 false m76))))] (by kernel_rfl) ?_
    refine WL.done rfl (WX.next ?_)
    rcases br_some hl37 with ⟨h78, hl37⟩ | ⟨h78, hl37⟩
    ·refine WC.condT2 (fun fb => by kernel_rfl) h78 ?_
     refine WC.exit ?_
     refine WX.thenX (WX.blockHere (WX.next ?_))
     refine WC.region ?_
     refine sg 2 [] e92 [e42, e28, (8, e16), (9, (.map e47)), e24, (26, e16), (27, e23), (28, (iv (w64 (x31 + 1))))] (by kernel_rfl) ?_
     refine WL.done rfl ?_
     exact WX.again k34 (Nat.lt_succ_self _) ((x51.1, w64 (x31 + 1)), K47) e92 rfl ⟨(hS74.subR [0, 6, 7]).sub [0, 1, 2, 3, 4] (by decide), hl37⟩
    refine WC.condF2 (fun fb => by kernel_rfl) h78 ?_
    refine WC.skip (WX.next (WC.seq (WC.region ?_)))
    refine seg 4 [.v (.slice none 0 0), .v e32] [2, 6, 8, 10, 12, 13, 61, 63] [e42, e28, (8, e16), e24, (12, (pt g40)), (13, (sv A48 x51.2 c49)), (61, (.slice none 0 0)), (63, e32)] [.cell ⟨g24, 2, none⟩ (.slice none 0 0), .cell ⟨g40, 0, none⟩ e32] (fun fb => by kernel_rfl) rfl ⟨hS74.cell 4 rfl 2 rfl, hS74.cell 5 rfl 0 rfl, trivial⟩ ?_
    have hS79 := hS74.nilrow 3 encInt
    obtain ⟨h80, hl37⟩ := as_some hl37
    refine WL.append hS79 0 (d := 64) (tS := 24) (z := (iv 0)) (bytes := 8) (c2 := (H19 x31.toNat 0).2) rfl (fun fb => by kernel_rfl) (nestO.at ((hS79.own 3).1 0) z_Row h39.1 h39.2) (by kernel_rfl) (by kernel_rfl) rfl (by decide) h80 (by decide) [1, 2, 3, 4, 5, 6] (by decide) (by decide) (fun A81 c82 w83 hS84 => ?_)
    refine ⟨trivial, ?_⟩
    refine sg 6 [] [2, 6, 8, 10, 12, 13, 64, 65] [e42, e28, (8, e16), e24, (12, (pt g40)), (13, (sv A48 x51.2 c49)), (64, (sv A81 e80 c82)), (65, (.pointer (some ⟨g24, 2, none⟩)))] (by kernel_rfl) ?_
    refine WL.store hS84 5 rfl [(2, (sv A81 e80 c82))] #[(iv p1), (iv p2), (sv A81 e80 c82)] (fun fb => by kernel_rfl) (by kernel_rfl) rfl [0, 1, 2, 3, 4, 6] (by decide) (by decide) (fun w85 hS86 => ?_)
    refine ⟨trivial, ?_⟩
    refine WL.done rfl (WX.next (WC.seq (WC.region ?_)))
    refine seg 2 [.v e60, .v e61, .v e62, .v e63, .v e64, .v e65, .v e66, .v e67] [2, 6, 8, 10, 13, 67] [e42, e28, (8, e16), e24, (13, (sv A48 x51.2 c49)), (67, (.agg e35))] [.cell ⟨g40, 9, none⟩ e60, .cell ⟨g40, 10, none⟩ e61, .cell ⟨g40, 11, none⟩ e62, .cell ⟨g40, 12, none⟩ e63, .cell ⟨g40, 13, none⟩ e64, .cell ⟨g40, 14, none⟩ e65, .cell ⟨g40, 15, none⟩ e66, .cell ⟨g40, 16, none⟩ e67] (fun fb => by kernel_rfl) rfl ⟨hS86.cell 6 rfl 9 rfl, hS86.cell 6 rfl 10 rfl, hS86.cell 6 rfl 11 rfl, hS86.cell 6 rfl 12 rfl, hS86.cell 6 rfl 13 rfl, hS86.cell 6 rfl 14 rfl, hS86.cell 6 rfl 15 rfl, hS86.cell 6 rfl 16 rfl, trivial⟩ ?_
    refine WL.new hS86 15 [] (fun g => (pt g)) (.cells #[(iv 0), (iv 0), (iv 0), (iv 0), (iv 0), (iv 0), (iv 0), (iv 0)] 107 (0, 0)) [] (fun fb g => by kernel_rfl) trivial (fun g87 w88 hS89 => ?_)
    refine ⟨trivial, ?_⟩
    refine WL.store hS89 0 rfl [(0, e60), (1, e61), (2, e62), (3, e63), (4, e64), (5, e65), (6, e66), (7, e67)] e35 (fun fb => by kernel_rfl) (by kernel_rfl) rfl [1, 2, 3, 4, 5, 6, 7] (by decide) (by decide) (fun w90 hS91 => ?_)
    refine ⟨trivial, ?_⟩
    refine WL.done rfl (WX.next (WC.seq (WC.seq (WC.region ?_))))
    refine sg 3 [] e50 [e28, (8, e16), e24, (13, (sv A48 x51.2 c49)), (15, (pt g87)), (16, (iv (w64 (p2 - 2))))] (by kernel_rfl) ?_
    refine WL.done rfl (WX.next ?_)
    obtain ⟨x99, hx100, hl37⟩ := bind_some hl37
    let e26 : Nat × Value := (13, (sv A48 x51.2 c49))
    let e39 : Nat × Value := (15, (pt g87))
    refine WC.cutN (T := (List Int) × (Option Addr) × Nat) (fun t => [e28, e24]) (fun t w1 => St NoS w w1 [knestO e14 vB K47 x51.1, rowR e29 A48 c49 (tag H50 x51.2), mapsO e14 vB H50 x51.2, mapsO e14 vB e68 e30, rowR e29 (e17.1.1) e49 e40, knestO e14 vB K30 l29, knestO e14 vB ([] : List e25) ([] : List e33), rowR enc_Tile Aa ca p0] [blk g9 (.cells #[(iv 0), (iv 0), (.slice none 0 0)] 49 (0, 0)), blk g24 (.cells #[(iv p1), (iv p2), (sv t.2.1 t.1 t.2.2)] 49 (0, 0)), rowO 3 encInt t.2.1 t.2.2 t.1] ∧ x99 = t.1) (fun Kx99 => ?_) ?_
    ·
     refine WC.block ?_
     refine WC.loop (T := ((List Int) × A8_Int × Int) × (Option Addr) × Nat) (fun t => [e28, (8, e16), e24, e26, e39, (16, (iv t.1.2.2))]) (fun n t w1 => St NoS w w1 [knestO e14 vB K47 x51.1, rowR e29 A48 c49 (tag H50 x51.2), mapsO e14 vB H50 x51.2, mapsO e14 vB e68 e30, rowR e29 (e17.1.1) e49 e40, knestO e14 vB K30 l29, knestO e14 vB ([] : List e25) ([] : List e33), rowR enc_Tile Aa ca p0] [blk g9 (.cells #[(iv 0), (iv 0), (.slice none 0 0)] 49 (0, 0)), rowO 109 encN_Row A17 c18 e45, poolO e37, blk g24 (.cells #[(iv p1), (iv p2), (sv t.2.1 t.1.1 t.2.2)] 49 (0, 0)), rowO 3 encInt t.2.1 t.2.2 t.1.1, blk g87 (.cells #[(iv t.1.2.1.e0), (iv t.1.2.1.e1), (iv t.1.2.1.e2), (iv t.1.2.1.e3), (iv t.1.2.1.e4), (iv t.1.2.1.e5), (iv t.1.2.1.e6), (iv t.1.2.1.e7)] 107 (0, 0))] ∧ torus_find.l1 n t.1.1 t.1.2.1 t.1.2.2 t12 x51 = some x99) k34 ((([] : List Int) ++ (e8.Cells), e19, w64 (p2 - 2)), A81, c82) e50 rfl ⟨(hS91.subR e34).sub [3, 4, 5, 1, 2, 0] (by decide), hx100⟩ ?_
     rintro k101 ⟨⟨l94, a95, x96⟩, A92, c93⟩ w102 ⟨hS103, hl104⟩
     let e41 : Nat × Value := (16, (iv x96))
     let e48 : Array Value := #[(iv a95.e0), (iv a95.e1), (iv a95.e2), (iv a95.e3), (iv a95.e4), (iv a95.e5), (iv a95.e6), (iv a95.e7)]
     let e89 := some (H50 x96.toNat)
     cases k101 with
     | zero => rw [torus_find.l1] at hl104; cases hl104
     | succ k101 =>
      rw [torus_find.l1] at hl104
      refine WC.seq (WC.seq (WC.region ?_))
      refine sg 2 [] [6, 8, 10, 13, 15, 16, 71] [e28, (8, e16), e24, e26, e39, e41, (71, (bv (decide (x96 ≥ 0))))] (by kernel_rfl) ?_
      refine WL.done rfl (WX.next ?_)
      rcases br_some hl104 with ⟨h105, hl104⟩ | ⟨h105, hl104⟩
      ·refine WC.condT2 (fun fb => by kernel_rfl) h105 ?_
       refine WC.skip (WX.next (WC.seq (WC.block ?_)))
       refine WC.scope ?_
       refine WC.seq ?_
       refine WC.label ?_
       refine WX.next (WC.seq (WC.region ?_))
       refine sg 3 [] e51 [e28, (8, e16), e24, e26, e39, e41, (74, e16), (75, e23), (76, (iv 0))] (by kernel_rfl) ?_
       refine WL.done rfl (WX.next ?_)
       obtain ⟨x109, hx110, hl104⟩ := bind_some hl104
       refine WC.cutN (T := ((List Int) × A8_Int) × (Option Addr) × Nat) (fun t => [e28, (8, e16), e24, e26, e39, e41]) (fun t w1 => St NoS w w1 [knestO e14 vB K47 x51.1, rowR e29 A48 c49 (tag H50 x51.2), mapsO e14 vB H50 x51.2, mapsO e14 vB e68 e30, rowR e29 (e17.1.1) e49 e40, knestO e14 vB K30 l29, knestO e14 vB ([] : List e25) ([] : List e33), rowR enc_Tile Aa ca p0] [blk g9 (.cells #[(iv 0), (iv 0), (.slice none 0 0)] 49 (0, 0)), rowO 109 encN_Row A17 c18 e45, poolO e37, blk g24 (.cells #[(iv p1), (iv p2), (sv t.2.1 t.1.1 t.2.2)] 49 (0, 0)), rowO 3 encInt t.2.1 t.2.2 t.1.1, blk g87 (.cells #[(iv t.1.2.e0), (iv t.1.2.e1), (iv t.1.2.e2), (iv t.1.2.e3), (iv t.1.2.e4), (iv t.1.2.e5), (iv t.1.2.e6), (iv t.1.2.e7)] 107 (0, 0))] ∧ x109 = t.1) (fun Kx109 => ?_) ?_
       ·
        refine WC.block ?_
        refine WC.loop (T := Int) (fun t => [e28, (8, e16), e24, e26, e39, e41, (74, e16), (75, e23), (76, (iv t))]) (fun n t w1 => St NoS w w1 [knestO e14 vB K47 x51.1, rowR e29 A48 c49 (tag H50 x51.2), mapsO e14 vB H50 x51.2, mapsO e14 vB e68 e30, rowR e29 (e17.1.1) e49 e40, knestO e14 vB K30 l29, knestO e14 vB ([] : List e25) ([] : List e33), rowR enc_Tile Aa ca p0] [blk g9 (.cells #[(iv 0), (iv 0), (.slice none 0 0)] 49 (0, 0)), rowO 109 encN_Row A17 c18 e45, poolO e37, blk g24 (.cells #[(iv p1), (iv p2), (sv A92 l94 c93)] 49 (0, 0)), rowO 3 encInt A92 c93 l94, blk g87 (.cells e48 107 (0, 0))] ∧ torus_find.l2 n t t12 x51 l94 a95 x96 = some x109) k101 0 e51 rfl ⟨(hS103.subR e34).sub [0, 1, 2, 3, 4, 5] (by decide), hx110⟩ ?_
        rintro k111 x106 w112 ⟨hS113, hl114⟩
        let e9 := rdD t12 x106 z_Row
        let e15 : Array Value := #[(sv ((H19 x106.toNat 0).1) (e9.Cells) ((H19 x106.toNat 0).2)), (iv ((e9.South).e0)), (iv ((e9.South).e1)), (iv ((e9.South).e2)), (iv ((e9.South).e3)), (iv ((e9.South).e4)), (iv ((e9.South).e5)), (iv ((e9.South).e6)), (iv ((e9.South).e7)), (iv ((e9.North).e0)), (iv ((e9.North).e1)), (iv ((e9.North).e2)), (iv ((e9.North).e3)), (iv ((e9.North).e4)), (iv ((e9.North).e5)), (iv ((e9.North).e6)), (iv ((e9.North).e7)), (iv (e9.West)), (iv (e9.East))]
        let e18 := e9.North
        let e20 := (adr A17).add ((x106).toNat * 19)
        let e22 := e9.South
        let e31 := sv ((H19 x106.toNat 0).1) (e9.Cells) ((H19 x106.toNat 0).2)
        let e36 : Array Value := #[(iv (e18.e0)), (iv (e18.e1)), (iv (e18.e2)), (iv (e18.e3)), (iv (e18.e4)), (iv (e18.e5)), (iv (e18.e6)), (iv (e18.e7))]
        let e69 : Nat × Value := (76, (iv x106))
        let e70 := iv (e18.e0)
        let e71 := iv (e18.e1)
        let e72 := iv (e18.e2)
        let e73 := iv (e18.e3)
        let e74 := iv (e18.e4)
        let e75 := iv (e18.e5)
        let e76 := iv (e18.e6)
        let e77 := iv (e18.e7)
        let e81 := iv (e22.e0)
        let e82 := iv (e22.e1)
        let e83 := iv (e22.e2)
        let e84 := iv (e22.e3)
        let e85 := iv (e22.e4)
        let e86 := iv (e22.e5)
        let e87 := iv (e22.e6)
        let e88 := iv (e22.e7)
        cases k111 with
        | zero => rw [torus_find.l2] at hl114; cases hl114
        | succ k111 =>
         rw [torus_find.l2] at hl114
         refine WC.seq (WC.region ?_)
         refine sg 1 [] [6, 8, 10, 13, 15, 16, 74, 75, 76, 77] [e28, (8, e16), e24, e26, e39, e41, (74, e16), (75, e23), e69, (77, (bv (decide (x106 < (t12.length : Int)))))] (by kernel_rfl) ?_
         refine WL.done rfl (WX.next (WC.seq ?_))
         rcases br_some hl114 with ⟨h115, hl114⟩ | ⟨h115, hl114⟩
         ·refine WC.condT2 (fun fb => by kernel_rfl) h115 ?_
          refine WC.skip (WX.next (WC.seq (WC.block (WC.seq (WC.region ?_)))))
          obtain ⟨h116, hl114⟩ := as_some hl114
          refine seg 2 [.v e31, .v e81, .v e82, .v e83, .v e84, .v e85, .v e86, .v e87, .v e88, .v e70, .v e71, .v e72, .v e73, .v e74, .v e75, .v e76, .v e77, .v (iv (e9.West)), .v (iv (e9.East))] [6, 8, 10, 13, 15, 16, 74, 75, 76, 79] [e28, (8, e16), e24, e26, e39, e41, (74, e16), (75, e23), e69, (79, (.agg e15))] [.idx A17 x106 t12.length, .cell e20 e31, .cell (e20.add 1) e81, .cell (e20.add 2) e82, .cell (e20.add 3) e83, .cell (e20.add 4) e84, .cell (e20.add 5) e85, .cell (e20.add 6) e86, .cell (e20.add 7) e87, .cell (e20.add 8) e88, .cell (e20.add 9) e70, .cell (e20.add 10) e71, .cell (e20.add 11) e72, .cell (e20.add 12) e73, .cell (e20.add 13) e74, .cell (e20.add 14) e75, .cell (e20.add 15) e76, .cell (e20.add 16) e77, .cell (e20.add 17) (iv (e9.West)), .cell (e20.add 18) (iv (e9.East))] (fun fb => by kernel_rfl) rfl ⟨nrow_adr (rowO.rd (hS113.own 1).1) h116.1 h116.2, nrow_cell (rowO.rd (hS113.own 1).1) z_Row h116.1 h116.2 0 rfl, nrow_cell (rowO.rd (hS113.own 1).1) z_Row h116.1 h116.2 1 rfl, nrow_cell (rowO.rd (hS113.own 1).1) z_Row h116.1 h116.2 2 rfl, nrow_cell (rowO.rd (hS113.own 1).1) z_Row h116.1 h116.2 3 rfl, nrow_cell (rowO.rd (hS113.own 1).1) z_Row h116.1 h116.2 4 rfl, nrow_cell (rowO.rd (hS113.own 1).1) z_Row h116.1 h116.2 5 rfl, nrow_cell (rowO.rd (hS113.own 1).1) z_Row h116.1 h116.2 6 rfl, nrow_cell (rowO.rd (hS113.own 1).1) z_Row h116.1 h116.2 7 rfl, nrow_cell (rowO.rd (hS113.own 1).1) z_Row h116.1 h116.2 8 rfl, nrow_cell (rowO.rd (hS113.own 1).1) z_Row h116.1 h116.2 9 rfl, nrow_cell (rowO.rd (hS113.own 1).1) z_Row h116.1 h116.2 10 rfl, nrow_cell (rowO.rd (hS113.own 1).1) z_Row h116.1 h116.2 11 rfl, nrow_cell (rowO.rd (hS113.own 1).1) z_Row h116.1 h116.2 12 rfl, nrow_cell (rowO.rd (hS113.own 1).1) z_Row h116.1 h116.2 13 rfl, nrow_cell (rowO.rd (hS113.own 1).1) z_Row h116.1 h116.2 14 rfl, nrow_cell (rowO.rd (hS113.own 1).1) z_Row h116.1 h116.2 15 rfl, nrow_cell (rowO.rd (hS113.own 1).1) z_Row h116.1 h116.2 16 rfl, nrow_cell (rowO.rd (hS113.own 1).1) z_Row h116.1 h116.2 17 rfl, nrow_cell (rowO.rd (hS113.own 1).1) z_Row h116.1 h116.2 18 rfl, trivial⟩ ?_
          refine WL.new hS113 18 [] (fun g => (pt g)) (.cells #[(.slice none 0 0), (iv 0), (iv 0), (iv 0), (iv 0), (iv 0), (iv 0), (iv 0), (iv 0), (iv 0), (iv 0), (iv 0), (iv 0), (iv 0), (iv 0), (iv 0), (iv 0), (iv 0), (iv 0)] 109 (0, 0)) [] (fun fb g => by kernel_rfl) trivial (fun g117 w118 hS119 => ?_)
          refine ⟨trivial, ?_⟩
          refine WL.store hS119 0 rfl [(0, e31), (1, e81), (2, e82), (3, e83), (4, e84), (5, e85), (6, e86), (7, e87), (8, e88), (9, e70), (10, e71), (11, e72), (12, e73), (13, e74), (14, e75), (15, e76), (16, e77), (17, (iv (e9.West))), (18, (iv (e9.East)))] e15 (fun fb => by kernel_rfl) (by kernel_rfl) (by kernel_rfl) [1, 2, 3, 4, 5, 6] (by decide) (by decide) (fun w120 hS121 => ?_)
          refine ⟨trivial, ?_⟩
          refine WL.done rfl (WX.next (WC.seq ?_))
          obtain ⟨x122, hx123, hl114⟩ := bind_some hl114
          let e11 : List (Nat × Addr × Value) := [(1, ⟨g117, 1, none⟩, e81), (1, ⟨g117, 2, none⟩, e82), (1, ⟨g117, 3, none⟩, e83), (1, ⟨g117, 4, none⟩, e84), (1, ⟨g117, 5, none⟩, e85), (1, ⟨g117, 6, none⟩, e86), (1, ⟨g117, 7, none⟩, e87), (1, ⟨g117, 8, none⟩, e88), (2, ⟨g87, 0, none⟩, (iv a95.e0)), (2, ⟨g87, 1, none⟩, (iv a95.e1)), (2, ⟨g87, 2, none⟩, (iv a95.e2)), (2, ⟨g87, 3, none⟩, (iv a95.e3)), (2, ⟨g87, 4, none⟩, (iv a95.e4)), (2, ⟨g87, 5, none⟩, (iv a95.e5)), (2, ⟨g87, 6, none⟩, (iv a95.e6)), (2, ⟨g87, 7, none⟩, (iv a95.e7))]
          let e90 : Nat × Value := (18, (pt g117))
          refine WC.cutN (T := Bool) (fun t => [e28, (8, e16), e24, e26, e39, e41, e90, (74, e16), (75, e23), e69, (92, (bv t))]) (fun t w1 => St NoS w w1 [knestO e14 vB K47 x51.1, rowR e29 A48 c49 (tag H50 x51.2), mapsO e14 vB H50 x51.2, mapsO e14 vB e68 e30, rowR e29 (e17.1.1) e49 e40, knestO e14 vB K30 l29, knestO e14 vB ([] : List e25) ([] : List e33), rowR enc_Tile Aa ca p0] [blk g9 (.cells #[(iv 0), (iv 0), (.slice none 0 0)] 49 (0, 0)), rowO 109 encN_Row A17 c18 e45, poolO e37, blk g24 (.cells #[(iv p1), (iv p2), (sv A92 l94 c93)] 49 (0, 0)), rowO 3 encInt A92 c93 l94, blk g87 (.cells e48 107 (0, 0)), blk g117 (.cells e15 109 (0, 0))] ∧ x122 = t) (fun Kx122 => ?_) ?_
          ·
           rcases br_some hx123 with ⟨h124, hx123⟩ | ⟨h124, hx123⟩
           ·
            obtain ⟨h127, hx123⟩ := as_some hx123
            obtain ⟨m128, hm129, hx123⟩ := bind_some hx123
            refine WC.regionD ([(1, ⟨g117, 1, none⟩, e81), (1, ⟨g117, 2, none⟩, e82), (1, ⟨g117, 3, none⟩, e83), (1, ⟨g117, 4, none⟩, e84), (1, ⟨g117, 5, none⟩, e85), (1, ⟨g117, 6, none⟩, e86), (1, ⟨g117, 7, none⟩, e87), (1, ⟨g117, 8, none⟩, e88), (2, ⟨g87, 0, none⟩, (iv a95.e0)), (2, ⟨g87, 1, none⟩, (iv a95.e1)), (2, ⟨g87, 2, none⟩, (iv a95.e2)), (2, ⟨g87, 3, none⟩, (iv a95.e3)), (2, ⟨g87, 4, none⟩, (iv a95.e4)), (2, ⟨g87, 5, none⟩, (iv a95.e5)), (2, ⟨g87, 6, none⟩, (iv a95.e6)), (2, ⟨g87, 7, none⟩, (iv a95.e7)), (8, ((adr A48).add ((x96).toNat * 1)), (.map e89)), (10, ⟨g117, 9, none⟩, e70), (10, ⟨g117, 10, none⟩, e71), (10, ⟨g117, 11, none⟩, e72), (10, ⟨g117, 12, none⟩, e73), (10, ⟨g117, 13, none⟩, e74), (10, ⟨g117, 14, none⟩, e75), (10, ⟨g117, 15, none⟩, e76), (10, ⟨g117, 16, none⟩, e77)], [0, 1, 2, 3, 4, 5, 6, 7, 8, 9, 10, 12], e38) [[0, 1, 2, 3, 4, 5, 6, 7, 8, 9, 10, 11, 12]] (by kernel_rfl) (by kernel_rfl) (NoPanic.seq (NoPanic.block (NoPanic.seq (NoPanic.seq (NoPanic.block (NoPanic.scope (NoPanic.block (NoPanic.seq (NoPanic.seq (NoPanic.block (NoPanic.seq (NoPanic.block (NoPanic.seq (NoPanic.seq (NoPanic.block (NoPanic.seq (NoPanic.scope (NoPanic.body)))))))))))))))))) ?_
            have hS126 := hS121.drew
            revert hS126
            generalize World.drew w120 = w125
            intro hS126
            refine ⟨⟨hS126.cell 0 rfl 1 rfl, hS126.cell 0 rfl 2 rfl, hS126.cell 0 rfl 3 rfl, hS126.cell 0 rfl 4 rfl, hS126.cell 0 rfl 5 rfl, hS126.cell 0 rfl 6 rfl, hS126.cell 0 rfl 7 rfl, hS126.cell 0 rfl 8 rfl, hS126.cell 6 rfl 0 rfl, hS126.cell 6 rfl 1 rfl, hS126.cell 6 rfl 2 rfl, hS126.cell 6 rfl 3 rfl, hS126.cell 6 rfl 4 rfl, hS126.cell 6 rfl 5 rfl, hS126.cell 6 rfl 6 rfl, hS126.cell 6 rfl 7 rfl, nrow_cell (hS126.rd 1).1 none h127.1 h127.2 0 (mapV_some hm129), hS126.cell 0 rfl 9 rfl, hS126.cell 0 rfl 10 rfl, hS126.cell 0 rfl 11 rfl, hS126.cell 0 rfl 12 rfl, hS126.cell 0 rfl 13 rfl, hS126.cell 0 rfl 14 rfl, hS126.cell 0 rfl 15 rfl, hS126.cell 0 rfl 16 rfl, trivial⟩, forallC ?_ (forallN)⟩
            refine segF 5 [.v e81, .v e82, .v e83, .v e84, .v e85, .v e86, .v e87, .v e88, .v (iv a95.e0), .v (iv a95.e1), .v (iv a95.e2), .v (iv a95.e3), .v (iv a95.e4), .v (iv a95.e5), .v (iv a95.e6), .v (iv a95.e7)] [6, 8, 10, 13, 15, 16, 18, 74, 75, 76, 84] [e28, (8, e16), e24, e26, e39, e41, e90, (74, e16), (75, e23), e69, (84, (bv ((e22.e0) == a95.e0 && ((e22.e1) == a95.e1 && ((e22.e2) == a95.e2 && ((e22.e3) == a95.e3 && ((e22.e4) == a95.e4 && ((e22.e5) == a95.e5 && ((e22.e6) == a95.e6 && ((e22.e7) == a95.e7))))))))))] [] e91 e11 (fun fb => by kernel_rfl) rfl trivial rfl ?_
            refine WL.setB 84 h124 rfl ?_
            refine segF 11 [.v (.map e89), .v e70, .v e71, .v e72, .v e73, .v e74, .v e75, .v e76, .v e77] [6, 8, 10, 13, 15, 16, 18, 74, 75, 76, 84, 88, 90] [e28, (8, e16), e24, e26, e39, e41, e90, (74, e16), (75, e23), e69, (84, (bv true)), (88, (.map e89)), (90, (.agg e36))] [.idx A48 x96 x51.2.length] [16, 17, 18, 19, 20, 21, 22, 23, 24] [(8, ((adr A48).add ((x96).toNat * 1)), (.map e89)), (10, ⟨g117, 9, none⟩, e70), (10, ⟨g117, 10, none⟩, e71), (10, ⟨g117, 11, none⟩, e72), (10, ⟨g117, 12, none⟩, e73), (10, ⟨g117, 13, none⟩, e74), (10, ⟨g117, 14, none⟩, e75), (10, ⟨g117, 15, none⟩, e76), (10, ⟨g117, 16, none⟩, e77)] (fun fb => by kernel_rfl) rfl ⟨nrow_adr (hS126.rd 1).1 h127.1 h127.2, trivial⟩ rfl ?_
            refine WL.lookup (mapsO.at (hS126.rd 2).1 h127.1 h127.2 hm129) e18 (d := 91) (c := false) (t := 113) (kT := 107) (eT := 4) (z := false) (kE := e14) (vE := vB) (l := m128) (bv (mget e18 false m128)) (fun fb => by kernel_rfl) torus_find_key107 (by kernel_rfl) (fun _ => by kernel_rfl) rfl ?_
            refine ⟨trivial, ?_⟩
            refine sg 13 [] e43 [e28, (8, e16), e24, e26, e39, e41, e90, (74, e16), (75, e23), e69, (92, (bv (mget e18 false m128)))] (by kernel_rfl) ?_
            refine WL.done rfl ?_
            injection hx123 with hx123
            exact WX.to Kx122 (mget e18 false m128) e43 rfl ⟨(hS126.subR e34).sub [1, 2, 3, 4, 5, 6, 0] (by decide), hx123.symm⟩
           refine WC.regionD (e11, [0, 1, 2, 3, 4, 5, 6, 7, 8, 9, 10, 12], e38) [[0, 1, 2, 3, 4, 5, 6, 7, 8, 9, 10, 11, 12]] (by kernel_rfl) (by kernel_rfl) (NoPanic.seq (NoPanic.block (NoPanic.seq (NoPanic.seq (NoPanic.block (NoPanic.scope (NoPanic.block (NoPanic.seq (NoPanic.seq (NoPanic.block (NoPanic.seq (NoPanic.block (NoPanic.seq (NoPanic.seq (NoPanic.block (NoPanic.seq (NoPanic.scope (NoPanic.body)))))))))))))))))) ?_
           have hS131 := hS121.drew
           revert hS131
           generalize World.drew w120 = w130
           intro hS131
           refine ⟨⟨hS131.cell 0 rfl 1 rfl, hS131.cell 0 rfl 2 rfl, hS131.cell 0 rfl 3 rfl, hS131.cell 0 rfl 4 rfl, hS131.cell 0 rfl 5 rfl, hS131.cell 0 rfl 6 rfl, hS131.cell 0 rfl 7 rfl, hS131.cell 0 rfl 8 rfl, hS131.cell 6 rfl 0 rfl, hS131.cell 6 rfl 1 rfl, hS131.cell 6 rfl 2 rfl, hS131.cell 6 rfl 3 rfl, hS131.cell 6 rfl 4 rfl, hS131.cell 6 rfl 5 rfl, hS131.cell 6 rfl 6 rfl, hS131.cell 6 rfl 7 rfl, trivial⟩, forallC ?_ (forallN)⟩
           refine segF 5 [.v e81, .v e82, .v e83, .v e84, .v e85, .v e86, .v e87, .v e88, .v (iv a95.e0), .v (iv a95.e1), .v (iv a95.e2), .v (iv a95.e3), .v (iv a95.e4), .v (iv a95.e5), .v (iv a95.e6), .v (iv a95.e7)] [6, 8, 10, 13, 15, 16, 18, 74, 75, 76, 84] [e28, (8, e16), e24, e26, e39, e41, e90, (74, e16), (75, e23), e69, (84, (bv ((e22.e0) == a95.e0 && ((e22.e1) == a95.e1 && ((e22.e2) == a95.e2 && ((e22.e3) == a95.e3 && ((e22.e4) == a95.e4 && ((e22.e5) == a95.e5 && ((e22.e6) == a95.e6 && ((e22.e7) == a95.e7))))))))))] [] e91 e11 (fun fb => by kernel_rfl) rfl trivial rfl ?_
           refine WL.setB 84 h124 rfl ?_
           refine sg 13 [] e43 [e28, (8, e16), e24, e26, e39, e41, e90, (74, e16), (75, e23), e69, (92, (bv false))] (by kernel_rfl) ?_
           refine WL.done rfl ?_
           injection hx123 with hx123
           exact WX.to Kx122 false e43 rfl ⟨(hS131.subR e34).sub [1, 2, 3, 4, 5, 6, 0] (by decide), hx123.symm⟩
          rintro y135 w132 ⟨hS133, hq134⟩
          subst hq134
          refine WX.next ?_
          rcases br_some hl114 with ⟨h136, hl114⟩ | ⟨h136, hl114⟩
          ·refine WC.condT2 (fun fb => by kernel_rfl) h136 ?_
           refine WC.seq (WC.region ?_)
           refine seg 4 [.v (sv A92 l94 c93), .v e31] [6, 8, 10, 13, 15, 16, 18, 94, 96] [e28, (8, e16), e24, e26, e39, e41, e90, (94, (sv A92 l94 c93)), (96, e31)] [.cell ⟨g24, 2, none⟩ (sv A92 l94 c93), .cell ⟨g117, 0, none⟩ e31] (fun fb => by kernel_rfl) rfl ⟨hS133.cell 3 rfl 2 rfl, hS133.cell 6 rfl 0 rfl, trivial⟩ ?_
           obtain ⟨h137, hl114⟩ := as_some hl114
           refine WL.append hS133 4 (d := 97) (tS := 24) (z := (iv 0)) (bytes := 8) (c2 := (H19 x106.toNat 0).2) rfl (fun fb => by kernel_rfl) (nestO.at ((hS133.own 2).1 0) z_Row h116.1 h116.2) (by kernel_rfl) (by kernel_rfl) rfl (by decide) h137 (by decide) [0, 1, 2, 3, 5, 6] (by decide) (by decide) (fun A138 c139 w140 hS141 => ?_)
           refine ⟨trivial, ?_⟩
           refine sg 6 [] [6, 8, 10, 13, 15, 16, 18, 97, 98] [e28, (8, e16), e24, e26, e39, e41, e90, (97, (sv A138 (l94 ++ (e9.Cells)) c139)), (98, (.pointer (some ⟨g24, 2, none⟩)))] (by kernel_rfl) ?_
           refine WL.store hS141 4 rfl [(2, (sv A138 (l94 ++ (e9.Cells)) c139))] #[(iv p1), (iv p2), (sv A138 (l94 ++ (e9.Cells)) c139)] (fun fb => by kernel_rfl) (by kernel_rfl) rfl [0, 1, 2, 3, 5, 6] (by decide) (by decide) (fun w142 hS143 => ?_)
           refine ⟨trivial, ?_⟩
           refine WL.done rfl (WX.next (WC.seq (WC.region ?_)))
           refine seg 2 [.v e70, .v e71, .v e72, .v e73, .v e74, .v e75, .v e76, .v e77] [6, 8, 10, 13, 15, 16, 100] [e28, (8, e16), e24, e26, e39, e41, (100, (.agg e36))] [.cell ⟨g117, 9, none⟩ e70, .cell ⟨g117, 10, none⟩ e71, .cell ⟨g117, 11, none⟩ e72, .cell ⟨g117, 12, none⟩ e73, .cell ⟨g117, 13, none⟩ e74, .cell ⟨g117, 14, none⟩ e75, .cell ⟨g117, 15, none⟩ e76, .cell ⟨g117, 16, none⟩ e77] (fun fb => by kernel_rfl) rfl ⟨hS143.cell 6 rfl 9 rfl, hS143.cell 6 rfl 10 rfl, hS143.cell 6 rfl 11 rfl, hS143.cell 6 rfl 12 rfl, hS143.cell 6 rfl 13 rfl, hS143.cell 6 rfl 14 rfl, hS143.cell 6 rfl 15 rfl, hS143.cell 6 rfl 16 rfl, trivial⟩ ?_
           refine WL.store hS143 5 rfl [(0, e70), (1, e71), (2, e72), (3, e73), (4, e74), (5, e75), (6, e76), (7, e77)] e36 (fun fb => by kernel_rfl) (by kernel_rfl) rfl [0, 1, 2, 3, 4, 6] (by decide) (by decide) (fun w144 hS145 => ?_)
           refine ⟨trivial, ?_⟩
           refine WL.done rfl (WX.next ?_)
           refine WC.exit ?_
           injection hl114 with hl114
           exact WX.blockPast (by decide) (WX.thenX (WX.thenX (WX.blockHere (WX.to Kx109 ((l94 ++ (e9.Cells), e18), A138, c139) e50 rfl ⟨(hS145.subR e34).sub [3, 4, 5, 1, 2, 0] (by decide), hl114.symm⟩))))
          refine WC.condF2 (fun fb => by kernel_rfl) h136 ?_
          refine WC.skip ?_
          refine WX.blockN (WX.next ?_)
          refine WC.region ?_
          refine sg 2 [] e51 [e28, (8, e16), e24, e26, e39, e41, (74, e16), (75, e23), (76, (iv (w64 (x106 + 1))))] (by kernel_rfl) ?_
          refine WL.done rfl ?_
          exact WX.again k111 (Nat.lt_succ_self _) (w64 (x106 + 1)) e51 rfl ⟨(hS133.subR e34).sub [0, 1, 2, 3, 4, 5] (by decide), hl114⟩
         refine WC.condF2 (fun fb => by kernel_rfl) h115 ?_
         refine WC.exit ?_
         injection hl114 with hl114
         exact WX.thenX (WX.thenX (WX.blockHere (WX.to Kx109 ((l94, a95), A92, c93) e50 rfl ⟨(hS113.subR e34).sub [0, 1, 2, 3, 4, 5] (by decide), hl114.symm⟩)))
       rintro ⟨y149, A107, c108⟩ w146 ⟨hS147, hq148⟩
       subst hq148
       refine WX.scopeN (WX.blockN (WX.next ?_))
       refine WC.region ?_
       refine sg 3 [] e50 [e28, (8, e16), e24, e26, e39, (16, (iv (w64 (x96 - 1))))] (by kernel_rfl) ?_
       refine WL.done rfl ?_
       exact WX.again k101 (Nat.lt_succ_self _) ((x109.1, x109.2, w64 (x96 - 1)), A107, c108) e50 rfl ⟨(hS147.subR e34).sub [0, 1, 2, 3, 4, 5] (by decide), hl104⟩
      refine WC.condF2 (fun fb => by kernel_rfl) h105 ?_
      refine WC.exit ?_
      injection hl104 with hl104
      exact WX.thenX (WX.thenX (WX.blockHere (WX.to Kx99 (l94, A92, c93) [6, 10] rfl ⟨(hS103.subR e34).sub [0, 3, 4] (by decide), hl104.symm⟩)))
    rintro ⟨y153, A97, c98⟩ w150 ⟨hS151, hq152⟩
    subst hq152
    refine WX.next (WC.seq (WC.region ?_))
    refine seg 1 [.v (iv p1), .v (iv p2), .v (sv A97 x99 c98)] [6, 102] [e28, (102, (.agg #[(iv p1), (iv p2), (sv A97 x99 c98)]))] [.cell ⟨g24, 0, none⟩ (iv p1), .cell ⟨g24, 1, none⟩ (iv p2), .cell ⟨g24, 2, none⟩ (sv A97 x99 c98)] (fun fb => by kernel_rfl) rfl ⟨hS151.cell 1 rfl 0 rfl, hS151.cell 1 rfl 1 rfl, hS151.cell 1 rfl 2 rfl, trivial⟩ ?_
    refine WL.store hS151 0 rfl [(0, (iv p1)), (1, (iv p2)), (2, (sv A97 x99 c98))] #[(iv p1), (iv p2), (sv A97 x99 c98)] (fun fb => by kernel_rfl) (by kernel_rfl) rfl [1, 2] (by decide) (by decide) (fun w154 hS155 => ?_)
    refine ⟨trivial, ?_⟩
    refine sg 3 [] [6, 7] [e28, (7, (bv true))] (by kernel_rfl) ?_
    refine WL.done rfl (WX.next ?_)
    refine WC.ret ?_
    injection hl37 with hl37
    subst hl37
    injection hf with hf
    subst hf
    exact WX.blockR (WX.thenR (WX.thenR (WX.blockR (WX.thenR (WX.scopeR (WX.ret_ [.v (iv p1), .v (iv p2), .v (sv A97 x99 c98)] (.tuple #[(.agg #[(iv p1), (iv p2), (sv A97 x99 c98)]), (bv true)]) [.cell ⟨g9, 0, none⟩ (iv p1), .cell ⟨g9, 1, none⟩ (iv p2), .cell ⟨g9, 2, none⟩ (sv A97 x99 c98)] (fun fb => by kernel_rfl) ⟨hS155.cell 0 rfl 0 rfl, hS155.cell 0 rfl 1 rfl, hS155.cell 0 rfl 2 rfl, trivial⟩ ⟨_, rfl, A97, c98, rfl, (hS155.sub [2] (by decide)).noR⟩))))))
   refine WC.condF2 (fun fb => by kernel_rfl) h38 ?_
   refine WC.exit ?_
   injection hl37 with hl37
   exact WX.thenX (WX.thenX (WX.blockHere (WX.to Kx32 () [6] rfl ⟨(hS36.subR [1, 2]).sub [0] (by decide), hl37.symm⟩)))
 rintro y159 w156 ⟨hS157, hq158⟩
 subst hq158
 have hf := sum_inr hf
 refine WX.next (WC.seq (WC.region ?_))
 refine sg 1 [] [6, 104] [e28, (104, (.agg #[(iv 0), (iv 0), (.slice none 0 0)]))] (by kernel_rfl) ?_
 refine WL.store hS157 0 rfl [(0, (iv 0)), (1, (iv 0)), (2, (.slice none 0 0))] #[(iv 0), (iv 0), (.slice none 0 0)] (fun fb => by kernel_rfl) (by kernel_rfl) rfl [] (by decide) (by decide) (fun w160 hS161 => ?_)
 refine ⟨trivial, ?_⟩
 refine sg 3 [] [6, 7] [e28, (7, (bv false))] (by kernel_rfl) ?_
 refine WL.done rfl (WX.next ?_)
 refine WC.ret ?_
 have hS162 := hS161.nilrow 3 encInt
 injection hf with hf
 subst hf
 exact WX.scopeR (WX.ret_ [.v (iv 0), .v (iv 0), .v (.slice none 0 0)] (.tuple #[(.agg #[(iv 0), (iv 0), (sv none ([] : List Int) 0)]), (bv false)]) [.cell ⟨g9, 0, none⟩ (iv 0), .cell ⟨g9, 1, none⟩ (iv 0), .cell ⟨g9, 2, none⟩ (.slice none 0 0)] (fun fb => by kernel_rfl) ⟨hS161.cell 0 rfl 0 rfl, hS161.cell 0 rfl 1 rfl, hS161.cell 0 rfl 2 rfl, trivial⟩ ⟨_, rfl, none, 0, rfl, (hS162.sub [0] (by decide)).noR⟩)
theorem torus_Least_calls (k : Nat) (p0 : List Tile) (p1 : Int) (Aa : Option Addr) (ca : Nat) (r : Pattern × Int) (w : World) (hR0 : RO NoS w (rowR enc_Tile Aa ca p0)) (hf : torus_Least k p0 p1 = some r) :
  CallsR Tryz.prog 22 #[(sv Aa p0 ca), (iv p1)] w (fun v w' => ∃ (A1_ : Option Addr), ∃ (c1_ : Nat), v = (.tuple #[(.agg #[(iv r.1.Width), (iv r.1.Height), (sv A1_ r.1.Cells c1_)]), (iv r.2)]) ∧ St NoS w w' [] [rowO 3 encInt A1_ c1_ r.1.Cells]) := by
 have hS : St NoS w w [rowR enc_Tile Aa ca p0] [] := St.init (ro_cons hR0 (ro_nil _ _))
 refine enter 61 Tryz.func22 rfl Tryz.ntmps22 rfl ?_
 unfold torus_Least at hf
 refine WC.seq (WC.region ?_)
 refine WL.new hS 4 [] (fun g => (pt g)) (.cells #[(iv 0), (iv 0), (.slice none 0 0)] 49 (0, 0)) [] (fun fb g => by kernel_rfl) trivial (fun g3 w4 hS5 => ?_)
 refine ⟨trivial, ?_⟩
 refine sg 2 [] [0, 1, 4] [(0, (sv Aa p0 ca)), (1, (iv p1)), (4, (pt g3))] (by kernel_rfl) ?_
 refine WL.done rfl (WX.next (WC.seq (WC.seq (WC.region ?_))))
 refine sg 1 [] [0, 1, 4, 10] [(0, (sv Aa p0 ca)), (1, (iv p1)), (4, (pt g3)), (10, (sv Aa p0 ca))] (by kernel_rfl) ?_
 obtain ⟨t6, ht7, hf⟩ := bind_some hf
 refine WL.call (some 11) 37 #[(sv Aa p0 ca)] (fun fb => by kernel_rfl) (tile_Valid_calls _ p0 Aa ca t6 _ (hS5.rd 0) ht7) (fun v w8 hR9 => ?_)
 obtain ⟨rfl, hk_⟩ := hR9
 have hS10 := hS5.keepN hk_
 refine ⟨trivial, ?_⟩
 refine sg 3 [] [0, 1, 4, 12] [(0, (sv Aa p0 ca)), (1, (iv p1)), (4, (pt g3)), (12, (bv (!t6)))] (by kernel_rfl) ?_
 refine WL.done rfl (WX.next ?_)
 rcases br_some hf with ⟨h11, hf⟩ | ⟨h11, hf⟩
 ·refine WC.condT2 (fun fb => by kernel_rfl) h11 ?_
  refine WC.seq (WC.region ?_)
  refine sg 1 [] [4, 13] [(4, (pt g3)), (13, (.agg #[(iv 0), (iv 0), (.slice none 0 0)]))] (by kernel_rfl) ?_
  refine WL.store hS10 0 rfl [(0, (iv 0)), (1, (iv 0)), (2, (.slice none 0 0))] #[(iv 0), (iv 0), (.slice none 0 0)] (fun fb => by kernel_rfl) (by kernel_rfl) rfl [] (by decide) (by decide) (fun w12 hS13 => ?_)
  refine ⟨trivial, ?_⟩
  refine sg 3 [] [4, 5] [(4, (pt g3)), (5, (iv 1))] (by kernel_rfl) ?_
  refine WL.done rfl (WX.next ?_)
  refine WC.ret ?_
  have hS14 := hS13.nilrow 3 encInt
  injection hf with hf
  subst hf
  exact WX.thenR (WX.ret_ [.v (iv 0), .v (iv 0), .v (.slice none 0 0)] (.tuple #[(.agg #[(iv 0), (iv 0), (sv none ([] : List Int) 0)]), (iv 1)]) [.cell ⟨g3, 0, none⟩ (iv 0), .cell ⟨g3, 1, none⟩ (iv 0), .cell ⟨g3, 2, none⟩ (.slice none 0 0)] (fun fb => by kernel_rfl) ⟨hS13.cell 0 rfl 0 rfl, hS13.cell 0 rfl 1 rfl, hS13.cell 0 rfl 2 rfl, trivial⟩ ⟨_, rfl, none, 0, rfl, (hS14.sub [0] (by decide)).noR⟩)
 refine WC.condF2 (fun fb => by kernel_rfl) h11 ?_
 refine WC.skip (WX.next (WC.seq (WC.seq (WC.region ?_))))
 refine sg 3 [] [0, 1, 4, 16] [(0, (sv Aa p0 ca)), (1, (iv p1)), (4, (pt g3)), (16, (bv (decide (p1 < 1))))] (by kernel_rfl) ?_
 refine WL.cutV (T := Bool) 6 (fun t => [(19, (bv t)), (0, (sv Aa p0 ca)), (1, (iv p1)), (4, (pt g3))]) (fun t => ((decide (p1 < 1)) || (decide (p1 > 6))) = t) (fun K => ?_) ?_
 ·
  rcases Bool.eq_false_or_eq_true (decide (p1 < 1)) with h15 | h15
  ·
   refine WL.setB 16 h15 rfl ?_
   refine sg 6 [] [0, 1, 4, 19] [(0, (sv Aa p0 ca)), (1, (iv p1)), (4, (pt g3)), (19, (bv true))] (by kernel_rfl) ?_
   exact WL.toV K true [19, 0, 1, 4] rfl (by first | (rw [h15]; done) | (rw [h15]; rfl))
  refine WL.setB 16 h15 rfl ?_
  refine sg 6 [] [0, 1, 4, 19] [(0, (sv Aa p0 ca)), (1, (iv p1)), (4, (pt g3)), (19, (bv (decide (p1 > 6))))] (by kernel_rfl) ?_
  exact WL.toV K (decide (p1 > 6)) [19, 0, 1, 4] rfl (by first | (rw [h15]; done) | (rw [h15]; rfl))
 rintro b16 rfl
 refine WL.done rfl (WX.next ?_)
 rcases br_some hf with ⟨h17, hf⟩ | ⟨h17, hf⟩
 ·refine WC.condT2 (fun fb => by kernel_rfl) h17 ?_
  refine WC.seq (WC.region ?_)
  refine sg 1 [] [4, 20] [(4, (pt g3)), (20, (.agg #[(iv 0), (iv 0), (.slice none 0 0)]))] (by kernel_rfl) ?_
  refine WL.store hS10 0 rfl [(0, (iv 0)), (1, (iv 0)), (2, (.slice none 0 0))] #[(iv 0), (iv 0), (.slice none 0 0)] (fun fb => by kernel_rfl) (by kernel_rfl) rfl [] (by decide) (by decide) (fun w18 hS19 => ?_)
  refine ⟨trivial, ?_⟩
  refine sg 3 [] [4, 5] [(4, (pt g3)), (5, (iv 2))] (by kernel_rfl) ?_
  refine WL.done rfl (WX.next ?_)
  refine WC.ret ?_
  have hS20 := hS19.nilrow 3 encInt
  injection hf with hf
  subst hf
  exact WX.thenR (WX.ret_ [.v (iv 0), .v (iv 0), .v (.slice none 0 0)] (.tuple #[(.agg #[(iv 0), (iv 0), (sv none ([] : List Int) 0)]), (iv 2)]) [.cell ⟨g3, 0, none⟩ (iv 0), .cell ⟨g3, 1, none⟩ (iv 0), .cell ⟨g3, 2, none⟩ (.slice none 0 0)] (fun fb => by kernel_rfl) ⟨hS19.cell 0 rfl 0 rfl, hS19.cell 0 rfl 1 rfl, hS19.cell 0 rfl 2 rfl, trivial⟩ ⟨_, rfl, none, 0, rfl, (hS20.sub [0] (by decide)).noR⟩)
 refine WC.condF2 (fun fb => by kernel_rfl) h17 ?_
 refine WC.skip (WX.next (WC.seq (WC.seq (WC.region ?_))))
 refine sg 2 [] [0, 1, 4, 21, 22] [(0, (sv Aa p0 ca)), (1, (iv p1)), (4, (pt g3)), (21, (sv Aa p0 ca)), (22, (iv p1))] (by kernel_rfl) ?_
 obtain ⟨t21, ht23, hf⟩ := bind_some hf
 refine WL.call (some 23) 56 #[(sv Aa p0 ca), (iv p1)] (fun fb => by kernel_rfl) (rows_Few_calls _ p0 p1 Aa ca t21 _ (hS10.rd 0) ht23) (fun v w24 hR25 => ?_)
 obtain ⟨rfl, hk_⟩ := hR25
 have hS26 := hS10.keepN hk_
 refine ⟨trivial, ?_⟩
 refine sg 4 [] [0, 1, 4, 24] [(0, (sv Aa p0 ca)), (1, (iv p1)), (4, (pt g3)), (24, (bv (!t21)))] (by kernel_rfl) ?_
 refine WL.done rfl (WX.next ?_)
 rcases br_some hf with ⟨h27, hf⟩ | ⟨h27, hf⟩
 ·refine WC.condT2 (fun fb => by kernel_rfl) h27 ?_
  refine WC.seq (WC.region ?_)
  refine sg 1 [] [4, 25] [(4, (pt g3)), (25, (.agg #[(iv 0), (iv 0), (.slice none 0 0)]))] (by kernel_rfl) ?_
  refine WL.store hS26 0 rfl [(0, (iv 0)), (1, (iv 0)), (2, (.slice none 0 0))] #[(iv 0), (iv 0), (.slice none 0 0)] (fun fb => by kernel_rfl) (by kernel_rfl) rfl [] (by decide) (by decide) (fun w28 hS29 => ?_)
  refine ⟨trivial, ?_⟩
  refine sg 3 [] [4, 5] [(4, (pt g3)), (5, (iv 4))] (by kernel_rfl) ?_
  refine WL.done rfl (WX.next ?_)
  refine WC.ret ?_
  have hS30 := hS29.nilrow 3 encInt
  injection hf with hf
  subst hf
  exact WX.thenR (WX.ret_ [.v (iv 0), .v (iv 0), .v (.slice none 0 0)] (.tuple #[(.agg #[(iv 0), (iv 0), (sv none ([] : List Int) 0)]), (iv 4)]) [.cell ⟨g3, 0, none⟩ (iv 0), .cell ⟨g3, 1, none⟩ (iv 0), .cell ⟨g3, 2, none⟩ (.slice none 0 0)] (fun fb => by kernel_rfl) ⟨hS29.cell 0 rfl 0 rfl, hS29.cell 0 rfl 1 rfl, hS29.cell 0 rfl 2 rfl, trivial⟩ ⟨_, rfl, none, 0, rfl, (hS30.sub [0] (by decide)).noR⟩)
 refine WC.condF2 (fun fb => by kernel_rfl) h27 ?_
 refine WC.skip (WX.next (WC.seq (WC.seq (WC.region ?_))))
 refine sg 1 [] [0, 1, 4, 6] [(0, (sv Aa p0 ca)), (1, (iv p1)), (4, (pt g3)), (6, (iv 1))] (by kernel_rfl) ?_
 refine WL.done rfl (WX.next ?_)
 obtain ⟨x32, hx33, hf⟩ := bind_some hf
 let e1 : Nat × Value := (0, (sv Aa p0 ca))
 let e2 : Nat × Value := (4, (pt g3))
 let e3 : Nat × Value := (1, (iv p1))
 let e8 : List Own := [rowR enc_Tile Aa ca p0]
 let e10 : List Nat := [0, 1, 4, 6, 7]
 refine WC.cutN (T := Unit) (fun t => [e2]) (fun t w1 => St NoS w w1 e8 [blk g3 (.cells #[(iv 0), (iv 0), (.slice none 0 0)] 49 (0, 0))] ∧ x32 = .inr t) (fun Kx32 => ?_) ?_
 ·
  refine WC.block ?_
  refine WC.loop (T := Int) (fun t => [e1, e3, e2, (6, (iv t))]) (fun n t w1 => St NoS w w1 e8 [blk g3 (.cells #[(iv 0), (iv 0), (.slice none 0 0)] 49 (0, 0))] ∧ torus_Least.l0 n t p0 p1 = some x32) k 1 [0, 1, 4, 6] rfl ⟨(hS26.subR [0]).sub [0] (by decide), hx33⟩ ?_
  rintro k34 x31 w35 ⟨hS36, hl37⟩
  let e4 : Nat × Value := (6, (iv x31))
  cases k34 with
  | zero => rw [torus_Least.l0] at hl37; cases hl37
  | succ k34 =>
   rw [torus_Least.l0] at hl37
   refine WC.seq (WC.seq (WC.region ?_))
   refine sg 5 [] [0, 1, 4, 6, 30] [e1, e3, e2, e4, (30, (bv (decide (x31 ≤ w64 (p1 * p1)))))] (by kernel_rfl) ?_
   refine WL.done rfl (WX.next ?_)
   rcases br_some hl37 with ⟨h38, hl37⟩ | ⟨h38, hl37⟩
   ·refine WC.condT2 (fun fb => by kernel_rfl) h38 ?_
    refine WC.skip (WX.next (WC.seq (WC.block (WC.seq (WC.region ?_)))))
    refine sg 1 [] e10 [e1, e3, e2, e4, (7, (iv 1))] (by kernel_rfl) ?_
    refine WL.done rfl (WX.next ?_)
    obtain ⟨x40, hx41, hl37⟩ := bind_some hl37
    refine WC.cutN (T := Unit) (fun t => [e1, e3, e2, e4]) (fun t w1 => St NoS w w1 e8 [blk g3 (.cells #[(iv 0), (iv 0), (.slice none 0 0)] 49 (0, 0))] ∧ x40 = .inr t) (fun Kx40 => ?_) ?_
    ·
     refine WC.block ?_
     refine WC.loop (T := Int) (fun t => [e1, e3, e2, e4, (7, (iv t))]) (fun n t w1 => St NoS w w1 e8 [blk g3 (.cells #[(iv 0), (iv 0), (.slice none 0 0)] 49 (0, 0))] ∧ torus_Least.l1 n t p0 p1 x31 = some x40) k34 1 e10 rfl ⟨(hS36.subR [0]).sub [0] (by decide), hx41⟩ ?_
     rintro k42 x39 w43 ⟨hS44, hl45⟩
     let e6 : Nat × Value := (7, (iv x39))
     cases k42 with
     | zero => rw [torus_Least.l1] at hl45; cases hl45
     | succ k42 =>
      rw [torus_Least.l1] at hl45
      refine WC.seq (WC.seq (WC.region ?_))
      refine sg 3 [] [0, 1, 4, 6, 7, 35] [e1, e3, e2, e4, e6, (35, (bv (decide (x39 ≤ p1))))] (by kernel_rfl) ?_
      refine WL.done rfl (WX.next ?_)
      rcases br_some hl45 with ⟨h46, hl45⟩ | ⟨h46, hl45⟩
      ·refine WC.condT2 (fun fb => by kernel_rfl) h46 ?_
       refine WC.skip (WX.next (WC.seq ?_))
       obtain ⟨x47, hx48, hl45⟩ := bind_some hl45
       refine WC.cutN (T := Unit) (fun t => [e1, e3, e2, e4, e6]) (fun t w1 => St NoS w w1 e8 [blk g3 (.cells #[(iv 0), (iv 0), (.slice none 0 0)] 49 (0, 0))] ∧ x47 = .inr t) (fun Kx47 => ?_) ?_
       ·
        refine WC.block (WC.seq (WC.seq (WC.region ?_)))
        refine sg 2 [] [0, 1, 4, 6, 7, 38, 39] [e1, e3, e2, e4, e6, (38, (iv x31)), (39, (iv x39))] (by kernel_rfl) ?_
        obtain ⟨h49, hx48⟩ := as_some hx48
        refine seg 5 [] [0, 1, 4, 6, 7, 42] [e1, e3, e2, e4, e6, (42, (bv ((Int.tmod x31 x39) != 0)))] [.ne x39] (fun fb => by kernel_rfl) rfl ⟨h49, trivial⟩ ?_
        refine WL.cutV (T := Bool) 11 (fun t => [(48, (bv t)), e1, e3, e2, e4, e6]) (fun t => (((Int.tmod x31 x39) != 0) || (decide (w64 (Int.tdiv x31 x39) > p1))) = t) (fun K => ?_) ?_
        ·
         rcases Bool.eq_false_or_eq_true ((Int.tmod x31 x39) != 0) with h50 | h50
         ·
          refine WL.setB 42 h50 rfl ?_
          refine sg 11 [] [0, 1, 4, 6, 7, 48] [e1, e3, e2, e4, e6, (48, (bv true))] (by kernel_rfl) ?_
          exact WL.toV K true [48, 0, 1, 4, 6, 7] rfl (by first | (rw [h50]; done) | (rw [h50]; rfl))
         refine WL.setB 42 h50 rfl ?_
         refine seg 11 [] [0, 1, 4, 6, 7, 48] [e1, e3, e2, e4, e6, (48, (bv (decide (w64 (Int.tdiv x31 x39) > p1))))] [.ne x39] (fun fb => by kernel_rfl) rfl ⟨h49, trivial⟩ ?_
         exact WL.toV K (decide (w64 (Int.tdiv x31 x39) > p1)) [48, 0, 1, 4, 6, 7] rfl (by first | (rw [h50]; done) | (rw [h50]; rfl))
        rintro b51 rfl
        refine WL.done rfl (WX.next ?_)
        rcases br_some hx48 with ⟨h52, hx48⟩ | ⟨h52, hx48⟩
        ·refine WC.condT2 (fun fb => by kernel_rfl) h52 ?_
         refine WC.exit ?_
         injection hx48 with hx48
         exact WX.thenX (WX.blockHere (WX.to Kx47 () e10 rfl ⟨(hS44.subR [0]).sub [0] (by decide), hx48.symm⟩))
        refine WC.condF2 (fun fb => by kernel_rfl) h52 ?_
        refine WC.skip (WX.next (WC.seq (WC.region ?_)))
        refine seg 5 [] [0, 1, 4, 6, 7, 50, 51, 54] [e1, e3, e2, e4, e6, (50, (sv Aa p0 ca)), (51, (iv x39)), (54, (iv (w64 (Int.tdiv x31 x39))))] [.ne x39] (fun fb => by kernel_rfl) rfl ⟨h49, trivial⟩ ?_
        obtain ⟨t53, ht54, hx48⟩ := bind_some hx48
        refine WL.call (some 55) 57 #[(sv Aa p0 ca), (iv x39), (iv (w64 (Int.tdiv x31 x39)))] (fun fb => by kernel_rfl) (torus_find_calls _ p0 x39 (w64 (Int.tdiv x31 x39)) Aa ca t53 _ (hS44.rd 0) ht54) (fun v w55 hR56 => ?_)
        obtain ⟨A58, c59, rfl, hk_⟩ := hR56
        have hS57 := hS.go w55 [rowO 3 encInt A58 c59 t53.1.Cells, blk g3 (.cells #[(iv 0), (iv 0), (.slice none 0 0)] 49 (0, 0))] (hS44.call hk_ [] [0] (fun g hg => hg.elim) (by simp) (by decide))
        refine ⟨trivial, ?_⟩
        refine sg 9 [] [0, 1, 4, 6, 7, 56, 57] [e1, e3, e2, e4, e6, (56, (.agg #[(iv t53.1.Width), (iv t53.1.Height), (sv A58 t53.1.Cells c59)])), (57, (bv t53.2))] (by kernel_rfl) ?_
        refine WL.new hS57 8 [] (fun g => (pt g)) (.cells #[(iv 0), (iv 0), (.slice none 0 0)] 49 (0, 0)) [] (fun fb g => by kernel_rfl) trivial (fun g60 w61 hS62 => ?_)
        refine ⟨trivial, ?_⟩
        refine WL.store hS62 0 rfl [(0, (iv t53.1.Width)), (1, (iv t53.1.Height)), (2, (sv A58 t53.1.Cells c59))] #[(iv t53.1.Width), (iv t53.1.Height), (sv A58 t53.1.Cells c59)] (fun fb => by kernel_rfl) (by kernel_rfl) rfl [1, 2] (by decide) (by decide) (fun w63 hS65 => ?_)
        refine ⟨trivial, ?_⟩
        refine sg 12 [] [0, 1, 4, 6, 7, 8, 9] [e1, e3, e2, e4, e6, (8, (pt g60)), (9, (bv t53.2))] (by kernel_rfl) ?_
        refine WL.done rfl (WX.next (WC.seq (WC.region ?_)))
        refine sg 1 [] [0, 1, 4, 6, 7, 8, 58] [e1, e3, e2, e4, e6, (8, (pt g60)), (58, (bv t53.2))] (by kernel_rfl) ?_
        refine WL.done rfl (WX.next ?_)
        let e5 := sv A58 t53.1.Cells c59
        let e7 := iv t53.1.Height
        let e9 := iv t53.1.Width
        rcases br_some hx48 with ⟨h66, hx48⟩ | ⟨h66, hx48⟩
        ·refine WC.condT2 (fun fb => by kernel_rfl) h66 ?_
         refine WC.seq (WC.region ?_)
         refine seg 1 [.v e9, .v e7, .v e5] [4, 59] [e2, (59, (.agg #[e9, e7, e5]))] [.cell ⟨g60, 0, none⟩ e9, .cell ⟨g60, 1, none⟩ e7, .cell ⟨g60, 2, none⟩ e5] (fun fb => by kernel_rfl) rfl ⟨hS65.cell 0 rfl 0 rfl, hS65.cell 0 rfl 1 rfl, hS65.cell 0 rfl 2 rfl, trivial⟩ ?_
         refine WL.store hS65 2 rfl [(0, e9), (1, e7), (2, e5)] #[e9, e7, e5] (fun fb => by kernel_rfl) (by kernel_rfl) rfl [0, 1] (by decide) (by decide) (fun w67 hS68 => ?_)
         refine ⟨trivial, ?_⟩
         refine sg 3 [] [4, 5] [e2, (5, (iv 0))] (by kernel_rfl) ?_
         refine WL.done rfl (WX.next ?_)
         refine WC.ret ?_
         injection hx48 with hx48
         subst hx48
         injection hl45 with hl45
         subst hl45
         injection hl37 with hl37
         subst hl37
         injection hf with hf
         subst hf
         exact WX.blockR (WX.thenR (WX.thenR (WX.blockR (WX.blockR (WX.thenR (WX.thenR (WX.blockR (WX.thenR (WX.ret_ [.v e9, .v e7, .v e5] (.tuple #[(.agg #[e9, e7, e5]), (iv 0)]) [.cell ⟨g3, 0, none⟩ e9, .cell ⟨g3, 1, none⟩ e7, .cell ⟨g3, 2, none⟩ e5] (fun fb => by kernel_rfl) ⟨hS68.cell 0 rfl 0 rfl, hS68.cell 0 rfl 1 rfl, hS68.cell 0 rfl 2 rfl, trivial⟩ ⟨_, rfl, A58, c59, rfl, (hS68.sub [2] (by decide)).noR⟩)))))))))
        refine WC.condF2 (fun fb => by kernel_rfl) h66 ?_
        refine WC.skip ?_
        injection hx48 with hx48
        exact WX.blockN (WX.to Kx47 () e10 rfl ⟨(hS65.subR [0]).sub [2] (by decide), hx48.symm⟩)
       rintro y72 w69 ⟨hS70, hq71⟩
       subst hq71
       have hl45 := sum_inr hl45
       refine WX.next (WC.region ?_)
       refine sg 3 [] e10 [e1, e3, e2, e4, (7, (iv (w64 (x39 + 1))))] (by kernel_rfl) ?_
       refine WL.done rfl ?_
       exact WX.again k42 (Nat.lt_succ_self _) (w64 (x39 + 1)) e10 rfl ⟨(hS70.subR [0]).sub [0] (by decide), hl45⟩
      refine WC.condF2 (fun fb => by kernel_rfl) h46 ?_
      refine WC.exit ?_
      injection hl45 with hl45
      exact WX.thenX (WX.thenX (WX.blockHere (WX.to Kx40 () [0, 1, 4, 6] rfl ⟨(hS44.subR [0]).sub [0] (by decide), hl45.symm⟩)))
    rintro y76 w73 ⟨hS74, hq75⟩
    subst hq75
    have hl37 := sum_inr hl37
    refine WX.blockN (WX.next ?_)
    refine WC.region ?_
    refine sg 3 [] [0, 1, 4, 6] [e1, e3, e2, (6, (iv (w64 (x31 + 1))))] (by kernel_rfl) ?_
    refine WL.done rfl ?_
    exact WX.again k34 (Nat.lt_succ_self _) (w64 (x31 + 1)) [0, 1, 4, 6] rfl ⟨(hS74.subR [0]).sub [0] (by decide), hl37⟩
   refine WC.condF2 (fun fb => by kernel_rfl) h38 ?_
   refine WC.exit ?_
   injection hl37 with hl37
   exact WX.thenX (WX.thenX (WX.blockHere (WX.to Kx32 () [4] rfl ⟨(hS36.subR [0]).sub [0] (by decide), hl37.symm⟩)))
 rintro y80 w77 ⟨hS78, hq79⟩
 subst hq79
 have hf := sum_inr hf
 refine WX.next (WC.seq (WC.region ?_))
 refine sg 1 [] [4, 60] [e2, (60, (.agg #[(iv 0), (iv 0), (.slice none 0 0)]))] (by kernel_rfl) ?_
 refine WL.store hS78 0 rfl [(0, (iv 0)), (1, (iv 0)), (2, (.slice none 0 0))] #[(iv 0), (iv 0), (.slice none 0 0)] (fun fb => by kernel_rfl) (by kernel_rfl) rfl [] (by decide) (by decide) (fun w81 hS82 => ?_)
 refine ⟨trivial, ?_⟩
 refine sg 3 [] [4, 5] [e2, (5, (iv 6))] (by kernel_rfl) ?_
 refine WL.done rfl (WX.next ?_)
 refine WC.ret ?_
 have hS83 := hS82.nilrow 3 encInt
 injection hf with hf
 subst hf
 exact WX.ret_ [.v (iv 0), .v (iv 0), .v (.slice none 0 0)] (.tuple #[(.agg #[(iv 0), (iv 0), (sv none ([] : List Int) 0)]), (iv 6)]) [.cell ⟨g3, 0, none⟩ (iv 0), .cell ⟨g3, 1, none⟩ (iv 0), .cell ⟨g3, 2, none⟩ (.slice none 0 0)] (fun fb => by kernel_rfl) ⟨hS82.cell 0 rfl 0 rfl, hS82.cell 0 rfl 1 rfl, hS82.cell 0 rfl 2 rfl, trivial⟩ ⟨_, rfl, none, 0, rfl, (hS83.sub [0] (by decide)).noR⟩
theorem tile_Form_calls (p0 : Pattern) (Aa : Option Addr) (ca : Nat) (r : Bool) (w : World) (hR0 : RO NoS w (rowR encInt Aa ca p0.Cells)) (hf : tile_Form p0 = some r) :
  CallsR Tryz.prog 77 #[(.agg #[(iv p0.Width), (iv p0.Height), (sv Aa p0.Cells ca)])] w (fun v w' => v = (bv r) ∧ Keeps NoS w w') := by
 have hS : St NoS w w [rowR encInt Aa ca p0.Cells] [] := St.init (ro_cons hR0 (ro_nil _ _))
 refine enter 40 Tryz.func77 rfl Tryz.ntmps77 rfl ?_
 unfold tile_Form at hf
 refine WC.seq (WC.region ?_)
 refine WL.new hS 1 [] (fun g => (pt g)) (.cells #[(iv p0.Width), (iv p0.Height), (sv Aa p0.Cells ca)] 49 (0, 0)) [] (fun fb g => by kernel_rfl) trivial (fun g1 w2 hS3 => ?_)
 refine ⟨trivial, ?_⟩
 refine sg 2 [] [1] [(1, (pt g1))] (by kernel_rfl) ?_
 refine WL.done rfl (WX.next (WC.seq (WC.region ?_)))
 refine seg 4 [.v (iv p0.Width)] [1, 6] [(1, (pt g1)), (6, (bv (decide (p0.Width ≥ 1))))] [.cell ⟨g1, 0, none⟩ (iv p0.Width)] (fun fb => by kernel_rfl) rfl ⟨hS3.cell 0 rfl 0 rfl, trivial⟩ ?_
 refine WL.cutV (T := Bool) 8 (fun t => [(10, (bv t)), (1, (pt g1))]) (fun t => ((decide (p0.Width ≥ 1)) && (decide (p0.Height ≥ 1))) = t) (fun K => ?_) ?_
 ·
  rcases Bool.eq_false_or_eq_true (decide (p0.Width ≥ 1)) with h4 | h4
  ·
   refine WL.setB 6 h4 rfl ?_
   refine seg 8 [.v (iv p0.Height)] [1, 10] [(1, (pt g1)), (10, (bv (decide (p0.Height ≥ 1))))] [.cell ⟨g1, 1, none⟩ (iv p0.Height)] (fun fb => by kernel_rfl) rfl ⟨hS3.cell 0 rfl 1 rfl, trivial⟩ ?_
   exact WL.toV K (decide (p0.Height ≥ 1)) [10, 1] rfl (by first | (rw [h4]; done) | (rw [h4]; rfl))
  refine WL.setB 6 h4 rfl ?_
  refine sg 8 [] [1, 10] [(1, (pt g1)), (10, (bv false))] (by kernel_rfl) ?_
  exact WL.toV K false [10, 1] rfl (by first | (rw [h4]; done) | (rw [h4]; rfl))
 rintro b5 rfl
 refine sg 9 [] [1, 11] [(1, (pt g1)), (11, (bv ((decide (p0.Width ≥ 1)) && (decide (p0.Height ≥ 1)))))] (by kernel_rfl) ?_
 refine WL.cutV (T := Bool) 13 (fun t => [(15, (bv t)), (1, (pt g1))]) (fun t => (((decide (p0.Width ≥ 1)) && (decide (p0.Height ≥ 1))) && (decide (p0.Width ≤ 40000))) = t) (fun K => ?_) ?_
 ·
  rcases Bool.eq_false_or_eq_true ((decide (p0.Width ≥ 1)) && (decide (p0.Height ≥ 1))) with h6 | h6
  ·
   refine WL.setB 11 h6 rfl ?_
   refine seg 13 [.v (iv p0.Width)] [1, 15] [(1, (pt g1)), (15, (bv (decide (p0.Width ≤ 40000))))] [.cell ⟨g1, 0, none⟩ (iv p0.Width)] (fun fb => by kernel_rfl) rfl ⟨hS3.cell 0 rfl 0 rfl, trivial⟩ ?_
   exact WL.toV K (decide (p0.Width ≤ 40000)) [15, 1] rfl (by first | (rw [h6]; done) | (rw [h6]; rfl))
  refine WL.setB 11 h6 rfl ?_
  refine sg 13 [] [1, 15] [(1, (pt g1)), (15, (bv false))] (by kernel_rfl) ?_
  exact WL.toV K false [15, 1] rfl (by first | (rw [h6]; done) | (rw [h6]; rfl))
 rintro b7 rfl
 refine sg 14 [] [1, 16] [(1, (pt g1)), (16, (bv (((decide (p0.Width ≥ 1)) && (decide (p0.Height ≥ 1))) && (decide (p0.Width ≤ 40000)))))] (by kernel_rfl) ?_
 refine WL.cutV (T := Bool) 18 (fun t => [(20, (bv t)), (1, (pt g1))]) (fun t => ((((decide (p0.Width ≥ 1)) && (decide (p0.Height ≥ 1))) && (decide (p0.Width ≤ 40000))) && (decide (p0.Height ≤ 40000))) = t) (fun K => ?_) ?_
 ·
  rcases Bool.eq_false_or_eq_true (((decide (p0.Width ≥ 1)) && (decide (p0.Height ≥ 1))) && (decide (p0.Width ≤ 40000))) with h8 | h8
  ·
   refine WL.setB 16 h8 rfl ?_
   refine seg 18 [.v (iv p0.Height)] [1, 20] [(1, (pt g1)), (20, (bv (decide (p0.Height ≤ 40000))))] [.cell ⟨g1, 1, none⟩ (iv p0.Height)] (fun fb => by kernel_rfl) rfl ⟨hS3.cell 0 rfl 1 rfl, trivial⟩ ?_
   exact WL.toV K (decide (p0.Height ≤ 40000)) [20, 1] rfl (by first | (rw [h8]; done) | (rw [h8]; rfl))
  refine WL.setB 16 h8 rfl ?_
  refine sg 18 [] [1, 20] [(1, (pt g1)), (20, (bv false))] (by kernel_rfl) ?_
  exact WL.toV K false [20, 1] rfl (by first | (rw [h8]; done) | (rw [h8]; rfl))
 rintro b9 rfl
 refine sg 19 [] [1, 21] [(1, (pt g1)), (21, (bv ((((decide (p0.Width ≥ 1)) && (decide (p0.Height ≥ 1))) && (decide (p0.Width ≤ 40000))) && (decide (p0.Height ≤ 40000)))))] (by kernel_rfl) ?_
 refine WL.cutV (T := Bool) 26 (fun t => [(28, (bv t)), (1, (pt g1))]) (fun t => (((((decide (p0.Width ≥ 1)) && (decide (p0.Height ≥ 1))) && (decide (p0.Width ≤ 40000))) && (decide (p0.Height ≤ 40000))) && (decide (w64 (p0.Width * p0.Height) ≤ 40000))) = t) (fun K => ?_) ?_
 ·
  rcases Bool.eq_false_or_eq_true ((((decide (p0.Width ≥ 1)) && (decide (p0.Height ≥ 1))) && (decide (p0.Width ≤ 40000))) && (decide (p0.Height ≤ 40000))) with h10 | h10
  ·
   refine WL.setB 21 h10 rfl ?_
   refine seg 26 [.v (iv p0.Width), .v (iv p0.Height)] [1, 28] [(1, (pt g1)), (28, (bv (decide (w64 (p0.Width * p0.Height) ≤ 40000))))] [.cell ⟨g1, 0, none⟩ (iv p0.Width), .cell ⟨g1, 1, none⟩ (iv p0.Height)] (fun fb => by kernel_rfl) rfl ⟨hS3.cell 0 rfl 0 rfl, hS3.cell 0 rfl 1 rfl, trivial⟩ ?_
   exact WL.toV K (decide (w64 (p0.Width * p0.Height) ≤ 40000)) [28, 1] rfl (by first | (rw [h10]; done) | (rw [h10]; rfl))
  refine WL.setB 21 h10 rfl ?_
  refine sg 26 [] [1, 28] [(1, (pt g1)), (28, (bv false))] (by kernel_rfl) ?_
  exact WL.toV K false [28, 1] rfl (by first | (rw [h10]; done) | (rw [h10]; rfl))
 rintro b11 rfl
 refine sg 27 [] [1, 29] [(1, (pt g1)), (29, (bv (((((decide (p0.Width ≥ 1)) && (decide (p0.Height ≥ 1))) && (decide (p0.Width ≤ 40000))) && (decide (p0.Height ≤ 40000))) && (decide (w64 (p0.Width * p0.Height) ≤ 40000)))))] (by kernel_rfl) ?_
 let e1 := p0.Width * p0.Height
 refine WL.cutV (T := Bool) 37 (fun t => [(39, (bv t))]) (fun t => ((((((decide (p0.Width ≥ 1)) && (decide (p0.Height ≥ 1))) && (decide (p0.Width ≤ 40000))) && (decide (p0.Height ≤ 40000))) && (decide (w64 e1 ≤ 40000))) && ((p0.Cells.length : Int) == (w64 e1))) = t) (fun K => ?_) ?_
 ·
  rcases Bool.eq_false_or_eq_true (((((decide (p0.Width ≥ 1)) && (decide (p0.Height ≥ 1))) && (decide (p0.Width ≤ 40000))) && (decide (p0.Height ≤ 40000))) && (decide (w64 e1 ≤ 40000))) with h12 | h12
  ·
   refine WL.setB 29 h12 rfl ?_
   refine seg 37 [.v (sv Aa p0.Cells ca), .v (iv p0.Width), .v (iv p0.Height)] [39] [(39, (bv ((p0.Cells.length : Int) == (w64 e1))))] [.cell ⟨g1, 2, none⟩ (sv Aa p0.Cells ca), .cell ⟨g1, 0, none⟩ (iv p0.Width), .cell ⟨g1, 1, none⟩ (iv p0.Height)] (fun fb => by kernel_rfl) rfl ⟨hS3.cell 0 rfl 2 rfl, hS3.cell 0 rfl 0 rfl, hS3.cell 0 rfl 1 rfl, trivial⟩ ?_
   exact WL.toV K ((p0.Cells.length : Int) == (w64 (p0.Width * p0.Height))) [39] rfl (by first | (rw [h12]; done) | (rw [h12]; rfl))
  refine WL.setB 29 h12 rfl ?_
  refine sg 37 [] [39] [(39, (bv false))] (by kernel_rfl) ?_
  exact WL.toV K false [39] rfl (by first | (rw [h12]; done) | (rw [h12]; rfl))
 rintro b13 rfl
 refine sg 38 [] [2] [(2, (bv ((((((decide (p0.Width ≥ 1)) && (decide (p0.Height ≥ 1))) && (decide (p0.Width ≤ 40000))) && (decide (p0.Height ≤ 40000))) && (decide (w64 e1 ≤ 40000))) && ((p0.Cells.length : Int) == (w64 e1)))))] (by kernel_rfl) ?_
 refine WL.done rfl (WX.next ?_)
 refine WC.ret ?_
 injection hf with hf
 subst hf
 exact WX.ret_ [] (bv ((((((decide (p0.Width ≥ 1)) && (decide (p0.Height ≥ 1))) && (decide (p0.Width ≤ 40000))) && (decide (p0.Height ≤ 40000))) && (decide (w64 e1 ≤ 40000))) && ((p0.Cells.length : Int) == (w64 e1)))) [] (fun fb => by kernel_rfl) trivial ⟨_, rfl, rfl, hS3.keep⟩
theorem tile_of_1_calls (p0 : Int) (f0 : List Tile) (ga : Nat) (Aa : Option Addr) (ca : Nat) (r : Bool) (w : World) (hR0 : RO NoS w (blk ga (.cells #[(sv Aa f0 ca)] 22 (0, 0)))) (hR1 : RO NoS w (rowR enc_Tile Aa ca f0)) (hf : tile_of_1 p0 f0 = some r) :
  CallsR Tryz.prog 79 #[(iv p0), (pt ga)] w (fun v w' => v = (bv r) ∧ Keeps NoS w w') := by
 have hS : St NoS w w [blk ga (.cells #[(sv Aa f0 ca)] 22 (0, 0)), rowR enc_Tile Aa ca f0] [] := St.init (ro_cons hR0 (ro_cons hR1 (ro_nil _ _)))
 refine enter 12 Tryz.func79 rfl Tryz.ntmps79 rfl ?_
 unfold tile_of_1 at hf
 refine WC.seq (WC.region ?_)
 refine sg 1 [] [0, 1] [(0, (iv p0)), (1, (pt ga))] (by kernel_rfl) ?_
 refine WL.done rfl (WX.next (WC.seq (WC.region ?_)))
 refine sg 3 [] [0, 1, 6] [(0, (iv p0)), (1, (pt ga)), (6, (bv (decide (p0 < 0))))] (by kernel_rfl) ?_
 refine WL.cutV (T := Bool) 8 (fun t => [(11, (bv t))]) (fun t => ((decide (p0 < 0)) || (decide (p0 ≥ (f0.length : Int)))) = t) (fun K => ?_) ?_
 ·
  rcases Bool.eq_false_or_eq_true (decide (p0 < 0)) with h2 | h2
  ·
   refine WL.setB 6 h2 rfl ?_
   refine sg 8 [] [11] [(11, (bv true))] (by kernel_rfl) ?_
   exact WL.toV K true [11] rfl (by first | (rw [h2]; done) | (rw [h2]; rfl))
  refine WL.setB 6 h2 rfl ?_
  refine seg 8 [.v (sv Aa f0 ca)] [11] [(11, (bv (decide (p0 ≥ (f0.length : Int)))))] [.cell ⟨ga, 0, none⟩ (sv Aa f0 ca)] (fun fb => by kernel_rfl) rfl ⟨blk_cell (hS.rd 0).1 0 rfl, trivial⟩ ?_
  exact WL.toV K (decide (p0 ≥ (f0.length : Int))) [11] rfl (by first | (rw [h2]; done) | (rw [h2]; rfl))
 rintro b3 rfl
 refine sg 9 [] [3] [(3, (bv ((decide (p0 < 0)) || (decide (p0 ≥ (f0.length : Int))))))] (by kernel_rfl) ?_
 refine WL.done rfl (WX.next ?_)
 refine WC.ret ?_
 injection hf with hf
 subst hf
 exact WX.ret_ [] (bv ((decide (p0 < 0)) || (decide (p0 ≥ (f0.length : Int))))) [] (fun fb => by kernel_rfl) trivial ⟨_, rfl, rfl, hS.keep⟩
theorem slices_IndexFunc_int_int_with_tile_of_1_calls (k : Nat) (p0 : List Int) (p1_0 : List Tile) (Aa : Option Addr) (ca : Nat) (ga : Nat) (Ab : Option Addr) (cb : Nat) (r : Int) (w : World) (hR0 : RO NoS w (rowR encInt Aa ca p0)) (hR1 : RO NoS w (blk ga (.cells #[(sv Ab p1_0 cb)] 22 (0, 0)))) (hR2 : RO NoS w (rowR enc_Tile Ab cb p1_0)) (hf : slices_IndexFunc_int_int_with_tile_of_1 k p0 p1_0 = some r) :
  CallsR Tryz.prog 91 #[(sv Aa p0 ca), (.func (.func 79) #[] #[(pt ga)])] w (fun v w' => v = (iv r) ∧ Keeps NoS w w') := by
 have hS : St NoS w w [rowR encInt Aa ca p0, blk ga (.cells #[(sv Ab p1_0 cb)] 22 (0, 0)), rowR enc_Tile Ab cb p1_0] [] := St.init (ro_cons hR0 (ro_cons hR1 (ro_cons hR2 (ro_nil _ _))))
 refine enter 19 Tryz.func91 rfl Tryz.ntmps91 rfl ?_
 unfold slices_IndexFunc_int_int_with_tile_of_1 at hf
 refine WC.seq (WC.region ?_)
 refine sg 1 [] [0, 1] [(0, (sv Aa p0 ca)), (1, (.func (.func 79) #[] #[(pt ga)]))] (by kernel_rfl) ?_
 refine WL.done rfl (WX.next (WC.seq (WC.seq (WC.region ?_))))
 refine sg 3 [] [0, 1, 7, 8] [(0, (sv Aa p0 ca)), (1, (.func (.func 79) #[] #[(pt ga)])), (7, (iv (p0.length : Int))), (8, (iv 0))] (by kernel_rfl) ?_
 refine WL.done rfl (WX.next ?_)
 obtain ⟨x4, hx5, hf⟩ := bind_some hf
 let e1 : Nat × Value := (7, (iv (p0.length : Int)))
 let e2 : Nat × Value := (0, (sv Aa p0 ca))
 refine WC.cutN (T := Unit) (fun t => []) (fun t w1 => St NoS w w1 [rowR encInt Aa ca p0, blk ga (.cells #[(sv Ab p1_0 cb)] 22 (0, 0)), rowR enc_Tile Ab cb p1_0] [] ∧ x4 = .inr t) (fun Kx4 => ?_) ?_
 ·
  refine WC.block ?_
  refine WC.loop (T := Int) (fun t => [e2, (1, (.func (.func 79) #[] #[(pt ga)])), e1, (8, (iv t))]) (fun n t w1 => St NoS w w1 [rowR encInt Aa ca p0, blk ga (.cells #[(sv Ab p1_0 cb)] 22 (0, 0)), rowR enc_Tile Ab cb p1_0] [] ∧ slices_IndexFunc_int_int_with_tile_of_1.l0 n t p0 p1_0 = some x4) k 0 [0, 1, 7, 8] rfl ⟨(hS.subR [0, 1, 2]).sub [] (by decide), hx5⟩ ?_
  rintro k6 x3 w7 ⟨hS8, hl9⟩
  cases k6 with
  | zero => rw [slices_IndexFunc_int_int_with_tile_of_1.l0] at hl9; cases hl9
  | succ k6 =>
   rw [slices_IndexFunc_int_int_with_tile_of_1.l0] at hl9
   refine WC.seq (WC.region ?_)
   refine sg 1 [] [0, 1, 7, 8, 9] [e2, (1, (.func (.func 79) #[] #[(pt ga)])), e1, (8, (iv x3)), (9, (bv (decide (x3 < (p0.length : Int)))))] (by kernel_rfl) ?_
   refine WL.done rfl (WX.next (WC.seq ?_))
   rcases br_some hl9 with ⟨h10, hl9⟩ | ⟨h10, hl9⟩
   ·refine WC.condT2 (fun fb => by kernel_rfl) h10 ?_
    refine WC.skip (WX.next (WC.seq (WC.block (WC.seq (WC.region ?_)))))
    refine sg 2 [] [0, 1, 5, 7, 8] [e2, (1, (.func (.func 79) #[] #[(pt ga)])), (5, (iv x3)), e1, (8, (iv x3))] (by kernel_rfl) ?_
    refine WL.done rfl (WX.next (WC.seq (WC.region ?_)))
    refine sg 3 [] [0, 1, 5, 7, 8, 11, 12, 13] [e2, (1, (.func (.func 79) #[] #[(pt ga)])), (5, (iv x3)), e1, (8, (iv x3)), (11, (.func (.func 79) #[] #[(pt ga)])), (12, (sv Aa p0 ca)), (13, (iv x3))] (by kernel_rfl) ?_
    obtain ⟨h11, hl9⟩ := as_some hl9
    refine seg 5 [.v (iv (rdD p0 x3 0))] [0, 1, 5, 7, 8, 11, 15] [e2, (1, (.func (.func 79) #[] #[(pt ga)])), (5, (iv x3)), e1, (8, (iv x3)), (11, (.func (.func 79) #[] #[(pt ga)])), (15, (iv (rdD p0 x3 0)))] [.idx Aa x3 p0.length, .cell ((adr Aa).add ((x3).toNat * 1)) (iv (rdD p0 x3 0))] (fun fb => by kernel_rfl) rfl ⟨rowR.adr (hS8.rd 0).1 h11.1 h11.2, rowR.cell (hS8.rd 0).1 0 h11.1 h11.2 0 rfl, trivial⟩ ?_
    obtain ⟨t12, ht13, hl9⟩ := bind_some hl9
    refine WL.call (some 16) 79 #[(iv (rdD p0 x3 0)), (pt ga)] (fun fb => by kernel_rfl) (tile_of_1_calls (rdD p0 x3 0) p1_0 ga Ab cb t12 _ (hS8.rd 1) (hS8.rd 2) ht13) (fun v w14 hR15 => ?_)
    obtain ⟨rfl, hk_⟩ := hR15
    have hS16 := hS8.keepN hk_
    refine ⟨trivial, ?_⟩
    refine WL.done rfl (WX.next ?_)
    rcases br_some hl9 with ⟨h17, hl9⟩ | ⟨h17, hl9⟩
    ·refine WC.condT2 (fun fb => by kernel_rfl) h17 ?_
     refine WC.seq (WC.region ?_)
     refine sg 2 [] [4] [(4, (iv x3))] (by kernel_rfl) ?_
     refine WL.done rfl (WX.next ?_)
     refine WC.ret ?_
     injection hl9 with hl9
     subst hl9
     injection hf with hf
     subst hf
     exact WX.blockR (WX.thenR (WX.thenR (WX.blockR (WX.thenR (WX.ret_ [] (iv x3) [] (fun fb => by kernel_rfl) trivial ⟨_, rfl, rfl, hS16.keep⟩)))))
    refine WC.condF2 (fun fb => by kernel_rfl) h17 ?_
    refine WC.skip ?_
    refine WX.blockN (WX.next ?_)
    refine WC.region ?_
    refine sg 2 [] [0, 1, 7, 8] [e2, (1, (.func (.func 79) #[] #[(pt ga)])), e1, (8, (iv (w64 (x3 + 1))))] (by kernel_rfl) ?_
    refine WL.done rfl ?_
    exact WX.again k6 (Nat.lt_succ_self _) (w64 (x3 + 1)) [0, 1, 7, 8] rfl ⟨(hS16.subR [0, 1, 2]).sub [] (by decide), hl9⟩
   refine WC.condF2 (fun fb => by kernel_rfl) h10 ?_
   refine WC.exit ?_
   injection hl9 with hl9
   exact WX.thenX (WX.thenX (WX.blockHere (WX.to Kx4 () [] rfl ⟨(hS8.subR [0, 1, 2]).sub [] (by decide), hl9.symm⟩)))
 rintro y21 w18 ⟨hS19, hq20⟩
 subst hq20
 have hf := sum_inr hf
 refine WX.next (WC.seq (WC.region ?_))
 refine sg 1 [] [4] [(4, (iv (-1)))] (by kernel_rfl) ?_
 refine WL.done rfl (WX.next ?_)
 refine WC.ret ?_
 injection hf with hf
 subst hf
 exact WX.ret_ [] (iv (-1)) [] (fun fb => by kernel_rfl) trivial ⟨_, rfl, rfl, hS19.keep⟩
theorem slices_ContainsFunc_int_int_with_tile_of_1_calls (k : Nat) (p0 : List Int) (p1_0 : List Tile) (Aa : Option Addr) (ca : Nat) (ga : Nat) (Ab : Option Addr) (cb : Nat) (r : Bool) (w : World) (hR0 : RO NoS w (rowR encInt Aa ca p0)) (hR1 : RO NoS w (blk ga (.cells #[(sv Ab p1_0 cb)] 22 (0, 0)))) (hR2 : RO NoS w (rowR enc_Tile Ab cb p1_0)) (hf : slices_ContainsFunc_int_int_with_tile_of_1 k p0 p1_0 = some r) :
  CallsR Tryz.prog 78 #[(sv Aa p0 ca), (.func (.func 79) #[] #[(pt ga)])] w (fun v w' => v = (bv r) ∧ Keeps NoS w w') := by
 have hS : St NoS w w [rowR encInt Aa ca p0, blk ga (.cells #[(sv Ab p1_0 cb)] 22 (0, 0)), rowR enc_Tile Ab cb p1_0] [] := St.init (ro_cons hR0 (ro_cons hR1 (ro_cons hR2 (ro_nil _ _))))
 refine enter 9 Tryz.func78 rfl Tryz.ntmps78 rfl ?_
 unfold slices_ContainsFunc_int_int_with_tile_of_1 at hf
 refine WC.seq (WC.region ?_)
 refine sg 1 [] [0, 1] [(0, (sv Aa p0 ca)), (1, (.func (.func 79) #[] #[(pt ga)]))] (by kernel_rfl) ?_
 refine WL.done rfl (WX.next (WC.seq (WC.region ?_)))
 refine sg 2 [] [5, 6] [(5, (sv Aa p0 ca)), (6, (.func (.func 79) #[] #[(pt ga)]))] (by kernel_rfl) ?_
 obtain ⟨t3, ht4, hf⟩ := bind_some hf
 refine WL.call (some 7) 91 #[(sv Aa p0 ca), (.func (.func 79) #[] #[(pt ga)])] (fun fb => by kernel_rfl) (slices_IndexFunc_int_int_with_tile_of_1_calls _ p0 p1_0 Aa ca ga Ab cb t3 _ (hS.rd 0) (hS.rd 1) (hS.rd 2) ht4) (fun v w5 hR6 => ?_)
 obtain ⟨rfl, hk_⟩ := hR6
 have hS7 := hS.keepN hk_
 refine ⟨trivial, ?_⟩
 refine sg 5 [] [4] [(4, (bv (decide (t3 ≥ 0))))] (by kernel_rfl) ?_
 refine WL.done rfl (WX.next ?_)
 refine WC.ret ?_
 injection hf with hf
 subst hf
 exact WX.ret_ [] (bv (decide (t3 ≥ 0))) [] (fun fb => by kernel_rfl) trivial ⟨_, rfl, rfl, hS7.keep⟩
theorem tile_of_calls (k : Nat) (p0 : List Tile) (p1 : Pattern) (Aa : Option Addr) (ca : Nat) (Ab : Option Addr) (cb : Nat) (r : Bool) (w : World) (hR0 : RO NoS w (rowR enc_Tile Aa ca p0)) (hR1 : RO NoS w (rowR encInt Ab cb p1.Cells)) (hf : tile_of k p0 p1 = some r) :
  CallsR Tryz.prog 58 #[(sv Aa p0 ca), (.agg #[(iv p1.Width), (iv p1.Height), (sv Ab p1.Cells cb)])] w (fun v w' => v = (bv r) ∧ Keeps NoS w w') := by
 have hS : St NoS w w [rowR enc_Tile Aa ca p0, rowR encInt Ab cb p1.Cells] [] := St.init (ro_cons hR0 (ro_cons hR1 (ro_nil _ _)))
 refine enter 18 Tryz.func58 rfl Tryz.ntmps58 rfl ?_
 unfold tile_of at hf
 refine WC.seq (WC.region ?_)
 refine WL.new hS 2 [] (fun g => (pt g)) (.cells #[(sv Aa p0 ca)] 22 (0, 0)) [] (fun fb g => by kernel_rfl) trivial (fun g2 w3 hS4 => ?_)
 refine ⟨trivial, ?_⟩
 refine WL.new hS4 3 [] (fun g => (pt g)) (.cells #[(iv p1.Width), (iv p1.Height), (sv Ab p1.Cells cb)] 49 (0, 0)) [] (fun fb g => by kernel_rfl) trivial (fun g5 w6 hS7 => ?_)
 refine ⟨trivial, ?_⟩
 refine sg 3 [] [2, 3] [(2, (pt g2)), (3, (pt g5))] (by kernel_rfl) ?_
 refine WL.done rfl (WX.next (WC.seq (WC.region ?_)))
 refine seg 1 [.v (sv Aa p0 ca)] [2, 3, 5] [(2, (pt g2)), (3, (pt g5)), (5, (sv Aa p0 ca))] [.cell ⟨g2, 0, none⟩ (sv Aa p0 ca)] (fun fb => by kernel_rfl) rfl ⟨hS7.cell 1 rfl 0 rfl, trivial⟩ ?_
 obtain ⟨t8, ht9, hf⟩ := bind_some hf
 refine WL.call (some 6) 37 #[(sv Aa p0 ca)] (fun fb => by kernel_rfl) (tile_Valid_calls _ p0 Aa ca t8 _ (hS7.rd 0) ht9) (fun v w10 hR11 => ?_)
 obtain ⟨rfl, hk_⟩ := hR11
 have hS12 := hS7.keepN hk_
 refine ⟨trivial, ?_⟩
 refine sg 3 [] [2, 3, 7] [(2, (pt g2)), (3, (pt g5)), (7, (bv t8))] (by kernel_rfl) ?_
 obtain ⟨x13, hx14, hf⟩ := bind_some hf
 let e1 : Array Value := #[(iv p1.Width), (iv p1.Height), (sv Ab p1.Cells cb)]
 refine WL.cutW (T := Bool) 6 (fun t => [(2, (pt g2)), (3, (pt g5)), (10, (bv t))]) (fun t w1 => (St NoS w w1 [rowR enc_Tile Aa ca p0, rowR encInt Ab cb p1.Cells] [blk g2 (.cells #[(sv Aa p0 ca)] 22 (0, 0)), blk g5 (.cells e1 49 (0, 0))] ∧ x13 = t) ∧ CellsOK [] w1) (fun K => ?_) ?_
 ·
  rcases br_some hx14 with ⟨h15, hx14⟩ | ⟨h15, hx14⟩
  ·
   refine WL.setB 7 h15 rfl ?_
   refine seg 4 [.v (iv p1.Width), .v (iv p1.Height), .v (sv Ab p1.Cells cb)] [2, 3, 7, 8] [(2, (pt g2)), (3, (pt g5)), (7, (bv true)), (8, (.agg e1))] [.cell ⟨g5, 0, none⟩ (iv p1.Width), .cell ⟨g5, 1, none⟩ (iv p1.Height), .cell ⟨g5, 2, none⟩ (sv Ab p1.Cells cb)] (fun fb => by kernel_rfl) rfl ⟨hS12.cell 0 rfl 0 rfl, hS12.cell 0 rfl 1 rfl, hS12.cell 0 rfl 2 rfl, trivial⟩ ?_
   obtain ⟨t16, ht17, hx14⟩ := bind_some hx14
   refine WL.call (some 9) 77 #[(.agg e1)] (fun fb => by kernel_rfl) (tile_Form_calls p1 Ab cb t16 _ (hS12.rd 1) ht17) (fun v w18 hR19 => ?_)
   obtain ⟨rfl, hk_⟩ := hR19
   have hS20 := hS12.keepN hk_
   refine ⟨trivial, ?_⟩
   refine sg 6 [] [2, 3, 10] [(2, (pt g2)), (3, (pt g5)), (10, (bv t16))] (by kernel_rfl) ?_
   injection hx14 with hx14
   exact WL.to K t16 [2, 3, 10] rfl ⟨⟨(hS20.subR [0, 1]).sub [1, 0] (by decide), hx14.symm⟩, trivial⟩
  refine WL.setB 7 h15 rfl ?_
  refine sg 6 [] [2, 3, 10] [(2, (pt g2)), (3, (pt g5)), (10, (bv false))] (by kernel_rfl) ?_
  injection hx14 with hx14
  exact WL.to K false [2, 3, 10] rfl ⟨⟨(hS12.subR [0, 1]).sub [1, 0] (by decide), hx14.symm⟩, trivial⟩
 rintro y21 w23 ⟨⟨hS24, hq22⟩, hF25⟩
 subst hq22
 refine sg 7 [] [2, 3, 11] [(2, (pt g2)), (3, (pt g5)), (11, (bv x13))] (by kernel_rfl) ?_
 obtain ⟨x26, hx27, hf⟩ := bind_some hf
 refine WL.cutW (T := Bool) 13 (fun t => [(17, (bv t))]) (fun t w1 => (St NoS w w1 [rowR enc_Tile Aa ca p0, rowR encInt Ab cb p1.Cells] [] ∧ x26 = t) ∧ CellsOK [] w1) (fun K => ?_) ?_
 ·
  rcases br_some hx27 with ⟨h28, hx27⟩ | ⟨h28, hx27⟩
  ·
   refine WL.setB 11 h28 rfl ?_
   refine seg 10 [.v (sv Ab p1.Cells cb)] [11, 13, 14] [(11, (bv true)), (13, (sv Ab p1.Cells cb)), (14, (.func (.func 79) #[] #[(pt g2)]))] [.cell ⟨g5, 2, none⟩ (sv Ab p1.Cells cb)] (fun fb => by kernel_rfl) rfl ⟨hS24.cell 1 rfl 2 rfl, trivial⟩ ?_
   obtain ⟨t29, ht30, hx27⟩ := bind_some hx27
   refine WL.call (some 15) 78 #[(sv Ab p1.Cells cb), (.func (.func 79) #[] #[(pt g2)])] (fun fb => by kernel_rfl) (slices_ContainsFunc_int_int_with_tile_of_1_calls _ p1.Cells p0 Ab cb g2 Aa ca t29 _ (hS24.rd 1) (hS24.ow 0) (hS24.rd 0) ht30) (fun v w31 hR32 => ?_)
   obtain ⟨rfl, hk_⟩ := hR32
   have hS33 := hS24.keepN hk_
   refine ⟨trivial, ?_⟩
   refine sg 13 [] [17] [(17, (bv (!t29)))] (by kernel_rfl) ?_
   injection hx27 with hx27
   exact WL.to K (!t29) [17] rfl ⟨⟨(hS33.subR [0, 1]).sub [] (by decide), hx27.symm⟩, trivial⟩
  refine WL.setB 11 h28 rfl ?_
  refine sg 13 [] [17] [(17, (bv false))] (by kernel_rfl) ?_
  injection hx27 with hx27
  exact WL.to K false [17] rfl ⟨⟨(hS24.subR [0, 1]).sub [] (by decide), hx27.symm⟩, trivial⟩
 rintro y34 w36 ⟨⟨hS37, hq35⟩, hF38⟩
 subst hq35
 refine sg 14 [] [4] [(4, (bv x26))] (by kernel_rfl) ?_
 refine WL.done rfl (WX.next ?_)
 refine WC.ret ?_
 injection hf with hf
 subst hf
 exact WX.ret_ [] (bv x26) [] (fun fb => by kernel_rfl) trivial ⟨_, rfl, rfl, hS37.keep⟩
theorem tile_joins_calls (k : Nat) (p0 : List Tile) (p1 : Pattern) (p2 : Bool) (Aa : Option Addr) (ca : Nat) (Ab : Option Addr) (cb : Nat) (r : Bool) (w : World) (hR0 : RO NoS w (rowR enc_Tile Aa ca p0)) (hR1 : RO NoS w (rowR encInt Ab cb p1.Cells)) (hf : tile_joins k p0 p1 p2 = some r) :
  CallsR Tryz.prog 59 #[(sv Aa p0 ca), (.agg #[(iv p1.Width), (iv p1.Height), (sv Ab p1.Cells cb)]), (bv p2)] w (fun v w' => v = (bv r) ∧ Keeps NoS w w') := by
 have hS : St NoS w w [rowR enc_Tile Aa ca p0, rowR encInt Ab cb p1.Cells] [] := St.init (ro_cons hR0 (ro_cons hR1 (ro_nil _ _)))
 refine enter 92 Tryz.func59 rfl Tryz.ntmps59 rfl ?_
 unfold tile_joins at hf
 refine WC.seq (WC.region ?_)
 refine WL.new hS 4 [] (fun g => (pt g)) (.cells #[(iv p1.Width), (iv p1.Height), (sv Ab p1.Cells cb)] 49 (0, 0)) [] (fun fb g => by kernel_rfl) trivial (fun g3 w4 hS5 => ?_)
 refine ⟨trivial, ?_⟩
 refine sg 2 [] [0, 2, 4] [(0, (sv Aa p0 ca)), (2, (bv p2)), (4, (pt g3))] (by kernel_rfl) ?_
 refine WL.done rfl (WX.next (WC.seq (WC.seq (WC.region ?_))))
 refine seg 4 [.v (sv Ab p1.Cells cb)] [0, 2, 4, 12, 13, 14] [(0, (sv Aa p0 ca)), (2, (bv p2)), (4, (pt g3)), (12, (sv Ab p1.Cells cb)), (13, (iv (p1.Cells.length : Int))), (14, (iv 0))] [.cell ⟨g3, 2, none⟩ (sv Ab p1.Cells cb)] (fun fb => by kernel_rfl) rfl ⟨hS5.cell 0 rfl 2 rfl, trivial⟩ ?_
 refine WL.done rfl (WX.next ?_)
 obtain ⟨x7, hx8, hf⟩ := bind_some hf
 let e3 : Nat × Value := (13, (iv (p1.Cells.length : Int)))
 let e5 := sv Ab p1.Cells cb
 let e10 : Nat × Value := (0, (sv Aa p0 ca))
 let e11 : List Nat := [0, 1, 2, 3, 4, 5, 6, 7, 8, 9, 10, 11, 12, 13, 14, 15, 16, 17, 18, 19, 20, 21, 22, 23]
 let e12 := iv p1.Width
 let e13 : Nat × Value := (2, (bv p2))
 let e14 : Nat × Value := (4, (pt g3))
 let e16 : List Own := [rowR enc_Tile Aa ca p0, rowR encInt Ab cb p1.Cells]
 let e18 : List Nat := [0, 1, 2, 3, 4, 5, 6, 7, 8, 9, 10, 11, 12, 13, 14, 15, 16, 17, 18, 19, 20, 21, 22]
 let e21 : List Nat := [0, 2, 4, 12, 13, 14]
 let e22 := iv p1.Height
 let e23 : List Nat := [5, 6, 7, 8, 9, 10, 11, 12, 13, 14, 15, 16, 17, 18, 19, 20, 21]
 let e24 : List Nat := [0, 2, 4, 8, 9, 10, 12, 13, 14]
 let e25 : List Nat := [5, 6, 7, 8, 9, 10, 11, 12, 13, 14, 15, 16, 17, 18, 19, 20]
 let e26 : List (Nat × Addr × Value) := [(2, ⟨g3, 0, none⟩, e12), (6, ⟨g3, 0, none⟩, e12)]
 let e27 : List Nat := [5, 6, 7, 8, 9, 10, 11, 12, 13, 14, 15, 16, 17, 18, 19]
 refine WC.cutN (T := Unit) (fun t => []) (fun t w1 => St NoS w w1 e16 [] ∧ x7 = .inr t) (fun Kx7 => ?_) ?_
 ·
  refine WC.block ?_
  refine WC.loop (T := Int) (fun t => [e10, e13, e14, (12, e5), e3, (14, (iv t))]) (fun n t w1 => St NoS w w1 e16 [blk g3 (.cells #[e12, e22, e5] 49 (0, 0))] ∧ tile_joins.l0 n t p0 p1 p2 = some x7) k 0 e21 rfl ⟨(hS5.subR [0, 1]).sub [0] (by decide), hx8⟩ ?_
  rintro k9 x6 w10 ⟨hS11, hl12⟩
  let e4 := rdD p1.Cells x6 0
  let e8 : Nat × Value := (9, (iv (Int.tmod x6 p1.Width)))
  let e9 := Int.tdiv x6 p1.Width
  let e15 : Nat × Value := (14, (iv x6))
  let e17 : Nat × Value := (8, (iv e4))
  let e19 := Int.tmod x6 p1.Width
  let e20 := rdD p0 e4 z_Tile
  cases k9 with
  | zero => rw [tile_joins.l0] at hl12; cases hl12
  | succ k9 =>
   rw [tile_joins.l0] at hl12
   refine WC.seq (WC.region ?_)
   refine sg 1 [] [0, 2, 4, 12, 13, 14, 15] [e10, e13, e14, (12, e5), e3, e15, (15, (bv (decide (x6 < (p1.Cells.length : Int)))))] (by kernel_rfl) ?_
   refine WL.done rfl (WX.next (WC.seq ?_))
   rcases br_some hl12 with ⟨h13, hl12⟩ | ⟨h13, hl12⟩
   ·refine WC.condT2 (fun fb => by kernel_rfl) h13 ?_
    refine WC.skip (WX.next (WC.seq (WC.block (WC.seq (WC.region ?_)))))
    refine sg 1 [] [0, 2, 4, 12, 13, 14, 16] [e10, e13, e14, (12, e5), e3, e15, (16, (iv x6))] (by kernel_rfl) ?_
    obtain ⟨h14, hl12⟩ := as_some hl12
    refine seg 5 [.v (iv e4)] [0, 2, 4, 7, 8, 12, 13, 14] [e10, e13, e14, (7, (iv x6)), e17, (12, e5), e3, e15] [.idx Ab x6 p1.Cells.length, .cell ((adr Ab).add ((x6).toNat * 1)) (iv e4)] (fun fb => by kernel_rfl) rfl ⟨rowR.adr (hS11.rd 1).1 h14.1 h14.2, rowR.cell (hS11.rd 1).1 0 h14.1 h14.2 0 rfl, trivial⟩ ?_
    refine WL.done rfl (WX.next (WC.seq ?_))
    obtain ⟨h17, hl12⟩ := as_some hl12
    refine WC.regionD (e26, [0, 1, 2, 3, 4, 5, 6, 7, 8, 9], [[], [], [1], [0, 1, 2], [], [], [5], [4, 5, 6], [0, 1, 2, 3], [0, 1, 2, 3, 4, 5, 6, 7, 8]]) [[0, 1, 2, 3, 4, 5, 6, 7, 8, 9]] (by kernel_rfl) (by kernel_rfl) (NoPanic.seq (NoPanic.block (NoPanic.seq (NoPanic.seq (NoPanic.block (NoPanic.seq (NoPanic.body))))))) ?_
    have hS16 := hS11.drew
    revert hS16
    generalize World.drew w10 = w15
    intro hS16
    refine ⟨⟨hS16.cell 0 rfl 0 rfl, hS16.cell 0 rfl 0 rfl, trivial⟩, forallC ?_ (forallN)⟩
    refine segF 10 [.v e12, .v e12] e24 [e10, e13, e14, e17, e8, (10, (iv (w64 e9))), (12, e5), e3, e15] [.ne p1.Width, .ne p1.Width] [0, 1] e26 (fun fb => by kernel_rfl) rfl ⟨h17, h17, trivial⟩ rfl ?_
    refine WL.done rfl (WX.next (WC.seq (WC.seq (WC.region ?_))))
    refine seg 6 [.v e12] [0, 2, 4, 8, 9, 10, 12, 13, 14, 32] [e10, e13, e14, e17, e8, (10, (iv (w64 e9))), (12, e5), e3, e15, (32, (bv (decide (w64 (e19 + 1) < p1.Width))))] [.cell ⟨g3, 0, none⟩ e12] (fun fb => by kernel_rfl) rfl ⟨hS16.cell 0 rfl 0 rfl, trivial⟩ ?_
    refine WL.cutV (T := Bool) 8 (fun t => [(34, (bv t)), e10, e13, e14, e17, e8, (10, (iv (w64 e9))), (12, e5), e3, e15]) (fun t => ((decide (w64 (e19 + 1) < p1.Width)) || p2) = t) (fun K => ?_) ?_
    ·
     rcases Bool.eq_false_or_eq_true (decide (w64 (e19 + 1) < p1.Width)) with h18 | h18
     ·
      refine WL.setB 32 h18 rfl ?_
      refine sg 8 [] [0, 2, 4, 8, 9, 10, 12, 13, 14, 34] [e10, e13, e14, e17, e8, (10, (iv (w64 e9))), (12, e5), e3, e15, (34, (bv true))] (by kernel_rfl) ?_
      exact WL.toV K true [34, 0, 2, 4, 8, 9, 10, 12, 13, 14] rfl (by first | (rw [h18]; done) | (rw [h18]; rfl))
     refine WL.setB 32 h18 rfl ?_
     refine sg 8 [] [0, 2, 4, 8, 9, 10, 12, 13, 14, 34] [e10, e13, e14, e17, e8, (10, (iv (w64 e9))), (12, e5), e3, e15, (34, (bv p2))] (by kernel_rfl) ?_
     exact WL.toV K p2 [34, 0, 2, 4, 8, 9, 10, 12, 13, 14] rfl (by first | (rw [h18]; done) | (rw [h18]; rfl))
    rintro b19 rfl
    refine WL.done rfl (WX.next ?_)
    obtain ⟨x20, hx21, hl12⟩ := bind_some hl12
    let e2 := w64 ((w64 ((w64 e9) * p1.Width)) + (Int.tmod (w64 (e19 + 1)) p1.Width))
    let e6 : List (Nat × Addr × Value) := [(4, (((adr Aa).add ((e4).toNat * 4)).add 1), (iv (e20.E))), (7, ⟨g3, 2, none⟩, e5), (10, ⟨g3, 0, none⟩, e12), (15, ⟨g3, 0, none⟩, e12), (19, ((adr Ab).add (e2.toNat * 1)), (iv (rdD p1.Cells e2 0))), (22, (((adr Aa).add (((rdD p1.Cells e2 0)).toNat * 4)).add 3), (iv ((rdD p0 (rdD p1.Cells e2 0) z_Tile).W)))]
    refine WC.cutN (T := Unit) (fun t => [e10, e13, e14, e17, e8, (10, (iv (w64 e9))), (12, e5), e3, e15]) (fun t w1 => St NoS w w1 e16 [blk g3 (.cells #[e12, e22, e5] 49 (0, 0))] ∧ x20 = .inr t) (fun Kx20 => ?_) ?_
    ·
     rcases br_some hx21 with ⟨h22, hx21⟩ | ⟨h22, hx21⟩
     ·refine WC.condT2 (fun fb => by kernel_rfl) h22 ?_
      refine WC.seq ?_
      obtain ⟨h25, hx21⟩ := as_some hx21
      obtain ⟨h26, hx21⟩ := as_some hx21
      obtain ⟨h27, hx21⟩ := as_some hx21
      refine WC.regionD (e6, e11, [[], [], [0, 1], [0, 1, 2], [0, 1, 2, 3], [], [], [6], [], [], [9], [8, 9, 10], [], [12], [], [14], [12, 13, 14, 15], [8, 9, 10, 11, 12, 13, 14, 15, 16], [6, 7, 8, 9, 10, 11, 12, 13, 14, 15, 16, 17], [6, 7, 8, 9, 10, 11, 12, 13, 14, 15, 16, 17, 18], e27, e25, e23, e18]) [e11] (by kernel_rfl) (by kernel_rfl) (NoPanic.seq (NoPanic.seq (NoPanic.block (NoPanic.seq (NoPanic.seq (NoPanic.block (NoPanic.seq (NoPanic.body)))))))) ?_
      have hS24 := hS16.drew
      revert hS24
      generalize World.drew w15 = w23
      intro hS24
      refine ⟨⟨rowR.cell (hS24.rd 0).1 z_Tile h25.1 h25.2 1 rfl, hS24.cell 0 rfl 2 rfl, hS24.cell 0 rfl 0 rfl, hS24.cell 0 rfl 0 rfl, rowR.cell (hS24.rd 1).1 0 h26.1 h26.2 0 rfl, rowR.cell (hS24.rd 0).1 z_Tile h27.1 h27.2 3 rfl, trivial⟩, forallC ?_ (forallN)⟩
      refine segF 24 [.v (iv (e20.E)), .v e5, .v e12, .v e12, .v (iv (rdD p1.Cells e2 0)), .v (iv ((rdD p0 (rdD p1.Cells e2 0) z_Tile).W))] [0, 2, 4, 8, 9, 10, 12, 13, 14, 58] [e10, e13, e14, e17, e8, (10, (iv (w64 e9))), (12, e5), e3, e15, (58, (bv ((e20.E) != ((rdD p0 (rdD p1.Cells e2 0) z_Tile).W))))] [.idx Aa e4 p0.length, .ne p1.Width, .idx Ab e2 p1.Cells.length, .idx Aa (rdD p1.Cells e2 0) p0.length] [0, 1, 2, 3, 4, 5] e6 (fun fb => by kernel_rfl) rfl ⟨rowR.adr (hS24.rd 0).1 h25.1 h25.2, h17, rowR.adr (hS24.rd 1).1 h26.1 h26.2, rowR.adr (hS24.rd 0).1 h27.1 h27.2, trivial⟩ rfl ?_
      refine WL.done rfl (WX.next ?_)
      rcases br_some hx21 with ⟨h28, hx21⟩ | ⟨h28, hx21⟩
      ·refine WC.condT2 (fun fb => by kernel_rfl) h28 ?_
       refine WC.seq (WC.region ?_)
       refine sg 1 [] [6] [(6, (bv false))] (by kernel_rfl) ?_
       refine WL.done rfl (WX.next ?_)
       refine WC.ret ?_
       injection hx21 with hx21
       subst hx21
       injection hl12 with hl12
       subst hl12
       injection hf with hf
       subst hf
       exact WX.thenR (WX.blockR (WX.thenR (WX.thenR (WX.blockR (WX.thenR (WX.ret_ [] (bv false) [] (fun fb => by kernel_rfl) trivial ⟨_, rfl, rfl, hS24.keep⟩))))))
      refine WC.condF2 (fun fb => by kernel_rfl) h28 ?_
      refine WC.skip ?_
      injection hx21 with hx21
      exact WX.to Kx20 () e24 rfl ⟨(hS24.subR [0, 1]).sub [0] (by decide), hx21.symm⟩
     refine WC.condF2 (fun fb => by kernel_rfl) h22 ?_
     refine WC.skip ?_
     injection hx21 with hx21
     exact WX.to Kx20 () e24 rfl ⟨(hS16.subR [0, 1]).sub [0] (by decide), hx21.symm⟩
    rintro y32 w29 ⟨hS30, hq31⟩
    subst hq31
    have hl12 := sum_inr hl12
    refine WX.next (WC.seq (WC.region ?_))
    refine seg 6 [.v e22] [0, 2, 4, 8, 9, 10, 12, 13, 14, 64] [e10, e13, e14, e17, e8, (10, (iv (w64 e9))), (12, e5), e3, e15, (64, (bv (decide (w64 ((w64 e9) + 1) < p1.Height))))] [.cell ⟨g3, 1, none⟩ e22] (fun fb => by kernel_rfl) rfl ⟨hS30.cell 0 rfl 1 rfl, trivial⟩ ?_
    refine WL.cutV (T := Bool) 8 (fun t => [(66, (bv t)), e10, e13, e14, e17, e8, (10, (iv (w64 e9))), (12, e5), e3, e15]) (fun t => ((decide (w64 ((w64 e9) + 1) < p1.Height)) || p2) = t) (fun K => ?_) ?_
    ·
     rcases Bool.eq_false_or_eq_true (decide (w64 ((w64 e9) + 1) < p1.Height)) with h33 | h33
     ·
      refine WL.setB 64 h33 rfl ?_
      refine sg 8 [] [0, 2, 4, 8, 9, 10, 12, 13, 14, 66] [e10, e13, e14, e17, e8, (10, (iv (w64 e9))), (12, e5), e3, e15, (66, (bv true))] (by kernel_rfl) ?_
      exact WL.toV K true [66, 0, 2, 4, 8, 9, 10, 12, 13, 14] rfl (by first | (rw [h33]; done) | (rw [h33]; rfl))
     refine WL.setB 64 h33 rfl ?_
     refine sg 8 [] [0, 2, 4, 8, 9, 10, 12, 13, 14, 66] [e10, e13, e14, e17, e8, (10, (iv (w64 e9))), (12, e5), e3, e15, (66, (bv p2))] (by kernel_rfl) ?_
     exact WL.toV K p2 [66, 0, 2, 4, 8, 9, 10, 12, 13, 14] rfl (by first | (rw [h33]; done) | (rw [h33]; rfl))
    rintro b34 rfl
    refine WL.done rfl (WX.next ?_)
    obtain ⟨x35, hx36, hl12⟩ := bind_some hl12
    let e1 := w64 ((w64 ((Int.tmod (w64 ((w64 e9) + 1)) p1.Height) * p1.Width)) + e19)
    let e7 : List (Nat × Addr × Value) := [(4, ((adr Aa).add ((e4).toNat * 4)), (iv (e20.N))), (7, ⟨g3, 2, none⟩, e5), (11, ⟨g3, 1, none⟩, e22), (14, ⟨g3, 0, none⟩, e12), (19, ((adr Ab).add (e1.toNat * 1)), (iv (rdD p1.Cells e1 0))), (22, (((adr Aa).add (((rdD p1.Cells e1 0)).toNat * 4)).add 2), (iv ((rdD p0 (rdD p1.Cells e1 0) z_Tile).S)))]
    refine WC.cutN (T := Unit) (fun t => [e10, e13, e14, (12, e5), e3, e15]) (fun t w1 => St NoS w w1 e16 [blk g3 (.cells #[e12, e22, e5] 49 (0, 0))] ∧ x35 = .inr t) (fun Kx35 => ?_) ?_
    ·
     rcases br_some hx36 with ⟨h37, hx36⟩ | ⟨h37, hx36⟩
     ·refine WC.condT2 (fun fb => by kernel_rfl) h37 ?_
      refine WC.seq ?_
      obtain ⟨h40, hx36⟩ := as_some hx36
      obtain ⟨h41, hx36⟩ := as_some hx36
      obtain ⟨h42, hx36⟩ := as_some hx36
      obtain ⟨h43, hx36⟩ := as_some hx36
      refine WC.regionD (e7, e11, [[], [], [0, 1], [0, 1, 2], [0, 1, 2, 3], [], [], [6], [], [8], [], [10], [8, 9, 10, 11], [], [13], [8, 9, 10, 11, 12, 13, 14], [], [8, 9, 10, 11, 12, 13, 14, 15, 16], [6, 7, 8, 9, 10, 11, 12, 13, 14, 15, 16, 17], [6, 7, 8, 9, 10, 11, 12, 13, 14, 15, 16, 17, 18], e27, e25, e23, e18]) [e11] (by kernel_rfl) (by kernel_rfl) (NoPanic.seq (NoPanic.block (NoPanic.seq (NoPanic.seq (NoPanic.block (NoPanic.seq (NoPanic.body))))))) ?_
      have hS39 := hS30.drew
      revert hS39
      generalize World.drew w29 = w38
      intro hS39
      refine ⟨⟨rowR.cell (hS39.rd 0).1 z_Tile h40.1 h40.2 0 rfl, hS39.cell 0 rfl 2 rfl, hS39.cell 0 rfl 1 rfl, hS39.cell 0 rfl 0 rfl, rowR.cell (hS39.rd 1).1 0 h42.1 h42.2 0 rfl, rowR.cell (hS39.rd 0).1 z_Tile h43.1 h43.2 2 rfl, trivial⟩, forallC ?_ (forallN)⟩
      refine segF 24 [.v (iv (e20.N)), .v e5, .v e22, .v e12, .v (iv (rdD p1.Cells e1 0)), .v (iv ((rdD p0 (rdD p1.Cells e1 0) z_Tile).S))] [0, 2, 4, 12, 13, 14, 90] [e10, e13, e14, (12, e5), e3, e15, (90, (bv ((e20.N) != ((rdD p0 (rdD p1.Cells e1 0) z_Tile).S))))] [.idx Aa e4 p0.length, .ne p1.Height, .idx Ab e1 p1.Cells.length, .idx Aa (rdD p1.Cells e1 0) p0.length] [0, 1, 2, 3, 4, 5] e7 (fun fb => by kernel_rfl) rfl ⟨rowR.adr (hS39.rd 0).1 h40.1 h40.2, h41, rowR.adr (hS39.rd 1).1 h42.1 h42.2, rowR.adr (hS39.rd 0).1 h43.1 h43.2, trivial⟩ rfl ?_
      refine WL.done rfl (WX.next ?_)
      rcases br_some hx36 with ⟨h44, hx36⟩ | ⟨h44, hx36⟩
      ·refine WC.condT2 (fun fb => by kernel_rfl) h44 ?_
       refine WC.seq (WC.region ?_)
       refine sg 1 [] [6] [(6, (bv false))] (by kernel_rfl) ?_
       refine WL.done rfl (WX.next ?_)
       refine WC.ret ?_
       injection hx36 with hx36
       subst hx36
       injection hl12 with hl12
       subst hl12
       injection hf with hf
       subst hf
       exact WX.blockR (WX.thenR (WX.thenR (WX.blockR (WX.thenR (WX.ret_ [] (bv false) [] (fun fb => by kernel_rfl) trivial ⟨_, rfl, rfl, hS39.keep⟩)))))
      refine WC.condF2 (fun fb => by kernel_rfl) h44 ?_
      refine WC.skip ?_
      injection hx36 with hx36
      exact WX.to Kx35 () e21 rfl ⟨(hS39.subR [0, 1]).sub [0] (by decide), hx36.symm⟩
     refine WC.condF2 (fun fb => by kernel_rfl) h37 ?_
     refine WC.skip ?_
     injection hx36 with hx36
     exact WX.to Kx35 () e21 rfl ⟨(hS30.subR [0, 1]).sub [0] (by decide), hx36.symm⟩
    rintro y48 w45 ⟨hS46, hq47⟩
    subst hq47
    have hl12 := sum_inr hl12
    refine WX.blockN (WX.next ?_)
    refine WC.region ?_
    refine sg 2 [] e21 [e10, e13, e14, (12, e5), e3, (14, (iv (w64 (x6 + 1))))] (by kernel_rfl) ?_
    refine WL.done rfl ?_
    exact WX.again k9 (Nat.lt_succ_self _) (w64 (x6 + 1)) e21 rfl ⟨(hS46.subR [0, 1]).sub [0] (by decide), hl12⟩
   refine WC.condF2 (fun fb => by kernel_rfl) h13 ?_
   refine WC.exit ?_
   injection hl12 with hl12
   exact WX.thenX (WX.thenX (WX.blockHere (WX.to Kx7 () [] rfl ⟨(hS11.subR [0, 1]).sub [] (by decide), hl12.symm⟩)))
 rintro y52 w49 ⟨hS50, hq51⟩
 subst hq51
 have hf := sum_inr hf
 refine WX.next (WC.seq (WC.region ?_))
 refine sg 1 [] [6] [(6, (bv true))] (by kernel_rfl) ?_
 refine WL.done rfl (WX.next ?_)
 refine WC.ret ?_
 injection hf with hf
 subst hf
 exact WX.ret_ [] (bv true) [] (fun fb => by kernel_rfl) trivial ⟨_, rfl, rfl, hS50.keep⟩
theorem tile_Repeats_calls (k : Nat) (p0 : List Tile) (p1 : Pattern) (Aa : Option Addr) (ca : Nat) (Ab : Option Addr) (cb : Nat) (r : Bool) (w : World) (hR0 : RO NoS w (rowR enc_Tile Aa ca p0)) (hR1 : RO NoS w (rowR encInt Ab cb p1.Cells)) (hf : tile_Repeats k p0 p1 = some r) :
  CallsR Tryz.prog 23 #[(sv Aa p0 ca), (.agg #[(iv p1.Width), (iv p1.Height), (sv Ab p1.Cells cb)])] w (fun v w' => v = (bv r) ∧ Keeps NoS w w') := by
 have hS : St NoS w w [rowR enc_Tile Aa ca p0, rowR encInt Ab cb p1.Cells] [] := St.init (ro_cons hR0 (ro_cons hR1 (ro_nil _ _)))
 refine enter 13 Tryz.func23 rfl Tryz.ntmps23 rfl ?_
 unfold tile_Repeats at hf
 refine WC.seq (WC.region ?_)
 refine WL.new hS 3 [] (fun g => (pt g)) (.cells #[(iv p1.Width), (iv p1.Height), (sv Ab p1.Cells cb)] 49 (0, 0)) [] (fun fb g => by kernel_rfl) trivial (fun g2 w3 hS4 => ?_)
 refine ⟨trivial, ?_⟩
 refine sg 2 [] [0, 3] [(0, (sv Aa p0 ca)), (3, (pt g2))] (by kernel_rfl) ?_
 refine WL.done rfl (WX.next (WC.seq (WC.region ?_)))
 refine seg 2 [.v (iv p1.Width), .v (iv p1.Height), .v (sv Ab p1.Cells cb)] [0, 3, 5, 6] [(0, (sv Aa p0 ca)), (3, (pt g2)), (5, (sv Aa p0 ca)), (6, (.agg #[(iv p1.Width), (iv p1.Height), (sv Ab p1.Cells cb)]))] [.cell ⟨g2, 0, none⟩ (iv p1.Width), .cell ⟨g2, 1, none⟩ (iv p1.Height), .cell ⟨g2, 2, none⟩ (sv Ab p1.Cells cb)] (fun fb => by kernel_rfl) rfl ⟨hS4.cell 0 rfl 0 rfl, hS4.cell 0 rfl 1 rfl, hS4.cell 0 rfl 2 rfl, trivial⟩ ?_
 obtain ⟨t5, ht6, hf⟩ := bind_some hf
 refine WL.call (some 7) 58 #[(sv Aa p0 ca), (.agg #[(iv p1.Width), (iv p1.Height), (sv Ab p1.Cells cb)])] (fun fb => by kernel_rfl) (tile_of_calls _ p0 p1 Aa ca Ab cb t5 _ (hS4.rd 0) (hS4.rd 1) ht6) (fun v w7 hR8 => ?_)
 obtain ⟨rfl, hk_⟩ := hR8
 have hS9 := hS4.keepN hk_
 refine ⟨trivial, ?_⟩
 refine sg 4 [] [0, 3, 8] [(0, (sv Aa p0 ca)), (3, (pt g2)), (8, (bv t5))] (by kernel_rfl) ?_
 obtain ⟨x10, hx11, hf⟩ := bind_some hf
 let e1 : Array Value := #[(iv p1.Width), (iv p1.Height), (sv Ab p1.Cells cb)]
 refine WL.cutW (T := Bool) 8 (fun t => [(12, (bv t))]) (fun t w1 => (St NoS w w1 [rowR enc_Tile Aa ca p0, rowR encInt Ab cb p1.Cells] [] ∧ x10 = t) ∧ CellsOK [] w1) (fun K => ?_) ?_
 ·
  rcases br_some hx11 with ⟨h12, hx11⟩ | ⟨h12, hx11⟩
  ·
   refine WL.setB 8 h12 rfl ?_
   refine seg 6 [.v (iv p1.Width), .v (iv p1.Height), .v (sv Ab p1.Cells cb)] [8, 9, 10] [(8, (bv true)), (9, (sv Aa p0 ca)), (10, (.agg e1))] [.cell ⟨g2, 0, none⟩ (iv p1.Width), .cell ⟨g2, 1, none⟩ (iv p1.Height), .cell ⟨g2, 2, none⟩ (sv Ab p1.Cells cb)] (fun fb => by kernel_rfl) rfl ⟨hS9.cell 0 rfl 0 rfl, hS9.cell 0 rfl 1 rfl, hS9.cell 0 rfl 2 rfl, trivial⟩ ?_
   obtain ⟨t13, ht14, hx11⟩ := bind_some hx11
   refine WL.call (some 11) 59 #[(sv Aa p0 ca), (.agg e1), (bv true)] (fun fb => by kernel_rfl) (tile_joins_calls _ p0 p1 true Aa ca Ab cb t13 _ (hS9.rd 0) (hS9.rd 1) ht14) (fun v w15 hR16 => ?_)
   obtain ⟨rfl, hk_⟩ := hR16
   have hS17 := hS9.keepN hk_
   refine ⟨trivial, ?_⟩
   refine sg 8 [] [12] [(12, (bv t13))] (by kernel_rfl) ?_
   injection hx11 with hx11
   exact WL.to K t13 [12] rfl ⟨⟨(hS17.subR [0, 1]).sub [] (by decide), hx11.symm⟩, trivial⟩
  refine WL.setB 8 h12 rfl ?_
  refine sg 8 [] [12] [(12, (bv false))] (by kernel_rfl) ?_
  injection hx11 with hx11
  exact WL.to K false [12] rfl ⟨⟨(hS9.subR [0, 1]).sub [] (by decide), hx11.symm⟩, trivial⟩
 rintro y18 w20 ⟨⟨hS21, hq19⟩, hF22⟩
 subst hq19
 refine sg 9 [] [4] [(4, (bv x10))] (by kernel_rfl) ?_
 refine WL.done rfl (WX.next ?_)
 refine WC.ret ?_
 injection hf with hf
 subst hf
 exact WX.ret_ [] (bv x10) [] (fun fb => by kernel_rfl) trivial ⟨_, rfl, rfl, hS21.keep⟩
theorem law06_WeightNone_calls (k : Nat) (p0 : List Tile) (p1 : Weights) (p2 : Pattern) (p3 : Int) (Aa : Option Addr) (ca : Nat) (Ab : Option Addr) (cb : Nat) (Ac : Option Addr) (cc : Nat) (Ad : Option Addr) (cd : Nat) (Ae : Option Addr) (ce : Nat) (Af : Option Addr) (cf : Nat) (Ag : Option Addr) (cg : Nat) (mG : Glo) (r : Bool) (w : World) (hR0 : RO NoS w (rowR enc_Tile Aa ca p0)) (hR1 : RO NoS w (rowR enc_Frac Ab cb p1.Values)) (hR2 : RO NoS w (rowR enc_Frac Ac cc p1.Carries)) (hR3 : RO NoS w (rowR enc_Frac Ad cd p1.Factors)) (hR4 : RO NoS w (rowR encInt Ae ce p1.Primes)) (hR5 : RO NoS w (rowR encInt Af cf p1.Logs)) (hR6 : RO NoS w (rowR encInt Ag cg p2.Cells)) (hR7 : RO NoS w (tabO 0 md0)) (hR8 : RO NoS w (gloO Tryz.prog 5 8 3 4 mG)) (hf : law06_WeightNone k p0 p1 p2 p3 = some r) :
  CallsR Tryz.prog 7 #[(sv Aa p0 ca), (.agg #[(sv Ab p1.Values cb), (sv Ac p1.Carries cc), (sv Ad p1.Factors cd), (sv Ae p1.Primes ce), (sv Af p1.Logs cf)]), (.agg #[(iv p2.Width), (iv p2.Height), (sv Ag p2.Cells cg)]), (.int .u8 p3)] w (fun v w' => v = (bv r) ∧ Keeps NoS w w') := by
 have hS : St NoS w w [rowR enc_Tile Aa ca p0, rowR enc_Frac Ab cb p1.Values, rowR enc_Frac Ac cc p1.Carries, rowR enc_Frac Ad cd p1.Factors, rowR encInt Ae ce p1.Primes, rowR encInt Af cf p1.Logs, rowR encInt Ag cg p2.Cells, tabO 0 md0, gloO Tryz.prog 5 8 3 4 mG] [] := St.init (ro_cons hR0 (ro_cons hR1 (ro_cons hR2 (ro_cons hR3 (ro_cons hR4 (ro_cons hR5 (ro_cons hR6 (ro_cons hR7 (ro_cons hR8 (ro_nil _ _))))))))))
 refine enter 65 Tryz.func7 rfl Tryz.ntmps7 rfl ?_
 unfold law06_WeightNone at hf
 refine WC.seq (WC.region ?_)
 refine WL.new hS 5 [] (fun g => (pt g)) (.cells #[(sv Ab p1.Values cb), (sv Ac p1.Carries cc), (sv Ad p1.Factors cd), (sv Ae p1.Primes ce), (sv Af p1.Logs cf)] 26 (0, 0)) [] (fun fb g => by kernel_rfl) trivial (fun g1 w2 hS3 => ?_)
 refine ⟨trivial, ?_⟩
 refine WL.new hS3 6 [] (fun g => (pt g)) (.cells #[(iv p2.Width), (iv p2.Height), (sv Ag p2.Cells cg)] 49 (0, 0)) [] (fun fb g => by kernel_rfl) trivial (fun g5 w6 hS7 => ?_)
 refine ⟨trivial, ?_⟩
 refine sg 3 [] [0, 3, 5, 6] [(0, (sv Aa p0 ca)), (3, (.int .u8 p3)), (5, (pt g1)), (6, (pt g5))] (by kernel_rfl) ?_
 refine WL.done rfl (WX.next (WC.seq (WC.seq (WC.region ?_))))
 refine sg 4 [] [0, 3, 5, 6, 16] [(0, (sv Aa p0 ca)), (3, (.int .u8 p3)), (5, (pt g1)), (6, (pt g5)), (16, (bv (decide ((p0.length : Int) > 60))))] (by kernel_rfl) ?_
 obtain ⟨x23, hx24, hf⟩ := bind_some hf
 let e1 : Array Value := #[(sv Ab p1.Values cb), (sv Ac p1.Carries cc), (sv Ad p1.Factors cd), (sv Ae p1.Primes ce), (sv Af p1.Logs cf)]
 let e2 := sv Aa p0 ca
 refine WL.cutW (T := Bool) 8 (fun t => [(0, e2), (3, (.int .u8 p3)), (5, (pt g1)), (6, (pt g5)), (20, (bv t))]) (fun t w1 => (St NoS w w1 [rowR enc_Tile Aa ca p0, rowR enc_Frac Ab cb p1.Values, rowR enc_Frac Ac cc p1.Carries, rowR enc_Frac Ad cd p1.Factors, rowR encInt Ae ce p1.Primes, rowR encInt Af cf p1.Logs, rowR encInt Ag cg p2.Cells, tabO 0 md0, gloO Tryz.prog 5 8 3 4 mG] [blk g1 (.cells e1 26 (0, 0)), blk g5 (.cells #[(iv p2.Width), (iv p2.Height), (sv Ag p2.Cells cg)] 49 (0, 0))] ∧ x23 = t) ∧ CellsOK [] w1) (fun K => ?_) ?_
 ·
  rcases br_some hx24 with ⟨h25, hx24⟩ | ⟨h25, hx24⟩
  ·
   refine WL.setB 16 h25 rfl ?_
   refine sg 8 [] [0, 3, 5, 6, 20] [(0, e2), (3, (.int .u8 p3)), (5, (pt g1)), (6, (pt g5)), (20, (bv true))] (by kernel_rfl) ?_
   injection hx24 with hx24
   exact WL.to K true [0, 3, 5, 6, 20] rfl ⟨⟨(hS7.subR [0, 1, 2, 3, 4, 5, 6, 7, 8]).sub [1, 0] (by decide), hx24.symm⟩, trivial⟩
  refine WL.setB 16 h25 rfl ?_
  refine seg 6 [.v (sv Ab p1.Values cb), .v (sv Ac p1.Carries cc), .v (sv Ad p1.Factors cd), .v (sv Ae p1.Primes ce), .v (sv Af p1.Logs cf)] [0, 3, 5, 6, 16, 17, 18] [(0, e2), (3, (.int .u8 p3)), (5, (pt g1)), (6, (pt g5)), (16, (bv false)), (17, e2), (18, (.agg e1))] [.cell ⟨g1, 0, none⟩ (sv Ab p1.Values cb), .cell ⟨g1, 1, none⟩ (sv Ac p1.Carries cc), .cell ⟨g1, 2, none⟩ (sv Ad p1.Factors cd), .cell ⟨g1, 3, none⟩ (sv Ae p1.Primes ce), .cell ⟨g1, 4, none⟩ (sv Af p1.Logs cf)] (fun fb => by kernel_rfl) rfl ⟨hS7.cell 1 rfl 0 rfl, hS7.cell 1 rfl 1 rfl, hS7.cell 1 rfl 2 rfl, hS7.cell 1 rfl 3 rfl, hS7.cell 1 rfl 4 rfl, trivial⟩ ?_
  obtain ⟨t26, ht27, hx24⟩ := bind_some hx24
  refine WL.call (some 19) 8 #[e2, (.agg e1)] (fun fb => by kernel_rfl) (law06_wide_calls p0 p1 Aa ca Ab cb Ac cc Ad cd Ae ce Af cf t26 _ (hS7.rd 0) (hS7.rd 1) (hS7.rd 2) (hS7.rd 3) (hS7.rd 4) (hS7.rd 5) ht27) (fun v w28 hR29 => ?_)
  obtain ⟨rfl, hk_⟩ := hR29
  have hS30 := hS7.keepN hk_
  refine ⟨trivial, ?_⟩
  refine sg 8 [] [0, 3, 5, 6, 20] [(0, e2), (3, (.int .u8 p3)), (5, (pt g1)), (6, (pt g5)), (20, (bv t26))] (by kernel_rfl) ?_
  injection hx24 with hx24
  exact WL.to K t26 [0, 3, 5, 6, 20] rfl ⟨⟨(hS30.subR [0, 1, 2, 3, 4, 5, 6, 7, 8]).sub [1, 0] (by decide), hx24.symm⟩, trivial⟩
 rintro y31 w33 ⟨⟨hS34, hq32⟩, hF35⟩
 subst hq32
 refine sg 9 [] [0, 3, 5, 6, 21] [(0, e2), (3, (.int .u8 p3)), (5, (pt g1)), (6, (pt g5)), (21, (bv x23))] (by kernel_rfl) ?_
 refine WL.cutV (T := Bool) 14 (fun t => [(26, (bv t)), (0, e2), (3, (.int .u8 p3)), (5, (pt g1)), (6, (pt g5))]) (fun t => (x23 || (decide ((p2.Cells.length : Int) > 2000))) = t) (fun K => ?_) ?_
 ·
  rcases Bool.eq_false_or_eq_true x23 with h36 | h36
  ·
   refine WL.setB 21 h36 rfl ?_
   refine sg 14 [] [0, 3, 5, 6, 26] [(0, e2), (3, (.int .u8 p3)), (5, (pt g1)), (6, (pt g5)), (26, (bv true))] (by kernel_rfl) ?_
   exact WL.toV K true [26, 0, 3, 5, 6] rfl (by first | (rw [h36]; done) | (rw [h36]; rfl))
  refine WL.setB 21 h36 rfl ?_
  refine seg 14 [.v (sv Ag p2.Cells cg)] [0, 3, 5, 6, 26] [(0, e2), (3, (.int .u8 p3)), (5, (pt g1)), (6, (pt g5)), (26, (bv (decide ((p2.Cells.length : Int) > 2000))))] [.cell ⟨g5, 2, none⟩ (sv Ag p2.Cells cg)] (fun fb => by kernel_rfl) rfl ⟨hS34.cell 1 rfl 2 rfl, trivial⟩ ?_
  exact WL.toV K (decide ((p2.Cells.length : Int) > 2000)) [26, 0, 3, 5, 6] rfl (by first | (rw [h36]; done) | (rw [h36]; rfl))
 rintro b37 rfl
 refine WL.done rfl (WX.next ?_)
 rcases br_some hf with ⟨h38, hf⟩ | ⟨h38, hf⟩
 ·refine WC.condT2 (fun fb => by kernel_rfl) h38 ?_
  refine WC.seq (WC.region ?_)
  obtain ⟨t9, ht10, hf⟩ := bind_some hf
  refine WL.call (some 27) 10 #[] (fun fb => by kernel_rfl) (law06_awake_calls _ mG t9 _ (hS34.rd 7) (hS34.rd 8) ht10) (fun v w11 hR12 => ?_)
  obtain ⟨rfl, hk_⟩ := hR12
  have hS13 := hS34.keepN hk_
  refine ⟨trivial, ?_⟩
  refine sg 2 [] [8] [(8, (bv t9))] (by kernel_rfl) ?_
  refine WL.done rfl (WX.next ?_)
  refine WC.ret ?_
  injection hf with hf
  subst hf
  exact WX.thenR (WX.ret_ [] (bv t9) [] (fun fb => by kernel_rfl) trivial ⟨_, rfl, rfl, hS13.keep⟩)
 refine WC.condF2 (fun fb => by kernel_rfl) h38 ?_
 refine WC.skip (WX.next (WC.seq (WC.region ?_)))
 refine seg 2 [.v (sv Ab p1.Values cb), .v (sv Ac p1.Carries cc), .v (sv Ad p1.Factors cd), .v (sv Ae p1.Primes ce), .v (sv Af p1.Logs cf)] [0, 3, 6, 29, 30] [(0, e2), (3, (.int .u8 p3)), (6, (pt g5)), (29, e2), (30, (.agg e1))] [.cell ⟨g1, 0, none⟩ (sv Ab p1.Values cb), .cell ⟨g1, 1, none⟩ (sv Ac p1.Carries cc), .cell ⟨g1, 2, none⟩ (sv Ad p1.Factors cd), .cell ⟨g1, 3, none⟩ (sv Ae p1.Primes ce), .cell ⟨g1, 4, none⟩ (sv Af p1.Logs cf)] (fun fb => by kernel_rfl) rfl ⟨hS34.cell 0 rfl 0 rfl, hS34.cell 0 rfl 1 rfl, hS34.cell 0 rfl 2 rfl, hS34.cell 0 rfl 3 rfl, hS34.cell 0 rfl 4 rfl, trivial⟩ ?_
 obtain ⟨t14, ht15, hf⟩ := bind_some hf
 refine WL.call (some 31) 11 #[e2, (.agg e1)] (fun fb => by kernel_rfl) (weight_Check_calls _ p0 p1 Aa ca Ab cb Ac cc Ad cd Ae ce Af cf t14 _ (hS34.rd 0) (hS34.rd 1) (hS34.rd 2) (hS34.rd 3) (hS34.rd 4) (hS34.rd 5) (hS34.rd 7) ht15) (fun v w16 hR17 => ?_)
 obtain ⟨rfl, hk_⟩ := hR17
 have hS18 := hS34.keepN hk_
 refine ⟨trivial, ?_⟩
 refine sg 8 [] [0, 3, 6, 9, 10] [(0, e2), (3, (.int .u8 p3)), (6, (pt g5)), (9, (bv t14.1)), (10, (iv t14.2))] (by kernel_rfl) ?_
 refine WL.done rfl (WX.next (WC.seq (WC.seq (WC.region ?_))))
 refine sg 3 [] [0, 3, 6, 9, 36] [(0, e2), (3, (.int .u8 p3)), (6, (pt g5)), (9, (bv t14.1)), (36, (bv (t14.2 != 0)))] (by kernel_rfl) ?_
 refine WL.cutV (T := Bool) 6 (fun t => [(39, (bv t)), (0, e2), (3, (.int .u8 p3)), (6, (pt g5))]) (fun t => ((t14.2 != 0) || (!t14.1)) = t) (fun K => ?_) ?_
 ·
  rcases Bool.eq_false_or_eq_true (t14.2 != 0) with h19 | h19
  ·
   refine WL.setB 36 h19 rfl ?_
   refine sg 6 [] [0, 3, 6, 39] [(0, e2), (3, (.int .u8 p3)), (6, (pt g5)), (39, (bv true))] (by kernel_rfl) ?_
   exact WL.toV K true [39, 0, 3, 6] rfl (by first | (rw [h19]; done) | (rw [h19]; rfl))
  refine WL.setB 36 h19 rfl ?_
  refine sg 6 [] [0, 3, 6, 39] [(0, e2), (3, (.int .u8 p3)), (6, (pt g5)), (39, (bv (!t14.1)))] (by kernel_rfl) ?_
  exact WL.toV K (!t14.1) [39, 0, 3, 6] rfl (by first | (rw [h19]; done) | (rw [h19]; rfl))
 rintro b20 rfl
 refine WL.done rfl (WX.next ?_)
 rcases br_some hf with ⟨h21, hf⟩ | ⟨h21, hf⟩
 ·refine WC.condT2 (fun fb => by kernel_rfl) h21 ?_
  refine WC.seq (WC.region ?_)
  obtain ⟨t22, ht39, hf⟩ := bind_some hf
  refine WL.call (some 40) 10 #[] (fun fb => by kernel_rfl) (law06_awake_calls _ mG t22 _ (hS18.rd 7) (hS18.rd 8) ht39) (fun v w40 hR41 => ?_)
  obtain ⟨rfl, hk_⟩ := hR41
  have hS42 := hS18.keepN hk_
  refine ⟨trivial, ?_⟩
  refine sg 2 [] [8] [(8, (bv t22))] (by kernel_rfl) ?_
  refine WL.done rfl (WX.next ?_)
  refine WC.ret ?_
  injection hf with hf
  subst hf
  exact WX.thenR (WX.ret_ [] (bv t22) [] (fun fb => by kernel_rfl) trivial ⟨_, rfl, rfl, hS42.keep⟩)
 refine WC.condF2 (fun fb => by kernel_rfl) h21 ?_
 refine WC.skip (WX.next (WC.seq (WC.region ?_)))
 refine seg 5 [] [0, 6, 42, 46] [(0, e2), (6, (pt g5)), (42, e2), (46, (iv (w64 (1 + (Int.tmod (w64 (p3)) 4)))))] [.ne 4] (fun fb => by kernel_rfl) rfl ⟨(by decide), trivial⟩ ?_
 obtain ⟨t43, ht44, hf⟩ := bind_some hf
 refine WL.call (some 47) 22 #[e2, (iv (w64 (1 + (Int.tmod (w64 (p3)) 4))))] (fun fb => by kernel_rfl) (torus_Least_calls _ p0 (w64 (1 + (Int.tmod (w64 (p3)) 4))) Aa ca t43 _ (hS18.rd 0) ht44) (fun v w45 hR46 => ?_)
 obtain ⟨A48, c49, rfl, hk_⟩ := hR46
 have hS47 := hS.go w45 [rowO 3 encInt A48 c49 t43.1.Cells, blk g1 (.cells #[(.slice Ab p1.Values.length cb), (.slice Ac p1.Carries.length cc), (.slice Ad p1.Factors.length cd), (.slice Ae p1.Primes.length ce), (.slice Af p1.Logs.length cf)] 26 (0, 0)), blk g5 (.cells #[(iv p2.Width), (iv p2.Height), (.slice Ag p2.Cells.length cg)] 49 (0, 0))] (hS18.call hk_ [] [0, 1] (fun g hg => hg.elim) (by simp) (by decide))
 refine ⟨trivial, ?_⟩
 refine sg 9 [] [0, 6, 48, 49] [(0, e2), (6, (pt g5)), (48, (.agg #[(iv t43.1.Width), (iv t43.1.Height), (sv A48 t43.1.Cells c49)])), (49, (iv t43.2))] (by kernel_rfl) ?_
 refine WL.new hS47 11 [] (fun g => (pt g)) (.cells #[(iv 0), (iv 0), (.slice none 0 0)] 49 (0, 0)) [] (fun fb g => by kernel_rfl) trivial (fun g50 w51 hS52 => ?_)
 refine ⟨trivial, ?_⟩
 refine WL.store hS52 0 rfl [(0, (iv t43.1.Width)), (1, (iv t43.1.Height)), (2, (sv A48 t43.1.Cells c49))] #[(iv t43.1.Width), (iv t43.1.Height), (sv A48 t43.1.Cells c49)] (fun fb => by kernel_rfl) (by kernel_rfl) rfl [1, 2, 3] (by decide) (by decide) (fun w53 hS54 => ?_)
 refine ⟨trivial, ?_⟩
 refine sg 12 [] [0, 6, 12] [(0, e2), (6, (pt g5)), (12, (iv t43.2))] (by kernel_rfl) ?_
 refine WL.done rfl (WX.next (WC.seq (WC.region ?_)))
 refine seg 2 [.v (iv p2.Width), .v (iv p2.Height), .v (sv Ag p2.Cells cg)] [12, 50, 51] [(12, (iv t43.2)), (50, e2), (51, (.agg #[(iv p2.Width), (iv p2.Height), (sv Ag p2.Cells cg)]))] [.cell ⟨g5, 0, none⟩ (iv p2.Width), .cell ⟨g5, 1, none⟩ (iv p2.Height), .cell ⟨g5, 2, none⟩ (sv Ag p2.Cells cg)] (fun fb => by kernel_rfl) rfl ⟨hS54.cell 3 rfl 0 rfl, hS54.cell 3 rfl 1 rfl, hS54.cell 3 rfl 2 rfl, trivial⟩ ?_
 obtain ⟨t55, ht56, hf⟩ := bind_some hf
 refine WL.call (some 52) 23 #[e2, (.agg #[(iv p2.Width), (iv p2.Height), (sv Ag p2.Cells cg)])] (fun fb => by kernel_rfl) (tile_Repeats_calls _ p0 p2 Aa ca Ag cg t55 _ (hS54.rd 0) (hS54.rd 6) ht56) (fun v w57 hR58 => ?_)
 obtain ⟨rfl, hk_⟩ := hR58
 have hS59 := hS54.keepN hk_
 refine ⟨trivial, ?_⟩
 refine sg 5 [] [12, 54] [(12, (iv t43.2)), (54, (bv (!t55)))] (by kernel_rfl) ?_
 refine WL.cutV (T := Bool) 12 (fun t => [(61, (bv t))]) (fun t => ((!t55) && ((t43.2 == 6) || (t43.2 == 4))) = t) (fun K => ?_) ?_
 ·
  rcases Bool.eq_false_or_eq_true (!t55) with h60 | h60
  ·
   refine WL.setB 54 h60 rfl ?_
   refine sg 8 [] [12, 54, 57] [(12, (iv t43.2)), (54, (bv true)), (57, (bv (t43.2 == 6)))] (by kernel_rfl) ?_
   refine WL.cutV (T := Bool) 11 (fun t => [(60, (bv t)), (54, (bv true))]) (fun t => ((t43.2 == 6) || (t43.2 == 4)) = t) (fun K => ?_) ?_
   ·
    rcases Bool.eq_false_or_eq_true (t43.2 == 6) with h61 | h61
    ·
     refine WL.setB 57 h61 rfl ?_
     refine sg 11 [] [54, 60] [(54, (bv true)), (60, (bv true))] (by kernel_rfl) ?_
     exact WL.toV K true [60, 54] rfl (by first | (rw [h61]; done) | (rw [h61]; rfl))
    refine WL.setB 57 h61 rfl ?_
    refine sg 11 [] [54, 60] [(54, (bv true)), (60, (bv (t43.2 == 4)))] (by kernel_rfl) ?_
    exact WL.toV K (t43.2 == 4) [60, 54] rfl (by first | (rw [h61]; done) | (rw [h61]; rfl))
   rintro b62 rfl
   refine sg 12 [] [61] [(61, (bv ((t43.2 == 6) || (t43.2 == 4))))] (by kernel_rfl) ?_
   exact WL.toV K ((t43.2 == 6) || (t43.2 == 4)) [61] rfl (by first | (rw [h60]; done) | (rw [h60]; rfl))
  refine WL.setB 54 h60 rfl ?_
  refine sg 12 [] [61] [(61, (bv false))] (by kernel_rfl) ?_
  exact WL.toV K false [61] rfl (by first | (rw [h60]; done) | (rw [h60]; rfl))
 rintro b63 rfl
 refine sg 13 [] [62] [(62, (bv ((!t55) && ((t43.2 == 6) || (t43.2 == 4)))))] (by kernel_rfl) ?_
 obtain ⟨x65, hx66, hf⟩ := bind_some hf
 refine WL.cutW (T := Bool) 15 (fun t => [(64, (bv t))]) (fun t w1 => (St NoS w w1 [rowR enc_Tile Aa ca p0, rowR enc_Frac Ab cb p1.Values, rowR enc_Frac Ac cc p1.Carries, rowR enc_Frac Ad cd p1.Factors, rowR encInt Ae ce p1.Primes, rowR encInt Af cf p1.Logs, rowR encInt Ag cg p2.Cells, tabO 0 md0, gloO Tryz.prog 5 8 3 4 mG] [] ∧ x65 = t) ∧ CellsOK [] w1) (fun K => ?_) ?_
 ·
  rcases br_some hx66 with ⟨h67, hx66⟩ | ⟨h67, hx66⟩
  ·
   refine WL.setB 62 h67 rfl ?_
   obtain ⟨t68, ht69, hx66⟩ := bind_some hx66
   refine WL.call (some 63) 10 #[] (fun fb => by kernel_rfl) (law06_awake_calls _ mG t68 _ (hS59.rd 7) (hS59.rd 8) ht69) (fun v w70 hR71 => ?_)
   obtain ⟨rfl, hk_⟩ := hR71
   have hS72 := hS59.keepN hk_
   refine ⟨trivial, ?_⟩
   refine sg 15 [] [64] [(64, (bv t68))] (by kernel_rfl) ?_
   injection hx66 with hx66
   exact WL.to K t68 [64] rfl ⟨⟨(hS72.subR [0, 1, 2, 3, 4, 5, 6, 7, 8]).sub [] (by decide), hx66.symm⟩, trivial⟩
  refine WL.setB 62 h67 rfl ?_
  refine sg 15 [] [64] [(64, (bv false))] (by kernel_rfl) ?_
  injection hx66 with hx66
  exact WL.to K false [64] rfl ⟨⟨(hS59.subR [0, 1, 2, 3, 4, 5, 6, 7, 8]).sub [] (by decide), hx66.symm⟩, trivial⟩
 rintro y73 w75 ⟨⟨hS76, hq74⟩, hF77⟩
 subst hq74
 refine sg 16 [] [8] [(8, (bv x65))] (by kernel_rfl) ?_
 refine WL.done rfl (WX.next ?_)
 refine WC.ret ?_
 injection hf with hf
 subst hf
 exact WX.ret_ [] (bv x65) [] (fun fb => by kernel_rfl) trivial ⟨_, rfl, rfl, hS76.keep⟩
end Gp
