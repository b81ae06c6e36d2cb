/- Walks: each function of the program computes its plain function. -/
import Derived.Test.YtfehljifahnipaaDoorGx2
set_option linter.unusedVariables false
set_option linter.unusedSimpArgs false
set_option maxHeartbeats 4000000
set_option maxRecDepth 8000
namespace Gp
open Go Gw Go.Proofs
theorem tile_Repeat_calls (k : Nat) (p0 : Pattern) (p1 : Int) (p2 : Int) (Aa : Option Addr) (ca : Nat) (r : Pattern × Int) (w : World) (hR0 : RO NoS w (rowR encInt Aa ca p0.Cells)) (hf : tile_Repeat k p0 p1 p2 = some r) :
  CallsR Tryd.prog 20 #[(.agg #[(iv p0.Width), (iv p0.Height), (sv Aa p0.Cells ca)]), (iv p1), (iv p2)] w (fun v w' => ∃ (A1_ : Option Addr), ∃ (c1_ : Nat), v = (.tuple #[(.agg #[(iv r.1.Width), (iv r.1.Height), (sv A1_ r.1.Cells c1_)]), (iv r.2)]) ∧ St NoS w w' [] [rowO 3 encInt A1_ c1_ r.1.Cells]) := by
 have hS : St NoS w w [rowR encInt Aa ca p0.Cells] [] := St.init (ro_cons hR0 (ro_nil _ _))
 refine enter 70 Tryd.func20 rfl Tryd.ntmps20 rfl ?_
 unfold tile_Repeat at hf
 refine WC.seq (WC.region ?_)
 refine WL.new hS 3 [] (fun g => (pt g)) (.cells #[(iv p0.Width), (iv p0.Height), (sv Aa p0.Cells ca)] 28 (0, 0)) [] (fun fb g => by kernel_rfl) trivial (fun g3 w4 hS5 => ?_)
 refine ⟨trivial, ?_⟩
 refine WL.new hS5 6 [] (fun g => (pt g)) (.cells #[(iv 0), (iv 0), (.slice none 0 0)] 28 (0, 0)) [] (fun fb g => by kernel_rfl) trivial (fun g6 w7 hS8 => ?_)
 refine ⟨trivial, ?_⟩
 refine seg 3 [] [1, 2, 3, 6] [(1, (iv p1)), (2, (iv p2)), (3, (pt g3)), (6, (pt g6))] [] (fun fb => by kernel_rfl) rfl trivial ?_
 refine WL.done rfl (WX.next (WC.seq (WC.seq (WC.region ?_))))
 refine seg 1 [.v (iv p0.Width), .v (iv p0.Height), .v (sv Aa p0.Cells ca)] [1, 2, 3, 6, 11] [(1, (iv p1)), (2, (iv p2)), (3, (pt g3)), (6, (pt g6)), (11, (.agg #[(iv p0.Width), (iv p0.Height), (sv Aa p0.Cells ca)]))] [.cell ⟨g3, 0, none⟩ (iv p0.Width), .cell ⟨g3, 1, none⟩ (iv p0.Height), .cell ⟨g3, 2, none⟩ (sv Aa p0.Cells ca)] (fun fb => by kernel_rfl) rfl ⟨hS8.cell 1 rfl 0 rfl, hS8.cell 1 rfl 1 rfl, hS8.cell 1 rfl 2 rfl, trivial⟩ ?_
 obtain ⟨t9, ht10, hf⟩ := bind_some hf
 refine WL.call (some 12) 39 #[(.agg #[(iv p0.Width), (iv p0.Height), (sv Aa p0.Cells ca)])] (fun fb => by kernel_rfl) (tile_Form_calls p0 Aa ca t9 _ (hS8.rd 0) ht10) (fun v w11 hR12 => ?_)
 obtain ⟨rfl, hk_⟩ := hR12
 have hS13 := hS8.keepN hk_
 refine ⟨trivial, ?_⟩
 refine seg 3 [] [1, 2, 3, 6, 13] [(1, (iv p1)), (2, (iv p2)), (3, (pt g3)), (6, (pt g6)), (13, (bv (!t9)))] [] (fun fb => by kernel_rfl) rfl trivial ?_
 refine WL.done rfl (WX.next ?_)
 rcases br_some hf with ⟨h14, hf⟩ | ⟨h14, hf⟩
 ·refine WC.condT2 (fun fb => by kernel_rfl) h14 ?_
  refine WC.seq (WC.region ?_)
  refine seg 1 [] [6, 14] [(6, (pt g6)), (14, (.agg #[(iv 0), (iv 0), (.slice none 0 0)]))] [] (fun fb => by kernel_rfl) rfl trivial ?_
  refine WL.store hS13 0 rfl [(0, (iv 0)), (1, (iv 0)), (2, (.slice none 0 0))] #[(iv 0), (iv 0), (.slice none 0 0)] (fun fb => by kernel_rfl) (by kernel_rfl) rfl [1] (by decide) (by decide) (fun w15 hS16 => ?_)
  refine ⟨trivial, ?_⟩
  refine seg 3 [] [6, 7] [(6, (pt g6)), (7, (iv 1))] [] (fun fb => by kernel_rfl) rfl trivial ?_
  refine WL.done rfl (WX.next ?_)
  refine WC.ret ?_
  have hS17 := hS16.nilrow 3 encInt
  injection hf with hf
  subst hf
  exact WX.thenR (WX.ret_ [.v (iv 0), .v (iv 0), .v (.slice none 0 0)] (.tuple #[(.agg #[(iv 0), (iv 0), (sv none ([] : List Int) 0)]), (iv 1)]) [.cell ⟨g6, 0, none⟩ (iv 0), .cell ⟨g6, 1, none⟩ (iv 0), .cell ⟨g6, 2, none⟩ (.slice none 0 0)] (fun fb => by kernel_rfl) ⟨hS16.cell 0 rfl 0 rfl, hS16.cell 0 rfl 1 rfl, hS16.cell 0 rfl 2 rfl, trivial⟩ ⟨_, rfl, none, 0, rfl, (hS17.sub [0] (by decide)).noR⟩)
 refine WC.condF2 (fun fb => by kernel_rfl) h14 ?_
 refine WC.skip (WX.next (WC.seq (WC.seq (WC.region ?_))))
 refine seg 3 [] [1, 2, 3, 6, 17] [(1, (iv p1)), (2, (iv p2)), (3, (pt g3)), (6, (pt g6)), (17, (bv (decide (p1 < 1))))] [] (fun fb => by kernel_rfl) rfl trivial ?_
 refine WL.cutV (T := Bool) 6 (fun t => [(20, (bv t)), (1, (iv p1)), (2, (iv p2)), (3, (pt g3)), (6, (pt g6))]) (fun t => ((decide (p1 < 1)) || (decide (p2 < 1))) = t) (fun K => ?_) ?_
 ·
  rcases Bool.eq_false_or_eq_true (decide (p1 < 1)) with h18 | h18
  ·
   refine WL.setB 17 h18 rfl ?_
   refine seg 6 [] [1, 2, 3, 6, 20] [(1, (iv p1)), (2, (iv p2)), (3, (pt g3)), (6, (pt g6)), (20, (bv true))] [] (fun fb => by kernel_rfl) rfl trivial ?_
   exact WL.toV K true [20, 1, 2, 3, 6] rfl (by first | (rw [h18]; done) | (rw [h18]; rfl))
  refine WL.setB 17 h18 rfl ?_
  refine seg 6 [] [1, 2, 3, 6, 20] [(1, (iv p1)), (2, (iv p2)), (3, (pt g3)), (6, (pt g6)), (20, (bv (decide (p2 < 1))))] [] (fun fb => by kernel_rfl) rfl trivial ?_
  exact WL.toV K (decide (p2 < 1)) [20, 1, 2, 3, 6] rfl (by first | (rw [h18]; done) | (rw [h18]; rfl))
 rintro b19 rfl
 refine WL.done rfl (WX.next ?_)
 rcases br_some hf with ⟨h21, hf⟩ | ⟨h21, hf⟩
 ·refine WC.condT2 (fun fb => by kernel_rfl) h21 ?_
  refine WC.seq (WC.region ?_)
  refine seg 1 [] [6, 21] [(6, (pt g6)), (21, (.agg #[(iv 0), (iv 0), (.slice none 0 0)]))] [] (fun fb => by kernel_rfl) rfl trivial ?_
  refine WL.store hS13 0 rfl [(0, (iv 0)), (1, (iv 0)), (2, (.slice none 0 0))] #[(iv 0), (iv 0), (.slice none 0 0)] (fun fb => by kernel_rfl) (by kernel_rfl) rfl [1] (by decide) (by decide) (fun w22 hS23 => ?_)
  refine ⟨trivial, ?_⟩
  refine seg 3 [] [6, 7] [(6, (pt g6)), (7, (iv 2))] [] (fun fb => by kernel_rfl) rfl trivial ?_
  refine WL.done rfl (WX.next ?_)
  refine WC.ret ?_
  have hS24 := hS23.nilrow 3 encInt
  injection hf with hf
  subst hf
  exact WX.thenR (WX.ret_ [.v (iv 0), .v (iv 0), .v (.slice none 0 0)] (.tuple #[(.agg #[(iv 0), (iv 0), (sv none ([] : List Int) 0)]), (iv 2)]) [.cell ⟨g6, 0, none⟩ (iv 0), .cell ⟨g6, 1, none⟩ (iv 0), .cell ⟨g6, 2, none⟩ (.slice none 0 0)] (fun fb => by kernel_rfl) ⟨hS23.cell 0 rfl 0 rfl, hS23.cell 0 rfl 1 rfl, hS23.cell 0 rfl 2 rfl, trivial⟩ ⟨_, rfl, none, 0, rfl, (hS24.sub [0] (by decide)).noR⟩)
 refine WC.condF2 (fun fb => by kernel_rfl) h21 ?_
 refine WC.skip (WX.next (WC.seq (WC.seq (WC.region ?_))))
 refine seg 3 [] [1, 2, 3, 6, 24] [(1, (iv p1)), (2, (iv p2)), (3, (pt g3)), (6, (pt g6)), (24, (bv (decide (p1 > 40000))))] [] (fun fb => by kernel_rfl) rfl trivial ?_
 refine WL.cutV (T := Bool) 6 (fun t => [(27, (bv t)), (1, (iv p1)), (2, (iv p2)), (3, (pt g3)), (6, (pt g6))]) (fun t => ((decide (p1 > 40000)) || (decide (p2 > 40000))) = t) (fun K => ?_) ?_
 ·
  rcases Bool.eq_false_or_eq_true (decide (p1 > 40000)) with h25 | h25
  ·
   refine WL.setB 24 h25 rfl ?_
   refine seg 6 [] [1, 2, 3, 6, 27] [(1, (iv p1)), (2, (iv p2)), (3, (pt g3)), (6, (pt g6)), (27, (bv true))] [] (fun fb => by kernel_rfl) rfl trivial ?_
   exact WL.toV K true [27, 1, 2, 3, 6] rfl (by first | (rw [h25]; done) | (rw [h25]; rfl))
  refine WL.setB 24 h25 rfl ?_
  refine seg 6 [] [1, 2, 3, 6, 27] [(1, (iv p1)), (2, (iv p2)), (3, (pt g3)), (6, (pt g6)), (27, (bv (decide (p2 > 40000))))] [] (fun fb => by kernel_rfl) rfl trivial ?_
  exact WL.toV K (decide (p2 > 40000)) [27, 1, 2, 3, 6] rfl (by first | (rw [h25]; done) | (rw [h25]; rfl))
 rintro b26 rfl
 refine seg 7 [] [1, 2, 3, 6, 28] [(1, (iv p1)), (2, (iv p2)), (3, (pt g3)), (6, (pt g6)), (28, (bv ((decide (p1 > 40000)) || (decide (p2 > 40000)))))] [] (fun fb => by kernel_rfl) rfl trivial ?_
 refine WL.cutV (T := Bool) 12 (fun t => [(33, (bv t)), (1, (iv p1)), (2, (iv p2)), (3, (pt g3)), (6, (pt g6))]) (fun t => (((decide (p1 > 40000)) || (decide (p2 > 40000))) || (decide (w64 (p1 * p2) > 40000))) = t) (fun K => ?_) ?_
 ·
  rcases Bool.eq_false_or_eq_true ((decide (p1 > 40000)) || (decide (p2 > 40000))) with h27 | h27
  ·
   refine WL.setB 28 h27 rfl ?_
   refine seg 12 [] [1, 2, 3, 6, 33] [(1, (iv p1)), (2, (iv p2)), (3, (pt g3)), (6, (pt g6)), (33, (bv true))] [] (fun fb => by kernel_rfl) rfl trivial ?_
   exact WL.toV K true [33, 1, 2, 3, 6] rfl (by first | (rw [h27]; done) | (rw [h27]; rfl))
  refine WL.setB 28 h27 rfl ?_
  refine seg 12 [] [1, 2, 3, 6, 33] [(1, (iv p1)), (2, (iv p2)), (3, (pt g3)), (6, (pt g6)), (33, (bv (decide (w64 (p1 * p2) > 40000))))] [] (fun fb => by kernel_rfl) rfl trivial ?_
  exact WL.toV K (decide (w64 (p1 * p2) > 40000)) [33, 1, 2, 3, 6] rfl (by first | (rw [h27]; done) | (rw [h27]; rfl))
 rintro b28 rfl
 refine WL.done rfl (WX.next ?_)
 rcases br_some hf with ⟨h29, hf⟩ | ⟨h29, hf⟩
 ·refine WC.condT2 (fun fb => by kernel_rfl) h29 ?_
  refine WC.seq (WC.region ?_)
  refine seg 1 [] [6, 34] [(6, (pt g6)), (34, (.agg #[(iv 0), (iv 0), (.slice none 0 0)]))] [] (fun fb => by kernel_rfl) rfl trivial ?_
  refine WL.store hS13 0 rfl [(0, (iv 0)), (1, (iv 0)), (2, (.slice none 0 0))] #[(iv 0), (iv 0), (.slice none 0 0)] (fun fb => by kernel_rfl) (by kernel_rfl) rfl [1] (by decide) (by decide) (fun w30 hS31 => ?_)
  refine ⟨trivial, ?_⟩
  refine seg 3 [] [6, 7] [(6, (pt g6)), (7, (iv 4))] [] (fun fb => by kernel_rfl) rfl trivial ?_
  refine WL.done rfl (WX.next ?_)
  refine WC.ret ?_
  have hS32 := hS31.nilrow 3 encInt
  injection hf with hf
  subst hf
  exact WX.thenR (WX.ret_ [.v (iv 0), .v (iv 0), .v (.slice none 0 0)] (.tuple #[(.agg #[(iv 0), (iv 0), (sv none ([] : List Int) 0)]), (iv 4)]) [.cell ⟨g6, 0, none⟩ (iv 0), .cell ⟨g6, 1, none⟩ (iv 0), .cell ⟨g6, 2, none⟩ (.slice none 0 0)] (fun fb => by kernel_rfl) ⟨hS31.cell 0 rfl 0 rfl, hS31.cell 0 rfl 1 rfl, hS31.cell 0 rfl 2 rfl, trivial⟩ ⟨_, rfl, none, 0, rfl, (hS32.sub [0] (by decide)).noR⟩)
 refine WC.condF2 (fun fb => by kernel_rfl) h29 ?_
 refine WC.skip (WX.next (WC.seq (WC.region ?_)))
 refine seg 3 [] [1, 2, 3, 6, 37] [(1, (iv p1)), (2, (iv p2)), (3, (pt g3)), (6, (pt g6)), (37, (.agg #[(iv p1), (iv p2), (.slice none 0 0)]))] [] (fun fb => by kernel_rfl) rfl trivial ?_
 refine WL.new hS13 8 [] (fun g => (pt g)) (.cells #[(iv 0), (iv 0), (.slice none 0 0)] 28 (0, 0)) [] (fun fb g => by kernel_rfl) trivial (fun g33 w34 hS35 => ?_)
 refine ⟨trivial, ?_⟩
 refine WL.store hS35 0 rfl [(0, (iv p1)), (1, (iv p2)), (2, (.slice none 0 0))] #[(iv p1), (iv p2), (.slice none 0 0)] (fun fb => by kernel_rfl) (by kernel_rfl) rfl [1, 2] (by decide) (by decide) (fun w36 hS37 => ?_)
 refine ⟨trivial, ?_⟩
 refine WL.done rfl (WX.next (WC.seq (WC.seq (WC.region ?_))))
 refine seg 2 [] [1, 3, 6, 8, 38, 39] [(1, (iv p1)), (3, (pt g3)), (6, (pt g6)), (8, (pt g33)), (38, (iv p2)), (39, (iv 0))] [] (fun fb => by kernel_rfl) rfl trivial ?_
 refine WL.done rfl (WX.next ?_)
 have hS38 := hS37.nilrow 3 encInt
 obtain ⟨x45, hx46, hf⟩ := bind_some hf
 refine WC.cutN (T := (List Int) × (Option Addr) × Nat) (fun t => [(6, (pt g6)), (8, (pt g33))]) (fun t w1 => St NoS w w1 [rowR encInt Aa ca p0.Cells] [blk g6 (.cells #[(iv 0), (iv 0), (.slice none 0 0)] 28 (0, 0)), blk g33 (.cells #[(iv p1), (iv p2), (sv t.2.1 t.1 t.2.2)] 28 (0, 0)), rowO 3 encInt t.2.1 t.2.2 t.1] ∧ x45 = t.1) (fun Kx45 => ?_) ?_
 ·
  refine WC.block ?_
  refine WC.loop (T := ((List Int) × Int) × (Option Addr) × Nat) (fun t => [(1, (iv p1)), (3, (pt g3)), (6, (pt g6)), (8, (pt g33)), (38, (iv p2)), (39, (iv t.1.2))]) (fun n t w1 => St NoS w w1 [rowR encInt Aa ca p0.Cells] [blk g3 (.cells #[(iv p0.Width), (iv p0.Height), (sv Aa p0.Cells ca)] 28 (0, 0)), blk g6 (.cells #[(iv 0), (iv 0), (.slice none 0 0)] 28 (0, 0)), blk g33 (.cells #[(iv p1), (iv p2), (sv t.2.1 t.1.1 t.2.2)] 28 (0, 0)), rowO 3 encInt t.2.1 t.2.2 t.1.1] ∧ tile_Repeat.l0 n t.1.1 t.1.2 p0 p1 p2 = some x45) k ((([] : List Int), 0), none, 0) [1, 3, 6, 8, 38, 39] rfl ⟨(hS38.subR [0]).sub [3, 2, 1, 0] (by decide), hx46⟩ ?_
  rintro k47 ⟨⟨l41, x42⟩, A39, c40⟩ w48 ⟨hS49, hl50⟩
  cases k47 with
  | zero => rw [tile_Repeat.l0] at hl50; cases hl50
  | succ k47 =>
   rw [tile_Repeat.l0] at hl50
   refine WC.seq (WC.region ?_)
   refine seg 1 [] [1, 3, 6, 8, 38, 39, 40] [(1, (iv p1)), (3, (pt g3)), (6, (pt g6)), (8, (pt g33)), (38, (iv p2)), (39, (iv x42)), (40, (bv (decide (x42 < p2))))] [] (fun fb => by kernel_rfl) rfl trivial ?_
   refine WL.done rfl (WX.next (WC.seq ?_))
   rcases br_some hl50 with ⟨h51, hl50⟩ | ⟨h51, hl50⟩
   ·refine WC.condT2 (fun fb => by kernel_rfl) h51 ?_
    refine WC.skip (WX.next (WC.seq (WC.block (WC.seq (WC.region ?_)))))
    refine seg 2 [] [1, 3, 6, 8, 9, 38, 39] [(1, (iv p1)), (3, (pt g3)), (6, (pt g6)), (8, (pt g33)), (9, (iv x42)), (38, (iv p2)), (39, (iv x42))] [] (fun fb => by kernel_rfl) rfl trivial ?_
    refine WL.done rfl (WX.next (WC.seq (WC.region ?_)))
    refine seg 2 [] [1, 3, 6, 8, 9, 38, 39, 42, 43] [(1, (iv p1)), (3, (pt g3)), (6, (pt g6)), (8, (pt g33)), (9, (iv x42)), (38, (iv p2)), (39, (iv x42)), (42, (iv p1)), (43, (iv 0))] [] (fun fb => by kernel_rfl) rfl trivial ?_
    refine WL.done rfl (WX.next ?_)
    obtain ⟨x58, hx59, hl50⟩ := bind_some hl50
    refine WC.cutN (T := (List Int) × (Option Addr) × Nat) (fun t => [(1, (iv p1)), (3, (pt g3)), (6, (pt g6)), (8, (pt g33)), (38, (iv p2)), (39, (iv x42))]) (fun t w1 => St NoS w w1 [rowR encInt Aa ca p0.Cells] [blk g3 (.cells #[(iv p0.Width), (iv p0.Height), (sv Aa p0.Cells ca)] 28 (0, 0)), blk g6 (.cells #[(iv 0), (iv 0), (.slice none 0 0)] 28 (0, 0)), blk g33 (.cells #[(iv p1), (iv p2), (sv t.2.1 t.1 t.2.2)] 28 (0, 0)), rowO 3 encInt t.2.1 t.2.2 t.1] ∧ x58 = t.1) (fun Kx58 => ?_) ?_
    ·
     refine WC.block ?_
     refine WC.loop (T := ((List Int) × Int) × (Option Addr) × Nat) (fun t => [(1, (iv p1)), (3, (pt g3)), (6, (pt g6)), (8, (pt g33)), (9, (iv x42)), (38, (iv p2)), (39, (iv x42)), (42, (iv p1)), (43, (iv t.1.2))]) (fun n t w1 => St NoS w w1 [rowR encInt Aa ca p0.Cells] [blk g3 (.cells #[(iv p0.Width), (iv p0.Height), (sv Aa p0.Cells ca)] 28 (0, 0)), blk g6 (.cells #[(iv 0), (iv 0), (.slice none 0 0)] 28 (0, 0)), blk g33 (.cells #[(iv p1), (iv p2), (sv t.2.1 t.1.1 t.2.2)] 28 (0, 0)), rowO 3 encInt t.2.1 t.2.2 t.1.1] ∧ tile_Repeat.l1 n t.1.1 t.1.2 p0 p1 x42 = some x58) k47 ((l41, 0), A39, c40) [1, 3, 6, 8, 9, 38, 39, 42, 43] rfl ⟨(hS49.subR [0]).sub [0, 1, 2, 3] (by decide), hx59⟩ ?_
     rintro k60 ⟨⟨l54, x55⟩, A52, c53⟩ w61 ⟨hS62, hl63⟩
     cases k60 with
     | zero => rw [tile_Repeat.l1] at hl63; cases hl63
     | succ k60 =>
      rw [tile_Repeat.l1] at hl63
      refine WC.seq (WC.region ?_)
      refine seg 1 [] [1, 3, 6, 8, 9, 38, 39, 42, 43, 44] [(1, (iv p1)), (3, (pt g3)), (6, (pt g6)), (8, (pt g33)), (9, (iv x42)), (38, (iv p2)), (39, (iv x42)), (42, (iv p1)), (43, (iv x55)), (44, (bv (decide (x55 < p1))))] [] (fun fb => by kernel_rfl) rfl trivial ?_
      refine WL.done rfl (WX.next (WC.seq ?_))
      rcases br_some hl63 with ⟨h65, hl63⟩ | ⟨h65, hl63⟩
      ·refine WC.condT2 (fun fb => by kernel_rfl) h65 ?_
       refine WC.skip (WX.next (WC.seq (WC.block (WC.seq (WC.region ?_)))))
       refine seg 2 [] [1, 3, 6, 8, 9, 10, 38, 39, 42, 43] [(1, (iv p1)), (3, (pt g3)), (6, (pt g6)), (8, (pt g33)), (9, (iv x42)), (10, (iv x55)), (38, (iv p2)), (39, (iv x42)), (42, (iv p1)), (43, (iv x55))] [] (fun fb => by kernel_rfl) rfl trivial ?_
       refine WL.done rfl (WX.next ?_)
       obtain ⟨h68, hl63⟩ := as_some hl63
       obtain ⟨h69, hl63⟩ := as_some hl63
       obtain ⟨h70, hl63⟩ := as_some hl63
       refine WC.regionD ([(1, ⟨g33, 2, none⟩, (sv A52 l54 c53)), (3, ⟨g3, 2, none⟩, (sv Aa p0.Cells ca)), (6, ⟨g3, 1, none⟩, (iv p0.Height)), (9, ⟨g3, 0, none⟩, (iv p0.Width)), (13, ⟨g3, 0, none⟩, (iv p0.Width)), (17, ((adr Aa).add ((w64 ((w64 ((Int.tmod x42 p0.Height) * p0.Width)) + (Int.tmod x55 p0.Width))).toNat * 1)), (iv (rdD p0.Cells (w64 ((w64 ((Int.tmod x42 p0.Height) * p0.Width)) + (Int.tmod x55 p0.Width))) 0)))], [0, 1, 2, 3, 4, 5, 6, 7, 8, 9, 10, 11, 12, 13, 14, 15, 16, 17, 20], [[], [0], [], [2], [], [], [5], [4, 5, 6], [], [8], [4, 5, 6, 7, 8, 9], [], [], [12], [11, 12, 13], [4, 5, 6, 7, 8, 9, 10, 11, 12, 13, 14], [2, 3, 4, 5, 6, 7, 8, 9, 10, 11, 12, 13, 14, 15], [2, 3, 4, 5, 6, 7, 8, 9, 10, 11, 12, 13, 14, 15, 16], [2, 3, 4, 5, 6, 7, 8, 9, 10, 11, 12, 13, 14, 15, 16, 17], [0, 1, 2, 3, 4, 5, 6, 7, 8, 9, 10, 11, 12, 13, 14, 15, 16, 17, 18], [0, 1, 2, 3, 4, 5, 6, 7, 8, 9, 10, 11, 12, 13, 14, 15, 16, 17, 18, 19], [0, 1, 2, 3, 4, 5, 6, 7, 8, 9, 10, 11, 12, 13, 14, 15, 16, 17, 18, 19, 20]]) [[0, 1, 2, 3, 4, 5, 6, 7, 8, 9, 10, 11, 12, 13, 14, 15, 16, 17, 18, 19, 20, 21]] (by kernel_rfl) (by kernel_rfl) (NoPanic.block (NoPanic.seq (NoPanic.seq (NoPanic.block (NoPanic.block (NoPanic.seq (NoPanic.seq (NoPanic.block (NoPanic.seq (NoPanic.body)))))))))) ?_
       have hS67 := hS62.drew
       revert hS67
       generalize World.drew w61 = w66
       intro hS67
       refine ⟨⟨hS67.cell 2 rfl 2 rfl, hS67.cell 0 rfl 2 rfl, hS67.cell 0 rfl 1 rfl, hS67.cell 0 rfl 0 rfl, hS67.cell 0 rfl 0 rfl, rowR.cell (hS67.rd 0).1 0 h70.1 h70.2 0 rfl, trivial⟩, forallC ?_ (forallN)⟩
       refine segF 18 [.v (sv A52 l54 c53), .v (sv Aa p0.Cells ca), .v (iv p0.Height), .v (iv p0.Width), .v (iv p0.Width), .v (iv (rdD p0.Cells (w64 ((w64 ((Int.tmod x42 p0.Height) * p0.Width)) + (Int.tmod x55 p0.Width))) 0))] [1, 3, 6, 8, 9, 38, 39, 42, 43, 47, 63] [(1, (iv p1)), (3, (pt g3)), (6, (pt g6)), (8, (pt g33)), (9, (iv x42)), (38, (iv p2)), (39, (iv x42)), (42, (iv p1)), (43, (iv x55)), (47, (sv A52 l54 c53)), (63, (iv (rdD p0.Cells (w64 ((w64 ((Int.tmod x42 p0.Height) * p0.Width)) + (Int.tmod x55 p0.Width))) 0)))] [.ne p0.Height, .ne p0.Width, .idx Aa (w64 ((w64 ((Int.tmod x42 p0.Height) * p0.Width)) + (Int.tmod x55 p0.Width))) p0.Cells.length] [0, 1, 2, 3, 4, 5] [(1, ⟨g33, 2, none⟩, (sv A52 l54 c53)), (3, ⟨g3, 2, none⟩, (sv Aa p0.Cells ca)), (6, ⟨g3, 1, none⟩, (iv p0.Height)), (9, ⟨g3, 0, none⟩, (iv p0.Width)), (13, ⟨g3, 0, none⟩, (iv p0.Width)), (17, ((adr Aa).add ((w64 ((w64 ((Int.tmod x42 p0.Height) * p0.Width)) + (Int.tmod x55 p0.Width))).toNat * 1)), (iv (rdD p0.Cells (w64 ((w64 ((Int.tmod x42 p0.Height) * p0.Width)) + (Int.tmod x55 p0.Width))) 0)))] (fun fb => by kernel_rfl) rfl ⟨h68, h69, rowR.adr (hS67.rd 0).1 h70.1 h70.2, trivial⟩ rfl ?_
       refine WL.new hS67 64 [] (fun g => (.slice (some ⟨g, 0, none⟩) 1 1)) (.cells #[(iv (rdD p0.Cells (w64 ((w64 ((Int.tmod x42 p0.Height) * p0.Width)) + (Int.tmod x55 p0.Width))) 0))] 3 (0, 0)) [] (fun fb g => by kernel_rfl) trivial (fun g71 w72 hS73 => ?_)
       refine ⟨⟨hS73.cell 3 rfl 2 rfl, trivial⟩, ?_⟩
       have hS74 := hS.go w72 [rowO 3 encInt (some ⟨g71, 0, none⟩) 1 [(rdD p0.Cells (w64 ((w64 ((Int.tmod x42 p0.Height) * p0.Width)) + (Int.tmod x55 p0.Width))) 0)], blk g3 (.cells #[(iv p0.Width), (iv p0.Height), (sv Aa p0.Cells ca)] 28 (0, 0)), blk g6 (.cells #[(iv 0), (iv 0), (.slice none 0 0)] 28 (0, 0)), blk g33 (.cells #[(iv p1), (iv p2), (sv A52 l54 c53)] 28 (0, 0)), rowO 3 encInt A52 c53 l54] (hS73.map1 0 _ (fun h => rowO.ofBlk h rfl (Nat.le_of_ble_eq_true (by kernel_rfl))) (fun _ h => by obtain ⟨_, h1, h2⟩ := h; injection h1 with h1; subst h1; exact h2) [1, 2, 3, 4] (by decide) (by decide))
       obtain ⟨h75, hl63⟩ := as_some hl63
       refine WL.append hS74 4 (d := 65) (tS := 24) (z := (iv 0)) (bytes := 8) (c2 := 1) rfl (fun fb => by kernel_rfl) (rowO.rd (hS74.own 0).1) (by kernel_rfl) (by kernel_rfl) rfl (by decide) h75 (by decide) [0, 1, 2, 3] (by decide) (by decide) (fun A76 c77 w78 hS79 => ?_)
       refine ⟨trivial, ?_⟩
       refine seg 21 [] [1, 3, 6, 8, 9, 38, 39, 42, 43, 65, 66] [(1, (iv p1)), (3, (pt g3)), (6, (pt g6)), (8, (pt g33)), (9, (iv x42)), (38, (iv p2)), (39, (iv x42)), (42, (iv p1)), (43, (iv x55)), (65, (sv A76 (l54 ++ [(rdD p0.Cells (w64 ((w64 ((Int.tmod x42 p0.Height) * p0.Width)) + (Int.tmod x55 p0.Width))) 0)]) c77)), (66, (.pointer (some ⟨g33, 2, none⟩)))] [] (fun fb => by kernel_rfl) rfl trivial ?_
       refine WL.store hS79 4 rfl [(2, (sv A76 (l54 ++ [(rdD p0.Cells (w64 ((w64 ((Int.tmod x42 p0.Height) * p0.Width)) + (Int.tmod x55 p0.Width))) 0)]) c77))] #[(iv p1), (iv p2), (sv A76 (l54 ++ [(rdD p0.Cells (w64 ((w64 ((Int.tmod x42 p0.Height) * p0.Width)) + (Int.tmod x55 p0.Width))) 0)]) c77)] (fun fb => by kernel_rfl) (by kernel_rfl) rfl [0, 1, 2, 3] (by decide) (by decide) (fun w80 hS81 => ?_)
       refine ⟨trivial, ?_⟩
       refine WL.done rfl ?_
       refine WX.blockN (WX.next ?_)
       refine WC.region ?_
       refine seg 2 [] [1, 3, 6, 8, 9, 38, 39, 42, 43] [(1, (iv p1)), (3, (pt g3)), (6, (pt g6)), (8, (pt g33)), (9, (iv x42)), (38, (iv p2)), (39, (iv x42)), (42, (iv p1)), (43, (iv (w64 (x55 + 1))))] [] (fun fb => by kernel_rfl) rfl trivial ?_
       refine WL.done rfl ?_
       exact WX.again k60 (Nat.lt_succ_self _) ((l54 ++ [(rdD p0.Cells (w64 ((w64 ((Int.tmod x42 p0.Height) * p0.Width)) + (Int.tmod x55 p0.Width))) 0)], w64 (x55 + 1)), A76, c77) [1, 3, 6, 8, 9, 38, 39, 42, 43] rfl ⟨(hS81.subR [0]).sub [3, 4, 0, 1] (by decide), hl63⟩
      refine WC.condF2 (fun fb => by kernel_rfl) h65 ?_
      refine WC.exit ?_
      injection hl63 with hl63
      exact WX.thenX (WX.thenX (WX.blockHere (WX.to Kx58 (l54, A52, c53) [1, 3, 6, 8, 38, 39] rfl ⟨(hS62.subR [0]).sub [0, 1, 2, 3] (by decide), hl63.symm⟩)))
    rintro ⟨y85, A56, c57⟩ w82 ⟨hS83, hq84⟩
    subst hq84
    refine WX.blockN (WX.next ?_)
    refine WC.region ?_
    refine seg 2 [] [1, 3, 6, 8, 38, 39] [(1, (iv p1)), (3, (pt g3)), (6, (pt g6)), (8, (pt g33)), (38, (iv p2)), (39, (iv (w64 (x42 + 1))))] [] (fun fb => by kernel_rfl) rfl trivial ?_
    refine WL.done rfl ?_
    exact WX.again k47 (Nat.lt_succ_self _) ((x58, w64 (x42 + 1)), A56, c57) [1, 3, 6, 8, 38, 39] rfl ⟨(hS83.subR [0]).sub [0, 1, 2, 3] (by decide), hl50⟩
   refine WC.condF2 (fun fb => by kernel_rfl) h51 ?_
   refine WC.exit ?_
   injection hl50 with hl50
   exact WX.thenX (WX.thenX (WX.blockHere (WX.to Kx45 (l41, A39, c40) [6, 8] rfl ⟨(hS49.subR [0]).sub [1, 2, 3] (by decide), hl50.symm⟩)))
 rintro ⟨y89, A43, c44⟩ w86 ⟨hS87, hq88⟩
 subst hq88
 refine WX.next (WC.seq (WC.region ?_))
 refine seg 1 [.v (iv p1), .v (iv p2), .v (sv A43 x45 c44)] [6, 69] [(6, (pt g6)), (69, (.agg #[(iv p1), (iv p2), (sv A43 x45 c44)]))] [.cell ⟨g33, 0, none⟩ (iv p1), .cell ⟨g33, 1, none⟩ (iv p2), .cell ⟨g33, 2, none⟩ (sv A43 x45 c44)] (fun fb => by kernel_rfl) rfl ⟨hS87.cell 1 rfl 0 rfl, hS87.cell 1 rfl 1 rfl, hS87.cell 1 rfl 2 rfl, trivial⟩ ?_
 refine WL.store hS87 0 rfl [(0, (iv p1)), (1, (iv p2)), (2, (sv A43 x45 c44))] #[(iv p1), (iv p2), (sv A43 x45 c44)] (fun fb => by kernel_rfl) (by kernel_rfl) rfl [1, 2] (by decide) (by decide) (fun w90 hS91 => ?_)
 refine ⟨trivial, ?_⟩
 refine seg 3 [] [6, 7] [(6, (pt g6)), (7, (iv 0))] [] (fun fb => by kernel_rfl) rfl trivial ?_
 refine WL.done rfl (WX.next ?_)
 refine WC.ret ?_
 injection hf with hf
 subst hf
 exact WX.ret_ [.v (iv p1), .v (iv p2), .v (sv A43 x45 c44)] (.tuple #[(.agg #[(iv p1), (iv p2), (sv A43 x45 c44)]), (iv 0)]) [.cell ⟨g6, 0, none⟩ (iv p1), .cell ⟨g6, 1, none⟩ (iv p2), .cell ⟨g6, 2, none⟩ (sv A43 x45 c44)] (fun fb => by kernel_rfl) ⟨hS91.cell 0 rfl 0 rfl, hS91.cell 0 rfl 1 rfl, hS91.cell 0 rfl 2 rfl, trivial⟩ ⟨_, rfl, A43, c44, rfl, (hS91.sub [2] (by decide)).noR⟩
theorem top_chess_calls   (r : (List Tile)) (w : World)  (hf : top_chess = some r) :
  CallsR Tryd.prog 22 #[] w (fun v w' => ∃ (A1_ : Option Addr), ∃ (c1_ : Nat), v = (sv A1_ r c1_) ∧ St NoS w w' [] [rowO 39 enc_Tile A1_ c1_ r]) := by
 have hS : St NoS w w [] [] := St.init (ro_nil _ _)
 refine enter 4 Tryd.func22 rfl Tryd.ntmps22 rfl ?_
 unfold top_chess at hf
 refine WC.seq (WC.region ?_)
 refine seg 1 [] [] [] [] (fun fb => by kernel_rfl) rfl trivial ?_
 refine WL.done rfl (WX.next (WC.seq (WC.region ?_)))
 refine seg 2 [] [1, 2] [(1, (.agg #[(iv 0), (iv 1), (iv 1), (iv 0)])), (2, (.agg #[(iv 1), (iv 0), (iv 0), (iv 1)]))] [] (fun fb => by kernel_rfl) rfl trivial ?_
 refine WL.new hS 3 [] (fun g => (.slice (some ⟨g, 0, none⟩) 2 2)) (.cells #[(iv 0), (iv 1), (iv 1), (iv 0), (iv 1), (iv 0), (iv 0), (iv 1)] 39 (0, 0)) [] (fun fb g => by kernel_rfl) trivial (fun g3 w4 hS5 => ?_)
 refine ⟨trivial, ?_⟩
 have hS6 := hS.go w4 [rowO 39 enc_Tile (some ⟨g3, 0, none⟩) 2 [(Tile.mk 0 1 1 0), (Tile.mk 1 0 0 1)]] (hS5.map1 0 _ (fun h => rowO.ofBlk h rfl (Nat.le_of_ble_eq_true (by kernel_rfl))) (fun _ h => by obtain ⟨_, h1, h2⟩ := h; injection h1 with h1; subst h1; exact h2) [] (by decide) (by decide))
 refine seg 4 [] [0] [(0, (sv (some ⟨g3, 0, none⟩) [(Tile.mk 0 1 1 0), (Tile.mk 1 0 0 1)] 2))] [] (fun fb => by kernel_rfl) rfl trivial ?_
 refine WL.done rfl (WX.next ?_)
 refine WC.ret ?_
 injection hf with hf
 subst hf
 exact WX.ret_ [] (sv (some ⟨g3, 0, none⟩) [(Tile.mk 0 1 1 0), (Tile.mk 1 0 0 1)] 2) [] (fun fb => by kernel_rfl) trivial ⟨_, rfl, (some ⟨g3, 0, none⟩), 2, rfl, (hS6.sub [0] (by decide)).noR⟩
theorem tile_of_1_calls (p0 : Int) (f0 : List Tile) (ga : Nat) (Aa : Option Addr) (ca : Nat) (r : Bool) (w : World) (hR0 : RO NoS w (blk ga (.cells #[(sv Aa f0 ca)] 22 (0, 0)))) (hR1 : RO NoS w (rowR enc_Tile Aa ca f0)) (hf : tile_of_1 p0 f0 = some r) :
  CallsR Tryd.prog 50 #[(iv p0), (pt ga)] w (fun v w' => v = (bv r) ∧ Keeps NoS w w') := by
 have hS : St NoS w w [blk ga (.cells #[(sv Aa f0 ca)] 22 (0, 0)), rowR enc_Tile Aa ca f0] [] := St.init (ro_cons hR0 (ro_cons hR1 (ro_nil _ _)))
 refine enter 12 Tryd.func50 rfl Tryd.ntmps50 rfl ?_
 unfold tile_of_1 at hf
 refine WC.seq (WC.region ?_)
 refine seg 1 [] [0, 1] [(0, (iv p0)), (1, (pt ga))] [] (fun fb => by kernel_rfl) rfl trivial ?_
 refine WL.done rfl (WX.next (WC.seq (WC.region ?_)))
 refine seg 3 [] [0, 1, 6] [(0, (iv p0)), (1, (pt ga)), (6, (bv (decide (p0 < 0))))] [] (fun fb => by kernel_rfl) rfl trivial ?_
 refine WL.cutV (T := Bool) 8 (fun t => [(11, (bv t))]) (fun t => ((decide (p0 < 0)) || (decide (p0 ≥ (f0.length : Int)))) = t) (fun K => ?_) ?_
 ·
  rcases Bool.eq_false_or_eq_true (decide (p0 < 0)) with h2 | h2
  ·
   refine WL.setB 6 h2 rfl ?_
   refine seg 8 [] [11] [(11, (bv true))] [] (fun fb => by kernel_rfl) rfl trivial ?_
   exact WL.toV K true [11] rfl (by first | (rw [h2]; done) | (rw [h2]; rfl))
  refine WL.setB 6 h2 rfl ?_
  refine seg 8 [.v (sv Aa f0 ca)] [11] [(11, (bv (decide (p0 ≥ (f0.length : Int)))))] [.cell ⟨ga, 0, none⟩ (sv Aa f0 ca)] (fun fb => by kernel_rfl) rfl ⟨blk_cell (hS.rd 0).1 0 rfl, trivial⟩ ?_
  exact WL.toV K (decide (p0 ≥ (f0.length : Int))) [11] rfl (by first | (rw [h2]; done) | (rw [h2]; rfl))
 rintro b3 rfl
 refine seg 9 [] [3] [(3, (bv ((decide (p0 < 0)) || (decide (p0 ≥ (f0.length : Int))))))] [] (fun fb => by kernel_rfl) rfl trivial ?_
 refine WL.done rfl (WX.next ?_)
 refine WC.ret ?_
 injection hf with hf
 subst hf
 exact WX.ret_ [] (bv ((decide (p0 < 0)) || (decide (p0 ≥ (f0.length : Int))))) [] (fun fb => by kernel_rfl) trivial ⟨_, rfl, rfl, hS.keep⟩
theorem slices_IndexFunc_int_int_with_tile_of_1_calls (k : Nat) (p0 : List Int) (p1_0 : List Tile) (Aa : Option Addr) (ca : Nat) (ga : Nat) (Ab : Option Addr) (cb : Nat) (r : Int) (w : World) (hR0 : RO NoS w (rowR encInt Aa ca p0)) (hR1 : RO NoS w (blk ga (.cells #[(sv Ab p1_0 cb)] 22 (0, 0)))) (hR2 : RO NoS w (rowR enc_Tile Ab cb p1_0)) (hf : slices_IndexFunc_int_int_with_tile_of_1 k p0 p1_0 = some r) :
  CallsR Tryd.prog 53 #[(sv Aa p0 ca), (.func (.func 50) #[] #[(pt ga)])] w (fun v w' => v = (iv r) ∧ Keeps NoS w w') := by
 have hS : St NoS w w [rowR encInt Aa ca p0, blk ga (.cells #[(sv Ab p1_0 cb)] 22 (0, 0)), rowR enc_Tile Ab cb p1_0] [] := St.init (ro_cons hR0 (ro_cons hR1 (ro_cons hR2 (ro_nil _ _))))
 refine enter 19 Tryd.func53 rfl Tryd.ntmps53 rfl ?_
 unfold slices_IndexFunc_int_int_with_tile_of_1 at hf
 refine WC.seq (WC.region ?_)
 refine seg 1 [] [0, 1] [(0, (sv Aa p0 ca)), (1, (.func (.func 50) #[] #[(pt ga)]))] [] (fun fb => by kernel_rfl) rfl trivial ?_
 refine WL.done rfl (WX.next (WC.seq (WC.seq (WC.region ?_))))
 refine seg 3 [] [0, 1, 7, 8] [(0, (sv Aa p0 ca)), (1, (.func (.func 50) #[] #[(pt ga)])), (7, (iv (p0.length : Int))), (8, (iv 0))] [] (fun fb => by kernel_rfl) rfl trivial ?_
 refine WL.done rfl (WX.next ?_)
 obtain ⟨x4, hx5, hf⟩ := bind_some hf
 refine WC.cutN (T := Unit) (fun t => []) (fun t w1 => St NoS w w1 [rowR encInt Aa ca p0, blk ga (.cells #[(sv Ab p1_0 cb)] 22 (0, 0)), rowR enc_Tile Ab cb p1_0] [] ∧ x4 = .inr t) (fun Kx4 => ?_) ?_
 ·
  refine WC.block ?_
  refine WC.loop (T := Int) (fun t => [(0, (sv Aa p0 ca)), (1, (.func (.func 50) #[] #[(pt ga)])), (7, (iv (p0.length : Int))), (8, (iv t))]) (fun n t w1 => St NoS w w1 [rowR encInt Aa ca p0, blk ga (.cells #[(sv Ab p1_0 cb)] 22 (0, 0)), rowR enc_Tile Ab cb p1_0] [] ∧ slices_IndexFunc_int_int_with_tile_of_1.l0 n t p0 p1_0 = some x4) k 0 [0, 1, 7, 8] rfl ⟨(hS.subR [0, 1, 2]).sub [] (by decide), hx5⟩ ?_
  rintro k6 x3 w7 ⟨hS8, hl9⟩
  cases k6 with
  | zero => rw [slices_IndexFunc_int_int_with_tile_of_1.l0] at hl9; cases hl9
  | succ k6 =>
   rw [slices_IndexFunc_int_int_with_tile_of_1.l0] at hl9
   refine WC.seq (WC.region ?_)
   refine seg 1 [] [0, 1, 7, 8, 9] [(0, (sv Aa p0 ca)), (1, (.func (.func 50) #[] #[(pt ga)])), (7, (iv (p0.length : Int))), (8, (iv x3)), (9, (bv (decide (x3 < (p0.length : Int)))))] [] (fun fb => by kernel_rfl) rfl trivial ?_
   refine WL.done rfl (WX.next (WC.seq ?_))
   rcases br_some hl9 with ⟨h10, hl9⟩ | ⟨h10, hl9⟩
   ·refine WC.condT2 (fun fb => by kernel_rfl) h10 ?_
    refine WC.skip (WX.next (WC.seq (WC.block (WC.seq (WC.region ?_)))))
    refine seg 2 [] [0, 1, 5, 7, 8] [(0, (sv Aa p0 ca)), (1, (.func (.func 50) #[] #[(pt ga)])), (5, (iv x3)), (7, (iv (p0.length : Int))), (8, (iv x3))] [] (fun fb => by kernel_rfl) rfl trivial ?_
    refine WL.done rfl (WX.next (WC.seq (WC.region ?_)))
    refine seg 3 [] [0, 1, 5, 7, 8, 11, 12, 13] [(0, (sv Aa p0 ca)), (1, (.func (.func 50) #[] #[(pt ga)])), (5, (iv x3)), (7, (iv (p0.length : Int))), (8, (iv x3)), (11, (.func (.func 50) #[] #[(pt ga)])), (12, (sv Aa p0 ca)), (13, (iv x3))] [] (fun fb => by kernel_rfl) rfl trivial ?_
    obtain ⟨h11, hl9⟩ := as_some hl9
    refine seg 5 [.v (iv (rdD p0 x3 0))] [0, 1, 5, 7, 8, 11, 15] [(0, (sv Aa p0 ca)), (1, (.func (.func 50) #[] #[(pt ga)])), (5, (iv x3)), (7, (iv (p0.length : Int))), (8, (iv x3)), (11, (.func (.func 50) #[] #[(pt ga)])), (15, (iv (rdD p0 x3 0)))] [.idx Aa x3 p0.length, .cell ((adr Aa).add ((x3).toNat * 1)) (iv (rdD p0 x3 0))] (fun fb => by kernel_rfl) rfl ⟨rowR.adr (hS8.rd 0).1 h11.1 h11.2, rowR.cell (hS8.rd 0).1 0 h11.1 h11.2 0 rfl, trivial⟩ ?_
    obtain ⟨t12, ht13, hl9⟩ := bind_some hl9
    refine WL.call (some 16) 50 #[(iv (rdD p0 x3 0)), (pt ga)] (fun fb => by kernel_rfl) (tile_of_1_calls (rdD p0 x3 0) p1_0 ga Ab cb t12 _ (hS8.rd 1) (hS8.rd 2) ht13) (fun v w14 hR15 => ?_)
    obtain ⟨rfl, hk_⟩ := hR15
    have hS16 := hS8.keepN hk_
    refine ⟨trivial, ?_⟩
    refine WL.done rfl (WX.next ?_)
    rcases br_some hl9 with ⟨h17, hl9⟩ | ⟨h17, hl9⟩
    ·refine WC.condT2 (fun fb => by kernel_rfl) h17 ?_
     refine WC.seq (WC.region ?_)
     refine seg 2 [] [4] [(4, (iv x3))] [] (fun fb => by kernel_rfl) rfl trivial ?_
     refine WL.done rfl (WX.next ?_)
     refine WC.ret ?_
     injection hl9 with hl9
     subst hl9
     injection hf with hf
     subst hf
     exact WX.blockR (WX.thenR (WX.thenR (WX.blockR (WX.thenR (WX.ret_ [] (iv x3) [] (fun fb => by kernel_rfl) trivial ⟨_, rfl, rfl, hS16.keep⟩)))))
    refine WC.condF2 (fun fb => by kernel_rfl) h17 ?_
    refine WC.skip ?_
    refine WX.blockN (WX.next ?_)
    refine WC.region ?_
    refine seg 2 [] [0, 1, 7, 8] [(0, (sv Aa p0 ca)), (1, (.func (.func 50) #[] #[(pt ga)])), (7, (iv (p0.length : Int))), (8, (iv (w64 (x3 + 1))))] [] (fun fb => by kernel_rfl) rfl trivial ?_
    refine WL.done rfl ?_
    exact WX.again k6 (Nat.lt_succ_self _) (w64 (x3 + 1)) [0, 1, 7, 8] rfl ⟨(hS16.subR [0, 1, 2]).sub [] (by decide), hl9⟩
   refine WC.condF2 (fun fb => by kernel_rfl) h10 ?_
   refine WC.exit ?_
   injection hl9 with hl9
   exact WX.thenX (WX.thenX (WX.blockHere (WX.to Kx4 () [] rfl ⟨(hS8.subR [0, 1, 2]).sub [] (by decide), hl9.symm⟩)))
 rintro y21 w18 ⟨hS19, hq20⟩
 subst hq20
 have hf := sum_inr hf
 refine WX.next (WC.seq (WC.region ?_))
 refine seg 1 [] [4] [(4, (iv (-1)))] [] (fun fb => by kernel_rfl) rfl trivial ?_
 refine WL.done rfl (WX.next ?_)
 refine WC.ret ?_
 injection hf with hf
 subst hf
 exact WX.ret_ [] (iv (-1)) [] (fun fb => by kernel_rfl) trivial ⟨_, rfl, rfl, hS19.keep⟩
theorem slices_ContainsFunc_int_int_with_tile_of_1_calls (k : Nat) (p0 : List Int) (p1_0 : List Tile) (Aa : Option Addr) (ca : Nat) (ga : Nat) (Ab : Option Addr) (cb : Nat) (r : Bool) (w : World) (hR0 : RO NoS w (rowR encInt Aa ca p0)) (hR1 : RO NoS w (blk ga (.cells #[(sv Ab p1_0 cb)] 22 (0, 0)))) (hR2 : RO NoS w (rowR enc_Tile Ab cb p1_0)) (hf : slices_ContainsFunc_int_int_with_tile_of_1 k p0 p1_0 = some r) :
  CallsR Tryd.prog 49 #[(sv Aa p0 ca), (.func (.func 50) #[] #[(pt ga)])] w (fun v w' => v = (bv r) ∧ Keeps NoS w w') := by
 have hS : St NoS w w [rowR encInt Aa ca p0, blk ga (.cells #[(sv Ab p1_0 cb)] 22 (0, 0)), rowR enc_Tile Ab cb p1_0] [] := St.init (ro_cons hR0 (ro_cons hR1 (ro_cons hR2 (ro_nil _ _))))
 refine enter 9 Tryd.func49 rfl Tryd.ntmps49 rfl ?_
 unfold slices_ContainsFunc_int_int_with_tile_of_1 at hf
 refine WC.seq (WC.region ?_)
 refine seg 1 [] [0, 1] [(0, (sv Aa p0 ca)), (1, (.func (.func 50) #[] #[(pt ga)]))] [] (fun fb => by kernel_rfl) rfl trivial ?_
 refine WL.done rfl (WX.next (WC.seq (WC.region ?_)))
 refine seg 2 [] [5, 6] [(5, (sv Aa p0 ca)), (6, (.func (.func 50) #[] #[(pt ga)]))] [] (fun fb => by kernel_rfl) rfl trivial ?_
 obtain ⟨t3, ht4, hf⟩ := bind_some hf
 refine WL.call (some 7) 53 #[(sv Aa p0 ca), (.func (.func 50) #[] #[(pt ga)])] (fun fb => by kernel_rfl) (slices_IndexFunc_int_int_with_tile_of_1_calls _ p0 p1_0 Aa ca ga Ab cb t3 _ (hS.rd 0) (hS.rd 1) (hS.rd 2) ht4) (fun v w5 hR6 => ?_)
 obtain ⟨rfl, hk_⟩ := hR6
 have hS7 := hS.keepN hk_
 refine ⟨trivial, ?_⟩
 refine seg 5 [] [4] [(4, (bv (decide (t3 ≥ 0))))] [] (fun fb => by kernel_rfl) rfl trivial ?_
 refine WL.done rfl (WX.next ?_)
 refine WC.ret ?_
 injection hf with hf
 subst hf
 exact WX.ret_ [] (bv (decide (t3 ≥ 0))) [] (fun fb => by kernel_rfl) trivial ⟨_, rfl, rfl, hS7.keep⟩
theorem tile_of_calls (k : Nat) (p0 : List Tile) (p1 : Pattern) (Aa : Option Addr) (ca : Nat) (Ab : Option Addr) (cb : Nat) (r : Bool) (w : World) (hR0 : RO NoS w (rowR enc_Tile Aa ca p0)) (hR1 : RO NoS w (rowR encInt Ab cb p1.Cells)) (hf : tile_of k p0 p1 = some r) :
  CallsR Tryd.prog 40 #[(sv Aa p0 ca), (.agg #[(iv p1.Width), (iv p1.Height), (sv Ab p1.Cells cb)])] w (fun v w' => v = (bv r) ∧ Keeps NoS w w') := by
 have hS : St NoS w w [rowR enc_Tile Aa ca p0, rowR encInt Ab cb p1.Cells] [] := St.init (ro_cons hR0 (ro_cons hR1 (ro_nil _ _)))
 refine enter 18 Tryd.func40 rfl Tryd.ntmps40 rfl ?_
 unfold tile_of at hf
 refine WC.seq (WC.region ?_)
 refine WL.new hS 2 [] (fun g => (pt g)) (.cells #[(sv Aa p0 ca)] 22 (0, 0)) [] (fun fb g => by kernel_rfl) trivial (fun g2 w3 hS4 => ?_)
 refine ⟨trivial, ?_⟩
 refine WL.new hS4 3 [] (fun g => (pt g)) (.cells #[(iv p1.Width), (iv p1.Height), (sv Ab p1.Cells cb)] 28 (0, 0)) [] (fun fb g => by kernel_rfl) trivial (fun g5 w6 hS7 => ?_)
 refine ⟨trivial, ?_⟩
 refine seg 3 [] [2, 3] [(2, (pt g2)), (3, (pt g5))] [] (fun fb => by kernel_rfl) rfl trivial ?_
 refine WL.done rfl (WX.next (WC.seq (WC.region ?_)))
 refine seg 1 [.v (sv Aa p0 ca)] [2, 3, 5] [(2, (pt g2)), (3, (pt g5)), (5, (sv Aa p0 ca))] [.cell ⟨g2, 0, none⟩ (sv Aa p0 ca)] (fun fb => by kernel_rfl) rfl ⟨hS7.cell 1 rfl 0 rfl, trivial⟩ ?_
 obtain ⟨t8, ht9, hf⟩ := bind_some hf
 refine WL.call (some 6) 25 #[(sv Aa p0 ca)] (fun fb => by kernel_rfl) (tile_Valid_calls _ p0 Aa ca t8 _ (hS7.rd 0) ht9) (fun v w10 hR11 => ?_)
 obtain ⟨rfl, hk_⟩ := hR11
 have hS12 := hS7.keepN hk_
 refine ⟨trivial, ?_⟩
 refine seg 3 [] [2, 3, 7] [(2, (pt g2)), (3, (pt g5)), (7, (bv t8))] [] (fun fb => by kernel_rfl) rfl trivial ?_
 obtain ⟨x13, hx14, hf⟩ := bind_some hf
 refine WL.cutW (T := Bool) 6 (fun t => [(2, (pt g2)), (3, (pt g5)), (10, (bv t))]) (fun t w1 => (St NoS w w1 [rowR enc_Tile Aa ca p0, rowR encInt Ab cb p1.Cells] [blk g2 (.cells #[(sv Aa p0 ca)] 22 (0, 0)), blk g5 (.cells #[(iv p1.Width), (iv p1.Height), (sv Ab p1.Cells cb)] 28 (0, 0))] ∧ x13 = t) ∧ CellsOK [] w1) (fun K => ?_) ?_
 ·
  rcases br_some hx14 with ⟨h15, hx14⟩ | ⟨h15, hx14⟩
  ·
   refine WL.setB 7 h15 rfl ?_
   refine seg 4 [.v (iv p1.Width), .v (iv p1.Height), .v (sv Ab p1.Cells cb)] [2, 3, 7, 8] [(2, (pt g2)), (3, (pt g5)), (7, (bv true)), (8, (.agg #[(iv p1.Width), (iv p1.Height), (sv Ab p1.Cells cb)]))] [.cell ⟨g5, 0, none⟩ (iv p1.Width), .cell ⟨g5, 1, none⟩ (iv p1.Height), .cell ⟨g5, 2, none⟩ (sv Ab p1.Cells cb)] (fun fb => by kernel_rfl) rfl ⟨hS12.cell 0 rfl 0 rfl, hS12.cell 0 rfl 1 rfl, hS12.cell 0 rfl 2 rfl, trivial⟩ ?_
   obtain ⟨t16, ht17, hx14⟩ := bind_some hx14
   refine WL.call (some 9) 39 #[(.agg #[(iv p1.Width), (iv p1.Height), (sv Ab p1.Cells cb)])] (fun fb => by kernel_rfl) (tile_Form_calls p1 Ab cb t16 _ (hS12.rd 1) ht17) (fun v w18 hR19 => ?_)
   obtain ⟨rfl, hk_⟩ := hR19
   have hS20 := hS12.keepN hk_
   refine ⟨trivial, ?_⟩
   refine seg 6 [] [2, 3, 10] [(2, (pt g2)), (3, (pt g5)), (10, (bv t16))] [] (fun fb => by kernel_rfl) rfl trivial ?_
   injection hx14 with hx14
   exact WL.to K t16 [2, 3, 10] rfl ⟨⟨(hS20.subR [0, 1]).sub [1, 0] (by decide), hx14.symm⟩, trivial⟩
  refine WL.setB 7 h15 rfl ?_
  refine seg 6 [] [2, 3, 10] [(2, (pt g2)), (3, (pt g5)), (10, (bv false))] [] (fun fb => by kernel_rfl) rfl trivial ?_
  injection hx14 with hx14
  exact WL.to K false [2, 3, 10] rfl ⟨⟨(hS12.subR [0, 1]).sub [1, 0] (by decide), hx14.symm⟩, trivial⟩
 rintro y21 w23 ⟨⟨hS24, hq22⟩, hF25⟩
 subst hq22
 refine seg 7 [] [2, 3, 11] [(2, (pt g2)), (3, (pt g5)), (11, (bv x13))] [] (fun fb => by kernel_rfl) rfl trivial ?_
 obtain ⟨x26, hx27, hf⟩ := bind_some hf
 refine WL.cutW (T := Bool) 13 (fun t => [(17, (bv t))]) (fun t w1 => (St NoS w w1 [rowR enc_Tile Aa ca p0, rowR encInt Ab cb p1.Cells] [] ∧ x26 = t) ∧ CellsOK [] w1) (fun K => ?_) ?_
 ·
  rcases br_some hx27 with ⟨h28, hx27⟩ | ⟨h28, hx27⟩
  ·
   refine WL.setB 11 h28 rfl ?_
   refine seg 10 [.v (sv Ab p1.Cells cb)] [11, 13, 14] [(11, (bv true)), (13, (sv Ab p1.Cells cb)), (14, (.func (.func 50) #[] #[(pt g2)]))] [.cell ⟨g5, 2, none⟩ (sv Ab p1.Cells cb)] (fun fb => by kernel_rfl) rfl ⟨hS24.cell 1 rfl 2 rfl, trivial⟩ ?_
   obtain ⟨t29, ht30, hx27⟩ := bind_some hx27
   refine WL.call (some 15) 49 #[(sv Ab p1.Cells cb), (.func (.func 50) #[] #[(pt g2)])] (fun fb => by kernel_rfl) (slices_ContainsFunc_int_int_with_tile_of_1_calls _ p1.Cells p0 Ab cb g2 Aa ca t29 _ (hS24.rd 1) (hS24.ow 0) (hS24.rd 0) ht30) (fun v w31 hR32 => ?_)
   obtain ⟨rfl, hk_⟩ := hR32
   have hS33 := hS24.keepN hk_
   refine ⟨trivial, ?_⟩
   refine seg 13 [] [17] [(17, (bv (!t29)))] [] (fun fb => by kernel_rfl) rfl trivial ?_
   injection hx27 with hx27
   exact WL.to K (!t29) [17] rfl ⟨⟨(hS33.subR [0, 1]).sub [] (by decide), hx27.symm⟩, trivial⟩
  refine WL.setB 11 h28 rfl ?_
  refine seg 13 [] [17] [(17, (bv false))] [] (fun fb => by kernel_rfl) rfl trivial ?_
  injection hx27 with hx27
  exact WL.to K false [17] rfl ⟨⟨(hS24.subR [0, 1]).sub [] (by decide), hx27.symm⟩, trivial⟩
 rintro y34 w36 ⟨⟨hS37, hq35⟩, hF38⟩
 subst hq35
 refine seg 14 [] [4] [(4, (bv x26))] [] (fun fb => by kernel_rfl) rfl trivial ?_
 refine WL.done rfl (WX.next ?_)
 refine WC.ret ?_
 injection hf with hf
 subst hf
 exact WX.ret_ [] (bv x26) [] (fun fb => by kernel_rfl) trivial ⟨_, rfl, rfl, hS37.keep⟩
theorem tile_joins_calls (k : Nat) (p0 : List Tile) (p1 : Pattern) (p2 : Bool) (Aa : Option Addr) (ca : Nat) (Ab : Option Addr) (cb : Nat) (r : Bool) (w : World) (hR0 : RO NoS w (rowR enc_Tile Aa ca p0)) (hR1 : RO NoS w (rowR encInt Ab cb p1.Cells)) (hf : tile_joins k p0 p1 p2 = some r) :
  CallsR Tryd.prog 41 #[(sv Aa p0 ca), (.agg #[(iv p1.Width), (iv p1.Height), (sv Ab p1.Cells cb)]), (bv p2)] w (fun v w' => v = (bv r) ∧ Keeps NoS w w') := by
 have hS : St NoS w w [rowR enc_Tile Aa ca p0, rowR encInt Ab cb p1.Cells] [] := St.init (ro_cons hR0 (ro_cons hR1 (ro_nil _ _)))
 refine enter 92 Tryd.func41 rfl Tryd.ntmps41 rfl ?_
 unfold tile_joins at hf
 refine WC.seq (WC.region ?_)
 refine WL.new hS 4 [] (fun g => (pt g)) (.cells #[(iv p1.Width), (iv p1.Height), (sv Ab p1.Cells cb)] 28 (0, 0)) [] (fun fb g => by kernel_rfl) trivial (fun g3 w4 hS5 => ?_)
 refine ⟨trivial, ?_⟩
 refine seg 2 [] [0, 2, 4] [(0, (sv Aa p0 ca)), (2, (bv p2)), (4, (pt g3))] [] (fun fb => by kernel_rfl) rfl trivial ?_
 refine WL.done rfl (WX.next (WC.seq (WC.seq (WC.region ?_))))
 refine seg 4 [.v (sv Ab p1.Cells cb)] [0, 2, 4, 12, 13, 14] [(0, (sv Aa p0 ca)), (2, (bv p2)), (4, (pt g3)), (12, (sv Ab p1.Cells cb)), (13, (iv (p1.Cells.length : Int))), (14, (iv 0))] [.cell ⟨g3, 2, none⟩ (sv Ab p1.Cells cb)] (fun fb => by kernel_rfl) rfl ⟨hS5.cell 0 rfl 2 rfl, trivial⟩ ?_
 refine WL.done rfl (WX.next ?_)
 obtain ⟨x7, hx8, hf⟩ := bind_some hf
 refine WC.cutN (T := Unit) (fun t => []) (fun t w1 => St NoS w w1 [rowR enc_Tile Aa ca p0, rowR encInt Ab cb p1.Cells] [] ∧ x7 = .inr t) (fun Kx7 => ?_) ?_
 ·
  refine WC.block ?_
  refine WC.loop (T := Int) (fun t => [(0, (sv Aa p0 ca)), (2, (bv p2)), (4, (pt g3)), (12, (sv Ab p1.Cells cb)), (13, (iv (p1.Cells.length : Int))), (14, (iv t))]) (fun n t w1 => St NoS w w1 [rowR enc_Tile Aa ca p0, rowR encInt Ab cb p1.Cells] [blk g3 (.cells #[(iv p1.Width), (iv p1.Height), (sv Ab p1.Cells cb)] 28 (0, 0))] ∧ tile_joins.l0 n t p0 p1 p2 = some x7) k 0 [0, 2, 4, 12, 13, 14] rfl ⟨(hS5.subR [0, 1]).sub [0] (by decide), hx8⟩ ?_
  rintro k9 x6 w10 ⟨hS11, hl12⟩
  cases k9 with
  | zero => rw [tile_joins.l0] at hl12; cases hl12
  | succ k9 =>
   rw [tile_joins.l0] at hl12
   refine WC.seq (WC.region ?_)
   refine seg 1 [] [0, 2, 4, 12, 13, 14, 15] [(0, (sv Aa p0 ca)), (2, (bv p2)), (4, (pt g3)), (12, (sv Ab p1.Cells cb)), (13, (iv (p1.Cells.length : Int))), (14, (iv x6)), (15, (bv (decide (x6 < (p1.Cells.length : Int)))))] [] (fun fb => by kernel_rfl) rfl trivial ?_
   refine WL.done rfl (WX.next (WC.seq ?_))
   rcases br_some hl12 with ⟨h13, hl12⟩ | ⟨h13, hl12⟩
   ·refine WC.condT2 (fun fb => by kernel_rfl) h13 ?_
    refine WC.skip (WX.next (WC.seq (WC.block (WC.seq (WC.region ?_)))))
    refine seg 1 [] [0, 2, 4, 12, 13, 14, 16] [(0, (sv Aa p0 ca)), (2, (bv p2)), (4, (pt g3)), (12, (sv Ab p1.Cells cb)), (13, (iv (p1.Cells.length : Int))), (14, (iv x6)), (16, (iv x6))] [] (fun fb => by kernel_rfl) rfl trivial ?_
    obtain ⟨h14, hl12⟩ := as_some hl12
    refine seg 5 [.v (iv (rdD p1.Cells x6 0))] [0, 2, 4, 7, 8, 12, 13, 14] [(0, (sv Aa p0 ca)), (2, (bv p2)), (4, (pt g3)), (7, (iv x6)), (8, (iv (rdD p1.Cells x6 0))), (12, (sv Ab p1.Cells cb)), (13, (iv (p1.Cells.length : Int))), (14, (iv x6))] [.idx Ab x6 p1.Cells.length, .cell ((adr Ab).add ((x6).toNat * 1)) (iv (rdD p1.Cells x6 0))] (fun fb => by kernel_rfl) rfl ⟨rowR.adr (hS11.rd 1).1 h14.1 h14.2, rowR.cell (hS11.rd 1).1 0 h14.1 h14.2 0 rfl, trivial⟩ ?_
    refine WL.done rfl (WX.next (WC.seq ?_))
    obtain ⟨h17, hl12⟩ := as_some hl12
    refine WC.regionD ([(2, ⟨g3, 0, none⟩, (iv p1.Width)), (6, ⟨g3, 0, none⟩, (iv p1.Width))], [0, 1, 2, 3, 4, 5, 6, 7, 8, 9], [[], [], [1], [0, 1, 2], [], [], [5], [4, 5, 6], [0, 1, 2, 3], [0, 1, 2, 3, 4, 5, 6, 7, 8]]) [[0, 1, 2, 3, 4, 5, 6, 7, 8, 9]] (by kernel_rfl) (by kernel_rfl) (NoPanic.seq (NoPanic.block (NoPanic.seq (NoPanic.seq (NoPanic.block (NoPanic.seq (NoPanic.body))))))) ?_
    have hS16 := hS11.drew
    revert hS16
    generalize World.drew w10 = w15
    intro hS16
    refine ⟨⟨hS16.cell 0 rfl 0 rfl, hS16.cell 0 rfl 0 rfl, trivial⟩, forallC ?_ (forallN)⟩
    refine segF 10 [.v (iv p1.Width), .v (iv p1.Width)] [0, 2, 4, 8, 9, 10, 12, 13, 14] [(0, (sv Aa p0 ca)), (2, (bv p2)), (4, (pt g3)), (8, (iv (rdD p1.Cells x6 0))), (9, (iv (Int.tmod x6 p1.Width))), (10, (iv (w64 (Int.tdiv x6 p1.Width)))), (12, (sv Ab p1.Cells cb)), (13, (iv (p1.Cells.length : Int))), (14, (iv x6))] [.ne p1.Width, .ne p1.Width] [0, 1] [(2, ⟨g3, 0, none⟩, (iv p1.Width)), (6, ⟨g3, 0, none⟩, (iv p1.Width))] (fun fb => by kernel_rfl) rfl ⟨h17, h17, trivial⟩ rfl ?_
    refine WL.done rfl (WX.next (WC.seq (WC.seq (WC.region ?_))))
    refine seg 6 [.v (iv p1.Width)] [0, 2, 4, 8, 9, 10, 12, 13, 14, 32] [(0, (sv Aa p0 ca)), (2, (bv p2)), (4, (pt g3)), (8, (iv (rdD p1.Cells x6 0))), (9, (iv (Int.tmod x6 p1.Width))), (10, (iv (w64 (Int.tdiv x6 p1.Width)))), (12, (sv Ab p1.Cells cb)), (13, (iv (p1.Cells.length : Int))), (14, (iv x6)), (32, (bv (decide (w64 ((Int.tmod x6 p1.Width) + 1) < p1.Width))))] [.cell ⟨g3, 0, none⟩ (iv p1.Width)] (fun fb => by kernel_rfl) rfl ⟨hS16.cell 0 rfl 0 rfl, trivial⟩ ?_
    refine WL.cutV (T := Bool) 8 (fun t => [(34, (bv t)), (0, (sv Aa p0 ca)), (2, (bv p2)), (4, (pt g3)), (8, (iv (rdD p1.Cells x6 0))), (9, (iv (Int.tmod x6 p1.Width))), (10, (iv (w64 (Int.tdiv x6 p1.Width)))), (12, (sv Ab p1.Cells cb)), (13, (iv (p1.Cells.length : Int))), (14, (iv x6))]) (fun t => ((decide (w64 ((Int.tmod x6 p1.Width) + 1) < p1.Width)) || p2) = t) (fun K => ?_) ?_
    ·
     rcases Bool.eq_false_or_eq_true (decide (w64 ((Int.tmod x6 p1.Width) + 1) < p1.Width)) with h18 | h18
     ·
      refine WL.setB 32 h18 rfl ?_
      refine seg 8 [] [0, 2, 4, 8, 9, 10, 12, 13, 14, 34] [(0, (sv Aa p0 ca)), (2, (bv p2)), (4, (pt g3)), (8, (iv (rdD p1.Cells x6 0))), (9, (iv (Int.tmod x6 p1.Width))), (10, (iv (w64 (Int.tdiv x6 p1.Width)))), (12, (sv Ab p1.Cells cb)), (13, (iv (p1.Cells.length : Int))), (14, (iv x6)), (34, (bv true))] [] (fun fb => by kernel_rfl) rfl trivial ?_
      exact WL.toV K true [34, 0, 2, 4, 8, 9, 10, 12, 13, 14] rfl (by first | (rw [h18]; done) | (rw [h18]; rfl))
     refine WL.setB 32 h18 rfl ?_
     refine seg 8 [] [0, 2, 4, 8, 9, 10, 12, 13, 14, 34] [(0, (sv Aa p0 ca)), (2, (bv p2)), (4, (pt g3)), (8, (iv (rdD p1.Cells x6 0))), (9, (iv (Int.tmod x6 p1.Width))), (10, (iv (w64 (Int.tdiv x6 p1.Width)))), (12, (sv Ab p1.Cells cb)), (13, (iv (p1.Cells.length : Int))), (14, (iv x6)), (34, (bv p2))] [] (fun fb => by kernel_rfl) rfl trivial ?_
     exact WL.toV K p2 [34, 0, 2, 4, 8, 9, 10, 12, 13, 14] rfl (by first | (rw [h18]; done) | (rw [h18]; rfl))
    rintro b19 rfl
    refine WL.done rfl (WX.next ?_)
    obtain ⟨x20, hx21, hl12⟩ := bind_some hl12
    refine WC.cutN (T := Unit) (fun t => [(0, (sv Aa p0 ca)), (2, (bv p2)), (4, (pt g3)), (8, (iv (rdD p1.Cells x6 0))), (9, (iv (Int.tmod x6 p1.Width))), (10, (iv (w64 (Int.tdiv x6 p1.Width)))), (12, (sv Ab p1.Cells cb)), (13, (iv (p1.Cells.length : Int))), (14, (iv x6))]) (fun t w1 => St NoS w w1 [rowR enc_Tile Aa ca p0, rowR encInt Ab cb p1.Cells] [blk g3 (.cells #[(iv p1.Width), (iv p1.Height), (sv Ab p1.Cells cb)] 28 (0, 0))] ∧ x20 = .inr t) (fun Kx20 => ?_) ?_
    ·
     rcases br_some hx21 with ⟨h22, hx21⟩ | ⟨h22, hx21⟩
     ·refine WC.condT2 (fun fb => by kernel_rfl) h22 ?_
      refine WC.seq ?_
      obtain ⟨h25, hx21⟩ := as_some hx21
      obtain ⟨h26, hx21⟩ := as_some hx21
      obtain ⟨h27, hx21⟩ := as_some hx21
      refine WC.regionD ([(4, (((adr Aa).add (((rdD p1.Cells x6 0)).toNat * 4)).add 1), (iv ((rdD p0 (rdD p1.Cells x6 0) z_Tile).E))), (7, ⟨g3, 2, none⟩, (sv Ab p1.Cells cb)), (10, ⟨g3, 0, none⟩, (iv p1.Width)), (15, ⟨g3, 0, none⟩, (iv p1.Width)), (19, ((adr Ab).add ((w64 ((w64 ((w64 (Int.tdiv x6 p1.Width)) * p1.Width)) + (Int.tmod (w64 ((Int.tmod x6 p1.Width) + 1)) p1.Width))).toNat * 1)), (iv (rdD p1.Cells (w64 ((w64 ((w64 (Int.tdiv x6 p1.Width)) * p1.Width)) + (Int.tmod (w64 ((Int.tmod x6 p1.Width) + 1)) p1.Width))) 0))), (22, (((adr Aa).add (((rdD p1.Cells (w64 ((w64 ((w64 (Int.tdiv x6 p1.Width)) * p1.Width)) + (Int.tmod (w64 ((Int.tmod x6 p1.Width) + 1)) p1.Width))) 0)).toNat * 4)).add 3), (iv ((rdD p0 (rdD p1.Cells (w64 ((w64 ((w64 (Int.tdiv x6 p1.Width)) * p1.Width)) + (Int.tmod (w64 ((Int.tmod x6 p1.Width) + 1)) p1.Width))) 0) z_Tile).W)))], [0, 1, 2, 3, 4, 5, 6, 7, 8, 9, 10, 11, 12, 13, 14, 15, 16, 17, 18, 19, 20, 21, 22, 23], [[], [], [0, 1], [0, 1, 2], [0, 1, 2, 3], [], [], [6], [], [], [9], [8, 9, 10], [], [12], [], [14], [12, 13, 14, 15], [8, 9, 10, 11, 12, 13, 14, 15, 16], [6, 7, 8, 9, 10, 11, 12, 13, 14, 15, 16, 17], [6, 7, 8, 9, 10, 11, 12, 13, 14, 15, 16, 17, 18], [5, 6, 7, 8, 9, 10, 11, 12, 13, 14, 15, 16, 17, 18, 19], [5, 6, 7, 8, 9, 10, 11, 12, 13, 14, 15, 16, 17, 18, 19, 20], [5, 6, 7, 8, 9, 10, 11, 12, 13, 14, 15, 16, 17, 18, 19, 20, 21], [0, 1, 2, 3, 4, 5, 6, 7, 8, 9, 10, 11, 12, 13, 14, 15, 16, 17, 18, 19, 20, 21, 22]]) [[0, 1, 2, 3, 4, 5, 6, 7, 8, 9, 10, 11, 12, 13, 14, 15, 16, 17, 18, 19, 20, 21, 22, 23]] (by kernel_rfl) (by kernel_rfl) (NoPanic.seq (NoPanic.seq (NoPanic.block (NoPanic.seq (NoPanic.seq (NoPanic.block (NoPanic.seq (NoPanic.body)))))))) ?_
      have hS24 := hS16.drew
      revert hS24
      generalize World.drew w15 = w23
      intro hS24
      refine ⟨⟨rowR.cell (hS24.rd 0).1 z_Tile h25.1 h25.2 1 rfl, hS24.cell 0 rfl 2 rfl, hS24.cell 0 rfl 0 rfl, hS24.cell 0 rfl 0 rfl, rowR.cell (hS24.rd 1).1 0 h26.1 h26.2 0 rfl, rowR.cell (hS24.rd 0).1 z_Tile h27.1 h27.2 3 rfl, trivial⟩, forallC ?_ (forallN)⟩
      refine segF 24 [.v (iv ((rdD p0 (rdD p1.Cells x6 0) z_Tile).E)), .v (sv Ab p1.Cells cb), .v (iv p1.Width), .v (iv p1.Width), .v (iv (rdD p1.Cells (w64 ((w64 ((w64 (Int.tdiv x6 p1.Width)) * p1.Width)) + (Int.tmod (w64 ((Int.tmod x6 p1.Width) + 1)) p1.Width))) 0)), .v (iv ((rdD p0 (rdD p1.Cells (w64 ((w64 ((w64 (Int.tdiv x6 p1.Width)) * p1.Width)) + (Int.tmod (w64 ((Int.tmod x6 p1.Width) + 1)) p1.Width))) 0) z_Tile).W))] [0, 2, 4, 8, 9, 10, 12, 13, 14, 58] [(0, (sv Aa p0 ca)), (2, (bv p2)), (4, (pt g3)), (8, (iv (rdD p1.Cells x6 0))), (9, (iv (Int.tmod x6 p1.Width))), (10, (iv (w64 (Int.tdiv x6 p1.Width)))), (12, (sv Ab p1.Cells cb)), (13, (iv (p1.Cells.length : Int))), (14, (iv x6)), (58, (bv (((rdD p0 (rdD p1.Cells x6 0) z_Tile).E) != ((rdD p0 (rdD p1.Cells (w64 ((w64 ((w64 (Int.tdiv x6 p1.Width)) * p1.Width)) + (Int.tmod (w64 ((Int.tmod x6 p1.Width) + 1)) p1.Width))) 0) z_Tile).W))))] [.idx Aa (rdD p1.Cells x6 0) p0.length, .ne p1.Width, .idx Ab (w64 ((w64 ((w64 (Int.tdiv x6 p1.Width)) * p1.Width)) + (Int.tmod (w64 ((Int.tmod x6 p1.Width) + 1)) p1.Width))) p1.Cells.length, .idx Aa (rdD p1.Cells (w64 ((w64 ((w64 (Int.tdiv x6 p1.Width)) * p1.Width)) + (Int.tmod (w64 ((Int.tmod x6 p1.Width) + 1)) p1.Width))) 0) p0.length] [0, 1, 2, 3, 4, 5] [(4, (((adr Aa).add (((rdD p1.Cells x6 0)).toNat * 4)).add 1), (iv ((rdD p0 (rdD p1.Cells x6 0) z_Tile).E))), (7, ⟨g3, 2, none⟩, (sv Ab p1.Cells cb)), (10, ⟨g3, 0, none⟩, (iv p1.Width)), (15, ⟨g3, 0, none⟩, (iv p1.Width)), (19, ((adr Ab).add ((w64 ((w64 ((w64 (Int.tdiv x6 p1.Width)) * p1.Width)) + (Int.tmod (w64 ((Int.tmod x6 p1.Width) + 1)) p1.Width))).toNat * 1)), (iv (rdD p1.Cells (w64 ((w64 ((w64 (Int.tdiv x6 p1.Width)) * p1.Width)) + (Int.tmod (w64 ((Int.tmod x6 p1.Width) + 1)) p1.Width))) 0))), (22, (((adr Aa).add (((rdD p1.Cells (w64 ((w64 ((w64 (Int.tdiv x6 p1.Width)) * p1.Width)) + (Int.tmod (w64 ((Int.tmod x6 p1.Width) + 1)) p1.Width))) 0)).toNat * 4)).add 3), (iv ((rdD p0 (rdD p1.Cells (w64 ((w64 ((w64 (Int.tdiv x6 p1.Width)) * p1.Width)) + (Int.tmod (w64 ((Int.tmod x6 p1.Width) + 1)) p1.Width))) 0) z_Tile).W)))] (fun fb => by kernel_rfl) rfl ⟨rowR.adr (hS24.rd 0).1 h25.1 h25.2, h17, rowR.adr (hS24.rd 1).1 h26.1 h26.2, rowR.adr (hS24.rd 0).1 h27.1 h27.2, trivial⟩ rfl ?_
      refine WL.done rfl (WX.next ?_)
      rcases br_some hx21 with ⟨h28, hx21⟩ | ⟨h28, hx21⟩
      ·refine WC.condT2 (fun fb => by kernel_rfl) h28 ?_
       refine WC.seq (WC.region ?_)
       refine seg 1 [] [6] [(6, (bv false))] [] (fun fb => by kernel_rfl) rfl trivial ?_
       refine WL.done rfl (WX.next ?_)
       refine WC.ret ?_
       injection hx21 with hx21
       subst hx21
       injection hl12 with hl12
       subst hl12
       injection hf with hf
       subst hf
       exact WX.thenR (WX.blockR (WX.thenR (WX.thenR (WX.blockR (WX.thenR (WX.ret_ [] (bv false) [] (fun fb => by kernel_rfl) trivial ⟨_, rfl, rfl, hS24.keep⟩))))))
      refine WC.condF2 (fun fb => by kernel_rfl) h28 ?_
      refine WC.skip ?_
      injection hx21 with hx21
      exact WX.to Kx20 () [0, 2, 4, 8, 9, 10, 12, 13, 14] rfl ⟨(hS24.subR [0, 1]).sub [0] (by decide), hx21.symm⟩
     refine WC.condF2 (fun fb => by kernel_rfl) h22 ?_
     refine WC.skip ?_
     injection hx21 with hx21
     exact WX.to Kx20 () [0, 2, 4, 8, 9, 10, 12, 13, 14] rfl ⟨(hS16.subR [0, 1]).sub [0] (by decide), hx21.symm⟩
    rintro y32 w29 ⟨hS30, hq31⟩
    subst hq31
    have hl12 := sum_inr hl12
    refine WX.next (WC.seq (WC.region ?_))
    refine seg 6 [.v (iv p1.Height)] [0, 2, 4, 8, 9, 10, 12, 13, 14, 64] [(0, (sv Aa p0 ca)), (2, (bv p2)), (4, (pt g3)), (8, (iv (rdD p1.Cells x6 0))), (9, (iv (Int.tmod x6 p1.Width))), (10, (iv (w64 (Int.tdiv x6 p1.Width)))), (12, (sv Ab p1.Cells cb)), (13, (iv (p1.Cells.length : Int))), (14, (iv x6)), (64, (bv (decide (w64 ((w64 (Int.tdiv x6 p1.Width)) + 1) < p1.Height))))] [.cell ⟨g3, 1, none⟩ (iv p1.Height)] (fun fb => by kernel_rfl) rfl ⟨hS30.cell 0 rfl 1 rfl, trivial⟩ ?_
    refine WL.cutV (T := Bool) 8 (fun t => [(66, (bv t)), (0, (sv Aa p0 ca)), (2, (bv p2)), (4, (pt g3)), (8, (iv (rdD p1.Cells x6 0))), (9, (iv (Int.tmod x6 p1.Width))), (10, (iv (w64 (Int.tdiv x6 p1.Width)))), (12, (sv Ab p1.Cells cb)), (13, (iv (p1.Cells.length : Int))), (14, (iv x6))]) (fun t => ((decide (w64 ((w64 (Int.tdiv x6 p1.Width)) + 1) < p1.Height)) || p2) = t) (fun K => ?_) ?_
    ·
     rcases Bool.eq_false_or_eq_true (decide (w64 ((w64 (Int.tdiv x6 p1.Width)) + 1) < p1.Height)) with h33 | h33
     ·
      refine WL.setB 64 h33 rfl ?_
      refine seg 8 [] [0, 2, 4, 8, 9, 10, 12, 13, 14, 66] [(0, (sv Aa p0 ca)), (2, (bv p2)), (4, (pt g3)), (8, (iv (rdD p1.Cells x6 0))), (9, (iv (Int.tmod x6 p1.Width))), (10, (iv (w64 (Int.tdiv x6 p1.Width)))), (12, (sv Ab p1.Cells cb)), (13, (iv (p1.Cells.length : Int))), (14, (iv x6)), (66, (bv true))] [] (fun fb => by kernel_rfl) rfl trivial ?_
      exact WL.toV K true [66, 0, 2, 4, 8, 9, 10, 12, 13, 14] rfl (by first | (rw [h33]; done) | (rw [h33]; rfl))
     refine WL.setB 64 h33 rfl ?_
     refine seg 8 [] [0, 2, 4, 8, 9, 10, 12, 13, 14, 66] [(0, (sv Aa p0 ca)), (2, (bv p2)), (4, (pt g3)), (8, (iv (rdD p1.Cells x6 0))), (9, (iv (Int.tmod x6 p1.Width))), (10, (iv (w64 (Int.tdiv x6 p1.Width)))), (12, (sv Ab p1.Cells cb)), (13, (iv (p1.Cells.length : Int))), (14, (iv x6)), (66, (bv p2))] [] (fun fb => by kernel_rfl) rfl trivial ?_
     exact WL.toV K p2 [66, 0, 2, 4, 8, 9, 10, 12, 13, 14] rfl (by first | (rw [h33]; done) | (rw [h33]; rfl))
    rintro b34 rfl
    refine WL.done rfl (WX.next ?_)
    obtain ⟨x35, hx36, hl12⟩ := bind_some hl12
    refine WC.cutN (T := Unit) (fun t => [(0, (sv Aa p0 ca)), (2, (bv p2)), (4, (pt g3)), (12, (sv Ab p1.Cells cb)), (13, (iv (p1.Cells.length : Int))), (14, (iv x6))]) (fun t w1 => St NoS w w1 [rowR enc_Tile Aa ca p0, rowR encInt Ab cb p1.Cells] [blk g3 (.cells #[(iv p1.Width), (iv p1.Height), (sv Ab p1.Cells cb)] 28 (0, 0))] ∧ x35 = .inr t) (fun Kx35 => ?_) ?_
    ·
     rcases br_some hx36 with ⟨h37, hx36⟩ | ⟨h37, hx36⟩
     ·refine WC.condT2 (fun fb => by kernel_rfl) h37 ?_
      refine WC.seq ?_
      obtain ⟨h40, hx36⟩ := as_some hx36
      obtain ⟨h42, hx36⟩ := as_some hx36
      obtain ⟨h43, hx36⟩ := as_some hx36
      obtain ⟨h44, hx36⟩ := as_some hx36
      refine WC.regionD ([(4, ((adr Aa).add (((rdD p1.Cells x6 0)).toNat * 4)), (iv ((rdD p0 (rdD p1.Cells x6 0) z_Tile).N))), (7, ⟨g3, 2, none⟩, (sv Ab p1.Cells cb)), (11, ⟨g3, 1, none⟩, (iv p1.Height)), (14, ⟨g3, 0, none⟩, (iv p1.Width)), (19, ((adr Ab).add ((w64 ((w64 ((Int.tmod (w64 ((w64 (Int.tdiv x6 p1.Width)) + 1)) p1.Height) * p1.Width)) + (Int.tmod x6 p1.Width))).toNat * 1)), (iv (rdD p1.Cells (w64 ((w64 ((Int.tmod (w64 ((w64 (Int.tdiv x6 p1.Width)) + 1)) p1.Height) * p1.Width)) + (Int.tmod x6 p1.Width))) 0))), (22, (((adr Aa).add (((rdD p1.Cells (w64 ((w64 ((Int.tmod (w64 ((w64 (Int.tdiv x6 p1.Width)) + 1)) p1.Height) * p1.Width)) + (Int.tmod x6 p1.Width))) 0)).toNat * 4)).add 2), (iv ((rdD p0 (rdD p1.Cells (w64 ((w64 ((Int.tmod (w64 ((w64 (Int.tdiv x6 p1.Width)) + 1)) p1.Height) * p1.Width)) + (Int.tmod x6 p1.Width))) 0) z_Tile).S)))], [0, 1, 2, 3, 4, 5, 6, 7, 8, 9, 10, 11, 12, 13, 14, 15, 16, 17, 18, 19, 20, 21, 22, 23], [[], [], [0, 1], [0, 1, 2], [0, 1, 2, 3], [], [], [6], [], [8], [], [10], [8, 9, 10, 11], [], [13], [8, 9, 10, 11, 12, 13, 14], [], [8, 9, 10, 11, 12, 13, 14, 15, 16], [6, 7, 8, 9, 10, 11, 12, 13, 14, 15, 16, 17], [6, 7, 8, 9, 10, 11, 12, 13, 14, 15, 16, 17, 18], [5, 6, 7, 8, 9, 10, 11, 12, 13, 14, 15, 16, 17, 18, 19], [5, 6, 7, 8, 9, 10, 11, 12, 13, 14, 15, 16, 17, 18, 19, 20], [5, 6, 7, 8, 9, 10, 11, 12, 13, 14, 15, 16, 17, 18, 19, 20, 21], [0, 1, 2, 3, 4, 5, 6, 7, 8, 9, 10, 11, 12, 13, 14, 15, 16, 17, 18, 19, 20, 21, 22]]) [[0, 1, 2, 3, 4, 5, 6, 7, 8, 9, 10, 11, 12, 13, 14, 15, 16, 17, 18, 19, 20, 21, 22, 23]] (by kernel_rfl) (by kernel_rfl) (NoPanic.seq (NoPanic.block (NoPanic.seq (NoPanic.seq (NoPanic.block (NoPanic.seq (NoPanic.body))))))) ?_
      have hS39 := hS30.drew
      revert hS39
      generalize World.drew w29 = w38
      intro hS39
      refine ⟨⟨rowR.cell (hS39.rd 0).1 z_Tile h40.1 h40.2 0 rfl, hS39.cell 0 rfl 2 rfl, hS39.cell 0 rfl 1 rfl, hS39.cell 0 rfl 0 rfl, rowR.cell (hS39.rd 1).1 0 h43.1 h43.2 0 rfl, rowR.cell (hS39.rd 0).1 z_Tile h44.1 h44.2 2 rfl, trivial⟩, forallC ?_ (forallN)⟩
      refine segF 24 [.v (iv ((rdD p0 (rdD p1.Cells x6 0) z_Tile).N)), .v (sv Ab p1.Cells cb), .v (iv p1.Height), .v (iv p1.Width), .v (iv (rdD p1.Cells (w64 ((w64 ((Int.tmod (w64 ((w64 (Int.tdiv x6 p1.Width)) + 1)) p1.Height) * p1.Width)) + (Int.tmod x6 p1.Width))) 0)), .v (iv ((rdD p0 (rdD p1.Cells (w64 ((w64 ((Int.tmod (w64 ((w64 (Int.tdiv x6 p1.Width)) + 1)) p1.Height) * p1.Width)) + (Int.tmod x6 p1.Width))) 0) z_Tile).S))] [0, 2, 4, 12, 13, 14, 90] [(0, (sv Aa p0 ca)), (2, (bv p2)), (4, (pt g3)), (12, (sv Ab p1.Cells cb)), (13, (iv (p1.Cells.length : Int))), (14, (iv x6)), (90, (bv (((rdD p0 (rdD p1.Cells x6 0) z_Tile).N) != ((rdD p0 (rdD p1.Cells (w64 ((w64 ((Int.tmod (w64 ((w64 (Int.tdiv x6 p1.Width)) + 1)) p1.Height) * p1.Width)) + (Int.tmod x6 p1.Width))) 0) z_Tile).S))))] [.idx Aa (rdD p1.Cells x6 0) p0.length, .ne p1.Height, .idx Ab (w64 ((w64 ((Int.tmod (w64 ((w64 (Int.tdiv x6 p1.Width)) + 1)) p1.Height) * p1.Width)) + (Int.tmod x6 p1.Width))) p1.Cells.length, .idx Aa (rdD p1.Cells (w64 ((w64 ((Int.tmod (w64 ((w64 (Int.tdiv x6 p1.Width)) + 1)) p1.Height) * p1.Width)) + (Int.tmod x6 p1.Width))) 0) p0.length] [0, 1, 2, 3, 4, 5] [(4, ((adr Aa).add (((rdD p1.Cells x6 0)).toNat * 4)), (iv ((rdD p0 (rdD p1.Cells x6 0) z_Tile).N))), (7, ⟨g3, 2, none⟩, (sv Ab p1.Cells cb)), (11, ⟨g3, 1, none⟩, (iv p1.Height)), (14, ⟨g3, 0, none⟩, (iv p1.Width)), (19, ((adr Ab).add ((w64 ((w64 ((Int.tmod (w64 ((w64 (Int.tdiv x6 p1.Width)) + 1)) p1.Height) * p1.Width)) + (Int.tmod x6 p1.Width))).toNat * 1)), (iv (rdD p1.Cells (w64 ((w64 ((Int.tmod (w64 ((w64 (Int.tdiv x6 p1.Width)) + 1)) p1.Height) * p1.Width)) + (Int.tmod x6 p1.Width))) 0))), (22, (((adr Aa).add (((rdD p1.Cells (w64 ((w64 ((Int.tmod (w64 ((w64 (Int.tdiv x6 p1.Width)) + 1)) p1.Height) * p1.Width)) + (Int.tmod x6 p1.Width))) 0)).toNat * 4)).add 2), (iv ((rdD p0 (rdD p1.Cells (w64 ((w64 ((Int.tmod (w64 ((w64 (Int.tdiv x6 p1.Width)) + 1)) p1.Height) * p1.Width)) + (Int.tmod x6 p1.Width))) 0) z_Tile).S)))] (fun fb => by kernel_rfl) rfl ⟨rowR.adr (hS39.rd 0).1 h40.1 h40.2, h42, rowR.adr (hS39.rd 1).1 h43.1 h43.2, rowR.adr (hS39.rd 0).1 h44.1 h44.2, trivial⟩ rfl ?_
      refine WL.done rfl (WX.next ?_)
      rcases br_some hx36 with ⟨h45, hx36⟩ | ⟨h45, hx36⟩
      ·refine WC.condT2 (fun fb => by kernel_rfl) h45 ?_
       refine WC.seq (WC.region ?_)
       refine seg 1 [] [6] [(6, (bv false))] [] (fun fb => by kernel_rfl) rfl trivial ?_
       refine WL.done rfl (WX.next ?_)
       refine WC.ret ?_
       injection hx36 with hx36
       subst hx36
       injection hl12 with hl12
       subst hl12
       injection hf with hf
       subst hf
       exact WX.blockR (WX.thenR (WX.thenR (WX.blockR (WX.thenR (WX.ret_ [] (bv false) [] (fun fb => by kernel_rfl) trivial ⟨_, rfl, rfl, hS39.keep⟩)))))
      refine WC.condF2 (fun fb => by kernel_rfl) h45 ?_
      refine WC.skip ?_
      injection hx36 with hx36
      exact WX.to Kx35 () [0, 2, 4, 12, 13, 14] rfl ⟨(hS39.subR [0, 1]).sub [0] (by decide), hx36.symm⟩
     refine WC.condF2 (fun fb => by kernel_rfl) h37 ?_
     refine WC.skip ?_
     injection hx36 with hx36
     exact WX.to Kx35 () [0, 2, 4, 12, 13, 14] rfl ⟨(hS30.subR [0, 1]).sub [0] (by decide), hx36.symm⟩
    rintro y49 w46 ⟨hS47, hq48⟩
    subst hq48
    have hl12 := sum_inr hl12
    refine WX.blockN (WX.next ?_)
    refine WC.region ?_
    refine seg 2 [] [0, 2, 4, 12, 13, 14] [(0, (sv Aa p0 ca)), (2, (bv p2)), (4, (pt g3)), (12, (sv Ab p1.Cells cb)), (13, (iv (p1.Cells.length : Int))), (14, (iv (w64 (x6 + 1))))] [] (fun fb => by kernel_rfl) rfl trivial ?_
    refine WL.done rfl ?_
    exact WX.again k9 (Nat.lt_succ_self _) (w64 (x6 + 1)) [0, 2, 4, 12, 13, 14] rfl ⟨(hS47.subR [0, 1]).sub [0] (by decide), hl12⟩
   refine WC.condF2 (fun fb => by kernel_rfl) h13 ?_
   refine WC.exit ?_
   injection hl12 with hl12
   exact WX.thenX (WX.thenX (WX.blockHere (WX.to Kx7 () [] rfl ⟨(hS11.subR [0, 1]).sub [] (by decide), hl12.symm⟩)))
 rintro y53 w50 ⟨hS51, hq52⟩
 subst hq52
 have hf := sum_inr hf
 refine WX.next (WC.seq (WC.region ?_))
 refine seg 1 [] [6] [(6, (bv true))] [] (fun fb => by kernel_rfl) rfl trivial ?_
 refine WL.done rfl (WX.next ?_)
 refine WC.ret ?_
 injection hf with hf
 subst hf
 exact WX.ret_ [] (bv true) [] (fun fb => by kernel_rfl) trivial ⟨_, rfl, rfl, hS51.keep⟩
theorem tile_Repeats_calls (k : Nat) (p0 : List Tile) (p1 : Pattern) (Aa : Option Addr) (ca : Nat) (Ab : Option Addr) (cb : Nat) (r : Bool) (w : World) (hR0 : RO NoS w (rowR enc_Tile Aa ca p0)) (hR1 : RO NoS w (rowR encInt Ab cb p1.Cells)) (hf : tile_Repeats k p0 p1 = some r) :
  CallsR Tryd.prog 21 #[(sv Aa p0 ca), (.agg #[(iv p1.Width), (iv p1.Height), (sv Ab p1.Cells cb)])] w (fun v w' => v = (bv r) ∧ Keeps NoS w w') := by
 have hS : St NoS w w [rowR enc_Tile Aa ca p0, rowR encInt Ab cb p1.Cells] [] := St.init (ro_cons hR0 (ro_cons hR1 (ro_nil _ _)))
 refine enter 13 Tryd.func21 rfl Tryd.ntmps21 rfl ?_
 unfold tile_Repeats at hf
 refine WC.seq (WC.region ?_)
 refine WL.new hS 3 [] (fun g => (pt g)) (.cells #[(iv p1.Width), (iv p1.Height), (sv Ab p1.Cells cb)] 28 (0, 0)) [] (fun fb g => by kernel_rfl) trivial (fun g2 w3 hS4 => ?_)
 refine ⟨trivial, ?_⟩
 refine seg 2 [] [0, 3] [(0, (sv Aa p0 ca)), (3, (pt g2))] [] (fun fb => by kernel_rfl) rfl trivial ?_
 refine WL.done rfl (WX.next (WC.seq (WC.region ?_)))
 refine seg 2 [.v (iv p1.Width), .v (iv p1.Height), .v (sv Ab p1.Cells cb)] [0, 3, 5, 6] [(0, (sv Aa p0 ca)), (3, (pt g2)), (5, (sv Aa p0 ca)), (6, (.agg #[(iv p1.Width), (iv p1.Height), (sv Ab p1.Cells cb)]))] [.cell ⟨g2, 0, none⟩ (iv p1.Width), .cell ⟨g2, 1, none⟩ (iv p1.Height), .cell ⟨g2, 2, none⟩ (sv Ab p1.Cells cb)] (fun fb => by kernel_rfl) rfl ⟨hS4.cell 0 rfl 0 rfl, hS4.cell 0 rfl 1 rfl, hS4.cell 0 rfl 2 rfl, trivial⟩ ?_
 obtain ⟨t5, ht6, hf⟩ := bind_some hf
 refine WL.call (some 7) 40 #[(sv Aa p0 ca), (.agg #[(iv p1.Width), (iv p1.Height), (sv Ab p1.Cells cb)])] (fun fb => by kernel_rfl) (tile_of_calls _ p0 p1 Aa ca Ab cb t5 _ (hS4.rd 0) (hS4.rd 1) ht6) (fun v w7 hR8 => ?_)
 obtain ⟨rfl, hk_⟩ := hR8
 have hS9 := hS4.keepN hk_
 refine ⟨trivial, ?_⟩
 refine seg 4 [] [0, 3, 8] [(0, (sv Aa p0 ca)), (3, (pt g2)), (8, (bv t5))] [] (fun fb => by kernel_rfl) rfl trivial ?_
 obtain ⟨x10, hx11, hf⟩ := bind_some hf
 refine WL.cutW (T := Bool) 8 (fun t => [(12, (bv t))]) (fun t w1 => (St NoS w w1 [rowR enc_Tile Aa ca p0, rowR encInt Ab cb p1.Cells] [] ∧ x10 = t) ∧ CellsOK [] w1) (fun K => ?_) ?_
 ·
  rcases br_some hx11 with ⟨h12, hx11⟩ | ⟨h12, hx11⟩
  ·
   refine WL.setB 8 h12 rfl ?_
   refine seg 6 [.v (iv p1.Width), .v (iv p1.Height), .v (sv Ab p1.Cells cb)] [8, 9, 10] [(8, (bv true)), (9, (sv Aa p0 ca)), (10, (.agg #[(iv p1.Width), (iv p1.Height), (sv Ab p1.Cells cb)]))] [.cell ⟨g2, 0, none⟩ (iv p1.Width), .cell ⟨g2, 1, none⟩ (iv p1.Height), .cell ⟨g2, 2, none⟩ (sv Ab p1.Cells cb)] (fun fb => by kernel_rfl) rfl ⟨hS9.cell 0 rfl 0 rfl, hS9.cell 0 rfl 1 rfl, hS9.cell 0 rfl 2 rfl, trivial⟩ ?_
   obtain ⟨t13, ht14, hx11⟩ := bind_some hx11
   refine WL.call (some 11) 41 #[(sv Aa p0 ca), (.agg #[(iv p1.Width), (iv p1.Height), (sv Ab p1.Cells cb)]), (bv true)] (fun fb => by kernel_rfl) (tile_joins_calls _ p0 p1 true Aa ca Ab cb t13 _ (hS9.rd 0) (hS9.rd 1) ht14) (fun v w15 hR16 => ?_)
   obtain ⟨rfl, hk_⟩ := hR16
   have hS17 := hS9.keepN hk_
   refine ⟨trivial, ?_⟩
   refine seg 8 [] [12] [(12, (bv t13))] [] (fun fb => by kernel_rfl) rfl trivial ?_
   injection hx11 with hx11
   exact WL.to K t13 [12] rfl ⟨⟨(hS17.subR [0, 1]).sub [] (by decide), hx11.symm⟩, trivial⟩
  refine WL.setB 8 h12 rfl ?_
  refine seg 8 [] [12] [(12, (bv false))] [] (fun fb => by kernel_rfl) rfl trivial ?_
  injection hx11 with hx11
  exact WL.to K false [12] rfl ⟨⟨(hS9.subR [0, 1]).sub [] (by decide), hx11.symm⟩, trivial⟩
 rintro y18 w20 ⟨⟨hS22, hq19⟩, hF23⟩
 subst hq19
 refine seg 9 [] [4] [(4, (bv x10))] [] (fun fb => by kernel_rfl) rfl trivial ?_
 refine WL.done rfl (WX.next ?_)
 refine WC.ret ?_
 injection hf with hf
 subst hf
 exact WX.ret_ [] (bv x10) [] (fun fb => by kernel_rfl) trivial ⟨_, rfl, rfl, hS22.keep⟩
theorem top_sameInts_calls (k : Nat) (p0 : List Int) (p1 : List Int) (Aa : Option Addr) (ca : Nat) (Ab : Option Addr) (cb : Nat) (r : Bool) (w : World) (hR0 : RO NoS w (rowR encInt Aa ca p0)) (hR1 : RO NoS w (rowR encInt Ab cb p1)) (hf : top_sameInts k p0 p1 = some r) :
  CallsR Tryd.prog 23 #[(sv Aa p0 ca), (sv Ab p1 cb)] w (fun v w' => v = (bv r) ∧ Keeps NoS w w') := by
 have hS : St NoS w w [rowR encInt Aa ca p0, rowR encInt Ab cb p1] [] := St.init (ro_cons hR0 (ro_cons hR1 (ro_nil _ _)))
 refine enter 26 Tryd.func23 rfl Tryd.ntmps23 rfl ?_
 unfold top_sameInts at hf
 refine WC.seq (WC.region ?_)
 refine seg 1 [] [0, 1] [(0, (sv Aa p0 ca)), (1, (sv Ab p1 cb))] [] (fun fb => by kernel_rfl) rfl trivial ?_
 refine WL.done rfl (WX.next (WC.seq (WC.seq (WC.region ?_))))
 refine seg 5 [] [0, 1, 10] [(0, (sv Aa p0 ca)), (1, (sv Ab p1 cb)), (10, (bv ((p0.length : Int) != (p1.length : Int))))] [] (fun fb => by kernel_rfl) rfl trivial ?_
 refine WL.done rfl (WX.next ?_)
 rcases br_some hf with ⟨h3, hf⟩ | ⟨h3, hf⟩
 ·refine WC.condT2 (fun fb => by kernel_rfl) h3 ?_
  refine WC.seq (WC.region ?_)
  refine seg 1 [] [4] [(4, (bv false))] [] (fun fb => by kernel_rfl) rfl trivial ?_
  refine WL.done rfl (WX.next ?_)
  refine WC.ret ?_
  injection hf with hf
  subst hf
  exact WX.thenR (WX.ret_ [] (bv false) [] (fun fb => by kernel_rfl) trivial ⟨_, rfl, rfl, hS.keep⟩)
 refine WC.condF2 (fun fb => by kernel_rfl) h3 ?_
 refine WC.skip (WX.next (WC.seq (WC.seq (WC.region ?_))))
 refine seg 1 [] [0, 1, 5] [(0, (sv Aa p0 ca)), (1, (sv Ab p1 cb)), (5, (iv 0))] [] (fun fb => by kernel_rfl) rfl trivial ?_
 refine WL.done rfl (WX.next ?_)
 obtain ⟨x5, hx6, hf⟩ := bind_some hf
 refine WC.cutN (T := Unit) (fun t => []) (fun t w1 => St NoS w w1 [rowR encInt Aa ca p0, rowR encInt Ab cb p1] [] ∧ x5 = .inr t) (fun Kx5 => ?_) ?_
 ·
  refine WC.block ?_
  refine WC.loop (T := Int) (fun t => [(0, (sv Aa p0 ca)), (1, (sv Ab p1 cb)), (5, (iv t))]) (fun n t w1 => St NoS w w1 [rowR encInt Aa ca p0, rowR encInt Ab cb p1] [] ∧ top_sameInts.l0 n t p0 p1 = some x5) k 0 [0, 1, 5] rfl ⟨(hS.subR [0, 1]).sub [] (by decide), hx6⟩ ?_
  rintro k7 x4 w8 ⟨hS9, hl10⟩
  cases k7 with
  | zero => rw [top_sameInts.l0] at hl10; cases hl10
  | succ k7 =>
   rw [top_sameInts.l0] at hl10
   refine WC.seq (WC.seq (WC.region ?_))
   refine seg 4 [] [0, 1, 5, 14] [(0, (sv Aa p0 ca)), (1, (sv Ab p1 cb)), (5, (iv x4)), (14, (bv (decide (x4 < (p0.length : Int)))))] [] (fun fb => by kernel_rfl) rfl trivial ?_
   refine WL.done rfl (WX.next ?_)
   rcases br_some hl10 with ⟨h11, hl10⟩ | ⟨h11, hl10⟩
   ·refine WC.condT2 (fun fb => by kernel_rfl) h11 ?_
    refine WC.skip (WX.next (WC.seq (WC.block (WC.seq ?_))))
    obtain ⟨h14, hl10⟩ := as_some hl10
    obtain ⟨h15, hl10⟩ := as_some hl10
    refine WC.regionD ([(3, ((adr Aa).add ((x4).toNat * 1)), (iv (rdD p0 x4 0))), (7, ((adr Ab).add ((x4).toNat * 1)), (iv (rdD p1 x4 0)))], [0, 1, 2, 3, 4, 5, 6, 7, 8], [[], [], [0, 1], [0, 1, 2], [], [], [4, 5], [4, 5, 6], [0, 1, 2, 3, 4, 5, 6, 7]]) [[0, 1, 2, 3, 4, 5, 6, 7, 8]] (by kernel_rfl) (by kernel_rfl) (NoPanic.seq (NoPanic.block (NoPanic.seq (NoPanic.seq (NoPanic.block (NoPanic.seq (NoPanic.body))))))) ?_
    have hS13 := hS9.drew
    revert hS13
    generalize World.drew w8 = w12
    intro hS13
    refine ⟨⟨rowR.cell (hS13.rd 0).1 0 h14.1 h14.2 0 rfl, rowR.cell (hS13.rd 1).1 0 h15.1 h15.2 0 rfl, trivial⟩, forallC ?_ (forallN)⟩
    refine segF 9 [.v (iv (rdD p0 x4 0)), .v (iv (rdD p1 x4 0))] [0, 1, 5, 25] [(0, (sv Aa p0 ca)), (1, (sv Ab p1 cb)), (5, (iv x4)), (25, (bv ((rdD p0 x4 0) != (rdD p1 x4 0))))] [.idx Aa x4 p0.length, .idx Ab x4 p1.length] [0, 1] [(3, ((adr Aa).add ((x4).toNat * 1)), (iv (rdD p0 x4 0))), (7, ((adr Ab).add ((x4).toNat * 1)), (iv (rdD p1 x4 0)))] (fun fb => by kernel_rfl) rfl ⟨rowR.adr (hS13.rd 0).1 h14.1 h14.2, rowR.adr (hS13.rd 1).1 h15.1 h15.2, trivial⟩ rfl ?_
    refine WL.done rfl (WX.next ?_)
    rcases br_some hl10 with ⟨h16, hl10⟩ | ⟨h16, hl10⟩
    ·refine WC.condT2 (fun fb => by kernel_rfl) h16 ?_
     refine WC.seq (WC.region ?_)
     refine seg 1 [] [4] [(4, (bv false))] [] (fun fb => by kernel_rfl) rfl trivial ?_
     refine WL.done rfl (WX.next ?_)
     refine WC.ret ?_
     injection hl10 with hl10
     subst hl10
     injection hf with hf
     subst hf
     exact WX.blockR (WX.thenR (WX.thenR (WX.blockR (WX.thenR (WX.ret_ [] (bv false) [] (fun fb => by kernel_rfl) trivial ⟨_, rfl, rfl, hS13.keep⟩)))))
    refine WC.condF2 (fun fb => by kernel_rfl) h16 ?_
    refine WC.skip ?_
    refine WX.blockN (WX.next ?_)
    refine WC.region ?_
    refine seg 3 [] [0, 1, 5] [(0, (sv Aa p0 ca)), (1, (sv Ab p1 cb)), (5, (iv (w64 (x4 + 1))))] [] (fun fb => by kernel_rfl) rfl trivial ?_
    refine WL.done rfl ?_
    exact WX.again k7 (Nat.lt_succ_self _) (w64 (x4 + 1)) [0, 1, 5] rfl ⟨(hS13.subR [0, 1]).sub [] (by decide), hl10⟩
   refine WC.condF2 (fun fb => by kernel_rfl) h11 ?_
   refine WC.exit ?_
   injection hl10 with hl10
   exact WX.thenX (WX.thenX (WX.blockHere (WX.to Kx5 () [] rfl ⟨(hS9.subR [0, 1]).sub [] (by decide), hl10.symm⟩)))
 rintro y20 w17 ⟨hS18, hq19⟩
 subst hq19
 have hf := sum_inr hf
 refine WX.next (WC.seq (WC.region ?_))
 refine seg 1 [] [4] [(4, (bv true))] [] (fun fb => by kernel_rfl) rfl trivial ?_
 refine WL.done rfl (WX.next ?_)
 refine WC.ret ?_
 injection hf with hf
 subst hf
 exact WX.ret_ [] (bv true) [] (fun fb => by kernel_rfl) trivial ⟨_, rfl, rfl, hS18.keep⟩
theorem tile_Fits_calls (k : Nat) (p0 : List Tile) (p1 : Pattern) (Aa : Option Addr) (ca : Nat) (Ab : Option Addr) (cb : Nat) (r : Bool) (w : World) (hR0 : RO NoS w (rowR enc_Tile Aa ca p0)) (hR1 : RO NoS w (rowR encInt Ab cb p1.Cells)) (hf : tile_Fits k p0 p1 = some r) :
  CallsR Tryd.prog 24 #[(sv Aa p0 ca), (.agg #[(iv p1.Width), (iv p1.Height), (sv Ab p1.Cells cb)])] w (fun v w' => v = (bv r) ∧ Keeps NoS w w') := by
 have hS : St NoS w w [rowR enc_Tile Aa ca p0, rowR encInt Ab cb p1.Cells] [] := St.init (ro_cons hR0 (ro_cons hR1 (ro_nil _ _)))
 refine enter 13 Tryd.func24 rfl Tryd.ntmps24 rfl ?_
 unfold tile_Fits at hf
 refine WC.seq (WC.region ?_)
 refine WL.new hS 3 [] (fun g => (pt g)) (.cells #[(iv p1.Width), (iv p1.Height), (sv Ab p1.Cells cb)] 28 (0, 0)) [] (fun fb g => by kernel_rfl) trivial (fun g2 w3 hS4 => ?_)
 refine ⟨trivial, ?_⟩
 refine seg 2 [] [0, 3] [(0, (sv Aa p0 ca)), (3, (pt g2))] [] (fun fb => by kernel_rfl) rfl trivial ?_
 refine WL.done rfl (WX.next (WC.seq (WC.region ?_)))
 refine seg 2 [.v (iv p1.Width), .v (iv p1.Height), .v (sv Ab p1.Cells cb)] [0, 3, 5, 6] [(0, (sv Aa p0 ca)), (3, (pt g2)), (5, (sv Aa p0 ca)), (6, (.agg #[(iv p1.Width), (iv p1.Height), (sv Ab p1.Cells cb)]))] [.cell ⟨g2, 0, none⟩ (iv p1.Width), .cell ⟨g2, 1, none⟩ (iv p1.Height), .cell ⟨g2, 2, none⟩ (sv Ab p1.Cells cb)] (fun fb => by kernel_rfl) rfl ⟨hS4.cell 0 rfl 0 rfl, hS4.cell 0 rfl 1 rfl, hS4.cell 0 rfl 2 rfl, trivial⟩ ?_
 obtain ⟨t5, ht6, hf⟩ := bind_some hf
 refine WL.call (some 7) 40 #[(sv Aa p0 ca), (.agg #[(iv p1.Width), (iv p1.Height), (sv Ab p1.Cells cb)])] (fun fb => by kernel_rfl) (tile_of_calls _ p0 p1 Aa ca Ab cb t5 _ (hS4.rd 0) (hS4.rd 1) ht6) (fun v w7 hR8 => ?_)
 obtain ⟨rfl, hk_⟩ := hR8
 have hS9 := hS4.keepN hk_
 refine ⟨trivial, ?_⟩
 refine seg 4 [] [0, 3, 8] [(0, (sv Aa p0 ca)), (3, (pt g2)), (8, (bv t5))] [] (fun fb => by kernel_rfl) rfl trivial ?_
 obtain ⟨x10, hx11, hf⟩ := bind_some hf
 refine WL.cutW (T := Bool) 8 (fun t => [(12, (bv t))]) (fun t w1 => (St NoS w w1 [rowR enc_Tile Aa ca p0, rowR encInt Ab cb p1.Cells] [] ∧ x10 = t) ∧ CellsOK [] w1) (fun K => ?_) ?_
 ·
  rcases br_some hx11 with ⟨h12, hx11⟩ | ⟨h12, hx11⟩
  ·
   refine WL.setB 8 h12 rfl ?_
   refine seg 6 [.v (iv p1.Width), .v (iv p1.Height), .v (sv Ab p1.Cells cb)] [8, 9, 10] [(8, (bv true)), (9, (sv Aa p0 ca)), (10, (.agg #[(iv p1.Width), (iv p1.Height), (sv Ab p1.Cells cb)]))] [.cell ⟨g2, 0, none⟩ (iv p1.Width), .cell ⟨g2, 1, none⟩ (iv p1.Height), .cell ⟨g2, 2, none⟩ (sv Ab p1.Cells cb)] (fun fb => by kernel_rfl) rfl ⟨hS9.cell 0 rfl 0 rfl, hS9.cell 0 rfl 1 rfl, hS9.cell 0 rfl 2 rfl, trivial⟩ ?_
   obtain ⟨t13, ht14, hx11⟩ := bind_some hx11
   refine WL.call (some 11) 41 #[(sv Aa p0 ca), (.agg #[(iv p1.Width), (iv p1.Height), (sv Ab p1.Cells cb)]), (bv false)] (fun fb => by kernel_rfl) (tile_joins_calls _ p0 p1 false Aa ca Ab cb t13 _ (hS9.rd 0) (hS9.rd 1) ht14) (fun v w15 hR16 => ?_)
   obtain ⟨rfl, hk_⟩ := hR16
   have hS17 := hS9.keepN hk_
   refine ⟨trivial, ?_⟩
   refine seg 8 [] [12] [(12, (bv t13))] [] (fun fb => by kernel_rfl) rfl trivial ?_
   injection hx11 with hx11
   exact WL.to K t13 [12] rfl ⟨⟨(hS17.subR [0, 1]).sub [] (by decide), hx11.symm⟩, trivial⟩
  refine WL.setB 8 h12 rfl ?_
  refine seg 8 [] [12] [(12, (bv false))] [] (fun fb => by kernel_rfl) rfl trivial ?_
  injection hx11 with hx11
  exact WL.to K false [12] rfl ⟨⟨(hS9.subR [0, 1]).sub [] (by decide), hx11.symm⟩, trivial⟩
 rintro y18 w20 ⟨⟨hS21, hq19⟩, hF22⟩
 subst hq19
 refine seg 9 [] [4] [(4, (bv x10))] [] (fun fb => by kernel_rfl) rfl trivial ?_
 refine WL.done rfl (WX.next ?_)
 refine WC.ret ?_
 injection hf with hf
 subst hf
 exact WX.ret_ [] (bv x10) [] (fun fb => by kernel_rfl) trivial ⟨_, rfl, rfl, hS21.keep⟩
theorem top_lives_calls (k : Nat)   (r : Bool) (w : World)  (hf : top_lives k = some r) :
  CallsR Tryd.prog 8 #[] w (fun v w' => v = (bv r) ∧ Keeps NoS w w') := by
 have hS : St NoS w w [] [] := St.init (ro_nil _ _)
 refine enter 36 Tryd.func8 rfl Tryd.ntmps8 rfl ?_
 unfold top_lives at hf
 refine WC.seq (WC.region ?_)
 refine seg 1 [] [] [] [] (fun fb => by kernel_rfl) rfl trivial ?_
 refine WL.done rfl (WX.next (WC.seq (WC.region ?_)))
 refine WL.new hS 4 [] (fun g => (.slice (some ⟨g, 0, none⟩) 4 4)) (.cells #[(iv 0), (iv 1), (iv 1), (iv 0)] 3 (0, 0)) [] (fun fb g => by kernel_rfl) trivial (fun g3 w4 hS5 => ?_)
 refine ⟨trivial, ?_⟩
 have hS6 := hS.go w4 [rowO 3 encInt (some ⟨g3, 0, none⟩) 4 [0, 1, 1, 0]] (hS5.map1 0 _ (fun h => rowO.ofBlk h rfl (Nat.le_of_ble_eq_true (by kernel_rfl))) (fun _ h => by obtain ⟨_, h1, h2⟩ := h; injection h1 with h1; subst h1; exact h2) [] (by decide) (by decide))
 refine seg 2 [] [5] [(5, (.agg #[(iv 2), (iv 2), (sv (some ⟨g3, 0, none⟩) [0, 1, 1, 0] 4)]))] [] (fun fb => by kernel_rfl) rfl trivial ?_
 refine WL.new hS6 1 [] (fun g => (pt g)) (.cells #[(iv 0), (iv 0), (.slice none 0 0)] 28 (0, 0)) [] (fun fb g => by kernel_rfl) trivial (fun g7 w9 hS10 => ?_)
 refine ⟨trivial, ?_⟩
 refine WL.store hS10 0 rfl [(0, (iv 2)), (1, (iv 2)), (2, (sv (some ⟨g3, 0, none⟩) [0, 1, 1, 0] 4))] #[(iv 2), (iv 2), (sv (some ⟨g3, 0, none⟩) [0, 1, 1, 0] 4)] (fun fb => by kernel_rfl) (by kernel_rfl) rfl [1] (by decide) (by decide) (fun w11 hS12 => ?_)
 refine ⟨trivial, ?_⟩
 refine WL.done rfl (WX.next (WC.seq (WC.region ?_)))
 refine seg 1 [.v (iv 2), .v (iv 2), .v (sv (some ⟨g3, 0, none⟩) [0, 1, 1, 0] 4)] [1, 7] [(1, (pt g7)), (7, (.agg #[(iv 2), (iv 2), (sv (some ⟨g3, 0, none⟩) [0, 1, 1, 0] 4)]))] [.cell ⟨g7, 0, none⟩ (iv 2), .cell ⟨g7, 1, none⟩ (iv 2), .cell ⟨g7, 2, none⟩ (sv (some ⟨g3, 0, none⟩) [0, 1, 1, 0] 4)] (fun fb => by kernel_rfl) rfl ⟨hS12.cell 0 rfl 0 rfl, hS12.cell 0 rfl 1 rfl, hS12.cell 0 rfl 2 rfl, trivial⟩ ?_
 obtain ⟨t13, ht14, hf⟩ := bind_some hf
 refine WL.call (some 8) 20 #[(.agg #[(iv 2), (iv 2), (sv (some ⟨g3, 0, none⟩) [0, 1, 1, 0] 4)]), (iv 3), (iv 1)] (fun fb => by kernel_rfl) (tile_Repeat_calls _ (Pattern.mk 2 2 [0, 1, 1, 0]) 3 1 (some ⟨g3, 0, none⟩) 4 t13 _ (hS12.ow 1).ofO ht14) (fun v w15 hR16 => ?_)
 obtain ⟨A18, c19, rfl, hk_⟩ := hR16
 have hS17 := hS6.go w15 [rowO 3 encInt A18 c19 t13.1.Cells, blk g7 (.cells #[(iv 2), (iv 2), (.slice (some ⟨g3, 0, none⟩) [0, 1, 1, 0].length 4)] 28 (0, 0)), rowO 3 encInt (some ⟨g3, 0, none⟩) 4 [0, 1, 1, 0]] (hS12.call hk_ [] [0, 1] (fun g hg => hg.elim) (by simp) (by decide))
 refine ⟨trivial, ?_⟩
 refine seg 5 [] [1, 9, 10] [(1, (pt g7)), (9, (.agg #[(iv t13.1.Width), (iv t13.1.Height), (sv A18 t13.1.Cells c19)])), (10, (iv t13.2))] [] (fun fb => by kernel_rfl) rfl trivial ?_
 refine WL.new hS17 2 [] (fun g => (pt g)) (.cells #[(iv 0), (iv 0), (.slice none 0 0)] 28 (0, 0)) [] (fun fb g => by kernel_rfl) trivial (fun g20 w21 hS22 => ?_)
 refine ⟨trivial, ?_⟩
 refine WL.store hS22 0 rfl [(0, (iv t13.1.Width)), (1, (iv t13.1.Height)), (2, (sv A18 t13.1.Cells c19))] #[(iv t13.1.Width), (iv t13.1.Height), (sv A18 t13.1.Cells c19)] (fun fb => by kernel_rfl) (by kernel_rfl) rfl [1, 2, 3] (by decide) (by decide) (fun w23 hS24 => ?_)
 refine ⟨trivial, ?_⟩
 refine seg 8 [] [1, 2, 3] [(1, (pt g7)), (2, (pt g20)), (3, (iv t13.2))] [] (fun fb => by kernel_rfl) rfl trivial ?_
 refine WL.done rfl (WX.next (WC.seq ?_))
 obtain ⟨x25, hx26, hf⟩ := bind_some hf
 refine WC.cutN (T := Bool) (fun t => [(0, (bv t))]) (fun t w1 => St NoS w w1 [] [] ∧ x25 = t) (fun Kx25 => ?_) ?_
 ·
  refine WC.regionD ([(1, ⟨g7, 0, none⟩, (iv 2)), (1, ⟨g7, 1, none⟩, (iv 2)), (1, ⟨g7, 2, none⟩, (sv (some ⟨g3, 0, none⟩) [0, 1, 1, 0] 4)), (16, ⟨g20, 2, none⟩, (sv A18 t13.1.Cells c19)), (22, ⟨g20, 0, none⟩, (iv t13.1.Width)), (22, ⟨g20, 1, none⟩, (iv t13.1.Height)), (22, ⟨g20, 2, none⟩, (sv A18 t13.1.Cells c19))], [1, 3, 6, 8, 9, 10, 11, 12, 13, 14, 15, 16, 19, 20, 22, 24, 25], [[], [], [0, 1], [0, 1, 2], [0, 1, 2, 3], [0, 1, 2, 3], [0, 1, 2, 3, 5], [0, 1, 2, 3, 4, 5, 6], [0, 1, 2, 3, 4, 5, 6, 7], [0, 1, 2, 3, 4, 5, 6, 7, 8], [0, 1, 2, 3, 4, 5, 6, 7, 8, 9], [0, 1, 2, 3, 4, 5, 6, 7, 8, 9, 10], [0, 1, 2, 3, 4, 5, 6, 7, 8, 9, 10, 11], [0, 1, 2, 3, 4, 5, 6, 7, 8, 9, 10, 11, 12], [0, 1, 2, 3, 4, 5, 6, 7, 8, 9, 10, 11, 12, 13], [0, 1, 2, 3, 4, 5, 6, 7, 8, 9, 10, 11, 12, 13, 14], [0, 1, 2, 3, 4, 5, 6, 7, 8, 9, 10, 11, 12, 13, 14, 15], [0, 1, 2, 3, 4, 5, 6, 7, 8, 9, 10, 11, 12, 13, 14], [0, 1, 2, 3, 4, 5, 6, 7, 8, 9, 10, 11, 12, 13, 14, 15, 16, 17], [0, 1, 2, 3, 4, 5, 6, 7, 8, 9, 10, 11, 12, 13, 14, 15, 16, 17, 18], [0, 1, 2, 3, 4, 5, 6, 7, 8, 9, 10, 11, 12, 13, 14, 15, 16, 17, 18, 19], [0, 1, 2, 3, 4, 5, 6, 7, 8, 9, 10, 11, 12, 13, 14, 15, 16, 17, 18, 19, 20], [0, 1, 2, 3, 4, 5, 6, 7, 8, 9, 10, 11, 12, 13, 14, 15, 16, 17, 18, 19, 20], [0, 1, 2, 3, 4, 5, 6, 7, 8, 9, 10, 11, 12, 13, 14, 15, 16, 17, 18, 19, 20, 21, 22], [0, 1, 2, 3, 4, 5, 6, 7, 8, 9, 10, 11, 12, 13, 14, 15, 16, 17, 18, 19, 20, 21, 22, 23], [0, 1, 2, 3, 4, 5, 6, 7, 8, 9, 10, 11, 12, 13, 14, 15, 16, 17, 18, 19, 20, 21, 22, 23, 24]]) [[1, 0, 2, 3, 4, 5, 6, 7, 8, 9, 10, 11, 12, 13, 14, 15, 16, 17, 18, 19, 20, 22, 21, 23, 24, 25], [1, 0, 2, 3, 5, 6, 4, 7, 8, 9, 10, 11, 12, 13, 14, 15, 16, 17, 18, 19, 20, 22, 21, 23, 24, 25]] (by kernel_rfl) (by kernel_rfl) (NoPanic.seq (NoPanic.body)) ?_
  have hS28 := hS24.drew
  revert hS28
  generalize World.drew w23 = w27
  intro hS28
  refine ⟨⟨hS28.cell 2 rfl 0 rfl, hS28.cell 2 rfl 1 rfl, hS28.cell 2 rfl 2 rfl, hS28.cell 0 rfl 2 rfl, hS28.cell 0 rfl 0 rfl, hS28.cell 0 rfl 1 rfl, hS28.cell 0 rfl 2 rfl, trivial⟩, forallC ?_ (forallC ?_ (forallN))⟩
  ·
   refine segF 1 [.v (iv 2), .v (iv 2), .v (sv (some ⟨g3, 0, none⟩) [0, 1, 1, 0] 4)] [2, 3, 12] [(2, (pt g20)), (3, (iv t13.2)), (12, (.agg #[(iv 2), (iv 2), (sv (some ⟨g3, 0, none⟩) [0, 1, 1, 0] 4)]))] [] [0, 1, 2] [(1, ⟨g7, 0, none⟩, (iv 2)), (1, ⟨g7, 1, none⟩, (iv 2)), (1, ⟨g7, 2, none⟩, (sv (some ⟨g3, 0, none⟩) [0, 1, 1, 0] 4))] (fun fb => by kernel_rfl) rfl trivial rfl ?_
   obtain ⟨t29, ht30, hx26⟩ := bind_some hx26
   refine WL.call (some 11) 22 #[] (fun fb => by kernel_rfl) (top_chess_calls t29 _ ht30) (fun v w31 hR32 => ?_)
   obtain ⟨A34, c35, rfl, hk_⟩ := hR32
   have hS33 := hS17.go w31 [rowO 39 enc_Tile A34 c35 t29, blk g20 (.cells #[(iv t13.1.Width), (iv t13.1.Height), (.slice A18 t13.1.Cells.length c19)] 28 (0, 0)), rowO 3 encInt A18 c19 t13.1.Cells, blk g7 (.cells #[(iv 2), (iv 2), (.slice (some ⟨g3, 0, none⟩) [0, 1, 1, 0].length 4)] 28 (0, 0)), rowO 3 encInt (some ⟨g3, 0, none⟩) 4 [0, 1, 1, 0]] (hS28.call hk_ [] [0, 1, 2, 3] (fun g hg => hg.elim) (by simp) (by decide))
   refine ⟨⟨hS33.cell 3 rfl 0 rfl, hS33.cell 3 rfl 1 rfl, hS33.cell 3 rfl 2 rfl, hS33.cell 1 rfl 2 rfl, hS33.cell 1 rfl 0 rfl, hS33.cell 1 rfl 1 rfl, hS33.cell 1 rfl 2 rfl, trivial⟩, ?_⟩
   obtain ⟨t36, ht37, hx26⟩ := bind_some hx26
   refine WL.call (some 13) 21 #[(sv A34 t29 c35), (.agg #[(iv 2), (iv 2), (sv (some ⟨g3, 0, none⟩) [0, 1, 1, 0] 4)])] (fun fb => by kernel_rfl) (tile_Repeats_calls _ t29 (Pattern.mk 2 2 [0, 1, 1, 0]) A34 c35 (some ⟨g3, 0, none⟩) 4 t36 _ (hS33.ow 0).ofO (hS33.ow 4).ofO ht37) (fun v w38 hR39 => ?_)
   obtain ⟨rfl, hk_⟩ := hR39
   have hS40 := hS33.keepN hk_
   refine ⟨⟨hS40.cell 1 rfl 2 rfl, hS40.cell 1 rfl 0 rfl, hS40.cell 1 rfl 1 rfl, hS40.cell 1 rfl 2 rfl, trivial⟩, ?_⟩
   refine seg 4 [] [2, 3, 14] [(2, (pt g20)), (3, (iv t13.2)), (14, (bv t36))] [] (fun fb => by kernel_rfl) rfl trivial ?_
   obtain ⟨x41, hx42, hx26⟩ := bind_some hx26
   refine WL.cutW (T := Bool) 10 (fun t => [(2, (pt g20)), (3, (iv t13.2)), (20, (bv t))]) (fun t w1 => (St NoS w w1 [] [blk g20 (.cells #[(iv t13.1.Width), (iv t13.1.Height), (sv A18 t13.1.Cells c19)] 28 (0, 0)), rowO 3 encInt A18 c19 t13.1.Cells] ∧ x41 = t) ∧ CellsOK [] w1) (fun K => ?_) ?_
   ·
    rcases br_some hx42 with ⟨h43, hx42⟩ | ⟨h43, hx42⟩
    ·
     refine WL.setB 14 h43 rfl ?_
     obtain ⟨t44, ht45, hx42⟩ := bind_some hx42
     refine WL.call (some 15) 22 #[] (fun fb => by kernel_rfl) (top_chess_calls t44 _ ht45) (fun v w46 hR47 => ?_)
     obtain ⟨A49, c50, rfl, hk_⟩ := hR47
     have hS48 := hS33.go w46 [rowO 39 enc_Tile A49 c50 t44, rowO 39 enc_Tile A34 c35 t29, blk g20 (.cells #[(iv t13.1.Width), (iv t13.1.Height), (.slice A18 t13.1.Cells.length c19)] 28 (0, 0)), rowO 3 encInt A18 c19 t13.1.Cells, blk g7 (.cells #[(iv 2), (iv 2), (.slice (some ⟨g3, 0, none⟩) [0, 1, 1, 0].length 4)] 28 (0, 0)), rowO 3 encInt (some ⟨g3, 0, none⟩) 4 [0, 1, 1, 0]] (hS40.call hk_ [] [0, 1, 2, 3, 4] (fun g hg => hg.elim) (by simp) (by decide))
     refine ⟨⟨hS48.cell 2 rfl 2 rfl, hS48.cell 2 rfl 0 rfl, hS48.cell 2 rfl 1 rfl, hS48.cell 2 rfl 2 rfl, trivial⟩, ?_⟩
     refine WL.new hS48 16 [] (fun g => (.slice (some ⟨g, 0, none⟩) 1 1)) (.cells #[(iv 0)] 3 (0, 0)) [] (fun fb g => by kernel_rfl) trivial (fun g51 w52 hS53 => ?_)
     refine ⟨⟨hS53.cell 3 rfl 2 rfl, hS53.cell 3 rfl 0 rfl, hS53.cell 3 rfl 1 rfl, hS53.cell 3 rfl 2 rfl, trivial⟩, ?_⟩
     have hS54 := hS48.go w52 [rowO 3 encInt (some ⟨g51, 0, none⟩) 1 [0], rowO 39 enc_Tile A49 c50 t44, rowO 39 enc_Tile A34 c35 t29, blk g20 (.cells #[(iv t13.1.Width), (iv t13.1.Height), (sv A18 t13.1.Cells c19)] 28 (0, 0)), rowO 3 encInt A18 c19 t13.1.Cells, blk g7 (.cells #[(iv 2), (iv 2), (sv (some ⟨g3, 0, none⟩) [0, 1, 1, 0] 4)] 28 (0, 0)), rowO 3 encInt (some ⟨g3, 0, none⟩) 4 [0, 1, 1, 0]] (hS53.map1 0 _ (fun h => rowO.ofBlk h rfl (Nat.le_of_ble_eq_true (by kernel_rfl))) (fun _ h => by obtain ⟨_, h1, h2⟩ := h; injection h1 with h1; subst h1; exact h2) [1, 2, 3, 4, 5, 6] (by decide) (by decide))
     refine seg 7 [] [2, 3, 14, 15, 17] [(2, (pt g20)), (3, (iv t13.2)), (14, (bv true)), (15, (sv A49 t44 c50)), (17, (.agg #[(iv 1), (iv 1), (sv (some ⟨g51, 0, none⟩) [0] 1)]))] [] (fun fb => by kernel_rfl) rfl trivial ?_
     obtain ⟨t55, ht56, hx42⟩ := bind_some hx42
     refine WL.call (some 18) 21 #[(sv A49 t44 c50), (.agg #[(iv 1), (iv 1), (sv (some ⟨g51, 0, none⟩) [0] 1)])] (fun fb => by kernel_rfl) (tile_Repeats_calls _ t44 (Pattern.mk 1 1 [0]) A49 c50 (some ⟨g51, 0, none⟩) 1 t55 _ (hS54.ow 1).ofO (hS54.ow 0).ofO ht56) (fun v w57 hR58 => ?_)
     obtain ⟨rfl, hk_⟩ := hR58
     have hS59 := hS54.keepN hk_
     refine ⟨⟨hS59.cell 3 rfl 2 rfl, hS59.cell 3 rfl 0 rfl, hS59.cell 3 rfl 1 rfl, hS59.cell 3 rfl 2 rfl, trivial⟩, ?_⟩
     refine seg 10 [] [2, 3, 20] [(2, (pt g20)), (3, (iv t13.2)), (20, (bv (!t55)))] [] (fun fb => by kernel_rfl) rfl trivial ?_
     injection hx42 with hx42
     exact WL.to K (!t55) [2, 3, 20] rfl ⟨⟨(hS59.subR []).sub [3, 4] (by decide), hx42.symm⟩, trivial⟩
    refine WL.setB 14 h43 rfl ?_
    refine seg 10 [] [2, 3, 20] [(2, (pt g20)), (3, (iv t13.2)), (20, (bv false))] [] (fun fb => by kernel_rfl) rfl trivial ?_
    injection hx42 with hx42
    exact WL.to K false [2, 3, 20] rfl ⟨⟨(hS40.subR []).sub [1, 2] (by decide), hx42.symm⟩, trivial⟩
   rintro y60 w62 ⟨⟨hS63, hq61⟩, hF65⟩
   subst hq61
   refine seg 11 [] [2, 3, 21] [(2, (pt g20)), (3, (iv t13.2)), (21, (bv x41))] [] (fun fb => by kernel_rfl) rfl trivial ?_
   refine WL.cutV (T := Bool) 14 (fun t => [(24, (bv t)), (2, (pt g20))]) (fun t => (x41 && (t13.2 == 0)) = t) (fun K => ?_) ?_
   ·
    rcases Bool.eq_false_or_eq_true x41 with h66 | h66
    ·
     refine WL.setB 21 h66 rfl ?_
     refine seg 14 [] [2, 24] [(2, (pt g20)), (24, (bv (t13.2 == 0)))] [] (fun fb => by kernel_rfl) rfl trivial ?_
     exact WL.toV K (t13.2 == 0) [24, 2] rfl (by first | (rw [h66]; done) | (rw [h66]; rfl))
    refine WL.setB 21 h66 rfl ?_
    refine seg 14 [] [2, 24] [(2, (pt g20)), (24, (bv false))] [] (fun fb => by kernel_rfl) rfl trivial ?_
    exact WL.toV K false [24, 2] rfl (by first | (rw [h66]; done) | (rw [h66]; rfl))
   rintro b67 rfl
   refine seg 15 [] [2, 25] [(2, (pt g20)), (25, (bv (x41 && (t13.2 == 0))))] [] (fun fb => by kernel_rfl) rfl trivial ?_
   obtain ⟨x68, hx69, hx26⟩ := bind_some hx26
   refine WL.cutW (T := Bool) 20 (fun t => [(2, (pt g20)), (30, (bv t))]) (fun t w1 => (St NoS w w1 [] [blk g20 (.cells #[(iv t13.1.Width), (iv t13.1.Height), (sv A18 t13.1.Cells c19)] 28 (0, 0)), rowO 3 encInt A18 c19 t13.1.Cells] ∧ x68 = t) ∧ CellsOK [] w1) (fun K => ?_) ?_
   ·
    rcases br_some hx69 with ⟨h70, hx69⟩ | ⟨h70, hx69⟩
    ·
     refine WL.setB 25 h70 rfl ?_
     refine segF 17 [.v (sv A18 t13.1.Cells c19)] [2, 25, 27] [(2, (pt g20)), (25, (bv true)), (27, (sv A18 t13.1.Cells c19))] [] [3] [(16, ⟨g20, 2, none⟩, (sv A18 t13.1.Cells c19))] (fun fb => by kernel_rfl) rfl trivial rfl ?_
     refine WL.new hS63 28 [] (fun g => (.slice (some ⟨g, 0, none⟩) 3 3)) (.cells #[(iv 0), (iv 1), (iv 0)] 3 (0, 0)) [] (fun fb g => by kernel_rfl) trivial (fun g71 w72 hS73 => ?_)
     refine ⟨⟨hS73.cell 1 rfl 2 rfl, hS73.cell 1 rfl 0 rfl, hS73.cell 1 rfl 1 rfl, hS73.cell 1 rfl 2 rfl, trivial⟩, ?_⟩
     have hS74 := hS33.go w72 [rowO 3 encInt (some ⟨g71, 0, none⟩) 3 [0, 1, 0], blk g20 (.cells #[(iv t13.1.Width), (iv t13.1.Height), (sv A18 t13.1.Cells c19)] 28 (0, 0)), rowO 3 encInt A18 c19 t13.1.Cells] (hS73.map1 0 _ (fun h => rowO.ofBlk h rfl (Nat.le_of_ble_eq_true (by kernel_rfl))) (fun _ h => by obtain ⟨_, h1, h2⟩ := h; injection h1 with h1; subst h1; exact h2) [1, 2] (by decide) (by decide))
     obtain ⟨t75, ht76, hx69⟩ := bind_some hx69
     refine WL.call (some 29) 23 #[(sv A18 t13.1.Cells c19), (sv (some ⟨g71, 0, none⟩) [0, 1, 0] 3)] (fun fb => by kernel_rfl) (top_sameInts_calls _ t13.1.Cells [0, 1, 0] A18 c19 (some ⟨g71, 0, none⟩) 3 t75 _ (hS74.ow 2).ofO (hS74.ow 0).ofO ht76) (fun v w77 hR78 => ?_)
     obtain ⟨rfl, hk_⟩ := hR78
     have hS79 := hS74.keepN hk_
     refine ⟨⟨hS79.cell 1 rfl 0 rfl, hS79.cell 1 rfl 1 rfl, hS79.cell 1 rfl 2 rfl, trivial⟩, ?_⟩
     refine seg 20 [] [2, 30] [(2, (pt g20)), (30, (bv t75))] [] (fun fb => by kernel_rfl) rfl trivial ?_
     injection hx69 with hx69
     exact WL.to K t75 [2, 30] rfl ⟨⟨(hS79.subR []).sub [1, 2] (by decide), hx69.symm⟩, trivial⟩
    refine WL.setB 25 h70 rfl ?_
    refine seg 20 [] [2, 30] [(2, (pt g20)), (30, (bv false))] [] (fun fb => by kernel_rfl) rfl trivial ?_
    injection hx69 with hx69
    exact WL.to K false [2, 30] rfl ⟨⟨(hS63.subR []).sub [0, 1] (by decide), hx69.symm⟩, trivial⟩
   rintro y80 w82 ⟨⟨hS83, hq81⟩, hF84⟩
   subst hq81
   refine seg 21 [] [2, 31] [(2, (pt g20)), (31, (bv x68))] [] (fun fb => by kernel_rfl) rfl trivial ?_
   obtain ⟨x85, hx86, hx26⟩ := bind_some hx26
   refine WL.cutW (T := Bool) 25 (fun t => [(35, (bv t))]) (fun t w1 => (St NoS w w1 [] [] ∧ x85 = t) ∧ CellsOK [] w1) (fun K => ?_) ?_
   ·
    rcases br_some hx86 with ⟨h87, hx86⟩ | ⟨h87, hx86⟩
    ·
     refine WL.setB 31 h87 rfl ?_
     refine segF 22 [.v (iv t13.1.Width), .v (iv t13.1.Height), .v (sv A18 t13.1.Cells c19)] [31, 33] [(31, (bv true)), (33, (.agg #[(iv t13.1.Width), (iv t13.1.Height), (sv A18 t13.1.Cells c19)]))] [] [4, 5, 6] [(22, ⟨g20, 0, none⟩, (iv t13.1.Width)), (22, ⟨g20, 1, none⟩, (iv t13.1.Height)), (22, ⟨g20, 2, none⟩, (sv A18 t13.1.Cells c19))] (fun fb => by kernel_rfl) rfl trivial rfl ?_
     obtain ⟨t88, ht89, hx86⟩ := bind_some hx86
     refine WL.call (some 32) 22 #[] (fun fb => by kernel_rfl) (top_chess_calls t88 _ ht89) (fun v w90 hR91 => ?_)
     obtain ⟨A93, c94, rfl, hk_⟩ := hR91
     have hS92 := hS33.go w90 [rowO 39 enc_Tile A93 c94 t88, blk g20 (.cells #[(iv t13.1.Width), (iv t13.1.Height), (.slice A18 t13.1.Cells.length c19)] 28 (0, 0)), rowO 3 encInt A18 c19 t13.1.Cells] (hS83.call hk_ [] [0, 1] (fun g hg => hg.elim) (by simp) (by decide))
     refine ⟨⟨hS92.cell 1 rfl 0 rfl, hS92.cell 1 rfl 1 rfl, hS92.cell 1 rfl 2 rfl, trivial⟩, ?_⟩
     obtain ⟨t95, ht96, hx86⟩ := bind_some hx86
     refine WL.call (some 34) 24 #[(sv A93 t88 c94), (.agg #[(iv t13.1.Width), (iv t13.1.Height), (sv A18 t13.1.Cells c19)])] (fun fb => by kernel_rfl) (tile_Fits_calls _ t88 t13.1 A93 c94 A18 c19 t95 _ (hS92.ow 0).ofO (hS92.ow 2).ofO ht96) (fun v w97 hR98 => ?_)
     obtain ⟨rfl, hk_⟩ := hR98
     have hS99 := hS92.keepN hk_
     refine ⟨trivial, ?_⟩
     refine seg 25 [] [35] [(35, (bv t95))] [] (fun fb => by kernel_rfl) rfl trivial ?_
     injection hx86 with hx86
     exact WL.to K t95 [35] rfl ⟨⟨(hS99.subR []).sub [] (by decide), hx86.symm⟩, trivial⟩
    refine WL.setB 31 h87 rfl ?_
    refine seg 25 [] [35] [(35, (bv false))] [] (fun fb => by kernel_rfl) rfl trivial ?_
    injection hx86 with hx86
    exact WL.to K false [35] rfl ⟨⟨(hS83.subR []).sub [] (by decide), hx86.symm⟩, trivial⟩
   rintro y100 w102 ⟨⟨hS103, hq101⟩, hF104⟩
   subst hq101
   refine seg 26 [] [0] [(0, (bv x85))] [] (fun fb => by kernel_rfl) rfl trivial ?_
   refine WL.done rfl ?_
   injection hx26 with hx26
   exact WX.to Kx25 x85 [0] rfl ⟨(hS103.subR []).sub [] (by decide), hx26.symm⟩
  refine segF 1 [.v (iv 2), .v (iv 2), .v (sv (some ⟨g3, 0, none⟩) [0, 1, 1, 0] 4)] [2, 3, 12] [(2, (pt g20)), (3, (iv t13.2)), (12, (.agg #[(iv 2), (iv 2), (sv (some ⟨g3, 0, none⟩) [0, 1, 1, 0] 4)]))] [] [0, 1, 2] [(1, ⟨g7, 0, none⟩, (iv 2)), (1, ⟨g7, 1, none⟩, (iv 2)), (1, ⟨g7, 2, none⟩, (sv (some ⟨g3, 0, none⟩) [0, 1, 1, 0] 4))] (fun fb => by kernel_rfl) rfl trivial rfl ?_
  obtain ⟨t105, ht106, hx26⟩ := bind_some hx26
  refine WL.call (some 11) 22 #[] (fun fb => by kernel_rfl) (top_chess_calls t105 _ ht106) (fun v w107 hR108 => ?_)
  obtain ⟨A110, c111, rfl, hk_⟩ := hR108
  have hS109 := hS17.go w107 [rowO 39 enc_Tile A110 c111 t105, blk g20 (.cells #[(iv t13.1.Width), (iv t13.1.Height), (.slice A18 t13.1.Cells.length c19)] 28 (0, 0)), rowO 3 encInt A18 c19 t13.1.Cells, blk g7 (.cells #[(iv 2), (iv 2), (.slice (some ⟨g3, 0, none⟩) [0, 1, 1, 0].length 4)] 28 (0, 0)), rowO 3 encInt (some ⟨g3, 0, none⟩) 4 [0, 1, 1, 0]] (hS28.call hk_ [] [0, 1, 2, 3] (fun g hg => hg.elim) (by simp) (by decide))
  refine ⟨⟨hS109.cell 3 rfl 0 rfl, hS109.cell 3 rfl 1 rfl, hS109.cell 3 rfl 2 rfl, hS109.cell 1 rfl 2 rfl, hS109.cell 1 rfl 0 rfl, hS109.cell 1 rfl 1 rfl, hS109.cell 1 rfl 2 rfl, trivial⟩, ?_⟩
  obtain ⟨t112, ht113, hx26⟩ := bind_some hx26
  refine WL.call (some 13) 21 #[(sv A110 t105 c111), (.agg #[(iv 2), (iv 2), (sv (some ⟨g3, 0, none⟩) [0, 1, 1, 0] 4)])] (fun fb => by kernel_rfl) (tile_Repeats_calls _ t105 (Pattern.mk 2 2 [0, 1, 1, 0]) A110 c111 (some ⟨g3, 0, none⟩) 4 t112 _ (hS109.ow 0).ofO (hS109.ow 4).ofO ht113) (fun v w114 hR115 => ?_)
  obtain ⟨rfl, hk_⟩ := hR115
  have hS116 := hS109.keepN hk_
  refine ⟨⟨hS116.cell 1 rfl 2 rfl, hS116.cell 1 rfl 0 rfl, hS116.cell 1 rfl 1 rfl, hS116.cell 1 rfl 2 rfl, trivial⟩, ?_⟩
  refine seg 4 [] [2, 3, 14] [(2, (pt g20)), (3, (iv t13.2)), (14, (bv t112))] [] (fun fb => by kernel_rfl) rfl trivial ?_
  obtain ⟨x117, hx118, hx26⟩ := bind_some hx26
  refine WL.cutW (T := Bool) 10 (fun t => [(2, (pt g20)), (3, (iv t13.2)), (20, (bv t))]) (fun t w1 => (St NoS w w1 [] [blk g20 (.cells #[(iv t13.1.Width), (iv t13.1.Height), (sv A18 t13.1.Cells c19)] 28 (0, 0)), rowO 3 encInt A18 c19 t13.1.Cells] ∧ x117 = t) ∧ CellsOK [] w1) (fun K => ?_) ?_
  ·
   rcases br_some hx118 with ⟨h119, hx118⟩ | ⟨h119, hx118⟩
   ·
    refine WL.setB 14 h119 rfl ?_
    refine WL.new hS116 16 [] (fun g => (.slice (some ⟨g, 0, none⟩) 1 1)) (.cells #[(iv 0)] 3 (0, 0)) [] (fun fb g => by kernel_rfl) trivial (fun g120 w121 hS122 => ?_)
    refine ⟨⟨hS122.cell 2 rfl 2 rfl, hS122.cell 2 rfl 0 rfl, hS122.cell 2 rfl 1 rfl, hS122.cell 2 rfl 2 rfl, trivial⟩, ?_⟩
    have hS123 := hS109.go w121 [rowO 3 encInt (some ⟨g120, 0, none⟩) 1 [0], rowO 39 enc_Tile A110 c111 t105, blk g20 (.cells #[(iv t13.1.Width), (iv t13.1.Height), (sv A18 t13.1.Cells c19)] 28 (0, 0)), rowO 3 encInt A18 c19 t13.1.Cells, blk g7 (.cells #[(iv 2), (iv 2), (sv (some ⟨g3, 0, none⟩) [0, 1, 1, 0] 4)] 28 (0, 0)), rowO 3 encInt (some ⟨g3, 0, none⟩) 4 [0, 1, 1, 0]] (hS122.map1 0 _ (fun h => rowO.ofBlk h rfl (Nat.le_of_ble_eq_true (by kernel_rfl))) (fun _ h => by obtain ⟨_, h1, h2⟩ := h; injection h1 with h1; subst h1; exact h2) [1, 2, 3, 4, 5] (by decide) (by decide))
    refine seg 6 [] [2, 3, 14, 17] [(2, (pt g20)), (3, (iv t13.2)), (14, (bv true)), (17, (.agg #[(iv 1), (iv 1), (sv (some ⟨g120, 0, none⟩) [0] 1)]))] [] (fun fb => by kernel_rfl) rfl trivial ?_
    obtain ⟨t124, ht125, hx118⟩ := bind_some hx118
    refine WL.call (some 15) 22 #[] (fun fb => by kernel_rfl) (top_chess_calls t124 _ ht125) (fun v w126 hR127 => ?_)
    obtain ⟨A129, c130, rfl, hk_⟩ := hR127
    have hS128 := hS123.go w126 [rowO 39 enc_Tile A129 c130 t124, rowO 3 encInt (some ⟨g120, 0, none⟩) 1 [0], rowO 39 enc_Tile A110 c111 t105, blk g20 (.cells #[(iv t13.1.Width), (iv t13.1.Height), (.slice A18 t13.1.Cells.length c19)] 28 (0, 0)), rowO 3 encInt A18 c19 t13.1.Cells, blk g7 (.cells #[(iv 2), (iv 2), (.slice (some ⟨g3, 0, none⟩) [0, 1, 1, 0].length 4)] 28 (0, 0)), rowO 3 encInt (some ⟨g3, 0, none⟩) 4 [0, 1, 1, 0]] (hS123.call hk_ [] [0, 1, 2, 3, 4, 5] (fun g hg => hg.elim) (by simp) (by decide))
    refine ⟨⟨hS128.cell 3 rfl 2 rfl, hS128.cell 3 rfl 0 rfl, hS128.cell 3 rfl 1 rfl, hS128.cell 3 rfl 2 rfl, trivial⟩, ?_⟩
    obtain ⟨t131, ht132, hx118⟩ := bind_some hx118
    refine WL.call (some 18) 21 #[(sv A129 t124 c130), (.agg #[(iv 1), (iv 1), (sv (some ⟨g120, 0, none⟩) [0] 1)])] (fun fb => by kernel_rfl) (tile_Repeats_calls _ t124 (Pattern.mk 1 1 [0]) A129 c130 (some ⟨g120, 0, none⟩) 1 t131 _ (hS128.ow 0).ofO (hS128.ow 1).ofO ht132) (fun v w133 hR134 => ?_)
    obtain ⟨rfl, hk_⟩ := hR134
    have hS135 := hS128.keepN hk_
    refine ⟨⟨hS135.cell 3 rfl 2 rfl, hS135.cell 3 rfl 0 rfl, hS135.cell 3 rfl 1 rfl, hS135.cell 3 rfl 2 rfl, trivial⟩, ?_⟩
    refine seg 10 [] [2, 3, 20] [(2, (pt g20)), (3, (iv t13.2)), (20, (bv (!t131)))] [] (fun fb => by kernel_rfl) rfl trivial ?_
    injection hx118 with hx118
    exact WL.to K (!t131) [2, 3, 20] rfl ⟨⟨(hS135.subR []).sub [3, 4] (by decide), hx118.symm⟩, trivial⟩
   refine WL.setB 14 h119 rfl ?_
   refine seg 10 [] [2, 3, 20] [(2, (pt g20)), (3, (iv t13.2)), (20, (bv false))] [] (fun fb => by kernel_rfl) rfl trivial ?_
   injection hx118 with hx118
   exact WL.to K false [2, 3, 20] rfl ⟨⟨(hS116.subR []).sub [1, 2] (by decide), hx118.symm⟩, trivial⟩
  rintro y136 w138 ⟨⟨hS139, hq137⟩, hF140⟩
  subst hq137
  refine seg 11 [] [2, 3, 21] [(2, (pt g20)), (3, (iv t13.2)), (21, (bv x117))] [] (fun fb => by kernel_rfl) rfl trivial ?_
  refine WL.cutV (T := Bool) 14 (fun t => [(24, (bv t)), (2, (pt g20))]) (fun t => (x117 && (t13.2 == 0)) = t) (fun K => ?_) ?_
  ·
   rcases Bool.eq_false_or_eq_true x117 with h141 | h141
   ·
    refine WL.setB 21 h141 rfl ?_
    refine seg 14 [] [2, 24] [(2, (pt g20)), (24, (bv (t13.2 == 0)))] [] (fun fb => by kernel_rfl) rfl trivial ?_
    exact WL.toV K (t13.2 == 0) [24, 2] rfl (by first | (rw [h141]; done) | (rw [h141]; rfl))
   refine WL.setB 21 h141 rfl ?_
   refine seg 14 [] [2, 24] [(2, (pt g20)), (24, (bv false))] [] (fun fb => by kernel_rfl) rfl trivial ?_
   exact WL.toV K false [24, 2] rfl (by first | (rw [h141]; done) | (rw [h141]; rfl))
  rintro b142 rfl
  refine seg 15 [] [2, 25] [(2, (pt g20)), (25, (bv (x117 && (t13.2 == 0))))] [] (fun fb => by kernel_rfl) rfl trivial ?_
  obtain ⟨x143, hx144, hx26⟩ := bind_some hx26
  refine WL.cutW (T := Bool) 20 (fun t => [(2, (pt g20)), (30, (bv t))]) (fun t w1 => (St NoS w w1 [] [blk g20 (.cells #[(iv t13.1.Width), (iv t13.1.Height), (sv A18 t13.1.Cells c19)] 28 (0, 0)), rowO 3 encInt A18 c19 t13.1.Cells] ∧ x143 = t) ∧ CellsOK [] w1) (fun K => ?_) ?_
  ·
   rcases br_some hx144 with ⟨h145, hx144⟩ | ⟨h145, hx144⟩
   ·
    refine WL.setB 25 h145 rfl ?_
    refine segF 17 [.v (sv A18 t13.1.Cells c19)] [2, 25, 27] [(2, (pt g20)), (25, (bv true)), (27, (sv A18 t13.1.Cells c19))] [] [3] [(16, ⟨g20, 2, none⟩, (sv A18 t13.1.Cells c19))] (fun fb => by kernel_rfl) rfl trivial rfl ?_
    refine WL.new hS139 28 [] (fun g => (.slice (some ⟨g, 0, none⟩) 3 3)) (.cells #[(iv 0), (iv 1), (iv 0)] 3 (0, 0)) [] (fun fb g => by kernel_rfl) trivial (fun g146 w147 hS148 => ?_)
    refine ⟨⟨hS148.cell 1 rfl 2 rfl, hS148.cell 1 rfl 0 rfl, hS148.cell 1 rfl 1 rfl, hS148.cell 1 rfl 2 rfl, trivial⟩, ?_⟩
    have hS149 := hS109.go w147 [rowO 3 encInt (some ⟨g146, 0, none⟩) 3 [0, 1, 0], blk g20 (.cells #[(iv t13.1.Width), (iv t13.1.Height), (sv A18 t13.1.Cells c19)] 28 (0, 0)), rowO 3 encInt A18 c19 t13.1.Cells] (hS148.map1 0 _ (fun h => rowO.ofBlk h rfl (Nat.le_of_ble_eq_true (by kernel_rfl))) (fun _ h => by obtain ⟨_, h1, h2⟩ := h; injection h1 with h1; subst h1; exact h2) [1, 2] (by decide) (by decide))
    obtain ⟨t150, ht151, hx144⟩ := bind_some hx144
    refine WL.call (some 29) 23 #[(sv A18 t13.1.Cells c19), (sv (some ⟨g146, 0, none⟩) [0, 1, 0] 3)] (fun fb => by kernel_rfl) (top_sameInts_calls _ t13.1.Cells [0, 1, 0] A18 c19 (some ⟨g146, 0, none⟩) 3 t150 _ (hS149.ow 2).ofO (hS149.ow 0).ofO ht151) (fun v w152 hR153 => ?_)
    obtain ⟨rfl, hk_⟩ := hR153
    have hS154 := hS149.keepN hk_
    refine ⟨⟨hS154.cell 1 rfl 0 rfl, hS154.cell 1 rfl 1 rfl, hS154.cell 1 rfl 2 rfl, trivial⟩, ?_⟩
    refine seg 20 [] [2, 30] [(2, (pt g20)), (30, (bv t150))] [] (fun fb => by kernel_rfl) rfl trivial ?_
    injection hx144 with hx144
    exact WL.to K t150 [2, 30] rfl ⟨⟨(hS154.subR []).sub [1, 2] (by decide), hx144.symm⟩, trivial⟩
   refine WL.setB 25 h145 rfl ?_
   refine seg 20 [] [2, 30] [(2, (pt g20)), (30, (bv false))] [] (fun fb => by kernel_rfl) rfl trivial ?_
   injection hx144 with hx144
   exact WL.to K false [2, 30] rfl ⟨⟨(hS139.subR []).sub [0, 1] (by decide), hx144.symm⟩, trivial⟩
  rintro y155 w157 ⟨⟨hS158, hq156⟩, hF159⟩
  subst hq156
  refine seg 21 [] [2, 31] [(2, (pt g20)), (31, (bv x143))] [] (fun fb => by kernel_rfl) rfl trivial ?_
  obtain ⟨x160, hx161, hx26⟩ := bind_some hx26
  refine WL.cutW (T := Bool) 25 (fun t => [(35, (bv t))]) (fun t w1 => (St NoS w w1 [] [] ∧ x160 = t) ∧ CellsOK [] w1) (fun K => ?_) ?_
  ·
   rcases br_some hx161 with ⟨h162, hx161⟩ | ⟨h162, hx161⟩
   ·
    refine WL.setB 31 h162 rfl ?_
    refine segF 22 [.v (iv t13.1.Width), .v (iv t13.1.Height), .v (sv A18 t13.1.Cells c19)] [31, 33] [(31, (bv true)), (33, (.agg #[(iv t13.1.Width), (iv t13.1.Height), (sv A18 t13.1.Cells c19)]))] [] [4, 5, 6] [(22, ⟨g20, 0, none⟩, (iv t13.1.Width)), (22, ⟨g20, 1, none⟩, (iv t13.1.Height)), (22, ⟨g20, 2, none⟩, (sv A18 t13.1.Cells c19))] (fun fb => by kernel_rfl) rfl trivial rfl ?_
    obtain ⟨t163, ht164, hx161⟩ := bind_some hx161
    refine WL.call (some 32) 22 #[] (fun fb => by kernel_rfl) (top_chess_calls t163 _ ht164) (fun v w165 hR166 => ?_)
    obtain ⟨A168, c169, rfl, hk_⟩ := hR166
    have hS167 := hS109.go w165 [rowO 39 enc_Tile A168 c169 t163, blk g20 (.cells #[(iv t13.1.Width), (iv t13.1.Height), (.slice A18 t13.1.Cells.length c19)] 28 (0, 0)), rowO 3 encInt A18 c19 t13.1.Cells] (hS158.call hk_ [] [0, 1] (fun g hg => hg.elim) (by simp) (by decide))
    refine ⟨⟨hS167.cell 1 rfl 0 rfl, hS167.cell 1 rfl 1 rfl, hS167.cell 1 rfl 2 rfl, trivial⟩, ?_⟩
    obtain ⟨t170, ht171, hx161⟩ := bind_some hx161
    refine WL.call (some 34) 24 #[(sv A168 t163 c169), (.agg #[(iv t13.1.Width), (iv t13.1.Height), (sv A18 t13.1.Cells c19)])] (fun fb => by kernel_rfl) (tile_Fits_calls _ t163 t13.1 A168 c169 A18 c19 t170 _ (hS167.ow 0).ofO (hS167.ow 2).ofO ht171) (fun v w172 hR173 => ?_)
    obtain ⟨rfl, hk_⟩ := hR173
    have hS174 := hS167.keepN hk_
    refine ⟨trivial, ?_⟩
    refine seg 25 [] [35] [(35, (bv t170))] [] (fun fb => by kernel_rfl) rfl trivial ?_
    injection hx161 with hx161
    exact WL.to K t170 [35] rfl ⟨⟨(hS174.subR []).sub [] (by decide), hx161.symm⟩, trivial⟩
   refine WL.setB 31 h162 rfl ?_
   refine seg 25 [] [35] [(35, (bv false))] [] (fun fb => by kernel_rfl) rfl trivial ?_
   injection hx161 with hx161
   exact WL.to K false [35] rfl ⟨⟨(hS158.subR []).sub [] (by decide), hx161.symm⟩, trivial⟩
  rintro y175 w177 ⟨⟨hS178, hq176⟩, hF179⟩
  subst hq176
  refine seg 26 [] [0] [(0, (bv x160))] [] (fun fb => by kernel_rfl) rfl trivial ?_
  refine WL.done rfl ?_
  injection hx26 with hx26
  exact WX.to Kx25 x160 [0] rfl ⟨(hS178.subR []).sub [] (by decide), hx26.symm⟩
 rintro y183 w180 ⟨hS181, hq182⟩
 subst hq182
 refine WX.next ?_
 refine WC.ret ?_
 injection hf with hf
 subst hf
 exact WX.ret_ [] (bv x25) [] (fun fb => by kernel_rfl) trivial ⟨_, rfl, rfl, hS181.keep⟩
theorem top_doubles_calls (k : Nat)   (r : Bool) (w : World) (hR0 : RO NoS w (tabO 0 #[(.int .u64 2305843009213693951), (.int .u64 2305843009213693921), (.int .u64 2305843009213693907)])) (hf : top_doubles k = some r) :
  CallsR Tryd.prog 4 #[] w (fun v w' => v = (bv r) ∧ Keeps NoS w w') := by
 have hS : St NoS w w [tabO 0 #[(.int .u64 2305843009213693951), (.int .u64 2305843009213693921), (.int .u64 2305843009213693907)]] [] := St.init (ro_cons hR0 (ro_nil _ _))
 refine enter 36 Tryd.func4 rfl Tryd.ntmps4 rfl ?_
 unfold top_doubles at hf
 refine WC.seq (WC.region ?_)
 refine seg 1 [] [] [] [] (fun fb => by kernel_rfl) rfl trivial ?_
 refine WL.done rfl (WX.next (WC.seq (WC.region ?_)))
 refine seg 1 [] [1] [(1, (.func (.func 7) #[] #[]))] [] (fun fb => by kernel_rfl) rfl trivial ?_
 refine WL.done rfl (WX.next (WC.seq (WC.region ?_)))
 refine seg 1 [] [1, 5] [(1, (.func (.func 7) #[] #[])), (5, (.func (.func 7) #[] #[]))] [] (fun fb => by kernel_rfl) rfl trivial ?_
 obtain ⟨t18, ht19, hf⟩ := bind_some hf
 refine WL.call (some 6) 7 #[(iv 0)] (fun fb => by kernel_rfl) (top_doubles_1_calls 0 t18 _ ht19) (fun v w20 hR21 => ?_)
 obtain ⟨rfl, hk_⟩ := hR21
 have hS22 := hS.keepN hk_
 refine ⟨trivial, ?_⟩
 refine seg 3 [] [1, 6, 7] [(1, (.func (.func 7) #[] #[])), (6, (.agg #[(iv t18.Num), (iv t18.Den)])), (7, (.func (.func 7) #[] #[]))] [] (fun fb => by kernel_rfl) rfl trivial ?_
 obtain ⟨t23, ht24, hf⟩ := bind_some hf
 refine WL.call (some 8) 7 #[(iv 1)] (fun fb => by kernel_rfl) (top_doubles_1_calls 1 t23 _ ht24) (fun v w25 hR26 => ?_)
 obtain ⟨rfl, hk_⟩ := hR26
 have hS27 := hS22.keepN hk_
 refine ⟨trivial, ?_⟩
 refine seg 5 [] [1, 6, 8, 9] [(1, (.func (.func 7) #[] #[])), (6, (.agg #[(iv t18.Num), (iv t18.Den)])), (8, (.agg #[(iv t23.Num), (iv t23.Den)])), (9, (.func (.func 7) #[] #[]))] [] (fun fb => by kernel_rfl) rfl trivial ?_
 obtain ⟨t28, ht29, hf⟩ := bind_some hf
 refine WL.call (some 10) 7 #[(iv 2)] (fun fb => by kernel_rfl) (top_doubles_1_calls 2 t28 _ ht29) (fun v w30 hR31 => ?_)
 obtain ⟨rfl, hk_⟩ := hR31
 have hS32 := hS27.keepN hk_
 refine ⟨trivial, ?_⟩
 refine WL.new hS32 11 [] (fun g => (.slice (some ⟨g, 0, none⟩) 3 3)) (.cells #[(iv t18.Num), (iv t18.Den), (iv t23.Num), (iv t23.Den), (iv t28.Num), (iv t28.Den)] 36 (0, 0)) [] (fun fb g => by kernel_rfl) trivial (fun g33 w34 hS35 => ?_)
 refine ⟨trivial, ?_⟩
 have hS37 := hS.go w34 [rowO 36 enc_Frac (some ⟨g33, 0, none⟩) 3 [t18, t23, t28]] (hS35.map1 0 _ (fun h => rowO.ofBlk h rfl (Nat.le_of_ble_eq_true (by kernel_rfl))) (fun _ h => by obtain ⟨_, h1, h2⟩ := h; injection h1 with h1; subst h1; exact h2) [] (by decide) (by decide))
 refine seg 8 [] [1, 11, 12] [(1, (.func (.func 7) #[] #[])), (11, (sv (some ⟨g33, 0, none⟩) [t18, t23, t28] 3)), (12, (.func (.func 7) #[] #[]))] [] (fun fb => by kernel_rfl) rfl trivial ?_
 obtain ⟨t38, ht39, hf⟩ := bind_some hf
 refine WL.call (some 13) 7 #[(iv 0)] (fun fb => by kernel_rfl) (top_doubles_1_calls 0 t38 _ ht39) (fun v w40 hR41 => ?_)
 obtain ⟨rfl, hk_⟩ := hR41
 have hS42 := hS37.keepN hk_
 refine ⟨trivial, ?_⟩
 refine WL.new hS42 14 [] (fun g => (.slice (some ⟨g, 0, none⟩) 1 1)) (.cells #[(iv t38.Num), (iv t38.Den)] 36 (0, 0)) [] (fun fb g => by kernel_rfl) trivial (fun g43 w44 hS45 => ?_)
 refine ⟨trivial, ?_⟩
 have hS47 := hS37.go w44 [rowO 36 enc_Frac (some ⟨g43, 0, none⟩) 1 [t38], rowO 36 enc_Frac (some ⟨g33, 0, none⟩) 3 [t18, t23, t28]] (hS45.map1 0 _ (fun h => rowO.ofBlk h rfl (Nat.le_of_ble_eq_true (by kernel_rfl))) (fun _ h => by obtain ⟨_, h1, h2⟩ := h; injection h1 with h1; subst h1; exact h2) [1] (by decide) (by decide))
 refine seg 11 [] [11, 14, 15] [(11, (sv (some ⟨g33, 0, none⟩) [t18, t23, t28] 3)), (14, (sv (some ⟨g43, 0, none⟩) [t38] 1)), (15, (.func (.func 7) #[] #[]))] [] (fun fb => by kernel_rfl) rfl trivial ?_
 obtain ⟨t48, ht49, hf⟩ := bind_some hf
 refine WL.call (some 16) 7 #[(iv 2)] (fun fb => by kernel_rfl) (top_doubles_1_calls 2 t48 _ ht49) (fun v w50 hR51 => ?_)
 obtain ⟨rfl, hk_⟩ := hR51
 have hS52 := hS47.keepN hk_
 refine ⟨trivial, ?_⟩
 refine WL.new hS52 17 [] (fun g => (.slice (some ⟨g, 0, none⟩) 1 1)) (.cells #[(iv t48.Num), (iv t48.Den)] 36 (0, 0)) [] (fun fb g => by kernel_rfl) trivial (fun g53 w54 hS55 => ?_)
 refine ⟨trivial, ?_⟩
 have hS57 := hS47.go w54 [rowO 36 enc_Frac (some ⟨g53, 0, none⟩) 1 [t48], rowO 36 enc_Frac (some ⟨g43, 0, none⟩) 1 [t38], rowO 36 enc_Frac (some ⟨g33, 0, none⟩) 3 [t18, t23, t28]] (hS55.map1 0 _ (fun h => rowO.ofBlk h rfl (Nat.le_of_ble_eq_true (by kernel_rfl))) (fun _ h => by obtain ⟨_, h1, h2⟩ := h; injection h1 with h1; subst h1; exact h2) [1, 2] (by decide) (by decide))
 refine WL.new hS57 18 [] (fun g => (.slice (some ⟨g, 0, none⟩) 1 1)) (.cells #[(iv 2)] 3 (0, 0)) [] (fun fb g => by kernel_rfl) trivial (fun g58 w59 hS60 => ?_)
 refine ⟨trivial, ?_⟩
 have hS62 := hS57.go w59 [rowO 3 encInt (some ⟨g58, 0, none⟩) 1 [2], rowO 36 enc_Frac (some ⟨g53, 0, none⟩) 1 [t48], rowO 36 enc_Frac (some ⟨g43, 0, none⟩) 1 [t38], rowO 36 enc_Frac (some ⟨g33, 0, none⟩) 3 [t18, t23, t28]] (hS60.map1 0 _ (fun h => rowO.ofBlk h rfl (Nat.le_of_ble_eq_true (by kernel_rfl))) (fun _ h => by obtain ⟨_, h1, h2⟩ := h; injection h1 with h1; subst h1; exact h2) [1, 2, 3] (by decide) (by decide))
 refine WL.new hS62 19 [] (fun g => (.slice (some ⟨g, 0, none⟩) 1 1)) (.cells #[(iv 1)] 3 (0, 0)) [] (fun fb g => by kernel_rfl) trivial (fun g63 w64 hS65 => ?_)
 refine ⟨trivial, ?_⟩
 have hS67 := hS62.go w64 [rowO 3 encInt (some ⟨g63, 0, none⟩) 1 [1], rowO 3 encInt (some ⟨g58, 0, none⟩) 1 [2], rowO 36 enc_Frac (some ⟨g53, 0, none⟩) 1 [t48], rowO 36 enc_Frac (some ⟨g43, 0, none⟩) 1 [t38], rowO 36 enc_Frac (some ⟨g33, 0, none⟩) 3 [t18, t23, t28]] (hS65.map1 0 _ (fun h => rowO.ofBlk h rfl (Nat.le_of_ble_eq_true (by kernel_rfl))) (fun _ h => by obtain ⟨_, h1, h2⟩ := h; injection h1 with h1; subst h1; exact h2) [1, 2, 3, 4] (by decide) (by decide))
 refine seg 16 [] [20] [(20, (.agg #[(sv (some ⟨g33, 0, none⟩) [t18, t23, t28] 3), (sv (some ⟨g43, 0, none⟩) [t38] 1), (sv (some ⟨g53, 0, none⟩) [t48] 1), (sv (some ⟨g58, 0, none⟩) [2] 1), (sv (some ⟨g63, 0, none⟩) [1] 1)]))] [] (fun fb => by kernel_rfl) rfl trivial ?_
 refine WL.new hS67 2 [] (fun g => (pt g)) (.cells #[(.slice none 0 0), (.slice none 0 0), (.slice none 0 0), (.slice none 0 0), (.slice none 0 0)] 26 (0, 0)) [] (fun fb g => by kernel_rfl) trivial (fun g68 w69 hS70 => ?_)
 refine ⟨trivial, ?_⟩
 refine WL.store hS70 0 rfl [(0, (sv (some ⟨g33, 0, none⟩) [t18, t23, t28] 3)), (1, (sv (some ⟨g43, 0, none⟩) [t38] 1)), (2, (sv (some ⟨g53, 0, none⟩) [t48] 1)), (3, (sv (some ⟨g58, 0, none⟩) [2] 1)), (4, (sv (some ⟨g63, 0, none⟩) [1] 1))] #[(sv (some ⟨g33, 0, none⟩) [t18, t23, t28] 3), (sv (some ⟨g43, 0, none⟩) [t38] 1), (sv (some ⟨g53, 0, none⟩) [t48] 1), (sv (some ⟨g58, 0, none⟩) [2] 1), (sv (some ⟨g63, 0, none⟩) [1] 1)] (fun fb => by kernel_rfl) (by kernel_rfl) rfl [1, 2, 3, 4, 5] (by decide) (by decide) (fun w72 hS73 => ?_)
 refine ⟨trivial, ?_⟩
 refine WL.done rfl (WX.next (WC.seq (WC.region ?_)))
 refine seg 1 [] [2, 22] [(2, (pt g68)), (22, (.agg #[(iv 2), (iv 0), (iv 1), (iv 0)]))] [] (fun fb => by kernel_rfl) rfl trivial ?_
 refine WL.new hS73 23 [] (fun g => (.slice (some ⟨g, 0, none⟩) 1 1)) (.cells #[(iv 2), (iv 0), (iv 1), (iv 0)] 39 (0, 0)) [] (fun fb g => by kernel_rfl) trivial (fun g74 w75 hS76 => ?_)
 refine ⟨trivial, ?_⟩
 have hS78 := hS67.go w75 [rowO 39 enc_Tile (some ⟨g74, 0, none⟩) 1 [(Tile.mk 2 0 1 0)], blk g68 (.cells #[(sv (some ⟨g33, 0, none⟩) [t18, t23, t28] 3), (sv (some ⟨g43, 0, none⟩) [t38] 1), (sv (some ⟨g53, 0, none⟩) [t48] 1), (sv (some ⟨g58, 0, none⟩) [2] 1), (sv (some ⟨g63, 0, none⟩) [1] 1)] 26 (0, 0)), rowO 3 encInt (some ⟨g63, 0, none⟩) 1 [1], rowO 3 encInt (some ⟨g58, 0, none⟩) 1 [2], rowO 36 enc_Frac (some ⟨g53, 0, none⟩) 1 [t48], rowO 36 enc_Frac (some ⟨g43, 0, none⟩) 1 [t38], rowO 36 enc_Frac (some ⟨g33, 0, none⟩) 3 [t18, t23, t28]] (hS76.map1 0 _ (fun h => rowO.ofBlk h rfl (Nat.le_of_ble_eq_true (by kernel_rfl))) (fun _ h => by obtain ⟨_, h1, h2⟩ := h; injection h1 with h1; subst h1; exact h2) [1, 2, 3, 4, 5, 6] (by decide) (by decide))
 refine seg 3 [.v (sv (some ⟨g33, 0, none⟩) [t18, t23, t28] 3), .v (sv (some ⟨g43, 0, none⟩) [t38] 1), .v (sv (some ⟨g53, 0, none⟩) [t48] 1), .v (sv (some ⟨g58, 0, none⟩) [2] 1), .v (sv (some ⟨g63, 0, none⟩) [1] 1)] [23, 24] [(23, (sv (some ⟨g74, 0, none⟩) [(Tile.mk 2 0 1 0)] 1)), (24, (.agg #[(sv (some ⟨g33, 0, none⟩) [t18, t23, t28] 3), (sv (some ⟨g43, 0, none⟩) [t38] 1), (sv (some ⟨g53, 0, none⟩) [t48] 1), (sv (some ⟨g58, 0, none⟩) [2] 1), (sv (some ⟨g63, 0, none⟩) [1] 1)]))] [.cell ⟨g68, 0, none⟩ (sv (some ⟨g33, 0, none⟩) [t18, t23, t28] 3), .cell ⟨g68, 1, none⟩ (sv (some ⟨g43, 0, none⟩) [t38] 1), .cell ⟨g68, 2, none⟩ (sv (some ⟨g53, 0, none⟩) [t48] 1), .cell ⟨g68, 3, none⟩ (sv (some ⟨g58, 0, none⟩) [2] 1), .cell ⟨g68, 4, none⟩ (sv (some ⟨g63, 0, none⟩) [1] 1)] (fun fb => by kernel_rfl) rfl ⟨hS78.cell 1 rfl 0 rfl, hS78.cell 1 rfl 1 rfl, hS78.cell 1 rfl 2 rfl, hS78.cell 1 rfl 3 rfl, hS78.cell 1 rfl 4 rfl, trivial⟩ ?_
 obtain ⟨t3, ht5, hf⟩ := bind_some hf
 refine WL.call (some 25) 5 #[(sv (some ⟨g74, 0, none⟩) [(Tile.mk 2 0 1 0)] 1), (.agg #[(sv (some ⟨g33, 0, none⟩) [t18, t23, t28] 3), (sv (some ⟨g43, 0, none⟩) [t38] 1), (sv (some ⟨g53, 0, none⟩) [t48] 1), (sv (some ⟨g58, 0, none⟩) [2] 1), (sv (some ⟨g63, 0, none⟩) [1] 1)])] (fun fb => by kernel_rfl) (weight_Check_calls _ [(Tile.mk 2 0 1 0)] (Weights.mk [t18, t23, t28] [t38] [t48] [2] [1]) (some ⟨g74, 0, none⟩) 1 (some ⟨g33, 0, none⟩) 3 (some ⟨g43, 0, none⟩) 1 (some ⟨g53, 0, none⟩) 1 (some ⟨g58, 0, none⟩) 1 (some ⟨g63, 0, none⟩) 1 t3 _ (hS78.ow 0).ofO (hS78.ow 6).ofO (hS78.ow 5).ofO (hS78.ow 4).ofO (hS78.ow 3).ofO (hS78.ow 2).ofO (hS78.rd 0) ht5) (fun v w6 hR7 => ?_)
 obtain ⟨rfl, hk_⟩ := hR7
 have hS8 := hS78.keepN hk_
 refine ⟨trivial, ?_⟩
 refine seg 9 [] [3, 4] [(3, (bv t3.1)), (4, (iv t3.2))] [] (fun fb => by kernel_rfl) rfl trivial ?_
 refine WL.done rfl (WX.next (WC.seq (WC.region ?_)))
 refine seg 3 [] [3, 30] [(3, (bv t3.1)), (30, (bv (t3.2 == 0)))] [] (fun fb => by kernel_rfl) rfl trivial ?_
 refine WL.cutV (T := Bool) 5 (fun t => [(32, (bv t))]) (fun t => ((t3.2 == 0) && t3.1) = t) (fun K => ?_) ?_
 ·
  rcases Bool.eq_false_or_eq_true (t3.2 == 0) with h9 | h9
  ·
   refine WL.setB 30 h9 rfl ?_
   refine seg 5 [] [32] [(32, (bv t3.1))] [] (fun fb => by kernel_rfl) rfl trivial ?_
   exact WL.toV K t3.1 [32] rfl (by first | (rw [h9]; done) | (rw [h9]; rfl))
  refine WL.setB 30 h9 rfl ?_
  refine seg 5 [] [32] [(32, (bv false))] [] (fun fb => by kernel_rfl) rfl trivial ?_
  exact WL.toV K false [32] rfl (by first | (rw [h9]; done) | (rw [h9]; rfl))
 rintro b10 rfl
 refine seg 6 [] [33] [(33, (bv ((t3.2 == 0) && t3.1)))] [] (fun fb => by kernel_rfl) rfl trivial ?_
 obtain ⟨x11, hx12, hf⟩ := bind_some hf
 refine WL.cutW (T := Bool) 8 (fun t => [(35, (bv t))]) (fun t w1 => (St NoS w w1 [tabO 0 #[(.int .u64 2305843009213693951), (.int .u64 2305843009213693921), (.int .u64 2305843009213693907)]] [] ∧ x11 = t) ∧ CellsOK [] w1) (fun K => ?_) ?_
 ·
  rcases br_some hx12 with ⟨h13, hx12⟩ | ⟨h13, hx12⟩
  ·
   refine WL.setB 33 h13 rfl ?_
   obtain ⟨t14, ht15, hx12⟩ := bind_some hx12
   refine WL.call (some 34) 8 #[] (fun fb => by kernel_rfl) (top_lives_calls _ t14 _ ht15) (fun v w16 hR17 => ?_)
   obtain ⟨rfl, hk_⟩ := hR17
   have hS36 := hS8.keepN hk_
   refine ⟨trivial, ?_⟩
   refine seg 8 [] [35] [(35, (bv t14))] [] (fun fb => by kernel_rfl) rfl trivial ?_
   injection hx12 with hx12
   exact WL.to K t14 [35] rfl ⟨⟨(hS36.subR [0]).sub [] (by decide), hx12.symm⟩, trivial⟩
  refine WL.setB 33 h13 rfl ?_
  refine seg 8 [] [35] [(35, (bv false))] [] (fun fb => by kernel_rfl) rfl trivial ?_
  injection hx12 with hx12
  exact WL.to K false [35] rfl ⟨⟨(hS8.subR [0]).sub [] (by decide), hx12.symm⟩, trivial⟩
 rintro y46 w61 ⟨⟨hS66, hq56⟩, hF71⟩
 subst hq56
 refine seg 9 [] [0] [(0, (bv x11))] [] (fun fb => by kernel_rfl) rfl trivial ?_
 refine WL.done rfl (WX.next ?_)
 refine WC.ret ?_
 injection hf with hf
 subst hf
 exact WX.ret_ [] (bv x11) [] (fun fb => by kernel_rfl) trivial ⟨_, rfl, rfl, hS66.keep⟩
theorem top_of_calls (k : Nat) (p0 : List Tile) (p1 : Pattern) (p2 : Bool) (Aa : Option Addr) (ca : Nat) (Ab : Option Addr) (cb : Nat) (r : Bool) (w : World) (hR0 : RO NoS w (rowR enc_Tile Aa ca p0)) (hR1 : RO NoS w (rowR encInt Ab cb p1.Cells)) (hf : top_of k p0 p1 p2 = some r) :
  CallsR Tryd.prog 6 #[(sv Aa p0 ca), (.agg #[(iv p1.Width), (iv p1.Height), (sv Ab p1.Cells cb)]), (bv p2)] w (fun v w' => v = (bv r) ∧ Keeps NoS w w') := by
 have hS : St NoS w w [rowR enc_Tile Aa ca p0, rowR encInt Ab cb p1.Cells] [] := St.init (ro_cons hR0 (ro_cons hR1 (ro_nil _ _)))
 refine enter 225 Tryd.func6 rfl Tryd.ntmps6 rfl ?_
 unfold top_of at hf
 refine WC.seq (WC.region ?_)
 refine WL.new hS 4 [] (fun g => (pt g)) (.cells #[(iv p1.Width), (iv p1.Height), (sv Ab p1.Cells cb)] 28 (0, 0)) [] (fun fb g => by kernel_rfl) trivial (fun g5 w7 hS8 => ?_)
 refine ⟨trivial, ?_⟩
 refine seg 2 [] [0, 2, 4] [(0, (sv Aa p0 ca)), (2, (bv p2)), (4, (pt g5))] [] (fun fb => by kernel_rfl) rfl trivial ?_
 refine WL.done rfl (WX.next (WC.seq (WC.seq (WC.region ?_))))
 refine seg 4 [] [0, 2, 4, 17] [(0, (sv Aa p0 ca)), (2, (bv p2)), (4, (pt g5)), (17, (bv (decide ((p0.length : Int) > 1000))))] [] (fun fb => by kernel_rfl) rfl trivial ?_
 refine WL.cutV (T := Bool) 8 (fun t => [(21, (bv t)), (0, (sv Aa p0 ca)), (2, (bv p2)), (4, (pt g5))]) (fun t => ((decide ((p0.length : Int) > 1000)) || (decide (p1.Width < 1))) = t) (fun K => ?_) ?_
 ·
  rcases Bool.eq_false_or_eq_true (decide ((p0.length : Int) > 1000)) with h9 | h9
  ·
   refine WL.setB 17 h9 rfl ?_
   refine seg 8 [] [0, 2, 4, 21] [(0, (sv Aa p0 ca)), (2, (bv p2)), (4, (pt g5)), (21, (bv true))] [] (fun fb => by kernel_rfl) rfl trivial ?_
   exact WL.toV K true [21, 0, 2, 4] rfl (by first | (rw [h9]; done) | (rw [h9]; rfl))
  refine WL.setB 17 h9 rfl ?_
  refine seg 8 [.v (iv p1.Width)] [0, 2, 4, 21] [(0, (sv Aa p0 ca)), (2, (bv p2)), (4, (pt g5)), (21, (bv (decide (p1.Width < 1))))] [.cell ⟨g5, 0, none⟩ (iv p1.Width)] (fun fb => by kernel_rfl) rfl ⟨hS8.cell 0 rfl 0 rfl, trivial⟩ ?_
  exact WL.toV K (decide (p1.Width < 1)) [21, 0, 2, 4] rfl (by first | (rw [h9]; done) | (rw [h9]; rfl))
 rintro b10 rfl
 refine seg 9 [] [0, 2, 4, 22] [(0, (sv Aa p0 ca)), (2, (bv p2)), (4, (pt g5)), (22, (bv ((decide ((p0.length : Int) > 1000)) || (decide (p1.Width < 1)))))] [] (fun fb => by kernel_rfl) rfl trivial ?_
 refine WL.cutV (T := Bool) 13 (fun t => [(26, (bv t)), (0, (sv Aa p0 ca)), (2, (bv p2)), (4, (pt g5))]) (fun t => (((decide ((p0.length : Int) > 1000)) || (decide (p1.Width < 1))) || (decide (p1.Height < 1))) = t) (fun K => ?_) ?_
 ·
  rcases Bool.eq_false_or_eq_true ((decide ((p0.length : Int) > 1000)) || (decide (p1.Width < 1))) with h11 | h11
  ·
   refine WL.setB 22 h11 rfl ?_
   refine seg 13 [] [0, 2, 4, 26] [(0, (sv Aa p0 ca)), (2, (bv p2)), (4, (pt g5)), (26, (bv true))] [] (fun fb => by kernel_rfl) rfl trivial ?_
   exact WL.toV K true [26, 0, 2, 4] rfl (by first | (rw [h11]; done) | (rw [h11]; rfl))
  refine WL.setB 22 h11 rfl ?_
  refine seg 13 [.v (iv p1.Height)] [0, 2, 4, 26] [(0, (sv Aa p0 ca)), (2, (bv p2)), (4, (pt g5)), (26, (bv (decide (p1.Height < 1))))] [.cell ⟨g5, 1, none⟩ (iv p1.Height)] (fun fb => by kernel_rfl) rfl ⟨hS8.cell 0 rfl 1 rfl, trivial⟩ ?_
  exact WL.toV K (decide (p1.Height < 1)) [26, 0, 2, 4] rfl (by first | (rw [h11]; done) | (rw [h11]; rfl))
 rintro b12 rfl
 refine seg 14 [] [0, 2, 4, 27] [(0, (sv Aa p0 ca)), (2, (bv p2)), (4, (pt g5)), (27, (bv (((decide ((p0.length : Int) > 1000)) || (decide (p1.Width < 1))) || (decide (p1.Height < 1)))))] [] (fun fb => by kernel_rfl) rfl trivial ?_
 refine WL.cutV (T := Bool) 18 (fun t => [(31, (bv t)), (0, (sv Aa p0 ca)), (2, (bv p2)), (4, (pt g5))]) (fun t => ((((decide ((p0.length : Int) > 1000)) || (decide (p1.Width < 1))) || (decide (p1.Height < 1))) || (decide (p1.Width > 40000))) = t) (fun K => ?_) ?_
 ·
  rcases Bool.eq_false_or_eq_true (((decide ((p0.length : Int) > 1000)) || (decide (p1.Width < 1))) || (decide (p1.Height < 1))) with h13 | h13
  ·
   refine WL.setB 27 h13 rfl ?_
   refine seg 18 [] [0, 2, 4, 31] [(0, (sv Aa p0 ca)), (2, (bv p2)), (4, (pt g5)), (31, (bv true))] [] (fun fb => by kernel_rfl) rfl trivial ?_
   exact WL.toV K true [31, 0, 2, 4] rfl (by first | (rw [h13]; done) | (rw [h13]; rfl))
  refine WL.setB 27 h13 rfl ?_
  refine seg 18 [.v (iv p1.Width)] [0, 2, 4, 31] [(0, (sv Aa p0 ca)), (2, (bv p2)), (4, (pt g5)), (31, (bv (decide (p1.Width > 40000))))] [.cell ⟨g5, 0, none⟩ (iv p1.Width)] (fun fb => by kernel_rfl) rfl ⟨hS8.cell 0 rfl 0 rfl, trivial⟩ ?_
  exact WL.toV K (decide (p1.Width > 40000)) [31, 0, 2, 4] rfl (by first | (rw [h13]; done) | (rw [h13]; rfl))
 rintro b14 rfl
 refine seg 19 [] [0, 2, 4, 32] [(0, (sv Aa p0 ca)), (2, (bv p2)), (4, (pt g5)), (32, (bv ((((decide ((p0.length : Int) > 1000)) || (decide (p1.Width < 1))) || (decide (p1.Height < 1))) || (decide (p1.Width > 40000)))))] [] (fun fb => by kernel_rfl) rfl trivial ?_
 refine WL.cutV (T := Bool) 23 (fun t => [(36, (bv t)), (0, (sv Aa p0 ca)), (2, (bv p2)), (4, (pt g5))]) (fun t => (((((decide ((p0.length : Int) > 1000)) || (decide (p1.Width < 1))) || (decide (p1.Height < 1))) || (decide (p1.Width > 40000))) || (decide (p1.Height > 40000))) = t) (fun K => ?_) ?_
 ·
  rcases Bool.eq_false_or_eq_true ((((decide ((p0.length : Int) > 1000)) || (decide (p1.Width < 1))) || (decide (p1.Height < 1))) || (decide (p1.Width > 40000))) with h15 | h15
  ·
   refine WL.setB 32 h15 rfl ?_
   refine seg 23 [] [0, 2, 4, 36] [(0, (sv Aa p0 ca)), (2, (bv p2)), (4, (pt g5)), (36, (bv true))] [] (fun fb => by kernel_rfl) rfl trivial ?_
   exact WL.toV K true [36, 0, 2, 4] rfl (by first | (rw [h15]; done) | (rw [h15]; rfl))
  refine WL.setB 32 h15 rfl ?_
  refine seg 23 [.v (iv p1.Height)] [0, 2, 4, 36] [(0, (sv Aa p0 ca)), (2, (bv p2)), (4, (pt g5)), (36, (bv (decide (p1.Height > 40000))))] [.cell ⟨g5, 1, none⟩ (iv p1.Height)] (fun fb => by kernel_rfl) rfl ⟨hS8.cell 0 rfl 1 rfl, trivial⟩ ?_
  exact WL.toV K (decide (p1.Height > 40000)) [36, 0, 2, 4] rfl (by first | (rw [h15]; done) | (rw [h15]; rfl))
 rintro b16 rfl
 refine seg 24 [] [0, 2, 4, 37] [(0, (sv Aa p0 ca)), (2, (bv p2)), (4, (pt g5)), (37, (bv (((((decide ((p0.length : Int) > 1000)) || (decide (p1.Width < 1))) || (decide (p1.Height < 1))) || (decide (p1.Width > 40000))) || (decide (p1.Height > 40000)))))] [] (fun fb => by kernel_rfl) rfl trivial ?_
 refine WL.cutV (T := Bool) 31 (fun t => [(44, (bv t)), (0, (sv Aa p0 ca)), (2, (bv p2)), (4, (pt g5))]) (fun t => ((((((decide ((p0.length : Int) > 1000)) || (decide (p1.Width < 1))) || (decide (p1.Height < 1))) || (decide (p1.Width > 40000))) || (decide (p1.Height > 40000))) || (decide (w64 (p1.Width * p1.Height) > 40000))) = t) (fun K => ?_) ?_
 ·
  rcases Bool.eq_false_or_eq_true (((((decide ((p0.length : Int) > 1000)) || (decide (p1.Width < 1))) || (decide (p1.Height < 1))) || (decide (p1.Width > 40000))) || (decide (p1.Height > 40000))) with h17 | h17
  ·
   refine WL.setB 37 h17 rfl ?_
   refine seg 31 [] [0, 2, 4, 44] [(0, (sv Aa p0 ca)), (2, (bv p2)), (4, (pt g5)), (44, (bv true))] [] (fun fb => by kernel_rfl) rfl trivial ?_
   exact WL.toV K true [44, 0, 2, 4] rfl (by first | (rw [h17]; done) | (rw [h17]; rfl))
  refine WL.setB 37 h17 rfl ?_
  refine seg 31 [.v (iv p1.Width), .v (iv p1.Height)] [0, 2, 4, 44] [(0, (sv Aa p0 ca)), (2, (bv p2)), (4, (pt g5)), (44, (bv (decide (w64 (p1.Width * p1.Height) > 40000))))] [.cell ⟨g5, 0, none⟩ (iv p1.Width), .cell ⟨g5, 1, none⟩ (iv p1.Height)] (fun fb => by kernel_rfl) rfl ⟨hS8.cell 0 rfl 0 rfl, hS8.cell 0 rfl 1 rfl, trivial⟩ ?_
  exact WL.toV K (decide (w64 (p1.Width * p1.Height) > 40000)) [44, 0, 2, 4] rfl (by first | (rw [h17]; done) | (rw [h17]; rfl))
 rintro b18 rfl
 refine seg 32 [] [0, 2, 4, 45] [(0, (sv Aa p0 ca)), (2, (bv p2)), (4, (pt g5)), (45, (bv ((((((decide ((p0.length : Int) > 1000)) || (decide (p1.Width < 1))) || (decide (p1.Height < 1))) || (decide (p1.Width > 40000))) || (decide (p1.Height > 40000))) || (decide (w64 (p1.Width * p1.Height) > 40000)))))] [] (fun fb => by kernel_rfl) rfl trivial ?_
 refine WL.cutV (T := Bool) 42 (fun t => [(55, (bv t)), (0, (sv Aa p0 ca)), (2, (bv p2)), (4, (pt g5))]) (fun t => (((((((decide ((p0.length : Int) > 1000)) || (decide (p1.Width < 1))) || (decide (p1.Height < 1))) || (decide (p1.Width > 40000))) || (decide (p1.Height > 40000))) || (decide (w64 (p1.Width * p1.Height) > 40000))) || ((p1.Cells.length : Int) != (w64 (p1.Width * p1.Height)))) = t) (fun K => ?_) ?_
 ·
  rcases Bool.eq_false_or_eq_true ((((((decide ((p0.length : Int) > 1000)) || (decide (p1.Width < 1))) || (decide (p1.Height < 1))) || (decide (p1.Width > 40000))) || (decide (p1.Height > 40000))) || (decide (w64 (p1.Width * p1.Height) > 40000))) with h19 | h19
  ·
   refine WL.setB 45 h19 rfl ?_
   refine seg 42 [] [0, 2, 4, 55] [(0, (sv Aa p0 ca)), (2, (bv p2)), (4, (pt g5)), (55, (bv true))] [] (fun fb => by kernel_rfl) rfl trivial ?_
   exact WL.toV K true [55, 0, 2, 4] rfl (by first | (rw [h19]; done) | (rw [h19]; rfl))
  refine WL.setB 45 h19 rfl ?_
  refine seg 42 [.v (sv Ab p1.Cells cb), .v (iv p1.Width), .v (iv p1.Height)] [0, 2, 4, 55] [(0, (sv Aa p0 ca)), (2, (bv p2)), (4, (pt g5)), (55, (bv ((p1.Cells.length : Int) != (w64 (p1.Width * p1.Height)))))] [.cell ⟨g5, 2, none⟩ (sv Ab p1.Cells cb), .cell ⟨g5, 0, none⟩ (iv p1.Width), .cell ⟨g5, 1, none⟩ (iv p1.Height)] (fun fb => by kernel_rfl) rfl ⟨hS8.cell 0 rfl 2 rfl, hS8.cell 0 rfl 0 rfl, hS8.cell 0 rfl 1 rfl, trivial⟩ ?_
  exact WL.toV K ((p1.Cells.length : Int) != (w64 (p1.Width * p1.Height))) [55, 0, 2, 4] rfl (by first | (rw [h19]; done) | (rw [h19]; rfl))
 rintro b20 rfl
 refine WL.done rfl (WX.next ?_)
 rcases br_some hf with ⟨h21, hf⟩ | ⟨h21, hf⟩
 ·refine WC.condT2 (fun fb => by kernel_rfl) h21 ?_
  refine WC.seq (WC.region ?_)
  refine seg 1 [] [6] [(6, (bv false))] [] (fun fb => by kernel_rfl) rfl trivial ?_
  refine WL.done rfl (WX.next ?_)
  refine WC.ret ?_
  injection hf with hf
  subst hf
  exact WX.thenR (WX.ret_ [] (bv false) [] (fun fb => by kernel_rfl) trivial ⟨_, rfl, rfl, hS8.keep⟩)
 refine WC.condF2 (fun fb => by kernel_rfl) h21 ?_
 refine WC.skip (WX.next (WC.seq (WC.seq (WC.region ?_))))
 refine seg 1 [] [0, 2, 4, 7] [(0, (sv Aa p0 ca)), (2, (bv p2)), (4, (pt g5)), (7, (iv 0))] [] (fun fb => by kernel_rfl) rfl trivial ?_
 refine WL.done rfl (WX.next ?_)
 obtain ⟨x23, hx24, hf⟩ := bind_some hf
 refine WC.cutN (T := Unit) (fun t => [(0, (sv Aa p0 ca)), (2, (bv p2)), (4, (pt g5))]) (fun t w1 => St NoS w w1 [rowR enc_Tile Aa ca p0, rowR encInt Ab cb p1.Cells] [blk g5 (.cells #[(iv p1.Width), (iv p1.Height), (sv Ab p1.Cells cb)] 28 (0, 0))] ∧ x23 = .inr t) (fun Kx23 => ?_) ?_
 ·
  refine WC.block ?_
  refine WC.loop (T := Int) (fun t => [(0, (sv Aa p0 ca)), (2, (bv p2)), (4, (pt g5)), (7, (iv t))]) (fun n t w1 => St NoS w w1 [rowR enc_Tile Aa ca p0, rowR encInt Ab cb p1.Cells] [blk g5 (.cells #[(iv p1.Width), (iv p1.Height), (sv Ab p1.Cells cb)] 28 (0, 0))] ∧ top_of.l0 n t p0 = some x23) k 0 [0, 2, 4, 7] rfl ⟨(hS8.subR [0, 1]).sub [0] (by decide), hx24⟩ ?_
  rintro k25 x22 w26 ⟨hS27, hl28⟩
  cases k25 with
  | zero => rw [top_of.l0] at hl28; cases hl28
  | succ k25 =>
   rw [top_of.l0] at hl28
   refine WC.seq (WC.seq (WC.region ?_))
   refine seg 4 [] [0, 2, 4, 7, 59] [(0, (sv Aa p0 ca)), (2, (bv p2)), (4, (pt g5)), (7, (iv x22)), (59, (bv (decide (x22 < (p0.length : Int)))))] [] (fun fb => by kernel_rfl) rfl trivial ?_
   refine WL.done rfl (WX.next ?_)
   rcases br_some hl28 with ⟨h29, hl28⟩ | ⟨h29, hl28⟩
   ·refine WC.condT2 (fun fb => by kernel_rfl) h29 ?_
    refine WC.skip (WX.next (WC.seq (WC.block (WC.seq (WC.region ?_)))))
    refine seg 2 [] [0, 2, 4, 7, 62, 63] [(0, (sv Aa p0 ca)), (2, (bv p2)), (4, (pt g5)), (7, (iv x22)), (62, (sv Aa p0 ca)), (63, (iv x22))] [] (fun fb => by kernel_rfl) rfl trivial ?_
    obtain ⟨h30, hl28⟩ := as_some hl28
    refine seg 4 [.v (iv ((rdD p0 x22 z_Tile).N)), .v (iv ((rdD p0 x22 z_Tile).E)), .v (iv ((rdD p0 x22 z_Tile).S)), .v (iv ((rdD p0 x22 z_Tile).W))] [0, 2, 4, 7, 65] [(0, (sv Aa p0 ca)), (2, (bv p2)), (4, (pt g5)), (7, (iv x22)), (65, (.agg #[(iv ((rdD p0 x22 z_Tile).N)), (iv ((rdD p0 x22 z_Tile).E)), (iv ((rdD p0 x22 z_Tile).S)), (iv ((rdD p0 x22 z_Tile).W))]))] [.idx Aa x22 p0.length, .cell ((adr Aa).add ((x22).toNat * 4)) (iv ((rdD p0 x22 z_Tile).N)), .cell (((adr Aa).add ((x22).toNat * 4)).add 1) (iv ((rdD p0 x22 z_Tile).E)), .cell (((adr Aa).add ((x22).toNat * 4)).add 2) (iv ((rdD p0 x22 z_Tile).S)), .cell (((adr Aa).add ((x22).toNat * 4)).add 3) (iv ((rdD p0 x22 z_Tile).W))] (fun fb => by kernel_rfl) rfl ⟨rowR.adr (hS27.rd 0).1 h30.1 h30.2, rowR.cell (hS27.rd 0).1 z_Tile h30.1 h30.2 0 rfl, rowR.cell (hS27.rd 0).1 z_Tile h30.1 h30.2 1 rfl, rowR.cell (hS27.rd 0).1 z_Tile h30.1 h30.2 2 rfl, rowR.cell (hS27.rd 0).1 z_Tile h30.1 h30.2 3 rfl, trivial⟩ ?_
    refine WL.new hS27 8 [] (fun g => (pt g)) (.cells #[(iv 0), (iv 0), (iv 0), (iv 0)] 39 (0, 0)) [] (fun fb g => by kernel_rfl) trivial (fun g31 w32 hS33 => ?_)
    refine ⟨trivial, ?_⟩
    refine WL.store hS33 0 rfl [(0, (iv ((rdD p0 x22 z_Tile).N))), (1, (iv ((rdD p0 x22 z_Tile).E))), (2, (iv ((rdD p0 x22 z_Tile).S))), (3, (iv ((rdD p0 x22 z_Tile).W)))] #[(iv ((rdD p0 x22 z_Tile).N)), (iv ((rdD p0 x22 z_Tile).E)), (iv ((rdD p0 x22 z_Tile).S)), (iv ((rdD p0 x22 z_Tile).W))] (fun fb => by kernel_rfl) (by kernel_rfl) rfl [1] (by decide) (by decide) (fun w34 hS35 => ?_)
    refine ⟨trivial, ?_⟩
    refine WL.done rfl (WX.next (WC.seq (WC.seq (WC.region ?_))))
    refine seg 4 [.v (iv ((rdD p0 x22 z_Tile).N))] [0, 2, 4, 7, 8, 69] [(0, (sv Aa p0 ca)), (2, (bv p2)), (4, (pt g5)), (7, (iv x22)), (8, (pt g31)), (69, (bv (decide ((rdD p0 x22 z_Tile).N < 0))))] [.cell ⟨g31, 0, none⟩ (iv ((rdD p0 x22 z_Tile).N))] (fun fb => by kernel_rfl) rfl ⟨hS35.cell 0 rfl 0 rfl, trivial⟩ ?_
    refine WL.cutV (T := Bool) 8 (fun t => [(73, (bv t)), (0, (sv Aa p0 ca)), (2, (bv p2)), (4, (pt g5)), (7, (iv x22)), (8, (pt g31))]) (fun t => ((decide ((rdD p0 x22 z_Tile).N < 0)) || (decide ((rdD p0 x22 z_Tile).E < 0))) = t) (fun K => ?_) ?_
    ·
     rcases Bool.eq_false_or_eq_true (decide ((rdD p0 x22 z_Tile).N < 0)) with h36 | h36
     ·
      refine WL.setB 69 h36 rfl ?_
      refine seg 8 [] [0, 2, 4, 7, 8, 73] [(0, (sv Aa p0 ca)), (2, (bv p2)), (4, (pt g5)), (7, (iv x22)), (8, (pt g31)), (73, (bv true))] [] (fun fb => by kernel_rfl) rfl trivial ?_
      exact WL.toV K true [73, 0, 2, 4, 7, 8] rfl (by first | (rw [h36]; done) | (rw [h36]; rfl))
     refine WL.setB 69 h36 rfl ?_
     refine seg 8 [.v (iv ((rdD p0 x22 z_Tile).E))] [0, 2, 4, 7, 8, 73] [(0, (sv Aa p0 ca)), (2, (bv p2)), (4, (pt g5)), (7, (iv x22)), (8, (pt g31)), (73, (bv (decide ((rdD p0 x22 z_Tile).E < 0))))] [.cell ⟨g31, 1, none⟩ (iv ((rdD p0 x22 z_Tile).E))] (fun fb => by kernel_rfl) rfl ⟨hS35.cell 0 rfl 1 rfl, trivial⟩ ?_
     exact WL.toV K (decide ((rdD p0 x22 z_Tile).E < 0)) [73, 0, 2, 4, 7, 8] rfl (by first | (rw [h36]; done) | (rw [h36]; rfl))
    rintro b37 rfl
    refine seg 9 [] [0, 2, 4, 7, 8, 74] [(0, (sv Aa p0 ca)), (2, (bv p2)), (4, (pt g5)), (7, (iv x22)), (8, (pt g31)), (74, (bv ((decide ((rdD p0 x22 z_Tile).N < 0)) || (decide ((rdD p0 x22 z_Tile).E < 0)))))] [] (fun fb => by kernel_rfl) rfl trivial ?_
    refine WL.cutV (T := Bool) 13 (fun t => [(78, (bv t)), (0, (sv Aa p0 ca)), (2, (bv p2)), (4, (pt g5)), (7, (iv x22)), (8, (pt g31))]) (fun t => (((decide ((rdD p0 x22 z_Tile).N < 0)) || (decide ((rdD p0 x22 z_Tile).E < 0))) || (decide ((rdD p0 x22 z_Tile).S < 0))) = t) (fun K => ?_) ?_
    ·
     rcases Bool.eq_false_or_eq_true ((decide ((rdD p0 x22 z_Tile).N < 0)) || (decide ((rdD p0 x22 z_Tile).E < 0))) with h38 | h38
     ·
      refine WL.setB 74 h38 rfl ?_
      refine seg 13 [] [0, 2, 4, 7, 8, 78] [(0, (sv Aa p0 ca)), (2, (bv p2)), (4, (pt g5)), (7, (iv x22)), (8, (pt g31)), (78, (bv true))] [] (fun fb => by kernel_rfl) rfl trivial ?_
      exact WL.toV K true [78, 0, 2, 4, 7, 8] rfl (by first | (rw [h38]; done) | (rw [h38]; rfl))
     refine WL.setB 74 h38 rfl ?_
     refine seg 13 [.v (iv ((rdD p0 x22 z_Tile).S))] [0, 2, 4, 7, 8, 78] [(0, (sv Aa p0 ca)), (2, (bv p2)), (4, (pt g5)), (7, (iv x22)), (8, (pt g31)), (78, (bv (decide ((rdD p0 x22 z_Tile).S < 0))))] [.cell ⟨g31, 2, none⟩ (iv ((rdD p0 x22 z_Tile).S))] (fun fb => by kernel_rfl) rfl ⟨hS35.cell 0 rfl 2 rfl, trivial⟩ ?_
     exact WL.toV K (decide ((rdD p0 x22 z_Tile).S < 0)) [78, 0, 2, 4, 7, 8] rfl (by first | (rw [h38]; done) | (rw [h38]; rfl))
    rintro b39 rfl
    refine seg 14 [] [0, 2, 4, 7, 8, 79] [(0, (sv Aa p0 ca)), (2, (bv p2)), (4, (pt g5)), (7, (iv x22)), (8, (pt g31)), (79, (bv (((decide ((rdD p0 x22 z_Tile).N < 0)) || (decide ((rdD p0 x22 z_Tile).E < 0))) || (decide ((rdD p0 x22 z_Tile).S < 0)))))] [] (fun fb => by kernel_rfl) rfl trivial ?_
    refine WL.cutV (T := Bool) 18 (fun t => [(83, (bv t)), (0, (sv Aa p0 ca)), (2, (bv p2)), (4, (pt g5)), (7, (iv x22)), (8, (pt g31))]) (fun t => ((((decide ((rdD p0 x22 z_Tile).N < 0)) || (decide ((rdD p0 x22 z_Tile).E < 0))) || (decide ((rdD p0 x22 z_Tile).S < 0))) || (decide ((rdD p0 x22 z_Tile).W < 0))) = t) (fun K => ?_) ?_
    ·
     rcases Bool.eq_false_or_eq_true (((decide ((rdD p0 x22 z_Tile).N < 0)) || (decide ((rdD p0 x22 z_Tile).E < 0))) || (decide ((rdD p0 x22 z_Tile).S < 0))) with h40 | h40
     ·
      refine WL.setB 79 h40 rfl ?_
      refine seg 18 [] [0, 2, 4, 7, 8, 83] [(0, (sv Aa p0 ca)), (2, (bv p2)), (4, (pt g5)), (7, (iv x22)), (8, (pt g31)), (83, (bv true))] [] (fun fb => by kernel_rfl) rfl trivial ?_
      exact WL.toV K true [83, 0, 2, 4, 7, 8] rfl (by first | (rw [h40]; done) | (rw [h40]; rfl))
     refine WL.setB 79 h40 rfl ?_
     refine seg 18 [.v (iv ((rdD p0 x22 z_Tile).W))] [0, 2, 4, 7, 8, 83] [(0, (sv Aa p0 ca)), (2, (bv p2)), (4, (pt g5)), (7, (iv x22)), (8, (pt g31)), (83, (bv (decide ((rdD p0 x22 z_Tile).W < 0))))] [.cell ⟨g31, 3, none⟩ (iv ((rdD p0 x22 z_Tile).W))] (fun fb => by kernel_rfl) rfl ⟨hS35.cell 0 rfl 3 rfl, trivial⟩ ?_
     exact WL.toV K (decide ((rdD p0 x22 z_Tile).W < 0)) [83, 0, 2, 4, 7, 8] rfl (by first | (rw [h40]; done) | (rw [h40]; rfl))
    rintro b41 rfl
    refine seg 19 [] [0, 2, 4, 7, 8, 84] [(0, (sv Aa p0 ca)), (2, (bv p2)), (4, (pt g5)), (7, (iv x22)), (8, (pt g31)), (84, (bv ((((decide ((rdD p0 x22 z_Tile).N < 0)) || (decide ((rdD p0 x22 z_Tile).E < 0))) || (decide ((rdD p0 x22 z_Tile).S < 0))) || (decide ((rdD p0 x22 z_Tile).W < 0)))))] [] (fun fb => by kernel_rfl) rfl trivial ?_
    refine WL.cutV (T := Bool) 23 (fun t => [(88, (bv t)), (0, (sv Aa p0 ca)), (2, (bv p2)), (4, (pt g5)), (7, (iv x22)), (8, (pt g31))]) (fun t => (((((decide ((rdD p0 x22 z_Tile).N < 0)) || (decide ((rdD p0 x22 z_Tile).E < 0))) || (decide ((rdD p0 x22 z_Tile).S < 0))) || (decide ((rdD p0 x22 z_Tile).W < 0))) || (decide ((rdD p0 x22 z_Tile).N ≥ 1000))) = t) (fun K => ?_) ?_
    ·
     rcases Bool.eq_false_or_eq_true ((((decide ((rdD p0 x22 z_Tile).N < 0)) || (decide ((rdD p0 x22 z_Tile).E < 0))) || (decide ((rdD p0 x22 z_Tile).S < 0))) || (decide ((rdD p0 x22 z_Tile).W < 0))) with h42 | h42
     ·
      refine WL.setB 84 h42 rfl ?_
      refine seg 23 [] [0, 2, 4, 7, 8, 88] [(0, (sv Aa p0 ca)), (2, (bv p2)), (4, (pt g5)), (7, (iv x22)), (8, (pt g31)), (88, (bv true))] [] (fun fb => by kernel_rfl) rfl trivial ?_
      exact WL.toV K true [88, 0, 2, 4, 7, 8] rfl (by first | (rw [h42]; done) | (rw [h42]; rfl))
     refine WL.setB 84 h42 rfl ?_
     refine seg 23 [.v (iv ((rdD p0 x22 z_Tile).N))] [0, 2, 4, 7, 8, 88] [(0, (sv Aa p0 ca)), (2, (bv p2)), (4, (pt g5)), (7, (iv x22)), (8, (pt g31)), (88, (bv (decide ((rdD p0 x22 z_Tile).N ≥ 1000))))] [.cell ⟨g31, 0, none⟩ (iv ((rdD p0 x22 z_Tile).N))] (fun fb => by kernel_rfl) rfl ⟨hS35.cell 0 rfl 0 rfl, trivial⟩ ?_
     exact WL.toV K (decide ((rdD p0 x22 z_Tile).N ≥ 1000)) [88, 0, 2, 4, 7, 8] rfl (by first | (rw [h42]; done) | (rw [h42]; rfl))
    rintro b43 rfl
    refine seg 24 [] [0, 2, 4, 7, 8, 89] [(0, (sv Aa p0 ca)), (2, (bv p2)), (4, (pt g5)), (7, (iv x22)), (8, (pt g31)), (89, (bv (((((decide ((rdD p0 x22 z_Tile).N < 0)) || (decide ((rdD p0 x22 z_Tile).E < 0))) || (decide ((rdD p0 x22 z_Tile).S < 0))) || (decide ((rdD p0 x22 z_Tile).W < 0))) || (decide ((rdD p0 x22 z_Tile).N ≥ 1000)))))] [] (fun fb => by kernel_rfl) rfl trivial ?_
    refine WL.cutV (T := Bool) 28 (fun t => [(93, (bv t)), (0, (sv Aa p0 ca)), (2, (bv p2)), (4, (pt g5)), (7, (iv x22)), (8, (pt g31))]) (fun t => ((((((decide ((rdD p0 x22 z_Tile).N < 0)) || (decide ((rdD p0 x22 z_Tile).E < 0))) || (decide ((rdD p0 x22 z_Tile).S < 0))) || (decide ((rdD p0 x22 z_Tile).W < 0))) || (decide ((rdD p0 x22 z_Tile).N ≥ 1000))) || (decide ((rdD p0 x22 z_Tile).E ≥ 1000))) = t) (fun K => ?_) ?_
    ·
     rcases Bool.eq_false_or_eq_true (((((decide ((rdD p0 x22 z_Tile).N < 0)) || (decide ((rdD p0 x22 z_Tile).E < 0))) || (decide ((rdD p0 x22 z_Tile).S < 0))) || (decide ((rdD p0 x22 z_Tile).W < 0))) || (decide ((rdD p0 x22 z_Tile).N ≥ 1000))) with h44 | h44
     ·
      refine WL.setB 89 h44 rfl ?_
      refine seg 28 [] [0, 2, 4, 7, 8, 93] [(0, (sv Aa p0 ca)), (2, (bv p2)), (4, (pt g5)), (7, (iv x22)), (8, (pt g31)), (93, (bv true))] [] (fun fb => by kernel_rfl) rfl trivial ?_
      exact WL.toV K true [93, 0, 2, 4, 7, 8] rfl (by first | (rw [h44]; done) | (rw [h44]; rfl))
     refine WL.setB 89 h44 rfl ?_
     refine seg 28 [.v (iv ((rdD p0 x22 z_Tile).E))] [0, 2, 4, 7, 8, 93] [(0, (sv Aa p0 ca)), (2, (bv p2)), (4, (pt g5)), (7, (iv x22)), (8, (pt g31)), (93, (bv (decide ((rdD p0 x22 z_Tile).E ≥ 1000))))] [.cell ⟨g31, 1, none⟩ (iv ((rdD p0 x22 z_Tile).E))] (fun fb => by kernel_rfl) rfl ⟨hS35.cell 0 rfl 1 rfl, trivial⟩ ?_
     exact WL.toV K (decide ((rdD p0 x22 z_Tile).E ≥ 1000)) [93, 0, 2, 4, 7, 8] rfl (by first | (rw [h44]; done) | (rw [h44]; rfl))
    rintro b45 rfl
    refine seg 29 [] [0, 2, 4, 7, 8, 94] [(0, (sv Aa p0 ca)), (2, (bv p2)), (4, (pt g5)), (7, (iv x22)), (8, (pt g31)), (94, (bv ((((((decide ((rdD p0 x22 z_Tile).N < 0)) || (decide ((rdD p0 x22 z_Tile).E < 0))) || (decide ((rdD p0 x22 z_Tile).S < 0))) || (decide ((rdD p0 x22 z_Tile).W < 0))) || (decide ((rdD p0 x22 z_Tile).N ≥ 1000))) || (decide ((rdD p0 x22 z_Tile).E ≥ 1000)))))] [] (fun fb => by kernel_rfl) rfl trivial ?_
    refine WL.cutV (T := Bool) 33 (fun t => [(98, (bv t)), (0, (sv Aa p0 ca)), (2, (bv p2)), (4, (pt g5)), (7, (iv x22)), (8, (pt g31))]) (fun t => (((((((decide ((rdD p0 x22 z_Tile).N < 0)) || (decide ((rdD p0 x22 z_Tile).E < 0))) || (decide ((rdD p0 x22 z_Tile).S < 0))) || (decide ((rdD p0 x22 z_Tile).W < 0))) || (decide ((rdD p0 x22 z_Tile).N ≥ 1000))) || (decide ((rdD p0 x22 z_Tile).E ≥ 1000))) || (decide ((rdD p0 x22 z_Tile).S ≥ 1000))) = t) (fun K => ?_) ?_
    ·
     rcases Bool.eq_false_or_eq_true ((((((decide ((rdD p0 x22 z_Tile).N < 0)) || (decide ((rdD p0 x22 z_Tile).E < 0))) || (decide ((rdD p0 x22 z_Tile).S < 0))) || (decide ((rdD p0 x22 z_Tile).W < 0))) || (decide ((rdD p0 x22 z_Tile).N ≥ 1000))) || (decide ((rdD p0 x22 z_Tile).E ≥ 1000))) with h46 | h46
     ·
      refine WL.setB 94 h46 rfl ?_
      refine seg 33 [] [0, 2, 4, 7, 8, 98] [(0, (sv Aa p0 ca)), (2, (bv p2)), (4, (pt g5)), (7, (iv x22)), (8, (pt g31)), (98, (bv true))] [] (fun fb => by kernel_rfl) rfl trivial ?_
      exact WL.toV K true [98, 0, 2, 4, 7, 8] rfl (by first | (rw [h46]; done) | (rw [h46]; rfl))
     refine WL.setB 94 h46 rfl ?_
     refine seg 33 [.v (iv ((rdD p0 x22 z_Tile).S))] [0, 2, 4, 7, 8, 98] [(0, (sv Aa p0 ca)), (2, (bv p2)), (4, (pt g5)), (7, (iv x22)), (8, (pt g31)), (98, (bv (decide ((rdD p0 x22 z_Tile).S ≥ 1000))))] [.cell ⟨g31, 2, none⟩ (iv ((rdD p0 x22 z_Tile).S))] (fun fb => by kernel_rfl) rfl ⟨hS35.cell 0 rfl 2 rfl, trivial⟩ ?_
     exact WL.toV K (decide ((rdD p0 x22 z_Tile).S ≥ 1000)) [98, 0, 2, 4, 7, 8] rfl (by first | (rw [h46]; done) | (rw [h46]; rfl))
    rintro b47 rfl
    refine seg 34 [] [0, 2, 4, 7, 8, 99] [(0, (sv Aa p0 ca)), (2, (bv p2)), (4, (pt g5)), (7, (iv x22)), (8, (pt g31)), (99, (bv (((((((decide ((rdD p0 x22 z_Tile).N < 0)) || (decide ((rdD p0 x22 z_Tile).E < 0))) || (decide ((rdD p0 x22 z_Tile).S < 0))) || (decide ((rdD p0 x22 z_Tile).W < 0))) || (decide ((rdD p0 x22 z_Tile).N ≥ 1000))) || (decide ((rdD p0 x22 z_Tile).E ≥ 1000))) || (decide ((rdD p0 x22 z_Tile).S ≥ 1000)))))] [] (fun fb => by kernel_rfl) rfl trivial ?_
    refine WL.cutV (T := Bool) 38 (fun t => [(103, (bv t)), (0, (sv Aa p0 ca)), (2, (bv p2)), (4, (pt g5)), (7, (iv x22)), (8, (pt g31))]) (fun t => ((((((((decide ((rdD p0 x22 z_Tile).N < 0)) || (decide ((rdD p0 x22 z_Tile).E < 0))) || (decide ((rdD p0 x22 z_Tile).S < 0))) || (decide ((rdD p0 x22 z_Tile).W < 0))) || (decide ((rdD p0 x22 z_Tile).N ≥ 1000))) || (decide ((rdD p0 x22 z_Tile).E ≥ 1000))) || (decide ((rdD p0 x22 z_Tile).S ≥ 1000))) || (decide ((rdD p0 x22 z_Tile).W ≥ 1000))) = t) (fun K => ?_) ?_
    ·
     rcases Bool.eq_false_or_eq_true (((((((decide ((rdD p0 x22 z_Tile).N < 0)) || (decide ((rdD p0 x22 z_Tile).E < 0))) || (decide ((rdD p0 x22 z_Tile).S < 0))) || (decide ((rdD p0 x22 z_Tile).W < 0))) || (decide ((rdD p0 x22 z_Tile).N ≥ 1000))) || (decide ((rdD p0 x22 z_Tile).E ≥ 1000))) || (decide ((rdD p0 x22 z_Tile).S ≥ 1000))) with h48 | h48
     ·
      refine WL.setB 99 h48 rfl ?_
      refine seg 38 [] [0, 2, 4, 7, 8, 103] [(0, (sv Aa p0 ca)), (2, (bv p2)), (4, (pt g5)), (7, (iv x22)), (8, (pt g31)), (103, (bv true))] [] (fun fb => by kernel_rfl) rfl trivial ?_
      exact WL.toV K true [103, 0, 2, 4, 7, 8] rfl (by first | (rw [h48]; done) | (rw [h48]; rfl))
     refine WL.setB 99 h48 rfl ?_
     refine seg 38 [.v (iv ((rdD p0 x22 z_Tile).W))] [0, 2, 4, 7, 8, 103] [(0, (sv Aa p0 ca)), (2, (bv p2)), (4, (pt g5)), (7, (iv x22)), (8, (pt g31)), (103, (bv (decide ((rdD p0 x22 z_Tile).W ≥ 1000))))] [.cell ⟨g31, 3, none⟩ (iv ((rdD p0 x22 z_Tile).W))] (fun fb => by kernel_rfl) rfl ⟨hS35.cell 0 rfl 3 rfl, trivial⟩ ?_
     exact WL.toV K (decide ((rdD p0 x22 z_Tile).W ≥ 1000)) [103, 0, 2, 4, 7, 8] rfl (by first | (rw [h48]; done) | (rw [h48]; rfl))
    rintro b49 rfl
    refine WL.done rfl (WX.next ?_)
    rcases br_some hl28 with ⟨h50, hl28⟩ | ⟨h50, hl28⟩
    ·refine WC.condT2 (fun fb => by kernel_rfl) h50 ?_
     refine WC.seq (WC.region ?_)
     refine seg 1 [] [6] [(6, (bv false))] [] (fun fb => by kernel_rfl) rfl trivial ?_
     refine WL.done rfl (WX.next ?_)
     refine WC.ret ?_
     injection hl28 with hl28
     subst hl28
     injection hf with hf
     subst hf
     exact WX.thenR (WX.blockR (WX.thenR (WX.thenR (WX.blockR (WX.thenR (WX.ret_ [] (bv false) [] (fun fb => by kernel_rfl) trivial ⟨_, rfl, rfl, hS35.keep⟩))))))
    refine WC.condF2 (fun fb => by kernel_rfl) h50 ?_
    refine WC.skip (WX.next (WC.seq (WC.region ?_)))
    refine seg 1 [] [0, 2, 4, 7, 8, 9] [(0, (sv Aa p0 ca)), (2, (bv p2)), (4, (pt g5)), (7, (iv x22)), (8, (pt g31)), (9, (iv 0))] [] (fun fb => by kernel_rfl) rfl trivial ?_
    refine WL.done rfl (WX.next ?_)
    obtain ⟨x52, hx53, hl28⟩ := bind_some hl28
    refine WC.cutN (T := Unit) (fun t => [(0, (sv Aa p0 ca)), (2, (bv p2)), (4, (pt g5)), (7, (iv x22))]) (fun t w1 => St NoS w w1 [rowR enc_Tile Aa ca p0, rowR encInt Ab cb p1.Cells] [blk g5 (.cells #[(iv p1.Width), (iv p1.Height), (sv Ab p1.Cells cb)] 28 (0, 0))] ∧ x52 = .inr t) (fun Kx52 => ?_) ?_
    ·
     refine WC.block ?_
     refine WC.loop (T := Int) (fun t => [(0, (sv Aa p0 ca)), (2, (bv p2)), (4, (pt g5)), (7, (iv x22)), (8, (pt g31)), (9, (iv t))]) (fun n t w1 => St NoS w w1 [rowR enc_Tile Aa ca p0, rowR encInt Ab cb p1.Cells] [blk g5 (.cells #[(iv p1.Width), (iv p1.Height), (sv Ab p1.Cells cb)] 28 (0, 0)), blk g31 (.cells #[(iv ((rdD p0 x22 z_Tile).N)), (iv ((rdD p0 x22 z_Tile).E)), (iv ((rdD p0 x22 z_Tile).S)), (iv ((rdD p0 x22 z_Tile).W))] 39 (0, 0))] ∧ top_of.l1 n t p0 x22 = some x52) k25 0 [0, 2, 4, 7, 8, 9] rfl ⟨(hS35.subR [0, 1]).sub [1, 0] (by decide), hx53⟩ ?_
     rintro k54 x51 w55 ⟨hS56, hl57⟩
     cases k54 with
     | zero => rw [top_of.l1] at hl57; cases hl57
     | succ k54 =>
      rw [top_of.l1] at hl57
      refine WC.seq (WC.seq (WC.region ?_))
      refine seg 3 [] [0, 2, 4, 7, 8, 9, 106] [(0, (sv Aa p0 ca)), (2, (bv p2)), (4, (pt g5)), (7, (iv x22)), (8, (pt g31)), (9, (iv x51)), (106, (bv (decide (x51 < x22))))] [] (fun fb => by kernel_rfl) rfl trivial ?_
      refine WL.done rfl (WX.next ?_)
      rcases br_some hl57 with ⟨h58, hl57⟩ | ⟨h58, hl57⟩
      ·refine WC.condT2 (fun fb => by kernel_rfl) h58 ?_
       refine WC.skip (WX.next (WC.seq (WC.block (WC.seq ?_))))
       obtain ⟨h61, hl57⟩ := as_some hl57
       refine WC.regionD ([(3, ((adr Aa).add ((x51).toNat * 4)), (iv ((rdD p0 x51 z_Tile).N))), (3, (((adr Aa).add ((x51).toNat * 4)).add 1), (iv ((rdD p0 x51 z_Tile).E))), (3, (((adr Aa).add ((x51).toNat * 4)).add 2), (iv ((rdD p0 x51 z_Tile).S))), (3, (((adr Aa).add ((x51).toNat * 4)).add 3), (iv ((rdD p0 x51 z_Tile).W))), (4, ⟨g31, 0, none⟩, (iv ((rdD p0 x22 z_Tile).N))), (4, ⟨g31, 1, none⟩, (iv ((rdD p0 x22 z_Tile).E))), (4, ⟨g31, 2, none⟩, (iv ((rdD p0 x22 z_Tile).S))), (4, ⟨g31, 3, none⟩, (iv ((rdD p0 x22 z_Tile).W)))], [0, 1, 2, 3, 4, 5], [[], [], [0, 1], [0, 1, 2], [], [0, 1, 2, 3, 4]]) [[0, 1, 2, 3, 4, 5]] (by kernel_rfl) (by kernel_rfl) (NoPanic.seq (NoPanic.block (NoPanic.seq (NoPanic.seq (NoPanic.block (NoPanic.block (NoPanic.seq (NoPanic.seq (NoPanic.block (NoPanic.seq (NoPanic.body))))))))))) ?_
       have hS60 := hS56.drew
       revert hS60
       generalize World.drew w55 = w59
       intro hS60
       refine ⟨⟨rowR.cell (hS60.rd 0).1 z_Tile h61.1 h61.2 0 rfl, rowR.cell (hS60.rd 0).1 z_Tile h61.1 h61.2 1 rfl, rowR.cell (hS60.rd 0).1 z_Tile h61.1 h61.2 2 rfl, rowR.cell (hS60.rd 0).1 z_Tile h61.1 h61.2 3 rfl, hS60.cell 1 rfl 0 rfl, hS60.cell 1 rfl 1 rfl, hS60.cell 1 rfl 2 rfl, hS60.cell 1 rfl 3 rfl, trivial⟩, forallC ?_ (forallN)⟩
       refine segF 6 [.v (iv ((rdD p0 x51 z_Tile).N)), .v (iv ((rdD p0 x51 z_Tile).E)), .v (iv ((rdD p0 x51 z_Tile).S)), .v (iv ((rdD p0 x51 z_Tile).W)), .v (iv ((rdD p0 x22 z_Tile).N)), .v (iv ((rdD p0 x22 z_Tile).E)), .v (iv ((rdD p0 x22 z_Tile).S)), .v (iv ((rdD p0 x22 z_Tile).W))] [0, 2, 4, 7, 8, 9, 114] [(0, (sv Aa p0 ca)), (2, (bv p2)), (4, (pt g5)), (7, (iv x22)), (8, (pt g31)), (9, (iv x51)), (114, (bv (((rdD p0 x51 z_Tile).N) == ((rdD p0 x22 z_Tile).N) && (((rdD p0 x51 z_Tile).E) == ((rdD p0 x22 z_Tile).E) && (((rdD p0 x51 z_Tile).S) == ((rdD p0 x22 z_Tile).S) && (((rdD p0 x51 z_Tile).W) == ((rdD p0 x22 z_Tile).W)))))))] [.idx Aa x51 p0.length] [0, 1, 2, 3, 4, 5, 6, 7] [(3, ((adr Aa).add ((x51).toNat * 4)), (iv ((rdD p0 x51 z_Tile).N))), (3, (((adr Aa).add ((x51).toNat * 4)).add 1), (iv ((rdD p0 x51 z_Tile).E))), (3, (((adr Aa).add ((x51).toNat * 4)).add 2), (iv ((rdD p0 x51 z_Tile).S))), (3, (((adr Aa).add ((x51).toNat * 4)).add 3), (iv ((rdD p0 x51 z_Tile).W))), (4, ⟨g31, 0, none⟩, (iv ((rdD p0 x22 z_Tile).N))), (4, ⟨g31, 1, none⟩, (iv ((rdD p0 x22 z_Tile).E))), (4, ⟨g31, 2, none⟩, (iv ((rdD p0 x22 z_Tile).S))), (4, ⟨g31, 3, none⟩, (iv ((rdD p0 x22 z_Tile).W)))] (fun fb => by kernel_rfl) rfl ⟨rowR.adr (hS60.rd 0).1 h61.1 h61.2, trivial⟩ rfl ?_
       refine WL.done rfl (WX.next ?_)
       rcases br_some hl57 with ⟨h62, hl57⟩ | ⟨h62, hl57⟩
       ·refine WC.condT2 (fun fb => by kernel_rfl) h62 ?_
        refine WC.seq (WC.region ?_)
        refine seg 1 [] [6] [(6, (bv false))] [] (fun fb => by kernel_rfl) rfl trivial ?_
        refine WL.done rfl (WX.next ?_)
        refine WC.ret ?_
        injection hl57 with hl57
        subst hl57
        injection hl28 with hl28
        subst hl28
        injection hf with hf
        subst hf
        exact WX.blockR (WX.thenR (WX.thenR (WX.blockR (WX.blockR (WX.thenR (WX.thenR (WX.blockR (WX.thenR (WX.ret_ [] (bv false) [] (fun fb => by kernel_rfl) trivial ⟨_, rfl, rfl, hS60.keep⟩)))))))))
       refine WC.condF2 (fun fb => by kernel_rfl) h62 ?_
       refine WC.skip ?_
       refine WX.blockN (WX.next ?_)
       refine WC.region ?_
       refine seg 3 [] [0, 2, 4, 7, 8, 9] [(0, (sv Aa p0 ca)), (2, (bv p2)), (4, (pt g5)), (7, (iv x22)), (8, (pt g31)), (9, (iv (w64 (x51 + 1))))] [] (fun fb => by kernel_rfl) rfl trivial ?_
       refine WL.done rfl ?_
       exact WX.again k54 (Nat.lt_succ_self _) (w64 (x51 + 1)) [0, 2, 4, 7, 8, 9] rfl ⟨(hS60.subR [0, 1]).sub [0, 1] (by decide), hl57⟩
      refine WC.condF2 (fun fb => by kernel_rfl) h58 ?_
      refine WC.exit ?_
      injection hl57 with hl57
      exact WX.thenX (WX.thenX (WX.blockHere (WX.to Kx52 () [0, 2, 4, 7] rfl ⟨(hS56.subR [0, 1]).sub [0] (by decide), hl57.symm⟩)))
    rintro y67 w63 ⟨hS65, hq66⟩
    subst hq66
    have hl28 := sum_inr hl28
    refine WX.blockN (WX.next ?_)
    refine WC.region ?_
    refine seg 3 [] [0, 2, 4, 7] [(0, (sv Aa p0 ca)), (2, (bv p2)), (4, (pt g5)), (7, (iv (w64 (x22 + 1))))] [] (fun fb => by kernel_rfl) rfl trivial ?_
    refine WL.done rfl ?_
    exact WX.again k25 (Nat.lt_succ_self _) (w64 (x22 + 1)) [0, 2, 4, 7] rfl ⟨(hS65.subR [0, 1]).sub [0] (by decide), hl28⟩
   refine WC.condF2 (fun fb => by kernel_rfl) h29 ?_
   refine WC.exit ?_
   injection hl28 with hl28
   exact WX.thenX (WX.thenX (WX.blockHere (WX.to Kx23 () [0, 2, 4] rfl ⟨(hS27.subR [0, 1]).sub [0] (by decide), hl28.symm⟩)))
 rintro y71 w68 ⟨hS69, hq70⟩
 subst hq70
 have hf := sum_inr hf
 refine WX.next (WC.seq (WC.seq (WC.region ?_)))
 refine seg 1 [] [0, 2, 4, 10] [(0, (sv Aa p0 ca)), (2, (bv p2)), (4, (pt g5)), (10, (iv 0))] [] (fun fb => by kernel_rfl) rfl trivial ?_
 refine WL.done rfl (WX.next ?_)
 obtain ⟨x73, hx74, hf⟩ := bind_some hf
 refine WC.cutN (T := Unit) (fun t => [(0, (sv Aa p0 ca)), (2, (bv p2)), (4, (pt g5))]) (fun t w1 => St NoS w w1 [rowR enc_Tile Aa ca p0, rowR encInt Ab cb p1.Cells] [blk g5 (.cells #[(iv p1.Width), (iv p1.Height), (sv Ab p1.Cells cb)] 28 (0, 0))] ∧ x73 = .inr t) (fun Kx73 => ?_) ?_
 ·
  refine WC.block ?_
  refine WC.loop (T := Int) (fun t => [(0, (sv Aa p0 ca)), (2, (bv p2)), (4, (pt g5)), (10, (iv t))]) (fun n t w1 => St NoS w w1 [rowR enc_Tile Aa ca p0, rowR encInt Ab cb p1.Cells] [blk g5 (.cells #[(iv p1.Width), (iv p1.Height), (sv Ab p1.Cells cb)] 28 (0, 0))] ∧ top_of.l2 n t p0 p1 = some x73) k 0 [0, 2, 4, 10] rfl ⟨(hS69.subR [0, 1]).sub [0] (by decide), hx74⟩ ?_
  rintro k75 x72 w76 ⟨hS77, hl78⟩
  cases k75 with
  | zero => rw [top_of.l2] at hl78; cases hl78
  | succ k75 =>
   rw [top_of.l2] at hl78
   refine WC.seq (WC.seq (WC.region ?_))
   refine seg 5 [.v (sv Ab p1.Cells cb)] [0, 2, 4, 10, 119] [(0, (sv Aa p0 ca)), (2, (bv p2)), (4, (pt g5)), (10, (iv x72)), (119, (bv (decide (x72 < (p1.Cells.length : Int)))))] [.cell ⟨g5, 2, none⟩ (sv Ab p1.Cells cb)] (fun fb => by kernel_rfl) rfl ⟨hS77.cell 0 rfl 2 rfl, trivial⟩ ?_
   refine WL.done rfl (WX.next ?_)
   rcases br_some hl78 with ⟨h79, hl78⟩ | ⟨h79, hl78⟩
   ·refine WC.condT2 (fun fb => by kernel_rfl) h79 ?_
    refine WC.skip (WX.next (WC.seq (WC.block (WC.seq (WC.region ?_)))))
    refine seg 3 [.v (sv Ab p1.Cells cb)] [0, 2, 4, 10, 123, 124] [(0, (sv Aa p0 ca)), (2, (bv p2)), (4, (pt g5)), (10, (iv x72)), (123, (sv Ab p1.Cells cb)), (124, (iv x72))] [.cell ⟨g5, 2, none⟩ (sv Ab p1.Cells cb)] (fun fb => by kernel_rfl) rfl ⟨hS77.cell 0 rfl 2 rfl, trivial⟩ ?_
    obtain ⟨h80, hl78⟩ := as_some hl78
    refine seg 7 [.v (iv (rdD p1.Cells x72 0))] [0, 2, 4, 10, 128] [(0, (sv Aa p0 ca)), (2, (bv p2)), (4, (pt g5)), (10, (iv x72)), (128, (bv (decide ((rdD p1.Cells x72 0) < 0))))] [.idx Ab x72 p1.Cells.length, .cell ((adr Ab).add ((x72).toNat * 1)) (iv (rdD p1.Cells x72 0))] (fun fb => by kernel_rfl) rfl ⟨rowR.adr (hS77.rd 1).1 h80.1 h80.2, rowR.cell (hS77.rd 1).1 0 h80.1 h80.2 0 rfl, trivial⟩ ?_
    refine WL.cutV (T := Bool) 16 (fun t => [(137, (bv t)), (0, (sv Aa p0 ca)), (2, (bv p2)), (4, (pt g5)), (10, (iv x72))]) (fun t => ((decide ((rdD p1.Cells x72 0) < 0)) || (decide ((rdD p1.Cells x72 0) ≥ (p0.length : Int)))) = t) (fun K => ?_) ?_
    ·
     rcases Bool.eq_false_or_eq_true (decide ((rdD p1.Cells x72 0) < 0)) with h81 | h81
     ·
      refine WL.setB 128 h81 rfl ?_
      refine seg 16 [] [0, 2, 4, 10, 137] [(0, (sv Aa p0 ca)), (2, (bv p2)), (4, (pt g5)), (10, (iv x72)), (137, (bv true))] [] (fun fb => by kernel_rfl) rfl trivial ?_
      exact WL.toV K true [137, 0, 2, 4, 10] rfl (by first | (rw [h81]; done) | (rw [h81]; rfl))
     refine WL.setB 128 h81 rfl ?_
     refine seg 16 [.v (sv Ab p1.Cells cb), .v (iv (rdD p1.Cells x72 0))] [0, 2, 4, 10, 137] [(0, (sv Aa p0 ca)), (2, (bv p2)), (4, (pt g5)), (10, (iv x72)), (137, (bv (decide ((rdD p1.Cells x72 0) ≥ (p0.length : Int)))))] [.cell ⟨g5, 2, none⟩ (sv Ab p1.Cells cb), .idx Ab x72 p1.Cells.length, .cell ((adr Ab).add ((x72).toNat * 1)) (iv (rdD p1.Cells x72 0))] (fun fb => by kernel_rfl) rfl ⟨hS77.cell 0 rfl 2 rfl, rowR.adr (hS77.rd 1).1 h80.1 h80.2, rowR.cell (hS77.rd 1).1 0 h80.1 h80.2 0 rfl, trivial⟩ ?_
     exact WL.toV K (decide ((rdD p1.Cells x72 0) ≥ (p0.length : Int))) [137, 0, 2, 4, 10] rfl (by first | (rw [h81]; done) | (rw [h81]; rfl))
    rintro b82 rfl
    refine WL.done rfl (WX.next ?_)
    rcases br_some hl78 with ⟨h83, hl78⟩ | ⟨h83, hl78⟩
    ·refine WC.condT2 (fun fb => by kernel_rfl) h83 ?_
     refine WC.seq (WC.region ?_)
     refine seg 1 [] [6] [(6, (bv false))] [] (fun fb => by kernel_rfl) rfl trivial ?_
     refine WL.done rfl (WX.next ?_)
     refine WC.ret ?_
     injection hl78 with hl78
     subst hl78
     injection hf with hf
     subst hf
     exact WX.blockR (WX.thenR (WX.thenR (WX.blockR (WX.thenR (WX.ret_ [] (bv false) [] (fun fb => by kernel_rfl) trivial ⟨_, rfl, rfl, hS77.keep⟩)))))
    refine WC.condF2 (fun fb => by kernel_rfl) h83 ?_
    refine WC.skip ?_
    refine WX.blockN (WX.next ?_)
    refine WC.region ?_
    refine seg 3 [] [0, 2, 4, 10] [(0, (sv Aa p0 ca)), (2, (bv p2)), (4, (pt g5)), (10, (iv (w64 (x72 + 1))))] [] (fun fb => by kernel_rfl) rfl trivial ?_
    refine WL.done rfl ?_
    exact WX.again k75 (Nat.lt_succ_self _) (w64 (x72 + 1)) [0, 2, 4, 10] rfl ⟨(hS77.subR [0, 1]).sub [0] (by decide), hl78⟩
   refine WC.condF2 (fun fb => by kernel_rfl) h79 ?_
   refine WC.exit ?_
   injection hl78 with hl78
   exact WX.thenX (WX.thenX (WX.blockHere (WX.to Kx73 () [0, 2, 4] rfl ⟨(hS77.subR [0, 1]).sub [0] (by decide), hl78.symm⟩)))
 rintro y87 w84 ⟨hS85, hq86⟩
 subst hq86
 have hf := sum_inr hf
 refine WX.next (WC.seq (WC.seq (WC.region ?_)))
 refine seg 1 [] [0, 2, 4, 11] [(0, (sv Aa p0 ca)), (2, (bv p2)), (4, (pt g5)), (11, (iv 0))] [] (fun fb => by kernel_rfl) rfl trivial ?_
 refine WL.done rfl (WX.next ?_)
 obtain ⟨x89, hx90, hf⟩ := bind_some hf
 refine WC.cutN (T := Unit) (fun t => []) (fun t w1 => St NoS w w1 [rowR enc_Tile Aa ca p0, rowR encInt Ab cb p1.Cells] [] ∧ x89 = .inr t) (fun Kx89 => ?_) ?_
 ·
  refine WC.block ?_
  refine WC.loop (T := Int) (fun t => [(0, (sv Aa p0 ca)), (2, (bv p2)), (4, (pt g5)), (11, (iv t))]) (fun n t w1 => St NoS w w1 [rowR enc_Tile Aa ca p0, rowR encInt Ab cb p1.Cells] [blk g5 (.cells #[(iv p1.Width), (iv p1.Height), (sv Ab p1.Cells cb)] 28 (0, 0))] ∧ top_of.l3 n t p0 p1 p2 = some x89) k 0 [0, 2, 4, 11] rfl ⟨(hS85.subR [0, 1]).sub [0] (by decide), hx90⟩ ?_
  rintro k91 x88 w92 ⟨hS93, hl94⟩
  cases k91 with
  | zero => rw [top_of.l3] at hl94; cases hl94
  | succ k91 =>
   rw [top_of.l3] at hl94
   refine WC.seq (WC.seq (WC.region ?_))
   refine seg 4 [.v (iv p1.Height)] [0, 2, 4, 11, 141] [(0, (sv Aa p0 ca)), (2, (bv p2)), (4, (pt g5)), (11, (iv x88)), (141, (bv (decide (x88 < p1.Height))))] [.cell ⟨g5, 1, none⟩ (iv p1.Height)] (fun fb => by kernel_rfl) rfl ⟨hS93.cell 0 rfl 1 rfl, trivial⟩ ?_
   refine WL.done rfl (WX.next ?_)
   rcases br_some hl94 with ⟨h95, hl94⟩ | ⟨h95, hl94⟩
   ·refine WC.condT2 (fun fb => by kernel_rfl) h95 ?_
    refine WC.skip (WX.next (WC.seq (WC.block (WC.seq (WC.region ?_)))))
    refine seg 1 [] [0, 2, 4, 11, 12] [(0, (sv Aa p0 ca)), (2, (bv p2)), (4, (pt g5)), (11, (iv x88)), (12, (iv 0))] [] (fun fb => by kernel_rfl) rfl trivial ?_
    refine WL.done rfl (WX.next ?_)
    obtain ⟨x97, hx98, hl94⟩ := bind_some hl94
    refine WC.cutN (T := Unit) (fun t => [(0, (sv Aa p0 ca)), (2, (bv p2)), (4, (pt g5)), (11, (iv x88))]) (fun t w1 => St NoS w w1 [rowR enc_Tile Aa ca p0, rowR encInt Ab cb p1.Cells] [blk g5 (.cells #[(iv p1.Width), (iv p1.Height), (sv Ab p1.Cells cb)] 28 (0, 0))] ∧ x97 = .inr t) (fun Kx97 => ?_) ?_
    ·
     refine WC.block ?_
     refine WC.loop (T := Int) (fun t => [(0, (sv Aa p0 ca)), (2, (bv p2)), (4, (pt g5)), (11, (iv x88)), (12, (iv t))]) (fun n t w1 => St NoS w w1 [rowR enc_Tile Aa ca p0, rowR encInt Ab cb p1.Cells] [blk g5 (.cells #[(iv p1.Width), (iv p1.Height), (sv Ab p1.Cells cb)] 28 (0, 0))] ∧ top_of.l4 n t p0 p1 p2 x88 = some x97) k91 0 [0, 2, 4, 11, 12] rfl ⟨(hS93.subR [0, 1]).sub [0] (by decide), hx98⟩ ?_
     rintro k99 x96 w100 ⟨hS101, hl102⟩
     cases k99 with
     | zero => rw [top_of.l4] at hl102; cases hl102
     | succ k99 =>
      rw [top_of.l4] at hl102
      refine WC.seq (WC.seq (WC.region ?_))
      refine seg 4 [.v (iv p1.Width)] [0, 2, 4, 11, 12, 147] [(0, (sv Aa p0 ca)), (2, (bv p2)), (4, (pt g5)), (11, (iv x88)), (12, (iv x96)), (147, (bv (decide (x96 < p1.Width))))] [.cell ⟨g5, 0, none⟩ (iv p1.Width)] (fun fb => by kernel_rfl) rfl ⟨hS101.cell 0 rfl 0 rfl, trivial⟩ ?_
      refine WL.done rfl (WX.next ?_)
      rcases br_some hl102 with ⟨h103, hl102⟩ | ⟨h103, hl102⟩
      ·refine WC.condT2 (fun fb => by kernel_rfl) h103 ?_
       refine WC.skip (WX.next (WC.seq (WC.block (WC.seq (WC.region ?_)))))
       refine seg 9 [.v (sv Ab p1.Cells cb), .v (iv p1.Width)] [0, 2, 4, 11, 12, 150, 152, 158] [(0, (sv Aa p0 ca)), (2, (bv p2)), (4, (pt g5)), (11, (iv x88)), (12, (iv x96)), (150, (sv Aa p0 ca)), (152, (sv Ab p1.Cells cb)), (158, (iv (w64 ((w64 (x88 * p1.Width)) + x96))))] [.cell ⟨g5, 2, none⟩ (sv Ab p1.Cells cb), .cell ⟨g5, 0, none⟩ (iv p1.Width)] (fun fb => by kernel_rfl) rfl ⟨hS101.cell 0 rfl 2 rfl, hS101.cell 0 rfl 0 rfl, trivial⟩ ?_
       obtain ⟨h104, hl102⟩ := as_some hl102
       refine seg 11 [.v (iv (rdD p1.Cells (w64 ((w64 (x88 * p1.Width)) + x96)) 0))] [0, 2, 4, 11, 12, 150, 160] [(0, (sv Aa p0 ca)), (2, (bv p2)), (4, (pt g5)), (11, (iv x88)), (12, (iv x96)), (150, (sv Aa p0 ca)), (160, (iv (rdD p1.Cells (w64 ((w64 (x88 * p1.Width)) + x96)) 0)))] [.idx Ab (w64 ((w64 (x88 * p1.Width)) + x96)) p1.Cells.length, .cell ((adr Ab).add ((w64 ((w64 (x88 * p1.Width)) + x96)).toNat * 1)) (iv (rdD p1.Cells (w64 ((w64 (x88 * p1.Width)) + x96)) 0))] (fun fb => by kernel_rfl) rfl ⟨rowR.adr (hS101.rd 1).1 h104.1 h104.2, rowR.cell (hS101.rd 1).1 0 h104.1 h104.2 0 rfl, trivial⟩ ?_
       obtain ⟨h105, hl102⟩ := as_some hl102
       refine seg 13 [.v (iv ((rdD p0 (rdD p1.Cells (w64 ((w64 (x88 * p1.Width)) + x96)) 0) z_Tile).N)), .v (iv ((rdD p0 (rdD p1.Cells (w64 ((w64 (x88 * p1.Width)) + x96)) 0) z_Tile).E)), .v (iv ((rdD p0 (rdD p1.Cells (w64 ((w64 (x88 * p1.Width)) + x96)) 0) z_Tile).S)), .v (iv ((rdD p0 (rdD p1.Cells (w64 ((w64 (x88 * p1.Width)) + x96)) 0) z_Tile).W))] [0, 2, 4, 11, 12, 162] [(0, (sv Aa p0 ca)), (2, (bv p2)), (4, (pt g5)), (11, (iv x88)), (12, (iv x96)), (162, (.agg #[(iv ((rdD p0 (rdD p1.Cells (w64 ((w64 (x88 * p1.Width)) + x96)) 0) z_Tile).N)), (iv ((rdD p0 (rdD p1.Cells (w64 ((w64 (x88 * p1.Width)) + x96)) 0) z_Tile).E)), (iv ((rdD p0 (rdD p1.Cells (w64 ((w64 (x88 * p1.Width)) + x96)) 0) z_Tile).S)), (iv ((rdD p0 (rdD p1.Cells (w64 ((w64 (x88 * p1.Width)) + x96)) 0) z_Tile).W))]))] [.idx Aa (rdD p1.Cells (w64 ((w64 (x88 * p1.Width)) + x96)) 0) p0.length, .cell ((adr Aa).add (((rdD p1.Cells (w64 ((w64 (x88 * p1.Width)) + x96)) 0)).toNat * 4)) (iv ((rdD p0 (rdD p1.Cells (w64 ((w64 (x88 * p1.Width)) + x96)) 0) z_Tile).N)), .cell (((adr Aa).add (((rdD p1.Cells (w64 ((w64 (x88 * p1.Width)) + x96)) 0)).toNat * 4)).add 1) (iv ((rdD p0 (rdD p1.Cells (w64 ((w64 (x88 * p1.Width)) + x96)) 0) z_Tile).E)), .cell (((adr Aa).add (((rdD p1.Cells (w64 ((w64 (x88 * p1.Width)) + x96)) 0)).toNat * 4)).add 2) (iv ((rdD p0 (rdD p1.Cells (w64 ((w64 (x88 * p1.Width)) + x96)) 0) z_Tile).S)), .cell (((adr Aa).add (((rdD p1.Cells (w64 ((w64 (x88 * p1.Width)) + x96)) 0)).toNat * 4)).add 3) (iv ((rdD p0 (rdD p1.Cells (w64 ((w64 (x88 * p1.Width)) + x96)) 0) z_Tile).W))] (fun fb => by kernel_rfl) rfl ⟨rowR.adr (hS101.rd 0).1 h105.1 h105.2, rowR.cell (hS101.rd 0).1 z_Tile h105.1 h105.2 0 rfl, rowR.cell (hS101.rd 0).1 z_Tile h105.1 h105.2 1 rfl, rowR.cell (hS101.rd 0).1 z_Tile h105.1 h105.2 2 rfl, rowR.cell (hS101.rd 0).1 z_Tile h105.1 h105.2 3 rfl, trivial⟩ ?_
       refine WL.new hS101 13 [] (fun g => (pt g)) (.cells #[(iv 0), (iv 0), (iv 0), (iv 0)] 39 (0, 0)) [] (fun fb g => by kernel_rfl) trivial (fun g106 w107 hS108 => ?_)
       refine ⟨trivial, ?_⟩
       refine WL.store hS108 0 rfl [(0, (iv ((rdD p0 (rdD p1.Cells (w64 ((w64 (x88 * p1.Width)) + x96)) 0) z_Tile).N))), (1, (iv ((rdD p0 (rdD p1.Cells (w64 ((w64 (x88 * p1.Width)) + x96)) 0) z_Tile).E))), (2, (iv ((rdD p0 (rdD p1.Cells (w64 ((w64 (x88 * p1.Width)) + x96)) 0) z_Tile).S))), (3, (iv ((rdD p0 (rdD p1.Cells (w64 ((w64 (x88 * p1.Width)) + x96)) 0) z_Tile).W)))] #[(iv ((rdD p0 (rdD p1.Cells (w64 ((w64 (x88 * p1.Width)) + x96)) 0) z_Tile).N)), (iv ((rdD p0 (rdD p1.Cells (w64 ((w64 (x88 * p1.Width)) + x96)) 0) z_Tile).E)), (iv ((rdD p0 (rdD p1.Cells (w64 ((w64 (x88 * p1.Width)) + x96)) 0) z_Tile).S)), (iv ((rdD p0 (rdD p1.Cells (w64 ((w64 (x88 * p1.Width)) + x96)) 0) z_Tile).W))] (fun fb => by kernel_rfl) (by kernel_rfl) rfl [1] (by decide) (by decide) (fun w109 hS110 => ?_)
       refine ⟨trivial, ?_⟩
       refine WL.done rfl (WX.next (WC.seq (WC.seq ?_)))
       obtain ⟨x111, hx112, hl102⟩ := bind_some hl102
       refine WC.cutN (T := Bool) (fun t => [(0, (sv Aa p0 ca)), (2, (bv p2)), (4, (pt g5)), (11, (iv x88)), (12, (iv x96)), (13, (pt g106)), (193, (bv t))]) (fun t w1 => St NoS w w1 [rowR enc_Tile Aa ca p0, rowR encInt Ab cb p1.Cells] [blk g5 (.cells #[(iv p1.Width), (iv p1.Height), (sv Ab p1.Cells cb)] 28 (0, 0)), blk g106 (.cells #[(iv ((rdD p0 (rdD p1.Cells (w64 ((w64 (x88 * p1.Width)) + x96)) 0) z_Tile).N)), (iv ((rdD p0 (rdD p1.Cells (w64 ((w64 (x88 * p1.Width)) + x96)) 0) z_Tile).E)), (iv ((rdD p0 (rdD p1.Cells (w64 ((w64 (x88 * p1.Width)) + x96)) 0) z_Tile).S)), (iv ((rdD p0 (rdD p1.Cells (w64 ((w64 (x88 * p1.Width)) + x96)) 0) z_Tile).W))] 39 (0, 0))] ∧ x111 = t) (fun Kx111 => ?_) ?_
       ·
        rcases br_some hx112 with ⟨h113, hx112⟩ | ⟨h113, hx112⟩
        ·
         obtain ⟨h116, hx112⟩ := as_some hx112
         obtain ⟨h117, hx112⟩ := as_some hx112
         obtain ⟨h118, hx112⟩ := as_some hx112
         refine WC.regionD ([(10, ⟨g106, 1, none⟩, (iv ((rdD p0 (rdD p1.Cells (w64 ((w64 (x88 * p1.Width)) + x96)) 0) z_Tile).E))), (13, ⟨g5, 2, none⟩, (sv Ab p1.Cells cb)), (16, ⟨g5, 0, none⟩, (iv p1.Width)), (21, ⟨g5, 0, none⟩, (iv p1.Width)), (25, ((adr Ab).add ((w64 ((w64 (x88 * p1.Width)) + (Int.tmod (w64 (x96 + 1)) p1.Width))).toNat * 1)), (iv (rdD p1.Cells (w64 ((w64 (x88 * p1.Width)) + (Int.tmod (w64 (x96 + 1)) p1.Width))) 0))), (28, (((adr Aa).add (((rdD p1.Cells (w64 ((w64 (x88 * p1.Width)) + (Int.tmod (w64 (x96 + 1)) p1.Width))) 0)).toNat * 4)).add 3), (iv ((rdD p0 (rdD p1.Cells (w64 ((w64 (x88 * p1.Width)) + (Int.tmod (w64 (x96 + 1)) p1.Width))) 0) z_Tile).W)))], [0, 1, 2, 3, 4, 5, 6, 7, 8, 9, 10, 11, 12, 13, 14, 15, 16, 17, 18, 19, 20, 21, 22, 23, 24, 25, 26, 27, 28, 29, 30], [[], [0], [0, 1], [0, 1, 2], [0, 1], [0, 1, 4], [0, 1, 2, 3, 4, 5], [0, 1, 2, 3, 4, 5, 6], [0, 1, 2, 3, 4, 5, 6, 7], [0, 1, 2, 3, 4, 5, 6, 7, 8], [0, 1, 2, 3, 4, 5, 6, 7, 8, 9], [0, 1, 2, 3, 4, 5, 6, 7, 8], [0, 1, 2, 3, 4, 5, 6, 7, 8], [0, 1, 2, 3, 4, 5, 6, 7, 8, 12], [0, 1, 2, 3, 4, 5, 6, 7, 8], [0, 1, 2, 3, 4, 5, 6, 7, 8], [0, 1, 2, 3, 4, 5, 6, 7, 8, 15], [0, 1, 2, 3, 4, 5, 6, 7, 8, 14, 15, 16], [0, 1, 2, 3, 4, 5, 6, 7, 8], [0, 1, 2, 3, 4, 5, 6, 7, 8, 18], [0, 1, 2, 3, 4, 5, 6, 7, 8], [0, 1, 2, 3, 4, 5, 6, 7, 8, 20], [0, 1, 2, 3, 4, 5, 6, 7, 8, 18, 19, 20, 21], [0, 1, 2, 3, 4, 5, 6, 7, 8, 14, 15, 16, 17, 18, 19, 20, 21, 22], [0, 1, 2, 3, 4, 5, 6, 7, 8, 12, 13, 14, 15, 16, 17, 18, 19, 20, 21, 22, 23], [0, 1, 2, 3, 4, 5, 6, 7, 8, 12, 13, 14, 15, 16, 17, 18, 19, 20, 21, 22, 23, 24], [0, 1, 2, 3, 4, 5, 6, 7, 8, 11, 12, 13, 14, 15, 16, 17, 18, 19, 20, 21, 22, 23, 24, 25], [0, 1, 2, 3, 4, 5, 6, 7, 8, 11, 12, 13, 14, 15, 16, 17, 18, 19, 20, 21, 22, 23, 24, 25, 26], [0, 1, 2, 3, 4, 5, 6, 7, 8, 11, 12, 13, 14, 15, 16, 17, 18, 19, 20, 21, 22, 23, 24, 25, 26, 27], [0, 1, 2, 3, 4, 5, 6, 7, 8, 9, 10, 11, 12, 13, 14, 15, 16, 17, 18, 19, 20, 21, 22, 23, 24, 25, 26, 27, 28], [0, 1, 2, 3, 4, 5, 6, 7, 8, 9, 10, 11, 12, 13, 14, 15, 16, 17, 18, 19, 20, 21, 22, 23, 24, 25, 26, 27, 28, 29]]) [[0, 1, 2, 3, 4, 5, 6, 7, 8, 9, 10, 11, 12, 13, 14, 15, 16, 17, 18, 19, 20, 21, 22, 23, 24, 25, 26, 27, 28, 29, 30]] (by kernel_rfl) (by kernel_rfl) (NoPanic.seq (NoPanic.seq (NoPanic.block (NoPanic.seq (NoPanic.seq (NoPanic.block (NoPanic.block (NoPanic.seq (NoPanic.seq (NoPanic.block (NoPanic.seq (NoPanic.body)))))))))))) ?_
         have hS115 := hS110.drew
         revert hS115
         generalize World.drew w109 = w114
         intro hS115
         refine ⟨⟨hS115.cell 0 rfl 1 rfl, hS115.cell 1 rfl 2 rfl, hS115.cell 1 rfl 0 rfl, hS115.cell 1 rfl 0 rfl, rowR.cell (hS115.rd 1).1 0 h117.1 h117.2 0 rfl, rowR.cell (hS115.rd 0).1 z_Tile h118.1 h118.2 3 rfl, trivial⟩, forallC ?_ (forallN)⟩
         refine seg 2 [] [0, 2, 4, 11, 12, 13, 164] [(0, (sv Aa p0 ca)), (2, (bv p2)), (4, (pt g5)), (11, (iv x88)), (12, (iv x96)), (13, (pt g106)), (164, (bv p2))] [] (fun fb => by kernel_rfl) rfl trivial ?_
         refine WL.setB 164 h113 rfl ?_
         refine segF 31 [.v (iv ((rdD p0 (rdD p1.Cells (w64 ((w64 (x88 * p1.Width)) + x96)) 0) z_Tile).E)), .v (sv Ab p1.Cells cb), .v (iv p1.Width), .v (iv p1.Width), .v (iv (rdD p1.Cells (w64 ((w64 (x88 * p1.Width)) + (Int.tmod (w64 (x96 + 1)) p1.Width))) 0)), .v (iv ((rdD p0 (rdD p1.Cells (w64 ((w64 (x88 * p1.Width)) + (Int.tmod (w64 (x96 + 1)) p1.Width))) 0) z_Tile).W))] [0, 2, 4, 11, 12, 13, 193] [(0, (sv Aa p0 ca)), (2, (bv p2)), (4, (pt g5)), (11, (iv x88)), (12, (iv x96)), (13, (pt g106)), (193, (bv (((rdD p0 (rdD p1.Cells (w64 ((w64 (x88 * p1.Width)) + x96)) 0) z_Tile).E) != ((rdD p0 (rdD p1.Cells (w64 ((w64 (x88 * p1.Width)) + (Int.tmod (w64 (x96 + 1)) p1.Width))) 0) z_Tile).W))))] [.ne p1.Width, .idx Ab (w64 ((w64 (x88 * p1.Width)) + (Int.tmod (w64 (x96 + 1)) p1.Width))) p1.Cells.length, .idx Aa (rdD p1.Cells (w64 ((w64 (x88 * p1.Width)) + (Int.tmod (w64 (x96 + 1)) p1.Width))) 0) p0.length] [0, 1, 2, 3, 4, 5] [(10, ⟨g106, 1, none⟩, (iv ((rdD p0 (rdD p1.Cells (w64 ((w64 (x88 * p1.Width)) + x96)) 0) z_Tile).E))), (13, ⟨g5, 2, none⟩, (sv Ab p1.Cells cb)), (16, ⟨g5, 0, none⟩, (iv p1.Width)), (21, ⟨g5, 0, none⟩, (iv p1.Width)), (25, ((adr Ab).add ((w64 ((w64 (x88 * p1.Width)) + (Int.tmod (w64 (x96 + 1)) p1.Width))).toNat * 1)), (iv (rdD p1.Cells (w64 ((w64 (x88 * p1.Width)) + (Int.tmod (w64 (x96 + 1)) p1.Width))) 0))), (28, (((adr Aa).add (((rdD p1.Cells (w64 ((w64 (x88 * p1.Width)) + (Int.tmod (w64 (x96 + 1)) p1.Width))) 0)).toNat * 4)).add 3), (iv ((rdD p0 (rdD p1.Cells (w64 ((w64 (x88 * p1.Width)) + (Int.tmod (w64 (x96 + 1)) p1.Width))) 0) z_Tile).W)))] (fun fb => by kernel_rfl) rfl ⟨h116, rowR.adr (hS115.rd 1).1 h117.1 h117.2, rowR.adr (hS115.rd 0).1 h118.1 h118.2, trivial⟩ rfl ?_
         refine WL.done rfl ?_
         injection hx112 with hx112
         exact WX.to Kx111 (((rdD p0 (rdD p1.Cells (w64 ((w64 (x88 * p1.Width)) + x96)) 0) z_Tile).E) != ((rdD p0 (rdD p1.Cells (w64 ((w64 (x88 * p1.Width)) + (Int.tmod (w64 (x96 + 1)) p1.Width))) 0) z_Tile).W)) [0, 2, 4, 11, 12, 13, 193] rfl ⟨(hS115.subR [0, 1]).sub [1, 0] (by decide), hx112.symm⟩
        rcases br_some hx112 with ⟨h119, hx112⟩ | ⟨h119, hx112⟩
        ·
         obtain ⟨h122, hx112⟩ := as_some hx112
         obtain ⟨h123, hx112⟩ := as_some hx112
         obtain ⟨h124, hx112⟩ := as_some hx112
         refine WC.regionD ([(5, ⟨g5, 0, none⟩, (iv p1.Width)), (10, ⟨g106, 1, none⟩, (iv ((rdD p0 (rdD p1.Cells (w64 ((w64 (x88 * p1.Width)) + x96)) 0) z_Tile).E))), (13, ⟨g5, 2, none⟩, (sv Ab p1.Cells cb)), (16, ⟨g5, 0, none⟩, (iv p1.Width)), (21, ⟨g5, 0, none⟩, (iv p1.Width)), (25, ((adr Ab).add ((w64 ((w64 (x88 * p1.Width)) + (Int.tmod (w64 (x96 + 1)) p1.Width))).toNat * 1)), (iv (rdD p1.Cells (w64 ((w64 (x88 * p1.Width)) + (Int.tmod (w64 (x96 + 1)) p1.Width))) 0))), (28, (((adr Aa).add (((rdD p1.Cells (w64 ((w64 (x88 * p1.Width)) + (Int.tmod (w64 (x96 + 1)) p1.Width))) 0)).toNat * 4)).add 3), (iv ((rdD p0 (rdD p1.Cells (w64 ((w64 (x88 * p1.Width)) + (Int.tmod (w64 (x96 + 1)) p1.Width))) 0) z_Tile).W)))], [0, 1, 2, 3, 4, 5, 6, 7, 8, 9, 10, 11, 12, 13, 14, 15, 16, 17, 18, 19, 20, 21, 22, 23, 24, 25, 26, 27, 28, 29, 30], [[], [0], [0, 1], [0, 1, 2], [0, 1], [0, 1, 4], [0, 1, 2, 3, 4, 5], [0, 1, 2, 3, 4, 5, 6], [0, 1, 2, 3, 4, 5, 6, 7], [0, 1, 2, 3, 4, 5, 6, 7, 8], [0, 1, 2, 3, 4, 5, 6, 7, 8, 9], [0, 1, 2, 3, 4, 5, 6, 7, 8], [0, 1, 2, 3, 4, 5, 6, 7, 8], [0, 1, 2, 3, 4, 5, 6, 7, 8, 12], [0, 1, 2, 3, 4, 5, 6, 7, 8], [0, 1, 2, 3, 4, 5, 6, 7, 8], [0, 1, 2, 3, 4, 5, 6, 7, 8, 15], [0, 1, 2, 3, 4, 5, 6, 7, 8, 14, 15, 16], [0, 1, 2, 3, 4, 5, 6, 7, 8], [0, 1, 2, 3, 4, 5, 6, 7, 8, 18], [0, 1, 2, 3, 4, 5, 6, 7, 8], [0, 1, 2, 3, 4, 5, 6, 7, 8, 20], [0, 1, 2, 3, 4, 5, 6, 7, 8, 18, 19, 20, 21], [0, 1, 2, 3, 4, 5, 6, 7, 8, 14, 15, 16, 17, 18, 19, 20, 21, 22], [0, 1, 2, 3, 4, 5, 6, 7, 8, 12, 13, 14, 15, 16, 17, 18, 19, 20, 21, 22, 23], [0, 1, 2, 3, 4, 5, 6, 7, 8, 12, 13, 14, 15, 16, 17, 18, 19, 20, 21, 22, 23, 24], [0, 1, 2, 3, 4, 5, 6, 7, 8, 11, 12, 13, 14, 15, 16, 17, 18, 19, 20, 21, 22, 23, 24, 25], [0, 1, 2, 3, 4, 5, 6, 7, 8, 11, 12, 13, 14, 15, 16, 17, 18, 19, 20, 21, 22, 23, 24, 25, 26], [0, 1, 2, 3, 4, 5, 6, 7, 8, 11, 12, 13, 14, 15, 16, 17, 18, 19, 20, 21, 22, 23, 24, 25, 26, 27], [0, 1, 2, 3, 4, 5, 6, 7, 8, 9, 10, 11, 12, 13, 14, 15, 16, 17, 18, 19, 20, 21, 22, 23, 24, 25, 26, 27, 28], [0, 1, 2, 3, 4, 5, 6, 7, 8, 9, 10, 11, 12, 13, 14, 15, 16, 17, 18, 19, 20, 21, 22, 23, 24, 25, 26, 27, 28, 29]]) [[0, 1, 2, 3, 4, 5, 6, 7, 8, 9, 10, 11, 12, 13, 14, 15, 16, 17, 18, 19, 20, 21, 22, 23, 24, 25, 26, 27, 28, 29, 30]] (by kernel_rfl) (by kernel_rfl) (NoPanic.seq (NoPanic.seq (NoPanic.block (NoPanic.seq (NoPanic.seq (NoPanic.block (NoPanic.block (NoPanic.seq (NoPanic.seq (NoPanic.block (NoPanic.seq (NoPanic.body)))))))))))) ?_
         have hS121 := hS110.drew
         revert hS121
         generalize World.drew w109 = w120
         intro hS121
         refine ⟨⟨hS121.cell 1 rfl 0 rfl, hS121.cell 0 rfl 1 rfl, hS121.cell 1 rfl 2 rfl, hS121.cell 1 rfl 0 rfl, hS121.cell 1 rfl 0 rfl, rowR.cell (hS121.rd 1).1 0 h123.1 h123.2 0 rfl, rowR.cell (hS121.rd 0).1 z_Tile h124.1 h124.2 3 rfl, trivial⟩, forallC ?_ (forallN)⟩
         refine seg 2 [] [0, 2, 4, 11, 12, 13, 164] [(0, (sv Aa p0 ca)), (2, (bv p2)), (4, (pt g5)), (11, (iv x88)), (12, (iv x96)), (13, (pt g106)), (164, (bv p2))] [] (fun fb => by kernel_rfl) rfl trivial ?_
         refine WL.setB 164 h113 rfl ?_
         refine segF 9 [.v (iv p1.Width)] [0, 2, 4, 11, 12, 13, 171] [(0, (sv Aa p0 ca)), (2, (bv p2)), (4, (pt g5)), (11, (iv x88)), (12, (iv x96)), (13, (pt g106)), (171, (bv (decide (w64 (x96 + 1) < p1.Width))))] [] [0] [(5, ⟨g5, 0, none⟩, (iv p1.Width))] (fun fb => by kernel_rfl) rfl trivial rfl ?_
         refine WL.setB 171 h119 rfl ?_
         refine segF 31 [.v (iv ((rdD p0 (rdD p1.Cells (w64 ((w64 (x88 * p1.Width)) + x96)) 0) z_Tile).E)), .v (sv Ab p1.Cells cb), .v (iv p1.Width), .v (iv p1.Width), .v (iv (rdD p1.Cells (w64 ((w64 (x88 * p1.Width)) + (Int.tmod (w64 (x96 + 1)) p1.Width))) 0)), .v (iv ((rdD p0 (rdD p1.Cells (w64 ((w64 (x88 * p1.Width)) + (Int.tmod (w64 (x96 + 1)) p1.Width))) 0) z_Tile).W))] [0, 2, 4, 11, 12, 13, 193] [(0, (sv Aa p0 ca)), (2, (bv p2)), (4, (pt g5)), (11, (iv x88)), (12, (iv x96)), (13, (pt g106)), (193, (bv (((rdD p0 (rdD p1.Cells (w64 ((w64 (x88 * p1.Width)) + x96)) 0) z_Tile).E) != ((rdD p0 (rdD p1.Cells (w64 ((w64 (x88 * p1.Width)) + (Int.tmod (w64 (x96 + 1)) p1.Width))) 0) z_Tile).W))))] [.ne p1.Width, .idx Ab (w64 ((w64 (x88 * p1.Width)) + (Int.tmod (w64 (x96 + 1)) p1.Width))) p1.Cells.length, .idx Aa (rdD p1.Cells (w64 ((w64 (x88 * p1.Width)) + (Int.tmod (w64 (x96 + 1)) p1.Width))) 0) p0.length] [1, 2, 3, 4, 5, 6] [(10, ⟨g106, 1, none⟩, (iv ((rdD p0 (rdD p1.Cells (w64 ((w64 (x88 * p1.Width)) + x96)) 0) z_Tile).E))), (13, ⟨g5, 2, none⟩, (sv Ab p1.Cells cb)), (16, ⟨g5, 0, none⟩, (iv p1.Width)), (21, ⟨g5, 0, none⟩, (iv p1.Width)), (25, ((adr Ab).add ((w64 ((w64 (x88 * p1.Width)) + (Int.tmod (w64 (x96 + 1)) p1.Width))).toNat * 1)), (iv (rdD p1.Cells (w64 ((w64 (x88 * p1.Width)) + (Int.tmod (w64 (x96 + 1)) p1.Width))) 0))), (28, (((adr Aa).add (((rdD p1.Cells (w64 ((w64 (x88 * p1.Width)) + (Int.tmod (w64 (x96 + 1)) p1.Width))) 0)).toNat * 4)).add 3), (iv ((rdD p0 (rdD p1.Cells (w64 ((w64 (x88 * p1.Width)) + (Int.tmod (w64 (x96 + 1)) p1.Width))) 0) z_Tile).W)))] (fun fb => by kernel_rfl) rfl ⟨h122, rowR.adr (hS121.rd 1).1 h123.1 h123.2, rowR.adr (hS121.rd 0).1 h124.1 h124.2, trivial⟩ rfl ?_
         refine WL.done rfl ?_
         injection hx112 with hx112
         exact WX.to Kx111 (((rdD p0 (rdD p1.Cells (w64 ((w64 (x88 * p1.Width)) + x96)) 0) z_Tile).E) != ((rdD p0 (rdD p1.Cells (w64 ((w64 (x88 * p1.Width)) + (Int.tmod (w64 (x96 + 1)) p1.Width))) 0) z_Tile).W)) [0, 2, 4, 11, 12, 13, 193] rfl ⟨(hS121.subR [0, 1]).sub [1, 0] (by decide), hx112.symm⟩
        refine WC.regionD ([(5, ⟨g5, 0, none⟩, (iv p1.Width))], [0, 1, 2, 3, 4, 5, 6, 7, 8, 9, 10, 11, 12, 13, 14, 15, 16, 17, 18, 19, 20, 21, 22, 23, 24, 25, 26, 27, 28, 29, 30], [[], [0], [0, 1], [0, 1, 2], [0, 1], [0, 1, 4], [0, 1, 2, 3, 4, 5], [0, 1, 2, 3, 4, 5, 6], [0, 1, 2, 3, 4, 5, 6, 7], [0, 1, 2, 3, 4, 5, 6, 7, 8], [0, 1, 2, 3, 4, 5, 6, 7, 8, 9], [0, 1, 2, 3, 4, 5, 6, 7, 8], [0, 1, 2, 3, 4, 5, 6, 7, 8], [0, 1, 2, 3, 4, 5, 6, 7, 8, 12], [0, 1, 2, 3, 4, 5, 6, 7, 8], [0, 1, 2, 3, 4, 5, 6, 7, 8], [0, 1, 2, 3, 4, 5, 6, 7, 8, 15], [0, 1, 2, 3, 4, 5, 6, 7, 8, 14, 15, 16], [0, 1, 2, 3, 4, 5, 6, 7, 8], [0, 1, 2, 3, 4, 5, 6, 7, 8, 18], [0, 1, 2, 3, 4, 5, 6, 7, 8], [0, 1, 2, 3, 4, 5, 6, 7, 8, 20], [0, 1, 2, 3, 4, 5, 6, 7, 8, 18, 19, 20, 21], [0, 1, 2, 3, 4, 5, 6, 7, 8, 14, 15, 16, 17, 18, 19, 20, 21, 22], [0, 1, 2, 3, 4, 5, 6, 7, 8, 12, 13, 14, 15, 16, 17, 18, 19, 20, 21, 22, 23], [0, 1, 2, 3, 4, 5, 6, 7, 8, 12, 13, 14, 15, 16, 17, 18, 19, 20, 21, 22, 23, 24], [0, 1, 2, 3, 4, 5, 6, 7, 8, 11, 12, 13, 14, 15, 16, 17, 18, 19, 20, 21, 22, 23, 24, 25], [0, 1, 2, 3, 4, 5, 6, 7, 8, 11, 12, 13, 14, 15, 16, 17, 18, 19, 20, 21, 22, 23, 24, 25, 26], [0, 1, 2, 3, 4, 5, 6, 7, 8, 11, 12, 13, 14, 15, 16, 17, 18, 19, 20, 21, 22, 23, 24, 25, 26, 27], [0, 1, 2, 3, 4, 5, 6, 7, 8, 9, 10, 11, 12, 13, 14, 15, 16, 17, 18, 19, 20, 21, 22, 23, 24, 25, 26, 27, 28], [0, 1, 2, 3, 4, 5, 6, 7, 8, 9, 10, 11, 12, 13, 14, 15, 16, 17, 18, 19, 20, 21, 22, 23, 24, 25, 26, 27, 28, 29]]) [[0, 1, 2, 3, 4, 5, 6, 7, 8, 9, 10, 11, 12, 13, 14, 15, 16, 17, 18, 19, 20, 21, 22, 23, 24, 25, 26, 27, 28, 29, 30]] (by kernel_rfl) (by kernel_rfl) (NoPanic.seq (NoPanic.seq (NoPanic.block (NoPanic.seq (NoPanic.seq (NoPanic.block (NoPanic.block (NoPanic.seq (NoPanic.seq (NoPanic.block (NoPanic.seq (NoPanic.body)))))))))))) ?_
        have hS126 := hS110.drew
        revert hS126
        generalize World.drew w109 = w125
        intro hS126
        refine ⟨⟨hS126.cell 1 rfl 0 rfl, trivial⟩, forallC ?_ (forallN)⟩
        refine seg 2 [] [0, 2, 4, 11, 12, 13, 164] [(0, (sv Aa p0 ca)), (2, (bv p2)), (4, (pt g5)), (11, (iv x88)), (12, (iv x96)), (13, (pt g106)), (164, (bv p2))] [] (fun fb => by kernel_rfl) rfl trivial ?_
        refine WL.setB 164 h113 rfl ?_
        refine segF 9 [.v (iv p1.Width)] [0, 2, 4, 11, 12, 13, 171] [(0, (sv Aa p0 ca)), (2, (bv p2)), (4, (pt g5)), (11, (iv x88)), (12, (iv x96)), (13, (pt g106)), (171, (bv (decide (w64 (x96 + 1) < p1.Width))))] [] [0] [(5, ⟨g5, 0, none⟩, (iv p1.Width))] (fun fb => by kernel_rfl) rfl trivial rfl ?_
        refine WL.setB 171 h119 rfl ?_
        refine seg 31 [] [0, 2, 4, 11, 12, 13, 193] [(0, (sv Aa p0 ca)), (2, (bv p2)), (4, (pt g5)), (11, (iv x88)), (12, (iv x96)), (13, (pt g106)), (193, (bv false))] [] (fun fb => by kernel_rfl) rfl trivial ?_
        refine WL.done rfl ?_
        injection hx112 with hx112
        exact WX.to Kx111 false [0, 2, 4, 11, 12, 13, 193] rfl ⟨(hS126.subR [0, 1]).sub [1, 0] (by decide), hx112.symm⟩
       rintro y130 w127 ⟨hS128, hq129⟩
       subst hq129
       refine WX.next ?_
       rcases br_some hl102 with ⟨h131, hl102⟩ | ⟨h131, hl102⟩
       ·refine WC.condT2 (fun fb => by kernel_rfl) h131 ?_
        refine WC.seq (WC.region ?_)
        refine seg 1 [] [6] [(6, (bv false))] [] (fun fb => by kernel_rfl) rfl trivial ?_
        refine WL.done rfl (WX.next ?_)
        refine WC.ret ?_
        injection hl102 with hl102
        subst hl102
        injection hl94 with hl94
        subst hl94
        injection hf with hf
        subst hf
        exact WX.thenR (WX.blockR (WX.thenR (WX.thenR (WX.blockR (WX.blockR (WX.thenR (WX.thenR (WX.blockR (WX.thenR (WX.ret_ [] (bv false) [] (fun fb => by kernel_rfl) trivial ⟨_, rfl, rfl, hS128.keep⟩))))))))))
       refine WC.condF2 (fun fb => by kernel_rfl) h131 ?_
       refine WC.skip (WX.next (WC.seq ?_))
       obtain ⟨x132, hx133, hl102⟩ := bind_some hl102
       refine WC.cutN (T := Bool) (fun t => [(0, (sv Aa p0 ca)), (2, (bv p2)), (4, (pt g5)), (11, (iv x88)), (12, (iv x96)), (224, (bv t))]) (fun t w1 => St NoS w w1 [rowR enc_Tile Aa ca p0, rowR encInt Ab cb p1.Cells] [blk g5 (.cells #[(iv p1.Width), (iv p1.Height), (sv Ab p1.Cells cb)] 28 (0, 0))] ∧ x132 = t) (fun Kx132 => ?_) ?_
       ·
        rcases br_some hx133 with ⟨h134, hx133⟩ | ⟨h134, hx133⟩
        ·
         obtain ⟨h137, hx133⟩ := as_some hx133
         obtain ⟨h138, hx133⟩ := as_some hx133
         obtain ⟨h139, hx133⟩ := as_some hx133
         refine WC.regionD ([(10, ⟨g106, 0, none⟩, (iv ((rdD p0 (rdD p1.Cells (w64 ((w64 (x88 * p1.Width)) + x96)) 0) z_Tile).N))), (13, ⟨g5, 2, none⟩, (sv Ab p1.Cells cb)), (17, ⟨g5, 1, none⟩, (iv p1.Height)), (20, ⟨g5, 0, none⟩, (iv p1.Width)), (25, ((adr Ab).add ((w64 ((w64 ((Int.tmod (w64 (x88 + 1)) p1.Height) * p1.Width)) + x96)).toNat * 1)), (iv (rdD p1.Cells (w64 ((w64 ((Int.tmod (w64 (x88 + 1)) p1.Height) * p1.Width)) + x96)) 0))), (28, (((adr Aa).add (((rdD p1.Cells (w64 ((w64 ((Int.tmod (w64 (x88 + 1)) p1.Height) * p1.Width)) + x96)) 0)).toNat * 4)).add 2), (iv ((rdD p0 (rdD p1.Cells (w64 ((w64 ((Int.tmod (w64 (x88 + 1)) p1.Height) * p1.Width)) + x96)) 0) z_Tile).S)))], [0, 1, 2, 3, 4, 5, 6, 7, 8, 9, 10, 11, 12, 13, 14, 15, 16, 17, 18, 19, 20, 21, 22, 23, 24, 25, 26, 27, 28, 29, 30], [[], [0], [0, 1], [0, 1, 2], [0, 1], [0, 1, 4], [0, 1, 2, 3, 4, 5], [0, 1, 2, 3, 4, 5, 6], [0, 1, 2, 3, 4, 5, 6, 7], [0, 1, 2, 3, 4, 5, 6, 7, 8], [0, 1, 2, 3, 4, 5, 6, 7, 8, 9], [0, 1, 2, 3, 4, 5, 6, 7, 8], [0, 1, 2, 3, 4, 5, 6, 7, 8], [0, 1, 2, 3, 4, 5, 6, 7, 8, 12], [0, 1, 2, 3, 4, 5, 6, 7, 8], [0, 1, 2, 3, 4, 5, 6, 7, 8, 14], [0, 1, 2, 3, 4, 5, 6, 7, 8], [0, 1, 2, 3, 4, 5, 6, 7, 8, 16], [0, 1, 2, 3, 4, 5, 6, 7, 8, 14, 15, 16, 17], [0, 1, 2, 3, 4, 5, 6, 7, 8], [0, 1, 2, 3, 4, 5, 6, 7, 8, 19], [0, 1, 2, 3, 4, 5, 6, 7, 8, 14, 15, 16, 17, 18, 19, 20], [0, 1, 2, 3, 4, 5, 6, 7, 8], [0, 1, 2, 3, 4, 5, 6, 7, 8, 14, 15, 16, 17, 18, 19, 20, 21, 22], [0, 1, 2, 3, 4, 5, 6, 7, 8, 12, 13, 14, 15, 16, 17, 18, 19, 20, 21, 22, 23], [0, 1, 2, 3, 4, 5, 6, 7, 8, 12, 13, 14, 15, 16, 17, 18, 19, 20, 21, 22, 23, 24], [0, 1, 2, 3, 4, 5, 6, 7, 8, 11, 12, 13, 14, 15, 16, 17, 18, 19, 20, 21, 22, 23, 24, 25], [0, 1, 2, 3, 4, 5, 6, 7, 8, 11, 12, 13, 14, 15, 16, 17, 18, 19, 20, 21, 22, 23, 24, 25, 26], [0, 1, 2, 3, 4, 5, 6, 7, 8, 11, 12, 13, 14, 15, 16, 17, 18, 19, 20, 21, 22, 23, 24, 25, 26, 27], [0, 1, 2, 3, 4, 5, 6, 7, 8, 9, 10, 11, 12, 13, 14, 15, 16, 17, 18, 19, 20, 21, 22, 23, 24, 25, 26, 27, 28], [0, 1, 2, 3, 4, 5, 6, 7, 8, 9, 10, 11, 12, 13, 14, 15, 16, 17, 18, 19, 20, 21, 22, 23, 24, 25, 26, 27, 28, 29]]) [[0, 1, 2, 3, 4, 5, 6, 7, 8, 9, 10, 11, 12, 13, 14, 15, 16, 17, 18, 19, 20, 21, 22, 23, 24, 25, 26, 27, 28, 29, 30]] (by kernel_rfl) (by kernel_rfl) (NoPanic.seq (NoPanic.block (NoPanic.seq (NoPanic.seq (NoPanic.block (NoPanic.block (NoPanic.seq (NoPanic.seq (NoPanic.block (NoPanic.seq (NoPanic.body))))))))))) ?_
         have hS136 := hS128.drew
         revert hS136
         generalize World.drew w127 = w135
         intro hS136
         refine ⟨⟨hS136.cell 1 rfl 0 rfl, hS136.cell 0 rfl 2 rfl, hS136.cell 0 rfl 1 rfl, hS136.cell 0 rfl 0 rfl, rowR.cell (hS136.rd 1).1 0 h138.1 h138.2 0 rfl, rowR.cell (hS136.rd 0).1 z_Tile h139.1 h139.2 2 rfl, trivial⟩, forallC ?_ (forallN)⟩
         refine seg 2 [] [0, 2, 4, 11, 12, 13, 195] [(0, (sv Aa p0 ca)), (2, (bv p2)), (4, (pt g5)), (11, (iv x88)), (12, (iv x96)), (13, (pt g106)), (195, (bv p2))] [] (fun fb => by kernel_rfl) rfl trivial ?_
         refine WL.setB 195 h134 rfl ?_
         refine segF 31 [.v (iv ((rdD p0 (rdD p1.Cells (w64 ((w64 (x88 * p1.Width)) + x96)) 0) z_Tile).N)), .v (sv Ab p1.Cells cb), .v (iv p1.Height), .v (iv p1.Width), .v (iv (rdD p1.Cells (w64 ((w64 ((Int.tmod (w64 (x88 + 1)) p1.Height) * p1.Width)) + x96)) 0)), .v (iv ((rdD p0 (rdD p1.Cells (w64 ((w64 ((Int.tmod (w64 (x88 + 1)) p1.Height) * p1.Width)) + x96)) 0) z_Tile).S))] [0, 2, 4, 11, 12, 224] [(0, (sv Aa p0 ca)), (2, (bv p2)), (4, (pt g5)), (11, (iv x88)), (12, (iv x96)), (224, (bv (((rdD p0 (rdD p1.Cells (w64 ((w64 (x88 * p1.Width)) + x96)) 0) z_Tile).N) != ((rdD p0 (rdD p1.Cells (w64 ((w64 ((Int.tmod (w64 (x88 + 1)) p1.Height) * p1.Width)) + x96)) 0) z_Tile).S))))] [.ne p1.Height, .idx Ab (w64 ((w64 ((Int.tmod (w64 (x88 + 1)) p1.Height) * p1.Width)) + x96)) p1.Cells.length, .idx Aa (rdD p1.Cells (w64 ((w64 ((Int.tmod (w64 (x88 + 1)) p1.Height) * p1.Width)) + x96)) 0) p0.length] [0, 1, 2, 3, 4, 5] [(10, ⟨g106, 0, none⟩, (iv ((rdD p0 (rdD p1.Cells (w64 ((w64 (x88 * p1.Width)) + x96)) 0) z_Tile).N))), (13, ⟨g5, 2, none⟩, (sv Ab p1.Cells cb)), (17, ⟨g5, 1, none⟩, (iv p1.Height)), (20, ⟨g5, 0, none⟩, (iv p1.Width)), (25, ((adr Ab).add ((w64 ((w64 ((Int.tmod (w64 (x88 + 1)) p1.Height) * p1.Width)) + x96)).toNat * 1)), (iv (rdD p1.Cells (w64 ((w64 ((Int.tmod (w64 (x88 + 1)) p1.Height) * p1.Width)) + x96)) 0))), (28, (((adr Aa).add (((rdD p1.Cells (w64 ((w64 ((Int.tmod (w64 (x88 + 1)) p1.Height) * p1.Width)) + x96)) 0)).toNat * 4)).add 2), (iv ((rdD p0 (rdD p1.Cells (w64 ((w64 ((Int.tmod (w64 (x88 + 1)) p1.Height) * p1.Width)) + x96)) 0) z_Tile).S)))] (fun fb => by kernel_rfl) rfl ⟨h137, rowR.adr (hS136.rd 1).1 h138.1 h138.2, rowR.adr (hS136.rd 0).1 h139.1 h139.2, trivial⟩ rfl ?_
         refine WL.done rfl ?_
         injection hx133 with hx133
         exact WX.to Kx132 (((rdD p0 (rdD p1.Cells (w64 ((w64 (x88 * p1.Width)) + x96)) 0) z_Tile).N) != ((rdD p0 (rdD p1.Cells (w64 ((w64 ((Int.tmod (w64 (x88 + 1)) p1.Height) * p1.Width)) + x96)) 0) z_Tile).S)) [0, 2, 4, 11, 12, 224] rfl ⟨(hS136.subR [0, 1]).sub [0] (by decide), hx133.symm⟩
        rcases br_some hx133 with ⟨h140, hx133⟩ | ⟨h140, hx133⟩
        ·
         obtain ⟨h143, hx133⟩ := as_some hx133
         obtain ⟨h144, hx133⟩ := as_some hx133
         obtain ⟨h145, hx133⟩ := as_some hx133
         refine WC.regionD ([(5, ⟨g5, 1, none⟩, (iv p1.Height)), (10, ⟨g106, 0, none⟩, (iv ((rdD p0 (rdD p1.Cells (w64 ((w64 (x88 * p1.Width)) + x96)) 0) z_Tile).N))), (13, ⟨g5, 2, none⟩, (sv Ab p1.Cells cb)), (17, ⟨g5, 1, none⟩, (iv p1.Height)), (20, ⟨g5, 0, none⟩, (iv p1.Width)), (25, ((adr Ab).add ((w64 ((w64 ((Int.tmod (w64 (x88 + 1)) p1.Height) * p1.Width)) + x96)).toNat * 1)), (iv (rdD p1.Cells (w64 ((w64 ((Int.tmod (w64 (x88 + 1)) p1.Height) * p1.Width)) + x96)) 0))), (28, (((adr Aa).add (((rdD p1.Cells (w64 ((w64 ((Int.tmod (w64 (x88 + 1)) p1.Height) * p1.Width)) + x96)) 0)).toNat * 4)).add 2), (iv ((rdD p0 (rdD p1.Cells (w64 ((w64 ((Int.tmod (w64 (x88 + 1)) p1.Height) * p1.Width)) + x96)) 0) z_Tile).S)))], [0, 1, 2, 3, 4, 5, 6, 7, 8, 9, 10, 11, 12, 13, 14, 15, 16, 17, 18, 19, 20, 21, 22, 23, 24, 25, 26, 27, 28, 29, 30], [[], [0], [0, 1], [0, 1, 2], [0, 1], [0, 1, 4], [0, 1, 2, 3, 4, 5], [0, 1, 2, 3, 4, 5, 6], [0, 1, 2, 3, 4, 5, 6, 7], [0, 1, 2, 3, 4, 5, 6, 7, 8], [0, 1, 2, 3, 4, 5, 6, 7, 8, 9], [0, 1, 2, 3, 4, 5, 6, 7, 8], [0, 1, 2, 3, 4, 5, 6, 7, 8], [0, 1, 2, 3, 4, 5, 6, 7, 8, 12], [0, 1, 2, 3, 4, 5, 6, 7, 8], [0, 1, 2, 3, 4, 5, 6, 7, 8, 14], [0, 1, 2, 3, 4, 5, 6, 7, 8], [0, 1, 2, 3, 4, 5, 6, 7, 8, 16], [0, 1, 2, 3, 4, 5, 6, 7, 8, 14, 15, 16, 17], [0, 1, 2, 3, 4, 5, 6, 7, 8], [0, 1, 2, 3, 4, 5, 6, 7, 8, 19], [0, 1, 2, 3, 4, 5, 6, 7, 8, 14, 15, 16, 17, 18, 19, 20], [0, 1, 2, 3, 4, 5, 6, 7, 8], [0, 1, 2, 3, 4, 5, 6, 7, 8, 14, 15, 16, 17, 18, 19, 20, 21, 22], [0, 1, 2, 3, 4, 5, 6, 7, 8, 12, 13, 14, 15, 16, 17, 18, 19, 20, 21, 22, 23], [0, 1, 2, 3, 4, 5, 6, 7, 8, 12, 13, 14, 15, 16, 17, 18, 19, 20, 21, 22, 23, 24], [0, 1, 2, 3, 4, 5, 6, 7, 8, 11, 12, 13, 14, 15, 16, 17, 18, 19, 20, 21, 22, 23, 24, 25], [0, 1, 2, 3, 4, 5, 6, 7, 8, 11, 12, 13, 14, 15, 16, 17, 18, 19, 20, 21, 22, 23, 24, 25, 26], [0, 1, 2, 3, 4, 5, 6, 7, 8, 11, 12, 13, 14, 15, 16, 17, 18, 19, 20, 21, 22, 23, 24, 25, 26, 27], [0, 1, 2, 3, 4, 5, 6, 7, 8, 9, 10, 11, 12, 13, 14, 15, 16, 17, 18, 19, 20, 21, 22, 23, 24, 25, 26, 27, 28], [0, 1, 2, 3, 4, 5, 6, 7, 8, 9, 10, 11, 12, 13, 14, 15, 16, 17, 18, 19, 20, 21, 22, 23, 24, 25, 26, 27, 28, 29]]) [[0, 1, 2, 3, 4, 5, 6, 7, 8, 9, 10, 11, 12, 13, 14, 15, 16, 17, 18, 19, 20, 21, 22, 23, 24, 25, 26, 27, 28, 29, 30]] (by kernel_rfl) (by kernel_rfl) (NoPanic.seq (NoPanic.block (NoPanic.seq (NoPanic.seq (NoPanic.block (NoPanic.block (NoPanic.seq (NoPanic.seq (NoPanic.block (NoPanic.seq (NoPanic.body))))))))))) ?_
         have hS142 := hS128.drew
         revert hS142
         generalize World.drew w127 = w141
         intro hS142
         refine ⟨⟨hS142.cell 0 rfl 1 rfl, hS142.cell 1 rfl 0 rfl, hS142.cell 0 rfl 2 rfl, hS142.cell 0 rfl 1 rfl, hS142.cell 0 rfl 0 rfl, rowR.cell (hS142.rd 1).1 0 h144.1 h144.2 0 rfl, rowR.cell (hS142.rd 0).1 z_Tile h145.1 h145.2 2 rfl, trivial⟩, forallC ?_ (forallN)⟩
         refine seg 2 [] [0, 2, 4, 11, 12, 13, 195] [(0, (sv Aa p0 ca)), (2, (bv p2)), (4, (pt g5)), (11, (iv x88)), (12, (iv x96)), (13, (pt g106)), (195, (bv p2))] [] (fun fb => by kernel_rfl) rfl trivial ?_
         refine WL.setB 195 h134 rfl ?_
         refine segF 9 [.v (iv p1.Height)] [0, 2, 4, 11, 12, 13, 202] [(0, (sv Aa p0 ca)), (2, (bv p2)), (4, (pt g5)), (11, (iv x88)), (12, (iv x96)), (13, (pt g106)), (202, (bv (decide (w64 (x88 + 1) < p1.Height))))] [] [0] [(5, ⟨g5, 1, none⟩, (iv p1.Height))] (fun fb => by kernel_rfl) rfl trivial rfl ?_
         refine WL.setB 202 h140 rfl ?_
         refine segF 31 [.v (iv ((rdD p0 (rdD p1.Cells (w64 ((w64 (x88 * p1.Width)) + x96)) 0) z_Tile).N)), .v (sv Ab p1.Cells cb), .v (iv p1.Height), .v (iv p1.Width), .v (iv (rdD p1.Cells (w64 ((w64 ((Int.tmod (w64 (x88 + 1)) p1.Height) * p1.Width)) + x96)) 0)), .v (iv ((rdD p0 (rdD p1.Cells (w64 ((w64 ((Int.tmod (w64 (x88 + 1)) p1.Height) * p1.Width)) + x96)) 0) z_Tile).S))] [0, 2, 4, 11, 12, 224] [(0, (sv Aa p0 ca)), (2, (bv p2)), (4, (pt g5)), (11, (iv x88)), (12, (iv x96)), (224, (bv (((rdD p0 (rdD p1.Cells (w64 ((w64 (x88 * p1.Width)) + x96)) 0) z_Tile).N) != ((rdD p0 (rdD p1.Cells (w64 ((w64 ((Int.tmod (w64 (x88 + 1)) p1.Height) * p1.Width)) + x96)) 0) z_Tile).S))))] [.ne p1.Height, .idx Ab (w64 ((w64 ((Int.tmod (w64 (x88 + 1)) p1.Height) * p1.Width)) + x96)) p1.Cells.length, .idx Aa (rdD p1.Cells (w64 ((w64 ((Int.tmod (w64 (x88 + 1)) p1.Height) * p1.Width)) + x96)) 0) p0.length] [1, 2, 3, 4, 5, 6] [(10, ⟨g106, 0, none⟩, (iv ((rdD p0 (rdD p1.Cells (w64 ((w64 (x88 * p1.Width)) + x96)) 0) z_Tile).N))), (13, ⟨g5, 2, none⟩, (sv Ab p1.Cells cb)), (17, ⟨g5, 1, none⟩, (iv p1.Height)), (20, ⟨g5, 0, none⟩, (iv p1.Width)), (25, ((adr Ab).add ((w64 ((w64 ((Int.tmod (w64 (x88 + 1)) p1.Height) * p1.Width)) + x96)).toNat * 1)), (iv (rdD p1.Cells (w64 ((w64 ((Int.tmod (w64 (x88 + 1)) p1.Height) * p1.Width)) + x96)) 0))), (28, (((adr Aa).add (((rdD p1.Cells (w64 ((w64 ((Int.tmod (w64 (x88 + 1)) p1.Height) * p1.Width)) + x96)) 0)).toNat * 4)).add 2), (iv ((rdD p0 (rdD p1.Cells (w64 ((w64 ((Int.tmod (w64 (x88 + 1)) p1.Height) * p1.Width)) + x96)) 0) z_Tile).S)))] (fun fb => by kernel_rfl) rfl ⟨h143, rowR.adr (hS142.rd 1).1 h144.1 h144.2, rowR.adr (hS142.rd 0).1 h145.1 h145.2, trivial⟩ rfl ?_
         refine WL.done rfl ?_
         injection hx133 with hx133
         exact WX.to Kx132 (((rdD p0 (rdD p1.Cells (w64 ((w64 (x88 * p1.Width)) + x96)) 0) z_Tile).N) != ((rdD p0 (rdD p1.Cells (w64 ((w64 ((Int.tmod (w64 (x88 + 1)) p1.Height) * p1.Width)) + x96)) 0) z_Tile).S)) [0, 2, 4, 11, 12, 224] rfl ⟨(hS142.subR [0, 1]).sub [0] (by decide), hx133.symm⟩
        refine WC.regionD ([(5, ⟨g5, 1, none⟩, (iv p1.Height))], [0, 1, 2, 3, 4, 5, 6, 7, 8, 9, 10, 11, 12, 13, 14, 15, 16, 17, 18, 19, 20, 21, 22, 23, 24, 25, 26, 27, 28, 29, 30], [[], [0], [0, 1], [0, 1, 2], [0, 1], [0, 1, 4], [0, 1, 2, 3, 4, 5], [0, 1, 2, 3, 4, 5, 6], [0, 1, 2, 3, 4, 5, 6, 7], [0, 1, 2, 3, 4, 5, 6, 7, 8], [0, 1, 2, 3, 4, 5, 6, 7, 8, 9], [0, 1, 2, 3, 4, 5, 6, 7, 8], [0, 1, 2, 3, 4, 5, 6, 7, 8], [0, 1, 2, 3, 4, 5, 6, 7, 8, 12], [0, 1, 2, 3, 4, 5, 6, 7, 8], [0, 1, 2, 3, 4, 5, 6, 7, 8, 14], [0, 1, 2, 3, 4, 5, 6, 7, 8], [0, 1, 2, 3, 4, 5, 6, 7, 8, 16], [0, 1, 2, 3, 4, 5, 6, 7, 8, 14, 15, 16, 17], [0, 1, 2, 3, 4, 5, 6, 7, 8], [0, 1, 2, 3, 4, 5, 6, 7, 8, 19], [0, 1, 2, 3, 4, 5, 6, 7, 8, 14, 15, 16, 17, 18, 19, 20], [0, 1, 2, 3, 4, 5, 6, 7, 8], [0, 1, 2, 3, 4, 5, 6, 7, 8, 14, 15, 16, 17, 18, 19, 20, 21, 22], [0, 1, 2, 3, 4, 5, 6, 7, 8, 12, 13, 14, 15, 16, 17, 18, 19, 20, 21, 22, 23], [0, 1, 2, 3, 4, 5, 6, 7, 8, 12, 13, 14, 15, 16, 17, 18, 19, 20, 21, 22, 23, 24], [0, 1, 2, 3, 4, 5, 6, 7, 8, 11, 12, 13, 14, 15, 16, 17, 18, 19, 20, 21, 22, 23, 24, 25], [0, 1, 2, 3, 4, 5, 6, 7, 8, 11, 12, 13, 14, 15, 16, 17, 18, 19, 20, 21, 22, 23, 24, 25, 26], [0, 1, 2, 3, 4, 5, 6, 7, 8, 11, 12, 13, 14, 15, 16, 17, 18, 19, 20, 21, 22, 23, 24, 25, 26, 27], [0, 1, 2, 3, 4, 5, 6, 7, 8, 9, 10, 11, 12, 13, 14, 15, 16, 17, 18, 19, 20, 21, 22, 23, 24, 25, 26, 27, 28], [0, 1, 2, 3, 4, 5, 6, 7, 8, 9, 10, 11, 12, 13, 14, 15, 16, 17, 18, 19, 20, 21, 22, 23, 24, 25, 26, 27, 28, 29]]) [[0, 1, 2, 3, 4, 5, 6, 7, 8, 9, 10, 11, 12, 13, 14, 15, 16, 17, 18, 19, 20, 21, 22, 23, 24, 25, 26, 27, 28, 29, 30]] (by kernel_rfl) (by kernel_rfl) (NoPanic.seq (NoPanic.block (NoPanic.seq (NoPanic.seq (NoPanic.block (NoPanic.block (NoPanic.seq (NoPanic.seq (NoPanic.block (NoPanic.seq (NoPanic.body))))))))))) ?_
        have hS147 := hS128.drew
        revert hS147
        generalize World.drew w127 = w146
        intro hS147
        refine ⟨⟨hS147.cell 0 rfl 1 rfl, trivial⟩, forallC ?_ (forallN)⟩
        refine seg 2 [] [0, 2, 4, 11, 12, 13, 195] [(0, (sv Aa p0 ca)), (2, (bv p2)), (4, (pt g5)), (11, (iv x88)), (12, (iv x96)), (13, (pt g106)), (195, (bv p2))] [] (fun fb => by kernel_rfl) rfl trivial ?_
        refine WL.setB 195 h134 rfl ?_
        refine segF 9 [.v (iv p1.Height)] [0, 2, 4, 11, 12, 13, 202] [(0, (sv Aa p0 ca)), (2, (bv p2)), (4, (pt g5)), (11, (iv x88)), (12, (iv x96)), (13, (pt g106)), (202, (bv (decide (w64 (x88 + 1) < p1.Height))))] [] [0] [(5, ⟨g5, 1, none⟩, (iv p1.Height))] (fun fb => by kernel_rfl) rfl trivial rfl ?_
        refine WL.setB 202 h140 rfl ?_
        refine seg 31 [] [0, 2, 4, 11, 12, 224] [(0, (sv Aa p0 ca)), (2, (bv p2)), (4, (pt g5)), (11, (iv x88)), (12, (iv x96)), (224, (bv false))] [] (fun fb => by kernel_rfl) rfl trivial ?_
        refine WL.done rfl ?_
        injection hx133 with hx133
        exact WX.to Kx132 false [0, 2, 4, 11, 12, 224] rfl ⟨(hS147.subR [0, 1]).sub [0] (by decide), hx133.symm⟩
       rintro y151 w148 ⟨hS149, hq150⟩
       subst hq150
       refine WX.next ?_
       rcases br_some hl102 with ⟨h152, hl102⟩ | ⟨h152, hl102⟩
       ·refine WC.condT2 (fun fb => by kernel_rfl) h152 ?_
        refine WC.seq (WC.region ?_)
        refine seg 1 [] [6] [(6, (bv false))] [] (fun fb => by kernel_rfl) rfl trivial ?_
        refine WL.done rfl (WX.next ?_)
        refine WC.ret ?_
        injection hl102 with hl102
        subst hl102
        injection hl94 with hl94
        subst hl94
        injection hf with hf
        subst hf
        exact WX.blockR (WX.thenR (WX.thenR (WX.blockR (WX.blockR (WX.thenR (WX.thenR (WX.blockR (WX.thenR (WX.ret_ [] (bv false) [] (fun fb => by kernel_rfl) trivial ⟨_, rfl, rfl, hS149.keep⟩)))))))))
       refine WC.condF2 (fun fb => by kernel_rfl) h152 ?_
       refine WC.skip ?_
       refine WX.blockN (WX.next ?_)
       refine WC.region ?_
       refine seg 3 [] [0, 2, 4, 11, 12] [(0, (sv Aa p0 ca)), (2, (bv p2)), (4, (pt g5)), (11, (iv x88)), (12, (iv (w64 (x96 + 1))))] [] (fun fb => by kernel_rfl) rfl trivial ?_
       refine WL.done rfl ?_
       exact WX.again k99 (Nat.lt_succ_self _) (w64 (x96 + 1)) [0, 2, 4, 11, 12] rfl ⟨(hS149.subR [0, 1]).sub [0] (by decide), hl102⟩
      refine WC.condF2 (fun fb => by kernel_rfl) h103 ?_
      refine WC.exit ?_
      injection hl102 with hl102
      exact WX.thenX (WX.thenX (WX.blockHere (WX.to Kx97 () [0, 2, 4, 11] rfl ⟨(hS101.subR [0, 1]).sub [0] (by decide), hl102.symm⟩)))
    rintro y156 w153 ⟨hS154, hq155⟩
    subst hq155
    have hl94 := sum_inr hl94
    refine WX.blockN (WX.next ?_)
    refine WC.region ?_
    refine seg 3 [] [0, 2, 4, 11] [(0, (sv Aa p0 ca)), (2, (bv p2)), (4, (pt g5)), (11, (iv (w64 (x88 + 1))))] [] (fun fb => by kernel_rfl) rfl trivial ?_
    refine WL.done rfl ?_
    exact WX.again k91 (Nat.lt_succ_self _) (w64 (x88 + 1)) [0, 2, 4, 11] rfl ⟨(hS154.subR [0, 1]).sub [0] (by decide), hl94⟩
   refine WC.condF2 (fun fb => by kernel_rfl) h95 ?_
   refine WC.exit ?_
   injection hl94 with hl94
   exact WX.thenX (WX.thenX (WX.blockHere (WX.to Kx89 () [] rfl ⟨(hS93.subR [0, 1]).sub [] (by decide), hl94.symm⟩)))
 rintro y160 w157 ⟨hS158, hq159⟩
 subst hq159
 have hf := sum_inr hf
 refine WX.next (WC.seq (WC.region ?_))
 refine seg 1 [] [6] [(6, (bv true))] [] (fun fb => by kernel_rfl) rfl trivial ?_
 refine WL.done rfl (WX.next ?_)
 refine WC.ret ?_
 injection hf with hf
 subst hf
 exact WX.ret_ [] (bv true) [] (fun fb => by kernel_rfl) trivial ⟨_, rfl, rfl, hS158.keep⟩
end Gp
