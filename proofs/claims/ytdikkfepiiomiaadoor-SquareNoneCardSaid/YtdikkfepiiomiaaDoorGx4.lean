/- Walks: each function of the program computes its plain function. -/
import Derived.Test.YtdikkfepiiomiaaDoorGx3
set_option linter.unusedVariables false
set_option linter.unusedSimpArgs false
set_option maxHeartbeats 4000000
namespace Gp
open Go Gw Go.Proofs
theorem torus_Least_calls (k : Nat) (p0 : List Tile) (p1 : Int) (Aa : Option Addr) (ca : Nat) (r : Pattern × Int) (w : World) (hR0 : RO NoS w (rowR enc_Tile Aa ca p0)) (hf : torus_Least k p0 p1 = some r) :
  CallsR Tryd.prog 11 #[(sv Aa p0 ca), (iv p1)] w (fun v w' => ∃ (A1_ : Option Addr), ∃ (c1_ : Nat), v = (.tuple #[(.agg #[(iv r.1.Width), (iv r.1.Height), (sv A1_ r.1.Cells c1_)]), (iv r.2)]) ∧ St NoS w w' [] [rowO 3 encInt A1_ c1_ r.1.Cells]) := by
 have hS : St NoS w w [rowR enc_Tile Aa ca p0] [] := St.init (ro_cons hR0 (ro_nil _ _))
 refine enter 61 Tryd.func11 rfl Tryd.ntmps11 rfl ?_
 unfold torus_Least at hf
 refine WC.seq (WC.region ?_)
 refine WL.new hS 4 [] (fun g => (pt g)) (.cells #[(iv 0), (iv 0), (.slice none 0 0)] 25 (0, 0)) [] (fun fb g => by kernel_rfl) trivial (fun g3 w4 hS5 => ?_)
 refine ⟨trivial, ?_⟩
 refine seg 2 [] [0, 1, 4] [(0, (sv Aa p0 ca)), (1, (iv p1)), (4, (pt g3))] [] (fun fb => by kernel_rfl) rfl trivial ?_
 refine WL.done rfl (WX.next (WC.seq (WC.seq (WC.region ?_))))
 refine seg 1 [] [0, 1, 4, 10] [(0, (sv Aa p0 ca)), (1, (iv p1)), (4, (pt g3)), (10, (sv Aa p0 ca))] [] (fun fb => by kernel_rfl) rfl trivial ?_
 obtain ⟨t6, ht7, hf⟩ := bind_some hf
 refine WL.call (some 11) 22 #[(sv Aa p0 ca)] (fun fb => by kernel_rfl) (tile_Valid_calls _ p0 Aa ca t6 _ (hS5.rd 0) ht7) (fun v w8 hR9 => ?_)
 obtain ⟨rfl, hk_⟩ := hR9
 have hS10 := hS5.keepN hk_
 refine ⟨trivial, ?_⟩
 refine seg 3 [] [0, 1, 4, 12] [(0, (sv Aa p0 ca)), (1, (iv p1)), (4, (pt g3)), (12, (bv (!t6)))] [] (fun fb => by kernel_rfl) rfl trivial ?_
 refine WL.done rfl (WX.next ?_)
 rcases br_some hf with ⟨h12, hf⟩ | ⟨h12, hf⟩
 ·refine WC.condT2 (fun fb => by kernel_rfl) h12 ?_
  refine WC.seq (WC.region ?_)
  refine seg 1 [] [4, 13] [(4, (pt g3)), (13, (.agg #[(iv 0), (iv 0), (.slice none 0 0)]))] [] (fun fb => by kernel_rfl) rfl trivial ?_
  refine WL.store hS10 0 rfl [(0, (iv 0)), (1, (iv 0)), (2, (.slice none 0 0))] #[(iv 0), (iv 0), (.slice none 0 0)] (fun fb => by kernel_rfl) (by kernel_rfl) rfl [] (by decide) (by decide) (fun w13 hS14 => ?_)
  refine ⟨trivial, ?_⟩
  refine seg 3 [] [4, 5] [(4, (pt g3)), (5, (iv 1))] [] (fun fb => by kernel_rfl) rfl trivial ?_
  refine WL.done rfl (WX.next ?_)
  refine WC.ret ?_
  have hS15 := hS14.nilrow 3 encInt
  injection hf with hf
  subst hf
  exact WX.thenR (WX.ret_ [.v (iv 0), .v (iv 0), .v (.slice none 0 0)] (.tuple #[(.agg #[(iv 0), (iv 0), (sv none ([] : List Int) 0)]), (iv 1)]) [.cell ⟨g3, 0, none⟩ (iv 0), .cell ⟨g3, 1, none⟩ (iv 0), .cell ⟨g3, 2, none⟩ (.slice none 0 0)] (fun fb => by kernel_rfl) ⟨hS14.cell 0 rfl 0 rfl, hS14.cell 0 rfl 1 rfl, hS14.cell 0 rfl 2 rfl, trivial⟩ ⟨_, rfl, none, 0, rfl, (hS15.sub [0] (by decide)).noR⟩)
 refine WC.condF2 (fun fb => by kernel_rfl) h12 ?_
 refine WC.skip (WX.next (WC.seq (WC.seq (WC.region ?_))))
 refine seg 3 [] [0, 1, 4, 16] [(0, (sv Aa p0 ca)), (1, (iv p1)), (4, (pt g3)), (16, (bv (decide (p1 < 1))))] [] (fun fb => by kernel_rfl) rfl trivial ?_
 refine WL.cutV (T := Bool) 6 (fun t => [(19, (bv t)), (0, (sv Aa p0 ca)), (1, (iv p1)), (4, (pt g3))]) (fun t => ((decide (p1 < 1)) || (decide (p1 > 6))) = t) (fun K => ?_) ?_
 ·
  rcases Bool.eq_false_or_eq_true (decide (p1 < 1)) with h16 | h16
  ·
   refine WL.setB 16 h16 rfl ?_
   refine seg 6 [] [0, 1, 4, 19] [(0, (sv Aa p0 ca)), (1, (iv p1)), (4, (pt g3)), (19, (bv true))] [] (fun fb => by kernel_rfl) rfl trivial ?_
   exact WL.toV K true [19, 0, 1, 4] rfl (by first | (rw [h16]; done) | (rw [h16]; rfl))
  refine WL.setB 16 h16 rfl ?_
  refine seg 6 [] [0, 1, 4, 19] [(0, (sv Aa p0 ca)), (1, (iv p1)), (4, (pt g3)), (19, (bv (decide (p1 > 6))))] [] (fun fb => by kernel_rfl) rfl trivial ?_
  exact WL.toV K (decide (p1 > 6)) [19, 0, 1, 4] rfl (by first | (rw [h16]; done) | (rw [h16]; rfl))
 rintro b17 rfl
 refine WL.done rfl (WX.next ?_)
 rcases br_some hf with ⟨h18, hf⟩ | ⟨h18, hf⟩
 ·refine WC.condT2 (fun fb => by kernel_rfl) h18 ?_
  refine WC.seq (WC.region ?_)
  refine seg 1 [] [4, 20] [(4, (pt g3)), (20, (.agg #[(iv 0), (iv 0), (.slice none 0 0)]))] [] (fun fb => by kernel_rfl) rfl trivial ?_
  refine WL.store hS10 0 rfl [(0, (iv 0)), (1, (iv 0)), (2, (.slice none 0 0))] #[(iv 0), (iv 0), (.slice none 0 0)] (fun fb => by kernel_rfl) (by kernel_rfl) rfl [] (by decide) (by decide) (fun w19 hS20 => ?_)
  refine ⟨trivial, ?_⟩
  refine seg 3 [] [4, 5] [(4, (pt g3)), (5, (iv 2))] [] (fun fb => by kernel_rfl) rfl trivial ?_
  refine WL.done rfl (WX.next ?_)
  refine WC.ret ?_
  have hS21 := hS20.nilrow 3 encInt
  injection hf with hf
  subst hf
  exact WX.thenR (WX.ret_ [.v (iv 0), .v (iv 0), .v (.slice none 0 0)] (.tuple #[(.agg #[(iv 0), (iv 0), (sv none ([] : List Int) 0)]), (iv 2)]) [.cell ⟨g3, 0, none⟩ (iv 0), .cell ⟨g3, 1, none⟩ (iv 0), .cell ⟨g3, 2, none⟩ (.slice none 0 0)] (fun fb => by kernel_rfl) ⟨hS20.cell 0 rfl 0 rfl, hS20.cell 0 rfl 1 rfl, hS20.cell 0 rfl 2 rfl, trivial⟩ ⟨_, rfl, none, 0, rfl, (hS21.sub [0] (by decide)).noR⟩)
 refine WC.condF2 (fun fb => by kernel_rfl) h18 ?_
 refine WC.skip (WX.next (WC.seq (WC.seq (WC.region ?_))))
 refine seg 2 [] [0, 1, 4, 21, 22] [(0, (sv Aa p0 ca)), (1, (iv p1)), (4, (pt g3)), (21, (sv Aa p0 ca)), (22, (iv p1))] [] (fun fb => by kernel_rfl) rfl trivial ?_
 obtain ⟨t22, ht23, hf⟩ := bind_some hf
 refine WL.call (some 23) 23 #[(sv Aa p0 ca), (iv p1)] (fun fb => by kernel_rfl) (rows_Few_calls _ p0 p1 Aa ca t22 _ (hS10.rd 0) ht23) (fun v w24 hR25 => ?_)
 obtain ⟨rfl, hk_⟩ := hR25
 have hS26 := hS10.keepN hk_
 refine ⟨trivial, ?_⟩
 refine seg 4 [] [0, 1, 4, 24] [(0, (sv Aa p0 ca)), (1, (iv p1)), (4, (pt g3)), (24, (bv (!t22)))] [] (fun fb => by kernel_rfl) rfl trivial ?_
 refine WL.done rfl (WX.next ?_)
 rcases br_some hf with ⟨h27, hf⟩ | ⟨h27, hf⟩
 ·refine WC.condT2 (fun fb => by kernel_rfl) h27 ?_
  refine WC.seq (WC.region ?_)
  refine seg 1 [] [4, 25] [(4, (pt g3)), (25, (.agg #[(iv 0), (iv 0), (.slice none 0 0)]))] [] (fun fb => by kernel_rfl) rfl trivial ?_
  refine WL.store hS26 0 rfl [(0, (iv 0)), (1, (iv 0)), (2, (.slice none 0 0))] #[(iv 0), (iv 0), (.slice none 0 0)] (fun fb => by kernel_rfl) (by kernel_rfl) rfl [] (by decide) (by decide) (fun w28 hS29 => ?_)
  refine ⟨trivial, ?_⟩
  refine seg 3 [] [4, 5] [(4, (pt g3)), (5, (iv 4))] [] (fun fb => by kernel_rfl) rfl trivial ?_
  refine WL.done rfl (WX.next ?_)
  refine WC.ret ?_
  have hS30 := hS29.nilrow 3 encInt
  injection hf with hf
  subst hf
  exact WX.thenR (WX.ret_ [.v (iv 0), .v (iv 0), .v (.slice none 0 0)] (.tuple #[(.agg #[(iv 0), (iv 0), (sv none ([] : List Int) 0)]), (iv 4)]) [.cell ⟨g3, 0, none⟩ (iv 0), .cell ⟨g3, 1, none⟩ (iv 0), .cell ⟨g3, 2, none⟩ (.slice none 0 0)] (fun fb => by kernel_rfl) ⟨hS29.cell 0 rfl 0 rfl, hS29.cell 0 rfl 1 rfl, hS29.cell 0 rfl 2 rfl, trivial⟩ ⟨_, rfl, none, 0, rfl, (hS30.sub [0] (by decide)).noR⟩)
 refine WC.condF2 (fun fb => by kernel_rfl) h27 ?_
 refine WC.skip (WX.next (WC.seq (WC.seq (WC.region ?_))))
 refine seg 1 [] [0, 1, 4, 6] [(0, (sv Aa p0 ca)), (1, (iv p1)), (4, (pt g3)), (6, (iv 1))] [] (fun fb => by kernel_rfl) rfl trivial ?_
 refine WL.done rfl (WX.next ?_)
 obtain ⟨x32, hx33, hf⟩ := bind_some hf
 refine WC.cutN (T := Unit) (fun t => [(4, (pt g3))]) (fun t w1 => St NoS w w1 [rowR enc_Tile Aa ca p0] [blk g3 (.cells #[(iv 0), (iv 0), (.slice none 0 0)] 25 (0, 0))] ∧ x32 = .inr t) (fun Kx32 => ?_) ?_
 ·
  refine WC.block ?_
  refine WC.loop (T := Int) (fun t => [(0, (sv Aa p0 ca)), (1, (iv p1)), (4, (pt g3)), (6, (iv t))]) (fun n t w1 => St NoS w w1 [rowR enc_Tile Aa ca p0] [blk g3 (.cells #[(iv 0), (iv 0), (.slice none 0 0)] 25 (0, 0))] ∧ torus_Least.l0 n t p0 p1 = some x32) k 1 [0, 1, 4, 6] rfl ⟨(hS26.subR [0]).sub [0] (by decide), hx33⟩ ?_
  rintro k34 x31 w35 ⟨hS36, hl37⟩
  cases k34 with
  | zero => rw [torus_Least.l0] at hl37; cases hl37
  | succ k34 =>
   rw [torus_Least.l0] at hl37
   refine WC.seq (WC.seq (WC.region ?_))
   refine seg 5 [] [0, 1, 4, 6, 30] [(0, (sv Aa p0 ca)), (1, (iv p1)), (4, (pt g3)), (6, (iv x31)), (30, (bv (decide (x31 ≤ w64 (p1 * p1)))))] [] (fun fb => by kernel_rfl) rfl trivial ?_
   refine WL.done rfl (WX.next ?_)
   rcases br_some hl37 with ⟨h38, hl37⟩ | ⟨h38, hl37⟩
   ·refine WC.condT2 (fun fb => by kernel_rfl) h38 ?_
    refine WC.skip (WX.next (WC.seq (WC.block (WC.seq (WC.region ?_)))))
    refine seg 1 [] [0, 1, 4, 6, 7] [(0, (sv Aa p0 ca)), (1, (iv p1)), (4, (pt g3)), (6, (iv x31)), (7, (iv 1))] [] (fun fb => by kernel_rfl) rfl trivial ?_
    refine WL.done rfl (WX.next ?_)
    obtain ⟨x40, hx41, hl37⟩ := bind_some hl37
    refine WC.cutN (T := Unit) (fun t => [(0, (sv Aa p0 ca)), (1, (iv p1)), (4, (pt g3)), (6, (iv x31))]) (fun t w1 => St NoS w w1 [rowR enc_Tile Aa ca p0] [blk g3 (.cells #[(iv 0), (iv 0), (.slice none 0 0)] 25 (0, 0))] ∧ x40 = .inr t) (fun Kx40 => ?_) ?_
    ·
     refine WC.block ?_
     refine WC.loop (T := Int) (fun t => [(0, (sv Aa p0 ca)), (1, (iv p1)), (4, (pt g3)), (6, (iv x31)), (7, (iv t))]) (fun n t w1 => St NoS w w1 [rowR enc_Tile Aa ca p0] [blk g3 (.cells #[(iv 0), (iv 0), (.slice none 0 0)] 25 (0, 0))] ∧ torus_Least.l1 n t p0 p1 x31 = some x40) k34 1 [0, 1, 4, 6, 7] rfl ⟨(hS36.subR [0]).sub [0] (by decide), hx41⟩ ?_
     rintro k42 x39 w43 ⟨hS44, hl45⟩
     cases k42 with
     | zero => rw [torus_Least.l1] at hl45; cases hl45
     | succ k42 =>
      rw [torus_Least.l1] at hl45
      refine WC.seq (WC.seq (WC.region ?_))
      refine seg 3 [] [0, 1, 4, 6, 7, 35] [(0, (sv Aa p0 ca)), (1, (iv p1)), (4, (pt g3)), (6, (iv x31)), (7, (iv x39)), (35, (bv (decide (x39 ≤ p1))))] [] (fun fb => by kernel_rfl) rfl trivial ?_
      refine WL.done rfl (WX.next ?_)
      rcases br_some hl45 with ⟨h46, hl45⟩ | ⟨h46, hl45⟩
      ·refine WC.condT2 (fun fb => by kernel_rfl) h46 ?_
       refine WC.skip (WX.next (WC.seq ?_))
       obtain ⟨x47, hx48, hl45⟩ := bind_some hl45
       refine WC.cutN (T := Unit) (fun t => [(0, (sv Aa p0 ca)), (1, (iv p1)), (4, (pt g3)), (6, (iv x31)), (7, (iv x39))]) (fun t w1 => St NoS w w1 [rowR enc_Tile Aa ca p0] [blk g3 (.cells #[(iv 0), (iv 0), (.slice none 0 0)] 25 (0, 0))] ∧ x47 = .inr t) (fun Kx47 => ?_) ?_
       ·
        refine WC.block (WC.seq (WC.seq (WC.region ?_)))
        refine seg 2 [] [0, 1, 4, 6, 7, 38, 39] [(0, (sv Aa p0 ca)), (1, (iv p1)), (4, (pt g3)), (6, (iv x31)), (7, (iv x39)), (38, (iv x31)), (39, (iv x39))] [] (fun fb => by kernel_rfl) rfl trivial ?_
        obtain ⟨h49, hx48⟩ := as_some hx48
        refine seg 5 [] [0, 1, 4, 6, 7, 42] [(0, (sv Aa p0 ca)), (1, (iv p1)), (4, (pt g3)), (6, (iv x31)), (7, (iv x39)), (42, (bv ((Int.tmod x31 x39) != 0)))] [.ne x39] (fun fb => by kernel_rfl) rfl ⟨h49, trivial⟩ ?_
        refine WL.cutV (T := Bool) 11 (fun t => [(48, (bv t)), (0, (sv Aa p0 ca)), (1, (iv p1)), (4, (pt g3)), (6, (iv x31)), (7, (iv x39))]) (fun t => (((Int.tmod x31 x39) != 0) || (decide (w64 (Int.tdiv x31 x39) > p1))) = t) (fun K => ?_) ?_
        ·
         rcases Bool.eq_false_or_eq_true ((Int.tmod x31 x39) != 0) with h50 | h50
         ·
          refine WL.setB 42 h50 rfl ?_
          refine seg 11 [] [0, 1, 4, 6, 7, 48] [(0, (sv Aa p0 ca)), (1, (iv p1)), (4, (pt g3)), (6, (iv x31)), (7, (iv x39)), (48, (bv true))] [] (fun fb => by kernel_rfl) rfl trivial ?_
          exact WL.toV K true [48, 0, 1, 4, 6, 7] rfl (by first | (rw [h50]; done) | (rw [h50]; rfl))
         refine WL.setB 42 h50 rfl ?_
         refine seg 11 [] [0, 1, 4, 6, 7, 48] [(0, (sv Aa p0 ca)), (1, (iv p1)), (4, (pt g3)), (6, (iv x31)), (7, (iv x39)), (48, (bv (decide (w64 (Int.tdiv x31 x39) > p1))))] [.ne x39] (fun fb => by kernel_rfl) rfl ⟨h49, trivial⟩ ?_
         exact WL.toV K (decide (w64 (Int.tdiv x31 x39) > p1)) [48, 0, 1, 4, 6, 7] rfl (by first | (rw [h50]; done) | (rw [h50]; rfl))
        rintro b51 rfl
        refine WL.done rfl (WX.next ?_)
        rcases br_some hx48 with ⟨h52, hx48⟩ | ⟨h52, hx48⟩
        ·refine WC.condT2 (fun fb => by kernel_rfl) h52 ?_
         refine WC.exit ?_
         injection hx48 with hx48
         exact WX.thenX (WX.blockHere (WX.to Kx47 () [0, 1, 4, 6, 7] rfl ⟨(hS44.subR [0]).sub [0] (by decide), hx48.symm⟩))
        refine WC.condF2 (fun fb => by kernel_rfl) h52 ?_
        refine WC.skip (WX.next (WC.seq (WC.region ?_)))
        refine seg 5 [] [0, 1, 4, 6, 7, 50, 51, 54] [(0, (sv Aa p0 ca)), (1, (iv p1)), (4, (pt g3)), (6, (iv x31)), (7, (iv x39)), (50, (sv Aa p0 ca)), (51, (iv x39)), (54, (iv (w64 (Int.tdiv x31 x39))))] [.ne x39] (fun fb => by kernel_rfl) rfl ⟨h49, trivial⟩ ?_
        obtain ⟨t53, ht54, hx48⟩ := bind_some hx48
        refine WL.call (some 55) 24 #[(sv Aa p0 ca), (iv x39), (iv (w64 (Int.tdiv x31 x39)))] (fun fb => by kernel_rfl) (torus_find_calls _ p0 x39 (w64 (Int.tdiv x31 x39)) Aa ca t53 _ (hS44.rd 0) ht54) (fun v w55 hR56 => ?_)
        obtain ⟨A58, c59, rfl, hk_⟩ := hR56
        have hS57 := hS.go w55 [rowO 3 encInt A58 c59 t53.1.Cells, blk g3 (.cells #[(iv 0), (iv 0), (.slice none 0 0)] 25 (0, 0))] (hS44.call hk_ [] [0] (fun g hg => hg.elim) (by simp) (by decide))
        refine ⟨trivial, ?_⟩
        refine seg 9 [] [0, 1, 4, 6, 7, 56, 57] [(0, (sv Aa p0 ca)), (1, (iv p1)), (4, (pt g3)), (6, (iv x31)), (7, (iv x39)), (56, (.agg #[(iv t53.1.Width), (iv t53.1.Height), (sv A58 t53.1.Cells c59)])), (57, (bv t53.2))] [] (fun fb => by kernel_rfl) rfl trivial ?_
        refine WL.new hS57 8 [] (fun g => (pt g)) (.cells #[(iv 0), (iv 0), (.slice none 0 0)] 25 (0, 0)) [] (fun fb g => by kernel_rfl) trivial (fun g60 w61 hS62 => ?_)
        refine ⟨trivial, ?_⟩
        refine WL.store hS62 0 rfl [(0, (iv t53.1.Width)), (1, (iv t53.1.Height)), (2, (sv A58 t53.1.Cells c59))] #[(iv t53.1.Width), (iv t53.1.Height), (sv A58 t53.1.Cells c59)] (fun fb => by kernel_rfl) (by kernel_rfl) rfl [1, 2] (by decide) (by decide) (fun w63 hS65 => ?_)
        refine ⟨trivial, ?_⟩
        refine seg 12 [] [0, 1, 4, 6, 7, 8, 9] [(0, (sv Aa p0 ca)), (1, (iv p1)), (4, (pt g3)), (6, (iv x31)), (7, (iv x39)), (8, (pt g60)), (9, (bv t53.2))] [] (fun fb => by kernel_rfl) rfl trivial ?_
        refine WL.done rfl (WX.next (WC.seq (WC.region ?_)))
        refine seg 1 [] [0, 1, 4, 6, 7, 8, 58] [(0, (sv Aa p0 ca)), (1, (iv p1)), (4, (pt g3)), (6, (iv x31)), (7, (iv x39)), (8, (pt g60)), (58, (bv t53.2))] [] (fun fb => by kernel_rfl) rfl trivial ?_
        refine WL.done rfl (WX.next ?_)
        rcases br_some hx48 with ⟨h66, hx48⟩ | ⟨h66, hx48⟩
        ·refine WC.condT2 (fun fb => by kernel_rfl) h66 ?_
         refine WC.seq (WC.region ?_)
         refine seg 1 [.v (iv t53.1.Width), .v (iv t53.1.Height), .v (sv A58 t53.1.Cells c59)] [4, 59] [(4, (pt g3)), (59, (.agg #[(iv t53.1.Width), (iv t53.1.Height), (sv A58 t53.1.Cells c59)]))] [.cell ⟨g60, 0, none⟩ (iv t53.1.Width), .cell ⟨g60, 1, none⟩ (iv t53.1.Height), .cell ⟨g60, 2, none⟩ (sv A58 t53.1.Cells c59)] (fun fb => by kernel_rfl) rfl ⟨hS65.cell 0 rfl 0 rfl, hS65.cell 0 rfl 1 rfl, hS65.cell 0 rfl 2 rfl, trivial⟩ ?_
         refine WL.store hS65 2 rfl [(0, (iv t53.1.Width)), (1, (iv t53.1.Height)), (2, (sv A58 t53.1.Cells c59))] #[(iv t53.1.Width), (iv t53.1.Height), (sv A58 t53.1.Cells c59)] (fun fb => by kernel_rfl) (by kernel_rfl) rfl [0, 1] (by decide) (by decide) (fun w67 hS68 => ?_)
         refine ⟨trivial, ?_⟩
         refine seg 3 [] [4, 5] [(4, (pt g3)), (5, (iv 0))] [] (fun fb => by kernel_rfl) rfl trivial ?_
         refine WL.done rfl (WX.next ?_)
         refine WC.ret ?_
         injection hx48 with hx48
         subst hx48
         injection hl45 with hl45
         subst hl45
         injection hl37 with hl37
         subst hl37
         injection hf with hf
         subst hf
         exact WX.blockR (WX.thenR (WX.thenR (WX.blockR (WX.blockR (WX.thenR (WX.thenR (WX.blockR (WX.thenR (WX.ret_ [.v (iv t53.1.Width), .v (iv t53.1.Height), .v (sv A58 t53.1.Cells c59)] (.tuple #[(.agg #[(iv t53.1.Width), (iv t53.1.Height), (sv A58 t53.1.Cells c59)]), (iv 0)]) [.cell ⟨g3, 0, none⟩ (iv t53.1.Width), .cell ⟨g3, 1, none⟩ (iv t53.1.Height), .cell ⟨g3, 2, none⟩ (sv A58 t53.1.Cells c59)] (fun fb => by kernel_rfl) ⟨hS68.cell 0 rfl 0 rfl, hS68.cell 0 rfl 1 rfl, hS68.cell 0 rfl 2 rfl, trivial⟩ ⟨_, rfl, A58, c59, rfl, (hS68.sub [2] (by decide)).noR⟩)))))))))
        refine WC.condF2 (fun fb => by kernel_rfl) h66 ?_
        refine WC.skip ?_
        injection hx48 with hx48
        exact WX.blockN (WX.to Kx47 () [0, 1, 4, 6, 7] rfl ⟨(hS65.subR [0]).sub [2] (by decide), hx48.symm⟩)
       rintro y72 w69 ⟨hS70, hq71⟩
       subst hq71
       have hl45 := sum_inr hl45
       refine WX.next (WC.region ?_)
       refine seg 3 [] [0, 1, 4, 6, 7] [(0, (sv Aa p0 ca)), (1, (iv p1)), (4, (pt g3)), (6, (iv x31)), (7, (iv (w64 (x39 + 1))))] [] (fun fb => by kernel_rfl) rfl trivial ?_
       refine WL.done rfl ?_
       exact WX.again k42 (Nat.lt_succ_self _) (w64 (x39 + 1)) [0, 1, 4, 6, 7] rfl ⟨(hS70.subR [0]).sub [0] (by decide), hl45⟩
      refine WC.condF2 (fun fb => by kernel_rfl) h46 ?_
      refine WC.exit ?_
      injection hl45 with hl45
      exact WX.thenX (WX.thenX (WX.blockHere (WX.to Kx40 () [0, 1, 4, 6] rfl ⟨(hS44.subR [0]).sub [0] (by decide), hl45.symm⟩)))
    rintro y76 w73 ⟨hS74, hq75⟩
    subst hq75
    have hl37 := sum_inr hl37
    refine WX.blockN (WX.next ?_)
    refine WC.region ?_
    refine seg 3 [] [0, 1, 4, 6] [(0, (sv Aa p0 ca)), (1, (iv p1)), (4, (pt g3)), (6, (iv (w64 (x31 + 1))))] [] (fun fb => by kernel_rfl) rfl trivial ?_
    refine WL.done rfl ?_
    exact WX.again k34 (Nat.lt_succ_self _) (w64 (x31 + 1)) [0, 1, 4, 6] rfl ⟨(hS74.subR [0]).sub [0] (by decide), hl37⟩
   refine WC.condF2 (fun fb => by kernel_rfl) h38 ?_
   refine WC.exit ?_
   injection hl37 with hl37
   exact WX.thenX (WX.thenX (WX.blockHere (WX.to Kx32 () [4] rfl ⟨(hS36.subR [0]).sub [0] (by decide), hl37.symm⟩)))
 rintro y80 w77 ⟨hS78, hq79⟩
 subst hq79
 have hf := sum_inr hf
 refine WX.next (WC.seq (WC.region ?_))
 refine seg 1 [] [4, 60] [(4, (pt g3)), (60, (.agg #[(iv 0), (iv 0), (.slice none 0 0)]))] [] (fun fb => by kernel_rfl) rfl trivial ?_
 refine WL.store hS78 0 rfl [(0, (iv 0)), (1, (iv 0)), (2, (.slice none 0 0))] #[(iv 0), (iv 0), (.slice none 0 0)] (fun fb => by kernel_rfl) (by kernel_rfl) rfl [] (by decide) (by decide) (fun w81 hS82 => ?_)
 refine ⟨trivial, ?_⟩
 refine seg 3 [] [4, 5] [(4, (pt g3)), (5, (iv 6))] [] (fun fb => by kernel_rfl) rfl trivial ?_
 refine WL.done rfl (WX.next ?_)
 refine WC.ret ?_
 have hS83 := hS82.nilrow 3 encInt
 injection hf with hf
 subst hf
 exact WX.ret_ [.v (iv 0), .v (iv 0), .v (.slice none 0 0)] (.tuple #[(.agg #[(iv 0), (iv 0), (sv none ([] : List Int) 0)]), (iv 6)]) [.cell ⟨g3, 0, none⟩ (iv 0), .cell ⟨g3, 1, none⟩ (iv 0), .cell ⟨g3, 2, none⟩ (.slice none 0 0)] (fun fb => by kernel_rfl) ⟨hS82.cell 0 rfl 0 rfl, hS82.cell 0 rfl 1 rfl, hS82.cell 0 rfl 2 rfl, trivial⟩ ⟨_, rfl, none, 0, rfl, (hS83.sub [0] (by decide)).noR⟩
theorem law05_SquareNone_calls (k : Nat) (p0 : List Tile) (p1 : Pattern) (p2 : Int) (Aa : Option Addr) (ca : Nat) (Ab : Option Addr) (cb : Nat) (mG : Int) (r : Bool) (w : World) (hR0 : RO NoS w (rowR enc_Tile Aa ca p0)) (hR1 : RO NoS w (rowR encInt Ab cb p1.Cells)) (hR2 : RO NoS w (cel ⟨2, 0, none⟩ (iv mG))) (hf : law05_SquareNone k p0 p1 p2 = some r) :
  CallsR Tryd.prog 3 #[(sv Aa p0 ca), (.agg #[(iv p1.Width), (iv p1.Height), (sv Ab p1.Cells cb)]), (.int .u8 p2)] w (fun v w' => v = (bv r) ∧ Keeps NoS w w') := by
 have hS : St NoS w w [rowR enc_Tile Aa ca p0, rowR encInt Ab cb p1.Cells, cel ⟨2, 0, none⟩ (iv mG)] [] := St.init (ro_cons hR0 (ro_cons hR1 (ro_cons hR2 (ro_nil _ _))))
 refine enter 87 Tryd.func3 rfl Tryd.ntmps3 rfl ?_
 unfold law05_SquareNone at hf
 refine WC.seq (WC.region ?_)
 refine WL.new hS 4 [] (fun g => (pt g)) (.cells #[(iv p1.Width), (iv p1.Height), (sv Ab p1.Cells cb)] 25 (0, 0)) [] (fun fb g => by kernel_rfl) trivial (fun g1 w2 hS3 => ?_)
 refine ⟨trivial, ?_⟩
 refine seg 2 [] [0, 2, 4] [(0, (sv Aa p0 ca)), (2, (.int .u8 p2)), (4, (pt g1))] [] (fun fb => by kernel_rfl) rfl trivial ?_
 refine WL.done rfl (WX.next (WC.seq (WC.region ?_)))
 refine seg 5 [] [0, 4, 7] [(0, (sv Aa p0 ca)), (4, (pt g1)), (7, (iv (w64 (1 + (Int.tmod (w64 (p2)) 8)))))] [.ne 8] (fun fb => by kernel_rfl) rfl ⟨(by decide), trivial⟩ ?_
 refine WL.done rfl (WX.next (WC.seq (WC.seq (WC.region ?_))))
 refine seg 4 [] [0, 4, 7, 19] [(0, (sv Aa p0 ca)), (4, (pt g1)), (7, (iv (w64 (1 + (Int.tmod (w64 (p2)) 8))))), (19, (bv (decide ((p0.length : Int) > 60))))] [] (fun fb => by kernel_rfl) rfl trivial ?_
 obtain ⟨x4, hx6, hf⟩ := bind_some hf
 refine WL.cutW (T := Bool) 8 (fun t => [(0, (sv Aa p0 ca)), (4, (pt g1)), (7, (iv (w64 (1 + (Int.tmod (w64 (p2)) 8))))), (23, (bv t))]) (fun t w1 => (St NoS w w1 [rowR enc_Tile Aa ca p0, rowR encInt Ab cb p1.Cells, cel ⟨2, 0, none⟩ (iv mG)] [blk g1 (.cells #[(iv p1.Width), (iv p1.Height), (sv Ab p1.Cells cb)] 25 (0, 0))] ∧ x4 = t) ∧ CellsOK [] w1) (fun K => ?_) ?_
 ·
  rcases br_some hx6 with ⟨h7, hx6⟩ | ⟨h7, hx6⟩
  ·
   refine WL.setB 19 h7 rfl ?_
   refine seg 8 [] [0, 4, 7, 23] [(0, (sv Aa p0 ca)), (4, (pt g1)), (7, (iv (w64 (1 + (Int.tmod (w64 (p2)) 8))))), (23, (bv true))] [] (fun fb => by kernel_rfl) rfl trivial ?_
   injection hx6 with hx6
   exact WL.to K true [0, 4, 7, 23] rfl ⟨⟨(hS3.subR [0, 1, 2]).sub [0] (by decide), hx6.symm⟩, trivial⟩
  refine WL.setB 19 h7 rfl ?_
  refine seg 5 [] [0, 4, 7, 19, 20] [(0, (sv Aa p0 ca)), (4, (pt g1)), (7, (iv (w64 (1 + (Int.tmod (w64 (p2)) 8))))), (19, (bv false)), (20, (sv Aa p0 ca))] [] (fun fb => by kernel_rfl) rfl trivial ?_
  obtain ⟨t9, ht10, hx6⟩ := bind_some hx6
  refine WL.call (some 21) 4 #[(sv Aa p0 ca)] (fun fb => by kernel_rfl) (ref01_Valid_calls _ p0 Aa ca t9 _ (hS3.rd 0) ht10) (fun v w11 hR12 => ?_)
  obtain ⟨rfl, hk_⟩ := hR12
  have hS13 := hS3.keepN hk_
  refine ⟨trivial, ?_⟩
  refine seg 8 [] [0, 4, 7, 23] [(0, (sv Aa p0 ca)), (4, (pt g1)), (7, (iv (w64 (1 + (Int.tmod (w64 (p2)) 8))))), (23, (bv (!t9)))] [] (fun fb => by kernel_rfl) rfl trivial ?_
  injection hx6 with hx6
  exact WL.to K (!t9) [0, 4, 7, 23] rfl ⟨⟨(hS13.subR [0, 1, 2]).sub [0] (by decide), hx6.symm⟩, trivial⟩
 rintro y14 w16 ⟨⟨hS17, hq15⟩, hF18⟩
 subst hq15
 refine seg 9 [] [0, 4, 7, 24] [(0, (sv Aa p0 ca)), (4, (pt g1)), (7, (iv (w64 (1 + (Int.tmod (w64 (p2)) 8))))), (24, (bv x4))] [] (fun fb => by kernel_rfl) rfl trivial ?_
 refine WL.cutV (T := Bool) 14 (fun t => [(29, (bv t)), (0, (sv Aa p0 ca)), (4, (pt g1)), (7, (iv (w64 (1 + (Int.tmod (w64 (p2)) 8)))))]) (fun t => (x4 || (decide ((p1.Cells.length : Int) > 2000))) = t) (fun K => ?_) ?_
 ·
  rcases Bool.eq_false_or_eq_true x4 with h19 | h19
  ·
   refine WL.setB 24 h19 rfl ?_
   refine seg 14 [] [0, 4, 7, 29] [(0, (sv Aa p0 ca)), (4, (pt g1)), (7, (iv (w64 (1 + (Int.tmod (w64 (p2)) 8))))), (29, (bv true))] [] (fun fb => by kernel_rfl) rfl trivial ?_
   exact WL.toV K true [29, 0, 4, 7] rfl (by first | (rw [h19]; done) | (rw [h19]; rfl))
  refine WL.setB 24 h19 rfl ?_
  refine seg 14 [.v (sv Ab p1.Cells cb)] [0, 4, 7, 29] [(0, (sv Aa p0 ca)), (4, (pt g1)), (7, (iv (w64 (1 + (Int.tmod (w64 (p2)) 8))))), (29, (bv (decide ((p1.Cells.length : Int) > 2000))))] [.cell ⟨g1, 2, none⟩ (sv Ab p1.Cells cb)] (fun fb => by kernel_rfl) rfl ⟨hS17.cell 0 rfl 2 rfl, trivial⟩ ?_
  exact WL.toV K (decide ((p1.Cells.length : Int) > 2000)) [29, 0, 4, 7] rfl (by first | (rw [h19]; done) | (rw [h19]; rfl))
 rintro b20 rfl
 refine seg 15 [] [0, 4, 7, 30] [(0, (sv Aa p0 ca)), (4, (pt g1)), (7, (iv (w64 (1 + (Int.tmod (w64 (p2)) 8))))), (30, (bv (x4 || (decide ((p1.Cells.length : Int) > 2000)))))] [] (fun fb => by kernel_rfl) rfl trivial ?_
 obtain ⟨x21, hx22, hf⟩ := bind_some hf
 refine WL.cutW (T := Bool) 19 (fun t => [(0, (sv Aa p0 ca)), (4, (pt g1)), (7, (iv (w64 (1 + (Int.tmod (w64 (p2)) 8))))), (34, (bv t))]) (fun t w1 => (St NoS w w1 [rowR enc_Tile Aa ca p0, rowR encInt Ab cb p1.Cells, cel ⟨2, 0, none⟩ (iv mG)] [blk g1 (.cells #[(iv p1.Width), (iv p1.Height), (sv Ab p1.Cells cb)] 25 (0, 0))] ∧ x21 = t) ∧ CellsOK [] w1) (fun K => ?_) ?_
 ·
  rcases br_some hx22 with ⟨h23, hx22⟩ | ⟨h23, hx22⟩
  ·
   refine WL.setB 30 h23 rfl ?_
   refine seg 19 [] [0, 4, 7, 34] [(0, (sv Aa p0 ca)), (4, (pt g1)), (7, (iv (w64 (1 + (Int.tmod (w64 (p2)) 8))))), (34, (bv true))] [] (fun fb => by kernel_rfl) rfl trivial ?_
   injection hx22 with hx22
   exact WL.to K true [0, 4, 7, 34] rfl ⟨⟨(hS17.subR [0, 1, 2]).sub [0] (by decide), hx22.symm⟩, trivial⟩
  refine WL.setB 30 h23 rfl ?_
  refine seg 17 [] [0, 4, 7, 30, 31, 32] [(0, (sv Aa p0 ca)), (4, (pt g1)), (7, (iv (w64 (1 + (Int.tmod (w64 (p2)) 8))))), (30, (bv false)), (31, (sv Aa p0 ca)), (32, (iv (w64 (1 + (Int.tmod (w64 (p2)) 8)))))] [] (fun fb => by kernel_rfl) rfl trivial ?_
  obtain ⟨t24, ht25, hx22⟩ := bind_some hx22
  refine WL.call (some 33) 5 #[(sv Aa p0 ca), (iv (w64 (1 + (Int.tmod (w64 (p2)) 8))))] (fun fb => by kernel_rfl) (ref02_Great_calls _ p0 (w64 (1 + (Int.tmod (w64 (p2)) 8))) Aa ca t24 _ (hS17.rd 0) ht25) (fun v w26 hR27 => ?_)
  obtain ⟨rfl, hk_⟩ := hR27
  have hS28 := hS17.keepN hk_
  refine ⟨trivial, ?_⟩
  refine seg 19 [] [0, 4, 7, 34] [(0, (sv Aa p0 ca)), (4, (pt g1)), (7, (iv (w64 (1 + (Int.tmod (w64 (p2)) 8))))), (34, (bv t24))] [] (fun fb => by kernel_rfl) rfl trivial ?_
  injection hx22 with hx22
  exact WL.to K t24 [0, 4, 7, 34] rfl ⟨⟨(hS28.subR [0, 1, 2]).sub [0] (by decide), hx22.symm⟩, trivial⟩
 rintro y29 w31 ⟨⟨hS32, hq30⟩, hF33⟩
 subst hq30
 refine seg 20 [] [0, 4, 7, 35] [(0, (sv Aa p0 ca)), (4, (pt g1)), (7, (iv (w64 (1 + (Int.tmod (w64 (p2)) 8))))), (35, (bv x21))] [] (fun fb => by kernel_rfl) rfl trivial ?_
 obtain ⟨x34, hx35, hf⟩ := bind_some hf
 refine WL.cutW (T := Bool) 24 (fun t => [(0, (sv Aa p0 ca)), (4, (pt g1)), (7, (iv (w64 (1 + (Int.tmod (w64 (p2)) 8))))), (39, (bv t))]) (fun t w1 => (St NoS w w1 [rowR enc_Tile Aa ca p0, rowR encInt Ab cb p1.Cells, cel ⟨2, 0, none⟩ (iv mG)] [blk g1 (.cells #[(iv p1.Width), (iv p1.Height), (sv Ab p1.Cells cb)] 25 (0, 0))] ∧ x34 = t) ∧ CellsOK [] w1) (fun K => ?_) ?_
 ·
  rcases br_some hx35 with ⟨h36, hx35⟩ | ⟨h36, hx35⟩
  ·
   refine WL.setB 35 h36 rfl ?_
   refine seg 24 [] [0, 4, 7, 39] [(0, (sv Aa p0 ca)), (4, (pt g1)), (7, (iv (w64 (1 + (Int.tmod (w64 (p2)) 8))))), (39, (bv true))] [] (fun fb => by kernel_rfl) rfl trivial ?_
   injection hx35 with hx35
   exact WL.to K true [0, 4, 7, 39] rfl ⟨⟨(hS32.subR [0, 1, 2]).sub [0] (by decide), hx35.symm⟩, trivial⟩
  refine WL.setB 35 h36 rfl ?_
  refine seg 22 [] [0, 4, 7, 35, 36, 37] [(0, (sv Aa p0 ca)), (4, (pt g1)), (7, (iv (w64 (1 + (Int.tmod (w64 (p2)) 8))))), (35, (bv false)), (36, (sv Aa p0 ca)), (37, (iv (w64 (1 + (Int.tmod (w64 (p2)) 8)))))] [] (fun fb => by kernel_rfl) rfl trivial ?_
  obtain ⟨t37, ht38, hx35⟩ := bind_some hx35
  refine WL.call (some 38) 6 #[(sv Aa p0 ca), (iv (w64 (1 + (Int.tmod (w64 (p2)) 8))))] (fun fb => by kernel_rfl) (law05_heavy_calls _ p0 (w64 (1 + (Int.tmod (w64 (p2)) 8))) Aa ca t37 _ (hS32.rd 0) ht38) (fun v w39 hR40 => ?_)
  obtain ⟨rfl, hk_⟩ := hR40
  have hS41 := hS32.keepN hk_
  refine ⟨trivial, ?_⟩
  refine seg 24 [] [0, 4, 7, 39] [(0, (sv Aa p0 ca)), (4, (pt g1)), (7, (iv (w64 (1 + (Int.tmod (w64 (p2)) 8))))), (39, (bv t37))] [] (fun fb => by kernel_rfl) rfl trivial ?_
  injection hx35 with hx35
  exact WL.to K t37 [0, 4, 7, 39] rfl ⟨⟨(hS41.subR [0, 1, 2]).sub [0] (by decide), hx35.symm⟩, trivial⟩
 rintro y42 w44 ⟨⟨hS45, hq43⟩, hF46⟩
 subst hq43
 refine WL.done rfl (WX.next ?_)
 rcases br_some hf with ⟨h47, hf⟩ | ⟨h47, hf⟩
 ·refine WC.condT2 (fun fb => by kernel_rfl) h47 ?_
  refine WC.seq (WC.region ?_)
  obtain ⟨t48, ht49, hf⟩ := bind_some hf
  refine WL.call (some 40) 7 #[] (fun fb => by kernel_rfl) (law05_awake_calls _ mG t48 _ (hS45.rd 2) ht49) (fun v w50 hR51 => ?_)
  obtain ⟨rfl, hk_⟩ := hR51
  have hS52 := hS45.keepN hk_
  refine ⟨trivial, ?_⟩
  refine seg 2 [] [6] [(6, (bv t48))] [] (fun fb => by kernel_rfl) rfl trivial ?_
  refine WL.done rfl (WX.next ?_)
  refine WC.ret ?_
  injection hf with hf
  subst hf
  exact WX.thenR (WX.ret_ [] (bv t48) [] (fun fb => by kernel_rfl) trivial ⟨_, rfl, rfl, hS52.keep⟩)
 refine WC.condF2 (fun fb => by kernel_rfl) h47 ?_
 refine WC.skip (WX.next (WC.seq (WC.region ?_)))
 refine seg 2 [] [0, 4, 7, 42, 43] [(0, (sv Aa p0 ca)), (4, (pt g1)), (7, (iv (w64 (1 + (Int.tmod (w64 (p2)) 8))))), (42, (sv Aa p0 ca)), (43, (iv (w64 (1 + (Int.tmod (w64 (p2)) 8)))))] [] (fun fb => by kernel_rfl) rfl trivial ?_
 obtain ⟨t53, ht54, hf⟩ := bind_some hf
 refine WL.call (some 44) 8 #[(sv Aa p0 ca), (iv (w64 (1 + (Int.tmod (w64 (p2)) 8))))] (fun fb => by kernel_rfl) (square_Exists_calls _ p0 (w64 (1 + (Int.tmod (w64 (p2)) 8))) Aa ca t53 _ (hS45.rd 0) ht54) (fun v w55 hR56 => ?_)
 obtain ⟨rfl, hk_⟩ := hR56
 have hS57 := hS45.keepN hk_
 refine ⟨trivial, ?_⟩
 refine seg 8 [] [0, 4, 7, 8, 9] [(0, (sv Aa p0 ca)), (4, (pt g1)), (7, (iv (w64 (1 + (Int.tmod (w64 (p2)) 8))))), (8, (bv t53.1)), (9, (iv t53.2))] [] (fun fb => by kernel_rfl) rfl trivial ?_
 refine WL.done rfl (WX.next (WC.seq (WC.seq (WC.region ?_))))
 refine seg 2 [] [0, 4, 7, 8, 48] [(0, (sv Aa p0 ca)), (4, (pt g1)), (7, (iv (w64 (1 + (Int.tmod (w64 (p2)) 8))))), (8, (bv t53.1)), (48, (bv (t53.2 != 0)))] [] (fun fb => by kernel_rfl) rfl trivial ?_
 refine WL.done rfl (WX.next ?_)
 rcases br_some hf with ⟨h58, hf⟩ | ⟨h58, hf⟩
 ·refine WC.condT2 (fun fb => by kernel_rfl) h58 ?_
  refine WC.seq (WC.region ?_)
  refine seg 1 [] [6] [(6, (bv false))] [] (fun fb => by kernel_rfl) rfl trivial ?_
  refine WL.done rfl (WX.next ?_)
  refine WC.ret ?_
  injection hf with hf
  subst hf
  exact WX.thenR (WX.ret_ [] (bv false) [] (fun fb => by kernel_rfl) trivial ⟨_, rfl, rfl, hS57.keep⟩)
 refine WC.condF2 (fun fb => by kernel_rfl) h58 ?_
 refine WC.skip (WX.next (WC.seq (WC.seq (WC.region ?_))))
 refine seg 2 [.v (iv p1.Width), .v (iv p1.Height), .v (sv Ab p1.Cells cb)] [0, 4, 7, 8, 49, 50] [(0, (sv Aa p0 ca)), (4, (pt g1)), (7, (iv (w64 (1 + (Int.tmod (w64 (p2)) 8))))), (8, (bv t53.1)), (49, (sv Aa p0 ca)), (50, (.agg #[(iv p1.Width), (iv p1.Height), (sv Ab p1.Cells cb)]))] [.cell ⟨g1, 0, none⟩ (iv p1.Width), .cell ⟨g1, 1, none⟩ (iv p1.Height), .cell ⟨g1, 2, none⟩ (sv Ab p1.Cells cb)] (fun fb => by kernel_rfl) rfl ⟨hS57.cell 0 rfl 0 rfl, hS57.cell 0 rfl 1 rfl, hS57.cell 0 rfl 2 rfl, trivial⟩ ?_
 obtain ⟨t59, ht60, hf⟩ := bind_some hf
 refine WL.call (some 51) 9 #[(sv Aa p0 ca), (.agg #[(iv p1.Width), (iv p1.Height), (sv Ab p1.Cells cb)])] (fun fb => by kernel_rfl) (tile_Fits_calls _ p0 p1 Aa ca Ab cb t59 _ (hS57.rd 0) (hS57.rd 1) ht60) (fun v w61 hR62 => ?_)
 obtain ⟨rfl, hk_⟩ := hR62
 have hS63 := hS57.keepN hk_
 refine ⟨trivial, ?_⟩
 refine seg 4 [] [0, 4, 7, 8, 52] [(0, (sv Aa p0 ca)), (4, (pt g1)), (7, (iv (w64 (1 + (Int.tmod (w64 (p2)) 8))))), (8, (bv t53.1)), (52, (bv t59))] [] (fun fb => by kernel_rfl) rfl trivial ?_
 refine WL.cutV (T := Bool) 9 (fun t => [(57, (bv t)), (0, (sv Aa p0 ca)), (4, (pt g1)), (7, (iv (w64 (1 + (Int.tmod (w64 (p2)) 8))))), (8, (bv t53.1))]) (fun t => (t59 && (decide (p1.Width ≥ w64 (1 + (Int.tmod (w64 (p2)) 8))))) = t) (fun K => ?_) ?_
 ·
  rcases Bool.eq_false_or_eq_true t59 with h65 | h65
  ·
   refine WL.setB 52 h65 rfl ?_
   refine seg 9 [.v (iv p1.Width)] [0, 4, 7, 8, 57] [(0, (sv Aa p0 ca)), (4, (pt g1)), (7, (iv (w64 (1 + (Int.tmod (w64 (p2)) 8))))), (8, (bv t53.1)), (57, (bv (decide (p1.Width ≥ w64 (1 + (Int.tmod (w64 (p2)) 8))))))] [.cell ⟨g1, 0, none⟩ (iv p1.Width)] (fun fb => by kernel_rfl) rfl ⟨hS63.cell 0 rfl 0 rfl, trivial⟩ ?_
   exact WL.toV K (decide (p1.Width ≥ w64 (1 + (Int.tmod (w64 (p2)) 8)))) [57, 0, 4, 7, 8] rfl (by first | (rw [h65]; done) | (rw [h65]; rfl))
  refine WL.setB 52 h65 rfl ?_
  refine seg 9 [] [0, 4, 7, 8, 57] [(0, (sv Aa p0 ca)), (4, (pt g1)), (7, (iv (w64 (1 + (Int.tmod (w64 (p2)) 8))))), (8, (bv t53.1)), (57, (bv false))] [] (fun fb => by kernel_rfl) rfl trivial ?_
  exact WL.toV K false [57, 0, 4, 7, 8] rfl (by first | (rw [h65]; done) | (rw [h65]; rfl))
 rintro b66 rfl
 refine seg 10 [] [0, 4, 7, 8, 58] [(0, (sv Aa p0 ca)), (4, (pt g1)), (7, (iv (w64 (1 + (Int.tmod (w64 (p2)) 8))))), (8, (bv t53.1)), (58, (bv (t59 && (decide (p1.Width ≥ w64 (1 + (Int.tmod (w64 (p2)) 8)))))))] [] (fun fb => by kernel_rfl) rfl trivial ?_
 refine WL.cutV (T := Bool) 15 (fun t => [(63, (bv t)), (0, (sv Aa p0 ca)), (4, (pt g1)), (8, (bv t53.1))]) (fun t => ((t59 && (decide (p1.Width ≥ w64 (1 + (Int.tmod (w64 (p2)) 8))))) && (decide (p1.Height ≥ w64 (1 + (Int.tmod (w64 (p2)) 8))))) = t) (fun K => ?_) ?_
 ·
  rcases Bool.eq_false_or_eq_true (t59 && (decide (p1.Width ≥ w64 (1 + (Int.tmod (w64 (p2)) 8))))) with h67 | h67
  ·
   refine WL.setB 58 h67 rfl ?_
   refine seg 15 [.v (iv p1.Height)] [0, 4, 8, 63] [(0, (sv Aa p0 ca)), (4, (pt g1)), (8, (bv t53.1)), (63, (bv (decide (p1.Height ≥ w64 (1 + (Int.tmod (w64 (p2)) 8))))))] [.cell ⟨g1, 1, none⟩ (iv p1.Height)] (fun fb => by kernel_rfl) rfl ⟨hS63.cell 0 rfl 1 rfl, trivial⟩ ?_
   exact WL.toV K (decide (p1.Height ≥ w64 (1 + (Int.tmod (w64 (p2)) 8)))) [63, 0, 4, 8] rfl (by first | (rw [h67]; done) | (rw [h67]; rfl))
  refine WL.setB 58 h67 rfl ?_
  refine seg 15 [] [0, 4, 8, 63] [(0, (sv Aa p0 ca)), (4, (pt g1)), (8, (bv t53.1)), (63, (bv false))] [] (fun fb => by kernel_rfl) rfl trivial ?_
  exact WL.toV K false [63, 0, 4, 8] rfl (by first | (rw [h67]; done) | (rw [h67]; rfl))
 rintro b68 rfl
 refine seg 16 [] [0, 4, 8, 64] [(0, (sv Aa p0 ca)), (4, (pt g1)), (8, (bv t53.1)), (64, (bv ((t59 && (decide (p1.Width ≥ w64 (1 + (Int.tmod (w64 (p2)) 8))))) && (decide (p1.Height ≥ w64 (1 + (Int.tmod (w64 (p2)) 8)))))))] [] (fun fb => by kernel_rfl) rfl trivial ?_
 refine WL.cutV (T := Bool) 19 (fun t => [(67, (bv t)), (0, (sv Aa p0 ca)), (4, (pt g1)), (8, (bv t53.1))]) (fun t => (((t59 && (decide (p1.Width ≥ w64 (1 + (Int.tmod (w64 (p2)) 8))))) && (decide (p1.Height ≥ w64 (1 + (Int.tmod (w64 (p2)) 8))))) && (!t53.1)) = t) (fun K => ?_) ?_
 ·
  rcases Bool.eq_false_or_eq_true ((t59 && (decide (p1.Width ≥ w64 (1 + (Int.tmod (w64 (p2)) 8))))) && (decide (p1.Height ≥ w64 (1 + (Int.tmod (w64 (p2)) 8))))) with h69 | h69
  ·
   refine WL.setB 64 h69 rfl ?_
   refine seg 19 [] [0, 4, 8, 67] [(0, (sv Aa p0 ca)), (4, (pt g1)), (8, (bv t53.1)), (67, (bv (!t53.1)))] [] (fun fb => by kernel_rfl) rfl trivial ?_
   exact WL.toV K (!t53.1) [67, 0, 4, 8] rfl (by first | (rw [h69]; done) | (rw [h69]; rfl))
  refine WL.setB 64 h69 rfl ?_
  refine seg 19 [] [0, 4, 8, 67] [(0, (sv Aa p0 ca)), (4, (pt g1)), (8, (bv t53.1)), (67, (bv false))] [] (fun fb => by kernel_rfl) rfl trivial ?_
  exact WL.toV K false [67, 0, 4, 8] rfl (by first | (rw [h69]; done) | (rw [h69]; rfl))
 rintro b70 rfl
 refine WL.done rfl (WX.next ?_)
 rcases br_some hf with ⟨h71, hf⟩ | ⟨h71, hf⟩
 ·refine WC.condT2 (fun fb => by kernel_rfl) h71 ?_
  refine WC.seq (WC.region ?_)
  refine seg 1 [] [6] [(6, (bv false))] [] (fun fb => by kernel_rfl) rfl trivial ?_
  refine WL.done rfl (WX.next ?_)
  refine WC.ret ?_
  injection hf with hf
  subst hf
  exact WX.thenR (WX.ret_ [] (bv false) [] (fun fb => by kernel_rfl) trivial ⟨_, rfl, rfl, hS63.keep⟩)
 refine WC.condF2 (fun fb => by kernel_rfl) h71 ?_
 refine WC.skip (WX.next (WC.seq (WC.seq (WC.region ?_))))
 refine seg 2 [.v (iv p1.Width), .v (iv p1.Height), .v (sv Ab p1.Cells cb)] [0, 8, 68, 69] [(0, (sv Aa p0 ca)), (8, (bv t53.1)), (68, (sv Aa p0 ca)), (69, (.agg #[(iv p1.Width), (iv p1.Height), (sv Ab p1.Cells cb)]))] [.cell ⟨g1, 0, none⟩ (iv p1.Width), .cell ⟨g1, 1, none⟩ (iv p1.Height), .cell ⟨g1, 2, none⟩ (sv Ab p1.Cells cb)] (fun fb => by kernel_rfl) rfl ⟨hS63.cell 0 rfl 0 rfl, hS63.cell 0 rfl 1 rfl, hS63.cell 0 rfl 2 rfl, trivial⟩ ?_
 obtain ⟨t72, ht73, hf⟩ := bind_some hf
 refine WL.call (some 70) 10 #[(sv Aa p0 ca), (.agg #[(iv p1.Width), (iv p1.Height), (sv Ab p1.Cells cb)])] (fun fb => by kernel_rfl) (tile_Repeats_calls _ p0 p1 Aa ca Ab cb t72 _ (hS63.rd 0) (hS63.rd 1) ht73) (fun v w74 hR75 => ?_)
 obtain ⟨rfl, hk_⟩ := hR75
 have hS76 := hS63.keepN hk_
 refine ⟨trivial, ?_⟩
 refine seg 4 [] [0, 8, 71] [(0, (sv Aa p0 ca)), (8, (bv t53.1)), (71, (bv t72))] [] (fun fb => by kernel_rfl) rfl trivial ?_
 refine WL.cutV (T := Bool) 7 (fun t => [(74, (bv t)), (0, (sv Aa p0 ca)), (8, (bv t53.1))]) (fun t => (t72 && (!t53.1)) = t) (fun K => ?_) ?_
 ·
  rcases Bool.eq_false_or_eq_true t72 with h77 | h77
  ·
   refine WL.setB 71 h77 rfl ?_
   refine seg 7 [] [0, 8, 74] [(0, (sv Aa p0 ca)), (8, (bv t53.1)), (74, (bv (!t53.1)))] [] (fun fb => by kernel_rfl) rfl trivial ?_
   exact WL.toV K (!t53.1) [74, 0, 8] rfl (by first | (rw [h77]; done) | (rw [h77]; rfl))
  refine WL.setB 71 h77 rfl ?_
  refine seg 7 [] [0, 8, 74] [(0, (sv Aa p0 ca)), (8, (bv t53.1)), (74, (bv false))] [] (fun fb => by kernel_rfl) rfl trivial ?_
  exact WL.toV K false [74, 0, 8] rfl (by first | (rw [h77]; done) | (rw [h77]; rfl))
 rintro b78 rfl
 refine WL.done rfl (WX.next ?_)
 rcases br_some hf with ⟨h79, hf⟩ | ⟨h79, hf⟩
 ·refine WC.condT2 (fun fb => by kernel_rfl) h79 ?_
  refine WC.seq (WC.region ?_)
  refine seg 1 [] [6] [(6, (bv false))] [] (fun fb => by kernel_rfl) rfl trivial ?_
  refine WL.done rfl (WX.next ?_)
  refine WC.ret ?_
  injection hf with hf
  subst hf
  exact WX.thenR (WX.ret_ [] (bv false) [] (fun fb => by kernel_rfl) trivial ⟨_, rfl, rfl, hS76.keep⟩)
 refine WC.condF2 (fun fb => by kernel_rfl) h79 ?_
 refine WC.skip (WX.next (WC.seq (WC.seq (WC.region ?_))))
 refine seg 1 [] [8, 76] [(8, (bv t53.1)), (76, (sv Aa p0 ca))] [] (fun fb => by kernel_rfl) rfl trivial ?_
 obtain ⟨t80, ht81, hf⟩ := bind_some hf
 refine WL.call (some 77) 11 #[(sv Aa p0 ca), (iv 3)] (fun fb => by kernel_rfl) (torus_Least_calls _ p0 3 Aa ca t80 _ (hS76.rd 0) ht81) (fun v w82 hR83 => ?_)
 obtain ⟨A85, c86, rfl, hk_⟩ := hR83
 have hS84 := hS.go w82 [rowO 3 encInt A85 c86 t80.1.Cells, blk g1 (.cells #[(iv p1.Width), (iv p1.Height), (.slice Ab p1.Cells.length cb)] 25 (0, 0))] (hS76.call hk_ [] [0] (fun g hg => hg.elim) (by simp) (by decide))
 refine ⟨trivial, ?_⟩
 refine seg 5 [] [8, 78, 79] [(8, (bv t53.1)), (78, (.agg #[(iv t80.1.Width), (iv t80.1.Height), (sv A85 t80.1.Cells c86)])), (79, (iv t80.2))] [] (fun fb => by kernel_rfl) rfl trivial ?_
 refine WL.new hS84 10 [] (fun g => (pt g)) (.cells #[(iv 0), (iv 0), (.slice none 0 0)] 25 (0, 0)) [] (fun fb g => by kernel_rfl) trivial (fun g87 w88 hS89 => ?_)
 refine ⟨trivial, ?_⟩
 refine WL.store hS89 0 rfl [(0, (iv t80.1.Width)), (1, (iv t80.1.Height)), (2, (sv A85 t80.1.Cells c86))] #[(iv t80.1.Width), (iv t80.1.Height), (sv A85 t80.1.Cells c86)] (fun fb => by kernel_rfl) (by kernel_rfl) rfl [1, 2] (by decide) (by decide) (fun w90 hS91 => ?_)
 refine ⟨trivial, ?_⟩
 refine seg 8 [] [8, 11] [(8, (bv t53.1)), (11, (iv t80.2))] [] (fun fb => by kernel_rfl) rfl trivial ?_
 refine WL.done rfl (WX.next (WC.seq (WC.region ?_)))
 refine seg 3 [] [8, 82] [(8, (bv t53.1)), (82, (bv (t80.2 == 0)))] [] (fun fb => by kernel_rfl) rfl trivial ?_
 refine WL.cutV (T := Bool) 6 (fun t => [(85, (bv t))]) (fun t => ((t80.2 == 0) && (!t53.1)) = t) (fun K => ?_) ?_
 ·
  rcases Bool.eq_false_or_eq_true (t80.2 == 0) with h92 | h92
  ·
   refine WL.setB 82 h92 rfl ?_
   refine seg 6 [] [85] [(85, (bv (!t53.1)))] [] (fun fb => by kernel_rfl) rfl trivial ?_
   exact WL.toV K (!t53.1) [85] rfl (by first | (rw [h92]; done) | (rw [h92]; rfl))
  refine WL.setB 82 h92 rfl ?_
  refine seg 6 [] [85] [(85, (bv false))] [] (fun fb => by kernel_rfl) rfl trivial ?_
  exact WL.toV K false [85] rfl (by first | (rw [h92]; done) | (rw [h92]; rfl))
 rintro b93 rfl
 refine WL.done rfl (WX.next ?_)
 rcases br_some hf with ⟨h94, hf⟩ | ⟨h94, hf⟩
 ·refine WC.condT2 (fun fb => by kernel_rfl) h94 ?_
  refine WC.seq (WC.region ?_)
  refine seg 1 [] [6] [(6, (bv false))] [] (fun fb => by kernel_rfl) rfl trivial ?_
  refine WL.done rfl (WX.next ?_)
  refine WC.ret ?_
  injection hf with hf
  subst hf
  exact WX.thenR (WX.ret_ [] (bv false) [] (fun fb => by kernel_rfl) trivial ⟨_, rfl, rfl, hS91.keep⟩)
 refine WC.condF2 (fun fb => by kernel_rfl) h94 ?_
 refine WC.skip (WX.next (WC.seq (WC.region ?_)))
 obtain ⟨t95, ht96, hf⟩ := bind_some hf
 refine WL.call (some 86) 7 #[] (fun fb => by kernel_rfl) (law05_awake_calls _ mG t95 _ (hS91.rd 2) ht96) (fun v w97 hR98 => ?_)
 obtain ⟨rfl, hk_⟩ := hR98
 have hS99 := hS91.keepN hk_
 refine ⟨trivial, ?_⟩
 refine seg 2 [] [6] [(6, (bv t95))] [] (fun fb => by kernel_rfl) rfl trivial ?_
 refine WL.done rfl (WX.next ?_)
 refine WC.ret ?_
 injection hf with hf
 subst hf
 exact WX.ret_ [] (bv t95) [] (fun fb => by kernel_rfl) trivial ⟨_, rfl, rfl, hS99.keep⟩
end Gp
