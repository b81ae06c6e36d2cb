/- Walks: each function of the program computes its plain function. -/
import Derived.Test.YtdjkmioemobdbaaGreatGp
set_option linter.unusedVariables false
set_option linter.unusedSimpArgs false
set_option maxHeartbeats 4000000
set_option maxRecDepth 8000
namespace Gp
open Go Gw Go.Proofs
theorem beatty_frac_calls (p0 : Frac)  (r : Bool) (w : World)  (hf : beatty_frac p0 = some r) :
  CallsR Tryz.prog 53 #[(.agg #[(iv p0.Num), (iv p0.Den)])] w (fun v w' => v = (bv r) ∧ Keeps NoS w w') := by
 have hS : St NoS w w [] [] := St.init (ro_nil _ _)
 refine enter 21 Tryz.func53 rfl Tryz.ntmps53 rfl ?_
 unfold beatty_frac at hf
 refine WC.seq (WC.region ?_)
 refine WL.new hS 1 [] (fun g => (pt g)) (.cells #[(iv p0.Num), (iv p0.Den)] 44 (0, 0)) [] (fun fb g => by kernel_rfl) trivial (fun g25 w26 hS27 => ?_)
 refine ⟨trivial, ?_⟩
 refine sg 2 [] [1] [(1, (pt g25))] (by kernel_rfl) ?_
 refine WL.done rfl (WX.next (WC.seq (WC.region ?_)))
 refine seg 4 [.v (iv p0.Den)] [1, 6] [(1, (pt g25)), (6, (bv (decide (p0.Den ≥ 1))))] [.cell ⟨g25, 1, none⟩ (iv p0.Den)] (fun fb => by kernel_rfl) rfl ⟨hS27.cell 0 rfl 1 rfl, trivial⟩ ?_
 refine WL.cutV (T := Bool) 8 (fun t => [(10, (bv t)), (1, (pt g25))]) (fun t => ((decide (p0.Den ≥ 1)) && (decide (p0.Den ≤ 1000000))) = t) (fun K => ?_) ?_
 ·
  rcases Bool.eq_false_or_eq_true (decide (p0.Den ≥ 1)) with h29 | h29
  ·
   refine WL.setB 6 h29 rfl ?_
   refine seg 8 [.v (iv p0.Den)] [1, 10] [(1, (pt g25)), (10, (bv (decide (p0.Den ≤ 1000000))))] [.cell ⟨g25, 1, none⟩ (iv p0.Den)] (fun fb => by kernel_rfl) rfl ⟨hS27.cell 0 rfl 1 rfl, trivial⟩ ?_
   exact WL.toV K (decide (p0.Den ≤ 1000000)) [10, 1] rfl (by first | (rw [h29]; done) | (rw [h29]; rfl))
  refine WL.setB 6 h29 rfl ?_
  refine sg 8 [] [1, 10] [(1, (pt g25)), (10, (bv false))] (by kernel_rfl) ?_
  exact WL.toV K false [10, 1] rfl (by first | (rw [h29]; done) | (rw [h29]; rfl))
 rintro b30 rfl
 refine sg 9 [] [1, 11] [(1, (pt g25)), (11, (bv ((decide (p0.Den ≥ 1)) && (decide (p0.Den ≤ 1000000)))))] (by kernel_rfl) ?_
 refine WL.cutV (T := Bool) 13 (fun t => [(15, (bv t)), (1, (pt g25))]) (fun t => (((decide (p0.Den ≥ 1)) && (decide (p0.Den ≤ 1000000))) && (decide (p0.Num ≥ (-1000000)))) = t) (fun K => ?_) ?_
 ·
  rcases Bool.eq_false_or_eq_true ((decide (p0.Den ≥ 1)) && (decide (p0.Den ≤ 1000000))) with h31 | h31
  ·
   refine WL.setB 11 h31 rfl ?_
   refine seg 13 [.v (iv p0.Num)] [1, 15] [(1, (pt g25)), (15, (bv (decide (p0.Num ≥ (-1000000)))))] [.cell ⟨g25, 0, none⟩ (iv p0.Num)] (fun fb => by kernel_rfl) rfl ⟨hS27.cell 0 rfl 0 rfl, trivial⟩ ?_
   exact WL.toV K (decide (p0.Num ≥ (-1000000))) [15, 1] rfl (by first | (rw [h31]; done) | (rw [h31]; rfl))
  refine WL.setB 11 h31 rfl ?_
  refine sg 13 [] [1, 15] [(1, (pt g25)), (15, (bv false))] (by kernel_rfl) ?_
  exact WL.toV K false [15, 1] rfl (by first | (rw [h31]; done) | (rw [h31]; rfl))
 rintro b32 rfl
 refine sg 14 [] [1, 16] [(1, (pt g25)), (16, (bv (((decide (p0.Den ≥ 1)) && (decide (p0.Den ≤ 1000000))) && (decide (p0.Num ≥ (-1000000))))))] (by kernel_rfl) ?_
 refine WL.cutV (T := Bool) 18 (fun t => [(20, (bv t))]) (fun t => ((((decide (p0.Den ≥ 1)) && (decide (p0.Den ≤ 1000000))) && (decide (p0.Num ≥ (-1000000)))) && (decide (p0.Num ≤ 1000000))) = t) (fun K => ?_) ?_
 ·
  rcases Bool.eq_false_or_eq_true (((decide (p0.Den ≥ 1)) && (decide (p0.Den ≤ 1000000))) && (decide (p0.Num ≥ (-1000000)))) with h33 | h33
  ·
   refine WL.setB 16 h33 rfl ?_
   refine seg 18 [.v (iv p0.Num)] [20] [(20, (bv (decide (p0.Num ≤ 1000000))))] [.cell ⟨g25, 0, none⟩ (iv p0.Num)] (fun fb => by kernel_rfl) rfl ⟨hS27.cell 0 rfl 0 rfl, trivial⟩ ?_
   exact WL.toV K (decide (p0.Num ≤ 1000000)) [20] rfl (by first | (rw [h33]; done) | (rw [h33]; rfl))
  refine WL.setB 16 h33 rfl ?_
  refine sg 18 [] [20] [(20, (bv false))] (by kernel_rfl) ?_
  exact WL.toV K false [20] rfl (by first | (rw [h33]; done) | (rw [h33]; rfl))
 rintro b34 rfl
 refine sg 19 [] [2] [(2, (bv ((((decide (p0.Den ≥ 1)) && (decide (p0.Den ≤ 1000000))) && (decide (p0.Num ≥ (-1000000)))) && (decide (p0.Num ≤ 1000000)))))] (by kernel_rfl) ?_
 refine WL.done rfl (WX.next ?_)
 refine WC.ret ?_
 injection hf with hf
 subst hf
 exact WX.ret_ [] (bv ((((decide (p0.Den ≥ 1)) && (decide (p0.Den ≤ 1000000))) && (decide (p0.Num ≥ (-1000000)))) && (decide (p0.Num ≤ 1000000)))) [] (fun fb => by kernel_rfl) trivial ⟨_, rfl, rfl, hS27.keep⟩
theorem beatty_gcd_calls (k : Nat) (p0 : Int) (p1 : Int)  (r : Int) (w : World)  (hf : beatty_gcd k p0 p1 = some r) :
  CallsR Tryz.prog 68 #[(iv p0), (iv p1)] w (fun v w' => v = (iv r) ∧ Keeps NoS w w') := by
 have hS : St NoS w w [] [] := St.init (ro_nil _ _)
 refine enter 15 Tryz.func68 rfl Tryz.ntmps68 rfl ?_
 unfold beatty_gcd at hf
 refine WC.seq (WC.region ?_)
 refine sg 1 [] [0, 1] [(0, (iv p0)), (1, (iv p1))] (by kernel_rfl) ?_
 refine WL.done rfl (WX.next (WC.seq ?_))
 obtain ⟨x3, hx4, hf⟩ := bind_some hf
 refine WC.cutN (T := Int) (fun t => [(0, (iv t))]) (fun t w1 => St NoS w w1 [] [] ∧ x3 = t) (fun Kx3 => ?_) ?_
 ·
  refine WC.block ?_
  refine WC.loop (T := Int × Int) (fun t => [(0, (iv t.1)), (1, (iv t.2))]) (fun n t w1 => St NoS w w1 [] [] ∧ beatty_gcd.l0 n t.1 t.2 = some x3) k (p0, p1) [0, 1] rfl ⟨(hS.subR []).sub [] (by decide), hx4⟩ ?_
  rintro k5 ⟨x98, x99⟩ w6 ⟨hS7, hl8⟩
  cases k5 with
  | zero => rw [beatty_gcd.l0] at hl8; cases hl8
  | succ k5 =>
   rw [beatty_gcd.l0] at hl8
   refine WC.seq (WC.seq (WC.region ?_))
   refine sg 2 [] [0, 1, 6] [(0, (iv x98)), (1, (iv x99)), (6, (bv (x99 != 0)))] (by kernel_rfl) ?_
   refine WL.done rfl (WX.next ?_)
   rcases br_some hl8 with ⟨h9, hl8⟩ | ⟨h9, hl8⟩
   ·refine WC.condT2 (fun fb => by kernel_rfl) h9 ?_
    refine WC.skip (WX.next (WC.block ?_))
    obtain ⟨h12, hl8⟩ := as_some hl8
    refine WC.regionD ([], [0, 1, 2, 3, 4, 5], [[], [], [], [1, 2], [0, 1], [0, 1, 2, 3, 4]]) [[0, 1, 2, 3, 4, 5]] (by kernel_rfl) (by kernel_rfl) (NoPanic.block (NoPanic.seq (NoPanic.block (NoPanic.seq (NoPanic.body))))) ?_
    have hS11 := hS7.drew
    revert hS11
    generalize World.drew w6 = w10
    intro hS11
    refine ⟨trivial, forallC ?_ (forallN)⟩
    refine seg 6 [] [0, 1] [(0, (iv x99)), (1, (iv (Int.tmod x98 x99)))] [.ne x99] (fun fb => by kernel_rfl) rfl ⟨h12, trivial⟩ ?_
    refine WL.done rfl ?_
    exact WX.blockN (WX.again k5 (Nat.lt_succ_self _) (x99, Int.tmod x98 x99) [0, 1] rfl ⟨(hS11.subR []).sub [] (by decide), hl8⟩)
   refine WC.condF2 (fun fb => by kernel_rfl) h9 ?_
   refine WC.exit ?_
   injection hl8 with hl8
   exact WX.thenX (WX.thenX (WX.blockHere (WX.to Kx3 x98 [0] rfl ⟨(hS7.subR []).sub [] (by decide), hl8.symm⟩)))
 rintro y16 w13 ⟨hS14, hq15⟩
 subst hq15
 refine WX.next (WC.seq (WC.region ?_))
 refine sg 5 [] [4] [(4, (iv (maxI x3 (w64 (0 - x3)))))] (by kernel_rfl) ?_
 refine WL.done rfl (WX.next ?_)
 refine WC.ret ?_
 injection hf with hf
 subst hf
 exact WX.ret_ [] (iv (maxI x3 (w64 (0 - x3)))) [] (fun fb => by kernel_rfl) trivial ⟨_, rfl, rfl, hS14.keep⟩
theorem beatty_of_calls (p0 : Frac)  (r : Ratio) (w : World)  (hf : beatty_of p0 = some r) :
  CallsR Tryz.prog 30 #[(.agg #[(iv p0.Num), (iv p0.Den)])] w (fun v w' => v = (.agg #[(iv r.n), (iv r.d)]) ∧ Keeps NoS w w') := by
 have hS : St NoS w w [] [] := St.init (ro_nil _ _)
 refine enter 8 Tryz.func30 rfl Tryz.ntmps30 rfl ?_
 unfold beatty_of at hf
 refine WC.seq (WC.region ?_)
 refine WL.new hS 1 [] (fun g => (pt g)) (.cells #[(iv p0.Num), (iv p0.Den)] 44 (0, 0)) [] (fun fb g => by kernel_rfl) trivial (fun g1 w2 hS3 => ?_)
 refine ⟨trivial, ?_⟩
 refine WL.new hS3 2 [] (fun g => (pt g)) (.cells #[(iv 0), (iv 0)] 70 (0, 0)) [] (fun fb g => by kernel_rfl) trivial (fun g4 w5 hS6 => ?_)
 refine ⟨trivial, ?_⟩
 refine WL.done rfl (WX.next (WC.seq (WC.region ?_)))
 refine seg 5 [.v (iv p0.Num), .v (iv p0.Den)] [2, 7] [(2, (pt g4)), (7, (.agg #[(iv p0.Num), (iv p0.Den)]))] [.cell ⟨g1, 0, none⟩ (iv p0.Num), .cell ⟨g1, 1, none⟩ (iv p0.Den)] (fun fb => by kernel_rfl) rfl ⟨hS6.cell 1 rfl 0 rfl, hS6.cell 1 rfl 1 rfl, trivial⟩ ?_
 refine WL.store hS6 0 rfl [(0, (iv p0.Num)), (1, (iv p0.Den))] #[(iv p0.Num), (iv p0.Den)] (fun fb => by kernel_rfl) (by kernel_rfl) rfl [1] (by decide) (by decide) (fun w7 hS8 => ?_)
 refine ⟨trivial, ?_⟩
 refine WL.done rfl (WX.next ?_)
 refine WC.ret ?_
 injection hf with hf
 subst hf
 exact WX.ret_ [.v (iv p0.Num), .v (iv p0.Den)] (.agg #[(iv p0.Num), (iv p0.Den)]) [.cell ⟨g4, 0, none⟩ (iv p0.Num), .cell ⟨g4, 1, none⟩ (iv p0.Den)] (fun fb => by kernel_rfl) ⟨hS8.cell 0 rfl 0 rfl, hS8.cell 0 rfl 1 rfl, trivial⟩ ⟨_, rfl, rfl, hS8.keep⟩
theorem beatty_ratio_less_calls (p0 : Ratio) (p1 : Ratio)  (r : Bool) (w : World)  (hf : beatty_ratio_less p0 p1 = some r) :
  CallsR Tryz.prog 32 #[(.agg #[(iv p0.n), (iv p0.d)]), (.agg #[(iv p1.n), (iv p1.d)])] w (fun v w' => v = (bv r) ∧ Keeps NoS w w') := by
 have hS : St NoS w w [] [] := St.init (ro_nil _ _)
 refine enter 16 Tryz.func32 rfl Tryz.ntmps32 rfl ?_
 unfold beatty_ratio_less at hf
 refine WC.seq (WC.region ?_)
 refine WL.new hS 2 [] (fun g => (pt g)) (.cells #[(iv p0.n), (iv p0.d)] 70 (0, 0)) [] (fun fb g => by kernel_rfl) trivial (fun g2 w3 hS4 => ?_)
 refine ⟨trivial, ?_⟩
 refine WL.new hS4 3 [] (fun g => (pt g)) (.cells #[(iv p1.n), (iv p1.d)] 70 (0, 0)) [] (fun fb g => by kernel_rfl) trivial (fun g5 w6 hS7 => ?_)
 refine ⟨trivial, ?_⟩
 refine sg 3 [] [2, 3] [(2, (pt g2)), (3, (pt g5))] (by kernel_rfl) ?_
 refine WL.done rfl (WX.next (WC.seq (WC.region ?_)))
 refine seg 12 [.v (iv p0.n), .v (iv p1.d), .v (iv p1.n), .v (iv p0.d)] [4] [(4, (bv (decide (w64 (p0.n * p1.d) < w64 (p1.n * p0.d)))))] [.cell ⟨g2, 0, none⟩ (iv p0.n), .cell ⟨g5, 1, none⟩ (iv p1.d), .cell ⟨g5, 0, none⟩ (iv p1.n), .cell ⟨g2, 1, none⟩ (iv p0.d)] (fun fb => by kernel_rfl) rfl ⟨hS7.cell 1 rfl 0 rfl, hS7.cell 0 rfl 1 rfl, hS7.cell 0 rfl 0 rfl, hS7.cell 1 rfl 1 rfl, trivial⟩ ?_
 refine WL.done rfl (WX.next ?_)
 refine WC.ret ?_
 injection hf with hf
 subst hf
 exact WX.ret_ [] (bv (decide (w64 (p0.n * p1.d) < w64 (p1.n * p0.d)))) [] (fun fb => by kernel_rfl) trivial ⟨_, rfl, rfl, hS7.keep⟩
theorem beatty_valid_calls (k : Nat) (p0 : Piece)  (r : Bool) (w : World)  (hf : beatty_valid k p0 = some r) :
  CallsR Tryz.prog 38 #[(.agg #[(iv p0.Factor.Num), (iv p0.Factor.Den), (iv p0.Low.Num), (iv p0.Low.Den), (iv p0.High.Num), (iv p0.High.Den)])] w (fun v w' => v = (bv r) ∧ Keeps NoS w w') := by
 have hS : St NoS w w [] [] := St.init (ro_nil _ _)
 refine enter 78 Tryz.func38 rfl Tryz.ntmps38 rfl ?_
 unfold beatty_valid at hf
 refine WC.seq (WC.region ?_)
 refine WL.new hS 1 [] (fun g => (pt g)) (.cells #[(iv p0.Factor.Num), (iv p0.Factor.Den), (iv p0.Low.Num), (iv p0.Low.Den), (iv p0.High.Num), (iv p0.High.Den)] 66 (0, 0)) [] (fun fb g => by kernel_rfl) trivial (fun g15 w16 hS17 => ?_)
 refine ⟨trivial, ?_⟩
 refine sg 2 [] [1] [(1, (pt g15))] (by kernel_rfl) ?_
 refine WL.done rfl (WX.next (WC.seq (WC.region ?_)))
 refine seg 2 [.v (iv p0.Factor.Num), .v (iv p0.Factor.Den)] [1, 7] [(1, (pt g15)), (7, (.agg #[(iv p0.Factor.Num), (iv p0.Factor.Den)]))] [.cell ⟨g15, 0, none⟩ (iv p0.Factor.Num), .cell ⟨g15, 1, none⟩ (iv p0.Factor.Den)] (fun fb => by kernel_rfl) rfl ⟨hS17.cell 0 rfl 0 rfl, hS17.cell 0 rfl 1 rfl, trivial⟩ ?_
 refine WL.new hS17 3 [] (fun g => (pt g)) (.cells #[(iv 0), (iv 0)] 44 (0, 0)) [] (fun fb g => by kernel_rfl) trivial (fun g19 w20 hS21 => ?_)
 refine ⟨trivial, ?_⟩
 refine WL.store hS21 0 rfl [(0, (iv p0.Factor.Num)), (1, (iv p0.Factor.Den))] #[(iv p0.Factor.Num), (iv p0.Factor.Den)] (fun fb => by kernel_rfl) (by kernel_rfl) rfl [1] (by decide) (by decide) (fun w23 hS24 => ?_)
 refine ⟨trivial, ?_⟩
 refine WL.done rfl (WX.next (WC.seq (WC.seq (WC.region ?_))))
 refine seg 1 [.v (iv p0.Factor.Num), .v (iv p0.Factor.Den)] [1, 3, 8] [(1, (pt g15)), (3, (pt g19)), (8, (.agg #[(iv p0.Factor.Num), (iv p0.Factor.Den)]))] [.cell ⟨g19, 0, none⟩ (iv p0.Factor.Num), .cell ⟨g19, 1, none⟩ (iv p0.Factor.Den)] (fun fb => by kernel_rfl) rfl ⟨hS24.cell 0 rfl 0 rfl, hS24.cell 0 rfl 1 rfl, trivial⟩ ?_
 obtain ⟨t35, ht36, hf⟩ := bind_some hf
 refine WL.call (some 9) 53 #[(.agg #[(iv p0.Factor.Num), (iv p0.Factor.Den)])] (fun fb => by kernel_rfl) (beatty_frac_calls p0.Factor t35 _ ht36) (fun v w37 hR38 => ?_)
 obtain ⟨rfl, hk_⟩ := hR38
 have hS39 := hS24.keepN hk_
 refine ⟨trivial, ?_⟩
 refine sg 4 [] [1, 3, 11] [(1, (pt g15)), (3, (pt g19)), (11, (bv (!t35)))] (by kernel_rfl) ?_
 obtain ⟨x46, hx47, hf⟩ := bind_some hf
 refine WL.cutW (T := Bool) 9 (fun t => [(1, (pt g15)), (3, (pt g19)), (16, (bv t))]) (fun t w1 => (St NoS w w1 [] [blk g15 (.cells #[(iv p0.Factor.Num), (iv p0.Factor.Den), (iv p0.Low.Num), (iv p0.Low.Den), (iv p0.High.Num), (iv p0.High.Den)] 66 (0, 0)), blk g19 (.cells #[(iv p0.Factor.Num), (iv p0.Factor.Den)] 44 (0, 0))] ∧ x46 = t) ∧ CellsOK [] w1) (fun K => ?_) ?_
 ·
  rcases br_some hx47 with ⟨h48, hx47⟩ | ⟨h48, hx47⟩
  ·
   refine WL.setB 11 h48 rfl ?_
   refine sg 9 [] [1, 3, 16] [(1, (pt g15)), (3, (pt g19)), (16, (bv true))] (by kernel_rfl) ?_
   injection hx47 with hx47
   exact WL.to K true [1, 3, 16] rfl ⟨⟨(hS39.subR []).sub [1, 0] (by decide), hx47.symm⟩, trivial⟩
  refine WL.setB 11 h48 rfl ?_
  refine seg 6 [.v (iv p0.Low.Num), .v (iv p0.Low.Den)] [1, 3, 11, 13] [(1, (pt g15)), (3, (pt g19)), (11, (bv false)), (13, (.agg #[(iv p0.Low.Num), (iv p0.Low.Den)]))] [.cell ⟨g15, 2, none⟩ (iv p0.Low.Num), .cell ⟨g15, 3, none⟩ (iv p0.Low.Den)] (fun fb => by kernel_rfl) rfl ⟨hS39.cell 1 rfl 2 rfl, hS39.cell 1 rfl 3 rfl, trivial⟩ ?_
  obtain ⟨t49, ht50, hx47⟩ := bind_some hx47
  refine WL.call (some 14) 53 #[(.agg #[(iv p0.Low.Num), (iv p0.Low.Den)])] (fun fb => by kernel_rfl) (beatty_frac_calls p0.Low t49 _ ht50) (fun v w51 hR52 => ?_)
  obtain ⟨rfl, hk_⟩ := hR52
  have hS53 := hS39.keepN hk_
  refine ⟨trivial, ?_⟩
  refine sg 9 [] [1, 3, 16] [(1, (pt g15)), (3, (pt g19)), (16, (bv (!t49)))] (by kernel_rfl) ?_
  injection hx47 with hx47
  exact WL.to K (!t49) [1, 3, 16] rfl ⟨⟨(hS53.subR []).sub [1, 0] (by decide), hx47.symm⟩, trivial⟩
 rintro y54 w56 ⟨⟨hS57, hq55⟩, hF58⟩
 subst hq55
 refine sg 10 [] [1, 3, 17] [(1, (pt g15)), (3, (pt g19)), (17, (bv x46))] (by kernel_rfl) ?_
 obtain ⟨x65, hx66, hf⟩ := bind_some hf
 let e13 := iv p0.High.Num
 let e14 := iv p0.High.Den
 refine WL.cutW (T := Bool) 15 (fun t => [(1, (pt g15)), (3, (pt g19)), (22, (bv t))]) (fun t w1 => (St NoS w w1 [] [blk g15 (.cells #[(iv p0.Factor.Num), (iv p0.Factor.Den), (iv p0.Low.Num), (iv p0.Low.Den), e13, e14] 66 (0, 0)), blk g19 (.cells #[(iv p0.Factor.Num), (iv p0.Factor.Den)] 44 (0, 0))] ∧ x65 = t) ∧ CellsOK [] w1) (fun K => ?_) ?_
 ·
  rcases br_some hx66 with ⟨h67, hx66⟩ | ⟨h67, hx66⟩
  ·
   refine WL.setB 17 h67 rfl ?_
   refine sg 15 [] [1, 3, 22] [(1, (pt g15)), (3, (pt g19)), (22, (bv true))] (by kernel_rfl) ?_
   injection hx66 with hx66
   exact WL.to K true [1, 3, 22] rfl ⟨⟨(hS57.subR []).sub [0, 1] (by decide), hx66.symm⟩, trivial⟩
  refine WL.setB 17 h67 rfl ?_
  refine seg 12 [.v e13, .v e14] [1, 3, 17, 19] [(1, (pt g15)), (3, (pt g19)), (17, (bv false)), (19, (.agg #[e13, e14]))] [.cell ⟨g15, 4, none⟩ e13, .cell ⟨g15, 5, none⟩ e14] (fun fb => by kernel_rfl) rfl ⟨hS57.cell 0 rfl 4 rfl, hS57.cell 0 rfl 5 rfl, trivial⟩ ?_
  obtain ⟨t68, ht69, hx66⟩ := bind_some hx66
  refine WL.call (some 20) 53 #[(.agg #[e13, e14])] (fun fb => by kernel_rfl) (beatty_frac_calls p0.High t68 _ ht69) (fun v w70 hR71 => ?_)
  obtain ⟨rfl, hk_⟩ := hR71
  have hS72 := hS57.keepN hk_
  refine ⟨trivial, ?_⟩
  refine sg 15 [] [1, 3, 22] [(1, (pt g15)), (3, (pt g19)), (22, (bv (!t68)))] (by kernel_rfl) ?_
  injection hx66 with hx66
  exact WL.to K (!t68) [1, 3, 22] rfl ⟨⟨(hS72.subR []).sub [0, 1] (by decide), hx66.symm⟩, trivial⟩
 rintro y73 w75 ⟨⟨hS76, hq74⟩, hF77⟩
 subst hq74
 refine sg 16 [] [1, 3, 23] [(1, (pt g15)), (3, (pt g19)), (23, (bv x65))] (by kernel_rfl) ?_
 refine WL.cutV (T := Bool) 20 (fun t => [(27, (bv t)), (1, (pt g15)), (3, (pt g19))]) (fun t => (x65 || (decide (p0.Factor.Num < 1))) = t) (fun K => ?_) ?_
 ·
  rcases Bool.eq_false_or_eq_true x65 with h78 | h78
  ·
   refine WL.setB 23 h78 rfl ?_
   refine sg 20 [] [1, 3, 27] [(1, (pt g15)), (3, (pt g19)), (27, (bv true))] (by kernel_rfl) ?_
   exact WL.toV K true [27, 1, 3] rfl (by first | (rw [h78]; done) | (rw [h78]; rfl))
  refine WL.setB 23 h78 rfl ?_
  refine seg 20 [.v (iv p0.Factor.Num)] [1, 3, 27] [(1, (pt g15)), (3, (pt g19)), (27, (bv (decide (p0.Factor.Num < 1))))] [.cell ⟨g19, 0, none⟩ (iv p0.Factor.Num)] (fun fb => by kernel_rfl) rfl ⟨hS76.cell 1 rfl 0 rfl, trivial⟩ ?_
  exact WL.toV K (decide (p0.Factor.Num < 1)) [27, 1, 3] rfl (by first | (rw [h78]; done) | (rw [h78]; rfl))
 rintro b79 rfl
 refine sg 21 [] [1, 3, 28] [(1, (pt g15)), (3, (pt g19)), (28, (bv (x65 || (decide (p0.Factor.Num < 1)))))] (by kernel_rfl) ?_
 refine WL.cutV (T := Bool) 25 (fun t => [(32, (bv t)), (1, (pt g15)), (3, (pt g19))]) (fun t => ((x65 || (decide (p0.Factor.Num < 1))) || (decide (p0.Factor.Num > 12))) = t) (fun K => ?_) ?_
 ·
  rcases Bool.eq_false_or_eq_true (x65 || (decide (p0.Factor.Num < 1))) with h80 | h80
  ·
   refine WL.setB 28 h80 rfl ?_
   refine sg 25 [] [1, 3, 32] [(1, (pt g15)), (3, (pt g19)), (32, (bv true))] (by kernel_rfl) ?_
   exact WL.toV K true [32, 1, 3] rfl (by first | (rw [h80]; done) | (rw [h80]; rfl))
  refine WL.setB 28 h80 rfl ?_
  refine seg 25 [.v (iv p0.Factor.Num)] [1, 3, 32] [(1, (pt g15)), (3, (pt g19)), (32, (bv (decide (p0.Factor.Num > 12))))] [.cell ⟨g19, 0, none⟩ (iv p0.Factor.Num)] (fun fb => by kernel_rfl) rfl ⟨hS76.cell 1 rfl 0 rfl, trivial⟩ ?_
  exact WL.toV K (decide (p0.Factor.Num > 12)) [32, 1, 3] rfl (by first | (rw [h80]; done) | (rw [h80]; rfl))
 rintro b81 rfl
 refine sg 26 [] [1, 3, 33] [(1, (pt g15)), (3, (pt g19)), (33, (bv ((x65 || (decide (p0.Factor.Num < 1))) || (decide (p0.Factor.Num > 12)))))] (by kernel_rfl) ?_
 refine WL.cutV (T := Bool) 30 (fun t => [(37, (bv t)), (1, (pt g15)), (3, (pt g19))]) (fun t => (((x65 || (decide (p0.Factor.Num < 1))) || (decide (p0.Factor.Num > 12))) || (decide (p0.Factor.Den > 12))) = t) (fun K => ?_) ?_
 ·
  rcases Bool.eq_false_or_eq_true ((x65 || (decide (p0.Factor.Num < 1))) || (decide (p0.Factor.Num > 12))) with h82 | h82
  ·
   refine WL.setB 33 h82 rfl ?_
   refine sg 30 [] [1, 3, 37] [(1, (pt g15)), (3, (pt g19)), (37, (bv true))] (by kernel_rfl) ?_
   exact WL.toV K true [37, 1, 3] rfl (by first | (rw [h82]; done) | (rw [h82]; rfl))
  refine WL.setB 33 h82 rfl ?_
  refine seg 30 [.v (iv p0.Factor.Den)] [1, 3, 37] [(1, (pt g15)), (3, (pt g19)), (37, (bv (decide (p0.Factor.Den > 12))))] [.cell ⟨g19, 1, none⟩ (iv p0.Factor.Den)] (fun fb => by kernel_rfl) rfl ⟨hS76.cell 1 rfl 1 rfl, trivial⟩ ?_
  exact WL.toV K (decide (p0.Factor.Den > 12)) [37, 1, 3] rfl (by first | (rw [h82]; done) | (rw [h82]; rfl))
 rintro b83 rfl
 refine sg 31 [] [1, 3, 38] [(1, (pt g15)), (3, (pt g19)), (38, (bv (((x65 || (decide (p0.Factor.Num < 1))) || (decide (p0.Factor.Num > 12))) || (decide (p0.Factor.Den > 12)))))] (by kernel_rfl) ?_
 obtain ⟨x3, hx4, hf⟩ := bind_some hf
 let e10 := iv p0.Factor.Num
 let e11 := iv p0.Factor.Den
 refine WL.cutW (T := Bool) 38 (fun t => [(1, (pt g15)), (45, (bv t))]) (fun t w1 => (St NoS w w1 [] [blk g15 (.cells #[e10, e11, (iv p0.Low.Num), (iv p0.Low.Den), e13, e14] 66 (0, 0))] ∧ x3 = t) ∧ CellsOK [] w1) (fun K => ?_) ?_
 ·
  rcases br_some hx4 with ⟨h5, hx4⟩ | ⟨h5, hx4⟩
  ·
   refine WL.setB 38 h5 rfl ?_
   refine sg 38 [] [1, 45] [(1, (pt g15)), (45, (bv true))] (by kernel_rfl) ?_
   injection hx4 with hx4
   exact WL.to K true [1, 45] rfl ⟨⟨(hS76.subR []).sub [0] (by decide), hx4.symm⟩, trivial⟩
  refine WL.setB 38 h5 rfl ?_
  refine seg 35 [.v e10, .v e11] [1, 38, 40, 42] [(1, (pt g15)), (38, (bv false)), (40, e10), (42, e11)] [.cell ⟨g19, 0, none⟩ e10, .cell ⟨g19, 1, none⟩ e11] (fun fb => by kernel_rfl) rfl ⟨hS76.cell 1 rfl 0 rfl, hS76.cell 1 rfl 1 rfl, trivial⟩ ?_
  obtain ⟨t6, ht7, hx4⟩ := bind_some hx4
  refine WL.call (some 43) 68 #[e10, e11] (fun fb => by kernel_rfl) (beatty_gcd_calls _ p0.Factor.Num p0.Factor.Den t6 _ ht7) (fun v w8 hR9 => ?_)
  obtain ⟨rfl, hk_⟩ := hR9
  have hS10 := hS76.keepN hk_
  refine ⟨trivial, ?_⟩
  refine sg 38 [] [1, 45] [(1, (pt g15)), (45, (bv (t6 != 1)))] (by kernel_rfl) ?_
  injection hx4 with hx4
  exact WL.to K (t6 != 1) [1, 45] rfl ⟨⟨(hS10.subR []).sub [0] (by decide), hx4.symm⟩, trivial⟩
 rintro y11 w13 ⟨⟨hS14, hq12⟩, hF18⟩
 subst hq12
 refine sg 39 [] [1, 46] [(1, (pt g15)), (46, (bv x3))] (by kernel_rfl) ?_
 refine WL.cutV (T := Bool) 44 (fun t => [(51, (bv t)), (1, (pt g15))]) (fun t => (x3 || (decide (p0.Low.Den > 1000))) = t) (fun K => ?_) ?_
 ·
  rcases Bool.eq_false_or_eq_true x3 with h22 | h22
  ·
   refine WL.setB 46 h22 rfl ?_
   refine sg 44 [] [1, 51] [(1, (pt g15)), (51, (bv true))] (by kernel_rfl) ?_
   exact WL.toV K true [51, 1] rfl (by first | (rw [h22]; done) | (rw [h22]; rfl))
  refine WL.setB 46 h22 rfl ?_
  refine seg 44 [.v (iv p0.Low.Den)] [1, 51] [(1, (pt g15)), (51, (bv (decide (p0.Low.Den > 1000))))] [.cell ⟨g15, 3, none⟩ (iv p0.Low.Den)] (fun fb => by kernel_rfl) rfl ⟨hS14.cell 0 rfl 3 rfl, trivial⟩ ?_
  exact WL.toV K (decide (p0.Low.Den > 1000)) [51, 1] rfl (by first | (rw [h22]; done) | (rw [h22]; rfl))
 rintro b25 rfl
 refine sg 45 [] [1, 52] [(1, (pt g15)), (52, (bv (x3 || (decide (p0.Low.Den > 1000)))))] (by kernel_rfl) ?_
 refine WL.cutV (T := Bool) 50 (fun t => [(57, (bv t)), (1, (pt g15))]) (fun t => ((x3 || (decide (p0.Low.Den > 1000))) || (decide (p0.High.Den > 1000))) = t) (fun K => ?_) ?_
 ·
  rcases Bool.eq_false_or_eq_true (x3 || (decide (p0.Low.Den > 1000))) with h26 | h26
  ·
   refine WL.setB 52 h26 rfl ?_
   refine sg 50 [] [1, 57] [(1, (pt g15)), (57, (bv true))] (by kernel_rfl) ?_
   exact WL.toV K true [57, 1] rfl (by first | (rw [h26]; done) | (rw [h26]; rfl))
  refine WL.setB 52 h26 rfl ?_
  refine seg 50 [.v e14] [1, 57] [(1, (pt g15)), (57, (bv (decide (p0.High.Den > 1000))))] [.cell ⟨g15, 5, none⟩ e14] (fun fb => by kernel_rfl) rfl ⟨hS14.cell 0 rfl 5 rfl, trivial⟩ ?_
  exact WL.toV K (decide (p0.High.Den > 1000)) [57, 1] rfl (by first | (rw [h26]; done) | (rw [h26]; rfl))
 rintro b27 rfl
 refine WL.done rfl (WX.next ?_)
 rcases br_some hf with ⟨h28, hf⟩ | ⟨h28, hf⟩
 ·refine WC.condT2 (fun fb => by kernel_rfl) h28 ?_
  refine WC.seq (WC.region ?_)
  refine sg 1 [] [2] [(2, (bv false))] (by kernel_rfl) ?_
  refine WL.done rfl (WX.next ?_)
  refine WC.ret ?_
  injection hf with hf
  subst hf
  exact WX.thenR (WX.ret_ [] (bv false) [] (fun fb => by kernel_rfl) trivial ⟨_, rfl, rfl, hS14.keep⟩)
 refine WC.condF2 (fun fb => by kernel_rfl) h28 ?_
 refine WC.skip (WX.next (WC.seq ?_))
 obtain ⟨x31, hx32, hf⟩ := bind_some hf
 let e1 : List (Nat × Addr × Value) := [(1, ⟨g15, 2, none⟩, (iv p0.Low.Num)), (1, ⟨g15, 3, none⟩, (iv p0.Low.Den)), (4, ⟨g15, 4, none⟩, e13), (4, ⟨g15, 5, none⟩, e14)]
 let e2 : Array Value := #[e13, e14]
 let e3 : Array Value := #[(iv p0.Low.Num), (iv p0.Low.Den)]
 let e4 : Array Value := #[(iv 0), (iv 0)]
 let e5 := iv p0.High.Num
 let e6 := iv p0.High.Den
 let e7 := iv p0.Low.Num
 let e8 := iv p0.Low.Den
 let e9 : List Nat := [0, 1, 2, 3]
 refine WC.cutN (T := (Int × Int × Int × Int) × Nat × Nat) (fun t => [(4, (.pointer (some ⟨t.2.1, 0, none⟩))), (5, (.pointer (some ⟨t.2.2, 0, none⟩)))]) (fun t w1 => St NoS w w1 [] [blk t.2.1 (.cells #[(iv t.1.1), (iv t.1.2.1)] 70 (0, 0)), blk t.2.2 (.cells #[(iv t.1.2.2.1), (iv t.1.2.2.2)] 70 (0, 0))] ∧ x31 = t.1) (fun Kx31 => ?_) ?_
 ·
  refine WC.regionD (e1, [0, 1, 3, 4], [[], [0], [0, 1], [], [3], [0, 1, 2, 3, 4], [], [], [0, 1, 2, 3, 4, 5, 6, 7], [0, 1, 2, 3, 4, 5, 6, 7, 8]]) [[0, 1, 3, 4, 2, 5, 6, 7, 8, 9], [0, 1, 3, 4, 2, 5, 7, 6, 8, 9], [0, 1, 3, 4, 2, 6, 5, 7, 8, 9], [0, 1, 3, 4, 2, 6, 7, 5, 8, 9], [0, 1, 3, 4, 2, 7, 5, 6, 8, 9], [0, 1, 3, 4, 2, 7, 6, 5, 8, 9], [0, 1, 3, 4, 6, 2, 5, 7, 8, 9], [0, 1, 3, 4, 6, 2, 7, 5, 8, 9], [0, 1, 3, 4, 6, 7, 2, 5, 8, 9], [0, 1, 3, 4, 7, 2, 5, 6, 8, 9], [0, 1, 3, 4, 7, 2, 6, 5, 8, 9], [0, 1, 3, 4, 7, 6, 2, 5, 8, 9]] (by kernel_rfl) (by kernel_rfl) (NoPanic.seq (NoPanic.body)) ?_
  have hS34 := hS14.drew
  revert hS34
  generalize World.drew w13 = w33
  intro hS34
  refine ⟨⟨hS34.cell 0 rfl 2 rfl, hS34.cell 0 rfl 3 rfl, hS34.cell 0 rfl 4 rfl, hS34.cell 0 rfl 5 rfl, trivial⟩, forallC ?_ (forallC ?_ (forallC ?_ (forallC ?_ (forallC ?_ (forallC ?_ (forallC ?_ (forallC ?_ (forallC ?_ (forallC ?_ (forallC ?_ (forallC ?_ (forallN))))))))))))⟩
  ·
   refine segF 4 [.v e7, .v e8, .v e5, .v e6] [59, 62] [(59, (.agg e3)), (62, (.agg e2))] [] e9 e1 (fun fb => by kernel_rfl) rfl trivial rfl ?_
   obtain ⟨t40, ht41, hx32⟩ := bind_some hx32
   refine WL.call (some 60) 30 #[(.agg e3)] (fun fb => by kernel_rfl) (beatty_of_calls p0.Low t40 _ ht41) (fun v w42 hR43 => ?_)
   obtain ⟨rfl, hk_⟩ := hR43
   have hS44 := hS34.keepN hk_
   refine ⟨⟨hS44.cell 0 rfl 4 rfl, hS44.cell 0 rfl 5 rfl, trivial⟩, ?_⟩
   obtain ⟨t45, ht59, hx32⟩ := bind_some hx32
   refine WL.call (some 63) 30 #[(.agg e2)] (fun fb => by kernel_rfl) (beatty_of_calls p0.High t45 _ ht59) (fun v w60 hR61 => ?_)
   obtain ⟨rfl, hk_⟩ := hR61
   have hS62 := hS44.keepN hk_
   refine ⟨trivial, ?_⟩
   refine WL.new hS62 4 [] (fun g => (pt g)) (.cells e4 70 (0, 0)) [] (fun fb g => by kernel_rfl) trivial (fun g63 w84 hS85 => ?_)
   refine ⟨⟨hS85.cell 1 rfl 2 rfl, hS85.cell 1 rfl 3 rfl, hS85.cell 1 rfl 4 rfl, hS85.cell 1 rfl 5 rfl, trivial⟩, ?_⟩
   refine WL.new hS85 5 [] (fun g => (pt g)) (.cells e4 70 (0, 0)) [] (fun fb g => by kernel_rfl) trivial (fun g86 w87 hS88 => ?_)
   refine ⟨⟨hS88.cell 2 rfl 2 rfl, hS88.cell 2 rfl 3 rfl, hS88.cell 2 rfl 4 rfl, hS88.cell 2 rfl 5 rfl, trivial⟩, ?_⟩
   refine WL.store hS88 1 rfl [(0, (iv t40.n)), (1, (iv t40.d))] #[(iv t40.n), (iv t40.d)] (fun fb => by kernel_rfl) (by kernel_rfl) rfl [0, 2] (by decide) (by decide) (fun w89 hS90 => ?_)
   refine ⟨trivial, ?_⟩
   refine WL.store hS90 1 rfl [(0, (iv t45.n)), (1, (iv t45.d))] #[(iv t45.n), (iv t45.d)] (fun fb => by kernel_rfl) (by kernel_rfl) rfl [0, 2] (by decide) (by decide) (fun w91 hS92 => ?_)
   refine ⟨trivial, ?_⟩
   refine WL.done rfl ?_
   injection hx32 with hx32
   exact WX.to Kx31 ((t40.n, t40.d, t45.n, t45.d), g63, g86) [4, 5] rfl ⟨(hS92.subR []).sub [1, 0] (by decide), hx32.symm⟩
  ·
   refine segF 4 [.v e7, .v e8, .v e5, .v e6] [59, 62] [(59, (.agg e3)), (62, (.agg e2))] [] e9 e1 (fun fb => by kernel_rfl) rfl trivial rfl ?_
   obtain ⟨t93, ht94, hx32⟩ := bind_some hx32
   refine WL.call (some 60) 30 #[(.agg e3)] (fun fb => by kernel_rfl) (beatty_of_calls p0.Low t93 _ ht94) (fun v w95 hR96 => ?_)
   obtain ⟨rfl, hk_⟩ := hR96
   have hS97 := hS34.keepN hk_
   refine ⟨⟨hS97.cell 0 rfl 4 rfl, hS97.cell 0 rfl 5 rfl, trivial⟩, ?_⟩
   obtain ⟨t98, ht99, hx32⟩ := bind_some hx32
   refine WL.call (some 63) 30 #[(.agg e2)] (fun fb => by kernel_rfl) (beatty_of_calls p0.High t98 _ ht99) (fun v w100 hR101 => ?_)
   obtain ⟨rfl, hk_⟩ := hR101
   have hS102 := hS97.keepN hk_
   refine ⟨trivial, ?_⟩
   refine WL.new hS102 5 [] (fun g => (pt g)) (.cells e4 70 (0, 0)) [] (fun fb g => by kernel_rfl) trivial (fun g103 w104 hS105 => ?_)
   refine ⟨⟨hS105.cell 1 rfl 2 rfl, hS105.cell 1 rfl 3 rfl, hS105.cell 1 rfl 4 rfl, hS105.cell 1 rfl 5 rfl, trivial⟩, ?_⟩
   refine WL.new hS105 4 [] (fun g => (pt g)) (.cells e4 70 (0, 0)) [] (fun fb g => by kernel_rfl) trivial (fun g106 w107 hS108 => ?_)
   refine ⟨⟨hS108.cell 2 rfl 2 rfl, hS108.cell 2 rfl 3 rfl, hS108.cell 2 rfl 4 rfl, hS108.cell 2 rfl 5 rfl, trivial⟩, ?_⟩
   refine WL.store hS108 0 rfl [(0, (iv t93.n)), (1, (iv t93.d))] #[(iv t93.n), (iv t93.d)] (fun fb => by kernel_rfl) (by kernel_rfl) rfl [1, 2] (by decide) (by decide) (fun w109 hS110 => ?_)
   refine ⟨trivial, ?_⟩
   refine WL.store hS110 1 rfl [(0, (iv t98.n)), (1, (iv t98.d))] #[(iv t98.n), (iv t98.d)] (fun fb => by kernel_rfl) (by kernel_rfl) rfl [0, 2] (by decide) (by decide) (fun w111 hS112 => ?_)
   refine ⟨trivial, ?_⟩
   refine WL.done rfl ?_
   injection hx32 with hx32
   exact WX.to Kx31 ((t93.n, t93.d, t98.n, t98.d), g106, g103) [4, 5] rfl ⟨(hS112.subR []).sub [1, 0] (by decide), hx32.symm⟩
  ·
   refine segF 4 [.v e7, .v e8, .v e5, .v e6] [59, 62] [(59, (.agg e3)), (62, (.agg e2))] [] e9 e1 (fun fb => by kernel_rfl) rfl trivial rfl ?_
   obtain ⟨t113, ht114, hx32⟩ := bind_some hx32
   refine WL.call (some 60) 30 #[(.agg e3)] (fun fb => by kernel_rfl) (beatty_of_calls p0.Low t113 _ ht114) (fun v w115 hR116 => ?_)
   obtain ⟨rfl, hk_⟩ := hR116
   have hS117 := hS34.keepN hk_
   refine ⟨⟨hS117.cell 0 rfl 4 rfl, hS117.cell 0 rfl 5 rfl, trivial⟩, ?_⟩
   refine WL.new hS117 4 [] (fun g => (pt g)) (.cells e4 70 (0, 0)) [] (fun fb g => by kernel_rfl) trivial (fun g118 w119 hS120 => ?_)
   refine ⟨⟨hS120.cell 1 rfl 2 rfl, hS120.cell 1 rfl 3 rfl, hS120.cell 1 rfl 4 rfl, hS120.cell 1 rfl 5 rfl, trivial⟩, ?_⟩
   obtain ⟨t121, ht122, hx32⟩ := bind_some hx32
   refine WL.call (some 63) 30 #[(.agg e2)] (fun fb => by kernel_rfl) (beatty_of_calls p0.High t121 _ ht122) (fun v w123 hR124 => ?_)
   obtain ⟨rfl, hk_⟩ := hR124
   have hS125 := hS120.keepN hk_
   refine ⟨trivial, ?_⟩
   refine WL.new hS125 5 [] (fun g => (pt g)) (.cells e4 70 (0, 0)) [] (fun fb g => by kernel_rfl) trivial (fun g126 w127 hS128 => ?_)
   refine ⟨⟨hS128.cell 2 rfl 2 rfl, hS128.cell 2 rfl 3 rfl, hS128.cell 2 rfl 4 rfl, hS128.cell 2 rfl 5 rfl, trivial⟩, ?_⟩
   refine WL.store hS128 1 rfl [(0, (iv t113.n)), (1, (iv t113.d))] #[(iv t113.n), (iv t113.d)] (fun fb => by kernel_rfl) (by kernel_rfl) rfl [0, 2] (by decide) (by decide) (fun w129 hS130 => ?_)
   refine ⟨trivial, ?_⟩
   refine WL.store hS130 1 rfl [(0, (iv t121.n)), (1, (iv t121.d))] #[(iv t121.n), (iv t121.d)] (fun fb => by kernel_rfl) (by kernel_rfl) rfl [0, 2] (by decide) (by decide) (fun w131 hS132 => ?_)
   refine ⟨trivial, ?_⟩
   refine WL.done rfl ?_
   injection hx32 with hx32
   exact WX.to Kx31 ((t113.n, t113.d, t121.n, t121.d), g118, g126) [4, 5] rfl ⟨(hS132.subR []).sub [1, 0] (by decide), hx32.symm⟩
  ·
   refine segF 4 [.v e7, .v e8, .v e5, .v e6] [59, 62] [(59, (.agg e3)), (62, (.agg e2))] [] e9 e1 (fun fb => by kernel_rfl) rfl trivial rfl ?_
   obtain ⟨t133, ht134, hx32⟩ := bind_some hx32
   refine WL.call (some 60) 30 #[(.agg e3)] (fun fb => by kernel_rfl) (beatty_of_calls p0.Low t133 _ ht134) (fun v w135 hR136 => ?_)
   obtain ⟨rfl, hk_⟩ := hR136
   have hS137 := hS34.keepN hk_
   refine ⟨⟨hS137.cell 0 rfl 4 rfl, hS137.cell 0 rfl 5 rfl, trivial⟩, ?_⟩
   refine WL.new hS137 4 [] (fun g => (pt g)) (.cells e4 70 (0, 0)) [] (fun fb g => by kernel_rfl) trivial (fun g138 w139 hS140 => ?_)
   refine ⟨⟨hS140.cell 1 rfl 2 rfl, hS140.cell 1 rfl 3 rfl, hS140.cell 1 rfl 4 rfl, hS140.cell 1 rfl 5 rfl, trivial⟩, ?_⟩
   refine WL.new hS140 5 [] (fun g => (pt g)) (.cells e4 70 (0, 0)) [] (fun fb g => by kernel_rfl) trivial (fun g141 w142 hS143 => ?_)
   refine ⟨⟨hS143.cell 2 rfl 2 rfl, hS143.cell 2 rfl 3 rfl, hS143.cell 2 rfl 4 rfl, hS143.cell 2 rfl 5 rfl, trivial⟩, ?_⟩
   obtain ⟨t144, ht145, hx32⟩ := bind_some hx32
   refine WL.call (some 63) 30 #[(.agg e2)] (fun fb => by kernel_rfl) (beatty_of_calls p0.High t144 _ ht145) (fun v w146 hR147 => ?_)
   obtain ⟨rfl, hk_⟩ := hR147
   have hS148 := hS143.keepN hk_
   refine ⟨trivial, ?_⟩
   refine WL.store hS148 1 rfl [(0, (iv t133.n)), (1, (iv t133.d))] #[(iv t133.n), (iv t133.d)] (fun fb => by kernel_rfl) (by kernel_rfl) rfl [0, 2] (by decide) (by decide) (fun w149 hS150 => ?_)
   refine ⟨trivial, ?_⟩
   refine WL.store hS150 1 rfl [(0, (iv t144.n)), (1, (iv t144.d))] #[(iv t144.n), (iv t144.d)] (fun fb => by kernel_rfl) (by kernel_rfl) rfl [0, 2] (by decide) (by decide) (fun w151 hS152 => ?_)
   refine ⟨trivial, ?_⟩
   refine WL.done rfl ?_
   injection hx32 with hx32
   exact WX.to Kx31 ((t133.n, t133.d, t144.n, t144.d), g138, g141) [4, 5] rfl ⟨(hS152.subR []).sub [1, 0] (by decide), hx32.symm⟩
  ·
   refine segF 4 [.v e7, .v e8, .v e5, .v e6] [59, 62] [(59, (.agg e3)), (62, (.agg e2))] [] e9 e1 (fun fb => by kernel_rfl) rfl trivial rfl ?_
   obtain ⟨t153, ht154, hx32⟩ := bind_some hx32
   refine WL.call (some 60) 30 #[(.agg e3)] (fun fb => by kernel_rfl) (beatty_of_calls p0.Low t153 _ ht154) (fun v w155 hR156 => ?_)
   obtain ⟨rfl, hk_⟩ := hR156
   have hS157 := hS34.keepN hk_
   refine ⟨⟨hS157.cell 0 rfl 4 rfl, hS157.cell 0 rfl 5 rfl, trivial⟩, ?_⟩
   refine WL.new hS157 5 [] (fun g => (pt g)) (.cells e4 70 (0, 0)) [] (fun fb g => by kernel_rfl) trivial (fun g158 w159 hS160 => ?_)
   refine ⟨⟨hS160.cell 1 rfl 2 rfl, hS160.cell 1 rfl 3 rfl, hS160.cell 1 rfl 4 rfl, hS160.cell 1 rfl 5 rfl, trivial⟩, ?_⟩
   obtain ⟨t161, ht162, hx32⟩ := bind_some hx32
   refine WL.call (some 63) 30 #[(.agg e2)] (fun fb => by kernel_rfl) (beatty_of_calls p0.High t161 _ ht162) (fun v w163 hR164 => ?_)
   obtain ⟨rfl, hk_⟩ := hR164
   have hS165 := hS160.keepN hk_
   refine ⟨trivial, ?_⟩
   refine WL.new hS165 4 [] (fun g => (pt g)) (.cells e4 70 (0, 0)) [] (fun fb g => by kernel_rfl) trivial (fun g166 w167 hS168 => ?_)
   refine ⟨⟨hS168.cell 2 rfl 2 rfl, hS168.cell 2 rfl 3 rfl, hS168.cell 2 rfl 4 rfl, hS168.cell 2 rfl 5 rfl, trivial⟩, ?_⟩
   refine WL.store hS168 0 rfl [(0, (iv t153.n)), (1, (iv t153.d))] #[(iv t153.n), (iv t153.d)] (fun fb => by kernel_rfl) (by kernel_rfl) rfl [1, 2] (by decide) (by decide) (fun w169 hS170 => ?_)
   refine ⟨trivial, ?_⟩
   refine WL.store hS170 1 rfl [(0, (iv t161.n)), (1, (iv t161.d))] #[(iv t161.n), (iv t161.d)] (fun fb => by kernel_rfl) (by kernel_rfl) rfl [0, 2] (by decide) (by decide) (fun w171 hS172 => ?_)
   refine ⟨trivial, ?_⟩
   refine WL.done rfl ?_
   injection hx32 with hx32
   exact WX.to Kx31 ((t153.n, t153.d, t161.n, t161.d), g166, g158) [4, 5] rfl ⟨(hS172.subR []).sub [1, 0] (by decide), hx32.symm⟩
  ·
   refine segF 4 [.v e7, .v e8, .v e5, .v e6] [59, 62] [(59, (.agg e3)), (62, (.agg e2))] [] e9 e1 (fun fb => by kernel_rfl) rfl trivial rfl ?_
   obtain ⟨t173, ht174, hx32⟩ := bind_some hx32
   refine WL.call (some 60) 30 #[(.agg e3)] (fun fb => by kernel_rfl) (beatty_of_calls p0.Low t173 _ ht174) (fun v w175 hR176 => ?_)
   obtain ⟨rfl, hk_⟩ := hR176
   have hS177 := hS34.keepN hk_
   refine ⟨⟨hS177.cell 0 rfl 4 rfl, hS177.cell 0 rfl 5 rfl, trivial⟩, ?_⟩
   refine WL.new hS177 5 [] (fun g => (pt g)) (.cells e4 70 (0, 0)) [] (fun fb g => by kernel_rfl) trivial (fun g178 w179 hS180 => ?_)
   refine ⟨⟨hS180.cell 1 rfl 2 rfl, hS180.cell 1 rfl 3 rfl, hS180.cell 1 rfl 4 rfl, hS180.cell 1 rfl 5 rfl, trivial⟩, ?_⟩
   refine WL.new hS180 4 [] (fun g => (pt g)) (.cells e4 70 (0, 0)) [] (fun fb g => by kernel_rfl) trivial (fun g181 w182 hS183 => ?_)
   refine ⟨⟨hS183.cell 2 rfl 2 rfl, hS183.cell 2 rfl 3 rfl, hS183.cell 2 rfl 4 rfl, hS183.cell 2 rfl 5 rfl, trivial⟩, ?_⟩
   obtain ⟨t184, ht185, hx32⟩ := bind_some hx32
   refine WL.call (some 63) 30 #[(.agg e2)] (fun fb => by kernel_rfl) (beatty_of_calls p0.High t184 _ ht185) (fun v w186 hR187 => ?_)
   obtain ⟨rfl, hk_⟩ := hR187
   have hS188 := hS183.keepN hk_
   refine ⟨trivial, ?_⟩
   refine WL.store hS188 0 rfl [(0, (iv t173.n)), (1, (iv t173.d))] #[(iv t173.n), (iv t173.d)] (fun fb => by kernel_rfl) (by kernel_rfl) rfl [1, 2] (by decide) (by decide) (fun w189 hS190 => ?_)
   refine ⟨trivial, ?_⟩
   refine WL.store hS190 1 rfl [(0, (iv t184.n)), (1, (iv t184.d))] #[(iv t184.n), (iv t184.d)] (fun fb => by kernel_rfl) (by kernel_rfl) rfl [0, 2] (by decide) (by decide) (fun w191 hS192 => ?_)
   refine ⟨trivial, ?_⟩
   refine WL.done rfl ?_
   injection hx32 with hx32
   exact WX.to Kx31 ((t173.n, t173.d, t184.n, t184.d), g181, g178) [4, 5] rfl ⟨(hS192.subR []).sub [1, 0] (by decide), hx32.symm⟩
  ·
   refine segF 4 [.v e7, .v e8, .v e5, .v e6] [59, 62] [(59, (.agg e3)), (62, (.agg e2))] [] e9 e1 (fun fb => by kernel_rfl) rfl trivial rfl ?_
   refine WL.new hS34 4 [] (fun g => (pt g)) (.cells e4 70 (0, 0)) [] (fun fb g => by kernel_rfl) trivial (fun g193 w194 hS195 => ?_)
   refine ⟨⟨hS195.cell 1 rfl 2 rfl, hS195.cell 1 rfl 3 rfl, hS195.cell 1 rfl 4 rfl, hS195.cell 1 rfl 5 rfl, trivial⟩, ?_⟩
   obtain ⟨t196, ht197, hx32⟩ := bind_some hx32
   refine WL.call (some 60) 30 #[(.agg e3)] (fun fb => by kernel_rfl) (beatty_of_calls p0.Low t196 _ ht197) (fun v w198 hR199 => ?_)
   obtain ⟨rfl, hk_⟩ := hR199
   have hS200 := hS195.keepN hk_
   refine ⟨⟨hS200.cell 1 rfl 4 rfl, hS200.cell 1 rfl 5 rfl, trivial⟩, ?_⟩
   obtain ⟨t201, ht202, hx32⟩ := bind_some hx32
   refine WL.call (some 63) 30 #[(.agg e2)] (fun fb => by kernel_rfl) (beatty_of_calls p0.High t201 _ ht202) (fun v w203 hR204 => ?_)
   obtain ⟨rfl, hk_⟩ := hR204
   have hS205 := hS200.keepN hk_
   refine ⟨trivial, ?_⟩
   refine WL.new hS205 5 [] (fun g => (pt g)) (.cells e4 70 (0, 0)) [] (fun fb g => by kernel_rfl) trivial (fun g206 w207 hS208 => ?_)
   refine ⟨⟨hS208.cell 2 rfl 2 rfl, hS208.cell 2 rfl 3 rfl, hS208.cell 2 rfl 4 rfl, hS208.cell 2 rfl 5 rfl, trivial⟩, ?_⟩
   refine WL.store hS208 1 rfl [(0, (iv t196.n)), (1, (iv t196.d))] #[(iv t196.n), (iv t196.d)] (fun fb => by kernel_rfl) (by kernel_rfl) rfl [0, 2] (by decide) (by decide) (fun w209 hS210 => ?_)
   refine ⟨trivial, ?_⟩
   refine WL.store hS210 1 rfl [(0, (iv t201.n)), (1, (iv t201.d))] #[(iv t201.n), (iv t201.d)] (fun fb => by kernel_rfl) (by kernel_rfl) rfl [0, 2] (by decide) (by decide) (fun w211 hS212 => ?_)
   refine ⟨trivial, ?_⟩
   refine WL.done rfl ?_
   injection hx32 with hx32
   exact WX.to Kx31 ((t196.n, t196.d, t201.n, t201.d), g193, g206) [4, 5] rfl ⟨(hS212.subR []).sub [1, 0] (by decide), hx32.symm⟩
  ·
   refine segF 4 [.v e7, .v e8, .v e5, .v e6] [59, 62] [(59, (.agg e3)), (62, (.agg e2))] [] e9 e1 (fun fb => by kernel_rfl) rfl trivial rfl ?_
   refine WL.new hS34 4 [] (fun g => (pt g)) (.cells e4 70 (0, 0)) [] (fun fb g => by kernel_rfl) trivial (fun g213 w214 hS215 => ?_)
   refine ⟨⟨hS215.cell 1 rfl 2 rfl, hS215.cell 1 rfl 3 rfl, hS215.cell 1 rfl 4 rfl, hS215.cell 1 rfl 5 rfl, trivial⟩, ?_⟩
   obtain ⟨t216, ht217, hx32⟩ := bind_some hx32
   refine WL.call (some 60) 30 #[(.agg e3)] (fun fb => by kernel_rfl) (beatty_of_calls p0.Low t216 _ ht217) (fun v w218 hR219 => ?_)
   obtain ⟨rfl, hk_⟩ := hR219
   have hS220 := hS215.keepN hk_
   refine ⟨⟨hS220.cell 1 rfl 4 rfl, hS220.cell 1 rfl 5 rfl, trivial⟩, ?_⟩
   refine WL.new hS220 5 [] (fun g => (pt g)) (.cells e4 70 (0, 0)) [] (fun fb g => by kernel_rfl) trivial (fun g221 w222 hS223 => ?_)
   refine ⟨⟨hS223.cell 2 rfl 2 rfl, hS223.cell 2 rfl 3 rfl, hS223.cell 2 rfl 4 rfl, hS223.cell 2 rfl 5 rfl, trivial⟩, ?_⟩
   obtain ⟨t224, ht225, hx32⟩ := bind_some hx32
   refine WL.call (some 63) 30 #[(.agg e2)] (fun fb => by kernel_rfl) (beatty_of_calls p0.High t224 _ ht225) (fun v w226 hR227 => ?_)
   obtain ⟨rfl, hk_⟩ := hR227
   have hS228 := hS223.keepN hk_
   refine ⟨trivial, ?_⟩
   refine WL.store hS228 1 rfl [(0, (iv t216.n)), (1, (iv t216.d))] #[(iv t216.n), (iv t216.d)] (fun fb => by kernel_rfl) (by kernel_rfl) rfl [0, 2] (by decide) (by decide) (fun w229 hS230 => ?_)
   refine ⟨trivial, ?_⟩
   refine WL.store hS230 1 rfl [(0, (iv t224.n)), (1, (iv t224.d))] #[(iv t224.n), (iv t224.d)] (fun fb => by kernel_rfl) (by kernel_rfl) rfl [0, 2] (by decide) (by decide) (fun w231 hS232 => ?_)
   refine ⟨trivial, ?_⟩
   refine WL.done rfl ?_
   injection hx32 with hx32
   exact WX.to Kx31 ((t216.n, t216.d, t224.n, t224.d), g213, g221) [4, 5] rfl ⟨(hS232.subR []).sub [1, 0] (by decide), hx32.symm⟩
  ·
   refine segF 4 [.v e7, .v e8, .v e5, .v e6] [59, 62] [(59, (.agg e3)), (62, (.agg e2))] [] e9 e1 (fun fb => by kernel_rfl) rfl trivial rfl ?_
   refine WL.new hS34 4 [] (fun g => (pt g)) (.cells e4 70 (0, 0)) [] (fun fb g => by kernel_rfl) trivial (fun g233 w234 hS235 => ?_)
   refine ⟨⟨hS235.cell 1 rfl 2 rfl, hS235.cell 1 rfl 3 rfl, hS235.cell 1 rfl 4 rfl, hS235.cell 1 rfl 5 rfl, trivial⟩, ?_⟩
   refine WL.new hS235 5 [] (fun g => (pt g)) (.cells e4 70 (0, 0)) [] (fun fb g => by kernel_rfl) trivial (fun g236 w237 hS238 => ?_)
   refine ⟨⟨hS238.cell 2 rfl 2 rfl, hS238.cell 2 rfl 3 rfl, hS238.cell 2 rfl 4 rfl, hS238.cell 2 rfl 5 rfl, trivial⟩, ?_⟩
   obtain ⟨t239, ht240, hx32⟩ := bind_some hx32
   refine WL.call (some 60) 30 #[(.agg e3)] (fun fb => by kernel_rfl) (beatty_of_calls p0.Low t239 _ ht240) (fun v w241 hR242 => ?_)
   obtain ⟨rfl, hk_⟩ := hR242
   have hS243 := hS238.keepN hk_
   refine ⟨⟨hS243.cell 2 rfl 4 rfl, hS243.cell 2 rfl 5 rfl, trivial⟩, ?_⟩
   obtain ⟨t244, ht245, hx32⟩ := bind_some hx32
   refine WL.call (some 63) 30 #[(.agg e2)] (fun fb => by kernel_rfl) (beatty_of_calls p0.High t244 _ ht245) (fun v w246 hR247 => ?_)
   obtain ⟨rfl, hk_⟩ := hR247
   have hS248 := hS243.keepN hk_
   refine ⟨trivial, ?_⟩
   refine WL.store hS248 1 rfl [(0, (iv t239.n)), (1, (iv t239.d))] #[(iv t239.n), (iv t239.d)] (fun fb => by kernel_rfl) (by kernel_rfl) rfl [0, 2] (by decide) (by decide) (fun w249 hS250 => ?_)
   refine ⟨trivial, ?_⟩
   refine WL.store hS250 1 rfl [(0, (iv t244.n)), (1, (iv t244.d))] #[(iv t244.n), (iv t244.d)] (fun fb => by kernel_rfl) (by kernel_rfl) rfl [0, 2] (by decide) (by decide) (fun w251 hS252 => ?_)
   refine ⟨trivial, ?_⟩
   refine WL.done rfl ?_
   injection hx32 with hx32
   exact WX.to Kx31 ((t239.n, t239.d, t244.n, t244.d), g233, g236) [4, 5] rfl ⟨(hS252.subR []).sub [1, 0] (by decide), hx32.symm⟩
  ·
   refine segF 4 [.v e7, .v e8, .v e5, .v e6] [59, 62] [(59, (.agg e3)), (62, (.agg e2))] [] e9 e1 (fun fb => by kernel_rfl) rfl trivial rfl ?_
   refine WL.new hS34 5 [] (fun g => (pt g)) (.cells e4 70 (0, 0)) [] (fun fb g => by kernel_rfl) trivial (fun g253 w254 hS255 => ?_)
   refine ⟨⟨hS255.cell 1 rfl 2 rfl, hS255.cell 1 rfl 3 rfl, hS255.cell 1 rfl 4 rfl, hS255.cell 1 rfl 5 rfl, trivial⟩, ?_⟩
   obtain ⟨t256, ht257, hx32⟩ := bind_some hx32
   refine WL.call (some 60) 30 #[(.agg e3)] (fun fb => by kernel_rfl) (beatty_of_calls p0.Low t256 _ ht257) (fun v w258 hR259 => ?_)
   obtain ⟨rfl, hk_⟩ := hR259
   have hS260 := hS255.keepN hk_
   refine ⟨⟨hS260.cell 1 rfl 4 rfl, hS260.cell 1 rfl 5 rfl, trivial⟩, ?_⟩
   obtain ⟨t261, ht262, hx32⟩ := bind_some hx32
   refine WL.call (some 63) 30 #[(.agg e2)] (fun fb => by kernel_rfl) (beatty_of_calls p0.High t261 _ ht262) (fun v w263 hR264 => ?_)
   obtain ⟨rfl, hk_⟩ := hR264
   have hS265 := hS260.keepN hk_
   refine ⟨trivial, ?_⟩
   refine WL.new hS265 4 [] (fun g => (pt g)) (.cells e4 70 (0, 0)) [] (fun fb g => by kernel_rfl) trivial (fun g266 w267 hS268 => ?_)
   refine ⟨⟨hS268.cell 2 rfl 2 rfl, hS268.cell 2 rfl 3 rfl, hS268.cell 2 rfl 4 rfl, hS268.cell 2 rfl 5 rfl, trivial⟩, ?_⟩
   refine WL.store hS268 0 rfl [(0, (iv t256.n)), (1, (iv t256.d))] #[(iv t256.n), (iv t256.d)] (fun fb => by kernel_rfl) (by kernel_rfl) rfl [1, 2] (by decide) (by decide) (fun w269 hS270 => ?_)
   refine ⟨trivial, ?_⟩
   refine WL.store hS270 1 rfl [(0, (iv t261.n)), (1, (iv t261.d))] #[(iv t261.n), (iv t261.d)] (fun fb => by kernel_rfl) (by kernel_rfl) rfl [0, 2] (by decide) (by decide) (fun w271 hS272 => ?_)
   refine ⟨trivial, ?_⟩
   refine WL.done rfl ?_
   injection hx32 with hx32
   exact WX.to Kx31 ((t256.n, t256.d, t261.n, t261.d), g266, g253) [4, 5] rfl ⟨(hS272.subR []).sub [1, 0] (by decide), hx32.symm⟩
  ·
   refine segF 4 [.v e7, .v e8, .v e5, .v e6] [59, 62] [(59, (.agg e3)), (62, (.agg e2))] [] e9 e1 (fun fb => by kernel_rfl) rfl trivial rfl ?_
   refine WL.new hS34 5 [] (fun g => (pt g)) (.cells e4 70 (0, 0)) [] (fun fb g => by kernel_rfl) trivial (fun g273 w274 hS275 => ?_)
   refine ⟨⟨hS275.cell 1 rfl 2 rfl, hS275.cell 1 rfl 3 rfl, hS275.cell 1 rfl 4 rfl, hS275.cell 1 rfl 5 rfl, trivial⟩, ?_⟩
   obtain ⟨t276, ht277, hx32⟩ := bind_some hx32
   refine WL.call (some 60) 30 #[(.agg e3)] (fun fb => by kernel_rfl) (beatty_of_calls p0.Low t276 _ ht277) (fun v w278 hR279 => ?_)
   obtain ⟨rfl, hk_⟩ := hR279
   have hS280 := hS275.keepN hk_
   refine ⟨⟨hS280.cell 1 rfl 4 rfl, hS280.cell 1 rfl 5 rfl, trivial⟩, ?_⟩
   refine WL.new hS280 4 [] (fun g => (pt g)) (.cells e4 70 (0, 0)) [] (fun fb g => by kernel_rfl) trivial (fun g281 w282 hS283 => ?_)
   refine ⟨⟨hS283.cell 2 rfl 2 rfl, hS283.cell 2 rfl 3 rfl, hS283.cell 2 rfl 4 rfl, hS283.cell 2 rfl 5 rfl, trivial⟩, ?_⟩
   obtain ⟨t284, ht285, hx32⟩ := bind_some hx32
   refine WL.call (some 63) 30 #[(.agg e2)] (fun fb => by kernel_rfl) (beatty_of_calls p0.High t284 _ ht285) (fun v w286 hR287 => ?_)
   obtain ⟨rfl, hk_⟩ := hR287
   have hS288 := hS283.keepN hk_
   refine ⟨trivial, ?_⟩
   refine WL.store hS288 0 rfl [(0, (iv t276.n)), (1, (iv t276.d))] #[(iv t276.n), (iv t276.d)] (fun fb => by kernel_rfl) (by kernel_rfl) rfl [1, 2] (by decide) (by decide) (fun w289 hS290 => ?_)
   refine ⟨trivial, ?_⟩
   refine WL.store hS290 1 rfl [(0, (iv t284.n)), (1, (iv t284.d))] #[(iv t284.n), (iv t284.d)] (fun fb => by kernel_rfl) (by kernel_rfl) rfl [0, 2] (by decide) (by decide) (fun w291 hS292 => ?_)
   refine ⟨trivial, ?_⟩
   refine WL.done rfl ?_
   injection hx32 with hx32
   exact WX.to Kx31 ((t276.n, t276.d, t284.n, t284.d), g281, g273) [4, 5] rfl ⟨(hS292.subR []).sub [1, 0] (by decide), hx32.symm⟩
  refine segF 4 [.v e7, .v e8, .v e5, .v e6] [59, 62] [(59, (.agg e3)), (62, (.agg e2))] [] e9 e1 (fun fb => by kernel_rfl) rfl trivial rfl ?_
  refine WL.new hS34 5 [] (fun g => (pt g)) (.cells e4 70 (0, 0)) [] (fun fb g => by kernel_rfl) trivial (fun g293 w294 hS295 => ?_)
  refine ⟨⟨hS295.cell 1 rfl 2 rfl, hS295.cell 1 rfl 3 rfl, hS295.cell 1 rfl 4 rfl, hS295.cell 1 rfl 5 rfl, trivial⟩, ?_⟩
  refine WL.new hS295 4 [] (fun g => (pt g)) (.cells e4 70 (0, 0)) [] (fun fb g => by kernel_rfl) trivial (fun g296 w297 hS298 => ?_)
  refine ⟨⟨hS298.cell 2 rfl 2 rfl, hS298.cell 2 rfl 3 rfl, hS298.cell 2 rfl 4 rfl, hS298.cell 2 rfl 5 rfl, trivial⟩, ?_⟩
  obtain ⟨t299, ht300, hx32⟩ := bind_some hx32
  refine WL.call (some 60) 30 #[(.agg e3)] (fun fb => by kernel_rfl) (beatty_of_calls p0.Low t299 _ ht300) (fun v w301 hR302 => ?_)
  obtain ⟨rfl, hk_⟩ := hR302
  have hS303 := hS298.keepN hk_
  refine ⟨⟨hS303.cell 2 rfl 4 rfl, hS303.cell 2 rfl 5 rfl, trivial⟩, ?_⟩
  obtain ⟨t304, ht305, hx32⟩ := bind_some hx32
  refine WL.call (some 63) 30 #[(.agg e2)] (fun fb => by kernel_rfl) (beatty_of_calls p0.High t304 _ ht305) (fun v w306 hR307 => ?_)
  obtain ⟨rfl, hk_⟩ := hR307
  have hS308 := hS303.keepN hk_
  refine ⟨trivial, ?_⟩
  refine WL.store hS308 0 rfl [(0, (iv t299.n)), (1, (iv t299.d))] #[(iv t299.n), (iv t299.d)] (fun fb => by kernel_rfl) (by kernel_rfl) rfl [1, 2] (by decide) (by decide) (fun w309 hS310 => ?_)
  refine ⟨trivial, ?_⟩
  refine WL.store hS310 1 rfl [(0, (iv t304.n)), (1, (iv t304.d))] #[(iv t304.n), (iv t304.d)] (fun fb => by kernel_rfl) (by kernel_rfl) rfl [0, 2] (by decide) (by decide) (fun w311 hS312 => ?_)
  refine ⟨trivial, ?_⟩
  refine WL.done rfl ?_
  injection hx32 with hx32
  exact WX.to Kx31 ((t299.n, t299.d, t304.n, t304.d), g296, g293) [4, 5] rfl ⟨(hS312.subR []).sub [1, 0] (by decide), hx32.symm⟩
 rintro ⟨y316, g29, g30⟩ w313 ⟨hS314, hq315⟩
 subst hq315
 refine WX.next (WC.seq (WC.region ?_))
 refine seg 4 [.v (iv x31.1)] [4, 5, 67] [(4, (pt g29)), (5, (pt g30)), (67, (bv (decide (x31.1 ≥ 0))))] [.cell ⟨g29, 0, none⟩ (iv x31.1)] (fun fb => by kernel_rfl) rfl ⟨hS314.cell 0 rfl 0 rfl, trivial⟩ ?_
 obtain ⟨x317, hx318, hf⟩ := bind_some hf
 let e12 : Array Value := #[(iv x31.2.2.1), (iv x31.2.2.2)]
 refine WL.cutW (T := Bool) 8 (fun t => [(5, (pt g30)), (71, (bv t))]) (fun t w1 => (St NoS w w1 [] [blk g30 (.cells e12 70 (0, 0))] ∧ x317 = t) ∧ CellsOK [] w1) (fun K => ?_) ?_
 ·
  rcases br_some hx318 with ⟨h319, hx318⟩ | ⟨h319, hx318⟩
  ·
   refine WL.setB 67 h319 rfl ?_
   refine seg 6 [.v (iv x31.1), .v (iv x31.2.1), .v (iv x31.2.2.1), .v (iv x31.2.2.2)] [5, 67, 68, 69] [(5, (pt g30)), (67, (bv true)), (68, (.agg #[(iv x31.1), (iv x31.2.1)])), (69, (.agg e12))] [.cell ⟨g29, 0, none⟩ (iv x31.1), .cell ⟨g29, 1, none⟩ (iv x31.2.1), .cell ⟨g30, 0, none⟩ (iv x31.2.2.1), .cell ⟨g30, 1, none⟩ (iv x31.2.2.2)] (fun fb => by kernel_rfl) rfl ⟨hS314.cell 0 rfl 0 rfl, hS314.cell 0 rfl 1 rfl, hS314.cell 1 rfl 0 rfl, hS314.cell 1 rfl 1 rfl, trivial⟩ ?_
   obtain ⟨t320, ht321, hx318⟩ := bind_some hx318
   refine WL.call (some 70) 32 #[(.agg #[(iv x31.1), (iv x31.2.1)]), (.agg e12)] (fun fb => by kernel_rfl) (beatty_ratio_less_calls (Ratio.mk x31.1 x31.2.1) (Ratio.mk x31.2.2.1 x31.2.2.2) t320 _ ht321) (fun v w322 hR323 => ?_)
   obtain ⟨rfl, hk_⟩ := hR323
   have hS324 := hS314.keepN hk_
   refine ⟨trivial, ?_⟩
   refine sg 8 [] [5, 71] [(5, (pt g30)), (71, (bv t320))] (by kernel_rfl) ?_
   injection hx318 with hx318
   exact WL.to K t320 [5, 71] rfl ⟨⟨(hS324.subR []).sub [1] (by decide), hx318.symm⟩, trivial⟩
  refine WL.setB 67 h319 rfl ?_
  refine sg 8 [] [5, 71] [(5, (pt g30)), (71, (bv false))] (by kernel_rfl) ?_
  injection hx318 with hx318
  exact WL.to K false [5, 71] rfl ⟨⟨(hS314.subR []).sub [1] (by decide), hx318.symm⟩, trivial⟩
 rintro y325 w327 ⟨⟨hS328, hq326⟩, hF329⟩
 subst hq326
 refine sg 9 [] [5, 72] [(5, (pt g30)), (72, (bv x317))] (by kernel_rfl) ?_
 obtain ⟨x330, hx331, hf⟩ := bind_some hf
 refine WL.cutW (T := Bool) 14 (fun t => [(77, (bv t))]) (fun t w1 => (St NoS w w1 [] [] ∧ x330 = t) ∧ CellsOK [] w1) (fun K => ?_) ?_
 ·
  rcases br_some hx331 with ⟨h332, hx331⟩ | ⟨h332, hx331⟩
  ·
   refine WL.setB 72 h332 rfl ?_
   refine seg 11 [.v (iv x31.2.2.1), .v (iv x31.2.2.2)] [72, 73, 74] [(72, (bv true)), (73, (.agg #[(iv 12), (iv 1)])), (74, (.agg e12))] [.cell ⟨g30, 0, none⟩ (iv x31.2.2.1), .cell ⟨g30, 1, none⟩ (iv x31.2.2.2)] (fun fb => by kernel_rfl) rfl ⟨hS328.cell 0 rfl 0 rfl, hS328.cell 0 rfl 1 rfl, trivial⟩ ?_
   obtain ⟨t333, ht334, hx331⟩ := bind_some hx331
   refine WL.call (some 75) 32 #[(.agg #[(iv 12), (iv 1)]), (.agg e12)] (fun fb => by kernel_rfl) (beatty_ratio_less_calls (Ratio.mk 12 1) (Ratio.mk x31.2.2.1 x31.2.2.2) t333 _ ht334) (fun v w335 hR336 => ?_)
   obtain ⟨rfl, hk_⟩ := hR336
   have hS337 := hS328.keepN hk_
   refine ⟨trivial, ?_⟩
   refine sg 14 [] [77] [(77, (bv (!t333)))] (by kernel_rfl) ?_
   injection hx331 with hx331
   exact WL.to K (!t333) [77] rfl ⟨⟨(hS337.subR []).sub [] (by decide), hx331.symm⟩, trivial⟩
  refine WL.setB 72 h332 rfl ?_
  refine sg 14 [] [77] [(77, (bv false))] (by kernel_rfl) ?_
  injection hx331 with hx331
  exact WL.to K false [77] rfl ⟨⟨(hS328.subR []).sub [] (by decide), hx331.symm⟩, trivial⟩
 rintro y338 w340 ⟨⟨hS341, hq339⟩, hF342⟩
 subst hq339
 refine sg 15 [] [2] [(2, (bv x330))] (by kernel_rfl) ?_
 refine WL.done rfl (WX.next ?_)
 refine WC.ret ?_
 injection hf with hf
 subst hf
 exact WX.ret_ [] (bv x330) [] (fun fb => by kernel_rfl) trivial ⟨_, rfl, rfl, hS341.keep⟩
theorem beatty_Valid_1_calls (k : Nat) (p0 : Piece)  (r : Bool) (w : World)  (hf : beatty_Valid_1 k p0 = some r) :
  CallsR Tryz.prog 37 #[(.agg #[(iv p0.Factor.Num), (iv p0.Factor.Den), (iv p0.Low.Num), (iv p0.Low.Den), (iv p0.High.Num), (iv p0.High.Den)])] w (fun v w' => v = (bv r) ∧ Keeps NoS w w') := by
 have hS : St NoS w w [] [] := St.init (ro_nil _ _)
 refine enter 6 Tryz.func37 rfl Tryz.ntmps37 rfl ?_
 unfold beatty_Valid_1 at hf
 refine WC.seq (WC.region ?_)
 refine WL.new hS 1 [] (fun g => (pt g)) (.cells #[(iv p0.Factor.Num), (iv p0.Factor.Den), (iv p0.Low.Num), (iv p0.Low.Den), (iv p0.High.Num), (iv p0.High.Den)] 66 (0, 0)) [] (fun fb g => by kernel_rfl) trivial (fun g11 w12 hS13 => ?_)
 refine ⟨trivial, ?_⟩
 refine sg 2 [] [1] [(1, (pt g11))] (by kernel_rfl) ?_
 refine WL.done rfl (WX.next (WC.seq (WC.region ?_)))
 refine seg 1 [.v (iv p0.Factor.Num), .v (iv p0.Factor.Den), .v (iv p0.Low.Num), .v (iv p0.Low.Den), .v (iv p0.High.Num), .v (iv p0.High.Den)] [3] [(3, (.agg #[(iv p0.Factor.Num), (iv p0.Factor.Den), (iv p0.Low.Num), (iv p0.Low.Den), (iv p0.High.Num), (iv p0.High.Den)]))] [.cell ⟨g11, 0, none⟩ (iv p0.Factor.Num), .cell ⟨g11, 1, none⟩ (iv p0.Factor.Den), .cell ⟨g11, 2, none⟩ (iv p0.Low.Num), .cell ⟨g11, 3, none⟩ (iv p0.Low.Den), .cell ⟨g11, 4, none⟩ (iv p0.High.Num), .cell ⟨g11, 5, none⟩ (iv p0.High.Den)] (fun fb => by kernel_rfl) rfl ⟨hS13.cell 0 rfl 0 rfl, hS13.cell 0 rfl 1 rfl, hS13.cell 0 rfl 2 rfl, hS13.cell 0 rfl 3 rfl, hS13.cell 0 rfl 4 rfl, hS13.cell 0 rfl 5 rfl, trivial⟩ ?_
 obtain ⟨t2, ht3, hf⟩ := bind_some hf
 refine WL.call (some 4) 38 #[(.agg #[(iv p0.Factor.Num), (iv p0.Factor.Den), (iv p0.Low.Num), (iv p0.Low.Den), (iv p0.High.Num), (iv p0.High.Den)])] (fun fb => by kernel_rfl) (beatty_valid_calls _ p0 t2 _ ht3) (fun v w4 hR5 => ?_)
 obtain ⟨rfl, hk_⟩ := hR5
 have hS6 := hS13.keepN hk_
 refine ⟨trivial, ?_⟩
 refine sg 4 [] [2] [(2, (bv (!t2)))] (by kernel_rfl) ?_
 refine WL.done rfl (WX.next ?_)
 refine WC.ret ?_
 injection hf with hf
 subst hf
 exact WX.ret_ [] (bv (!t2)) [] (fun fb => by kernel_rfl) trivial ⟨_, rfl, rfl, hS6.keep⟩
theorem slices_IndexFunc_api_Piece_api_Piece_with_beatty_Valid_1_calls (k : Nat) (p0 : List Piece) (Aa : Option Addr) (ca : Nat) (r : Int) (w : World) (hR0 : RO NoS w (rowR enc_Piece Aa ca p0)) (hf : slices_IndexFunc_api_Piece_api_Piece_with_beatty_Valid_1 k p0 = some r) :
  CallsR Tryz.prog 33 #[(sv Aa p0 ca), (.func (.func 37) #[] #[])] w (fun v w' => v = (iv r) ∧ Keeps NoS w w') := by
 have hS : St NoS w w [rowR enc_Piece Aa ca p0] [] := St.init (ro_cons hR0 (ro_nil _ _))
 refine enter 19 Tryz.func33 rfl Tryz.ntmps33 rfl ?_
 unfold slices_IndexFunc_api_Piece_api_Piece_with_beatty_Valid_1 at hf
 refine WC.seq (WC.region ?_)
 refine sg 1 [] [0, 1] [(0, (sv Aa p0 ca)), (1, (.func (.func 37) #[] #[]))] (by kernel_rfl) ?_
 refine WL.done rfl (WX.next (WC.seq (WC.seq (WC.region ?_))))
 refine sg 3 [] [0, 1, 7, 8] [(0, (sv Aa p0 ca)), (1, (.func (.func 37) #[] #[])), (7, (iv (p0.length : Int))), (8, (iv 0))] (by kernel_rfl) ?_
 refine WL.done rfl (WX.next ?_)
 obtain ⟨x4, hx5, hf⟩ := bind_some hf
 let e4 : Nat × Value := (7, (iv (p0.length : Int)))
 let e5 : Nat × Value := (0, (sv Aa p0 ca))
 refine WC.cutN (T := Unit) (fun t => []) (fun t w1 => St NoS w w1 [rowR enc_Piece Aa ca p0] [] ∧ x4 = .inr t) (fun Kx4 => ?_) ?_
 ·
  refine WC.block ?_
  refine WC.loop (T := Int) (fun t => [e5, (1, (.func (.func 37) #[] #[])), e4, (8, (iv t))]) (fun n t w1 => St NoS w w1 [rowR enc_Piece Aa ca p0] [] ∧ slices_IndexFunc_api_Piece_api_Piece_with_beatty_Valid_1.l0 n t p0 = some x4) k 0 [0, 1, 7, 8] rfl ⟨(hS.subR [0]).sub [] (by decide), hx5⟩ ?_
  rintro k6 x3 w7 ⟨hS8, hl9⟩
  let e1 := rdD p0 x3 z_Piece
  let e2 := (adr Aa).add ((x3).toNat * 6)
  let e3 : Array Value := #[(iv ((e1.Factor).Num)), (iv ((e1.Factor).Den)), (iv ((e1.Low).Num)), (iv ((e1.Low).Den)), (iv ((e1.High).Num)), (iv ((e1.High).Den))]
  cases k6 with
  | zero => rw [slices_IndexFunc_api_Piece_api_Piece_with_beatty_Valid_1.l0] at hl9; cases hl9
  | succ k6 =>
   rw [slices_IndexFunc_api_Piece_api_Piece_with_beatty_Valid_1.l0] at hl9
   refine WC.seq (WC.region ?_)
   refine sg 1 [] [0, 1, 7, 8, 9] [e5, (1, (.func (.func 37) #[] #[])), e4, (8, (iv x3)), (9, (bv (decide (x3 < (p0.length : Int)))))] (by kernel_rfl) ?_
   refine WL.done rfl (WX.next (WC.seq ?_))
   rcases br_some hl9 with ⟨h10, hl9⟩ | ⟨h10, hl9⟩
   ·refine WC.condT2 (fun fb => by kernel_rfl) h10 ?_
    refine WC.skip (WX.next (WC.seq (WC.block (WC.seq (WC.region ?_)))))
    refine sg 2 [] [0, 1, 5, 7, 8] [e5, (1, (.func (.func 37) #[] #[])), (5, (iv x3)), e4, (8, (iv x3))] (by kernel_rfl) ?_
    refine WL.done rfl (WX.next (WC.seq (WC.region ?_)))
    refine sg 3 [] [0, 1, 5, 7, 8, 11, 12, 13] [e5, (1, (.func (.func 37) #[] #[])), (5, (iv x3)), e4, (8, (iv x3)), (11, (.func (.func 37) #[] #[])), (12, (sv Aa p0 ca)), (13, (iv x3))] (by kernel_rfl) ?_
    obtain ⟨h11, hl9⟩ := as_some hl9
    refine seg 5 [.v (iv ((e1.Factor).Num)), .v (iv ((e1.Factor).Den)), .v (iv ((e1.Low).Num)), .v (iv ((e1.Low).Den)), .v (iv ((e1.High).Num)), .v (iv ((e1.High).Den))] [0, 1, 5, 7, 8, 11, 15] [e5, (1, (.func (.func 37) #[] #[])), (5, (iv x3)), e4, (8, (iv x3)), (11, (.func (.func 37) #[] #[])), (15, (.agg e3))] [.idx Aa x3 p0.length, .cell e2 (iv ((e1.Factor).Num)), .cell (e2.add 1) (iv ((e1.Factor).Den)), .cell (e2.add 2) (iv ((e1.Low).Num)), .cell (e2.add 3) (iv ((e1.Low).Den)), .cell (e2.add 4) (iv ((e1.High).Num)), .cell (e2.add 5) (iv ((e1.High).Den))] (fun fb => by kernel_rfl) rfl ⟨rowR.adr (hS8.rd 0).1 h11.1 h11.2, rowR.cell (hS8.rd 0).1 z_Piece h11.1 h11.2 0 rfl, rowR.cell (hS8.rd 0).1 z_Piece h11.1 h11.2 1 rfl, rowR.cell (hS8.rd 0).1 z_Piece h11.1 h11.2 2 rfl, rowR.cell (hS8.rd 0).1 z_Piece h11.1 h11.2 3 rfl, rowR.cell (hS8.rd 0).1 z_Piece h11.1 h11.2 4 rfl, rowR.cell (hS8.rd 0).1 z_Piece h11.1 h11.2 5 rfl, trivial⟩ ?_
    obtain ⟨t12, ht13, hl9⟩ := bind_some hl9
    refine WL.call (some 16) 37 #[(.agg e3)] (fun fb => by kernel_rfl) (beatty_Valid_1_calls _ e1 t12 _ ht13) (fun v w14 hR15 => ?_)
    obtain ⟨rfl, hk_⟩ := hR15
    have hS16 := hS8.keepN hk_
    refine ⟨trivial, ?_⟩
    refine WL.done rfl (WX.next ?_)
    rcases br_some hl9 with ⟨h17, hl9⟩ | ⟨h17, hl9⟩
    ·refine WC.condT2 (fun fb => by kernel_rfl) h17 ?_
     refine WC.seq (WC.region ?_)
     refine sg 2 [] [4] [(4, (iv x3))] (by kernel_rfl) ?_
     refine WL.done rfl (WX.next ?_)
     refine WC.ret ?_
     injection hl9 with hl9
     subst hl9
     injection hf with hf
     subst hf
     exact WX.blockR (WX.thenR (WX.thenR (WX.blockR (WX.thenR (WX.ret_ [] (iv x3) [] (fun fb => by kernel_rfl) trivial ⟨_, rfl, rfl, hS16.keep⟩)))))
    refine WC.condF2 (fun fb => by kernel_rfl) h17 ?_
    refine WC.skip ?_
    refine WX.blockN (WX.next ?_)
    refine WC.region ?_
    refine sg 2 [] [0, 1, 7, 8] [e5, (1, (.func (.func 37) #[] #[])), e4, (8, (iv (w64 (x3 + 1))))] (by kernel_rfl) ?_
    refine WL.done rfl ?_
    exact WX.again k6 (Nat.lt_succ_self _) (w64 (x3 + 1)) [0, 1, 7, 8] rfl ⟨(hS16.subR [0]).sub [] (by decide), hl9⟩
   refine WC.condF2 (fun fb => by kernel_rfl) h10 ?_
   refine WC.exit ?_
   injection hl9 with hl9
   exact WX.thenX (WX.thenX (WX.blockHere (WX.to Kx4 () [] rfl ⟨(hS8.subR [0]).sub [] (by decide), hl9.symm⟩)))
 rintro y21 w18 ⟨hS19, hq20⟩
 subst hq20
 have hf := sum_inr hf
 refine WX.next (WC.seq (WC.region ?_))
 refine sg 1 [] [4] [(4, (iv (-1)))] (by kernel_rfl) ?_
 refine WL.done rfl (WX.next ?_)
 refine WC.ret ?_
 injection hf with hf
 subst hf
 exact WX.ret_ [] (iv (-1)) [] (fun fb => by kernel_rfl) trivial ⟨_, rfl, rfl, hS19.keep⟩
theorem slices_ContainsFunc_api_Piece_api_Piece_with_beatty_Valid_1_calls (k : Nat) (p0 : List Piece) (Aa : Option Addr) (ca : Nat) (r : Bool) (w : World) (hR0 : RO NoS w (rowR enc_Piece Aa ca p0)) (hf : slices_ContainsFunc_api_Piece_api_Piece_with_beatty_Valid_1 k p0 = some r) :
  CallsR Tryz.prog 36 #[(sv Aa p0 ca), (.func (.func 37) #[] #[])] w (fun v w' => v = (bv r) ∧ Keeps NoS w w') := by
 have hS : St NoS w w [rowR enc_Piece Aa ca p0] [] := St.init (ro_cons hR0 (ro_nil _ _))
 refine enter 9 Tryz.func36 rfl Tryz.ntmps36 rfl ?_
 unfold slices_ContainsFunc_api_Piece_api_Piece_with_beatty_Valid_1 at hf
 refine WC.seq (WC.region ?_)
 refine sg 1 [] [0, 1] [(0, (sv Aa p0 ca)), (1, (.func (.func 37) #[] #[]))] (by kernel_rfl) ?_
 refine WL.done rfl (WX.next (WC.seq (WC.region ?_)))
 refine sg 2 [] [5, 6] [(5, (sv Aa p0 ca)), (6, (.func (.func 37) #[] #[]))] (by kernel_rfl) ?_
 obtain ⟨t2, ht3, hf⟩ := bind_some hf
 refine WL.call (some 7) 33 #[(sv Aa p0 ca), (.func (.func 37) #[] #[])] (fun fb => by kernel_rfl) (slices_IndexFunc_api_Piece_api_Piece_with_beatty_Valid_1_calls _ p0 Aa ca t2 _ (hS.rd 0) ht3) (fun v w4 hR5 => ?_)
 obtain ⟨rfl, hk_⟩ := hR5
 have hS6 := hS.keepN hk_
 refine ⟨trivial, ?_⟩
 refine sg 5 [] [4] [(4, (bv (decide (t2 ≥ 0))))] (by kernel_rfl) ?_
 refine WL.done rfl (WX.next ?_)
 refine WC.ret ?_
 injection hf with hf
 subst hf
 exact WX.ret_ [] (bv (decide (t2 ≥ 0))) [] (fun fb => by kernel_rfl) trivial ⟨_, rfl, rfl, hS6.keep⟩
theorem beatty_Valid_calls (k : Nat) (p0 : List Piece) (Aa : Option Addr) (ca : Nat) (r : Bool) (w : World) (hR0 : RO NoS w (rowR enc_Piece Aa ca p0)) (hf : beatty_Valid k p0 = some r) :
  CallsR Tryz.prog 11 #[(sv Aa p0 ca)] w (fun v w' => v = (bv r) ∧ Keeps NoS w w') := by
 have hS : St NoS w w [rowR enc_Piece Aa ca p0] [] := St.init (ro_cons hR0 (ro_nil _ _))
 refine enter 16 Tryz.func11 rfl Tryz.ntmps11 rfl ?_
 unfold beatty_Valid at hf
 refine WC.seq (WC.region ?_)
 refine sg 1 [] [0] [(0, (sv Aa p0 ca))] (by kernel_rfl) ?_
 refine WL.done rfl (WX.next (WC.seq (WC.region ?_)))
 refine sg 4 [] [0, 6] [(0, (sv Aa p0 ca)), (6, (bv (decide ((p0.length : Int) > 0))))] (by kernel_rfl) ?_
 refine WL.cutV (T := Bool) 8 (fun t => [(10, (bv t)), (0, (sv Aa p0 ca))]) (fun t => ((decide ((p0.length : Int) > 0)) && (decide ((p0.length : Int) ≤ 6))) = t) (fun K => ?_) ?_
 ·
  rcases Bool.eq_false_or_eq_true (decide ((p0.length : Int) > 0)) with h7 | h7
  ·
   refine WL.setB 6 h7 rfl ?_
   refine sg 8 [] [0, 10] [(0, (sv Aa p0 ca)), (10, (bv (decide ((p0.length : Int) ≤ 6))))] (by kernel_rfl) ?_
   exact WL.toV K (decide ((p0.length : Int) ≤ 6)) [10, 0] rfl (by first | (rw [h7]; done) | (rw [h7]; rfl))
  refine WL.setB 6 h7 rfl ?_
  refine sg 8 [] [0, 10] [(0, (sv Aa p0 ca)), (10, (bv false))] (by kernel_rfl) ?_
  exact WL.toV K false [10, 0] rfl (by first | (rw [h7]; done) | (rw [h7]; rfl))
 rintro b8 rfl
 refine sg 9 [] [0, 11] [(0, (sv Aa p0 ca)), (11, (bv ((decide ((p0.length : Int) > 0)) && (decide ((p0.length : Int) ≤ 6)))))] (by kernel_rfl) ?_
 obtain ⟨x2, hx3, hf⟩ := bind_some hf
 refine WL.cutW (T := Bool) 13 (fun t => [(15, (bv t))]) (fun t w1 => (St NoS w w1 [rowR enc_Piece Aa ca p0] [] ∧ x2 = t) ∧ CellsOK [] w1) (fun K => ?_) ?_
 ·
  rcases br_some hx3 with ⟨h4, hx3⟩ | ⟨h4, hx3⟩
  ·
   refine WL.setB 11 h4 rfl ?_
   refine sg 10 [] [11, 12] [(11, (bv true)), (12, (sv Aa p0 ca))] (by kernel_rfl) ?_
   obtain ⟨t5, ht6, hx3⟩ := bind_some hx3
   refine WL.call (some 13) 36 #[(sv Aa p0 ca), (.func (.func 37) #[] #[])] (fun fb => by kernel_rfl) (slices_ContainsFunc_api_Piece_api_Piece_with_beatty_Valid_1_calls _ p0 Aa ca t5 _ (hS.rd 0) ht6) (fun v w9 hR10 => ?_)
   obtain ⟨rfl, hk_⟩ := hR10
   have hS12 := hS.keepN hk_
   refine ⟨trivial, ?_⟩
   refine sg 13 [] [15] [(15, (bv (!t5)))] (by kernel_rfl) ?_
   injection hx3 with hx3
   exact WL.to K (!t5) [15] rfl ⟨⟨(hS12.subR [0]).sub [] (by decide), hx3.symm⟩, trivial⟩
  refine WL.setB 11 h4 rfl ?_
  refine sg 13 [] [15] [(15, (bv false))] (by kernel_rfl) ?_
  injection hx3 with hx3
  exact WL.to K false [15] rfl ⟨⟨(hS.subR [0]).sub [] (by decide), hx3.symm⟩, trivial⟩
 rintro y13 w15 ⟨⟨hS16, hq14⟩, hF17⟩
 subst hq14
 refine sg 14 [] [2] [(2, (bv x2))] (by kernel_rfl) ?_
 refine WL.done rfl (WX.next ?_)
 refine WC.ret ?_
 injection hf with hf
 subst hf
 exact WX.ret_ [] (bv x2) [] (fun fb => by kernel_rfl) trivial ⟨_, rfl, rfl, hS16.keep⟩
theorem beatty_marks_1_calls (p0 : Int) (f0 : Frac) (ga : Nat) (r : Int) (w : World) (hR0 : RO NoS w (blk ga (.cells #[(iv f0.Num), (iv f0.Den)] 44 (0, 0)))) (hf : beatty_marks_1 p0 f0 = some r) :
  CallsR Tryz.prog 102 #[(iv p0), (pt ga)] w (fun v w' => v = (iv r) ∧ Keeps NoS w w') := by
 have hS : St NoS w w [blk ga (.cells #[(iv f0.Num), (iv f0.Den)] 44 (0, 0))] [] := St.init (ro_cons hR0 (ro_nil _ _))
 refine enter 11 Tryz.func102 rfl Tryz.ntmps102 rfl ?_
 unfold beatty_marks_1 at hf
 refine WC.seq (WC.region ?_)
 refine sg 1 [] [0, 1] [(0, (iv p0)), (1, (pt ga))] (by kernel_rfl) ?_
 refine WL.done rfl (WX.next (WC.seq (WC.region ?_)))
 refine seg 6 [.v (iv f0.Num), .v (iv f0.Den)] [7, 9] [(7, (iv (w64 (f0.Num * p0)))), (9, (iv f0.Den))] [.cell ⟨ga, 0, none⟩ (iv f0.Num), .cell ⟨ga, 1, none⟩ (iv f0.Den)] (fun fb => by kernel_rfl) rfl ⟨blk_cell (hS.rd 0).1 0 rfl, blk_cell (hS.rd 0).1 1 rfl, trivial⟩ ?_
 obtain ⟨h2, hf⟩ := as_some hf
 refine seg 8 [] [3] [(3, (iv (w64 (Int.tdiv (w64 (f0.Num * p0)) f0.Den))))] [.ne f0.Den] (fun fb => by kernel_rfl) rfl ⟨h2, trivial⟩ ?_
 refine WL.done rfl (WX.next ?_)
 refine WC.ret ?_
 injection hf with hf
 subst hf
 exact WX.ret_ [] (iv (w64 (Int.tdiv (w64 (f0.Num * p0)) f0.Den))) [] (fun fb => by kernel_rfl) trivial ⟨_, rfl, rfl, hS.keep⟩
theorem beatty_cuts_calls (p0 : Frac) (p1 : Int) (p2 : Int)  (r : Span) (w : World)  (hf : beatty_cuts p0 p1 p2 = some r) :
  CallsR Tryz.prog 104 #[(.agg #[(iv p0.Num), (iv p0.Den)]), (iv p1), (iv p2)] w (fun v w' => v = (.agg #[(iv r.from_.n), (iv r.from_.d), (iv r.to.n), (iv r.to.d)]) ∧ Keeps NoS w w') := by
 have hS : St NoS w w [] [] := St.init (ro_nil _ _)
 refine enter 33 Tryz.func104 rfl Tryz.ntmps104 rfl ?_
 unfold beatty_cuts at hf
 refine WC.seq (WC.region ?_)
 refine WL.new hS 3 [] (fun g => (pt g)) (.cells #[(iv p0.Num), (iv p0.Den)] 44 (0, 0)) [] (fun fb g => by kernel_rfl) trivial (fun g3 w4 hS5 => ?_)
 refine ⟨trivial, ?_⟩
 refine WL.new hS5 6 [] (fun g => (pt g)) (.cells #[(iv 0), (iv 0), (iv 0), (iv 0)] 152 (0, 0)) [] (fun fb g => by kernel_rfl) trivial (fun g6 w7 hS8 => ?_)
 refine ⟨trivial, ?_⟩
 refine WL.done rfl (WX.next (WC.seq (WC.region ?_)))
 let e3 := iv p0.Num
 refine seg 26 [.v (iv p0.Den), .v e3, .v e3, .v (iv p0.Den), .v e3, .v e3] [6, 32] [(6, (pt g6)), (32, (.agg #[(iv (w64 ((w64 (p2 * p0.Den)) - (w64 (p1 * p0.Num))))), e3, (iv (w64 ((w64 ((w64 (p2 + 1)) * p0.Den)) - (w64 (p1 * p0.Num))))), e3]))] [.cell ⟨g3, 1, none⟩ (iv p0.Den), .cell ⟨g3, 0, none⟩ e3, .cell ⟨g3, 0, none⟩ e3, .cell ⟨g3, 1, none⟩ (iv p0.Den), .cell ⟨g3, 0, none⟩ e3, .cell ⟨g3, 0, none⟩ e3] (fun fb => by kernel_rfl) rfl ⟨hS8.cell 1 rfl 1 rfl, hS8.cell 1 rfl 0 rfl, hS8.cell 1 rfl 0 rfl, hS8.cell 1 rfl 1 rfl, hS8.cell 1 rfl 0 rfl, hS8.cell 1 rfl 0 rfl, trivial⟩ ?_
 let e4 := iv (w64 ((w64 ((w64 (p2 + 1)) * p0.Den)) - (w64 (p1 * p0.Num))))
 let e5 := iv (w64 ((w64 (p2 * p0.Den)) - (w64 (p1 * p0.Num))))
 refine WL.store hS8 0 rfl [(0, e5), (1, e3), (2, e4), (3, e3)] #[e5, e3, e4, e3] (fun fb => by kernel_rfl) (by kernel_rfl) rfl [1] (by decide) (by decide) (fun w9 hS10 => ?_)
 refine ⟨trivial, ?_⟩
 refine WL.done rfl (WX.next ?_)
 refine WC.ret ?_
 injection hf with hf
 subst hf
 let e1 := iv (w64 ((w64 ((w64 (p2 + 1)) * p0.Den)) - (w64 (p1 * p0.Num))))
 let e2 := iv (w64 ((w64 (p2 * p0.Den)) - (w64 (p1 * p0.Num))))
 exact WX.ret_ [.v e2, .v e3, .v e1, .v e3] (.agg #[e2, e3, e1, e3]) [.cell ⟨g6, 0, none⟩ e2, .cell ⟨g6, 1, none⟩ e3, .cell ⟨g6, 2, none⟩ e1, .cell ⟨g6, 3, none⟩ e3] (fun fb => by kernel_rfl) ⟨hS10.cell 0 rfl 0 rfl, hS10.cell 0 rfl 1 rfl, hS10.cell 0 rfl 2 rfl, hS10.cell 0 rfl 3 rfl, trivial⟩ ⟨_, rfl, rfl, hS10.keep⟩
theorem beatty_both_calls (p0 : Span) (p1 : Span)  (r : Span) (w : World)  (hf : beatty_both p0 p1 = some r) :
  CallsR Tryz.prog 103 #[(.agg #[(iv p0.from_.n), (iv p0.from_.d), (iv p0.to.n), (iv p0.to.d)]), (.agg #[(iv p1.from_.n), (iv p1.from_.d), (iv p1.to.n), (iv p1.to.d)])] w (fun v w' => v = (.agg #[(iv r.from_.n), (iv r.from_.d), (iv r.to.n), (iv r.to.d)]) ∧ Keeps NoS w w') := by
 have hS : St NoS w w [] [] := St.init (ro_nil _ _)
 refine enter 22 Tryz.func103 rfl Tryz.ntmps103 rfl ?_
 unfold beatty_both at hf
 refine WC.seq (WC.region ?_)
 refine WL.new hS 2 [] (fun g => (pt g)) (.cells #[(iv p0.from_.n), (iv p0.from_.d), (iv p0.to.n), (iv p0.to.d)] 152 (0, 0)) [] (fun fb g => by kernel_rfl) trivial (fun g3 w4 hS5 => ?_)
 refine ⟨trivial, ?_⟩
 refine WL.new hS5 3 [] (fun g => (pt g)) (.cells #[(iv p1.from_.n), (iv p1.from_.d), (iv p1.to.n), (iv p1.to.d)] 152 (0, 0)) [] (fun fb g => by kernel_rfl) trivial (fun g6 w7 hS8 => ?_)
 refine ⟨trivial, ?_⟩
 refine WL.new hS8 4 [] (fun g => (pt g)) (.cells #[(iv 0), (iv 0), (iv 0), (iv 0)] 152 (0, 0)) [] (fun fb g => by kernel_rfl) trivial (fun g9 w10 hS11 => ?_)
 refine ⟨trivial, ?_⟩
 refine WL.done rfl (WX.next (WC.seq (WC.seq (WC.region ?_))))
 refine seg 4 [.v (iv p0.from_.n), .v (iv p0.from_.d), .v (iv p1.from_.n), .v (iv p1.from_.d)] [2, 3, 4, 6, 8] [(2, (pt g3)), (3, (pt g6)), (4, (pt g9)), (6, (.agg #[(iv p0.from_.n), (iv p0.from_.d)])), (8, (.agg #[(iv p1.from_.n), (iv p1.from_.d)]))] [.cell ⟨g3, 0, none⟩ (iv p0.from_.n), .cell ⟨g3, 1, none⟩ (iv p0.from_.d), .cell ⟨g6, 0, none⟩ (iv p1.from_.n), .cell ⟨g6, 1, none⟩ (iv p1.from_.d)] (fun fb => by kernel_rfl) rfl ⟨hS11.cell 2 rfl 0 rfl, hS11.cell 2 rfl 1 rfl, hS11.cell 1 rfl 0 rfl, hS11.cell 1 rfl 1 rfl, trivial⟩ ?_
 obtain ⟨t12, ht13, hf⟩ := bind_some hf
 refine WL.call (some 9) 32 #[(.agg #[(iv p0.from_.n), (iv p0.from_.d)]), (.agg #[(iv p1.from_.n), (iv p1.from_.d)])] (fun fb => by kernel_rfl) (beatty_ratio_less_calls p0.from_ p1.from_ t12 _ ht13) (fun v w14 hR15 => ?_)
 obtain ⟨rfl, hk_⟩ := hR15
 have hS16 := hS11.keepN hk_
 refine ⟨trivial, ?_⟩
 refine WL.done rfl (WX.next ?_)
 obtain ⟨x17, hx18, hf⟩ := bind_some hf
 let e1 := iv p1.from_.n
 let e2 := iv p1.from_.d
 refine WC.cutN (T := Int × Int) (fun t => [(2, (pt g3)), (3, (pt g6)), (4, (pt g9))]) (fun t w1 => St NoS w w1 [] [blk g3 (.cells #[(iv t.1), (iv t.2), (iv p0.to.n), (iv p0.to.d)] 152 (0, 0)), blk g6 (.cells #[e1, e2, (iv p1.to.n), (iv p1.to.d)] 152 (0, 0)), blk g9 (.cells #[(iv 0), (iv 0), (iv 0), (iv 0)] 152 (0, 0))] ∧ x17 = t) (fun Kx17 => ?_) ?_
 ·
  rcases br_some hx18 with ⟨h19, hx18⟩ | ⟨h19, hx18⟩
  ·refine WC.condT2 (fun fb => by kernel_rfl) h19 ?_
   refine WC.region ?_
   refine seg 3 [.v e1, .v e2] [2, 3, 4, 11, 12] [(2, (pt g3)), (3, (pt g6)), (4, (pt g9)), (11, (.agg #[e1, e2])), (12, (pt g3))] [.cell ⟨g6, 0, none⟩ e1, .cell ⟨g6, 1, none⟩ e2] (fun fb => by kernel_rfl) rfl ⟨hS16.cell 1 rfl 0 rfl, hS16.cell 1 rfl 1 rfl, trivial⟩ ?_
   refine WL.store hS16 2 rfl [(0, e1), (1, e2)] #[e1, e2, (iv p0.to.n), (iv p0.to.d)] (fun fb => by kernel_rfl) (by kernel_rfl) rfl [0, 1] (by decide) (by decide) (fun w20 hS21 => ?_)
   refine ⟨trivial, ?_⟩
   refine WL.done rfl ?_
   injection hx18 with hx18
   exact WX.to Kx17 (p1.from_.n, p1.from_.d) [2, 3, 4] rfl ⟨(hS21.subR []).sub [0, 2, 1] (by decide), hx18.symm⟩
  refine WC.condF2 (fun fb => by kernel_rfl) h19 ?_
  refine WC.skip ?_
  injection hx18 with hx18
  exact WX.to Kx17 (p0.from_.n, p0.from_.d) [2, 3, 4] rfl ⟨(hS16.subR []).sub [2, 1, 0] (by decide), hx18.symm⟩
 rintro y25 w22 ⟨hS23, hq24⟩
 subst hq24
 refine WX.next (WC.seq (WC.seq (WC.region ?_)))
 refine seg 4 [.v (iv p1.to.n), .v (iv p1.to.d), .v (iv p0.to.n), .v (iv p0.to.d)] [2, 3, 4, 14, 16] [(2, (pt g3)), (3, (pt g6)), (4, (pt g9)), (14, (.agg #[(iv p1.to.n), (iv p1.to.d)])), (16, (.agg #[(iv p0.to.n), (iv p0.to.d)]))] [.cell ⟨g6, 2, none⟩ (iv p1.to.n), .cell ⟨g6, 3, none⟩ (iv p1.to.d), .cell ⟨g3, 2, none⟩ (iv p0.to.n), .cell ⟨g3, 3, none⟩ (iv p0.to.d)] (fun fb => by kernel_rfl) rfl ⟨hS23.cell 1 rfl 2 rfl, hS23.cell 1 rfl 3 rfl, hS23.cell 0 rfl 2 rfl, hS23.cell 0 rfl 3 rfl, trivial⟩ ?_
 obtain ⟨t26, ht27, hf⟩ := bind_some hf
 refine WL.call (some 17) 32 #[(.agg #[(iv p1.to.n), (iv p1.to.d)]), (.agg #[(iv p0.to.n), (iv p0.to.d)])] (fun fb => by kernel_rfl) (beatty_ratio_less_calls p1.to p0.to t26 _ ht27) (fun v w28 hR29 => ?_)
 obtain ⟨rfl, hk_⟩ := hR29
 have hS30 := hS23.keepN hk_
 refine ⟨trivial, ?_⟩
 refine WL.done rfl (WX.next ?_)
 obtain ⟨x31, hx32, hf⟩ := bind_some hf
 refine WC.cutN (T := Int × Int) (fun t => [(2, (pt g3)), (4, (pt g9))]) (fun t w1 => St NoS w w1 [] [blk g3 (.cells #[(iv x17.1), (iv x17.2), (iv t.1), (iv t.2)] 152 (0, 0)), blk g9 (.cells #[(iv 0), (iv 0), (iv 0), (iv 0)] 152 (0, 0))] ∧ x31 = t) (fun Kx31 => ?_) ?_
 ·
  rcases br_some hx32 with ⟨h33, hx32⟩ | ⟨h33, hx32⟩
  ·refine WC.condT2 (fun fb => by kernel_rfl) h33 ?_
   refine WC.region ?_
   refine seg 3 [.v (iv p1.to.n), .v (iv p1.to.d)] [2, 4, 19, 20] [(2, (pt g3)), (4, (pt g9)), (19, (.agg #[(iv p1.to.n), (iv p1.to.d)])), (20, (.pointer (some ⟨g3, 2, none⟩)))] [.cell ⟨g6, 2, none⟩ (iv p1.to.n), .cell ⟨g6, 3, none⟩ (iv p1.to.d)] (fun fb => by kernel_rfl) rfl ⟨hS30.cell 1 rfl 2 rfl, hS30.cell 1 rfl 3 rfl, trivial⟩ ?_
   refine WL.store hS30 0 rfl [(2, (iv p1.to.n)), (3, (iv p1.to.d))] #[(iv x17.1), (iv x17.2), (iv p1.to.n), (iv p1.to.d)] (fun fb => by kernel_rfl) (by kernel_rfl) rfl [1, 2] (by decide) (by decide) (fun w34 hS35 => ?_)
   refine ⟨trivial, ?_⟩
   refine WL.done rfl ?_
   injection hx32 with hx32
   exact WX.to Kx31 (p1.to.n, p1.to.d) [2, 4] rfl ⟨(hS35.subR []).sub [0, 2] (by decide), hx32.symm⟩
  refine WC.condF2 (fun fb => by kernel_rfl) h33 ?_
  refine WC.skip ?_
  injection hx32 with hx32
  exact WX.to Kx31 (p0.to.n, p0.to.d) [2, 4] rfl ⟨(hS30.subR []).sub [0, 2] (by decide), hx32.symm⟩
 rintro y39 w36 ⟨hS37, hq38⟩
 subst hq38
 refine WX.next (WC.seq (WC.region ?_))
 refine seg 1 [.v (iv x17.1), .v (iv x17.2), .v (iv x31.1), .v (iv x31.2)] [4, 21] [(4, (pt g9)), (21, (.agg #[(iv x17.1), (iv x17.2), (iv x31.1), (iv x31.2)]))] [.cell ⟨g3, 0, none⟩ (iv x17.1), .cell ⟨g3, 1, none⟩ (iv x17.2), .cell ⟨g3, 2, none⟩ (iv x31.1), .cell ⟨g3, 3, none⟩ (iv x31.2)] (fun fb => by kernel_rfl) rfl ⟨hS37.cell 0 rfl 0 rfl, hS37.cell 0 rfl 1 rfl, hS37.cell 0 rfl 2 rfl, hS37.cell 0 rfl 3 rfl, trivial⟩ ?_
 refine WL.store hS37 1 rfl [(0, (iv x17.1)), (1, (iv x17.2)), (2, (iv x31.1)), (3, (iv x31.2))] #[(iv x17.1), (iv x17.2), (iv x31.1), (iv x31.2)] (fun fb => by kernel_rfl) (by kernel_rfl) rfl [0] (by decide) (by decide) (fun w40 hS41 => ?_)
 refine ⟨trivial, ?_⟩
 refine WL.done rfl (WX.next ?_)
 refine WC.ret ?_
 injection hf with hf
 subst hf
 exact WX.ret_ [.v (iv x17.1), .v (iv x17.2), .v (iv x31.1), .v (iv x31.2)] (.agg #[(iv x17.1), (iv x17.2), (iv x31.1), (iv x31.2)]) [.cell ⟨g9, 0, none⟩ (iv x17.1), .cell ⟨g9, 1, none⟩ (iv x17.2), .cell ⟨g9, 2, none⟩ (iv x31.1), .cell ⟨g9, 3, none⟩ (iv x31.2)] (fun fb => by kernel_rfl) ⟨hS41.cell 0 rfl 0 rfl, hS41.cell 0 rfl 1 rfl, hS41.cell 0 rfl 2 rfl, hS41.cell 0 rfl 3 rfl, trivial⟩ ⟨_, rfl, rfl, hS41.keep⟩
theorem beatty_ratio_minus_calls (p0 : Ratio) (p1 : Ratio)  (r : Ratio) (w : World)  (hf : beatty_ratio_minus p0 p1 = some r) :
  CallsR Tryz.prog 115 #[(.agg #[(iv p0.n), (iv p0.d)]), (.agg #[(iv p1.n), (iv p1.d)])] w (fun v w' => v = (.agg #[(iv r.n), (iv r.d)]) ∧ Keeps NoS w w') := by
 have hS : St NoS w w [] [] := St.init (ro_nil _ _)
 refine enter 22 Tryz.func115 rfl Tryz.ntmps115 rfl ?_
 unfold beatty_ratio_minus at hf
 refine WC.seq (WC.region ?_)
 refine WL.new hS 2 [] (fun g => (pt g)) (.cells #[(iv p0.n), (iv p0.d)] 70 (0, 0)) [] (fun fb g => by kernel_rfl) trivial (fun g2 w3 hS4 => ?_)
 refine ⟨trivial, ?_⟩
 refine WL.new hS4 3 [] (fun g => (pt g)) (.cells #[(iv p1.n), (iv p1.d)] 70 (0, 0)) [] (fun fb g => by kernel_rfl) trivial (fun g5 w6 hS7 => ?_)
 refine ⟨trivial, ?_⟩
 refine WL.new hS7 4 [] (fun g => (pt g)) (.cells #[(iv 0), (iv 0)] 70 (0, 0)) [] (fun fb g => by kernel_rfl) trivial (fun g8 w9 hS10 => ?_)
 refine ⟨trivial, ?_⟩
 refine WL.done rfl (WX.next (WC.seq (WC.region ?_)))
 refine seg 17 [.v (iv p0.n), .v (iv p1.d), .v (iv p1.n), .v (iv p0.d), .v (iv p0.d), .v (iv p1.d)] [4, 21] [(4, (pt g8)), (21, (.agg #[(iv (w64 ((w64 (p0.n * p1.d)) - (w64 (p1.n * p0.d))))), (iv (w64 (p0.d * p1.d)))]))] [.cell ⟨g2, 0, none⟩ (iv p0.n), .cell ⟨g5, 1, none⟩ (iv p1.d), .cell ⟨g5, 0, none⟩ (iv p1.n), .cell ⟨g2, 1, none⟩ (iv p0.d), .cell ⟨g2, 1, none⟩ (iv p0.d), .cell ⟨g5, 1, none⟩ (iv p1.d)] (fun fb => by kernel_rfl) rfl ⟨hS10.cell 2 rfl 0 rfl, hS10.cell 1 rfl 1 rfl, hS10.cell 1 rfl 0 rfl, hS10.cell 2 rfl 1 rfl, hS10.cell 2 rfl 1 rfl, hS10.cell 1 rfl 1 rfl, trivial⟩ ?_
 let e2 := iv (w64 ((w64 (p0.n * p1.d)) - (w64 (p1.n * p0.d))))
 refine WL.store hS10 0 rfl [(0, e2), (1, (iv (w64 (p0.d * p1.d))))] #[e2, (iv (w64 (p0.d * p1.d)))] (fun fb => by kernel_rfl) (by kernel_rfl) rfl [1, 2] (by decide) (by decide) (fun w11 hS12 => ?_)
 refine ⟨trivial, ?_⟩
 refine WL.done rfl (WX.next ?_)
 refine WC.ret ?_
 injection hf with hf
 subst hf
 let e1 := iv (w64 ((w64 (p0.n * p1.d)) - (w64 (p1.n * p0.d))))
 exact WX.ret_ [.v e1, .v (iv (w64 (p0.d * p1.d)))] (.agg #[e1, (iv (w64 (p0.d * p1.d)))]) [.cell ⟨g8, 0, none⟩ e1, .cell ⟨g8, 1, none⟩ (iv (w64 (p0.d * p1.d)))] (fun fb => by kernel_rfl) ⟨hS12.cell 0 rfl 0 rfl, hS12.cell 0 rfl 1 rfl, trivial⟩ ⟨_, rfl, rfl, hS12.keep⟩
theorem beatty_possible_calls (p0 : Piece) (p1 : Span) (p2 : Span)  (r : Bool) (w : World)  (hf : beatty_possible p0 p1 p2 = some r) :
  CallsR Tryz.prog 105 #[(.agg #[(iv p0.Factor.Num), (iv p0.Factor.Den), (iv p0.Low.Num), (iv p0.Low.Den), (iv p0.High.Num), (iv p0.High.Den)]), (.agg #[(iv p1.from_.n), (iv p1.from_.d), (iv p1.to.n), (iv p1.to.d)]), (.agg #[(iv p2.from_.n), (iv p2.from_.d), (iv p2.to.n), (iv p2.to.d)])] w (fun v w' => v = (bv r) ∧ Keeps NoS w w') := by
 have hS : St NoS w w [] [] := St.init (ro_nil _ _)
 refine enter 49 Tryz.func105 rfl Tryz.ntmps105 rfl ?_
 unfold beatty_possible at hf
 refine WC.seq (WC.region ?_)
 refine WL.new hS 3 [] (fun g => (pt g)) (.cells #[(iv p0.Factor.Num), (iv p0.Factor.Den), (iv p0.Low.Num), (iv p0.Low.Den), (iv p0.High.Num), (iv p0.High.Den)] 66 (0, 0)) [] (fun fb g => by kernel_rfl) trivial (fun g3 w4 hS5 => ?_)
 refine ⟨trivial, ?_⟩
 refine WL.new hS5 4 [] (fun g => (pt g)) (.cells #[(iv p1.from_.n), (iv p1.from_.d), (iv p1.to.n), (iv p1.to.d)] 152 (0, 0)) [] (fun fb g => by kernel_rfl) trivial (fun g6 w7 hS8 => ?_)
 refine ⟨trivial, ?_⟩
 refine WL.new hS8 5 [] (fun g => (pt g)) (.cells #[(iv p2.from_.n), (iv p2.from_.d), (iv p2.to.n), (iv p2.to.d)] 152 (0, 0)) [] (fun fb g => by kernel_rfl) trivial (fun g9 w10 hS11 => ?_)
 refine ⟨trivial, ?_⟩
 refine sg 4 [] [3, 4, 5] [(3, (pt g3)), (4, (pt g6)), (5, (pt g9))] (by kernel_rfl) ?_
 refine WL.done rfl (WX.next (WC.seq (WC.seq (WC.region ?_))))
 refine seg 4 [.v (iv p1.from_.n), .v (iv p1.from_.d), .v (iv p1.to.n), .v (iv p1.to.d)] [3, 4, 5, 12, 14] [(3, (pt g3)), (4, (pt g6)), (5, (pt g9)), (12, (.agg #[(iv p1.from_.n), (iv p1.from_.d)])), (14, (.agg #[(iv p1.to.n), (iv p1.to.d)]))] [.cell ⟨g6, 0, none⟩ (iv p1.from_.n), .cell ⟨g6, 1, none⟩ (iv p1.from_.d), .cell ⟨g6, 2, none⟩ (iv p1.to.n), .cell ⟨g6, 3, none⟩ (iv p1.to.d)] (fun fb => by kernel_rfl) rfl ⟨hS11.cell 1 rfl 0 rfl, hS11.cell 1 rfl 1 rfl, hS11.cell 1 rfl 2 rfl, hS11.cell 1 rfl 3 rfl, trivial⟩ ?_
 obtain ⟨t12, ht13, hf⟩ := bind_some hf
 refine WL.call (some 15) 32 #[(.agg #[(iv p1.from_.n), (iv p1.from_.d)]), (.agg #[(iv p1.to.n), (iv p1.to.d)])] (fun fb => by kernel_rfl) (beatty_ratio_less_calls p1.from_ p1.to t12 _ ht13) (fun v w14 hR15 => ?_)
 obtain ⟨rfl, hk_⟩ := hR15
 have hS16 := hS11.keepN hk_
 refine ⟨trivial, ?_⟩
 refine sg 7 [] [3, 4, 5, 17] [(3, (pt g3)), (4, (pt g6)), (5, (pt g9)), (17, (bv (!t12)))] (by kernel_rfl) ?_
 obtain ⟨x17, hx18, hf⟩ := bind_some hf
 refine WL.cutW (T := Bool) 14 (fun t => [(3, (pt g3)), (4, (pt g6)), (5, (pt g9)), (24, (bv t))]) (fun t w1 => (St NoS w w1 [] [blk g3 (.cells #[(iv p0.Factor.Num), (iv p0.Factor.Den), (iv p0.Low.Num), (iv p0.Low.Den), (iv p0.High.Num), (iv p0.High.Den)] 66 (0, 0)), blk g6 (.cells #[(iv p1.from_.n), (iv p1.from_.d), (iv p1.to.n), (iv p1.to.d)] 152 (0, 0)), blk g9 (.cells #[(iv p2.from_.n), (iv p2.from_.d), (iv p2.to.n), (iv p2.to.d)] 152 (0, 0))] ∧ x17 = t) ∧ CellsOK [] w1) (fun K => ?_) ?_
 ·
  rcases br_some hx18 with ⟨h19, hx18⟩ | ⟨h19, hx18⟩
  ·
   refine WL.setB 17 h19 rfl ?_
   refine sg 14 [] [3, 4, 5, 24] [(3, (pt g3)), (4, (pt g6)), (5, (pt g9)), (24, (bv true))] (by kernel_rfl) ?_
   injection hx18 with hx18
   exact WL.to K true [3, 4, 5, 24] rfl ⟨⟨(hS16.subR []).sub [2, 1, 0] (by decide), hx18.symm⟩, trivial⟩
  refine WL.setB 17 h19 rfl ?_
  refine seg 11 [.v (iv p2.from_.n), .v (iv p2.from_.d), .v (iv p2.to.n), .v (iv p2.to.d)] [3, 4, 5, 17, 19, 21] [(3, (pt g3)), (4, (pt g6)), (5, (pt g9)), (17, (bv false)), (19, (.agg #[(iv p2.from_.n), (iv p2.from_.d)])), (21, (.agg #[(iv p2.to.n), (iv p2.to.d)]))] [.cell ⟨g9, 0, none⟩ (iv p2.from_.n), .cell ⟨g9, 1, none⟩ (iv p2.from_.d), .cell ⟨g9, 2, none⟩ (iv p2.to.n), .cell ⟨g9, 3, none⟩ (iv p2.to.d)] (fun fb => by kernel_rfl) rfl ⟨hS16.cell 0 rfl 0 rfl, hS16.cell 0 rfl 1 rfl, hS16.cell 0 rfl 2 rfl, hS16.cell 0 rfl 3 rfl, trivial⟩ ?_
  obtain ⟨t20, ht21, hx18⟩ := bind_some hx18
  refine WL.call (some 22) 32 #[(.agg #[(iv p2.from_.n), (iv p2.from_.d)]), (.agg #[(iv p2.to.n), (iv p2.to.d)])] (fun fb => by kernel_rfl) (beatty_ratio_less_calls p2.from_ p2.to t20 _ ht21) (fun v w22 hR23 => ?_)
  obtain ⟨rfl, hk_⟩ := hR23
  have hS24 := hS16.keepN hk_
  refine ⟨trivial, ?_⟩
  refine sg 14 [] [3, 4, 5, 24] [(3, (pt g3)), (4, (pt g6)), (5, (pt g9)), (24, (bv (!t20)))] (by kernel_rfl) ?_
  injection hx18 with hx18
  exact WL.to K (!t20) [3, 4, 5, 24] rfl ⟨⟨(hS24.subR []).sub [2, 1, 0] (by decide), hx18.symm⟩, trivial⟩
 rintro y25 w27 ⟨⟨hS28, hq26⟩, hF29⟩
 subst hq26
 refine WL.done rfl (WX.next ?_)
 rcases br_some hf with ⟨h30, hf⟩ | ⟨h30, hf⟩
 ·refine WC.condT2 (fun fb => by kernel_rfl) h30 ?_
  refine WC.seq (WC.region ?_)
  refine sg 1 [] [6] [(6, (bv false))] (by kernel_rfl) ?_
  refine WL.done rfl (WX.next ?_)
  refine WC.ret ?_
  injection hf with hf
  subst hf
  exact WX.thenR (WX.ret_ [] (bv false) [] (fun fb => by kernel_rfl) trivial ⟨_, rfl, rfl, hS28.keep⟩)
 refine WC.condF2 (fun fb => by kernel_rfl) h30 ?_
 refine WC.skip (WX.next (WC.seq ?_))
 obtain ⟨x33, hx34, hf⟩ := bind_some hf
 let e2 : List (Nat × Addr × Value) := [(1, ⟨g3, 2, none⟩, (iv p0.Low.Num)), (1, ⟨g3, 3, none⟩, (iv p0.Low.Den)), (4, ⟨g3, 4, none⟩, (iv p0.High.Num)), (4, ⟨g3, 5, none⟩, (iv p0.High.Den))]
 let e3 : Array Value := #[(iv p0.High.Num), (iv p0.High.Den)]
 let e4 : Array Value := #[(iv p0.Low.Num), (iv p0.Low.Den)]
 let e9 : Array Value := #[(iv 0), (iv 0)]
 let e13 : List Nat := [0, 2, 3, 4]
 let e14 := iv p0.High.Num
 let e15 := iv p0.High.Den
 let e16 := iv p0.Low.Num
 let e17 := iv p0.Low.Den
 let e22 : List Nat := [4, 5, 26, 29]
 let e26 : Nat × Value := (4, (pt g6))
 let e27 : Nat × Value := (5, (pt g9))
 let e28 : List Nat := [0, 1, 2, 3]
 let e29 : List Nat := [4, 5, 7, 8]
 let e30 : List Nat := [3, 4, 1, 0]
 refine WC.cutN (T := (Int × Int × Int × Int) × Nat × Nat) (fun t => [e26, e27, (7, (.pointer (some ⟨t.2.1, 0, none⟩))), (8, (.pointer (some ⟨t.2.2, 0, none⟩)))]) (fun t w1 => St NoS w w1 [] [blk g6 (.cells #[(iv p1.from_.n), (iv p1.from_.d), (iv p1.to.n), (iv p1.to.d)] 152 (0, 0)), blk g9 (.cells #[(iv p2.from_.n), (iv p2.from_.d), (iv p2.to.n), (iv p2.to.d)] 152 (0, 0)), blk t.2.1 (.cells #[(iv t.1.1), (iv t.1.2.1)] 70 (0, 0)), blk t.2.2 (.cells #[(iv t.1.2.2.1), (iv t.1.2.2.2)] 70 (0, 0))] ∧ x33 = t.1) (fun Kx33 => ?_) ?_
 ·
  refine WC.regionD (e2, [0, 1, 3, 4], [[], [0], [0, 1], [], [3], [0, 1, 2, 3, 4], [], [], [0, 1, 2, 3, 4, 5, 6, 7], [0, 1, 2, 3, 4, 5, 6, 7, 8]]) [[0, 1, 3, 4, 2, 5, 6, 7, 8, 9], [0, 1, 3, 4, 2, 5, 7, 6, 8, 9], [0, 1, 3, 4, 2, 6, 5, 7, 8, 9], [0, 1, 3, 4, 2, 6, 7, 5, 8, 9], [0, 1, 3, 4, 2, 7, 5, 6, 8, 9], [0, 1, 3, 4, 2, 7, 6, 5, 8, 9], [0, 1, 3, 4, 6, 2, 5, 7, 8, 9], [0, 1, 3, 4, 6, 2, 7, 5, 8, 9], [0, 1, 3, 4, 6, 7, 2, 5, 8, 9], [0, 1, 3, 4, 7, 2, 5, 6, 8, 9], [0, 1, 3, 4, 7, 2, 6, 5, 8, 9], [0, 1, 3, 4, 7, 6, 2, 5, 8, 9]] (by kernel_rfl) (by kernel_rfl) (NoPanic.seq (NoPanic.body)) ?_
  have hS36 := hS28.drew
  revert hS36
  generalize World.drew w27 = w35
  intro hS36
  refine ⟨⟨hS36.cell 0 rfl 2 rfl, hS36.cell 0 rfl 3 rfl, hS36.cell 0 rfl 4 rfl, hS36.cell 0 rfl 5 rfl, trivial⟩, forallC ?_ (forallC ?_ (forallC ?_ (forallC ?_ (forallC ?_ (forallC ?_ (forallC ?_ (forallC ?_ (forallC ?_ (forallC ?_ (forallC ?_ (forallC ?_ (forallN))))))))))))⟩
  ·
   refine segF 4 [.v e16, .v e17, .v e14, .v e15] e22 [e26, e27, (26, (.agg e4)), (29, (.agg e3))] [] e28 e2 (fun fb => by kernel_rfl) rfl trivial rfl ?_
   obtain ⟨t37, ht38, hx34⟩ := bind_some hx34
   refine WL.call (some 27) 30 #[(.agg e4)] (fun fb => by kernel_rfl) (beatty_of_calls p0.Low t37 _ ht38) (fun v w39 hR40 => ?_)
   obtain ⟨rfl, hk_⟩ := hR40
   have hS41 := hS36.keepN hk_
   refine ⟨⟨hS41.cell 0 rfl 4 rfl, hS41.cell 0 rfl 5 rfl, trivial⟩, ?_⟩
   obtain ⟨t42, ht43, hx34⟩ := bind_some hx34
   refine WL.call (some 30) 30 #[(.agg e3)] (fun fb => by kernel_rfl) (beatty_of_calls p0.High t42 _ ht43) (fun v w44 hR45 => ?_)
   obtain ⟨rfl, hk_⟩ := hR45
   have hS46 := hS41.keepN hk_
   refine ⟨trivial, ?_⟩
   refine WL.new hS46 7 [] (fun g => (pt g)) (.cells e9 70 (0, 0)) [] (fun fb g => by kernel_rfl) trivial (fun g47 w48 hS49 => ?_)
   refine ⟨⟨hS49.cell 1 rfl 2 rfl, hS49.cell 1 rfl 3 rfl, hS49.cell 1 rfl 4 rfl, hS49.cell 1 rfl 5 rfl, trivial⟩, ?_⟩
   refine WL.new hS49 8 [] (fun g => (pt g)) (.cells e9 70 (0, 0)) [] (fun fb g => by kernel_rfl) trivial (fun g50 w51 hS52 => ?_)
   refine ⟨⟨hS52.cell 2 rfl 2 rfl, hS52.cell 2 rfl 3 rfl, hS52.cell 2 rfl 4 rfl, hS52.cell 2 rfl 5 rfl, trivial⟩, ?_⟩
   refine WL.store hS52 1 rfl [(0, (iv t37.n)), (1, (iv t37.d))] #[(iv t37.n), (iv t37.d)] (fun fb => by kernel_rfl) (by kernel_rfl) rfl e13 (by decide) (by decide) (fun w53 hS54 => ?_)
   refine ⟨trivial, ?_⟩
   refine WL.store hS54 1 rfl [(0, (iv t42.n)), (1, (iv t42.d))] #[(iv t42.n), (iv t42.d)] (fun fb => by kernel_rfl) (by kernel_rfl) rfl e13 (by decide) (by decide) (fun w55 hS56 => ?_)
   refine ⟨trivial, ?_⟩
   refine WL.done rfl ?_
   injection hx34 with hx34
   exact WX.to Kx33 ((t37.n, t37.d, t42.n, t42.d), g47, g50) e29 rfl ⟨(hS56.subR []).sub e30 (by decide), hx34.symm⟩
  ·
   refine segF 4 [.v e16, .v e17, .v e14, .v e15] e22 [e26, e27, (26, (.agg e4)), (29, (.agg e3))] [] e28 e2 (fun fb => by kernel_rfl) rfl trivial rfl ?_
   obtain ⟨t57, ht58, hx34⟩ := bind_some hx34
   refine WL.call (some 27) 30 #[(.agg e4)] (fun fb => by kernel_rfl) (beatty_of_calls p0.Low t57 _ ht58) (fun v w59 hR60 => ?_)
   obtain ⟨rfl, hk_⟩ := hR60
   have hS61 := hS36.keepN hk_
   refine ⟨⟨hS61.cell 0 rfl 4 rfl, hS61.cell 0 rfl 5 rfl, trivial⟩, ?_⟩
   obtain ⟨t62, ht63, hx34⟩ := bind_some hx34
   refine WL.call (some 30) 30 #[(.agg e3)] (fun fb => by kernel_rfl) (beatty_of_calls p0.High t62 _ ht63) (fun v w65 hR66 => ?_)
   obtain ⟨rfl, hk_⟩ := hR66
   have hS67 := hS61.keepN hk_
   refine ⟨trivial, ?_⟩
   refine WL.new hS67 8 [] (fun g => (pt g)) (.cells e9 70 (0, 0)) [] (fun fb g => by kernel_rfl) trivial (fun g68 w69 hS70 => ?_)
   refine ⟨⟨hS70.cell 1 rfl 2 rfl, hS70.cell 1 rfl 3 rfl, hS70.cell 1 rfl 4 rfl, hS70.cell 1 rfl 5 rfl, trivial⟩, ?_⟩
   refine WL.new hS70 7 [] (fun g => (pt g)) (.cells e9 70 (0, 0)) [] (fun fb g => by kernel_rfl) trivial (fun g71 w72 hS73 => ?_)
   refine ⟨⟨hS73.cell 2 rfl 2 rfl, hS73.cell 2 rfl 3 rfl, hS73.cell 2 rfl 4 rfl, hS73.cell 2 rfl 5 rfl, trivial⟩, ?_⟩
   refine WL.store hS73 0 rfl [(0, (iv t57.n)), (1, (iv t57.d))] #[(iv t57.n), (iv t57.d)] (fun fb => by kernel_rfl) (by kernel_rfl) rfl [1, 2, 3, 4] (by decide) (by decide) (fun w74 hS75 => ?_)
   refine ⟨trivial, ?_⟩
   refine WL.store hS75 1 rfl [(0, (iv t62.n)), (1, (iv t62.d))] #[(iv t62.n), (iv t62.d)] (fun fb => by kernel_rfl) (by kernel_rfl) rfl e13 (by decide) (by decide) (fun w76 hS77 => ?_)
   refine ⟨trivial, ?_⟩
   refine WL.done rfl ?_
   injection hx34 with hx34
   exact WX.to Kx33 ((t57.n, t57.d, t62.n, t62.d), g71, g68) e29 rfl ⟨(hS77.subR []).sub e30 (by decide), hx34.symm⟩
  ·
   refine segF 4 [.v e16, .v e17, .v e14, .v e15] e22 [e26, e27, (26, (.agg e4)), (29, (.agg e3))] [] e28 e2 (fun fb => by kernel_rfl) rfl trivial rfl ?_
   obtain ⟨t78, ht79, hx34⟩ := bind_some hx34
   refine WL.call (some 27) 30 #[(.agg e4)] (fun fb => by kernel_rfl) (beatty_of_calls p0.Low t78 _ ht79) (fun v w80 hR81 => ?_)
   obtain ⟨rfl, hk_⟩ := hR81
   have hS82 := hS36.keepN hk_
   refine ⟨⟨hS82.cell 0 rfl 4 rfl, hS82.cell 0 rfl 5 rfl, trivial⟩, ?_⟩
   refine WL.new hS82 7 [] (fun g => (pt g)) (.cells e9 70 (0, 0)) [] (fun fb g => by kernel_rfl) trivial (fun g83 w84 hS85 => ?_)
   refine ⟨⟨hS85.cell 1 rfl 2 rfl, hS85.cell 1 rfl 3 rfl, hS85.cell 1 rfl 4 rfl, hS85.cell 1 rfl 5 rfl, trivial⟩, ?_⟩
   obtain ⟨t86, ht87, hx34⟩ := bind_some hx34
   refine WL.call (some 30) 30 #[(.agg e3)] (fun fb => by kernel_rfl) (beatty_of_calls p0.High t86 _ ht87) (fun v w88 hR89 => ?_)
   obtain ⟨rfl, hk_⟩ := hR89
   have hS90 := hS85.keepN hk_
   refine ⟨trivial, ?_⟩
   refine WL.new hS90 8 [] (fun g => (pt g)) (.cells e9 70 (0, 0)) [] (fun fb g => by kernel_rfl) trivial (fun g91 w92 hS93 => ?_)
   refine ⟨⟨hS93.cell 2 rfl 2 rfl, hS93.cell 2 rfl 3 rfl, hS93.cell 2 rfl 4 rfl, hS93.cell 2 rfl 5 rfl, trivial⟩, ?_⟩
   refine WL.store hS93 1 rfl [(0, (iv t78.n)), (1, (iv t78.d))] #[(iv t78.n), (iv t78.d)] (fun fb => by kernel_rfl) (by kernel_rfl) rfl e13 (by decide) (by decide) (fun w94 hS95 => ?_)
   refine ⟨trivial, ?_⟩
   refine WL.store hS95 1 rfl [(0, (iv t86.n)), (1, (iv t86.d))] #[(iv t86.n), (iv t86.d)] (fun fb => by kernel_rfl) (by kernel_rfl) rfl e13 (by decide) (by decide) (fun w96 hS97 => ?_)
   refine ⟨trivial, ?_⟩
   refine WL.done rfl ?_
   injection hx34 with hx34
   exact WX.to Kx33 ((t78.n, t78.d, t86.n, t86.d), g83, g91) e29 rfl ⟨(hS97.subR []).sub e30 (by decide), hx34.symm⟩
  ·
   refine segF 4 [.v e16, .v e17, .v e14, .v e15] e22 [e26, e27, (26, (.agg e4)), (29, (.agg e3))] [] e28 e2 (fun fb => by kernel_rfl) rfl trivial rfl ?_
   obtain ⟨t98, ht99, hx34⟩ := bind_some hx34
   refine WL.call (some 27) 30 #[(.agg e4)] (fun fb => by kernel_rfl) (beatty_of_calls p0.Low t98 _ ht99) (fun v w100 hR101 => ?_)
   obtain ⟨rfl, hk_⟩ := hR101
   have hS102 := hS36.keepN hk_
   refine ⟨⟨hS102.cell 0 rfl 4 rfl, hS102.cell 0 rfl 5 rfl, trivial⟩, ?_⟩
   refine WL.new hS102 7 [] (fun g => (pt g)) (.cells e9 70 (0, 0)) [] (fun fb g => by kernel_rfl) trivial (fun g103 w104 hS105 => ?_)
   refine ⟨⟨hS105.cell 1 rfl 2 rfl, hS105.cell 1 rfl 3 rfl, hS105.cell 1 rfl 4 rfl, hS105.cell 1 rfl 5 rfl, trivial⟩, ?_⟩
   refine WL.new hS105 8 [] (fun g => (pt g)) (.cells e9 70 (0, 0)) [] (fun fb g => by kernel_rfl) trivial (fun g106 w107 hS108 => ?_)
   refine ⟨⟨hS108.cell 2 rfl 2 rfl, hS108.cell 2 rfl 3 rfl, hS108.cell 2 rfl 4 rfl, hS108.cell 2 rfl 5 rfl, trivial⟩, ?_⟩
   obtain ⟨t109, ht110, hx34⟩ := bind_some hx34
   refine WL.call (some 30) 30 #[(.agg e3)] (fun fb => by kernel_rfl) (beatty_of_calls p0.High t109 _ ht110) (fun v w111 hR112 => ?_)
   obtain ⟨rfl, hk_⟩ := hR112
   have hS113 := hS108.keepN hk_
   refine ⟨trivial, ?_⟩
   refine WL.store hS113 1 rfl [(0, (iv t98.n)), (1, (iv t98.d))] #[(iv t98.n), (iv t98.d)] (fun fb => by kernel_rfl) (by kernel_rfl) rfl e13 (by decide) (by decide) (fun w114 hS115 => ?_)
   refine ⟨trivial, ?_⟩
   refine WL.store hS115 1 rfl [(0, (iv t109.n)), (1, (iv t109.d))] #[(iv t109.n), (iv t109.d)] (fun fb => by kernel_rfl) (by kernel_rfl) rfl e13 (by decide) (by decide) (fun w116 hS117 => ?_)
   refine ⟨trivial, ?_⟩
   refine WL.done rfl ?_
   injection hx34 with hx34
   exact WX.to Kx33 ((t98.n, t98.d, t109.n, t109.d), g103, g106) e29 rfl ⟨(hS117.subR []).sub e30 (by decide), hx34.symm⟩
  ·
   refine segF 4 [.v e16, .v e17, .v e14, .v e15] e22 [e26, e27, (26, (.agg e4)), (29, (.agg e3))] [] e28 e2 (fun fb => by kernel_rfl) rfl trivial rfl ?_
   obtain ⟨t118, ht119, hx34⟩ := bind_some hx34
   refine WL.call (some 27) 30 #[(.agg e4)] (fun fb => by kernel_rfl) (beatty_of_calls p0.Low t118 _ ht119) (fun v w120 hR121 => ?_)
   obtain ⟨rfl, hk_⟩ := hR121
   have hS122 := hS36.keepN hk_
   refine ⟨⟨hS122.cell 0 rfl 4 rfl, hS122.cell 0 rfl 5 rfl, trivial⟩, ?_⟩
   refine WL.new hS122 8 [] (fun g => (pt g)) (.cells e9 70 (0, 0)) [] (fun fb g => by kernel_rfl) trivial (fun g123 w124 hS125 => ?_)
   refine ⟨⟨hS125.cell 1 rfl 2 rfl, hS125.cell 1 rfl 3 rfl, hS125.cell 1 rfl 4 rfl, hS125.cell 1 rfl 5 rfl, trivial⟩, ?_⟩
   obtain ⟨t126, ht127, hx34⟩ := bind_some hx34
   refine WL.call (some 30) 30 #[(.agg e3)] (fun fb => by kernel_rfl) (beatty_of_calls p0.High t126 _ ht127) (fun v w128 hR129 => ?_)
   obtain ⟨rfl, hk_⟩ := hR129
   have hS130 := hS125.keepN hk_
   refine ⟨trivial, ?_⟩
   refine WL.new hS130 7 [] (fun g => (pt g)) (.cells e9 70 (0, 0)) [] (fun fb g => by kernel_rfl) trivial (fun g131 w132 hS133 => ?_)
   refine ⟨⟨hS133.cell 2 rfl 2 rfl, hS133.cell 2 rfl 3 rfl, hS133.cell 2 rfl 4 rfl, hS133.cell 2 rfl 5 rfl, trivial⟩, ?_⟩
   refine WL.store hS133 0 rfl [(0, (iv t118.n)), (1, (iv t118.d))] #[(iv t118.n), (iv t118.d)] (fun fb => by kernel_rfl) (by kernel_rfl) rfl [1, 2, 3, 4] (by decide) (by decide) (fun w134 hS135 => ?_)
   refine ⟨trivial, ?_⟩
   refine WL.store hS135 1 rfl [(0, (iv t126.n)), (1, (iv t126.d))] #[(iv t126.n), (iv t126.d)] (fun fb => by kernel_rfl) (by kernel_rfl) rfl e13 (by decide) (by decide) (fun w136 hS137 => ?_)
   refine ⟨trivial, ?_⟩
   refine WL.done rfl ?_
   injection hx34 with hx34
   exact WX.to Kx33 ((t118.n, t118.d, t126.n, t126.d), g131, g123) e29 rfl ⟨(hS137.subR []).sub e30 (by decide), hx34.symm⟩
  ·
   refine segF 4 [.v e16, .v e17, .v e14, .v e15] e22 [e26, e27, (26, (.agg e4)), (29, (.agg e3))] [] e28 e2 (fun fb => by kernel_rfl) rfl trivial rfl ?_
   obtain ⟨t138, ht139, hx34⟩ := bind_some hx34
   refine WL.call (some 27) 30 #[(.agg e4)] (fun fb => by kernel_rfl) (beatty_of_calls p0.Low t138 _ ht139) (fun v w140 hR141 => ?_)
   obtain ⟨rfl, hk_⟩ := hR141
   have hS142 := hS36.keepN hk_
   refine ⟨⟨hS142.cell 0 rfl 4 rfl, hS142.cell 0 rfl 5 rfl, trivial⟩, ?_⟩
   refine WL.new hS142 8 [] (fun g => (pt g)) (.cells e9 70 (0, 0)) [] (fun fb g => by kernel_rfl) trivial (fun g143 w144 hS145 => ?_)
   refine ⟨⟨hS145.cell 1 rfl 2 rfl, hS145.cell 1 rfl 3 rfl, hS145.cell 1 rfl 4 rfl, hS145.cell 1 rfl 5 rfl, trivial⟩, ?_⟩
   refine WL.new hS145 7 [] (fun g => (pt g)) (.cells e9 70 (0, 0)) [] (fun fb g => by kernel_rfl) trivial (fun g146 w147 hS148 => ?_)
   refine ⟨⟨hS148.cell 2 rfl 2 rfl, hS148.cell 2 rfl 3 rfl, hS148.cell 2 rfl 4 rfl, hS148.cell 2 rfl 5 rfl, trivial⟩, ?_⟩
   obtain ⟨t149, ht150, hx34⟩ := bind_some hx34
   refine WL.call (some 30) 30 #[(.agg e3)] (fun fb => by kernel_rfl) (beatty_of_calls p0.High t149 _ ht150) (fun v w151 hR152 => ?_)
   obtain ⟨rfl, hk_⟩ := hR152
   have hS153 := hS148.keepN hk_
   refine ⟨trivial, ?_⟩
   refine WL.store hS153 0 rfl [(0, (iv t138.n)), (1, (iv t138.d))] #[(iv t138.n), (iv t138.d)] (fun fb => by kernel_rfl) (by kernel_rfl) rfl [1, 2, 3, 4] (by decide) (by decide) (fun w154 hS155 => ?_)
   refine ⟨trivial, ?_⟩
   refine WL.store hS155 1 rfl [(0, (iv t149.n)), (1, (iv t149.d))] #[(iv t149.n), (iv t149.d)] (fun fb => by kernel_rfl) (by kernel_rfl) rfl e13 (by decide) (by decide) (fun w156 hS157 => ?_)
   refine ⟨trivial, ?_⟩
   refine WL.done rfl ?_
   injection hx34 with hx34
   exact WX.to Kx33 ((t138.n, t138.d, t149.n, t149.d), g146, g143) e29 rfl ⟨(hS157.subR []).sub e30 (by decide), hx34.symm⟩
  ·
   refine segF 4 [.v e16, .v e17, .v e14, .v e15] e22 [e26, e27, (26, (.agg e4)), (29, (.agg e3))] [] e28 e2 (fun fb => by kernel_rfl) rfl trivial rfl ?_
   refine WL.new hS36 7 [] (fun g => (pt g)) (.cells e9 70 (0, 0)) [] (fun fb g => by kernel_rfl) trivial (fun g158 w159 hS160 => ?_)
   refine ⟨⟨hS160.cell 1 rfl 2 rfl, hS160.cell 1 rfl 3 rfl, hS160.cell 1 rfl 4 rfl, hS160.cell 1 rfl 5 rfl, trivial⟩, ?_⟩
   obtain ⟨t161, ht162, hx34⟩ := bind_some hx34
   refine WL.call (some 27) 30 #[(.agg e4)] (fun fb => by kernel_rfl) (beatty_of_calls p0.Low t161 _ ht162) (fun v w163 hR164 => ?_)
   obtain ⟨rfl, hk_⟩ := hR164
   have hS165 := hS160.keepN hk_
   refine ⟨⟨hS165.cell 1 rfl 4 rfl, hS165.cell 1 rfl 5 rfl, trivial⟩, ?_⟩
   obtain ⟨t166, ht167, hx34⟩ := bind_some hx34
   refine WL.call (some 30) 30 #[(.agg e3)] (fun fb => by kernel_rfl) (beatty_of_calls p0.High t166 _ ht167) (fun v w168 hR169 => ?_)
   obtain ⟨rfl, hk_⟩ := hR169
   have hS170 := hS165.keepN hk_
   refine ⟨trivial, ?_⟩
   refine WL.new hS170 8 [] (fun g => (pt g)) (.cells e9 70 (0, 0)) [] (fun fb g => by kernel_rfl) trivial (fun g171 w172 hS173 => ?_)
   refine ⟨⟨hS173.cell 2 rfl 2 rfl, hS173.cell 2 rfl 3 rfl, hS173.cell 2 rfl 4 rfl, hS173.cell 2 rfl 5 rfl, trivial⟩, ?_⟩
   refine WL.store hS173 1 rfl [(0, (iv t161.n)), (1, (iv t161.d))] #[(iv t161.n), (iv t161.d)] (fun fb => by kernel_rfl) (by kernel_rfl) rfl e13 (by decide) (by decide) (fun w174 hS175 => ?_)
   refine ⟨trivial, ?_⟩
   refine WL.store hS175 1 rfl [(0, (iv t166.n)), (1, (iv t166.d))] #[(iv t166.n), (iv t166.d)] (fun fb => by kernel_rfl) (by kernel_rfl) rfl e13 (by decide) (by decide) (fun w176 hS177 => ?_)
   refine ⟨trivial, ?_⟩
   refine WL.done rfl ?_
   injection hx34 with hx34
   exact WX.to Kx33 ((t161.n, t161.d, t166.n, t166.d), g158, g171) e29 rfl ⟨(hS177.subR []).sub e30 (by decide), hx34.symm⟩
  ·
   refine segF 4 [.v e16, .v e17, .v e14, .v e15] e22 [e26, e27, (26, (.agg e4)), (29, (.agg e3))] [] e28 e2 (fun fb => by kernel_rfl) rfl trivial rfl ?_
   refine WL.new hS36 7 [] (fun g => (pt g)) (.cells e9 70 (0, 0)) [] (fun fb g => by kernel_rfl) trivial (fun g178 w179 hS180 => ?_)
   refine ⟨⟨hS180.cell 1 rfl 2 rfl, hS180.cell 1 rfl 3 rfl, hS180.cell 1 rfl 4 rfl, hS180.cell 1 rfl 5 rfl, trivial⟩, ?_⟩
   obtain ⟨t181, ht182, hx34⟩ := bind_some hx34
   refine WL.call (some 27) 30 #[(.agg e4)] (fun fb => by kernel_rfl) (beatty_of_calls p0.Low t181 _ ht182) (fun v w183 hR184 => ?_)
   obtain ⟨rfl, hk_⟩ := hR184
   have hS185 := hS180.keepN hk_
   refine ⟨⟨hS185.cell 1 rfl 4 rfl, hS185.cell 1 rfl 5 rfl, trivial⟩, ?_⟩
   refine WL.new hS185 8 [] (fun g => (pt g)) (.cells e9 70 (0, 0)) [] (fun fb g => by kernel_rfl) trivial (fun g186 w187 hS188 => ?_)
   refine ⟨⟨hS188.cell 2 rfl 2 rfl, hS188.cell 2 rfl 3 rfl, hS188.cell 2 rfl 4 rfl, hS188.cell 2 rfl 5 rfl, trivial⟩, ?_⟩
   obtain ⟨t189, ht190, hx34⟩ := bind_some hx34
   refine WL.call (some 30) 30 #[(.agg e3)] (fun fb => by kernel_rfl) (beatty_of_calls p0.High t189 _ ht190) (fun v w191 hR192 => ?_)
   obtain ⟨rfl, hk_⟩ := hR192
   have hS193 := hS188.keepN hk_
   refine ⟨trivial, ?_⟩
   refine WL.store hS193 1 rfl [(0, (iv t181.n)), (1, (iv t181.d))] #[(iv t181.n), (iv t181.d)] (fun fb => by kernel_rfl) (by kernel_rfl) rfl e13 (by decide) (by decide) (fun w194 hS195 => ?_)
   refine ⟨trivial, ?_⟩
   refine WL.store hS195 1 rfl [(0, (iv t189.n)), (1, (iv t189.d))] #[(iv t189.n), (iv t189.d)] (fun fb => by kernel_rfl) (by kernel_rfl) rfl e13 (by decide) (by decide) (fun w196 hS197 => ?_)
   refine ⟨trivial, ?_⟩
   refine WL.done rfl ?_
   injection hx34 with hx34
   exact WX.to Kx33 ((t181.n, t181.d, t189.n, t189.d), g178, g186) e29 rfl ⟨(hS197.subR []).sub e30 (by decide), hx34.symm⟩
  ·
   refine segF 4 [.v e16, .v e17, .v e14, .v e15] e22 [e26, e27, (26, (.agg e4)), (29, (.agg e3))] [] e28 e2 (fun fb => by kernel_rfl) rfl trivial rfl ?_
   refine WL.new hS36 7 [] (fun g => (pt g)) (.cells e9 70 (0, 0)) [] (fun fb g => by kernel_rfl) trivial (fun g198 w199 hS200 => ?_)
   refine ⟨⟨hS200.cell 1 rfl 2 rfl, hS200.cell 1 rfl 3 rfl, hS200.cell 1 rfl 4 rfl, hS200.cell 1 rfl 5 rfl, trivial⟩, ?_⟩
   refine WL.new hS200 8 [] (fun g => (pt g)) (.cells e9 70 (0, 0)) [] (fun fb g => by kernel_rfl) trivial (fun g201 w202 hS203 => ?_)
   refine ⟨⟨hS203.cell 2 rfl 2 rfl, hS203.cell 2 rfl 3 rfl, hS203.cell 2 rfl 4 rfl, hS203.cell 2 rfl 5 rfl, trivial⟩, ?_⟩
   obtain ⟨t204, ht205, hx34⟩ := bind_some hx34
   refine WL.call (some 27) 30 #[(.agg e4)] (fun fb => by kernel_rfl) (beatty_of_calls p0.Low t204 _ ht205) (fun v w206 hR207 => ?_)
   obtain ⟨rfl, hk_⟩ := hR207
   have hS208 := hS203.keepN hk_
   refine ⟨⟨hS208.cell 2 rfl 4 rfl, hS208.cell 2 rfl 5 rfl, trivial⟩, ?_⟩
   obtain ⟨t209, ht210, hx34⟩ := bind_some hx34
   refine WL.call (some 30) 30 #[(.agg e3)] (fun fb => by kernel_rfl) (beatty_of_calls p0.High t209 _ ht210) (fun v w211 hR212 => ?_)
   obtain ⟨rfl, hk_⟩ := hR212
   have hS213 := hS208.keepN hk_
   refine ⟨trivial, ?_⟩
   refine WL.store hS213 1 rfl [(0, (iv t204.n)), (1, (iv t204.d))] #[(iv t204.n), (iv t204.d)] (fun fb => by kernel_rfl) (by kernel_rfl) rfl e13 (by decide) (by decide) (fun w214 hS215 => ?_)
   refine ⟨trivial, ?_⟩
   refine WL.store hS215 1 rfl [(0, (iv t209.n)), (1, (iv t209.d))] #[(iv t209.n), (iv t209.d)] (fun fb => by kernel_rfl) (by kernel_rfl) rfl e13 (by decide) (by decide) (fun w216 hS217 => ?_)
   refine ⟨trivial, ?_⟩
   refine WL.done rfl ?_
   injection hx34 with hx34
   exact WX.to Kx33 ((t204.n, t204.d, t209.n, t209.d), g198, g201) e29 rfl ⟨(hS217.subR []).sub e30 (by decide), hx34.symm⟩
  ·
   refine segF 4 [.v e16, .v e17, .v e14, .v e15] e22 [e26, e27, (26, (.agg e4)), (29, (.agg e3))] [] e28 e2 (fun fb => by kernel_rfl) rfl trivial rfl ?_
   refine WL.new hS36 8 [] (fun g => (pt g)) (.cells e9 70 (0, 0)) [] (fun fb g => by kernel_rfl) trivial (fun g218 w219 hS220 => ?_)
   refine ⟨⟨hS220.cell 1 rfl 2 rfl, hS220.cell 1 rfl 3 rfl, hS220.cell 1 rfl 4 rfl, hS220.cell 1 rfl 5 rfl, trivial⟩, ?_⟩
   obtain ⟨t221, ht222, hx34⟩ := bind_some hx34
   refine WL.call (some 27) 30 #[(.agg e4)] (fun fb => by kernel_rfl) (beatty_of_calls p0.Low t221 _ ht222) (fun v w223 hR224 => ?_)
   obtain ⟨rfl, hk_⟩ := hR224
   have hS225 := hS220.keepN hk_
   refine ⟨⟨hS225.cell 1 rfl 4 rfl, hS225.cell 1 rfl 5 rfl, trivial⟩, ?_⟩
   obtain ⟨t226, ht227, hx34⟩ := bind_some hx34
   refine WL.call (some 30) 30 #[(.agg e3)] (fun fb => by kernel_rfl) (beatty_of_calls p0.High t226 _ ht227) (fun v w228 hR229 => ?_)
   obtain ⟨rfl, hk_⟩ := hR229
   have hS230 := hS225.keepN hk_
   refine ⟨trivial, ?_⟩
   refine WL.new hS230 7 [] (fun g => (pt g)) (.cells e9 70 (0, 0)) [] (fun fb g => by kernel_rfl) trivial (fun g231 w232 hS233 => ?_)
   refine ⟨⟨hS233.cell 2 rfl 2 rfl, hS233.cell 2 rfl 3 rfl, hS233.cell 2 rfl 4 rfl, hS233.cell 2 rfl 5 rfl, trivial⟩, ?_⟩
   refine WL.store hS233 0 rfl [(0, (iv t221.n)), (1, (iv t221.d))] #[(iv t221.n), (iv t221.d)] (fun fb => by kernel_rfl) (by kernel_rfl) rfl [1, 2, 3, 4] (by decide) (by decide) (fun w234 hS235 => ?_)
   refine ⟨trivial, ?_⟩
   refine WL.store hS235 1 rfl [(0, (iv t226.n)), (1, (iv t226.d))] #[(iv t226.n), (iv t226.d)] (fun fb => by kernel_rfl) (by kernel_rfl) rfl e13 (by decide) (by decide) (fun w236 hS237 => ?_)
   refine ⟨trivial, ?_⟩
   refine WL.done rfl ?_
   injection hx34 with hx34
   exact WX.to Kx33 ((t221.n, t221.d, t226.n, t226.d), g231, g218) e29 rfl ⟨(hS237.subR []).sub e30 (by decide), hx34.symm⟩
  ·
   refine segF 4 [.v e16, .v e17, .v e14, .v e15] e22 [e26, e27, (26, (.agg e4)), (29, (.agg e3))] [] e28 e2 (fun fb => by kernel_rfl) rfl trivial rfl ?_
   refine WL.new hS36 8 [] (fun g => (pt g)) (.cells e9 70 (0, 0)) [] (fun fb g => by kernel_rfl) trivial (fun g238 w239 hS240 => ?_)
   refine ⟨⟨hS240.cell 1 rfl 2 rfl, hS240.cell 1 rfl 3 rfl, hS240.cell 1 rfl 4 rfl, hS240.cell 1 rfl 5 rfl, trivial⟩, ?_⟩
   obtain ⟨t241, ht242, hx34⟩ := bind_some hx34
   refine WL.call (some 27) 30 #[(.agg e4)] (fun fb => by kernel_rfl) (beatty_of_calls p0.Low t241 _ ht242) (fun v w243 hR244 => ?_)
   obtain ⟨rfl, hk_⟩ := hR244
   have hS245 := hS240.keepN hk_
   refine ⟨⟨hS245.cell 1 rfl 4 rfl, hS245.cell 1 rfl 5 rfl, trivial⟩, ?_⟩
   refine WL.new hS245 7 [] (fun g => (pt g)) (.cells e9 70 (0, 0)) [] (fun fb g => by kernel_rfl) trivial (fun g246 w247 hS248 => ?_)
   refine ⟨⟨hS248.cell 2 rfl 2 rfl, hS248.cell 2 rfl 3 rfl, hS248.cell 2 rfl 4 rfl, hS248.cell 2 rfl 5 rfl, trivial⟩, ?_⟩
   obtain ⟨t249, ht250, hx34⟩ := bind_some hx34
   refine WL.call (some 30) 30 #[(.agg e3)] (fun fb => by kernel_rfl) (beatty_of_calls p0.High t249 _ ht250) (fun v w251 hR252 => ?_)
   obtain ⟨rfl, hk_⟩ := hR252
   have hS253 := hS248.keepN hk_
   refine ⟨trivial, ?_⟩
   refine WL.store hS253 0 rfl [(0, (iv t241.n)), (1, (iv t241.d))] #[(iv t241.n), (iv t241.d)] (fun fb => by kernel_rfl) (by kernel_rfl) rfl [1, 2, 3, 4] (by decide) (by decide) (fun w254 hS255 => ?_)
   refine ⟨trivial, ?_⟩
   refine WL.store hS255 1 rfl [(0, (iv t249.n)), (1, (iv t249.d))] #[(iv t249.n), (iv t249.d)] (fun fb => by kernel_rfl) (by kernel_rfl) rfl e13 (by decide) (by decide) (fun w256 hS257 => ?_)
   refine ⟨trivial, ?_⟩
   refine WL.done rfl ?_
   injection hx34 with hx34
   exact WX.to Kx33 ((t241.n, t241.d, t249.n, t249.d), g246, g238) e29 rfl ⟨(hS257.subR []).sub e30 (by decide), hx34.symm⟩
  refine segF 4 [.v e16, .v e17, .v e14, .v e15] e22 [e26, e27, (26, (.agg e4)), (29, (.agg e3))] [] e28 e2 (fun fb => by kernel_rfl) rfl trivial rfl ?_
  refine WL.new hS36 8 [] (fun g => (pt g)) (.cells e9 70 (0, 0)) [] (fun fb g => by kernel_rfl) trivial (fun g258 w259 hS260 => ?_)
  refine ⟨⟨hS260.cell 1 rfl 2 rfl, hS260.cell 1 rfl 3 rfl, hS260.cell 1 rfl 4 rfl, hS260.cell 1 rfl 5 rfl, trivial⟩, ?_⟩
  refine WL.new hS260 7 [] (fun g => (pt g)) (.cells e9 70 (0, 0)) [] (fun fb g => by kernel_rfl) trivial (fun g261 w262 hS263 => ?_)
  refine ⟨⟨hS263.cell 2 rfl 2 rfl, hS263.cell 2 rfl 3 rfl, hS263.cell 2 rfl 4 rfl, hS263.cell 2 rfl 5 rfl, trivial⟩, ?_⟩
  obtain ⟨t264, ht265, hx34⟩ := bind_some hx34
  refine WL.call (some 27) 30 #[(.agg e4)] (fun fb => by kernel_rfl) (beatty_of_calls p0.Low t264 _ ht265) (fun v w266 hR267 => ?_)
  obtain ⟨rfl, hk_⟩ := hR267
  have hS268 := hS263.keepN hk_
  refine ⟨⟨hS268.cell 2 rfl 4 rfl, hS268.cell 2 rfl 5 rfl, trivial⟩, ?_⟩
  obtain ⟨t269, ht270, hx34⟩ := bind_some hx34
  refine WL.call (some 30) 30 #[(.agg e3)] (fun fb => by kernel_rfl) (beatty_of_calls p0.High t269 _ ht270) (fun v w271 hR272 => ?_)
  obtain ⟨rfl, hk_⟩ := hR272
  have hS273 := hS268.keepN hk_
  refine ⟨trivial, ?_⟩
  refine WL.store hS273 0 rfl [(0, (iv t264.n)), (1, (iv t264.d))] #[(iv t264.n), (iv t264.d)] (fun fb => by kernel_rfl) (by kernel_rfl) rfl [1, 2, 3, 4] (by decide) (by decide) (fun w274 hS275 => ?_)
  refine ⟨trivial, ?_⟩
  refine WL.store hS275 1 rfl [(0, (iv t269.n)), (1, (iv t269.d))] #[(iv t269.n), (iv t269.d)] (fun fb => by kernel_rfl) (by kernel_rfl) rfl e13 (by decide) (by decide) (fun w276 hS277 => ?_)
  refine ⟨trivial, ?_⟩
  refine WL.done rfl ?_
  injection hx34 with hx34
  exact WX.to Kx33 ((t264.n, t264.d, t269.n, t269.d), g261, g258) e29 rfl ⟨(hS277.subR []).sub e30 (by decide), hx34.symm⟩
 rintro ⟨y281, g31, g32⟩ w278 ⟨hS279, hq280⟩
 subst hq280
 refine WX.next (WC.seq ?_)
 obtain ⟨x284, hx285, hf⟩ := bind_some hf
 let e1 : List (Nat × Addr × Value) := [(1, ⟨g9, 0, none⟩, (iv p2.from_.n)), (1, ⟨g9, 1, none⟩, (iv p2.from_.d)), (3, ⟨g6, 2, none⟩, (iv p1.to.n)), (3, ⟨g6, 3, none⟩, (iv p1.to.d)), (6, ⟨g9, 2, none⟩, (iv p2.to.n)), (6, ⟨g9, 3, none⟩, (iv p2.to.d)), (8, ⟨g6, 0, none⟩, (iv p1.from_.n)), (8, ⟨g6, 1, none⟩, (iv p1.from_.d))]
 let e5 : Array Value := #[(iv p2.from_.n), (iv p2.from_.d)]
 let e6 : Array Value := #[(iv p1.from_.n), (iv p1.from_.d)]
 let e7 : Array Value := #[(iv p1.to.n), (iv p1.to.d)]
 let e8 : Array Value := #[(iv p2.to.n), (iv p2.to.d)]
 let e10 : List Nat := [0, 1, 2, 3, 4, 5, 6, 7]
 let e11 : List Nat := [7, 8, 32, 34, 37, 39]
 let e12 : List Nat := [0, 2, 3, 4, 5]
 let e18 := iv p2.from_.n
 let e19 := iv p2.from_.d
 let e20 := iv p1.from_.n
 let e21 := iv p1.from_.d
 let e23 : Nat × Value := (7, (pt g31))
 let e24 : Nat × Value := (8, (pt g32))
 let e25 : List Nat := [7, 8, 9, 10]
 let e31 := iv p1.to.n
 let e32 := iv p1.to.d
 let e33 := iv p2.to.n
 let e34 := iv p2.to.d
 let e35 : List Nat := [4, 5, 1, 0]
 let e36 : List Nat := [1, 2, 3, 4, 5]
 refine WC.cutN (T := (Int × Int × Int × Int) × Nat × Nat) (fun t => [e23, e24, (9, (.pointer (some ⟨t.2.1, 0, none⟩))), (10, (.pointer (some ⟨t.2.2, 0, none⟩)))]) (fun t w1 => St NoS w w1 [] [blk g31 (.cells #[(iv x33.1), (iv x33.2.1)] 70 (0, 0)), blk g32 (.cells #[(iv x33.2.2.1), (iv x33.2.2.2)] 70 (0, 0)), blk t.2.1 (.cells #[(iv t.1.1), (iv t.1.2.1)] 70 (0, 0)), blk t.2.2 (.cells #[(iv t.1.2.2.1), (iv t.1.2.2.2)] 70 (0, 0))] ∧ x284 = t.1) (fun Kx284 => ?_) ?_
 ·
  refine WC.regionD (e1, [0, 1, 2, 3, 5, 6, 7, 8], [[], [0], [], [2], e28, [], [5], [], [7], [0, 1, 2, 3, 4, 5, 6, 7, 8], [], [], [0, 1, 2, 3, 4, 5, 6, 7, 8, 9, 10, 11], [0, 1, 2, 3, 4, 5, 6, 7, 8, 9, 10, 11, 12]]) [[0, 1, 2, 3, 5, 6, 7, 8, 4, 9, 10, 11, 12, 13], [0, 1, 2, 3, 5, 6, 7, 8, 4, 9, 11, 10, 12, 13], [0, 1, 2, 3, 5, 6, 7, 8, 4, 10, 9, 11, 12, 13], [0, 1, 2, 3, 5, 6, 7, 8, 4, 10, 11, 9, 12, 13], [0, 1, 2, 3, 5, 6, 7, 8, 4, 11, 9, 10, 12, 13], [0, 1, 2, 3, 5, 6, 7, 8, 4, 11, 10, 9, 12, 13], [0, 1, 2, 3, 5, 6, 7, 8, 10, 4, 9, 11, 12, 13], [0, 1, 2, 3, 5, 6, 7, 8, 10, 4, 11, 9, 12, 13], [0, 1, 2, 3, 5, 6, 7, 8, 10, 11, 4, 9, 12, 13], [0, 1, 2, 3, 5, 6, 7, 8, 11, 4, 9, 10, 12, 13], [0, 1, 2, 3, 5, 6, 7, 8, 11, 4, 10, 9, 12, 13], [0, 1, 2, 3, 5, 6, 7, 8, 11, 10, 4, 9, 12, 13]] (by kernel_rfl) (by kernel_rfl) (NoPanic.seq (NoPanic.body)) ?_
  have hS287 := hS279.drew
  revert hS287
  generalize World.drew w278 = w286
  intro hS287
  refine ⟨⟨hS287.cell 1 rfl 0 rfl, hS287.cell 1 rfl 1 rfl, hS287.cell 0 rfl 2 rfl, hS287.cell 0 rfl 3 rfl, hS287.cell 1 rfl 2 rfl, hS287.cell 1 rfl 3 rfl, hS287.cell 0 rfl 0 rfl, hS287.cell 0 rfl 1 rfl, trivial⟩, forallC ?_ (forallC ?_ (forallC ?_ (forallC ?_ (forallC ?_ (forallC ?_ (forallC ?_ (forallC ?_ (forallC ?_ (forallC ?_ (forallC ?_ (forallC ?_ (forallN))))))))))))⟩
  ·
   refine segF 8 [.v e18, .v e19, .v e31, .v e32, .v e33, .v e34, .v e20, .v e21] e11 [e23, e24, (32, (.agg e5)), (34, (.agg e7)), (37, (.agg e8)), (39, (.agg e6))] [] e10 e1 (fun fb => by kernel_rfl) rfl trivial rfl ?_
   obtain ⟨t288, ht289, hx285⟩ := bind_some hx285
   refine WL.call (some 35) 115 #[(.agg e5), (.agg e7)] (fun fb => by kernel_rfl) (beatty_ratio_minus_calls p2.from_ p1.to t288 _ ht289) (fun v w290 hR291 => ?_)
   obtain ⟨rfl, hk_⟩ := hR291
   have hS292 := hS287.keepN hk_
   refine ⟨⟨hS292.cell 1 rfl 2 rfl, hS292.cell 1 rfl 3 rfl, hS292.cell 0 rfl 0 rfl, hS292.cell 0 rfl 1 rfl, trivial⟩, ?_⟩
   obtain ⟨t293, ht294, hx285⟩ := bind_some hx285
   refine WL.call (some 40) 115 #[(.agg e8), (.agg e6)] (fun fb => by kernel_rfl) (beatty_ratio_minus_calls p2.to p1.from_ t293 _ ht294) (fun v w295 hR296 => ?_)
   obtain ⟨rfl, hk_⟩ := hR296
   have hS297 := hS292.keepN hk_
   refine ⟨trivial, ?_⟩
   refine WL.new hS297 9 [] (fun g => (pt g)) (.cells e9 70 (0, 0)) [] (fun fb g => by kernel_rfl) trivial (fun g298 w299 hS300 => ?_)
   refine ⟨⟨hS300.cell 2 rfl 0 rfl, hS300.cell 2 rfl 1 rfl, hS300.cell 1 rfl 2 rfl, hS300.cell 1 rfl 3 rfl, hS300.cell 2 rfl 2 rfl, hS300.cell 2 rfl 3 rfl, hS300.cell 1 rfl 0 rfl, hS300.cell 1 rfl 1 rfl, trivial⟩, ?_⟩
   refine WL.new hS300 10 [] (fun g => (pt g)) (.cells e9 70 (0, 0)) [] (fun fb g => by kernel_rfl) trivial (fun g301 w302 hS303 => ?_)
   refine ⟨⟨hS303.cell 3 rfl 0 rfl, hS303.cell 3 rfl 1 rfl, hS303.cell 2 rfl 2 rfl, hS303.cell 2 rfl 3 rfl, hS303.cell 3 rfl 2 rfl, hS303.cell 3 rfl 3 rfl, hS303.cell 2 rfl 0 rfl, hS303.cell 2 rfl 1 rfl, trivial⟩, ?_⟩
   refine WL.store hS303 1 rfl [(0, (iv t288.n)), (1, (iv t288.d))] #[(iv t288.n), (iv t288.d)] (fun fb => by kernel_rfl) (by kernel_rfl) rfl e12 (by decide) (by decide) (fun w304 hS305 => ?_)
   refine ⟨trivial, ?_⟩
   refine WL.store hS305 1 rfl [(0, (iv t293.n)), (1, (iv t293.d))] #[(iv t293.n), (iv t293.d)] (fun fb => by kernel_rfl) (by kernel_rfl) rfl e12 (by decide) (by decide) (fun w306 hS307 => ?_)
   refine ⟨trivial, ?_⟩
   refine WL.done rfl ?_
   injection hx285 with hx285
   exact WX.to Kx284 ((t288.n, t288.d, t293.n, t293.d), g298, g301) e25 rfl ⟨(hS307.subR []).sub e35 (by decide), hx285.symm⟩
  ·
   refine segF 8 [.v e18, .v e19, .v e31, .v e32, .v e33, .v e34, .v e20, .v e21] e11 [e23, e24, (32, (.agg e5)), (34, (.agg e7)), (37, (.agg e8)), (39, (.agg e6))] [] e10 e1 (fun fb => by kernel_rfl) rfl trivial rfl ?_
   obtain ⟨t308, ht309, hx285⟩ := bind_some hx285
   refine WL.call (some 35) 115 #[(.agg e5), (.agg e7)] (fun fb => by kernel_rfl) (beatty_ratio_minus_calls p2.from_ p1.to t308 _ ht309) (fun v w310 hR311 => ?_)
   obtain ⟨rfl, hk_⟩ := hR311
   have hS312 := hS287.keepN hk_
   refine ⟨⟨hS312.cell 1 rfl 2 rfl, hS312.cell 1 rfl 3 rfl, hS312.cell 0 rfl 0 rfl, hS312.cell 0 rfl 1 rfl, trivial⟩, ?_⟩
   obtain ⟨t313, ht314, hx285⟩ := bind_some hx285
   refine WL.call (some 40) 115 #[(.agg e8), (.agg e6)] (fun fb => by kernel_rfl) (beatty_ratio_minus_calls p2.to p1.from_ t313 _ ht314) (fun v w315 hR316 => ?_)
   obtain ⟨rfl, hk_⟩ := hR316
   have hS317 := hS312.keepN hk_
   refine ⟨trivial, ?_⟩
   refine WL.new hS317 10 [] (fun g => (pt g)) (.cells e9 70 (0, 0)) [] (fun fb g => by kernel_rfl) trivial (fun g318 w319 hS320 => ?_)
   refine ⟨⟨hS320.cell 2 rfl 0 rfl, hS320.cell 2 rfl 1 rfl, hS320.cell 1 rfl 2 rfl, hS320.cell 1 rfl 3 rfl, hS320.cell 2 rfl 2 rfl, hS320.cell 2 rfl 3 rfl, hS320.cell 1 rfl 0 rfl, hS320.cell 1 rfl 1 rfl, trivial⟩, ?_⟩
   refine WL.new hS320 9 [] (fun g => (pt g)) (.cells e9 70 (0, 0)) [] (fun fb g => by kernel_rfl) trivial (fun g321 w322 hS323 => ?_)
   refine ⟨⟨hS323.cell 3 rfl 0 rfl, hS323.cell 3 rfl 1 rfl, hS323.cell 2 rfl 2 rfl, hS323.cell 2 rfl 3 rfl, hS323.cell 3 rfl 2 rfl, hS323.cell 3 rfl 3 rfl, hS323.cell 2 rfl 0 rfl, hS323.cell 2 rfl 1 rfl, trivial⟩, ?_⟩
   refine WL.store hS323 0 rfl [(0, (iv t308.n)), (1, (iv t308.d))] #[(iv t308.n), (iv t308.d)] (fun fb => by kernel_rfl) (by kernel_rfl) rfl e36 (by decide) (by decide) (fun w324 hS325 => ?_)
   refine ⟨trivial, ?_⟩
   refine WL.store hS325 1 rfl [(0, (iv t313.n)), (1, (iv t313.d))] #[(iv t313.n), (iv t313.d)] (fun fb => by kernel_rfl) (by kernel_rfl) rfl e12 (by decide) (by decide) (fun w326 hS327 => ?_)
   refine ⟨trivial, ?_⟩
   refine WL.done rfl ?_
   injection hx285 with hx285
   exact WX.to Kx284 ((t308.n, t308.d, t313.n, t313.d), g321, g318) e25 rfl ⟨(hS327.subR []).sub e35 (by decide), hx285.symm⟩
  ·
   refine segF 8 [.v e18, .v e19, .v e31, .v e32, .v e33, .v e34, .v e20, .v e21] e11 [e23, e24, (32, (.agg e5)), (34, (.agg e7)), (37, (.agg e8)), (39, (.agg e6))] [] e10 e1 (fun fb => by kernel_rfl) rfl trivial rfl ?_
   obtain ⟨t328, ht329, hx285⟩ := bind_some hx285
   refine WL.call (some 35) 115 #[(.agg e5), (.agg e7)] (fun fb => by kernel_rfl) (beatty_ratio_minus_calls p2.from_ p1.to t328 _ ht329) (fun v w330 hR331 => ?_)
   obtain ⟨rfl, hk_⟩ := hR331
   have hS332 := hS287.keepN hk_
   refine ⟨⟨hS332.cell 1 rfl 2 rfl, hS332.cell 1 rfl 3 rfl, hS332.cell 0 rfl 0 rfl, hS332.cell 0 rfl 1 rfl, trivial⟩, ?_⟩
   refine WL.new hS332 9 [] (fun g => (pt g)) (.cells e9 70 (0, 0)) [] (fun fb g => by kernel_rfl) trivial (fun g333 w334 hS335 => ?_)
   refine ⟨⟨hS335.cell 2 rfl 0 rfl, hS335.cell 2 rfl 1 rfl, hS335.cell 1 rfl 2 rfl, hS335.cell 1 rfl 3 rfl, hS335.cell 2 rfl 2 rfl, hS335.cell 2 rfl 3 rfl, hS335.cell 1 rfl 0 rfl, hS335.cell 1 rfl 1 rfl, trivial⟩, ?_⟩
   obtain ⟨t336, ht337, hx285⟩ := bind_some hx285
   refine WL.call (some 40) 115 #[(.agg e8), (.agg e6)] (fun fb => by kernel_rfl) (beatty_ratio_minus_calls p2.to p1.from_ t336 _ ht337) (fun v w338 hR339 => ?_)
   obtain ⟨rfl, hk_⟩ := hR339
   have hS340 := hS335.keepN hk_
   refine ⟨trivial, ?_⟩
   refine WL.new hS340 10 [] (fun g => (pt g)) (.cells e9 70 (0, 0)) [] (fun fb g => by kernel_rfl) trivial (fun g341 w342 hS343 => ?_)
   refine ⟨⟨hS343.cell 3 rfl 0 rfl, hS343.cell 3 rfl 1 rfl, hS343.cell 2 rfl 2 rfl, hS343.cell 2 rfl 3 rfl, hS343.cell 3 rfl 2 rfl, hS343.cell 3 rfl 3 rfl, hS343.cell 2 rfl 0 rfl, hS343.cell 2 rfl 1 rfl, trivial⟩, ?_⟩
   refine WL.store hS343 1 rfl [(0, (iv t328.n)), (1, (iv t328.d))] #[(iv t328.n), (iv t328.d)] (fun fb => by kernel_rfl) (by kernel_rfl) rfl e12 (by decide) (by decide) (fun w344 hS345 => ?_)
   refine ⟨trivial, ?_⟩
   refine WL.store hS345 1 rfl [(0, (iv t336.n)), (1, (iv t336.d))] #[(iv t336.n), (iv t336.d)] (fun fb => by kernel_rfl) (by kernel_rfl) rfl e12 (by decide) (by decide) (fun w346 hS347 => ?_)
   refine ⟨trivial, ?_⟩
   refine WL.done rfl ?_
   injection hx285 with hx285
   exact WX.to Kx284 ((t328.n, t328.d, t336.n, t336.d), g333, g341) e25 rfl ⟨(hS347.subR []).sub e35 (by decide), hx285.symm⟩
  ·
   refine segF 8 [.v e18, .v e19, .v e31, .v e32, .v e33, .v e34, .v e20, .v e21] e11 [e23, e24, (32, (.agg e5)), (34, (.agg e7)), (37, (.agg e8)), (39, (.agg e6))] [] e10 e1 (fun fb => by kernel_rfl) rfl trivial rfl ?_
   obtain ⟨t348, ht349, hx285⟩ := bind_some hx285
   refine WL.call (some 35) 115 #[(.agg e5), (.agg e7)] (fun fb => by kernel_rfl) (beatty_ratio_minus_calls p2.from_ p1.to t348 _ ht349) (fun v w350 hR351 => ?_)
   obtain ⟨rfl, hk_⟩ := hR351
   have hS352 := hS287.keepN hk_
   refine ⟨⟨hS352.cell 1 rfl 2 rfl, hS352.cell 1 rfl 3 rfl, hS352.cell 0 rfl 0 rfl, hS352.cell 0 rfl 1 rfl, trivial⟩, ?_⟩
   refine WL.new hS352 9 [] (fun g => (pt g)) (.cells e9 70 (0, 0)) [] (fun fb g => by kernel_rfl) trivial (fun g353 w354 hS355 => ?_)
   refine ⟨⟨hS355.cell 2 rfl 0 rfl, hS355.cell 2 rfl 1 rfl, hS355.cell 1 rfl 2 rfl, hS355.cell 1 rfl 3 rfl, hS355.cell 2 rfl 2 rfl, hS355.cell 2 rfl 3 rfl, hS355.cell 1 rfl 0 rfl, hS355.cell 1 rfl 1 rfl, trivial⟩, ?_⟩
   refine WL.new hS355 10 [] (fun g => (pt g)) (.cells e9 70 (0, 0)) [] (fun fb g => by kernel_rfl) trivial (fun g356 w357 hS358 => ?_)
   refine ⟨⟨hS358.cell 3 rfl 0 rfl, hS358.cell 3 rfl 1 rfl, hS358.cell 2 rfl 2 rfl, hS358.cell 2 rfl 3 rfl, hS358.cell 3 rfl 2 rfl, hS358.cell 3 rfl 3 rfl, hS358.cell 2 rfl 0 rfl, hS358.cell 2 rfl 1 rfl, trivial⟩, ?_⟩
   obtain ⟨t359, ht360, hx285⟩ := bind_some hx285
   refine WL.call (some 40) 115 #[(.agg e8), (.agg e6)] (fun fb => by kernel_rfl) (beatty_ratio_minus_calls p2.to p1.from_ t359 _ ht360) (fun v w361 hR362 => ?_)
   obtain ⟨rfl, hk_⟩ := hR362
   have hS363 := hS358.keepN hk_
   refine ⟨trivial, ?_⟩
   refine WL.store hS363 1 rfl [(0, (iv t348.n)), (1, (iv t348.d))] #[(iv t348.n), (iv t348.d)] (fun fb => by kernel_rfl) (by kernel_rfl) rfl e12 (by decide) (by decide) (fun w364 hS365 => ?_)
   refine ⟨trivial, ?_⟩
   refine WL.store hS365 1 rfl [(0, (iv t359.n)), (1, (iv t359.d))] #[(iv t359.n), (iv t359.d)] (fun fb => by kernel_rfl) (by kernel_rfl) rfl e12 (by decide) (by decide) (fun w366 hS367 => ?_)
   refine ⟨trivial, ?_⟩
   refine WL.done rfl ?_
   injection hx285 with hx285
   exact WX.to Kx284 ((t348.n, t348.d, t359.n, t359.d), g353, g356) e25 rfl ⟨(hS367.subR []).sub e35 (by decide), hx285.symm⟩
  ·
   refine segF 8 [.v e18, .v e19, .v e31, .v e32, .v e33, .v e34, .v e20, .v e21] e11 [e23, e24, (32, (.agg e5)), (34, (.agg e7)), (37, (.agg e8)), (39, (.agg e6))] [] e10 e1 (fun fb => by kernel_rfl) rfl trivial rfl ?_
   obtain ⟨t368, ht369, hx285⟩ := bind_some hx285
   refine WL.call (some 35) 115 #[(.agg e5), (.agg e7)] (fun fb => by kernel_rfl) (beatty_ratio_minus_calls p2.from_ p1.to t368 _ ht369) (fun v w370 hR371 => ?_)
   obtain ⟨rfl, hk_⟩ := hR371
   have hS372 := hS287.keepN hk_
   refine ⟨⟨hS372.cell 1 rfl 2 rfl, hS372.cell 1 rfl 3 rfl, hS372.cell 0 rfl 0 rfl, hS372.cell 0 rfl 1 rfl, trivial⟩, ?_⟩
   refine WL.new hS372 10 [] (fun g => (pt g)) (.cells e9 70 (0, 0)) [] (fun fb g => by kernel_rfl) trivial (fun g373 w374 hS375 => ?_)
   refine ⟨⟨hS375.cell 2 rfl 0 rfl, hS375.cell 2 rfl 1 rfl, hS375.cell 1 rfl 2 rfl, hS375.cell 1 rfl 3 rfl, hS375.cell 2 rfl 2 rfl, hS375.cell 2 rfl 3 rfl, hS375.cell 1 rfl 0 rfl, hS375.cell 1 rfl 1 rfl, trivial⟩, ?_⟩
   obtain ⟨t376, ht377, hx285⟩ := bind_some hx285
   refine WL.call (some 40) 115 #[(.agg e8), (.agg e6)] (fun fb => by kernel_rfl) (beatty_ratio_minus_calls p2.to p1.from_ t376 _ ht377) (fun v w378 hR379 => ?_)
   obtain ⟨rfl, hk_⟩ := hR379
   have hS380 := hS375.keepN hk_
   refine ⟨trivial, ?_⟩
   refine WL.new hS380 9 [] (fun g => (pt g)) (.cells e9 70 (0, 0)) [] (fun fb g => by kernel_rfl) trivial (fun g381 w382 hS383 => ?_)
   refine ⟨⟨hS383.cell 3 rfl 0 rfl, hS383.cell 3 rfl 1 rfl, hS383.cell 2 rfl 2 rfl, hS383.cell 2 rfl 3 rfl, hS383.cell 3 rfl 2 rfl, hS383.cell 3 rfl 3 rfl, hS383.cell 2 rfl 0 rfl, hS383.cell 2 rfl 1 rfl, trivial⟩, ?_⟩
   refine WL.store hS383 0 rfl [(0, (iv t368.n)), (1, (iv t368.d))] #[(iv t368.n), (iv t368.d)] (fun fb => by kernel_rfl) (by kernel_rfl) rfl e36 (by decide) (by decide) (fun w384 hS385 => ?_)
   refine ⟨trivial, ?_⟩
   refine WL.store hS385 1 rfl [(0, (iv t376.n)), (1, (iv t376.d))] #[(iv t376.n), (iv t376.d)] (fun fb => by kernel_rfl) (by kernel_rfl) rfl e12 (by decide) (by decide) (fun w386 hS387 => ?_)
   refine ⟨trivial, ?_⟩
   refine WL.done rfl ?_
   injection hx285 with hx285
   exact WX.to Kx284 ((t368.n, t368.d, t376.n, t376.d), g381, g373) e25 rfl ⟨(hS387.subR []).sub e35 (by decide), hx285.symm⟩
  ·
   refine segF 8 [.v e18, .v e19, .v e31, .v e32, .v e33, .v e34, .v e20, .v e21] e11 [e23, e24, (32, (.agg e5)), (34, (.agg e7)), (37, (.agg e8)), (39, (.agg e6))] [] e10 e1 (fun fb => by kernel_rfl) rfl trivial rfl ?_
   obtain ⟨t388, ht389, hx285⟩ := bind_some hx285
   refine WL.call (some 35) 115 #[(.agg e5), (.agg e7)] (fun fb => by kernel_rfl) (beatty_ratio_minus_calls p2.from_ p1.to t388 _ ht389) (fun v w390 hR391 => ?_)
   obtain ⟨rfl, hk_⟩ := hR391
   have hS392 := hS287.keepN hk_
   refine ⟨⟨hS392.cell 1 rfl 2 rfl, hS392.cell 1 rfl 3 rfl, hS392.cell 0 rfl 0 rfl, hS392.cell 0 rfl 1 rfl, trivial⟩, ?_⟩
   refine WL.new hS392 10 [] (fun g => (pt g)) (.cells e9 70 (0, 0)) [] (fun fb g => by kernel_rfl) trivial (fun g393 w394 hS395 => ?_)
   refine ⟨⟨hS395.cell 2 rfl 0 rfl, hS395.cell 2 rfl 1 rfl, hS395.cell 1 rfl 2 rfl, hS395.cell 1 rfl 3 rfl, hS395.cell 2 rfl 2 rfl, hS395.cell 2 rfl 3 rfl, hS395.cell 1 rfl 0 rfl, hS395.cell 1 rfl 1 rfl, trivial⟩, ?_⟩
   refine WL.new hS395 9 [] (fun g => (pt g)) (.cells e9 70 (0, 0)) [] (fun fb g => by kernel_rfl) trivial (fun g396 w397 hS398 => ?_)
   refine ⟨⟨hS398.cell 3 rfl 0 rfl, hS398.cell 3 rfl 1 rfl, hS398.cell 2 rfl 2 rfl, hS398.cell 2 rfl 3 rfl, hS398.cell 3 rfl 2 rfl, hS398.cell 3 rfl 3 rfl, hS398.cell 2 rfl 0 rfl, hS398.cell 2 rfl 1 rfl, trivial⟩, ?_⟩
   obtain ⟨t399, ht400, hx285⟩ := bind_some hx285
   refine WL.call (some 40) 115 #[(.agg e8), (.agg e6)] (fun fb => by kernel_rfl) (beatty_ratio_minus_calls p2.to p1.from_ t399 _ ht400) (fun v w401 hR402 => ?_)
   obtain ⟨rfl, hk_⟩ := hR402
   have hS403 := hS398.keepN hk_
   refine ⟨trivial, ?_⟩
   refine WL.store hS403 0 rfl [(0, (iv t388.n)), (1, (iv t388.d))] #[(iv t388.n), (iv t388.d)] (fun fb => by kernel_rfl) (by kernel_rfl) rfl e36 (by decide) (by decide) (fun w404 hS405 => ?_)
   refine ⟨trivial, ?_⟩
   refine WL.store hS405 1 rfl [(0, (iv t399.n)), (1, (iv t399.d))] #[(iv t399.n), (iv t399.d)] (fun fb => by kernel_rfl) (by kernel_rfl) rfl e12 (by decide) (by decide) (fun w406 hS407 => ?_)
   refine ⟨trivial, ?_⟩
   refine WL.done rfl ?_
   injection hx285 with hx285
   exact WX.to Kx284 ((t388.n, t388.d, t399.n, t399.d), g396, g393) e25 rfl ⟨(hS407.subR []).sub e35 (by decide), hx285.symm⟩
  ·
   refine segF 8 [.v e18, .v e19, .v e31, .v e32, .v e33, .v e34, .v e20, .v e21] e11 [e23, e24, (32, (.agg e5)), (34, (.agg e7)), (37, (.agg e8)), (39, (.agg e6))] [] e10 e1 (fun fb => by kernel_rfl) rfl trivial rfl ?_
   refine WL.new hS287 9 [] (fun g => (pt g)) (.cells e9 70 (0, 0)) [] (fun fb g => by kernel_rfl) trivial (fun g408 w409 hS410 => ?_)
   refine ⟨⟨hS410.cell 2 rfl 0 rfl, hS410.cell 2 rfl 1 rfl, hS410.cell 1 rfl 2 rfl, hS410.cell 1 rfl 3 rfl, hS410.cell 2 rfl 2 rfl, hS410.cell 2 rfl 3 rfl, hS410.cell 1 rfl 0 rfl, hS410.cell 1 rfl 1 rfl, trivial⟩, ?_⟩
   obtain ⟨t411, ht412, hx285⟩ := bind_some hx285
   refine WL.call (some 35) 115 #[(.agg e5), (.agg e7)] (fun fb => by kernel_rfl) (beatty_ratio_minus_calls p2.from_ p1.to t411 _ ht412) (fun v w413 hR414 => ?_)
   obtain ⟨rfl, hk_⟩ := hR414
   have hS415 := hS410.keepN hk_
   refine ⟨⟨hS415.cell 2 rfl 2 rfl, hS415.cell 2 rfl 3 rfl, hS415.cell 1 rfl 0 rfl, hS415.cell 1 rfl 1 rfl, trivial⟩, ?_⟩
   obtain ⟨t416, ht417, hx285⟩ := bind_some hx285
   refine WL.call (some 40) 115 #[(.agg e8), (.agg e6)] (fun fb => by kernel_rfl) (beatty_ratio_minus_calls p2.to p1.from_ t416 _ ht417) (fun v w418 hR419 => ?_)
   obtain ⟨rfl, hk_⟩ := hR419
   have hS420 := hS415.keepN hk_
   refine ⟨trivial, ?_⟩
   refine WL.new hS420 10 [] (fun g => (pt g)) (.cells e9 70 (0, 0)) [] (fun fb g => by kernel_rfl) trivial (fun g421 w422 hS423 => ?_)
   refine ⟨⟨hS423.cell 3 rfl 0 rfl, hS423.cell 3 rfl 1 rfl, hS423.cell 2 rfl 2 rfl, hS423.cell 2 rfl 3 rfl, hS423.cell 3 rfl 2 rfl, hS423.cell 3 rfl 3 rfl, hS423.cell 2 rfl 0 rfl, hS423.cell 2 rfl 1 rfl, trivial⟩, ?_⟩
   refine WL.store hS423 1 rfl [(0, (iv t411.n)), (1, (iv t411.d))] #[(iv t411.n), (iv t411.d)] (fun fb => by kernel_rfl) (by kernel_rfl) rfl e12 (by decide) (by decide) (fun w424 hS425 => ?_)
   refine ⟨trivial, ?_⟩
   refine WL.store hS425 1 rfl [(0, (iv t416.n)), (1, (iv t416.d))] #[(iv t416.n), (iv t416.d)] (fun fb => by kernel_rfl) (by kernel_rfl) rfl e12 (by decide) (by decide) (fun w426 hS427 => ?_)
   refine ⟨trivial, ?_⟩
   refine WL.done rfl ?_
   injection hx285 with hx285
   exact WX.to Kx284 ((t411.n, t411.d, t416.n, t416.d), g408, g421) e25 rfl ⟨(hS427.subR []).sub e35 (by decide), hx285.symm⟩
  ·
   refine segF 8 [.v e18, .v e19, .v e31, .v e32, .v e33, .v e34, .v e20, .v e21] e11 [e23, e24, (32, (.agg e5)), (34, (.agg e7)), (37, (.agg e8)), (39, (.agg e6))] [] e10 e1 (fun fb => by kernel_rfl) rfl trivial rfl ?_
   refine WL.new hS287 9 [] (fun g => (pt g)) (.cells e9 70 (0, 0)) [] (fun fb g => by kernel_rfl) trivial (fun g428 w429 hS430 => ?_)
   refine ⟨⟨hS430.cell 2 rfl 0 rfl, hS430.cell 2 rfl 1 rfl, hS430.cell 1 rfl 2 rfl, hS430.cell 1 rfl 3 rfl, hS430.cell 2 rfl 2 rfl, hS430.cell 2 rfl 3 rfl, hS430.cell 1 rfl 0 rfl, hS430.cell 1 rfl 1 rfl, trivial⟩, ?_⟩
   obtain ⟨t431, ht432, hx285⟩ := bind_some hx285
   refine WL.call (some 35) 115 #[(.agg e5), (.agg e7)] (fun fb => by kernel_rfl) (beatty_ratio_minus_calls p2.from_ p1.to t431 _ ht432) (fun v w433 hR434 => ?_)
   obtain ⟨rfl, hk_⟩ := hR434
   have hS435 := hS430.keepN hk_
   refine ⟨⟨hS435.cell 2 rfl 2 rfl, hS435.cell 2 rfl 3 rfl, hS435.cell 1 rfl 0 rfl, hS435.cell 1 rfl 1 rfl, trivial⟩, ?_⟩
   refine WL.new hS435 10 [] (fun g => (pt g)) (.cells e9 70 (0, 0)) [] (fun fb g => by kernel_rfl) trivial (fun g436 w437 hS438 => ?_)
   refine ⟨⟨hS438.cell 3 rfl 0 rfl, hS438.cell 3 rfl 1 rfl, hS438.cell 2 rfl 2 rfl, hS438.cell 2 rfl 3 rfl, hS438.cell 3 rfl 2 rfl, hS438.cell 3 rfl 3 rfl, hS438.cell 2 rfl 0 rfl, hS438.cell 2 rfl 1 rfl, trivial⟩, ?_⟩
   obtain ⟨t439, ht440, hx285⟩ := bind_some hx285
   refine WL.call (some 40) 115 #[(.agg e8), (.agg e6)] (fun fb => by kernel_rfl) (beatty_ratio_minus_calls p2.to p1.from_ t439 _ ht440) (fun v w441 hR442 => ?_)
   obtain ⟨rfl, hk_⟩ := hR442
   have hS443 := hS438.keepN hk_
   refine ⟨trivial, ?_⟩
   refine WL.store hS443 1 rfl [(0, (iv t431.n)), (1, (iv t431.d))] #[(iv t431.n), (iv t431.d)] (fun fb => by kernel_rfl) (by kernel_rfl) rfl e12 (by decide) (by decide) (fun w444 hS445 => ?_)
   refine ⟨trivial, ?_⟩
   refine WL.store hS445 1 rfl [(0, (iv t439.n)), (1, (iv t439.d))] #[(iv t439.n), (iv t439.d)] (fun fb => by kernel_rfl) (by kernel_rfl) rfl e12 (by decide) (by decide) (fun w446 hS447 => ?_)
   refine ⟨trivial, ?_⟩
   refine WL.done rfl ?_
   injection hx285 with hx285
   exact WX.to Kx284 ((t431.n, t431.d, t439.n, t439.d), g428, g436) e25 rfl ⟨(hS447.subR []).sub e35 (by decide), hx285.symm⟩
  ·
   refine segF 8 [.v e18, .v e19, .v e31, .v e32, .v e33, .v e34, .v e20, .v e21] e11 [e23, e24, (32, (.agg e5)), (34, (.agg e7)), (37, (.agg e8)), (39, (.agg e6))] [] e10 e1 (fun fb => by kernel_rfl) rfl trivial rfl ?_
   refine WL.new hS287 9 [] (fun g => (pt g)) (.cells e9 70 (0, 0)) [] (fun fb g => by kernel_rfl) trivial (fun g448 w449 hS450 => ?_)
   refine ⟨⟨hS450.cell 2 rfl 0 rfl, hS450.cell 2 rfl 1 rfl, hS450.cell 1 rfl 2 rfl, hS450.cell 1 rfl 3 rfl, hS450.cell 2 rfl 2 rfl, hS450.cell 2 rfl 3 rfl, hS450.cell 1 rfl 0 rfl, hS450.cell 1 rfl 1 rfl, trivial⟩, ?_⟩
   refine WL.new hS450 10 [] (fun g => (pt g)) (.cells e9 70 (0, 0)) [] (fun fb g => by kernel_rfl) trivial (fun g451 w452 hS453 => ?_)
   refine ⟨⟨hS453.cell 3 rfl 0 rfl, hS453.cell 3 rfl 1 rfl, hS453.cell 2 rfl 2 rfl, hS453.cell 2 rfl 3 rfl, hS453.cell 3 rfl 2 rfl, hS453.cell 3 rfl 3 rfl, hS453.cell 2 rfl 0 rfl, hS453.cell 2 rfl 1 rfl, trivial⟩, ?_⟩
   obtain ⟨t454, ht455, hx285⟩ := bind_some hx285
   refine WL.call (some 35) 115 #[(.agg e5), (.agg e7)] (fun fb => by kernel_rfl) (beatty_ratio_minus_calls p2.from_ p1.to t454 _ ht455) (fun v w456 hR457 => ?_)
   obtain ⟨rfl, hk_⟩ := hR457
   have hS458 := hS453.keepN hk_
   refine ⟨⟨hS458.cell 3 rfl 2 rfl, hS458.cell 3 rfl 3 rfl, hS458.cell 2 rfl 0 rfl, hS458.cell 2 rfl 1 rfl, trivial⟩, ?_⟩
   obtain ⟨t459, ht460, hx285⟩ := bind_some hx285
   refine WL.call (some 40) 115 #[(.agg e8), (.agg e6)] (fun fb => by kernel_rfl) (beatty_ratio_minus_calls p2.to p1.from_ t459 _ ht460) (fun v w461 hR462 => ?_)
   obtain ⟨rfl, hk_⟩ := hR462
   have hS463 := hS458.keepN hk_
   refine ⟨trivial, ?_⟩
   refine WL.store hS463 1 rfl [(0, (iv t454.n)), (1, (iv t454.d))] #[(iv t454.n), (iv t454.d)] (fun fb => by kernel_rfl) (by kernel_rfl) rfl e12 (by decide) (by decide) (fun w464 hS465 => ?_)
   refine ⟨trivial, ?_⟩
   refine WL.store hS465 1 rfl [(0, (iv t459.n)), (1, (iv t459.d))] #[(iv t459.n), (iv t459.d)] (fun fb => by kernel_rfl) (by kernel_rfl) rfl e12 (by decide) (by decide) (fun w466 hS467 => ?_)
   refine ⟨trivial, ?_⟩
   refine WL.done rfl ?_
   injection hx285 with hx285
   exact WX.to Kx284 ((t454.n, t454.d, t459.n, t459.d), g448, g451) e25 rfl ⟨(hS467.subR []).sub e35 (by decide), hx285.symm⟩
  ·
   refine segF 8 [.v e18, .v e19, .v e31, .v e32, .v e33, .v e34, .v e20, .v e21] e11 [e23, e24, (32, (.agg e5)), (34, (.agg e7)), (37, (.agg e8)), (39, (.agg e6))] [] e10 e1 (fun fb => by kernel_rfl) rfl trivial rfl ?_
   refine WL.new hS287 10 [] (fun g => (pt g)) (.cells e9 70 (0, 0)) [] (fun fb g => by kernel_rfl) trivial (fun g468 w469 hS470 => ?_)
   refine ⟨⟨hS470.cell 2 rfl 0 rfl, hS470.cell 2 rfl 1 rfl, hS470.cell 1 rfl 2 rfl, hS470.cell 1 rfl 3 rfl, hS470.cell 2 rfl 2 rfl, hS470.cell 2 rfl 3 rfl, hS470.cell 1 rfl 0 rfl, hS470.cell 1 rfl 1 rfl, trivial⟩, ?_⟩
   obtain ⟨t471, ht472, hx285⟩ := bind_some hx285
   refine WL.call (some 35) 115 #[(.agg e5), (.agg e7)] (fun fb => by kernel_rfl) (beatty_ratio_minus_calls p2.from_ p1.to t471 _ ht472) (fun v w473 hR474 => ?_)
   obtain ⟨rfl, hk_⟩ := hR474
   have hS475 := hS470.keepN hk_
   refine ⟨⟨hS475.cell 2 rfl 2 rfl, hS475.cell 2 rfl 3 rfl, hS475.cell 1 rfl 0 rfl, hS475.cell 1 rfl 1 rfl, trivial⟩, ?_⟩
   obtain ⟨t476, ht477, hx285⟩ := bind_some hx285
   refine WL.call (some 40) 115 #[(.agg e8), (.agg e6)] (fun fb => by kernel_rfl) (beatty_ratio_minus_calls p2.to p1.from_ t476 _ ht477) (fun v w478 hR479 => ?_)
   obtain ⟨rfl, hk_⟩ := hR479
   have hS480 := hS475.keepN hk_
   refine ⟨trivial, ?_⟩
   refine WL.new hS480 9 [] (fun g => (pt g)) (.cells e9 70 (0, 0)) [] (fun fb g => by kernel_rfl) trivial (fun g481 w482 hS483 => ?_)
   refine ⟨⟨hS483.cell 3 rfl 0 rfl, hS483.cell 3 rfl 1 rfl, hS483.cell 2 rfl 2 rfl, hS483.cell 2 rfl 3 rfl, hS483.cell 3 rfl 2 rfl, hS483.cell 3 rfl 3 rfl, hS483.cell 2 rfl 0 rfl, hS483.cell 2 rfl 1 rfl, trivial⟩, ?_⟩
   refine WL.store hS483 0 rfl [(0, (iv t471.n)), (1, (iv t471.d))] #[(iv t471.n), (iv t471.d)] (fun fb => by kernel_rfl) (by kernel_rfl) rfl e36 (by decide) (by decide) (fun w484 hS485 => ?_)
   refine ⟨trivial, ?_⟩
   refine WL.store hS485 1 rfl [(0, (iv t476.n)), (1, (iv t476.d))] #[(iv t476.n), (iv t476.d)] (fun fb => by kernel_rfl) (by kernel_rfl) rfl e12 (by decide) (by decide) (fun w486 hS487 => ?_)
   refine ⟨trivial, ?_⟩
   refine WL.done rfl ?_
   injection hx285 with hx285
   exact WX.to Kx284 ((t471.n, t471.d, t476.n, t476.d), g481, g468) e25 rfl ⟨(hS487.subR []).sub e35 (by decide), hx285.symm⟩
  ·
   refine segF 8 [.v e18, .v e19, .v e31, .v e32, .v e33, .v e34, .v e20, .v e21] e11 [e23, e24, (32, (.agg e5)), (34, (.agg e7)), (37, (.agg e8)), (39, (.agg e6))] [] e10 e1 (fun fb => by kernel_rfl) rfl trivial rfl ?_
   refine WL.new hS287 10 [] (fun g => (pt g)) (.cells e9 70 (0, 0)) [] (fun fb g => by kernel_rfl) trivial (fun g488 w489 hS490 => ?_)
   refine ⟨⟨hS490.cell 2 rfl 0 rfl, hS490.cell 2 rfl 1 rfl, hS490.cell 1 rfl 2 rfl, hS490.cell 1 rfl 3 rfl, hS490.cell 2 rfl 2 rfl, hS490.cell 2 rfl 3 rfl, hS490.cell 1 rfl 0 rfl, hS490.cell 1 rfl 1 rfl, trivial⟩, ?_⟩
   obtain ⟨t491, ht492, hx285⟩ := bind_some hx285
   refine WL.call (some 35) 115 #[(.agg e5), (.agg e7)] (fun fb => by kernel_rfl) (beatty_ratio_minus_calls p2.from_ p1.to t491 _ ht492) (fun v w493 hR494 => ?_)
   obtain ⟨rfl, hk_⟩ := hR494
   have hS495 := hS490.keepN hk_
   refine ⟨⟨hS495.cell 2 rfl 2 rfl, hS495.cell 2 rfl 3 rfl, hS495.cell 1 rfl 0 rfl, hS495.cell 1 rfl 1 rfl, trivial⟩, ?_⟩
   refine WL.new hS495 9 [] (fun g => (pt g)) (.cells e9 70 (0, 0)) [] (fun fb g => by kernel_rfl) trivial (fun g496 w497 hS498 => ?_)
   refine ⟨⟨hS498.cell 3 rfl 0 rfl, hS498.cell 3 rfl 1 rfl, hS498.cell 2 rfl 2 rfl, hS498.cell 2 rfl 3 rfl, hS498.cell 3 rfl 2 rfl, hS498.cell 3 rfl 3 rfl, hS498.cell 2 rfl 0 rfl, hS498.cell 2 rfl 1 rfl, trivial⟩, ?_⟩
   obtain ⟨t499, ht500, hx285⟩ := bind_some hx285
   refine WL.call (some 40) 115 #[(.agg e8), (.agg e6)] (fun fb => by kernel_rfl) (beatty_ratio_minus_calls p2.to p1.from_ t499 _ ht500) (fun v w501 hR502 => ?_)
   obtain ⟨rfl, hk_⟩ := hR502
   have hS503 := hS498.keepN hk_
   refine ⟨trivial, ?_⟩
   refine WL.store hS503 0 rfl [(0, (iv t491.n)), (1, (iv t491.d))] #[(iv t491.n), (iv t491.d)] (fun fb => by kernel_rfl) (by kernel_rfl) rfl e36 (by decide) (by decide) (fun w504 hS505 => ?_)
   refine ⟨trivial, ?_⟩
   refine WL.store hS505 1 rfl [(0, (iv t499.n)), (1, (iv t499.d))] #[(iv t499.n), (iv t499.d)] (fun fb => by kernel_rfl) (by kernel_rfl) rfl e12 (by decide) (by decide) (fun w506 hS507 => ?_)
   refine ⟨trivial, ?_⟩
   refine WL.done rfl ?_
   injection hx285 with hx285
   exact WX.to Kx284 ((t491.n, t491.d, t499.n, t499.d), g496, g488) e25 rfl ⟨(hS507.subR []).sub e35 (by decide), hx285.symm⟩
  refine segF 8 [.v e18, .v e19, .v e31, .v e32, .v e33, .v e34, .v e20, .v e21] e11 [e23, e24, (32, (.agg e5)), (34, (.agg e7)), (37, (.agg e8)), (39, (.agg e6))] [] e10 e1 (fun fb => by kernel_rfl) rfl trivial rfl ?_
  refine WL.new hS287 10 [] (fun g => (pt g)) (.cells e9 70 (0, 0)) [] (fun fb g => by kernel_rfl) trivial (fun g508 w509 hS510 => ?_)
  refine ⟨⟨hS510.cell 2 rfl 0 rfl, hS510.cell 2 rfl 1 rfl, hS510.cell 1 rfl 2 rfl, hS510.cell 1 rfl 3 rfl, hS510.cell 2 rfl 2 rfl, hS510.cell 2 rfl 3 rfl, hS510.cell 1 rfl 0 rfl, hS510.cell 1 rfl 1 rfl, trivial⟩, ?_⟩
  refine WL.new hS510 9 [] (fun g => (pt g)) (.cells e9 70 (0, 0)) [] (fun fb g => by kernel_rfl) trivial (fun g511 w512 hS513 => ?_)
  refine ⟨⟨hS513.cell 3 rfl 0 rfl, hS513.cell 3 rfl 1 rfl, hS513.cell 2 rfl 2 rfl, hS513.cell 2 rfl 3 rfl, hS513.cell 3 rfl 2 rfl, hS513.cell 3 rfl 3 rfl, hS513.cell 2 rfl 0 rfl, hS513.cell 2 rfl 1 rfl, trivial⟩, ?_⟩
  obtain ⟨t514, ht515, hx285⟩ := bind_some hx285
  refine WL.call (some 35) 115 #[(.agg e5), (.agg e7)] (fun fb => by kernel_rfl) (beatty_ratio_minus_calls p2.from_ p1.to t514 _ ht515) (fun v w516 hR517 => ?_)
  obtain ⟨rfl, hk_⟩ := hR517
  have hS518 := hS513.keepN hk_
  refine ⟨⟨hS518.cell 3 rfl 2 rfl, hS518.cell 3 rfl 3 rfl, hS518.cell 2 rfl 0 rfl, hS518.cell 2 rfl 1 rfl, trivial⟩, ?_⟩
  obtain ⟨t519, ht520, hx285⟩ := bind_some hx285
  refine WL.call (some 40) 115 #[(.agg e8), (.agg e6)] (fun fb => by kernel_rfl) (beatty_ratio_minus_calls p2.to p1.from_ t519 _ ht520) (fun v w521 hR522 => ?_)
  obtain ⟨rfl, hk_⟩ := hR522
  have hS523 := hS518.keepN hk_
  refine ⟨trivial, ?_⟩
  refine WL.store hS523 0 rfl [(0, (iv t514.n)), (1, (iv t514.d))] #[(iv t514.n), (iv t514.d)] (fun fb => by kernel_rfl) (by kernel_rfl) rfl e36 (by decide) (by decide) (fun w524 hS525 => ?_)
  refine ⟨trivial, ?_⟩
  refine WL.store hS525 1 rfl [(0, (iv t519.n)), (1, (iv t519.d))] #[(iv t519.n), (iv t519.d)] (fun fb => by kernel_rfl) (by kernel_rfl) rfl e12 (by decide) (by decide) (fun w526 hS527 => ?_)
  refine ⟨trivial, ?_⟩
  refine WL.done rfl ?_
  injection hx285 with hx285
  exact WX.to Kx284 ((t514.n, t514.d, t519.n, t519.d), g511, g508) e25 rfl ⟨(hS527.subR []).sub e35 (by decide), hx285.symm⟩
 rintro ⟨y531, g282, g283⟩ w528 ⟨hS529, hq530⟩
 subst hq530
 refine WX.next (WC.seq (WC.region ?_))
 refine seg 2 [.v (iv x33.1), .v (iv x33.2.1), .v (iv x284.2.2.1), .v (iv x284.2.2.2)] [8, 9, 41, 42] [e24, (9, (pt g282)), (41, (.agg #[(iv x33.1), (iv x33.2.1)])), (42, (.agg #[(iv x284.2.2.1), (iv x284.2.2.2)]))] [.cell ⟨g31, 0, none⟩ (iv x33.1), .cell ⟨g31, 1, none⟩ (iv x33.2.1), .cell ⟨g283, 0, none⟩ (iv x284.2.2.1), .cell ⟨g283, 1, none⟩ (iv x284.2.2.2)] (fun fb => by kernel_rfl) rfl ⟨hS529.cell 0 rfl 0 rfl, hS529.cell 0 rfl 1 rfl, hS529.cell 3 rfl 0 rfl, hS529.cell 3 rfl 1 rfl, trivial⟩ ?_
 obtain ⟨t532, ht533, hf⟩ := bind_some hf
 refine WL.call (some 43) 32 #[(.agg #[(iv x33.1), (iv x33.2.1)]), (.agg #[(iv x284.2.2.1), (iv x284.2.2.2)])] (fun fb => by kernel_rfl) (beatty_ratio_less_calls (Ratio.mk x33.1 x33.2.1) (Ratio.mk x284.2.2.1 x284.2.2.2) t532 _ ht533) (fun v w534 hR535 => ?_)
 obtain ⟨rfl, hk_⟩ := hR535
 have hS536 := hS529.keepN hk_
 refine ⟨trivial, ?_⟩
 refine sg 4 [] [8, 9, 44] [e24, (9, (pt g282)), (44, (bv t532))] (by kernel_rfl) ?_
 obtain ⟨x537, hx538, hf⟩ := bind_some hf
 refine WL.cutW (T := Bool) 8 (fun t => [(48, (bv t))]) (fun t w1 => (St NoS w w1 [] [] ∧ x537 = t) ∧ CellsOK [] w1) (fun K => ?_) ?_
 ·
  rcases br_some hx538 with ⟨h539, hx538⟩ | ⟨h539, hx538⟩
  ·
   refine WL.setB 44 h539 rfl ?_
   refine seg 6 [.v (iv x284.1), .v (iv x284.2.1), .v (iv x33.2.2.1), .v (iv x33.2.2.2)] [44, 45, 46] [(44, (bv true)), (45, (.agg #[(iv x284.1), (iv x284.2.1)])), (46, (.agg #[(iv x33.2.2.1), (iv x33.2.2.2)]))] [.cell ⟨g282, 0, none⟩ (iv x284.1), .cell ⟨g282, 1, none⟩ (iv x284.2.1), .cell ⟨g32, 0, none⟩ (iv x33.2.2.1), .cell ⟨g32, 1, none⟩ (iv x33.2.2.2)] (fun fb => by kernel_rfl) rfl ⟨hS536.cell 2 rfl 0 rfl, hS536.cell 2 rfl 1 rfl, hS536.cell 1 rfl 0 rfl, hS536.cell 1 rfl 1 rfl, trivial⟩ ?_
   obtain ⟨t540, ht541, hx538⟩ := bind_some hx538
   refine WL.call (some 47) 32 #[(.agg #[(iv x284.1), (iv x284.2.1)]), (.agg #[(iv x33.2.2.1), (iv x33.2.2.2)])] (fun fb => by kernel_rfl) (beatty_ratio_less_calls (Ratio.mk x284.1 x284.2.1) (Ratio.mk x33.2.2.1 x33.2.2.2) t540 _ ht541) (fun v w542 hR543 => ?_)
   obtain ⟨rfl, hk_⟩ := hR543
   have hS544 := hS536.keepN hk_
   refine ⟨trivial, ?_⟩
   refine sg 8 [] [48] [(48, (bv t540))] (by kernel_rfl) ?_
   injection hx538 with hx538
   exact WL.to K t540 [48] rfl ⟨⟨(hS544.subR []).sub [] (by decide), hx538.symm⟩, trivial⟩
  refine WL.setB 44 h539 rfl ?_
  refine sg 8 [] [48] [(48, (bv false))] (by kernel_rfl) ?_
  injection hx538 with hx538
  exact WL.to K false [48] rfl ⟨⟨(hS536.subR []).sub [] (by decide), hx538.symm⟩, trivial⟩
 rintro y545 w547 ⟨⟨hS548, hq546⟩, hF549⟩
 subst hq546
 refine sg 9 [] [6] [(6, (bv x537))] (by kernel_rfl) ?_
 refine WL.done rfl (WX.next ?_)
 refine WC.ret ?_
 injection hf with hf
 subst hf
 exact WX.ret_ [] (bv x537) [] (fun fb => by kernel_rfl) trivial ⟨_, rfl, rfl, hS548.keep⟩
theorem cmp_isNaN_int_calls (p0 : Int)  (r : Bool) (w : World)  (hf : cmp_isNaN_int p0 = some r) :
  CallsR Tryz.prog 110 #[(iv p0)] w (fun v w' => v = (bv r) ∧ Keeps NoS w w') := by
 have hS : St NoS w w [] [] := St.init (ro_nil _ _)
 refine enter 6 Tryz.func110 rfl Tryz.ntmps110 rfl ?_
 unfold cmp_isNaN_int at hf
 refine WC.seq (WC.region ?_)
 refine sg 1 [] [0] [(0, (iv p0))] (by kernel_rfl) ?_
 refine WL.done rfl (WX.next (WC.seq (WC.region ?_)))
 refine sg 4 [] [2] [(2, (bv (p0 != p0)))] (by kernel_rfl) ?_
 refine WL.done rfl (WX.next ?_)
 refine WC.ret ?_
 injection hf with hf
 subst hf
 exact WX.ret_ [] (bv (p0 != p0)) [] (fun fb => by kernel_rfl) trivial ⟨_, rfl, rfl, hS.keep⟩
theorem cmp_Compare_int_calls (p0 : Int) (p1 : Int)  (r : Int) (w : World)  (hf : cmp_Compare_int p0 p1 = some r) :
  CallsR Tryz.prog 91 #[(iv p0), (iv p1)] w (fun v w' => v = (iv r) ∧ Keeps NoS w w') := by
 have hS : St NoS w w [] [] := St.init (ro_nil _ _)
 refine enter 20 Tryz.func91 rfl Tryz.ntmps91 rfl ?_
 unfold cmp_Compare_int at hf
 refine WC.seq (WC.region ?_)
 refine sg 1 [] [0, 1] [(0, (iv p0)), (1, (iv p1))] (by kernel_rfl) ?_
 refine WL.done rfl (WX.next (WC.seq (WC.region ?_)))
 refine sg 1 [] [0, 1, 7] [(0, (iv p0)), (1, (iv p1)), (7, (iv p0))] (by kernel_rfl) ?_
 obtain ⟨t3, ht4, hf⟩ := bind_some hf
 refine WL.call (some 8) 110 #[(iv p0)] (fun fb => by kernel_rfl) (cmp_isNaN_int_calls p0 t3 _ ht4) (fun v w5 hR6 => ?_)
 obtain ⟨rfl, hk_⟩ := hR6
 have hS7 := hS.keepN hk_
 refine ⟨trivial, ?_⟩
 refine sg 3 [] [0, 1, 5] [(0, (iv p0)), (1, (iv p1)), (5, (bv t3))] (by kernel_rfl) ?_
 refine WL.done rfl (WX.next (WC.seq (WC.region ?_)))
 refine sg 1 [] [0, 1, 5, 9] [(0, (iv p0)), (1, (iv p1)), (5, (bv t3)), (9, (iv p1))] (by kernel_rfl) ?_
 obtain ⟨t8, ht9, hf⟩ := bind_some hf
 refine WL.call (some 10) 110 #[(iv p1)] (fun fb => by kernel_rfl) (cmp_isNaN_int_calls p1 t8 _ ht9) (fun v w10 hR11 => ?_)
 obtain ⟨rfl, hk_⟩ := hR11
 have hS12 := hS7.keepN hk_
 refine ⟨trivial, ?_⟩
 refine sg 3 [] [0, 1, 5, 6] [(0, (iv p0)), (1, (iv p1)), (5, (bv t3)), (6, (bv t8))] (by kernel_rfl) ?_
 refine WL.done rfl (WX.next (WC.seq (WC.seq (WC.region ?_))))
 refine sg 1 [] [0, 1, 6, 11] [(0, (iv p0)), (1, (iv p1)), (6, (bv t8)), (11, (bv t3))] (by kernel_rfl) ?_
 refine WL.done rfl (WX.next ?_)
 rcases br_some hf with ⟨h13, hf⟩ | ⟨h13, hf⟩
 ·refine WC.condT2 (fun fb => by kernel_rfl) h13 ?_
  refine WC.seq (WC.seq (WC.region ?_))
  refine sg 1 [] [12] [(12, (bv t8))] (by kernel_rfl) ?_
  refine WL.done rfl (WX.next ?_)
  rcases br_some hf with ⟨h14, hf⟩ | ⟨h14, hf⟩
  ·refine WC.condT2 (fun fb => by kernel_rfl) h14 ?_
   refine WC.seq (WC.region ?_)
   refine sg 1 [] [4] [(4, (iv 0))] (by kernel_rfl) ?_
   refine WL.done rfl (WX.next ?_)
   refine WC.ret ?_
   injection hf with hf
   subst hf
   exact WX.thenR (WX.thenR (WX.ret_ [] (iv 0) [] (fun fb => by kernel_rfl) trivial ⟨_, rfl, rfl, hS12.keep⟩))
  refine WC.condF2 (fun fb => by kernel_rfl) h14 ?_
  refine WC.skip (WX.next (WC.seq (WC.region ?_)))
  refine sg 1 [] [4] [(4, (iv (-1)))] (by kernel_rfl) ?_
  refine WL.done rfl (WX.next ?_)
  refine WC.ret ?_
  injection hf with hf
  subst hf
  exact WX.thenR (WX.ret_ [] (iv (-1)) [] (fun fb => by kernel_rfl) trivial ⟨_, rfl, rfl, hS12.keep⟩)
 refine WC.condF2 (fun fb => by kernel_rfl) h13 ?_
 refine WC.skip (WX.next (WC.seq (WC.seq (WC.region ?_))))
 refine sg 1 [] [0, 1, 13] [(0, (iv p0)), (1, (iv p1)), (13, (bv t8))] (by kernel_rfl) ?_
 refine WL.done rfl (WX.next ?_)
 rcases br_some hf with ⟨h15, hf⟩ | ⟨h15, hf⟩
 ·refine WC.condT2 (fun fb => by kernel_rfl) h15 ?_
  refine WC.seq (WC.region ?_)
  refine sg 1 [] [4] [(4, (iv 1))] (by kernel_rfl) ?_
  refine WL.done rfl (WX.next ?_)
  refine WC.ret ?_
  injection hf with hf
  subst hf
  exact WX.thenR (WX.ret_ [] (iv 1) [] (fun fb => by kernel_rfl) trivial ⟨_, rfl, rfl, hS12.keep⟩)
 refine WC.condF2 (fun fb => by kernel_rfl) h15 ?_
 refine WC.skip (WX.next (WC.seq (WC.seq (WC.region ?_))))
 refine sg 3 [] [0, 1, 16] [(0, (iv p0)), (1, (iv p1)), (16, (bv (decide (p0 < p1))))] (by kernel_rfl) ?_
 refine WL.done rfl (WX.next ?_)
 rcases br_some hf with ⟨h16, hf⟩ | ⟨h16, hf⟩
 ·refine WC.condT2 (fun fb => by kernel_rfl) h16 ?_
  refine WC.seq (WC.region ?_)
  refine sg 1 [] [4] [(4, (iv (-1)))] (by kernel_rfl) ?_
  refine WL.done rfl (WX.next ?_)
  refine WC.ret ?_
  injection hf with hf
  subst hf
  exact WX.thenR (WX.ret_ [] (iv (-1)) [] (fun fb => by kernel_rfl) trivial ⟨_, rfl, rfl, hS12.keep⟩)
 refine WC.condF2 (fun fb => by kernel_rfl) h16 ?_
 refine WC.skip (WX.next (WC.seq (WC.seq (WC.region ?_))))
 refine sg 3 [] [19] [(19, (bv (decide (p0 > p1))))] (by kernel_rfl) ?_
 refine WL.done rfl (WX.next ?_)
 rcases br_some hf with ⟨h17, hf⟩ | ⟨h17, hf⟩
 ·refine WC.condT2 (fun fb => by kernel_rfl) h17 ?_
  refine WC.seq (WC.region ?_)
  refine sg 1 [] [4] [(4, (iv 1))] (by kernel_rfl) ?_
  refine WL.done rfl (WX.next ?_)
  refine WC.ret ?_
  injection hf with hf
  subst hf
  exact WX.thenR (WX.ret_ [] (iv 1) [] (fun fb => by kernel_rfl) trivial ⟨_, rfl, rfl, hS12.keep⟩)
 refine WC.condF2 (fun fb => by kernel_rfl) h17 ?_
 refine WC.skip (WX.next (WC.seq (WC.region ?_)))
 refine sg 1 [] [4] [(4, (iv 0))] (by kernel_rfl) ?_
 refine WL.done rfl (WX.next ?_)
 refine WC.ret ?_
 injection hf with hf
 subst hf
 exact WX.ret_ [] (iv 0) [] (fun fb => by kernel_rfl) trivial ⟨_, rfl, rfl, hS12.keep⟩
theorem cmp_Or_int_calls (k : Nat) (p0 : List Int) (Aa : Option Addr) (ca : Nat) (r : Int) (w : World) (hR0 : RO NoS w (rowR encInt Aa ca p0)) (hf : cmp_Or_int k p0 = some r) :
  CallsR Tryz.prog 90 #[(sv Aa p0 ca)] w (fun v w' => v = (iv r) ∧ Keeps NoS w w') := by
 have hS : St NoS w w [rowR encInt Aa ca p0] [] := St.init (ro_cons hR0 (ro_nil _ _))
 refine enter 18 Tryz.func90 rfl Tryz.ntmps90 rfl ?_
 unfold cmp_Or_int at hf
 refine WC.seq (WC.region ?_)
 refine sg 1 [] [0] [(0, (sv Aa p0 ca))] (by kernel_rfl) ?_
 refine WL.done rfl (WX.next (WC.seq (WC.region ?_)))
 refine sg 1 [] [0, 3] [(0, (sv Aa p0 ca)), (3, (iv 0))] (by kernel_rfl) ?_
 refine WL.done rfl (WX.next (WC.seq (WC.seq (WC.region ?_))))
 refine sg 3 [] [3, 6, 7, 8] [(3, (iv 0)), (6, (sv Aa p0 ca)), (7, (iv (p0.length : Int))), (8, (iv 0))] (by kernel_rfl) ?_
 refine WL.done rfl (WX.next ?_)
 obtain ⟨x4, hx5, hf⟩ := bind_some hf
 let e1 : Nat × Value := (7, (iv (p0.length : Int)))
 let e3 : Nat × Value := (6, (sv Aa p0 ca))
 refine WC.cutN (T := Unit) (fun t => [(3, (iv 0))]) (fun t w1 => St NoS w w1 [rowR encInt Aa ca p0] [] ∧ x4 = .inr t) (fun Kx4 => ?_) ?_
 ·
  refine WC.block ?_
  refine WC.loop (T := Int) (fun t => [(3, (iv 0)), e3, e1, (8, (iv t))]) (fun n t w1 => St NoS w w1 [rowR encInt Aa ca p0] [] ∧ cmp_Or_int.l0 n t p0 = some x4) k 0 [3, 6, 7, 8] rfl ⟨(hS.subR [0]).sub [] (by decide), hx5⟩ ?_
  rintro k6 x3 w7 ⟨hS8, hl9⟩
  let e2 := iv (rdD p0 x3 0)
  cases k6 with
  | zero => rw [cmp_Or_int.l0] at hl9; cases hl9
  | succ k6 =>
   rw [cmp_Or_int.l0] at hl9
   refine WC.seq (WC.region ?_)
   refine sg 1 [] [3, 6, 7, 8, 9] [(3, (iv 0)), e3, e1, (8, (iv x3)), (9, (bv (decide (x3 < (p0.length : Int)))))] (by kernel_rfl) ?_
   refine WL.done rfl (WX.next (WC.seq ?_))
   rcases br_some hl9 with ⟨h10, hl9⟩ | ⟨h10, hl9⟩
   ·refine WC.condT2 (fun fb => by kernel_rfl) h10 ?_
    refine WC.skip (WX.next (WC.seq (WC.block (WC.seq (WC.region ?_)))))
    obtain ⟨h11, hl9⟩ := as_some hl9
    refine seg 3 [.v e2] [3, 5, 6, 7, 8] [(3, (iv 0)), (5, e2), e3, e1, (8, (iv x3))] [.idx Aa x3 p0.length, .cell ((adr Aa).add ((x3).toNat * 1)) e2] (fun fb => by kernel_rfl) rfl ⟨rowR.adr (hS8.rd 0).1 h11.1 h11.2, rowR.cell (hS8.rd 0).1 0 h11.1 h11.2 0 rfl, trivial⟩ ?_
    refine WL.done rfl (WX.next (WC.seq (WC.region ?_)))
    refine sg 3 [] [3, 5, 6, 7, 8, 14] [(3, (iv 0)), (5, e2), e3, e1, (8, (iv x3)), (14, (bv ((rdD p0 x3 0) != 0)))] (by kernel_rfl) ?_
    refine WL.done rfl (WX.next ?_)
    rcases br_some hl9 with ⟨h12, hl9⟩ | ⟨h12, hl9⟩
    ·refine WC.condT2 (fun fb => by kernel_rfl) h12 ?_
     refine WC.seq (WC.region ?_)
     refine sg 2 [] [2] [(2, e2)] (by kernel_rfl) ?_
     refine WL.done rfl (WX.next ?_)
     refine WC.ret ?_
     injection hl9 with hl9
     subst hl9
     injection hf with hf
     subst hf
     exact WX.blockR (WX.thenR (WX.thenR (WX.blockR (WX.thenR (WX.ret_ [] e2 [] (fun fb => by kernel_rfl) trivial ⟨_, rfl, rfl, hS8.keep⟩)))))
    refine WC.condF2 (fun fb => by kernel_rfl) h12 ?_
    refine WC.skip ?_
    refine WX.blockN (WX.next ?_)
    refine WC.region ?_
    refine sg 2 [] [3, 6, 7, 8] [(3, (iv 0)), e3, e1, (8, (iv (w64 (x3 + 1))))] (by kernel_rfl) ?_
    refine WL.done rfl ?_
    exact WX.again k6 (Nat.lt_succ_self _) (w64 (x3 + 1)) [3, 6, 7, 8] rfl ⟨(hS8.subR [0]).sub [] (by decide), hl9⟩
   refine WC.condF2 (fun fb => by kernel_rfl) h10 ?_
   refine WC.exit ?_
   injection hl9 with hl9
   exact WX.thenX (WX.thenX (WX.blockHere (WX.to Kx4 () [3] rfl ⟨(hS8.subR [0]).sub [] (by decide), hl9.symm⟩)))
 rintro y16 w13 ⟨hS14, hq15⟩
 subst hq15
 have hf := sum_inr hf
 refine WX.next (WC.seq (WC.region ?_))
 refine sg 2 [] [2] [(2, (iv 0))] (by kernel_rfl) ?_
 refine WL.done rfl (WX.next ?_)
 refine WC.ret ?_
 injection hf with hf
 subst hf
 exact WX.ret_ [] (iv 0) [] (fun fb => by kernel_rfl) trivial ⟨_, rfl, rfl, hS14.keep⟩
theorem beatty_order_calls (k : Nat) (p0 : Mark) (p1 : Mark)  (r : Int) (w : World)  (hf : beatty_order k p0 p1 = some r) :
  CallsR Tryz.prog 107 #[(.agg #[(iv p0.s), (iv p0.n), (iv p0.west), (iv p0.east)]), (.agg #[(iv p1.s), (iv p1.n), (iv p1.west), (iv p1.east)])] w (fun v w' => v = (iv r) ∧ Keeps NoS w w') := by
 have hS : St NoS w w [] [] := St.init (ro_nil _ _)
 refine enter 22 Tryz.func107 rfl Tryz.ntmps107 rfl ?_
 unfold beatty_order at hf
 refine WC.seq (WC.region ?_)
 refine WL.new hS 2 [] (fun g => (pt g)) (.cells #[(iv p0.s), (iv p0.n), (iv p0.west), (iv p0.east)] 135 (0, 0)) [] (fun fb g => by kernel_rfl) trivial (fun g3 w4 hS5 => ?_)
 refine ⟨trivial, ?_⟩
 refine WL.new hS5 3 [] (fun g => (pt g)) (.cells #[(iv p1.s), (iv p1.n), (iv p1.west), (iv p1.east)] 135 (0, 0)) [] (fun fb g => by kernel_rfl) trivial (fun g6 w7 hS8 => ?_)
 refine ⟨trivial, ?_⟩
 refine sg 3 [] [2, 3] [(2, (pt g3)), (3, (pt g6))] (by kernel_rfl) ?_
 refine WL.done rfl (WX.next (WC.seq ?_))
 refine WC.regionD ([(1, ⟨g3, 0, none⟩, (iv p0.s)), (3, ⟨g6, 0, none⟩, (iv p1.s)), (6, ⟨g3, 1, none⟩, (iv p0.n)), (8, ⟨g6, 1, none⟩, (iv p1.n)), (11, ⟨g3, 2, none⟩, (iv p0.west)), (13, ⟨g6, 2, none⟩, (iv p1.west))], [0, 1, 2, 3, 5, 6, 7, 8, 10, 11, 12, 13, 17], [[], [0], [], [2], [0, 1, 2, 3], [], [5], [], [7], [0, 1, 2, 3, 4, 5, 6, 7, 8], [], [10], [], [12], [0, 1, 2, 3, 4, 5, 6, 7, 8, 9, 10, 11, 12, 13], [0, 1, 2, 3, 4, 5, 6, 7, 8, 9, 10, 11, 12, 13, 14], [0, 1, 2, 3, 4, 5, 6, 7, 8, 9, 10, 11, 12, 13, 14, 15], [0, 1, 2, 3, 4, 5, 6, 7, 8, 9, 10, 11, 12, 13, 14, 15, 16]]) [[0, 1, 2, 3, 5, 6, 7, 8, 10, 11, 12, 13, 4, 9, 14, 15, 16, 17]] (by kernel_rfl) (by kernel_rfl) (NoPanic.seq (NoPanic.body)) ?_
 have hS10 := hS8.drew
 revert hS10
 generalize World.drew w7 = w9
 intro hS10
 refine ⟨⟨hS10.cell 1 rfl 0 rfl, hS10.cell 0 rfl 0 rfl, hS10.cell 1 rfl 1 rfl, hS10.cell 0 rfl 1 rfl, hS10.cell 1 rfl 2 rfl, hS10.cell 0 rfl 2 rfl, trivial⟩, forallC ?_ (forallN)⟩
 refine segF 12 [.v (iv p0.s), .v (iv p1.s), .v (iv p0.n), .v (iv p1.n), .v (iv p0.west), .v (iv p1.west)] [6, 8, 11, 13, 16, 18] [(6, (iv p0.s)), (8, (iv p1.s)), (11, (iv p0.n)), (13, (iv p1.n)), (16, (iv p0.west)), (18, (iv p1.west))] [] [0, 1, 2, 3, 4, 5] [(1, ⟨g3, 0, none⟩, (iv p0.s)), (3, ⟨g6, 0, none⟩, (iv p1.s)), (6, ⟨g3, 1, none⟩, (iv p0.n)), (8, ⟨g6, 1, none⟩, (iv p1.n)), (11, ⟨g3, 2, none⟩, (iv p0.west)), (13, ⟨g6, 2, none⟩, (iv p1.west))] (fun fb => by kernel_rfl) rfl trivial rfl ?_
 obtain ⟨t11, ht12, hf⟩ := bind_some hf
 refine WL.call (some 9) 91 #[(iv p0.s), (iv p1.s)] (fun fb => by kernel_rfl) (cmp_Compare_int_calls p0.s p1.s t11 _ ht12) (fun v w13 hR14 => ?_)
 obtain ⟨rfl, hk_⟩ := hR14
 have hS15 := hS10.keepN hk_
 refine ⟨⟨hS15.cell 1 rfl 1 rfl, hS15.cell 0 rfl 1 rfl, hS15.cell 1 rfl 2 rfl, hS15.cell 0 rfl 2 rfl, trivial⟩, ?_⟩
 obtain ⟨t16, ht17, hf⟩ := bind_some hf
 refine WL.call (some 14) 91 #[(iv p0.n), (iv p1.n)] (fun fb => by kernel_rfl) (cmp_Compare_int_calls p0.n p1.n t16 _ ht17) (fun v w18 hR19 => ?_)
 obtain ⟨rfl, hk_⟩ := hR19
 have hS20 := hS15.keepN hk_
 refine ⟨⟨hS20.cell 1 rfl 2 rfl, hS20.cell 0 rfl 2 rfl, trivial⟩, ?_⟩
 obtain ⟨t21, ht22, hf⟩ := bind_some hf
 refine WL.call (some 19) 91 #[(iv p0.west), (iv p1.west)] (fun fb => by kernel_rfl) (cmp_Compare_int_calls p0.west p1.west t21 _ ht22) (fun v w23 hR24 => ?_)
 obtain ⟨rfl, hk_⟩ := hR24
 have hS25 := hS20.keepN hk_
 refine ⟨trivial, ?_⟩
 refine WL.new hS25 20 [] (fun g => (.slice (some ⟨g, 0, none⟩) 3 3)) (.cells #[(iv t11), (iv t16), (iv t21)] 3 (0, 0)) [] (fun fb g => by kernel_rfl) trivial (fun g26 w27 hS28 => ?_)
 refine ⟨trivial, ?_⟩
 have hS29 := hS.go w27 [rowO 3 encInt (some ⟨g26, 0, none⟩) 3 [t11, t16, t21], blk g6 (.cells #[(iv p1.s), (iv p1.n), (iv p1.west), (iv p1.east)] 135 (0, 0)), blk g3 (.cells #[(iv p0.s), (iv p0.n), (iv p0.west), (iv p0.east)] 135 (0, 0))] (hS28.map1 0 _ (fun h => rowO.ofBlk h rfl (Nat.le_of_ble_eq_true (by kernel_rfl))) (fun _ h => by obtain ⟨_, h1, h2⟩ := h; injection h1 with h1; subst h1; exact h2) [1, 2] (by decide) (by decide))
 obtain ⟨t30, ht31, hf⟩ := bind_some hf
 refine WL.call (some 21) 90 #[(sv (some ⟨g26, 0, none⟩) [t11, t16, t21] 3)] (fun fb => by kernel_rfl) (cmp_Or_int_calls _ [t11, t16, t21] (some ⟨g26, 0, none⟩) 3 t30 _ (hS29.ow 0).ofO ht31) (fun v w32 hR33 => ?_)
 obtain ⟨rfl, hk_⟩ := hR33
 have hS34 := hS29.keepN hk_
 refine ⟨trivial, ?_⟩
 refine sg 18 [] [4] [(4, (iv t30))] (by kernel_rfl) ?_
 refine WL.done rfl (WX.next ?_)
 refine WC.ret ?_
 injection hf with hf
 subst hf
 exact WX.ret_ [] (iv t30) [] (fun fb => by kernel_rfl) trivial ⟨_, rfl, rfl, hS34.keep⟩
end Gp
