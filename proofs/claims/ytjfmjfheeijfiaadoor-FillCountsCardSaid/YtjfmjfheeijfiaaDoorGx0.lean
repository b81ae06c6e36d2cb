/- Walks: each function of the program computes its plain function. -/
import Derived.Test.YtjfmjfheeijfiaaDoorGp
set_option linter.unusedVariables false
set_option linter.unusedSimpArgs false
set_option maxHeartbeats 4000000
namespace Gp
open Go Gw Go.Proofs
theorem law02_wide_calls (p0 : List Tile) (p1 : Edges) (Aa : Option Addr) (ca : Nat) (Ab : Option Addr) (cb : Nat) (Ac : Option Addr) (cc : Nat) (Ad : Option Addr) (cd : Nat) (Ae : Option Addr) (ce : Nat) (r : Bool) (w : World) (hR0 : RO NoS w (rowR enc_Tile Aa ca p0)) (hR1 : RO NoS w (rowR encInt Ab cb p1.North)) (hR2 : RO NoS w (rowR encInt Ac cc p1.East)) (hR3 : RO NoS w (rowR encInt Ad cd p1.South)) (hR4 : RO NoS w (rowR encInt Ae ce p1.West)) (hf : law02_wide p0 p1 = some r) :
  CallsR Tryd.prog 25 #[(sv Aa p0 ca), (.agg #[(sv Ab p1.North cb), (sv Ac p1.East cc), (sv Ad p1.South cd), (sv Ae p1.West ce)])] w (fun v w' => v = (bv r) ∧ Keeps NoS w w') := by
 have hS : St NoS w w [rowR enc_Tile Aa ca p0, rowR encInt Ab cb p1.North, rowR encInt Ac cc p1.East, rowR encInt Ad cd p1.South, rowR encInt Ae ce p1.West] [] := St.init (ro_cons hR0 (ro_cons hR1 (ro_cons hR2 (ro_cons hR3 (ro_cons hR4 (ro_nil _ _))))))
 refine enter 32 Tryd.func25 rfl Tryd.ntmps25 rfl ?_
 unfold law02_wide at hf
 refine WC.seq (WC.region ?_)
 refine WL.new hS 3 [] (fun g => (pt g)) (.cells #[(sv Ab p1.North cb), (sv Ac p1.East cc), (sv Ad p1.South cd), (sv Ae p1.West ce)] 44 (0, 0)) [] (fun fb g => by kernel_rfl) trivial (fun g5 w6 hS7 => ?_)
 refine ⟨trivial, ?_⟩
 refine seg 2 [] [0, 3] [(0, (sv Aa p0 ca)), (3, (pt g5))] [] (fun fb => by kernel_rfl) rfl trivial ?_
 refine WL.done rfl (WX.next (WC.seq (WC.region ?_)))
 refine seg 4 [] [3, 8] [(3, (pt g5)), (8, (bv (decide ((p0.length : Int) > 1100))))] [] (fun fb => by kernel_rfl) rfl trivial ?_
 refine WL.cutV (T := Bool) 9 (fun t => [(13, (bv t)), (3, (pt g5))]) (fun t => ((decide ((p0.length : Int) > 1100)) || (decide ((p1.North.length : Int) > 200))) = t) (fun K => ?_) ?_
 ·
  rcases Bool.eq_false_or_eq_true (decide ((p0.length : Int) > 1100)) with h9 | h9
  ·
   refine WL.setB 8 h9 rfl ?_
   refine seg 9 [] [3, 13] [(3, (pt g5)), (13, (bv true))] [] (fun fb => by kernel_rfl) rfl trivial ?_
   exact WL.toV K true [13, 3] rfl (by first | (rw [h9]; done) | (rw [h9]; rfl))
  refine WL.setB 8 h9 rfl ?_
  refine seg 9 [.v (sv Ab p1.North cb)] [3, 13] [(3, (pt g5)), (13, (bv (decide ((p1.North.length : Int) > 200))))] [.cell ⟨g5, 0, none⟩ (sv Ab p1.North cb)] (fun fb => by kernel_rfl) rfl ⟨hS7.cell 0 rfl 0 rfl, trivial⟩ ?_
  exact WL.toV K (decide ((p1.North.length : Int) > 200)) [13, 3] rfl (by first | (rw [h9]; done) | (rw [h9]; rfl))
 rintro b10 rfl
 refine seg 10 [] [3, 14] [(3, (pt g5)), (14, (bv ((decide ((p0.length : Int) > 1100)) || (decide ((p1.North.length : Int) > 200)))))] [] (fun fb => by kernel_rfl) rfl trivial ?_
 refine WL.cutV (T := Bool) 15 (fun t => [(19, (bv t)), (3, (pt g5))]) (fun t => (((decide ((p0.length : Int) > 1100)) || (decide ((p1.North.length : Int) > 200))) || (decide ((p1.South.length : Int) > 200))) = t) (fun K => ?_) ?_
 ·
  rcases Bool.eq_false_or_eq_true ((decide ((p0.length : Int) > 1100)) || (decide ((p1.North.length : Int) > 200))) with h11 | h11
  ·
   refine WL.setB 14 h11 rfl ?_
   refine seg 15 [] [3, 19] [(3, (pt g5)), (19, (bv true))] [] (fun fb => by kernel_rfl) rfl trivial ?_
   exact WL.toV K true [19, 3] rfl (by first | (rw [h11]; done) | (rw [h11]; rfl))
  refine WL.setB 14 h11 rfl ?_
  refine seg 15 [.v (sv Ad p1.South cd)] [3, 19] [(3, (pt g5)), (19, (bv (decide ((p1.South.length : Int) > 200))))] [.cell ⟨g5, 2, none⟩ (sv Ad p1.South cd)] (fun fb => by kernel_rfl) rfl ⟨hS7.cell 0 rfl 2 rfl, trivial⟩ ?_
  exact WL.toV K (decide ((p1.South.length : Int) > 200)) [19, 3] rfl (by first | (rw [h11]; done) | (rw [h11]; rfl))
 rintro b12 rfl
 refine seg 16 [] [3, 20] [(3, (pt g5)), (20, (bv (((decide ((p0.length : Int) > 1100)) || (decide ((p1.North.length : Int) > 200))) || (decide ((p1.South.length : Int) > 200)))))] [] (fun fb => by kernel_rfl) rfl trivial ?_
 refine WL.cutV (T := Bool) 21 (fun t => [(25, (bv t)), (3, (pt g5))]) (fun t => ((((decide ((p0.length : Int) > 1100)) || (decide ((p1.North.length : Int) > 200))) || (decide ((p1.South.length : Int) > 200))) || (decide ((p1.West.length : Int) > 200))) = t) (fun K => ?_) ?_
 ·
  rcases Bool.eq_false_or_eq_true (((decide ((p0.length : Int) > 1100)) || (decide ((p1.North.length : Int) > 200))) || (decide ((p1.South.length : Int) > 200))) with h13 | h13
  ·
   refine WL.setB 20 h13 rfl ?_
   refine seg 21 [] [3, 25] [(3, (pt g5)), (25, (bv true))] [] (fun fb => by kernel_rfl) rfl trivial ?_
   exact WL.toV K true [25, 3] rfl (by first | (rw [h13]; done) | (rw [h13]; rfl))
  refine WL.setB 20 h13 rfl ?_
  refine seg 21 [.v (sv Ae p1.West ce)] [3, 25] [(3, (pt g5)), (25, (bv (decide ((p1.West.length : Int) > 200))))] [.cell ⟨g5, 3, none⟩ (sv Ae p1.West ce)] (fun fb => by kernel_rfl) rfl ⟨hS7.cell 0 rfl 3 rfl, trivial⟩ ?_
  exact WL.toV K (decide ((p1.West.length : Int) > 200)) [25, 3] rfl (by first | (rw [h13]; done) | (rw [h13]; rfl))
 rintro b14 rfl
 refine seg 22 [] [3, 26] [(3, (pt g5)), (26, (bv ((((decide ((p0.length : Int) > 1100)) || (decide ((p1.North.length : Int) > 200))) || (decide ((p1.South.length : Int) > 200))) || (decide ((p1.West.length : Int) > 200)))))] [] (fun fb => by kernel_rfl) rfl trivial ?_
 refine WL.cutV (T := Bool) 27 (fun t => [(31, (bv t))]) (fun t => (((((decide ((p0.length : Int) > 1100)) || (decide ((p1.North.length : Int) > 200))) || (decide ((p1.South.length : Int) > 200))) || (decide ((p1.West.length : Int) > 200))) || (decide ((p1.East.length : Int) > 200))) = t) (fun K => ?_) ?_
 ·
  rcases Bool.eq_false_or_eq_true ((((decide ((p0.length : Int) > 1100)) || (decide ((p1.North.length : Int) > 200))) || (decide ((p1.South.length : Int) > 200))) || (decide ((p1.West.length : Int) > 200))) with h15 | h15
  ·
   refine WL.setB 26 h15 rfl ?_
   refine seg 27 [] [31] [(31, (bv true))] [] (fun fb => by kernel_rfl) rfl trivial ?_
   exact WL.toV K true [31] rfl (by first | (rw [h15]; done) | (rw [h15]; rfl))
  refine WL.setB 26 h15 rfl ?_
  refine seg 27 [.v (sv Ac p1.East cc)] [31] [(31, (bv (decide ((p1.East.length : Int) > 200))))] [.cell ⟨g5, 1, none⟩ (sv Ac p1.East cc)] (fun fb => by kernel_rfl) rfl ⟨hS7.cell 0 rfl 1 rfl, trivial⟩ ?_
  exact WL.toV K (decide ((p1.East.length : Int) > 200)) [31] rfl (by first | (rw [h15]; done) | (rw [h15]; rfl))
 rintro b16 rfl
 refine seg 28 [] [4] [(4, (bv (((((decide ((p0.length : Int) > 1100)) || (decide ((p1.North.length : Int) > 200))) || (decide ((p1.South.length : Int) > 200))) || (decide ((p1.West.length : Int) > 200))) || (decide ((p1.East.length : Int) > 200)))))] [] (fun fb => by kernel_rfl) rfl trivial ?_
 refine WL.done rfl (WX.next ?_)
 refine WC.ret ?_
 injection hf with hf
 subst hf
 exact WX.ret_ [] (bv (((((decide ((p0.length : Int) > 1100)) || (decide ((p1.North.length : Int) > 200))) || (decide ((p1.South.length : Int) > 200))) || (decide ((p1.West.length : Int) > 200))) || (decide ((p1.East.length : Int) > 200)))) [] (fun fb => by kernel_rfl) trivial ⟨_, rfl, rfl, hS7.keep⟩
theorem tile_colour_1_calls (p0 : Int)  (r : Bool) (w : World)  (hf : tile_colour_1 p0 = some r) :
  CallsR Tryd.prog 96 #[(iv p0)] w (fun v w' => v = (bv r) ∧ Keeps NoS w w') := by
 have hS : St NoS w w [] [] := St.init (ro_nil _ _)
 refine enter 9 Tryd.func96 rfl Tryd.ntmps96 rfl ?_
 unfold tile_colour_1 at hf
 refine WC.seq (WC.region ?_)
 refine seg 1 [] [0] [(0, (iv p0))] [] (fun fb => by kernel_rfl) rfl trivial ?_
 refine WL.done rfl (WX.next (WC.seq (WC.region ?_)))
 refine seg 3 [] [0, 5] [(0, (iv p0)), (5, (bv (decide (p0 < 0))))] [] (fun fb => by kernel_rfl) rfl trivial ?_
 refine WL.cutV (T := Bool) 6 (fun t => [(8, (bv t))]) (fun t => ((decide (p0 < 0)) || (decide (p0 ≥ 1000))) = t) (fun K => ?_) ?_
 ·
  rcases Bool.eq_false_or_eq_true (decide (p0 < 0)) with h2 | h2
  ·
   refine WL.setB 5 h2 rfl ?_
   refine seg 6 [] [8] [(8, (bv true))] [] (fun fb => by kernel_rfl) rfl trivial ?_
   exact WL.toV K true [8] rfl (by first | (rw [h2]; done) | (rw [h2]; rfl))
  refine WL.setB 5 h2 rfl ?_
  refine seg 6 [] [8] [(8, (bv (decide (p0 ≥ 1000))))] [] (fun fb => by kernel_rfl) rfl trivial ?_
  exact WL.toV K (decide (p0 ≥ 1000)) [8] rfl (by first | (rw [h2]; done) | (rw [h2]; rfl))
 rintro b3 rfl
 refine seg 7 [] [2] [(2, (bv ((decide (p0 < 0)) || (decide (p0 ≥ 1000)))))] [] (fun fb => by kernel_rfl) rfl trivial ?_
 refine WL.done rfl (WX.next ?_)
 refine WC.ret ?_
 injection hf with hf
 subst hf
 exact WX.ret_ [] (bv ((decide (p0 < 0)) || (decide (p0 ≥ 1000)))) [] (fun fb => by kernel_rfl) trivial ⟨_, rfl, rfl, hS.keep⟩
theorem slices_IndexFunc_int_int_with_tile_colour_1_calls (k : Nat) (p0 : List Int) (Aa : Option Addr) (ca : Nat) (r : Int) (w : World) (hR0 : RO NoS w (rowR encInt Aa ca p0)) (hf : slices_IndexFunc_int_int_with_tile_colour_1 k p0 = some r) :
  CallsR Tryd.prog 99 #[(sv Aa p0 ca), (.func (.func 96) #[] #[])] w (fun v w' => v = (iv r) ∧ Keeps NoS w w') := by
 have hS : St NoS w w [rowR encInt Aa ca p0] [] := St.init (ro_cons hR0 (ro_nil _ _))
 refine enter 19 Tryd.func99 rfl Tryd.ntmps99 rfl ?_
 unfold slices_IndexFunc_int_int_with_tile_colour_1 at hf
 refine WC.seq (WC.region ?_)
 refine seg 1 [] [0, 1] [(0, (sv Aa p0 ca)), (1, (.func (.func 96) #[] #[]))] [] (fun fb => by kernel_rfl) rfl trivial ?_
 refine WL.done rfl (WX.next (WC.seq (WC.seq (WC.region ?_))))
 refine seg 3 [] [0, 1, 7, 8] [(0, (sv Aa p0 ca)), (1, (.func (.func 96) #[] #[])), (7, (iv (p0.length : Int))), (8, (iv 0))] [] (fun fb => by kernel_rfl) rfl trivial ?_
 refine WL.done rfl (WX.next ?_)
 obtain ⟨x4, hx5, hf⟩ := bind_some hf
 refine WC.cutN (T := Unit) (fun t => []) (fun t w1 => St NoS w w1 [rowR encInt Aa ca p0] [] ∧ x4 = .inr t) (fun Kx4 => ?_) ?_
 ·
  refine WC.block ?_
  refine WC.loop (T := Int) (fun t => [(0, (sv Aa p0 ca)), (1, (.func (.func 96) #[] #[])), (7, (iv (p0.length : Int))), (8, (iv t))]) (fun n t w1 => St NoS w w1 [rowR encInt Aa ca p0] [] ∧ slices_IndexFunc_int_int_with_tile_colour_1.l0 n t p0 = some x4) k 0 [0, 1, 7, 8] rfl ⟨(hS.subR [0]).sub [] (by decide), hx5⟩ ?_
  rintro k6 x3 w7 ⟨hS8, hl9⟩
  cases k6 with
  | zero => rw [slices_IndexFunc_int_int_with_tile_colour_1.l0] at hl9; cases hl9
  | succ k6 =>
   rw [slices_IndexFunc_int_int_with_tile_colour_1.l0] at hl9
   refine WC.seq (WC.region ?_)
   refine seg 1 [] [0, 1, 7, 8, 9] [(0, (sv Aa p0 ca)), (1, (.func (.func 96) #[] #[])), (7, (iv (p0.length : Int))), (8, (iv x3)), (9, (bv (decide (x3 < (p0.length : Int)))))] [] (fun fb => by kernel_rfl) rfl trivial ?_
   refine WL.done rfl (WX.next (WC.seq ?_))
   rcases br_some hl9 with ⟨h10, hl9⟩ | ⟨h10, hl9⟩
   ·refine WC.condT2 (fun fb => by kernel_rfl) h10 ?_
    refine WC.skip (WX.next (WC.seq (WC.block (WC.seq (WC.region ?_)))))
    refine seg 2 [] [0, 1, 5, 7, 8] [(0, (sv Aa p0 ca)), (1, (.func (.func 96) #[] #[])), (5, (iv x3)), (7, (iv (p0.length : Int))), (8, (iv x3))] [] (fun fb => by kernel_rfl) rfl trivial ?_
    refine WL.done rfl (WX.next (WC.seq (WC.region ?_)))
    refine seg 3 [] [0, 1, 5, 7, 8, 11, 12, 13] [(0, (sv Aa p0 ca)), (1, (.func (.func 96) #[] #[])), (5, (iv x3)), (7, (iv (p0.length : Int))), (8, (iv x3)), (11, (.func (.func 96) #[] #[])), (12, (sv Aa p0 ca)), (13, (iv x3))] [] (fun fb => by kernel_rfl) rfl trivial ?_
    obtain ⟨h11, hl9⟩ := as_some hl9
    refine seg 5 [.v (iv (rdD p0 x3 0))] [0, 1, 5, 7, 8, 11, 15] [(0, (sv Aa p0 ca)), (1, (.func (.func 96) #[] #[])), (5, (iv x3)), (7, (iv (p0.length : Int))), (8, (iv x3)), (11, (.func (.func 96) #[] #[])), (15, (iv (rdD p0 x3 0)))] [.idx Aa x3 p0.length, .cell ((adr Aa).add ((x3).toNat * 1)) (iv (rdD p0 x3 0))] (fun fb => by kernel_rfl) rfl ⟨rowR.adr (hS8.rd 0).1 h11.1 h11.2, rowR.cell (hS8.rd 0).1 0 h11.1 h11.2 0 rfl, trivial⟩ ?_
    obtain ⟨t12, ht13, hl9⟩ := bind_some hl9
    refine WL.call (some 16) 96 #[(iv (rdD p0 x3 0))] (fun fb => by kernel_rfl) (tile_colour_1_calls (rdD p0 x3 0) t12 _ ht13) (fun v w14 hR15 => ?_)
    obtain ⟨rfl, hk_⟩ := hR15
    have hS16 := hS8.keepN hk_
    refine ⟨trivial, ?_⟩
    refine WL.done rfl (WX.next ?_)
    rcases br_some hl9 with ⟨h17, hl9⟩ | ⟨h17, hl9⟩
    ·refine WC.condT2 (fun fb => by kernel_rfl) h17 ?_
     refine WC.seq (WC.region ?_)
     refine seg 2 [] [4] [(4, (iv x3))] [] (fun fb => by kernel_rfl) rfl trivial ?_
     refine WL.done rfl (WX.next ?_)
     refine WC.ret ?_
     injection hl9 with hl9
     subst hl9
     injection hf with hf
     subst hf
     exact WX.blockR (WX.thenR (WX.thenR (WX.blockR (WX.thenR (WX.ret_ [] (iv x3) [] (fun fb => by kernel_rfl) trivial ⟨_, rfl, rfl, hS16.keep⟩)))))
    refine WC.condF2 (fun fb => by kernel_rfl) h17 ?_
    refine WC.skip ?_
    refine WX.blockN (WX.next ?_)
    refine WC.region ?_
    refine seg 2 [] [0, 1, 7, 8] [(0, (sv Aa p0 ca)), (1, (.func (.func 96) #[] #[])), (7, (iv (p0.length : Int))), (8, (iv (w64 (x3 + 1))))] [] (fun fb => by kernel_rfl) rfl trivial ?_
    refine WL.done rfl ?_
    exact WX.again k6 (Nat.lt_succ_self _) (w64 (x3 + 1)) [0, 1, 7, 8] rfl ⟨(hS16.subR [0]).sub [] (by decide), hl9⟩
   refine WC.condF2 (fun fb => by kernel_rfl) h10 ?_
   refine WC.exit ?_
   injection hl9 with hl9
   exact WX.thenX (WX.thenX (WX.blockHere (WX.to Kx4 () [] rfl ⟨(hS8.subR [0]).sub [] (by decide), hl9.symm⟩)))
 rintro y21 w18 ⟨hS19, hq20⟩
 subst hq20
 have hf := sum_inr hf
 refine WX.next (WC.seq (WC.region ?_))
 refine seg 1 [] [4] [(4, (iv (-1)))] [] (fun fb => by kernel_rfl) rfl trivial ?_
 refine WL.done rfl (WX.next ?_)
 refine WC.ret ?_
 injection hf with hf
 subst hf
 exact WX.ret_ [] (iv (-1)) [] (fun fb => by kernel_rfl) trivial ⟨_, rfl, rfl, hS19.keep⟩
theorem slices_ContainsFunc_int_int_with_tile_colour_1_calls (k : Nat) (p0 : List Int) (Aa : Option Addr) (ca : Nat) (r : Bool) (w : World) (hR0 : RO NoS w (rowR encInt Aa ca p0)) (hf : slices_ContainsFunc_int_int_with_tile_colour_1 k p0 = some r) :
  CallsR Tryd.prog 89 #[(sv Aa p0 ca), (.func (.func 96) #[] #[])] w (fun v w' => v = (bv r) ∧ Keeps NoS w w') := by
 have hS : St NoS w w [rowR encInt Aa ca p0] [] := St.init (ro_cons hR0 (ro_nil _ _))
 refine enter 9 Tryd.func89 rfl Tryd.ntmps89 rfl ?_
 unfold slices_ContainsFunc_int_int_with_tile_colour_1 at hf
 refine WC.seq (WC.region ?_)
 refine seg 1 [] [0, 1] [(0, (sv Aa p0 ca)), (1, (.func (.func 96) #[] #[]))] [] (fun fb => by kernel_rfl) rfl trivial ?_
 refine WL.done rfl (WX.next (WC.seq (WC.region ?_)))
 refine seg 2 [] [5, 6] [(5, (sv Aa p0 ca)), (6, (.func (.func 96) #[] #[]))] [] (fun fb => by kernel_rfl) rfl trivial ?_
 obtain ⟨t2, ht3, hf⟩ := bind_some hf
 refine WL.call (some 7) 99 #[(sv Aa p0 ca), (.func (.func 96) #[] #[])] (fun fb => by kernel_rfl) (slices_IndexFunc_int_int_with_tile_colour_1_calls _ p0 Aa ca t2 _ (hS.rd 0) ht3) (fun v w4 hR5 => ?_)
 obtain ⟨rfl, hk_⟩ := hR5
 have hS6 := hS.keepN hk_
 refine ⟨trivial, ?_⟩
 refine seg 5 [] [4] [(4, (bv (decide (t2 ≥ 0))))] [] (fun fb => by kernel_rfl) rfl trivial ?_
 refine WL.done rfl (WX.next ?_)
 refine WC.ret ?_
 injection hf with hf
 subst hf
 exact WX.ret_ [] (bv (decide (t2 ≥ 0))) [] (fun fb => by kernel_rfl) trivial ⟨_, rfl, rfl, hS6.keep⟩
theorem tile_colour_calls (k : Nat) (p0 : List Int) (Aa : Option Addr) (ca : Nat) (r : Bool) (w : World) (hR0 : RO NoS w (rowR encInt Aa ca p0)) (hf : tile_colour k p0 = some r) :
  CallsR Tryd.prog 80 #[(sv Aa p0 ca)] w (fun v w' => v = (bv r) ∧ Keeps NoS w w') := by
 have hS : St NoS w w [rowR encInt Aa ca p0] [] := St.init (ro_cons hR0 (ro_nil _ _))
 refine enter 6 Tryd.func80 rfl Tryd.ntmps80 rfl ?_
 unfold tile_colour at hf
 refine WC.seq (WC.region ?_)
 refine seg 1 [] [0] [(0, (sv Aa p0 ca))] [] (fun fb => by kernel_rfl) rfl trivial ?_
 refine WL.done rfl (WX.next (WC.seq (WC.region ?_)))
 refine seg 1 [] [3] [(3, (sv Aa p0 ca))] [] (fun fb => by kernel_rfl) rfl trivial ?_
 obtain ⟨t2, ht3, hf⟩ := bind_some hf
 refine WL.call (some 4) 89 #[(sv Aa p0 ca), (.func (.func 96) #[] #[])] (fun fb => by kernel_rfl) (slices_ContainsFunc_int_int_with_tile_colour_1_calls _ p0 Aa ca t2 _ (hS.rd 0) ht3) (fun v w4 hR5 => ?_)
 obtain ⟨rfl, hk_⟩ := hR5
 have hS6 := hS.keepN hk_
 refine ⟨trivial, ?_⟩
 refine seg 4 [] [2] [(2, (bv (!t2)))] [] (fun fb => by kernel_rfl) rfl trivial ?_
 refine WL.done rfl (WX.next ?_)
 refine WC.ret ?_
 injection hf with hf
 subst hf
 exact WX.ret_ [] (bv (!t2)) [] (fun fb => by kernel_rfl) trivial ⟨_, rfl, rfl, hS6.keep⟩
theorem tile_Valid_key40 : KeyK Tryd.prog 40 (aggI ints_Tile) := KeyK.struct (n := 4) (by kernel_rfl) ints_Tile (fun _ => rfl) (fun x y h => by cases x; cases y; simp only [ints_Tile, List.cons.injEq, and_true] at h; obtain ⟨rfl, rfl, rfl, rfl⟩ := h; rfl)
theorem tile_Valid_calls (k : Nat) (p0 : List Tile) (Aa : Option Addr) (ca : Nat) (r : Bool) (w : World) (hR0 : RO NoS w (rowR enc_Tile Aa ca p0)) (hf : tile_Valid k p0 = some r) :
  CallsR Tryd.prog 52 #[(sv Aa p0 ca)] w (fun v w' => v = (bv r) ∧ Keeps NoS w w') := by
 have hS : St NoS w w [rowR enc_Tile Aa ca p0] [] := St.init (ro_cons hR0 (ro_nil _ _))
 refine enter 35 Tryd.func52 rfl Tryd.ntmps52 rfl ?_
 unfold tile_Valid at hf
 refine WC.seq (WC.region ?_)
 refine seg 1 [] [0] [(0, (sv Aa p0 ca))] [] (fun fb => by kernel_rfl) rfl trivial ?_
 refine WL.done rfl (WX.next (WC.seq (WC.seq (WC.region ?_))))
 refine seg 3 [] [0, 8] [(0, (sv Aa p0 ca)), (8, (bv (decide ((p0.length : Int) > 1000))))] [] (fun fb => by kernel_rfl) rfl trivial ?_
 refine WL.done rfl (WX.next ?_)
 rcases br_some hf with ⟨h3, hf⟩ | ⟨h3, hf⟩
 ·refine WC.condT2 (fun fb => by kernel_rfl) h3 ?_
  refine WC.seq (WC.region ?_)
  refine seg 1 [] [2] [(2, (bv false))] [] (fun fb => by kernel_rfl) rfl trivial ?_
  refine WL.done rfl (WX.next ?_)
  refine WC.ret ?_
  injection hf with hf
  subst hf
  exact WX.thenR (WX.ret_ [] (bv false) [] (fun fb => by kernel_rfl) trivial ⟨_, rfl, rfl, hS.keep⟩)
 refine WC.condF2 (fun fb => by kernel_rfl) h3 ?_
 refine WC.skip (WX.next (WC.seq (WC.region ?_)))
 refine WL.new hS 9 [] (fun g => (.map (some g))) (mapObj (aggI ints_Tile) vB ([] : List (Tile × Bool))) [] (fun fb g => by kernel_rfl) trivial (fun g4 w5 hS6 => ?_)
 refine ⟨trivial, ?_⟩
 refine seg 2 [] [0, 3] [(0, (sv Aa p0 ca)), (3, (.map (some g4)))] [] (fun fb => by kernel_rfl) rfl trivial ?_
 refine WL.done rfl (WX.next (WC.seq (WC.seq (WC.region ?_))))
 refine seg 3 [] [3, 10, 11, 12] [(3, (.map (some g4))), (10, (sv Aa p0 ca)), (11, (iv (p0.length : Int))), (12, (iv 0))] [] (fun fb => by kernel_rfl) rfl trivial ?_
 refine WL.done rfl (WX.next ?_)
 obtain ⟨x9, hx10, hf⟩ := bind_some hf
 refine WC.cutN (T := Unit) (fun t => []) (fun t w1 => St NoS w w1 [rowR enc_Tile Aa ca p0] [] ∧ x9 = .inr t) (fun Kx9 => ?_) ?_
 ·
  refine WC.block ?_
  refine WC.loop (T := (List (Tile × Bool)) × Int) (fun t => [(3, (.map (some g4))), (10, (sv Aa p0 ca)), (11, (iv (p0.length : Int))), (12, (iv t.2))]) (fun n t w1 => St NoS w w1 [rowR enc_Tile Aa ca p0] [blk g4 (mapObj (aggI ints_Tile) vB t.1)] ∧ tile_Valid.l0 n t.1 t.2 p0 = some x9) k (([] : List (Tile × Bool)), 0) [3, 10, 11, 12] rfl ⟨(hS6.subR [0]).sub [0] (by decide), hx10⟩ ?_
  rintro k11 ⟨l7, x8⟩ w12 ⟨hS13, hl14⟩
  cases k11 with
  | zero => rw [tile_Valid.l0] at hl14; cases hl14
  | succ k11 =>
   rw [tile_Valid.l0] at hl14
   refine WC.seq (WC.region ?_)
   refine seg 1 [] [3, 10, 11, 12, 13] [(3, (.map (some g4))), (10, (sv Aa p0 ca)), (11, (iv (p0.length : Int))), (12, (iv x8)), (13, (bv (decide (x8 < (p0.length : Int)))))] [] (fun fb => by kernel_rfl) rfl trivial ?_
   refine WL.done rfl (WX.next (WC.seq ?_))
   rcases br_some hl14 with ⟨h15, hl14⟩ | ⟨h15, hl14⟩
   ·refine WC.condT2 (fun fb => by kernel_rfl) h15 ?_
    refine WC.skip (WX.next (WC.seq (WC.block (WC.seq (WC.region ?_)))))
    obtain ⟨h16, hl14⟩ := as_some hl14
    refine seg 2 [.v (iv ((rdD p0 x8 z_Tile).N)), .v (iv ((rdD p0 x8 z_Tile).E)), .v (iv ((rdD p0 x8 z_Tile).S)), .v (iv ((rdD p0 x8 z_Tile).W))] [3, 10, 11, 12, 15] [(3, (.map (some g4))), (10, (sv Aa p0 ca)), (11, (iv (p0.length : Int))), (12, (iv x8)), (15, (.agg #[(iv ((rdD p0 x8 z_Tile).N)), (iv ((rdD p0 x8 z_Tile).E)), (iv ((rdD p0 x8 z_Tile).S)), (iv ((rdD p0 x8 z_Tile).W))]))] [.idx Aa x8 p0.length, .cell ((adr Aa).add ((x8).toNat * 4)) (iv ((rdD p0 x8 z_Tile).N)), .cell (((adr Aa).add ((x8).toNat * 4)).add 1) (iv ((rdD p0 x8 z_Tile).E)), .cell (((adr Aa).add ((x8).toNat * 4)).add 2) (iv ((rdD p0 x8 z_Tile).S)), .cell (((adr Aa).add ((x8).toNat * 4)).add 3) (iv ((rdD p0 x8 z_Tile).W))] (fun fb => by kernel_rfl) rfl ⟨rowR.adr (hS13.rd 0).1 h16.1 h16.2, rowR.cell (hS13.rd 0).1 z_Tile h16.1 h16.2 0 rfl, rowR.cell (hS13.rd 0).1 z_Tile h16.1 h16.2 1 rfl, rowR.cell (hS13.rd 0).1 z_Tile h16.1 h16.2 2 rfl, rowR.cell (hS13.rd 0).1 z_Tile h16.1 h16.2 3 rfl, trivial⟩ ?_
    refine WL.new hS13 5 [] (fun g => (pt g)) (.cells #[(iv 0), (iv 0), (iv 0), (iv 0)] 40 (0, 0)) [] (fun fb g => by kernel_rfl) trivial (fun g17 w18 hS19 => ?_)
    refine ⟨trivial, ?_⟩
    refine WL.store hS19 0 rfl [(0, (iv ((rdD p0 x8 z_Tile).N))), (1, (iv ((rdD p0 x8 z_Tile).E))), (2, (iv ((rdD p0 x8 z_Tile).S))), (3, (iv ((rdD p0 x8 z_Tile).W)))] #[(iv ((rdD p0 x8 z_Tile).N)), (iv ((rdD p0 x8 z_Tile).E)), (iv ((rdD p0 x8 z_Tile).S)), (iv ((rdD p0 x8 z_Tile).W))] (fun fb => by kernel_rfl) (by kernel_rfl) rfl [1] (by decide) (by decide) (fun w20 hS21 => ?_)
    refine ⟨trivial, ?_⟩
    refine WL.done rfl (WX.next (WC.seq (WC.seq (WC.region ?_))))
    refine seg 2 [.v (iv ((rdD p0 x8 z_Tile).N)), .v (iv ((rdD p0 x8 z_Tile).E)), .v (iv ((rdD p0 x8 z_Tile).S)), .v (iv ((rdD p0 x8 z_Tile).W))] [3, 5, 10, 11, 12, 16, 17] [(3, (.map (some g4))), (5, (pt g17)), (10, (sv Aa p0 ca)), (11, (iv (p0.length : Int))), (12, (iv x8)), (16, (.map (some g4))), (17, (.agg #[(iv ((rdD p0 x8 z_Tile).N)), (iv ((rdD p0 x8 z_Tile).E)), (iv ((rdD p0 x8 z_Tile).S)), (iv ((rdD p0 x8 z_Tile).W))]))] [.cell ⟨g17, 0, none⟩ (iv ((rdD p0 x8 z_Tile).N)), .cell ⟨g17, 1, none⟩ (iv ((rdD p0 x8 z_Tile).E)), .cell ⟨g17, 2, none⟩ (iv ((rdD p0 x8 z_Tile).S)), .cell ⟨g17, 3, none⟩ (iv ((rdD p0 x8 z_Tile).W))] (fun fb => by kernel_rfl) rfl ⟨hS21.cell 0 rfl 0 rfl, hS21.cell 0 rfl 1 rfl, hS21.cell 0 rfl 2 rfl, hS21.cell 0 rfl 3 rfl, trivial⟩ ?_
    refine WL.lookup (hS21.own 1).1 (rdD p0 x8 z_Tile) (d := 18) (c := false) (t := 114) (kT := 40) (eT := 4) (z := false) (kE := (aggI ints_Tile)) (vE := vB) (l := l7) (bv (mget (rdD p0 x8 z_Tile) false l7)) (fun fb => by kernel_rfl) tile_Valid_key40 (by kernel_rfl) (fun _ => by kernel_rfl) rfl ?_
    refine ⟨trivial, ?_⟩
    refine seg 4 [] [3, 5, 10, 11, 12, 19] [(3, (.map (some g4))), (5, (pt g17)), (10, (sv Aa p0 ca)), (11, (iv (p0.length : Int))), (12, (iv x8)), (19, (bv (mget (rdD p0 x8 z_Tile) false l7)))] [] (fun fb => by kernel_rfl) rfl trivial ?_
    obtain ⟨x22, hx23, hl14⟩ := bind_some hl14
    refine WL.cutW (T := Bool) 16 (fun t => [(3, (.map (some g4))), (5, (pt g17)), (10, (sv Aa p0 ca)), (11, (iv (p0.length : Int))), (12, (iv x8)), (31, (bv t))]) (fun t w1 => (St NoS w w1 [rowR enc_Tile Aa ca p0] [blk g4 (mapObj (aggI ints_Tile) vB l7), blk g17 (.cells #[(iv ((rdD p0 x8 z_Tile).N)), (iv ((rdD p0 x8 z_Tile).E)), (iv ((rdD p0 x8 z_Tile).S)), (iv ((rdD p0 x8 z_Tile).W))] 40 (0, 0))] ∧ x22 = t) ∧ CellsOK [] w1) (fun K => ?_) ?_
    ·
     rcases br_some hx23 with ⟨h24, hx23⟩ | ⟨h24, hx23⟩
     ·
      refine WL.setB 19 h24 rfl ?_
      refine seg 16 [] [3, 5, 10, 11, 12, 31] [(3, (.map (some g4))), (5, (pt g17)), (10, (sv Aa p0 ca)), (11, (iv (p0.length : Int))), (12, (iv x8)), (31, (bv true))] [] (fun fb => by kernel_rfl) rfl trivial ?_
      injection hx23 with hx23
      exact WL.to K true [3, 5, 10, 11, 12, 31] rfl ⟨⟨(hS21.subR [0]).sub [1, 0] (by decide), hx23.symm⟩, trivial⟩
     refine WL.setB 19 h24 rfl ?_
     refine seg 12 [.v (iv ((rdD p0 x8 z_Tile).N)), .v (iv ((rdD p0 x8 z_Tile).E)), .v (iv ((rdD p0 x8 z_Tile).S)), .v (iv ((rdD p0 x8 z_Tile).W))] [3, 5, 10, 11, 12, 19, 21, 23, 25, 27] [(3, (.map (some g4))), (5, (pt g17)), (10, (sv Aa p0 ca)), (11, (iv (p0.length : Int))), (12, (iv x8)), (19, (bv false)), (21, (iv ((rdD p0 x8 z_Tile).N))), (23, (iv ((rdD p0 x8 z_Tile).E))), (25, (iv ((rdD p0 x8 z_Tile).S))), (27, (iv ((rdD p0 x8 z_Tile).W)))] [.cell ⟨g17, 0, none⟩ (iv ((rdD p0 x8 z_Tile).N)), .cell ⟨g17, 1, none⟩ (iv ((rdD p0 x8 z_Tile).E)), .cell ⟨g17, 2, none⟩ (iv ((rdD p0 x8 z_Tile).S)), .cell ⟨g17, 3, none⟩ (iv ((rdD p0 x8 z_Tile).W))] (fun fb => by kernel_rfl) rfl ⟨hS21.cell 0 rfl 0 rfl, hS21.cell 0 rfl 1 rfl, hS21.cell 0 rfl 2 rfl, hS21.cell 0 rfl 3 rfl, trivial⟩ ?_
     refine WL.new hS21 28 [] (fun g => (.slice (some ⟨g, 0, none⟩) 4 4)) (.cells #[(iv ((rdD p0 x8 z_Tile).N)), (iv ((rdD p0 x8 z_Tile).E)), (iv ((rdD p0 x8 z_Tile).S)), (iv ((rdD p0 x8 z_Tile).W))] 3 (0, 0)) [] (fun fb g => by kernel_rfl) trivial (fun g25 w26 hS27 => ?_)
     refine ⟨trivial, ?_⟩
     have hS28 := hS.go w26 [rowO 3 encInt (some ⟨g25, 0, none⟩) 4 [(rdD p0 x8 z_Tile).N, (rdD p0 x8 z_Tile).E, (rdD p0 x8 z_Tile).S, (rdD p0 x8 z_Tile).W], blk g17 (.cells #[(iv ((rdD p0 x8 z_Tile).N)), (iv ((rdD p0 x8 z_Tile).E)), (iv ((rdD p0 x8 z_Tile).S)), (iv ((rdD p0 x8 z_Tile).W))] 40 (0, 0)), blk g4 (mapObj (aggI ints_Tile) vB l7)] (hS27.map1 0 _ (fun h => rowO.ofBlk h rfl (Nat.le_of_ble_eq_true (by kernel_rfl))) (fun _ h => by obtain ⟨_, h1, h2⟩ := h; injection h1 with h1; subst h1; exact h2) [1, 2] (by decide) (by decide))
     obtain ⟨t29, ht30, hx23⟩ := bind_some hx23
     refine WL.call (some 29) 80 #[(sv (some ⟨g25, 0, none⟩) [(rdD p0 x8 z_Tile).N, (rdD p0 x8 z_Tile).E, (rdD p0 x8 z_Tile).S, (rdD p0 x8 z_Tile).W] 4)] (fun fb => by kernel_rfl) (tile_colour_calls _ [(rdD p0 x8 z_Tile).N, (rdD p0 x8 z_Tile).E, (rdD p0 x8 z_Tile).S, (rdD p0 x8 z_Tile).W] (some ⟨g25, 0, none⟩) 4 t29 _ (hS28.ow 0).ofO ht30) (fun v w31 hR32 => ?_)
     obtain ⟨rfl, hk_⟩ := hR32
     have hS33 := hS28.keepN hk_
     refine ⟨trivial, ?_⟩
     refine seg 16 [] [3, 5, 10, 11, 12, 31] [(3, (.map (some g4))), (5, (pt g17)), (10, (sv Aa p0 ca)), (11, (iv (p0.length : Int))), (12, (iv x8)), (31, (bv (!t29)))] [] (fun fb => by kernel_rfl) rfl trivial ?_
     injection hx23 with hx23
     exact WL.to K (!t29) [3, 5, 10, 11, 12, 31] rfl ⟨⟨(hS33.subR [0]).sub [2, 1] (by decide), hx23.symm⟩, trivial⟩
    rintro y34 w36 ⟨⟨hS37, hq35⟩, hF38⟩
    subst hq35
    refine WL.done rfl (WX.next ?_)
    rcases br_some hl14 with ⟨h39, hl14⟩ | ⟨h39, hl14⟩
    ·refine WC.condT2 (fun fb => by kernel_rfl) h39 ?_
     refine WC.seq (WC.region ?_)
     refine seg 1 [] [2] [(2, (bv false))] [] (fun fb => by kernel_rfl) rfl trivial ?_
     refine WL.done rfl (WX.next ?_)
     refine WC.ret ?_
     injection hl14 with hl14
     subst hl14
     injection hf with hf
     subst hf
     exact WX.thenR (WX.blockR (WX.thenR (WX.thenR (WX.blockR (WX.thenR (WX.ret_ [] (bv false) [] (fun fb => by kernel_rfl) trivial ⟨_, rfl, rfl, hS37.keep⟩))))))
    refine WC.condF2 (fun fb => by kernel_rfl) h39 ?_
    refine WC.skip (WX.next (WC.region ?_))
    refine seg 2 [.v (iv ((rdD p0 x8 z_Tile).N)), .v (iv ((rdD p0 x8 z_Tile).E)), .v (iv ((rdD p0 x8 z_Tile).S)), .v (iv ((rdD p0 x8 z_Tile).W))] [3, 10, 11, 12, 32, 33] [(3, (.map (some g4))), (10, (sv Aa p0 ca)), (11, (iv (p0.length : Int))), (12, (iv x8)), (32, (.map (some g4))), (33, (.agg #[(iv ((rdD p0 x8 z_Tile).N)), (iv ((rdD p0 x8 z_Tile).E)), (iv ((rdD p0 x8 z_Tile).S)), (iv ((rdD p0 x8 z_Tile).W))]))] [.cell ⟨g17, 0, none⟩ (iv ((rdD p0 x8 z_Tile).N)), .cell ⟨g17, 1, none⟩ (iv ((rdD p0 x8 z_Tile).E)), .cell ⟨g17, 2, none⟩ (iv ((rdD p0 x8 z_Tile).S)), .cell ⟨g17, 3, none⟩ (iv ((rdD p0 x8 z_Tile).W))] (fun fb => by kernel_rfl) rfl ⟨hS37.cell 1 rfl 0 rfl, hS37.cell 1 rfl 1 rfl, hS37.cell 1 rfl 2 rfl, hS37.cell 1 rfl 3 rfl, trivial⟩ ?_
    refine WL.mapput hS37 0 (t := 114) (kT := 40) (eT := 4) (kE := (aggI ints_Tile)) (vE := vB) (l := l7) rfl (rdD p0 x8 z_Tile) true (fun fb => by kernel_rfl) tile_Valid_key40 (by kernel_rfl) [1] (by decide) (by decide) (fun w41 hS42 => ?_)
    refine ⟨trivial, ?_⟩
    refine WL.done rfl ?_
    refine WX.blockN (WX.next ?_)
    refine WC.region ?_
    refine seg 2 [] [3, 10, 11, 12] [(3, (.map (some g4))), (10, (sv Aa p0 ca)), (11, (iv (p0.length : Int))), (12, (iv (w64 (x8 + 1))))] [] (fun fb => by kernel_rfl) rfl trivial ?_
    refine WL.done rfl ?_
    exact WX.again k11 (Nat.lt_succ_self _) (mput (rdD p0 x8 z_Tile) true l7, w64 (x8 + 1)) [3, 10, 11, 12] rfl ⟨(hS42.subR [0]).sub [0] (by decide), hl14⟩
   refine WC.condF2 (fun fb => by kernel_rfl) h15 ?_
   refine WC.exit ?_
   injection hl14 with hl14
   exact WX.thenX (WX.thenX (WX.blockHere (WX.to Kx9 () [] rfl ⟨(hS13.subR [0]).sub [] (by decide), hl14.symm⟩)))
 rintro y46 w43 ⟨hS44, hq45⟩
 subst hq45
 have hf := sum_inr hf
 refine WX.next (WC.seq (WC.region ?_))
 refine seg 1 [] [2] [(2, (bv true))] [] (fun fb => by kernel_rfl) rfl trivial ?_
 refine WL.done rfl (WX.next ?_)
 refine WC.ret ?_
 injection hf with hf
 subst hf
 exact WX.ret_ [] (bv true) [] (fun fb => by kernel_rfl) trivial ⟨_, rfl, rfl, hS44.keep⟩
theorem tile_write_calls (k : Nat) (p0 : List Tile) (Aa : Option Addr) (ca : Nat) (r : ByteArray) (w : World) (hR0 : RO NoS w (rowR enc_Tile Aa ca p0)) (hf : tile_write k p0 = some r) :
  CallsR Tryd.prog 79 #[(sv Aa p0 ca)] w (fun v w' => v = (.string r) ∧ Keeps NoS w w') := by
 have hS : St NoS w w [rowR enc_Tile Aa ca p0] [] := St.init (ro_cons hR0 (ro_nil _ _))
 refine enter 41 Tryd.func79 rfl Tryd.ntmps79 rfl ?_
 unfold tile_write at hf
 refine WC.seq (WC.region ?_)
 refine seg 1 [] [0] [(0, (sv Aa p0 ca))] [] (fun fb => by kernel_rfl) rfl trivial ?_
 refine WL.done rfl (WX.next (WC.seq (WC.region ?_)))
 refine seg 1 [] [0, 3] [(0, (sv Aa p0 ca)), (3, (.slice none 0 0))] [] (fun fb => by kernel_rfl) rfl trivial ?_
 refine WL.done rfl (WX.next (WC.seq (WC.seq (WC.region ?_))))
 refine seg 3 [] [3, 9, 10, 11] [(3, (.slice none 0 0)), (9, (sv Aa p0 ca)), (10, (iv (p0.length : Int))), (11, (iv 0))] [] (fun fb => by kernel_rfl) rfl trivial ?_
 refine WL.done rfl (WX.next ?_)
 have hS3 := hS.nilrow 9 encStr
 obtain ⟨x10, hx11, hf⟩ := bind_some hf
 refine WC.cutN (T := (List ByteArray) × (Option Addr) × Nat) (fun t => [(3, (sv t.2.1 t.1 t.2.2))]) (fun t w1 => St NoS w w1 [rowR enc_Tile Aa ca p0] [rowO 9 encStr t.2.1 t.2.2 t.1] ∧ x10 = t.1) (fun Kx10 => ?_) ?_
 ·
  refine WC.block ?_
  refine WC.loop (T := ((List ByteArray) × Int) × (Option Addr) × Nat) (fun t => [(3, (sv t.2.1 t.1.1 t.2.2)), (9, (sv Aa p0 ca)), (10, (iv (p0.length : Int))), (11, (iv t.1.2))]) (fun n t w1 => St NoS w w1 [rowR enc_Tile Aa ca p0] [rowO 9 encStr t.2.1 t.2.2 t.1.1] ∧ tile_write.l0 n t.1.1 t.1.2 p0 = some x10) k ((([] : List ByteArray), 0), none, 0) [3, 9, 10, 11] rfl ⟨(hS3.subR [0]).sub [0] (by decide), hx11⟩ ?_
  rintro k12 ⟨⟨l6, x7⟩, A4, c5⟩ w13 ⟨hS14, hl15⟩
  cases k12 with
  | zero => rw [tile_write.l0] at hl15; cases hl15
  | succ k12 =>
   rw [tile_write.l0] at hl15
   refine WC.seq (WC.region ?_)
   refine seg 1 [] [3, 9, 10, 11, 12] [(3, (sv A4 l6 c5)), (9, (sv Aa p0 ca)), (10, (iv (p0.length : Int))), (11, (iv x7)), (12, (bv (decide (x7 < (p0.length : Int)))))] [] (fun fb => by kernel_rfl) rfl trivial ?_
   refine WL.done rfl (WX.next (WC.seq ?_))
   rcases br_some hl15 with ⟨h16, hl15⟩ | ⟨h16, hl15⟩
   ·refine WC.condT2 (fun fb => by kernel_rfl) h16 ?_
    refine WC.skip (WX.next (WC.seq (WC.block (WC.seq (WC.region ?_)))))
    obtain ⟨h17, hl15⟩ := as_some hl15
    refine seg 2 [.v (iv ((rdD p0 x7 z_Tile).N)), .v (iv ((rdD p0 x7 z_Tile).E)), .v (iv ((rdD p0 x7 z_Tile).S)), .v (iv ((rdD p0 x7 z_Tile).W))] [3, 9, 10, 11, 14] [(3, (sv A4 l6 c5)), (9, (sv Aa p0 ca)), (10, (iv (p0.length : Int))), (11, (iv x7)), (14, (.agg #[(iv ((rdD p0 x7 z_Tile).N)), (iv ((rdD p0 x7 z_Tile).E)), (iv ((rdD p0 x7 z_Tile).S)), (iv ((rdD p0 x7 z_Tile).W))]))] [.idx Aa x7 p0.length, .cell ((adr Aa).add ((x7).toNat * 4)) (iv ((rdD p0 x7 z_Tile).N)), .cell (((adr Aa).add ((x7).toNat * 4)).add 1) (iv ((rdD p0 x7 z_Tile).E)), .cell (((adr Aa).add ((x7).toNat * 4)).add 2) (iv ((rdD p0 x7 z_Tile).S)), .cell (((adr Aa).add ((x7).toNat * 4)).add 3) (iv ((rdD p0 x7 z_Tile).W))] (fun fb => by kernel_rfl) rfl ⟨rowR.adr (hS14.rd 0).1 h17.1 h17.2, rowR.cell (hS14.rd 0).1 z_Tile h17.1 h17.2 0 rfl, rowR.cell (hS14.rd 0).1 z_Tile h17.1 h17.2 1 rfl, rowR.cell (hS14.rd 0).1 z_Tile h17.1 h17.2 2 rfl, rowR.cell (hS14.rd 0).1 z_Tile h17.1 h17.2 3 rfl, trivial⟩ ?_
    refine WL.new hS14 5 [] (fun g => (pt g)) (.cells #[(iv 0), (iv 0), (iv 0), (iv 0)] 40 (0, 0)) [] (fun fb g => by kernel_rfl) trivial (fun g18 w19 hS20 => ?_)
    refine ⟨trivial, ?_⟩
    refine WL.store hS20 0 rfl [(0, (iv ((rdD p0 x7 z_Tile).N))), (1, (iv ((rdD p0 x7 z_Tile).E))), (2, (iv ((rdD p0 x7 z_Tile).S))), (3, (iv ((rdD p0 x7 z_Tile).W)))] #[(iv ((rdD p0 x7 z_Tile).N)), (iv ((rdD p0 x7 z_Tile).E)), (iv ((rdD p0 x7 z_Tile).S)), (iv ((rdD p0 x7 z_Tile).W))] (fun fb => by kernel_rfl) (by kernel_rfl) rfl [1] (by decide) (by decide) (fun w21 hS22 => ?_)
    refine ⟨trivial, ?_⟩
    refine WL.done rfl (WX.next (WC.seq (WC.region ?_)))
    refine seg 1 [] [3, 5, 6, 9, 10, 11] [(3, (sv A4 l6 c5)), (5, (pt g18)), (6, (.slice none 0 0)), (9, (sv Aa p0 ca)), (10, (iv (p0.length : Int))), (11, (iv x7))] [] (fun fb => by kernel_rfl) rfl trivial ?_
    refine WL.done rfl (WX.next (WC.seq (WC.seq (WC.region ?_))))
    refine seg 10 [.v (iv ((rdD p0 x7 z_Tile).N)), .v (iv ((rdD p0 x7 z_Tile).E)), .v (iv ((rdD p0 x7 z_Tile).S)), .v (iv ((rdD p0 x7 z_Tile).W))] [3, 6, 9, 10, 11, 23, 24] [(3, (sv A4 l6 c5)), (6, (.slice none 0 0)), (9, (sv Aa p0 ca)), (10, (iv (p0.length : Int))), (11, (iv x7)), (23, (.agg #[(iv ((rdD p0 x7 z_Tile).N)), (iv ((rdD p0 x7 z_Tile).E)), (iv ((rdD p0 x7 z_Tile).S)), (iv ((rdD p0 x7 z_Tile).W))])), (24, (iv 0))] [.cell ⟨g18, 0, none⟩ (iv ((rdD p0 x7 z_Tile).N)), .cell ⟨g18, 1, none⟩ (iv ((rdD p0 x7 z_Tile).E)), .cell ⟨g18, 2, none⟩ (iv ((rdD p0 x7 z_Tile).S)), .cell ⟨g18, 3, none⟩ (iv ((rdD p0 x7 z_Tile).W))] (fun fb => by kernel_rfl) rfl ⟨hS22.cell 0 rfl 0 rfl, hS22.cell 0 rfl 1 rfl, hS22.cell 0 rfl 2 rfl, hS22.cell 0 rfl 3 rfl, trivial⟩ ?_
    refine WL.done rfl (WX.next ?_)
    have hS23 := hS22.nilrow 9 encStr
    obtain ⟨x30, hx31, hl15⟩ := bind_some hl15
    refine WC.cutN (T := (List ByteArray) × (Option Addr) × Nat) (fun t => [(3, (sv A4 l6 c5)), (6, (sv t.2.1 t.1 t.2.2)), (9, (sv Aa p0 ca)), (10, (iv (p0.length : Int))), (11, (iv x7))]) (fun t w1 => St NoS w w1 [rowR enc_Tile Aa ca p0] [rowO 9 encStr A4 c5 l6, rowO 9 encStr t.2.1 t.2.2 t.1] ∧ x30 = t.1) (fun Kx30 => ?_) ?_
    ·
     refine WC.block ?_
     refine WC.loop (T := ((List ByteArray) × Int) × (Option Addr) × Nat) (fun t => [(3, (sv A4 l6 c5)), (6, (sv t.2.1 t.1.1 t.2.2)), (9, (sv Aa p0 ca)), (10, (iv (p0.length : Int))), (11, (iv x7)), (23, (.agg #[(iv ((rdD p0 x7 z_Tile).N)), (iv ((rdD p0 x7 z_Tile).E)), (iv ((rdD p0 x7 z_Tile).S)), (iv ((rdD p0 x7 z_Tile).W))])), (24, (iv t.1.2))]) (fun n t w1 => St NoS w w1 [rowR enc_Tile Aa ca p0] [rowO 9 encStr A4 c5 l6, rowO 9 encStr t.2.1 t.2.2 t.1.1] ∧ tile_write.l1 n t.1.1 t.1.2 p0 x7 = some x30) k12 ((([] : List ByteArray), 0), none, 0) [3, 6, 9, 10, 11, 23, 24] rfl ⟨(hS23.subR [0]).sub [2, 0] (by decide), hx31⟩ ?_
     rintro k32 ⟨⟨l26, x27⟩, A24, c25⟩ w33 ⟨hS34, hl35⟩
     cases k32 with
     | zero => rw [tile_write.l1] at hl35; cases hl35
     | succ k32 =>
      rw [tile_write.l1] at hl35
      refine WC.seq (WC.region ?_)
      refine seg 1 [] [3, 6, 9, 10, 11, 23, 24, 25] [(3, (sv A4 l6 c5)), (6, (sv A24 l26 c25)), (9, (sv Aa p0 ca)), (10, (iv (p0.length : Int))), (11, (iv x7)), (23, (.agg #[(iv ((rdD p0 x7 z_Tile).N)), (iv ((rdD p0 x7 z_Tile).E)), (iv ((rdD p0 x7 z_Tile).S)), (iv ((rdD p0 x7 z_Tile).W))])), (24, (iv x27)), (25, (bv (decide (x27 < 4))))] [] (fun fb => by kernel_rfl) rfl trivial ?_
      refine WL.done rfl (WX.next (WC.seq ?_))
      rcases br_some hl35 with ⟨h36, hl35⟩ | ⟨h36, hl35⟩
      ·refine WC.condT2 (fun fb => by kernel_rfl) h36 ?_
       refine WC.skip (WX.next (WC.seq (WC.block (WC.seq (WC.region ?_)))))
       rcases br_some hl35 with ⟨h37, hl35⟩ | ⟨h37, hl35⟩
       ·
        refine WL.setI 24 (eq_of_beq h37) rfl ?_
        refine seg 1 [] [3, 6, 9, 10, 11, 23, 24, 26] [(3, (sv A4 l6 c5)), (6, (sv A24 l26 c25)), (9, (sv Aa p0 ca)), (10, (iv (p0.length : Int))), (11, (iv x7)), (23, (.agg #[(iv ((rdD p0 x7 z_Tile).N)), (iv ((rdD p0 x7 z_Tile).E)), (iv ((rdD p0 x7 z_Tile).S)), (iv ((rdD p0 x7 z_Tile).W))])), (24, (iv 0)), (26, (iv ((rdD p0 x7 z_Tile).N)))] [] (fun fb => by kernel_rfl) rfl trivial ?_
        refine WL.setI 24 (eq_of_beq h37).symm rfl ?_
        refine seg 2 [] [3, 6, 8, 9, 10, 11, 23, 24] [(3, (sv A4 l6 c5)), (6, (sv A24 l26 c25)), (8, (iv ((rdD p0 x7 z_Tile).N))), (9, (sv Aa p0 ca)), (10, (iv (p0.length : Int))), (11, (iv x7)), (23, (.agg #[(iv ((rdD p0 x7 z_Tile).N)), (iv ((rdD p0 x7 z_Tile).E)), (iv ((rdD p0 x7 z_Tile).S)), (iv ((rdD p0 x7 z_Tile).W))])), (24, (iv x27))] [] (fun fb => by kernel_rfl) rfl trivial ?_
        refine WL.done rfl (WX.next (WC.region ?_))
        refine seg 2 [] [3, 9, 10, 11, 23, 24, 27, 28] [(3, (sv A4 l6 c5)), (9, (sv Aa p0 ca)), (10, (iv (p0.length : Int))), (11, (iv x7)), (23, (.agg #[(iv ((rdD p0 x7 z_Tile).N)), (iv ((rdD p0 x7 z_Tile).E)), (iv ((rdD p0 x7 z_Tile).S)), (iv ((rdD p0 x7 z_Tile).W))])), (24, (iv x27)), (27, (sv A24 l26 c25)), (28, (iv ((rdD p0 x7 z_Tile).N)))] [] (fun fb => by kernel_rfl) rfl trivial ?_
        obtain ⟨t41, ht42, hl35⟩ := bind_some hl35
        refine WL.call (some 29) 94 #[(iv ((rdD p0 x7 z_Tile).N))] (fun fb => by kernel_rfl) (itoa_calls Tryd.strconv_Itoa_small ((rdD p0 x7 z_Tile).N) t41 _ ht42) (fun v w39 hR38 => ?_)
        obtain ⟨rfl, hk_⟩ := hR38
        have hS40 := hS34.keepN hk_
        refine ⟨trivial, ?_⟩
        refine WL.new hS40 30 [] (fun g => (.slice (some ⟨g, 0, none⟩) 1 1)) (.cells #[(.string t41)] 9 (0, 0)) [] (fun fb g => by kernel_rfl) trivial (fun g43 w44 hS45 => ?_)
        refine ⟨trivial, ?_⟩
        have hS46 := hS.go w44 [rowO 9 encStr (some ⟨g43, 0, none⟩) 1 [t41], rowO 9 encStr A4 c5 l6, rowO 9 encStr A24 c25 l26] (hS45.map1 0 _ (fun h => rowO.ofBlk h rfl (Nat.le_of_ble_eq_true (by kernel_rfl))) (fun _ h => by obtain ⟨_, h1, h2⟩ := h; injection h1 with h1; subst h1; exact h2) [1, 2] (by decide) (by decide))
        obtain ⟨h47, hl35⟩ := as_some hl35
        refine WL.append hS46 2 (d := 31) (tS := 106) (z := (.string ByteArray.empty)) (bytes := 16) (c2 := 1) rfl (fun fb => by kernel_rfl) (rowO.rd (hS46.own 0).1) (by kernel_rfl) (by kernel_rfl) rfl (by decide) h47 (by decide) [0, 1] (by decide) (by decide) (fun A48 c49 w50 hS51 => ?_)
        refine ⟨trivial, ?_⟩
        refine seg 6 [] [3, 6, 9, 10, 11, 23, 24] [(3, (sv A4 l6 c5)), (6, (sv A48 (l26 ++ [t41]) c49)), (9, (sv Aa p0 ca)), (10, (iv (p0.length : Int))), (11, (iv x7)), (23, (.agg #[(iv ((rdD p0 x7 z_Tile).N)), (iv ((rdD p0 x7 z_Tile).E)), (iv ((rdD p0 x7 z_Tile).S)), (iv ((rdD p0 x7 z_Tile).W))])), (24, (iv x27))] [] (fun fb => by kernel_rfl) rfl trivial ?_
        refine WL.done rfl ?_
        refine WX.blockN (WX.next ?_)
        refine WC.region ?_
        refine seg 2 [] [3, 6, 9, 10, 11, 23, 24] [(3, (sv A4 l6 c5)), (6, (sv A48 (l26 ++ [t41]) c49)), (9, (sv Aa p0 ca)), (10, (iv (p0.length : Int))), (11, (iv x7)), (23, (.agg #[(iv ((rdD p0 x7 z_Tile).N)), (iv ((rdD p0 x7 z_Tile).E)), (iv ((rdD p0 x7 z_Tile).S)), (iv ((rdD p0 x7 z_Tile).W))])), (24, (iv (w64 (x27 + 1))))] [] (fun fb => by kernel_rfl) rfl trivial ?_
        refine WL.done rfl ?_
        exact WX.again k32 (Nat.lt_succ_self _) ((l26 ++ [t41], w64 (x27 + 1)), A48, c49) [3, 6, 9, 10, 11, 23, 24] rfl ⟨(hS51.subR [0]).sub [2, 0] (by decide), hl35⟩
       rcases br_some hl35 with ⟨h52, hl35⟩ | ⟨h52, hl35⟩
       ·
        refine WL.setI 24 (eq_of_beq h52) rfl ?_
        refine seg 1 [] [3, 6, 9, 10, 11, 23, 24, 26] [(3, (sv A4 l6 c5)), (6, (sv A24 l26 c25)), (9, (sv Aa p0 ca)), (10, (iv (p0.length : Int))), (11, (iv x7)), (23, (.agg #[(iv ((rdD p0 x7 z_Tile).N)), (iv ((rdD p0 x7 z_Tile).E)), (iv ((rdD p0 x7 z_Tile).S)), (iv ((rdD p0 x7 z_Tile).W))])), (24, (iv 1)), (26, (iv ((rdD p0 x7 z_Tile).E)))] [] (fun fb => by kernel_rfl) rfl trivial ?_
        refine WL.setI 24 (eq_of_beq h52).symm rfl ?_
        refine seg 2 [] [3, 6, 8, 9, 10, 11, 23, 24] [(3, (sv A4 l6 c5)), (6, (sv A24 l26 c25)), (8, (iv ((rdD p0 x7 z_Tile).E))), (9, (sv Aa p0 ca)), (10, (iv (p0.length : Int))), (11, (iv x7)), (23, (.agg #[(iv ((rdD p0 x7 z_Tile).N)), (iv ((rdD p0 x7 z_Tile).E)), (iv ((rdD p0 x7 z_Tile).S)), (iv ((rdD p0 x7 z_Tile).W))])), (24, (iv x27))] [] (fun fb => by kernel_rfl) rfl trivial ?_
        refine WL.done rfl (WX.next (WC.region ?_))
        refine seg 2 [] [3, 9, 10, 11, 23, 24, 27, 28] [(3, (sv A4 l6 c5)), (9, (sv Aa p0 ca)), (10, (iv (p0.length : Int))), (11, (iv x7)), (23, (.agg #[(iv ((rdD p0 x7 z_Tile).N)), (iv ((rdD p0 x7 z_Tile).E)), (iv ((rdD p0 x7 z_Tile).S)), (iv ((rdD p0 x7 z_Tile).W))])), (24, (iv x27)), (27, (sv A24 l26 c25)), (28, (iv ((rdD p0 x7 z_Tile).E)))] [] (fun fb => by kernel_rfl) rfl trivial ?_
        obtain ⟨t56, ht57, hl35⟩ := bind_some hl35
        refine WL.call (some 29) 94 #[(iv ((rdD p0 x7 z_Tile).E))] (fun fb => by kernel_rfl) (itoa_calls Tryd.strconv_Itoa_small ((rdD p0 x7 z_Tile).E) t56 _ ht57) (fun v w54 hR53 => ?_)
        obtain ⟨rfl, hk_⟩ := hR53
        have hS55 := hS34.keepN hk_
        refine ⟨trivial, ?_⟩
        refine WL.new hS55 30 [] (fun g => (.slice (some ⟨g, 0, none⟩) 1 1)) (.cells #[(.string t56)] 9 (0, 0)) [] (fun fb g => by kernel_rfl) trivial (fun g58 w59 hS60 => ?_)
        refine ⟨trivial, ?_⟩
        have hS61 := hS.go w59 [rowO 9 encStr (some ⟨g58, 0, none⟩) 1 [t56], rowO 9 encStr A4 c5 l6, rowO 9 encStr A24 c25 l26] (hS60.map1 0 _ (fun h => rowO.ofBlk h rfl (Nat.le_of_ble_eq_true (by kernel_rfl))) (fun _ h => by obtain ⟨_, h1, h2⟩ := h; injection h1 with h1; subst h1; exact h2) [1, 2] (by decide) (by decide))
        obtain ⟨h62, hl35⟩ := as_some hl35
        refine WL.append hS61 2 (d := 31) (tS := 106) (z := (.string ByteArray.empty)) (bytes := 16) (c2 := 1) rfl (fun fb => by kernel_rfl) (rowO.rd (hS61.own 0).1) (by kernel_rfl) (by kernel_rfl) rfl (by decide) h62 (by decide) [0, 1] (by decide) (by decide) (fun A63 c65 w66 hS67 => ?_)
        refine ⟨trivial, ?_⟩
        refine seg 6 [] [3, 6, 9, 10, 11, 23, 24] [(3, (sv A4 l6 c5)), (6, (sv A63 (l26 ++ [t56]) c65)), (9, (sv Aa p0 ca)), (10, (iv (p0.length : Int))), (11, (iv x7)), (23, (.agg #[(iv ((rdD p0 x7 z_Tile).N)), (iv ((rdD p0 x7 z_Tile).E)), (iv ((rdD p0 x7 z_Tile).S)), (iv ((rdD p0 x7 z_Tile).W))])), (24, (iv x27))] [] (fun fb => by kernel_rfl) rfl trivial ?_
        refine WL.done rfl ?_
        refine WX.blockN (WX.next ?_)
        refine WC.region ?_
        refine seg 2 [] [3, 6, 9, 10, 11, 23, 24] [(3, (sv A4 l6 c5)), (6, (sv A63 (l26 ++ [t56]) c65)), (9, (sv Aa p0 ca)), (10, (iv (p0.length : Int))), (11, (iv x7)), (23, (.agg #[(iv ((rdD p0 x7 z_Tile).N)), (iv ((rdD p0 x7 z_Tile).E)), (iv ((rdD p0 x7 z_Tile).S)), (iv ((rdD p0 x7 z_Tile).W))])), (24, (iv (w64 (x27 + 1))))] [] (fun fb => by kernel_rfl) rfl trivial ?_
        refine WL.done rfl ?_
        exact WX.again k32 (Nat.lt_succ_self _) ((l26 ++ [t56], w64 (x27 + 1)), A63, c65) [3, 6, 9, 10, 11, 23, 24] rfl ⟨(hS67.subR [0]).sub [2, 0] (by decide), hl35⟩
       rcases br_some hl35 with ⟨h68, hl35⟩ | ⟨h68, hl35⟩
       ·
        refine WL.setI 24 (eq_of_beq h68) rfl ?_
        refine seg 1 [] [3, 6, 9, 10, 11, 23, 24, 26] [(3, (sv A4 l6 c5)), (6, (sv A24 l26 c25)), (9, (sv Aa p0 ca)), (10, (iv (p0.length : Int))), (11, (iv x7)), (23, (.agg #[(iv ((rdD p0 x7 z_Tile).N)), (iv ((rdD p0 x7 z_Tile).E)), (iv ((rdD p0 x7 z_Tile).S)), (iv ((rdD p0 x7 z_Tile).W))])), (24, (iv 2)), (26, (iv ((rdD p0 x7 z_Tile).S)))] [] (fun fb => by kernel_rfl) rfl trivial ?_
        refine WL.setI 24 (eq_of_beq h68).symm rfl ?_
        refine seg 2 [] [3, 6, 8, 9, 10, 11, 23, 24] [(3, (sv A4 l6 c5)), (6, (sv A24 l26 c25)), (8, (iv ((rdD p0 x7 z_Tile).S))), (9, (sv Aa p0 ca)), (10, (iv (p0.length : Int))), (11, (iv x7)), (23, (.agg #[(iv ((rdD p0 x7 z_Tile).N)), (iv ((rdD p0 x7 z_Tile).E)), (iv ((rdD p0 x7 z_Tile).S)), (iv ((rdD p0 x7 z_Tile).W))])), (24, (iv x27))] [] (fun fb => by kernel_rfl) rfl trivial ?_
        refine WL.done rfl (WX.next (WC.region ?_))
        refine seg 2 [] [3, 9, 10, 11, 23, 24, 27, 28] [(3, (sv A4 l6 c5)), (9, (sv Aa p0 ca)), (10, (iv (p0.length : Int))), (11, (iv x7)), (23, (.agg #[(iv ((rdD p0 x7 z_Tile).N)), (iv ((rdD p0 x7 z_Tile).E)), (iv ((rdD p0 x7 z_Tile).S)), (iv ((rdD p0 x7 z_Tile).W))])), (24, (iv x27)), (27, (sv A24 l26 c25)), (28, (iv ((rdD p0 x7 z_Tile).S)))] [] (fun fb => by kernel_rfl) rfl trivial ?_
        obtain ⟨t72, ht73, hl35⟩ := bind_some hl35
        refine WL.call (some 29) 94 #[(iv ((rdD p0 x7 z_Tile).S))] (fun fb => by kernel_rfl) (itoa_calls Tryd.strconv_Itoa_small ((rdD p0 x7 z_Tile).S) t72 _ ht73) (fun v w70 hR69 => ?_)
        obtain ⟨rfl, hk_⟩ := hR69
        have hS71 := hS34.keepN hk_
        refine ⟨trivial, ?_⟩
        refine WL.new hS71 30 [] (fun g => (.slice (some ⟨g, 0, none⟩) 1 1)) (.cells #[(.string t72)] 9 (0, 0)) [] (fun fb g => by kernel_rfl) trivial (fun g74 w75 hS76 => ?_)
        refine ⟨trivial, ?_⟩
        have hS77 := hS.go w75 [rowO 9 encStr (some ⟨g74, 0, none⟩) 1 [t72], rowO 9 encStr A4 c5 l6, rowO 9 encStr A24 c25 l26] (hS76.map1 0 _ (fun h => rowO.ofBlk h rfl (Nat.le_of_ble_eq_true (by kernel_rfl))) (fun _ h => by obtain ⟨_, h1, h2⟩ := h; injection h1 with h1; subst h1; exact h2) [1, 2] (by decide) (by decide))
        obtain ⟨h78, hl35⟩ := as_some hl35
        refine WL.append hS77 2 (d := 31) (tS := 106) (z := (.string ByteArray.empty)) (bytes := 16) (c2 := 1) rfl (fun fb => by kernel_rfl) (rowO.rd (hS77.own 0).1) (by kernel_rfl) (by kernel_rfl) rfl (by decide) h78 (by decide) [0, 1] (by decide) (by decide) (fun A80 c81 w82 hS83 => ?_)
        refine ⟨trivial, ?_⟩
        refine seg 6 [] [3, 6, 9, 10, 11, 23, 24] [(3, (sv A4 l6 c5)), (6, (sv A80 (l26 ++ [t72]) c81)), (9, (sv Aa p0 ca)), (10, (iv (p0.length : Int))), (11, (iv x7)), (23, (.agg #[(iv ((rdD p0 x7 z_Tile).N)), (iv ((rdD p0 x7 z_Tile).E)), (iv ((rdD p0 x7 z_Tile).S)), (iv ((rdD p0 x7 z_Tile).W))])), (24, (iv x27))] [] (fun fb => by kernel_rfl) rfl trivial ?_
        refine WL.done rfl ?_
        refine WX.blockN (WX.next ?_)
        refine WC.region ?_
        refine seg 2 [] [3, 6, 9, 10, 11, 23, 24] [(3, (sv A4 l6 c5)), (6, (sv A80 (l26 ++ [t72]) c81)), (9, (sv Aa p0 ca)), (10, (iv (p0.length : Int))), (11, (iv x7)), (23, (.agg #[(iv ((rdD p0 x7 z_Tile).N)), (iv ((rdD p0 x7 z_Tile).E)), (iv ((rdD p0 x7 z_Tile).S)), (iv ((rdD p0 x7 z_Tile).W))])), (24, (iv (w64 (x27 + 1))))] [] (fun fb => by kernel_rfl) rfl trivial ?_
        refine WL.done rfl ?_
        exact WX.again k32 (Nat.lt_succ_self _) ((l26 ++ [t72], w64 (x27 + 1)), A80, c81) [3, 6, 9, 10, 11, 23, 24] rfl ⟨(hS83.subR [0]).sub [2, 0] (by decide), hl35⟩
       rcases br_some hl35 with ⟨h84, hl35⟩ | ⟨h84, hl35⟩
       ·
        refine WL.setI 24 (eq_of_beq h84) rfl ?_
        refine seg 1 [] [3, 6, 9, 10, 11, 23, 24, 26] [(3, (sv A4 l6 c5)), (6, (sv A24 l26 c25)), (9, (sv Aa p0 ca)), (10, (iv (p0.length : Int))), (11, (iv x7)), (23, (.agg #[(iv ((rdD p0 x7 z_Tile).N)), (iv ((rdD p0 x7 z_Tile).E)), (iv ((rdD p0 x7 z_Tile).S)), (iv ((rdD p0 x7 z_Tile).W))])), (24, (iv 3)), (26, (iv ((rdD p0 x7 z_Tile).W)))] [] (fun fb => by kernel_rfl) rfl trivial ?_
        refine WL.setI 24 (eq_of_beq h84).symm rfl ?_
        refine seg 2 [] [3, 6, 8, 9, 10, 11, 23, 24] [(3, (sv A4 l6 c5)), (6, (sv A24 l26 c25)), (8, (iv ((rdD p0 x7 z_Tile).W))), (9, (sv Aa p0 ca)), (10, (iv (p0.length : Int))), (11, (iv x7)), (23, (.agg #[(iv ((rdD p0 x7 z_Tile).N)), (iv ((rdD p0 x7 z_Tile).E)), (iv ((rdD p0 x7 z_Tile).S)), (iv ((rdD p0 x7 z_Tile).W))])), (24, (iv x27))] [] (fun fb => by kernel_rfl) rfl trivial ?_
        refine WL.done rfl (WX.next (WC.region ?_))
        refine seg 2 [] [3, 9, 10, 11, 23, 24, 27, 28] [(3, (sv A4 l6 c5)), (9, (sv Aa p0 ca)), (10, (iv (p0.length : Int))), (11, (iv x7)), (23, (.agg #[(iv ((rdD p0 x7 z_Tile).N)), (iv ((rdD p0 x7 z_Tile).E)), (iv ((rdD p0 x7 z_Tile).S)), (iv ((rdD p0 x7 z_Tile).W))])), (24, (iv x27)), (27, (sv A24 l26 c25)), (28, (iv ((rdD p0 x7 z_Tile).W)))] [] (fun fb => by kernel_rfl) rfl trivial ?_
        obtain ⟨t88, ht89, hl35⟩ := bind_some hl35
        refine WL.call (some 29) 94 #[(iv ((rdD p0 x7 z_Tile).W))] (fun fb => by kernel_rfl) (itoa_calls Tryd.strconv_Itoa_small ((rdD p0 x7 z_Tile).W) t88 _ ht89) (fun v w86 hR85 => ?_)
        obtain ⟨rfl, hk_⟩ := hR85
        have hS87 := hS34.keepN hk_
        refine ⟨trivial, ?_⟩
        refine WL.new hS87 30 [] (fun g => (.slice (some ⟨g, 0, none⟩) 1 1)) (.cells #[(.string t88)] 9 (0, 0)) [] (fun fb g => by kernel_rfl) trivial (fun g90 w91 hS92 => ?_)
        refine ⟨trivial, ?_⟩
        have hS93 := hS.go w91 [rowO 9 encStr (some ⟨g90, 0, none⟩) 1 [t88], rowO 9 encStr A4 c5 l6, rowO 9 encStr A24 c25 l26] (hS92.map1 0 _ (fun h => rowO.ofBlk h rfl (Nat.le_of_ble_eq_true (by kernel_rfl))) (fun _ h => by obtain ⟨_, h1, h2⟩ := h; injection h1 with h1; subst h1; exact h2) [1, 2] (by decide) (by decide))
        obtain ⟨h94, hl35⟩ := as_some hl35
        refine WL.append hS93 2 (d := 31) (tS := 106) (z := (.string ByteArray.empty)) (bytes := 16) (c2 := 1) rfl (fun fb => by kernel_rfl) (rowO.rd (hS93.own 0).1) (by kernel_rfl) (by kernel_rfl) rfl (by decide) h94 (by decide) [0, 1] (by decide) (by decide) (fun A95 c96 w97 hS98 => ?_)
        refine ⟨trivial, ?_⟩
        refine seg 6 [] [3, 6, 9, 10, 11, 23, 24] [(3, (sv A4 l6 c5)), (6, (sv A95 (l26 ++ [t88]) c96)), (9, (sv Aa p0 ca)), (10, (iv (p0.length : Int))), (11, (iv x7)), (23, (.agg #[(iv ((rdD p0 x7 z_Tile).N)), (iv ((rdD p0 x7 z_Tile).E)), (iv ((rdD p0 x7 z_Tile).S)), (iv ((rdD p0 x7 z_Tile).W))])), (24, (iv x27))] [] (fun fb => by kernel_rfl) rfl trivial ?_
        refine WL.done rfl ?_
        refine WX.blockN (WX.next ?_)
        refine WC.region ?_
        refine seg 2 [] [3, 6, 9, 10, 11, 23, 24] [(3, (sv A4 l6 c5)), (6, (sv A95 (l26 ++ [t88]) c96)), (9, (sv Aa p0 ca)), (10, (iv (p0.length : Int))), (11, (iv x7)), (23, (.agg #[(iv ((rdD p0 x7 z_Tile).N)), (iv ((rdD p0 x7 z_Tile).E)), (iv ((rdD p0 x7 z_Tile).S)), (iv ((rdD p0 x7 z_Tile).W))])), (24, (iv (w64 (x27 + 1))))] [] (fun fb => by kernel_rfl) rfl trivial ?_
        refine WL.done rfl ?_
        exact WX.again k32 (Nat.lt_succ_self _) ((l26 ++ [t88], w64 (x27 + 1)), A95, c96) [3, 6, 9, 10, 11, 23, 24] rfl ⟨(hS98.subR [0]).sub [2, 0] (by decide), hl35⟩
       cases hl35
      refine WC.condF2 (fun fb => by kernel_rfl) h36 ?_
      refine WC.exit ?_
      injection hl35 with hl35
      exact WX.thenX (WX.thenX (WX.blockHere (WX.to Kx30 (l26, A24, c25) [3, 6, 9, 10, 11] rfl ⟨(hS34.subR [0]).sub [0, 1] (by decide), hl35.symm⟩)))
    rintro ⟨y102, A28, c29⟩ w99 ⟨hS100, hq101⟩
    subst hq101
    refine WX.next (WC.region ?_)
    refine seg 2 [] [9, 10, 11, 33, 34] [(9, (sv Aa p0 ca)), (10, (iv (p0.length : Int))), (11, (iv x7)), (33, (sv A4 l6 c5)), (34, (sv A28 x30 c29))] [] (fun fb => by kernel_rfl) rfl trivial ?_
    obtain ⟨t106, ht107, hl15⟩ := bind_some hl15
    refine WL.call (some 35) 95 #[(sv A28 x30 c29), (.string (⟨#[46]⟩ : ByteArray))] (fun fb => by kernel_rfl) (join_calls Tryd.strings_Join Tryd.strings_Join_none x30 (⟨#[46]⟩ : ByteArray) A28 c29 t106 _ (hS100.ow 1) ht107) (fun v w104 hR103 => ?_)
    obtain ⟨rfl, hk_⟩ := hR103
    have hS105 := hS100.keepN hk_
    refine ⟨trivial, ?_⟩
    refine WL.new hS105 36 [] (fun g => (.slice (some ⟨g, 0, none⟩) 1 1)) (.cells #[(.string t106)] 9 (0, 0)) [] (fun fb g => by kernel_rfl) trivial (fun g108 w109 hS110 => ?_)
    refine ⟨trivial, ?_⟩
    have hS111 := hS.go w109 [rowO 9 encStr (some ⟨g108, 0, none⟩) 1 [t106], rowO 9 encStr A4 c5 l6, rowO 9 encStr A28 c29 x30] (hS110.map1 0 _ (fun h => rowO.ofBlk h rfl (Nat.le_of_ble_eq_true (by kernel_rfl))) (fun _ h => by obtain ⟨_, h1, h2⟩ := h; injection h1 with h1; subst h1; exact h2) [1, 2] (by decide) (by decide))
    obtain ⟨h112, hl15⟩ := as_some hl15
    refine WL.append hS111 1 (d := 37) (tS := 106) (z := (.string ByteArray.empty)) (bytes := 16) (c2 := 1) rfl (fun fb => by kernel_rfl) (rowO.rd (hS111.own 0).1) (by kernel_rfl) (by kernel_rfl) rfl (by decide) h112 (by decide) [0, 2] (by decide) (by decide) (fun A113 c114 w115 hS116 => ?_)
    refine ⟨trivial, ?_⟩
    refine seg 6 [] [3, 9, 10, 11] [(3, (sv A113 (l6 ++ [t106]) c114)), (9, (sv Aa p0 ca)), (10, (iv (p0.length : Int))), (11, (iv x7))] [] (fun fb => by kernel_rfl) rfl trivial ?_
    refine WL.done rfl ?_
    refine WX.blockN (WX.next ?_)
    refine WC.region ?_
    refine seg 2 [] [3, 9, 10, 11] [(3, (sv A113 (l6 ++ [t106]) c114)), (9, (sv Aa p0 ca)), (10, (iv (p0.length : Int))), (11, (iv (w64 (x7 + 1))))] [] (fun fb => by kernel_rfl) rfl trivial ?_
    refine WL.done rfl ?_
    exact WX.again k12 (Nat.lt_succ_self _) ((l6 ++ [t106], w64 (x7 + 1)), A113, c114) [3, 9, 10, 11] rfl ⟨(hS116.subR [0]).sub [0] (by decide), hl15⟩
   refine WC.condF2 (fun fb => by kernel_rfl) h16 ?_
   refine WC.exit ?_
   injection hl15 with hl15
   exact WX.thenX (WX.thenX (WX.blockHere (WX.to Kx10 (l6, A4, c5) [3] rfl ⟨(hS14.subR [0]).sub [0] (by decide), hl15.symm⟩)))
 rintro ⟨y120, A8, c9⟩ w117 ⟨hS118, hq119⟩
 subst hq119
 refine WX.next (WC.seq (WC.region ?_))
 refine seg 1 [] [39] [(39, (sv A8 x10 c9))] [] (fun fb => by kernel_rfl) rfl trivial ?_
 obtain ⟨t124, ht125, hf⟩ := bind_some hf
 refine WL.call (some 40) 95 #[(sv A8 x10 c9), (.string (⟨#[32]⟩ : ByteArray))] (fun fb => by kernel_rfl) (join_calls Tryd.strings_Join Tryd.strings_Join_none x10 (⟨#[32]⟩ : ByteArray) A8 c9 t124 _ (hS118.ow 0) ht125) (fun v w122 hR121 => ?_)
 obtain ⟨rfl, hk_⟩ := hR121
 have hS123 := hS118.keepN hk_
 refine ⟨trivial, ?_⟩
 refine seg 3 [] [2] [(2, (.string t124))] [] (fun fb => by kernel_rfl) rfl trivial ?_
 refine WL.done rfl (WX.next ?_)
 refine WC.ret ?_
 injection hf with hf
 subst hf
 exact WX.ret_ [] (.string t124) [] (fun fb => by kernel_rfl) trivial ⟨_, rfl, rfl, hS123.keep⟩
theorem tile_Parse_calls (k : Nat) (p0 : ByteArray) (mG : Int) (r : (List Tile) × Int) (w : World) (hR0 : RO NoS w (cel ⟨2, 0, none⟩ (iv mG))) (hf : tile_Parse k p0 = some r) :
  CallsR Tryd.prog 49 #[(.string p0)] w (fun v w' => ∃ (A1_ : Option Addr), ∃ (c1_ : Nat), v = (.tuple #[(sv A1_ r.1 c1_), (iv r.2)]) ∧ St NoS w w' [] [rowO 40 enc_Tile A1_ c1_ r.1]) := by
 have hS : St NoS w w [cel ⟨2, 0, none⟩ (iv mG)] [] := St.init (ro_cons hR0 (ro_nil _ _))
 refine enter 76 Tryd.func49 rfl Tryd.ntmps49 rfl ?_
 unfold tile_Parse at hf
 refine WC.seq (WC.region ?_)
 refine seg 2 [] [0] [(0, (.string p0))] [] (fun fb => by kernel_rfl) rfl trivial ?_
 refine WL.done rfl (WX.next (WC.seq (WC.region ?_)))
 refine seg 1 [] [0, 4] [(0, (.string p0)), (4, (.slice none 0 0))] [] (fun fb => by kernel_rfl) rfl trivial ?_
 refine WL.done rfl (WX.next (WC.seq (WC.seq (WC.region ?_))))
 refine seg 1 [] [0, 4, 13] [(0, (.string p0)), (4, (.slice none 0 0)), (13, (.string p0))] [] (fun fb => by kernel_rfl) rfl trivial ?_
 refine seg 2 [] [0, 4, 14] [(0, (.string p0)), (4, (.slice none 0 0)), (14, (bv (p0.toList == (⟨#[]⟩ : ByteArray).toList)))] [] (fun fb => by kernel_rfl) rfl trivial ?_
 refine WL.setB 14 (strEq_raw p0 (⟨#[]⟩ : ByteArray)) rfl ?_
 refine WL.done rfl (WX.next ?_)
 rcases br_some hf with ⟨h23, hf⟩ | ⟨h23, hf⟩
 ·refine WC.condT2 (fun fb => by kernel_rfl) h23 ?_
  refine WC.seq (WC.region ?_)
  refine seg 2 [] [2, 3] [(2, (.slice none 0 0)), (3, (iv 0))] [] (fun fb => by kernel_rfl) rfl trivial ?_
  refine WL.done rfl (WX.next ?_)
  refine WC.ret ?_
  have hS24 := hS.nilrow 40 enc_Tile
  injection hf with hf
  subst hf
  exact WX.thenR (WX.ret_ [] (.tuple #[(sv none ([] : List Tile) 0), (iv 0)]) [] (fun fb => by kernel_rfl) trivial ⟨_, rfl, none, 0, rfl, (hS24.sub [0] (by decide)).noR⟩)
 refine WC.condF2 (fun fb => by kernel_rfl) h23 ?_
 refine WC.skip (WX.next (WC.seq (WC.seq (WC.region ?_))))
 refine seg 3 [] [0, 4, 17] [(0, (.string p0)), (4, (.slice none 0 0)), (17, (bv (decide ((p0.size : Int) > 16000))))] [] (fun fb => by kernel_rfl) rfl trivial ?_
 refine WL.done rfl (WX.next ?_)
 rcases br_some hf with ⟨h25, hf⟩ | ⟨h25, hf⟩
 ·refine WC.condT2 (fun fb => by kernel_rfl) h25 ?_
  refine WC.seq (WC.region ?_)
  refine seg 2 [] [2, 3] [(2, (.slice none 0 0)), (3, (iv 3))] [] (fun fb => by kernel_rfl) rfl trivial ?_
  refine WL.done rfl (WX.next ?_)
  refine WC.ret ?_
  have hS26 := hS.nilrow 40 enc_Tile
  injection hf with hf
  subst hf
  exact WX.thenR (WX.ret_ [] (.tuple #[(sv none ([] : List Tile) 0), (iv 3)]) [] (fun fb => by kernel_rfl) trivial ⟨_, rfl, none, 0, rfl, (hS26.sub [0] (by decide)).noR⟩)
 refine WC.condF2 (fun fb => by kernel_rfl) h25 ?_
 refine WC.skip (WX.next (WC.seq (WC.seq (WC.region ?_))))
 refine seg 1 [] [0, 4, 18] [(0, (.string p0)), (4, (.slice none 0 0)), (18, (.string p0))] [] (fun fb => by kernel_rfl) rfl trivial ?_
 obtain ⟨h30, hf⟩ := as_some hf
 refine WL.call (some 19) 77 #[(.string p0), (.string (⟨#[32]⟩ : ByteArray))] (fun fb => by kernel_rfl) (split_calls Tryd.strings_Split p0 (⟨#[32]⟩ : ByteArray) mG _ (hS.rd 0) h30) (fun v w28 hR27 => ?_)
 obtain ⟨A31, c32, rfl, hk_⟩ := hR27
 have hS29 := hS.go w28 [rowO 9 encStr A31 c32 (splitP p0 (⟨#[32]⟩ : ByteArray))] (hS.call hk_ [] [] (fun g hg => hg.elim) (by simp) (by decide))
 refine ⟨trivial, ?_⟩
 refine seg 4 [] [0, 4, 19, 20, 21] [(0, (.string p0)), (4, (.slice none 0 0)), (19, (sv A31 (splitP p0 (⟨#[32]⟩ : ByteArray)) c32)), (20, (iv ((splitP p0 (⟨#[32]⟩ : ByteArray)).length : Int))), (21, (iv 0))] [] (fun fb => by kernel_rfl) rfl trivial ?_
 refine WL.done rfl (WX.next ?_)
 have hS3 := hS29.nilrow 40 enc_Tile
 obtain ⟨x10, hx11, hf⟩ := bind_some hf
 refine WC.cutN (T := (List Tile) × (Option Addr) × Nat) (fun t => [(0, (.string p0)), (4, (sv t.2.1 t.1 t.2.2))]) (fun t w1 => St NoS w w1 [cel ⟨2, 0, none⟩ (iv mG)] [rowO 40 enc_Tile t.2.1 t.2.2 t.1] ∧ x10 = .inr t.1) (fun Kx10 => ?_) ?_
 ·
  refine WC.block ?_
  refine WC.loop (T := ((List Tile) × Int) × (Option Addr) × Nat) (fun t => [(0, (.string p0)), (4, (sv t.2.1 t.1.1 t.2.2)), (19, (sv A31 (splitP p0 (⟨#[32]⟩ : ByteArray)) c32)), (20, (iv ((splitP p0 (⟨#[32]⟩ : ByteArray)).length : Int))), (21, (iv t.1.2))]) (fun n t w1 => St NoS w w1 [cel ⟨2, 0, none⟩ (iv mG)] [rowO 40 enc_Tile t.2.1 t.2.2 t.1.1, rowO 9 encStr A31 c32 (splitP p0 (⟨#[32]⟩ : ByteArray))] ∧ tile_Parse.l0 n t.1.1 t.1.2 p0 = some x10) k ((([] : List Tile), 0), none, 0) [0, 4, 19, 20, 21] rfl ⟨(hS3.subR [0]).sub [0, 1] (by decide), hx11⟩ ?_
  rintro k12 ⟨⟨l6, x7⟩, A4, c5⟩ w13 ⟨hS14, hl15⟩
  cases k12 with
  | zero => rw [tile_Parse.l0] at hl15; cases hl15
  | succ k12 =>
   rw [tile_Parse.l0] at hl15
   refine WC.seq (WC.region ?_)
   refine seg 1 [] [0, 4, 19, 20, 21, 22] [(0, (.string p0)), (4, (sv A4 l6 c5)), (19, (sv A31 (splitP p0 (⟨#[32]⟩ : ByteArray)) c32)), (20, (iv ((splitP p0 (⟨#[32]⟩ : ByteArray)).length : Int))), (21, (iv x7)), (22, (bv (decide (x7 < ((splitP p0 (⟨#[32]⟩ : ByteArray)).length : Int)))))] [] (fun fb => by kernel_rfl) rfl trivial ?_
   refine WL.done rfl (WX.next (WC.seq ?_))
   rcases br_some hl15 with ⟨h16, hl15⟩ | ⟨h16, hl15⟩
   ·refine WC.condT2 (fun fb => by kernel_rfl) h16 ?_
    refine WC.skip (WX.next (WC.seq (WC.block (WC.seq (WC.region ?_)))))
    obtain ⟨h17, hl15⟩ := as_some hl15
    refine seg 3 [.v (.string (rdD (splitP p0 (⟨#[32]⟩ : ByteArray)) x7 ByteArray.empty))] [0, 4, 6, 19, 20, 21] [(0, (.string p0)), (4, (sv A4 l6 c5)), (6, (.string (rdD (splitP p0 (⟨#[32]⟩ : ByteArray)) x7 ByteArray.empty))), (19, (sv A31 (splitP p0 (⟨#[32]⟩ : ByteArray)) c32)), (20, (iv ((splitP p0 (⟨#[32]⟩ : ByteArray)).length : Int))), (21, (iv x7))] [.idx A31 x7 (splitP p0 (⟨#[32]⟩ : ByteArray)).length, .cell ((adr A31).add ((x7).toNat * 1)) (.string (rdD (splitP p0 (⟨#[32]⟩ : ByteArray)) x7 ByteArray.empty))] (fun fb => by kernel_rfl) rfl ⟨rowR.adr (rowO.rd (hS14.own 1).1) h17.1 h17.2, rowR.cell (rowO.rd (hS14.own 1).1) ByteArray.empty h17.1 h17.2 0 rfl, trivial⟩ ?_
    refine WL.done rfl (WX.next (WC.seq (WC.region ?_)))
    refine seg 1 [] [0, 4, 19, 20, 21, 25] [(0, (.string p0)), (4, (sv A4 l6 c5)), (19, (sv A31 (splitP p0 (⟨#[32]⟩ : ByteArray)) c32)), (20, (iv ((splitP p0 (⟨#[32]⟩ : ByteArray)).length : Int))), (21, (iv x7)), (25, (.string (rdD (splitP p0 (⟨#[32]⟩ : ByteArray)) x7 ByteArray.empty)))] [] (fun fb => by kernel_rfl) rfl trivial ?_
    obtain ⟨h21, hl15⟩ := as_some hl15
    refine WL.call (some 26) 77 #[(.string (rdD (splitP p0 (⟨#[32]⟩ : ByteArray)) x7 ByteArray.empty)), (.string (⟨#[46]⟩ : ByteArray))] (fun fb => by kernel_rfl) (split_calls Tryd.strings_Split (rdD (splitP p0 (⟨#[32]⟩ : ByteArray)) x7 ByteArray.empty) (⟨#[46]⟩ : ByteArray) mG _ (hS14.rd 0) h21) (fun v w19 hR18 => ?_)
    obtain ⟨A22, c33, rfl, hk_⟩ := hR18
    have hS20 := hS29.go w19 [rowO 9 encStr A22 c33 (splitP (rdD (splitP p0 (⟨#[32]⟩ : ByteArray)) x7 ByteArray.empty) (⟨#[46]⟩ : ByteArray)), rowO 40 enc_Tile A4 c5 l6, rowO 9 encStr A31 c32 (splitP p0 (⟨#[32]⟩ : ByteArray))] (hS14.call hk_ [] [0, 1] (fun g hg => hg.elim) (by simp) (by decide))
    refine ⟨trivial, ?_⟩
    refine seg 3 [] [0, 4, 7, 19, 20, 21] [(0, (.string p0)), (4, (sv A4 l6 c5)), (7, (sv A22 (splitP (rdD (splitP p0 (⟨#[32]⟩ : ByteArray)) x7 ByteArray.empty) (⟨#[46]⟩ : ByteArray)) c33)), (19, (sv A31 (splitP p0 (⟨#[32]⟩ : ByteArray)) c32)), (20, (iv ((splitP p0 (⟨#[32]⟩ : ByteArray)).length : Int))), (21, (iv x7))] [] (fun fb => by kernel_rfl) rfl trivial ?_
    refine WL.done rfl (WX.next (WC.seq (WC.seq (WC.region ?_))))
    refine seg 4 [] [0, 4, 7, 19, 20, 21, 30] [(0, (.string p0)), (4, (sv A4 l6 c5)), (7, (sv A22 (splitP (rdD (splitP p0 (⟨#[32]⟩ : ByteArray)) x7 ByteArray.empty) (⟨#[46]⟩ : ByteArray)) c33)), (19, (sv A31 (splitP p0 (⟨#[32]⟩ : ByteArray)) c32)), (20, (iv ((splitP p0 (⟨#[32]⟩ : ByteArray)).length : Int))), (21, (iv x7)), (30, (bv (((splitP (rdD (splitP p0 (⟨#[32]⟩ : ByteArray)) x7 ByteArray.empty) (⟨#[46]⟩ : ByteArray)).length : Int) != 4)))] [] (fun fb => by kernel_rfl) rfl trivial ?_
    refine WL.cutV (T := Bool) 8 (fun t => [(34, (bv t)), (0, (.string p0)), (4, (sv A4 l6 c5)), (7, (sv A22 (splitP (rdD (splitP p0 (⟨#[32]⟩ : ByteArray)) x7 ByteArray.empty) (⟨#[46]⟩ : ByteArray)) c33)), (19, (sv A31 (splitP p0 (⟨#[32]⟩ : ByteArray)) c32)), (20, (iv ((splitP p0 (⟨#[32]⟩ : ByteArray)).length : Int))), (21, (iv x7))]) (fun t => ((((splitP (rdD (splitP p0 (⟨#[32]⟩ : ByteArray)) x7 ByteArray.empty) (⟨#[46]⟩ : ByteArray)).length : Int) != 4) || (decide ((l6.length : Int) > 1000))) = t) (fun K => ?_) ?_
    ·
     rcases Bool.eq_false_or_eq_true (((splitP (rdD (splitP p0 (⟨#[32]⟩ : ByteArray)) x7 ByteArray.empty) (⟨#[46]⟩ : ByteArray)).length : Int) != 4) with h34 | h34
     ·
      refine WL.setB 30 h34 rfl ?_
      refine seg 8 [] [0, 4, 7, 19, 20, 21, 34] [(0, (.string p0)), (4, (sv A4 l6 c5)), (7, (sv A22 (splitP (rdD (splitP p0 (⟨#[32]⟩ : ByteArray)) x7 ByteArray.empty) (⟨#[46]⟩ : ByteArray)) c33)), (19, (sv A31 (splitP p0 (⟨#[32]⟩ : ByteArray)) c32)), (20, (iv ((splitP p0 (⟨#[32]⟩ : ByteArray)).length : Int))), (21, (iv x7)), (34, (bv true))] [] (fun fb => by kernel_rfl) rfl trivial ?_
      exact WL.toV K true [34, 0, 4, 7, 19, 20, 21] rfl (by first | (rw [h34]; done) | (rw [h34]; rfl))
     refine WL.setB 30 h34 rfl ?_
     refine seg 8 [] [0, 4, 7, 19, 20, 21, 34] [(0, (.string p0)), (4, (sv A4 l6 c5)), (7, (sv A22 (splitP (rdD (splitP p0 (⟨#[32]⟩ : ByteArray)) x7 ByteArray.empty) (⟨#[46]⟩ : ByteArray)) c33)), (19, (sv A31 (splitP p0 (⟨#[32]⟩ : ByteArray)) c32)), (20, (iv ((splitP p0 (⟨#[32]⟩ : ByteArray)).length : Int))), (21, (iv x7)), (34, (bv (decide ((l6.length : Int) > 1000))))] [] (fun fb => by kernel_rfl) rfl trivial ?_
     exact WL.toV K (decide ((l6.length : Int) > 1000)) [34, 0, 4, 7, 19, 20, 21] rfl (by first | (rw [h34]; done) | (rw [h34]; rfl))
    rintro b35 rfl
    refine WL.done rfl (WX.next ?_)
    rcases br_some hl15 with ⟨h36, hl15⟩ | ⟨h36, hl15⟩
    ·refine WC.condT2 (fun fb => by kernel_rfl) h36 ?_
     refine WC.seq (WC.region ?_)
     refine seg 2 [] [2, 3] [(2, (.slice none 0 0)), (3, (iv 3))] [] (fun fb => by kernel_rfl) rfl trivial ?_
     refine WL.done rfl (WX.next ?_)
     refine WC.ret ?_
     have hS37 := hS20.nilrow 40 enc_Tile
     injection hl15 with hl15
     subst hl15
     injection hf with hf
     subst hf
     exact WX.thenR (WX.blockR (WX.thenR (WX.thenR (WX.blockR (WX.thenR (WX.ret_ [] (.tuple #[(sv none ([] : List Tile) 0), (iv 3)]) [] (fun fb => by kernel_rfl) trivial ⟨_, rfl, none, 0, rfl, (hS37.sub [0] (by decide)).noR⟩))))))
    refine WC.condF2 (fun fb => by kernel_rfl) h36 ?_
    refine WC.skip (WX.next (WC.seq (WC.region ?_)))
    refine WL.new hS20 8 [] (fun g => (pt g)) (.cells #[(iv 0), (iv 0), (iv 0), (iv 0)] 108 (0, 0)) [] (fun fb g => by kernel_rfl) trivial (fun g38 w39 hS40 => ?_)
    refine ⟨trivial, ?_⟩
    refine WL.done rfl (WX.next (WC.seq (WC.seq (WC.region ?_))))
    refine seg 3 [] [0, 4, 8, 19, 20, 21, 35, 36, 37] [(0, (.string p0)), (4, (sv A4 l6 c5)), (8, (pt g38)), (19, (sv A31 (splitP p0 (⟨#[32]⟩ : ByteArray)) c32)), (20, (iv ((splitP p0 (⟨#[32]⟩ : ByteArray)).length : Int))), (21, (iv x7)), (35, (sv A22 (splitP (rdD (splitP p0 (⟨#[32]⟩ : ByteArray)) x7 ByteArray.empty) (⟨#[46]⟩ : ByteArray)) c33)), (36, (iv ((splitP (rdD (splitP p0 (⟨#[32]⟩ : ByteArray)) x7 ByteArray.empty) (⟨#[46]⟩ : ByteArray)).length : Int))), (37, (iv 0))] [] (fun fb => by kernel_rfl) rfl trivial ?_
    refine WL.done rfl (WX.next ?_)
    obtain ⟨x46, hx47, hl15⟩ := bind_some hl15
    refine WC.cutN (T := Int × Int × Int × Int) (fun t => [(0, (.string p0)), (4, (sv A4 l6 c5)), (8, (pt g38)), (19, (sv A31 (splitP p0 (⟨#[32]⟩ : ByteArray)) c32)), (20, (iv ((splitP p0 (⟨#[32]⟩ : ByteArray)).length : Int))), (21, (iv x7))]) (fun t w1 => St NoS w w1 [cel ⟨2, 0, none⟩ (iv mG)] [rowO 40 enc_Tile A4 c5 l6, blk g38 (.cells #[(iv t.1), (iv t.2.1), (iv t.2.2.1), (iv t.2.2.2)] 108 (0, 0)), rowO 9 encStr A31 c32 (splitP p0 (⟨#[32]⟩ : ByteArray))] ∧ x46 = t) (fun Kx46 => ?_) ?_
    ·
     refine WC.block ?_
     refine WC.loop (T := Int × Int × Int × Int × Int) (fun t => [(0, (.string p0)), (4, (sv A4 l6 c5)), (8, (pt g38)), (19, (sv A31 (splitP p0 (⟨#[32]⟩ : ByteArray)) c32)), (20, (iv ((splitP p0 (⟨#[32]⟩ : ByteArray)).length : Int))), (21, (iv x7)), (35, (sv A22 (splitP (rdD (splitP p0 (⟨#[32]⟩ : ByteArray)) x7 ByteArray.empty) (⟨#[46]⟩ : ByteArray)) c33)), (36, (iv ((splitP (rdD (splitP p0 (⟨#[32]⟩ : ByteArray)) x7 ByteArray.empty) (⟨#[46]⟩ : ByteArray)).length : Int))), (37, (iv t.2.2.2.2))]) (fun n t w1 => St NoS w w1 [cel ⟨2, 0, none⟩ (iv mG)] [rowO 40 enc_Tile A4 c5 l6, blk g38 (.cells #[(iv t.1), (iv t.2.1), (iv t.2.2.1), (iv t.2.2.2.1)] 108 (0, 0)), rowO 9 encStr A31 c32 (splitP p0 (⟨#[32]⟩ : ByteArray)), rowO 9 encStr A22 c33 (splitP (rdD (splitP p0 (⟨#[32]⟩ : ByteArray)) x7 ByteArray.empty) (⟨#[46]⟩ : ByteArray))] ∧ tile_Parse.l1 n t.1 t.2.1 t.2.2.1 t.2.2.2.1 t.2.2.2.2 p0 x7 = some x46) k12 (0, 0, 0, 0, 0) [0, 4, 8, 19, 20, 21, 35, 36, 37] rfl ⟨(hS40.subR [0]).sub [2, 0, 3, 1] (by decide), hx47⟩ ?_
     rintro k48 ⟨x41, x42, x43, x44, x45⟩ w50 ⟨hS51, hl52⟩
     cases k48 with
     | zero => rw [tile_Parse.l1] at hl52; cases hl52
     | succ k48 =>
      rw [tile_Parse.l1] at hl52
      refine WC.seq (WC.region ?_)
      refine seg 1 [] [0, 4, 8, 19, 20, 21, 35, 36, 37, 38] [(0, (.string p0)), (4, (sv A4 l6 c5)), (8, (pt g38)), (19, (sv A31 (splitP p0 (⟨#[32]⟩ : ByteArray)) c32)), (20, (iv ((splitP p0 (⟨#[32]⟩ : ByteArray)).length : Int))), (21, (iv x7)), (35, (sv A22 (splitP (rdD (splitP p0 (⟨#[32]⟩ : ByteArray)) x7 ByteArray.empty) (⟨#[46]⟩ : ByteArray)) c33)), (36, (iv ((splitP (rdD (splitP p0 (⟨#[32]⟩ : ByteArray)) x7 ByteArray.empty) (⟨#[46]⟩ : ByteArray)).length : Int))), (37, (iv x45)), (38, (bv (decide (x45 < ((splitP (rdD (splitP p0 (⟨#[32]⟩ : ByteArray)) x7 ByteArray.empty) (⟨#[46]⟩ : ByteArray)).length : Int)))))] [] (fun fb => by kernel_rfl) rfl trivial ?_
      refine WL.done rfl (WX.next (WC.seq ?_))
      rcases br_some hl52 with ⟨h53, hl52⟩ | ⟨h53, hl52⟩
      ·refine WC.condT2 (fun fb => by kernel_rfl) h53 ?_
       refine WC.skip (WX.next (WC.seq (WC.block (WC.seq (WC.region ?_)))))
       refine seg 1 [] [0, 4, 8, 19, 20, 21, 35, 36, 37, 39] [(0, (.string p0)), (4, (sv A4 l6 c5)), (8, (pt g38)), (19, (sv A31 (splitP p0 (⟨#[32]⟩ : ByteArray)) c32)), (20, (iv ((splitP p0 (⟨#[32]⟩ : ByteArray)).length : Int))), (21, (iv x7)), (35, (sv A22 (splitP (rdD (splitP p0 (⟨#[32]⟩ : ByteArray)) x7 ByteArray.empty) (⟨#[46]⟩ : ByteArray)) c33)), (36, (iv ((splitP (rdD (splitP p0 (⟨#[32]⟩ : ByteArray)) x7 ByteArray.empty) (⟨#[46]⟩ : ByteArray)).length : Int))), (37, (iv x45)), (39, (iv x45))] [] (fun fb => by kernel_rfl) rfl trivial ?_
       obtain ⟨h54, hl52⟩ := as_some hl52
       refine seg 5 [.v (.string (rdD (splitP (rdD (splitP p0 (⟨#[32]⟩ : ByteArray)) x7 ByteArray.empty) (⟨#[46]⟩ : ByteArray)) x45 ByteArray.empty))] [0, 4, 8, 9, 10, 19, 20, 21, 35, 36, 37] [(0, (.string p0)), (4, (sv A4 l6 c5)), (8, (pt g38)), (9, (iv x45)), (10, (.string (rdD (splitP (rdD (splitP p0 (⟨#[32]⟩ : ByteArray)) x7 ByteArray.empty) (⟨#[46]⟩ : ByteArray)) x45 ByteArray.empty))), (19, (sv A31 (splitP p0 (⟨#[32]⟩ : ByteArray)) c32)), (20, (iv ((splitP p0 (⟨#[32]⟩ : ByteArray)).length : Int))), (21, (iv x7)), (35, (sv A22 (splitP (rdD (splitP p0 (⟨#[32]⟩ : ByteArray)) x7 ByteArray.empty) (⟨#[46]⟩ : ByteArray)) c33)), (36, (iv ((splitP (rdD (splitP p0 (⟨#[32]⟩ : ByteArray)) x7 ByteArray.empty) (⟨#[46]⟩ : ByteArray)).length : Int))), (37, (iv x45))] [.idx A22 x45 (splitP (rdD (splitP p0 (⟨#[32]⟩ : ByteArray)) x7 ByteArray.empty) (⟨#[46]⟩ : ByteArray)).length, .cell ((adr A22).add ((x45).toNat * 1)) (.string (rdD (splitP (rdD (splitP p0 (⟨#[32]⟩ : ByteArray)) x7 ByteArray.empty) (⟨#[46]⟩ : ByteArray)) x45 ByteArray.empty))] (fun fb => by kernel_rfl) rfl ⟨rowR.adr (rowO.rd (hS51.own 3).1) h54.1 h54.2, rowR.cell (rowO.rd (hS51.own 3).1) ByteArray.empty h54.1 h54.2 0 rfl, trivial⟩ ?_
       refine WL.done rfl (WX.next (WC.seq (WC.region ?_)))
       refine seg 1 [] [0, 4, 8, 9, 19, 20, 21, 35, 36, 37, 43] [(0, (.string p0)), (4, (sv A4 l6 c5)), (8, (pt g38)), (9, (iv x45)), (19, (sv A31 (splitP p0 (⟨#[32]⟩ : ByteArray)) c32)), (20, (iv ((splitP p0 (⟨#[32]⟩ : ByteArray)).length : Int))), (21, (iv x7)), (35, (sv A22 (splitP (rdD (splitP p0 (⟨#[32]⟩ : ByteArray)) x7 ByteArray.empty) (⟨#[46]⟩ : ByteArray)) c33)), (36, (iv ((splitP (rdD (splitP p0 (⟨#[32]⟩ : ByteArray)) x7 ByteArray.empty) (⟨#[46]⟩ : ByteArray)).length : Int))), (37, (iv x45)), (43, (.string (rdD (splitP (rdD (splitP p0 (⟨#[32]⟩ : ByteArray)) x7 ByteArray.empty) (⟨#[46]⟩ : ByteArray)) x45 ByteArray.empty)))] [] (fun fb => by kernel_rfl) rfl trivial ?_
       obtain ⟨t58, ht59, hl52⟩ := bind_some hl52
       refine WL.call (some 44) 78 #[(.string (rdD (splitP (rdD (splitP p0 (⟨#[32]⟩ : ByteArray)) x7 ByteArray.empty) (⟨#[46]⟩ : ByteArray)) x45 ByteArray.empty))] (fun fb => by kernel_rfl) (atoi_calls Tryd.strconv_Atoi_ok (rdD (splitP (rdD (splitP p0 (⟨#[32]⟩ : ByteArray)) x7 ByteArray.empty) (⟨#[46]⟩ : ByteArray)) x45 ByteArray.empty) t58 _ ht59) (fun v w56 hR55 => ?_)
       obtain ⟨rfl, hk_⟩ := hR55
       have hS57 := hS51.keepN hk_
       refine ⟨trivial, ?_⟩
       refine seg 7 [] [0, 4, 8, 9, 11, 12, 19, 20, 21, 35, 36, 37] [(0, (.string p0)), (4, (sv A4 l6 c5)), (8, (pt g38)), (9, (iv x45)), (11, (iv t58)), (12, .nilIface), (19, (sv A31 (splitP p0 (⟨#[32]⟩ : ByteArray)) c32)), (20, (iv ((splitP p0 (⟨#[32]⟩ : ByteArray)).length : Int))), (21, (iv x7)), (35, (sv A22 (splitP (rdD (splitP p0 (⟨#[32]⟩ : ByteArray)) x7 ByteArray.empty) (⟨#[46]⟩ : ByteArray)) c33)), (36, (iv ((splitP (rdD (splitP p0 (⟨#[32]⟩ : ByteArray)) x7 ByteArray.empty) (⟨#[46]⟩ : ByteArray)).length : Int))), (37, (iv x45))] [] (fun fb => by kernel_rfl) rfl trivial ?_
       refine WL.done rfl (WX.next (WC.seq (WC.seq (WC.region ?_))))
       refine seg 2 [] [0, 4, 8, 9, 11, 19, 20, 21, 35, 36, 37, 48] [(0, (.string p0)), (4, (sv A4 l6 c5)), (8, (pt g38)), (9, (iv x45)), (11, (iv t58)), (19, (sv A31 (splitP p0 (⟨#[32]⟩ : ByteArray)) c32)), (20, (iv ((splitP p0 (⟨#[32]⟩ : ByteArray)).length : Int))), (21, (iv x7)), (35, (sv A22 (splitP (rdD (splitP p0 (⟨#[32]⟩ : ByteArray)) x7 ByteArray.empty) (⟨#[46]⟩ : ByteArray)) c33)), (36, (iv ((splitP (rdD (splitP p0 (⟨#[32]⟩ : ByteArray)) x7 ByteArray.empty) (⟨#[46]⟩ : ByteArray)).length : Int))), (37, (iv x45)), (48, (bv false))] [] (fun fb => by kernel_rfl) rfl trivial ?_
       refine WL.done rfl (WX.next ?_)
       refine WC.condF (fun fb => by kernel_rfl) ?_
       refine WC.skip (WX.next (WC.region ?_))
       refine seg 2 [] [0, 4, 8, 19, 20, 21, 35, 36, 37, 49, 50] [(0, (.string p0)), (4, (sv A4 l6 c5)), (8, (pt g38)), (19, (sv A31 (splitP p0 (⟨#[32]⟩ : ByteArray)) c32)), (20, (iv ((splitP p0 (⟨#[32]⟩ : ByteArray)).length : Int))), (21, (iv x7)), (35, (sv A22 (splitP (rdD (splitP p0 (⟨#[32]⟩ : ByteArray)) x7 ByteArray.empty) (⟨#[46]⟩ : ByteArray)) c33)), (36, (iv ((splitP (rdD (splitP p0 (⟨#[32]⟩ : ByteArray)) x7 ByteArray.empty) (⟨#[46]⟩ : ByteArray)).length : Int))), (37, (iv x45)), (49, (iv x45)), (50, (iv t58))] [] (fun fb => by kernel_rfl) rfl trivial ?_
       rcases br_some hl52 with ⟨h60, hl52⟩ | ⟨h60, hl52⟩
       ·
        refine WL.setI 49 (eq_of_beq h60) rfl ?_
        refine seg 3 [] [0, 4, 8, 19, 20, 21, 35, 36, 37, 50, 51] [(0, (.string p0)), (4, (sv A4 l6 c5)), (8, (pt g38)), (19, (sv A31 (splitP p0 (⟨#[32]⟩ : ByteArray)) c32)), (20, (iv ((splitP p0 (⟨#[32]⟩ : ByteArray)).length : Int))), (21, (iv x7)), (35, (sv A22 (splitP (rdD (splitP p0 (⟨#[32]⟩ : ByteArray)) x7 ByteArray.empty) (⟨#[46]⟩ : ByteArray)) c33)), (36, (iv ((splitP (rdD (splitP p0 (⟨#[32]⟩ : ByteArray)) x7 ByteArray.empty) (⟨#[46]⟩ : ByteArray)).length : Int))), (37, (iv x45)), (50, (iv t58)), (51, (pt g38))] [] (fun fb => by kernel_rfl) rfl trivial ?_
        refine WL.store hS57 1 rfl [(0, (iv t58))] #[(iv t58), (iv x42), (iv x43), (iv x44)] (fun fb => by kernel_rfl) (by kernel_rfl) rfl [0, 2, 3] (by decide) (by decide) (fun w61 hS62 => ?_)
        refine ⟨trivial, ?_⟩
        refine WL.done rfl ?_
        refine WX.blockN (WX.next ?_)
        refine WC.region ?_
        refine seg 2 [] [0, 4, 8, 19, 20, 21, 35, 36, 37] [(0, (.string p0)), (4, (sv A4 l6 c5)), (8, (pt g38)), (19, (sv A31 (splitP p0 (⟨#[32]⟩ : ByteArray)) c32)), (20, (iv ((splitP p0 (⟨#[32]⟩ : ByteArray)).length : Int))), (21, (iv x7)), (35, (sv A22 (splitP (rdD (splitP p0 (⟨#[32]⟩ : ByteArray)) x7 ByteArray.empty) (⟨#[46]⟩ : ByteArray)) c33)), (36, (iv ((splitP (rdD (splitP p0 (⟨#[32]⟩ : ByteArray)) x7 ByteArray.empty) (⟨#[46]⟩ : ByteArray)).length : Int))), (37, (iv (w64 (x45 + 1))))] [] (fun fb => by kernel_rfl) rfl trivial ?_
        refine WL.done rfl ?_
        exact WX.again k48 (Nat.lt_succ_self _) (t58, x42, x43, x44, w64 (x45 + 1)) [0, 4, 8, 19, 20, 21, 35, 36, 37] rfl ⟨(hS62.subR [0]).sub [1, 0, 2, 3] (by decide), hl52⟩
       rcases br_some hl52 with ⟨h63, hl52⟩ | ⟨h63, hl52⟩
       ·
        refine WL.setI 49 (eq_of_beq h63) rfl ?_
        refine seg 3 [] [0, 4, 8, 19, 20, 21, 35, 36, 37, 50, 51] [(0, (.string p0)), (4, (sv A4 l6 c5)), (8, (pt g38)), (19, (sv A31 (splitP p0 (⟨#[32]⟩ : ByteArray)) c32)), (20, (iv ((splitP p0 (⟨#[32]⟩ : ByteArray)).length : Int))), (21, (iv x7)), (35, (sv A22 (splitP (rdD (splitP p0 (⟨#[32]⟩ : ByteArray)) x7 ByteArray.empty) (⟨#[46]⟩ : ByteArray)) c33)), (36, (iv ((splitP (rdD (splitP p0 (⟨#[32]⟩ : ByteArray)) x7 ByteArray.empty) (⟨#[46]⟩ : ByteArray)).length : Int))), (37, (iv x45)), (50, (iv t58)), (51, (.pointer (some ⟨g38, 1, none⟩)))] [] (fun fb => by kernel_rfl) rfl trivial ?_
        refine WL.store hS57 1 rfl [(1, (iv t58))] #[(iv x41), (iv t58), (iv x43), (iv x44)] (fun fb => by kernel_rfl) (by kernel_rfl) rfl [0, 2, 3] (by decide) (by decide) (fun w65 hS66 => ?_)
        refine ⟨trivial, ?_⟩
        refine WL.done rfl ?_
        refine WX.blockN (WX.next ?_)
        refine WC.region ?_
        refine seg 2 [] [0, 4, 8, 19, 20, 21, 35, 36, 37] [(0, (.string p0)), (4, (sv A4 l6 c5)), (8, (pt g38)), (19, (sv A31 (splitP p0 (⟨#[32]⟩ : ByteArray)) c32)), (20, (iv ((splitP p0 (⟨#[32]⟩ : ByteArray)).length : Int))), (21, (iv x7)), (35, (sv A22 (splitP (rdD (splitP p0 (⟨#[32]⟩ : ByteArray)) x7 ByteArray.empty) (⟨#[46]⟩ : ByteArray)) c33)), (36, (iv ((splitP (rdD (splitP p0 (⟨#[32]⟩ : ByteArray)) x7 ByteArray.empty) (⟨#[46]⟩ : ByteArray)).length : Int))), (37, (iv (w64 (x45 + 1))))] [] (fun fb => by kernel_rfl) rfl trivial ?_
        refine WL.done rfl ?_
        exact WX.again k48 (Nat.lt_succ_self _) (x41, t58, x43, x44, w64 (x45 + 1)) [0, 4, 8, 19, 20, 21, 35, 36, 37] rfl ⟨(hS66.subR [0]).sub [1, 0, 2, 3] (by decide), hl52⟩
       rcases br_some hl52 with ⟨h67, hl52⟩ | ⟨h67, hl52⟩
       ·
        refine WL.setI 49 (eq_of_beq h67) rfl ?_
        refine seg 3 [] [0, 4, 8, 19, 20, 21, 35, 36, 37, 50, 51] [(0, (.string p0)), (4, (sv A4 l6 c5)), (8, (pt g38)), (19, (sv A31 (splitP p0 (⟨#[32]⟩ : ByteArray)) c32)), (20, (iv ((splitP p0 (⟨#[32]⟩ : ByteArray)).length : Int))), (21, (iv x7)), (35, (sv A22 (splitP (rdD (splitP p0 (⟨#[32]⟩ : ByteArray)) x7 ByteArray.empty) (⟨#[46]⟩ : ByteArray)) c33)), (36, (iv ((splitP (rdD (splitP p0 (⟨#[32]⟩ : ByteArray)) x7 ByteArray.empty) (⟨#[46]⟩ : ByteArray)).length : Int))), (37, (iv x45)), (50, (iv t58)), (51, (.pointer (some ⟨g38, 2, none⟩)))] [] (fun fb => by kernel_rfl) rfl trivial ?_
        refine WL.store hS57 1 rfl [(2, (iv t58))] #[(iv x41), (iv x42), (iv t58), (iv x44)] (fun fb => by kernel_rfl) (by kernel_rfl) rfl [0, 2, 3] (by decide) (by decide) (fun w68 hS69 => ?_)
        refine ⟨trivial, ?_⟩
        refine WL.done rfl ?_
        refine WX.blockN (WX.next ?_)
        refine WC.region ?_
        refine seg 2 [] [0, 4, 8, 19, 20, 21, 35, 36, 37] [(0, (.string p0)), (4, (sv A4 l6 c5)), (8, (pt g38)), (19, (sv A31 (splitP p0 (⟨#[32]⟩ : ByteArray)) c32)), (20, (iv ((splitP p0 (⟨#[32]⟩ : ByteArray)).length : Int))), (21, (iv x7)), (35, (sv A22 (splitP (rdD (splitP p0 (⟨#[32]⟩ : ByteArray)) x7 ByteArray.empty) (⟨#[46]⟩ : ByteArray)) c33)), (36, (iv ((splitP (rdD (splitP p0 (⟨#[32]⟩ : ByteArray)) x7 ByteArray.empty) (⟨#[46]⟩ : ByteArray)).length : Int))), (37, (iv (w64 (x45 + 1))))] [] (fun fb => by kernel_rfl) rfl trivial ?_
        refine WL.done rfl ?_
        exact WX.again k48 (Nat.lt_succ_self _) (x41, x42, t58, x44, w64 (x45 + 1)) [0, 4, 8, 19, 20, 21, 35, 36, 37] rfl ⟨(hS69.subR [0]).sub [1, 0, 2, 3] (by decide), hl52⟩
       rcases br_some hl52 with ⟨h70, hl52⟩ | ⟨h70, hl52⟩
       ·
        refine WL.setI 49 (eq_of_beq h70) rfl ?_
        refine seg 3 [] [0, 4, 8, 19, 20, 21, 35, 36, 37, 50, 51] [(0, (.string p0)), (4, (sv A4 l6 c5)), (8, (pt g38)), (19, (sv A31 (splitP p0 (⟨#[32]⟩ : ByteArray)) c32)), (20, (iv ((splitP p0 (⟨#[32]⟩ : ByteArray)).length : Int))), (21, (iv x7)), (35, (sv A22 (splitP (rdD (splitP p0 (⟨#[32]⟩ : ByteArray)) x7 ByteArray.empty) (⟨#[46]⟩ : ByteArray)) c33)), (36, (iv ((splitP (rdD (splitP p0 (⟨#[32]⟩ : ByteArray)) x7 ByteArray.empty) (⟨#[46]⟩ : ByteArray)).length : Int))), (37, (iv x45)), (50, (iv t58)), (51, (.pointer (some ⟨g38, 3, none⟩)))] [] (fun fb => by kernel_rfl) rfl trivial ?_
        refine WL.store hS57 1 rfl [(3, (iv t58))] #[(iv x41), (iv x42), (iv x43), (iv t58)] (fun fb => by kernel_rfl) (by kernel_rfl) rfl [0, 2, 3] (by decide) (by decide) (fun w71 hS72 => ?_)
        refine ⟨trivial, ?_⟩
        refine WL.done rfl ?_
        refine WX.blockN (WX.next ?_)
        refine WC.region ?_
        refine seg 2 [] [0, 4, 8, 19, 20, 21, 35, 36, 37] [(0, (.string p0)), (4, (sv A4 l6 c5)), (8, (pt g38)), (19, (sv A31 (splitP p0 (⟨#[32]⟩ : ByteArray)) c32)), (20, (iv ((splitP p0 (⟨#[32]⟩ : ByteArray)).length : Int))), (21, (iv x7)), (35, (sv A22 (splitP (rdD (splitP p0 (⟨#[32]⟩ : ByteArray)) x7 ByteArray.empty) (⟨#[46]⟩ : ByteArray)) c33)), (36, (iv ((splitP (rdD (splitP p0 (⟨#[32]⟩ : ByteArray)) x7 ByteArray.empty) (⟨#[46]⟩ : ByteArray)).length : Int))), (37, (iv (w64 (x45 + 1))))] [] (fun fb => by kernel_rfl) rfl trivial ?_
        refine WL.done rfl ?_
        exact WX.again k48 (Nat.lt_succ_self _) (x41, x42, x43, t58, w64 (x45 + 1)) [0, 4, 8, 19, 20, 21, 35, 36, 37] rfl ⟨(hS72.subR [0]).sub [1, 0, 2, 3] (by decide), hl52⟩
       cases hl52
      refine WC.condF2 (fun fb => by kernel_rfl) h53 ?_
      refine WC.exit ?_
      injection hl52 with hl52
      exact WX.thenX (WX.thenX (WX.blockHere (WX.to Kx46 (x41, x42, x43, x44) [0, 4, 8, 19, 20, 21] rfl ⟨(hS51.subR [0]).sub [0, 1, 2] (by decide), hl52.symm⟩)))
    rintro y76 w73 ⟨hS74, hq75⟩
    subst hq75
    refine WX.next (WC.region ?_)
    refine seg 10 [.v (iv x46.1), .v (iv x46.2.1), .v (iv x46.2.2.1), .v (iv x46.2.2.2)] [0, 19, 20, 21, 53, 62] [(0, (.string p0)), (19, (sv A31 (splitP p0 (⟨#[32]⟩ : ByteArray)) c32)), (20, (iv ((splitP p0 (⟨#[32]⟩ : ByteArray)).length : Int))), (21, (iv x7)), (53, (sv A4 l6 c5)), (62, (.agg #[(iv x46.1), (iv x46.2.1), (iv x46.2.2.1), (iv x46.2.2.2)]))] [.cell ⟨g38, 0, none⟩ (iv x46.1), .cell ⟨g38, 1, none⟩ (iv x46.2.1), .cell ⟨g38, 2, none⟩ (iv x46.2.2.1), .cell ⟨g38, 3, none⟩ (iv x46.2.2.2)] (fun fb => by kernel_rfl) rfl ⟨hS74.cell 1 rfl 0 rfl, hS74.cell 1 rfl 1 rfl, hS74.cell 1 rfl 2 rfl, hS74.cell 1 rfl 3 rfl, trivial⟩ ?_
    refine WL.new hS74 63 [] (fun g => (.slice (some ⟨g, 0, none⟩) 1 1)) (.cells #[(iv x46.1), (iv x46.2.1), (iv x46.2.2.1), (iv x46.2.2.2)] 40 (0, 0)) [] (fun fb g => by kernel_rfl) trivial (fun g77 w78 hS79 => ?_)
    refine ⟨trivial, ?_⟩
    have hS80 := hS20.go w78 [rowO 40 enc_Tile (some ⟨g77, 0, none⟩) 1 [(Tile.mk x46.1 x46.2.1 x46.2.2.1 x46.2.2.2)], rowO 40 enc_Tile A4 c5 l6, blk g38 (.cells #[(iv x46.1), (iv x46.2.1), (iv x46.2.2.1), (iv x46.2.2.2)] 108 (0, 0)), rowO 9 encStr A31 c32 (splitP p0 (⟨#[32]⟩ : ByteArray))] (hS79.map1 0 _ (fun h => rowO.ofBlk h rfl (Nat.le_of_ble_eq_true (by kernel_rfl))) (fun _ h => by obtain ⟨_, h1, h2⟩ := h; injection h1 with h1; subst h1; exact h2) [1, 2, 3] (by decide) (by decide))
    obtain ⟨h81, hl15⟩ := as_some hl15
    refine WL.append hS80 1 (d := 64) (tS := 22) (z := (.agg #[(iv 0), (iv 0), (iv 0), (iv 0)])) (bytes := 32) (c2 := 1) rfl (fun fb => by kernel_rfl) (rowO.rd (hS80.own 0).1) (by kernel_rfl) (by kernel_rfl) rfl (by decide) h81 (by decide) [0, 2, 3] (by decide) (by decide) (fun A82 c83 w84 hS85 => ?_)
    refine ⟨trivial, ?_⟩
    refine seg 13 [] [0, 4, 19, 20, 21] [(0, (.string p0)), (4, (sv A82 (l6 ++ [(Tile.mk x46.1 x46.2.1 x46.2.2.1 x46.2.2.2)]) c83)), (19, (sv A31 (splitP p0 (⟨#[32]⟩ : ByteArray)) c32)), (20, (iv ((splitP p0 (⟨#[32]⟩ : ByteArray)).length : Int))), (21, (iv x7))] [] (fun fb => by kernel_rfl) rfl trivial ?_
    refine WL.done rfl ?_
    refine WX.blockN (WX.next ?_)
    refine WC.region ?_
    refine seg 2 [] [0, 4, 19, 20, 21] [(0, (.string p0)), (4, (sv A82 (l6 ++ [(Tile.mk x46.1 x46.2.1 x46.2.2.1 x46.2.2.2)]) c83)), (19, (sv A31 (splitP p0 (⟨#[32]⟩ : ByteArray)) c32)), (20, (iv ((splitP p0 (⟨#[32]⟩ : ByteArray)).length : Int))), (21, (iv (w64 (x7 + 1))))] [] (fun fb => by kernel_rfl) rfl trivial ?_
    refine WL.done rfl ?_
    exact WX.again k12 (Nat.lt_succ_self _) ((l6 ++ [(Tile.mk x46.1 x46.2.1 x46.2.2.1 x46.2.2.2)], w64 (x7 + 1)), A82, c83) [0, 4, 19, 20, 21] rfl ⟨(hS85.subR [0]).sub [0, 3] (by decide), hl15⟩
   refine WC.condF2 (fun fb => by kernel_rfl) h16 ?_
   refine WC.exit ?_
   injection hl15 with hl15
   exact WX.thenX (WX.thenX (WX.blockHere (WX.to Kx10 (l6, A4, c5) [0, 4] rfl ⟨(hS14.subR [0]).sub [0] (by decide), hl15.symm⟩)))
 rintro ⟨y89, A8, c9⟩ w86 ⟨hS87, hq88⟩
 subst hq88
 have hf := sum_inr hf
 refine WX.next (WC.seq (WC.seq (WC.region ?_)))
 refine seg 1 [] [0, 4, 66] [(0, (.string p0)), (4, (sv A8 y89 c9)), (66, (sv A8 y89 c9))] [] (fun fb => by kernel_rfl) rfl trivial ?_
 obtain ⟨t90, ht91, hf⟩ := bind_some hf
 refine WL.call (some 67) 52 #[(sv A8 y89 c9)] (fun fb => by kernel_rfl) (tile_Valid_calls _ y89 A8 c9 t90 _ (hS87.ow 0).ofO ht91) (fun v w92 hR93 => ?_)
 obtain ⟨rfl, hk_⟩ := hR93
 have hS94 := hS87.keepN hk_
 refine ⟨trivial, ?_⟩
 refine seg 4 [] [0, 4, 69] [(0, (.string p0)), (4, (sv A8 y89 c9)), (69, (bv (!t90)))] [] (fun fb => by kernel_rfl) rfl trivial ?_
 obtain ⟨x95, hx96, hf⟩ := bind_some hf
 refine WL.cutW (T := Bool) 9 (fun t => [(4, (sv A8 y89 c9)), (74, (bv t))]) (fun t w1 => (St NoS w w1 [cel ⟨2, 0, none⟩ (iv mG)] [rowO 40 enc_Tile A8 c9 y89] ∧ x95 = t) ∧ CellsOK [] w1) (fun K => ?_) ?_
 ·
  rcases br_some hx96 with ⟨h97, hx96⟩ | ⟨h97, hx96⟩
  ·
   refine WL.setB 69 h97 rfl ?_
   refine seg 9 [] [4, 74] [(4, (sv A8 y89 c9)), (74, (bv true))] [] (fun fb => by kernel_rfl) rfl trivial ?_
   injection hx96 with hx96
   exact WL.to K true [4, 74] rfl ⟨⟨(hS94.subR [0]).sub [0] (by decide), hx96.symm⟩, trivial⟩
  refine WL.setB 69 h97 rfl ?_
  refine seg 5 [] [0, 4, 69, 70] [(0, (.string p0)), (4, (sv A8 y89 c9)), (69, (bv false)), (70, (sv A8 y89 c9))] [] (fun fb => by kernel_rfl) rfl trivial ?_
  obtain ⟨t98, ht99, hx96⟩ := bind_some hx96
  refine WL.call (some 71) 79 #[(sv A8 y89 c9)] (fun fb => by kernel_rfl) (tile_write_calls _ y89 A8 c9 t98 _ (hS94.ow 0).ofO ht99) (fun v w100 hR101 => ?_)
  obtain ⟨rfl, hk_⟩ := hR101
  have hS102 := hS94.keepN hk_
  refine ⟨trivial, ?_⟩
  refine seg 7 [] [4, 69, 71, 72] [(4, (sv A8 y89 c9)), (69, (bv false)), (71, (.string t98)), (72, (.string p0))] [] (fun fb => by kernel_rfl) rfl trivial ?_
  refine seg 8 [] [4, 69, 73] [(4, (sv A8 y89 c9)), (69, (bv false)), (73, (bv (!(t98.toList == p0.toList))))] [] (fun fb => by kernel_rfl) rfl trivial ?_
  refine WL.setB 73 (congrArg not (strEq_raw t98 p0)) rfl ?_
  refine seg 9 [] [4, 74] [(4, (sv A8 y89 c9)), (74, (bv (!(strEq t98 p0))))] [] (fun fb => by kernel_rfl) rfl trivial ?_
  injection hx96 with hx96
  exact WL.to K (!(strEq t98 p0)) [4, 74] rfl ⟨⟨(hS102.subR [0]).sub [0] (by decide), hx96.symm⟩, trivial⟩
 rintro y103 w105 ⟨⟨hS106, hq104⟩, hF107⟩
 subst hq104
 refine WL.done rfl (WX.next ?_)
 rcases br_some hf with ⟨h108, hf⟩ | ⟨h108, hf⟩
 ·refine WC.condT2 (fun fb => by kernel_rfl) h108 ?_
  refine WC.seq (WC.region ?_)
  refine seg 2 [] [2, 3] [(2, (.slice none 0 0)), (3, (iv 3))] [] (fun fb => by kernel_rfl) rfl trivial ?_
  refine WL.done rfl (WX.next ?_)
  refine WC.ret ?_
  have hS109 := hS106.nilrow 40 enc_Tile
  injection hf with hf
  subst hf
  exact WX.thenR (WX.ret_ [] (.tuple #[(sv none ([] : List Tile) 0), (iv 3)]) [] (fun fb => by kernel_rfl) trivial ⟨_, rfl, none, 0, rfl, (hS109.sub [0] (by decide)).noR⟩)
 refine WC.condF2 (fun fb => by kernel_rfl) h108 ?_
 refine WC.skip (WX.next (WC.seq (WC.region ?_)))
 refine seg 3 [] [2, 3] [(2, (sv A8 y89 c9)), (3, (iv 0))] [] (fun fb => by kernel_rfl) rfl trivial ?_
 refine WL.done rfl (WX.next ?_)
 refine WC.ret ?_
 injection hf with hf
 subst hf
 exact WX.ret_ [] (.tuple #[(sv A8 y89 c9), (iv 0)]) [] (fun fb => by kernel_rfl) trivial ⟨_, rfl, A8, c9, rfl, (hS106.sub [0] (by decide)).noR⟩
theorem rows_Few_calls (k : Nat) (p0 : List Tile) (p1 : Int) (Aa : Option Addr) (ca : Nat) (r : Bool) (w : World) (hR0 : RO NoS w (rowR enc_Tile Aa ca p0)) (hf : rows_Few k p0 p1 = some r) :
  CallsR Tryd.prog 53 #[(sv Aa p0 ca), (iv p1)] w (fun v w' => v = (bv r) ∧ Keeps NoS w w') := by
 have hS : St NoS w w [rowR enc_Tile Aa ca p0] [] := St.init (ro_cons hR0 (ro_nil _ _))
 refine enter 17 Tryd.func53 rfl Tryd.ntmps53 rfl ?_
 unfold rows_Few at hf
 refine WC.seq (WC.region ?_)
 refine seg 1 [] [0, 1] [(0, (sv Aa p0 ca)), (1, (iv p1))] [] (fun fb => by kernel_rfl) rfl trivial ?_
 refine WL.done rfl (WX.next (WC.seq (WC.region ?_)))
 refine seg 1 [] [0, 1, 5] [(0, (sv Aa p0 ca)), (1, (iv p1)), (5, (iv 1))] [] (fun fb => by kernel_rfl) rfl trivial ?_
 refine WL.done rfl (WX.next (WC.seq (WC.seq (WC.region ?_))))
 refine seg 2 [] [0, 5, 6, 7] [(0, (sv Aa p0 ca)), (5, (iv 1)), (6, (iv p1)), (7, (iv 0))] [] (fun fb => by kernel_rfl) rfl trivial ?_
 refine WL.done rfl (WX.next ?_)
 obtain ⟨x5, hx6, hf⟩ := bind_some hf
 refine WC.cutN (T := Unit) (fun t => []) (fun t w1 => St NoS w w1 [rowR enc_Tile Aa ca p0] [] ∧ x5 = .inr t) (fun Kx5 => ?_) ?_
 ·
  refine WC.block ?_
  refine WC.loop (T := Int × Int) (fun t => [(0, (sv Aa p0 ca)), (5, (iv t.1)), (6, (iv p1)), (7, (iv t.2))]) (fun n t w1 => St NoS w w1 [rowR enc_Tile Aa ca p0] [] ∧ rows_Few.l0 n t.1 t.2 p0 p1 = some x5) k (1, 0) [0, 5, 6, 7] rfl ⟨(hS.subR [0]).sub [] (by decide), hx6⟩ ?_
  rintro k7 ⟨x3, x4⟩ w8 ⟨hS9, hl10⟩
  cases k7 with
  | zero => rw [rows_Few.l0] at hl10; cases hl10
  | succ k7 =>
   rw [rows_Few.l0] at hl10
   refine WC.seq (WC.region ?_)
   refine seg 1 [] [0, 5, 6, 7, 8] [(0, (sv Aa p0 ca)), (5, (iv x3)), (6, (iv p1)), (7, (iv x4)), (8, (bv (decide (x4 < p1))))] [] (fun fb => by kernel_rfl) rfl trivial ?_
   refine WL.done rfl (WX.next (WC.seq ?_))
   rcases br_some hl10 with ⟨h11, hl10⟩ | ⟨h11, hl10⟩
   ·refine WC.condT2 (fun fb => by kernel_rfl) h11 ?_
    refine WC.skip (WX.next (WC.seq (WC.block (WC.seq (WC.region ?_)))))
    refine seg 6 [] [0, 5, 6, 7] [(0, (sv Aa p0 ca)), (5, (iv (w64 (x3 * (maxI (p0.length : Int) 1))))), (6, (iv p1)), (7, (iv x4))] [] (fun fb => by kernel_rfl) rfl trivial ?_
    refine WL.done rfl (WX.next (WC.seq (WC.region ?_)))
    refine seg 2 [] [0, 5, 6, 7, 15] [(0, (sv Aa p0 ca)), (5, (iv (w64 (x3 * (maxI (p0.length : Int) 1))))), (6, (iv p1)), (7, (iv x4)), (15, (bv (decide (w64 (x3 * (maxI (p0.length : Int) 1)) > 5000))))] [] (fun fb => by kernel_rfl) rfl trivial ?_
    refine WL.done rfl (WX.next ?_)
    rcases br_some hl10 with ⟨h12, hl10⟩ | ⟨h12, hl10⟩
    ·refine WC.condT2 (fun fb => by kernel_rfl) h12 ?_
     refine WC.seq (WC.region ?_)
     refine seg 1 [] [4] [(4, (bv false))] [] (fun fb => by kernel_rfl) rfl trivial ?_
     refine WL.done rfl (WX.next ?_)
     refine WC.ret ?_
     injection hl10 with hl10
     subst hl10
     injection hf with hf
     subst hf
     exact WX.blockR (WX.thenR (WX.thenR (WX.blockR (WX.thenR (WX.ret_ [] (bv false) [] (fun fb => by kernel_rfl) trivial ⟨_, rfl, rfl, hS9.keep⟩)))))
    refine WC.condF2 (fun fb => by kernel_rfl) h12 ?_
    refine WC.skip ?_
    refine WX.blockN (WX.next ?_)
    refine WC.region ?_
    refine seg 2 [] [0, 5, 6, 7] [(0, (sv Aa p0 ca)), (5, (iv (w64 (x3 * (maxI (p0.length : Int) 1))))), (6, (iv p1)), (7, (iv (w64 (x4 + 1))))] [] (fun fb => by kernel_rfl) rfl trivial ?_
    refine WL.done rfl ?_
    exact WX.again k7 (Nat.lt_succ_self _) (w64 (x3 * (maxI (p0.length : Int) 1)), w64 (x4 + 1)) [0, 5, 6, 7] rfl ⟨(hS9.subR [0]).sub [] (by decide), hl10⟩
   refine WC.condF2 (fun fb => by kernel_rfl) h11 ?_
   refine WC.exit ?_
   injection hl10 with hl10
   exact WX.thenX (WX.thenX (WX.blockHere (WX.to Kx5 () [] rfl ⟨(hS9.subR [0]).sub [] (by decide), hl10.symm⟩)))
 rintro y16 w13 ⟨hS14, hq15⟩
 subst hq15
 have hf := sum_inr hf
 refine WX.next (WC.seq (WC.region ?_))
 refine seg 1 [] [4] [(4, (bv true))] [] (fun fb => by kernel_rfl) rfl trivial ?_
 refine WL.done rfl (WX.next ?_)
 refine WC.ret ?_
 injection hf with hf
 subst hf
 exact WX.ret_ [] (bv true) [] (fun fb => by kernel_rfl) trivial ⟨_, rfl, rfl, hS14.keep⟩
theorem rows_rowOf_calls (k : Nat) (p0 : List Tile) (p1 : List Int) (Aa : Option Addr) (ca : Nat) (Ab : Option Addr) (cb : Nat) (r : Row) (w : World) (hR0 : RO NoS w (rowR enc_Tile Aa ca p0)) (hR1 : RO NoS w (rowR encInt Ab cb p1)) (hf : rows_rowOf k p0 p1 = some r) :
  CallsR Tryd.prog 98 #[(sv Aa p0 ca), (sv Ab p1 cb)] w (fun v w' => ∃ (A1_ : Option Addr), ∃ (c1_ : Nat), v = (.agg #[(sv A1_ r.Cells c1_), (iv r.South.e0), (iv r.South.e1), (iv r.South.e2), (iv r.South.e3), (iv r.South.e4), (iv r.South.e5), (iv r.South.e6), (iv r.South.e7), (iv r.North.e0), (iv r.North.e1), (iv r.North.e2), (iv r.North.e3), (iv r.North.e4), (iv r.North.e5), (iv r.North.e6), (iv r.North.e7), (iv r.West), (iv r.East)]) ∧ St NoS w w' [] [rowO 3 encInt A1_ c1_ r.Cells]) := by
 have hS : St NoS w w [rowR enc_Tile Aa ca p0, rowR encInt Ab cb p1] [] := St.init (ro_cons hR0 (ro_cons hR1 (ro_nil _ _)))
 refine enter 55 Tryd.func98 rfl Tryd.ntmps98 rfl ?_
 unfold rows_rowOf at hf
 refine WC.seq (WC.region ?_)
 refine WL.new hS 4 [] (fun g => (pt g)) (.cells #[(.slice none 0 0), (iv 0), (iv 0), (iv 0), (iv 0), (iv 0), (iv 0), (iv 0), (iv 0), (iv 0), (iv 0), (iv 0), (iv 0), (iv 0), (iv 0), (iv 0), (iv 0), (iv 0), (iv 0)] 85 (0, 0)) [] (fun fb g => by kernel_rfl) trivial (fun g9 w10 hS11 => ?_)
 refine ⟨trivial, ?_⟩
 refine WL.done rfl (WX.next (WC.seq (WC.region ?_)))
 refine seg 1 [] [0, 1, 4, 8] [(0, (sv Aa p0 ca)), (1, (sv Ab p1 cb)), (4, (pt g9)), (8, (sv Ab p1 cb))] [] (fun fb => by kernel_rfl) rfl trivial ?_
 have hS12 := hS11.nilrow 3 encInt
 obtain ⟨h13, hf⟩ := as_some hf
 refine WL.append hS12 0 (d := 9) (tS := 25) (z := (iv 0)) (bytes := 8) (c2 := cb) rfl (fun fb => by kernel_rfl) (hS12.rd 1).1 (by kernel_rfl) (by kernel_rfl) rfl (by decide) h13 (by decide) [1] (by decide) (by decide) (fun A14 c15 w16 hS17 => ?_)
 refine ⟨trivial, ?_⟩
 refine seg 3 [] [0, 1, 4, 10] [(0, (sv Aa p0 ca)), (1, (sv Ab p1 cb)), (4, (pt g9)), (10, (.agg #[(sv A14 (([] : List Int) ++ p1) c15), (iv 0), (iv 0), (iv 0), (iv 0), (iv 0), (iv 0), (iv 0), (iv 0), (iv 0), (iv 0), (iv 0), (iv 0), (iv 0), (iv 0), (iv 0), (iv 0), (iv 0), (iv 0)]))] [] (fun fb => by kernel_rfl) rfl trivial ?_
 refine WL.new hS17 5 [] (fun g => (pt g)) (.cells #[(.slice none 0 0), (iv 0), (iv 0), (iv 0), (iv 0), (iv 0), (iv 0), (iv 0), (iv 0), (iv 0), (iv 0), (iv 0), (iv 0), (iv 0), (iv 0), (iv 0), (iv 0), (iv 0), (iv 0)] 85 (0, 0)) [] (fun fb g => by kernel_rfl) trivial (fun g18 w19 hS20 => ?_)
 refine ⟨trivial, ?_⟩
 refine WL.store hS20 0 rfl [(0, (sv A14 (([] : List Int) ++ p1) c15)), (1, (iv 0)), (2, (iv 0)), (3, (iv 0)), (4, (iv 0)), (5, (iv 0)), (6, (iv 0)), (7, (iv 0)), (8, (iv 0)), (9, (iv 0)), (10, (iv 0)), (11, (iv 0)), (12, (iv 0)), (13, (iv 0)), (14, (iv 0)), (15, (iv 0)), (16, (iv 0)), (17, (iv 0)), (18, (iv 0))] #[(sv A14 (([] : List Int) ++ p1) c15), (iv 0), (iv 0), (iv 0), (iv 0), (iv 0), (iv 0), (iv 0), (iv 0), (iv 0), (iv 0), (iv 0), (iv 0), (iv 0), (iv 0), (iv 0), (iv 0), (iv 0), (iv 0)] (fun fb => by kernel_rfl) (by kernel_rfl) (by kernel_rfl) [1, 2] (by decide) (by decide) (fun w21 hS22 => ?_)
 refine ⟨trivial, ?_⟩
 refine WL.done rfl (WX.next (WC.seq (WC.seq (WC.region ?_))))
 refine seg 3 [] [0, 1, 4, 5, 11, 12, 13] [(0, (sv Aa p0 ca)), (1, (sv Ab p1 cb)), (4, (pt g9)), (5, (pt g18)), (11, (sv Ab p1 cb)), (12, (iv (p1.length : Int))), (13, (iv 0))] [] (fun fb => by kernel_rfl) rfl trivial ?_
 refine WL.done rfl (WX.next ?_)
 obtain ⟨x26, hx27, hf⟩ := bind_some hf
 refine WC.cutN (T := A8_Int × A8_Int) (fun t => [(0, (sv Aa p0 ca)), (1, (sv Ab p1 cb)), (4, (pt g9)), (5, (pt g18))]) (fun t w1 => St NoS w w1 [rowR enc_Tile Aa ca p0, rowR encInt Ab cb p1] [blk g9 (.cells #[(.slice none 0 0), (iv 0), (iv 0), (iv 0), (iv 0), (iv 0), (iv 0), (iv 0), (iv 0), (iv 0), (iv 0), (iv 0), (iv 0), (iv 0), (iv 0), (iv 0), (iv 0), (iv 0), (iv 0)] 85 (0, 0)), blk g18 (.cells #[(sv A14 (([] : List Int) ++ p1) c15), (iv t.1.e0), (iv t.1.e1), (iv t.1.e2), (iv t.1.e3), (iv t.1.e4), (iv t.1.e5), (iv t.1.e6), (iv t.1.e7), (iv t.2.e0), (iv t.2.e1), (iv t.2.e2), (iv t.2.e3), (iv t.2.e4), (iv t.2.e5), (iv t.2.e6), (iv t.2.e7), (iv 0), (iv 0)] 85 (0, 0)), rowO 3 encInt A14 c15 (([] : List Int) ++ p1)] ∧ x26 = t) (fun Kx26 => ?_) ?_
 ·
  refine WC.block ?_
  refine WC.loop (T := A8_Int × A8_Int × Int) (fun t => [(0, (sv Aa p0 ca)), (1, (sv Ab p1 cb)), (4, (pt g9)), (5, (pt g18)), (11, (sv Ab p1 cb)), (12, (iv (p1.length : Int))), (13, (iv t.2.2))]) (fun n t w1 => St NoS w w1 [rowR enc_Tile Aa ca p0, rowR encInt Ab cb p1] [blk g9 (.cells #[(.slice none 0 0), (iv 0), (iv 0), (iv 0), (iv 0), (iv 0), (iv 0), (iv 0), (iv 0), (iv 0), (iv 0), (iv 0), (iv 0), (iv 0), (iv 0), (iv 0), (iv 0), (iv 0), (iv 0)] 85 (0, 0)), blk g18 (.cells #[(sv A14 (([] : List Int) ++ p1) c15), (iv t.1.e0), (iv t.1.e1), (iv t.1.e2), (iv t.1.e3), (iv t.1.e4), (iv t.1.e5), (iv t.1.e6), (iv t.1.e7), (iv t.2.1.e0), (iv t.2.1.e1), (iv t.2.1.e2), (iv t.2.1.e3), (iv t.2.1.e4), (iv t.2.1.e5), (iv t.2.1.e6), (iv t.2.1.e7), (iv 0), (iv 0)] 85 (0, 0)), rowO 3 encInt A14 c15 (([] : List Int) ++ p1)] ∧ rows_rowOf.l0 n t.1 t.2.1 t.2.2 p0 p1 = some x26) k ((A8_Int.mk 0 0 0 0 0 0 0 0), (A8_Int.mk 0 0 0 0 0 0 0 0), 0) [0, 1, 4, 5, 11, 12, 13] rfl ⟨(hS22.subR [0, 1]).sub [2, 0, 1] (by decide), hx27⟩ ?_
  rintro k28 ⟨a23, a24, x25⟩ w29 ⟨hS30, hl31⟩
  cases k28 with
  | zero => rw [rows_rowOf.l0] at hl31; cases hl31
  | succ k28 =>
   rw [rows_rowOf.l0] at hl31
   refine WC.seq (WC.region ?_)
   refine seg 1 [] [0, 1, 4, 5, 11, 12, 13, 14] [(0, (sv Aa p0 ca)), (1, (sv Ab p1 cb)), (4, (pt g9)), (5, (pt g18)), (11, (sv Ab p1 cb)), (12, (iv (p1.length : Int))), (13, (iv x25)), (14, (bv (decide (x25 < (p1.length : Int)))))] [] (fun fb => by kernel_rfl) rfl trivial ?_
   refine WL.done rfl (WX.next (WC.seq ?_))
   rcases br_some hl31 with ⟨h32, hl31⟩ | ⟨h32, hl31⟩
   ·refine WC.condT2 (fun fb => by kernel_rfl) h32 ?_
    refine WC.skip (WX.next (WC.seq (WC.block (WC.seq (WC.region ?_)))))
    refine seg 1 [] [0, 1, 4, 5, 11, 12, 13, 15] [(0, (sv Aa p0 ca)), (1, (sv Ab p1 cb)), (4, (pt g9)), (5, (pt g18)), (11, (sv Ab p1 cb)), (12, (iv (p1.length : Int))), (13, (iv x25)), (15, (iv x25))] [] (fun fb => by kernel_rfl) rfl trivial ?_
    obtain ⟨h33, hl31⟩ := as_some hl31
    refine seg 5 [.v (iv (rdD p1 x25 0))] [0, 1, 4, 5, 6, 7, 11, 12, 13] [(0, (sv Aa p0 ca)), (1, (sv Ab p1 cb)), (4, (pt g9)), (5, (pt g18)), (6, (iv x25)), (7, (iv (rdD p1 x25 0))), (11, (sv Ab p1 cb)), (12, (iv (p1.length : Int))), (13, (iv x25))] [.idx Ab x25 p1.length, .cell ((adr Ab).add ((x25).toNat * 1)) (iv (rdD p1 x25 0))] (fun fb => by kernel_rfl) rfl ⟨rowR.adr (hS30.rd 1).1 h33.1 h33.2, rowR.cell (hS30.rd 1).1 0 h33.1 h33.2 0 rfl, trivial⟩ ?_
    refine WL.done rfl (WX.next ?_)
    obtain ⟨h36, hl31⟩ := as_some hl31
    obtain ⟨h37, hl31⟩ := as_some hl31
    refine WC.regionD ([(6, (((adr Aa).add (((rdD p1 x25 0)).toNat * 4)).add 2), (iv ((rdD p0 (rdD p1 x25 0) z_Tile).S))), (11, ((adr Aa).add (((rdD p1 x25 0)).toNat * 4)), (iv ((rdD p0 (rdD p1 x25 0) z_Tile).N)))], [0, 1, 2, 3, 4, 5, 6, 7, 8, 9, 10, 11, 12, 13, 15, 16], [[], [], [], [], [2, 3], [2, 3, 4], [2, 3, 4, 5], [], [], [7, 8], [7, 8, 9], [7, 8, 9, 10], [], [0, 2, 3, 4, 5, 6, 12], [0, 2, 3, 4, 5, 6, 12, 13], [], [0, 1, 2, 3, 4, 5, 6, 7, 8, 9, 10, 11, 12, 13, 14, 15], [0, 1, 2, 3, 4, 5, 6, 7, 8, 9, 10, 11, 12, 13, 14, 15, 16]]) [[0, 1, 2, 3, 4, 5, 6, 7, 8, 9, 10, 11, 12, 13, 15, 14, 16, 17]] (by kernel_rfl) (by kernel_rfl) (NoPanic.block (NoPanic.seq (NoPanic.seq (NoPanic.block (NoPanic.seq (NoPanic.body)))))) ?_
    have hS35 := hS30.drew
    revert hS35
    generalize World.drew w29 = w34
    intro hS35
    refine ⟨⟨rowR.cell (hS35.rd 0).1 z_Tile h36.1 h36.2 2 rfl, rowR.cell (hS35.rd 0).1 z_Tile h36.1 h36.2 0 rfl, trivial⟩, forallC ?_ (forallN)⟩
    refine segF 15 [.v (iv ((rdD p0 (rdD p1 x25 0) z_Tile).S)), .v (iv ((rdD p0 (rdD p1 x25 0) z_Tile).N))] [0, 1, 4, 5, 11, 12, 13, 19, 24, 29, 31, 32] [(0, (sv Aa p0 ca)), (1, (sv Ab p1 cb)), (4, (pt g9)), (5, (pt g18)), (11, (sv Ab p1 cb)), (12, (iv (p1.length : Int))), (13, (iv x25)), (19, (iv x25)), (24, (iv ((rdD p0 (rdD p1 x25 0) z_Tile).S))), (29, (iv ((rdD p0 (rdD p1 x25 0) z_Tile).N))), (31, (.pointer (some (flatA ⟨g18, 1, none⟩ (x25.toNat * 1))))), (32, (.pointer (some ⟨g18, 9, none⟩)))] [.idx Aa (rdD p1 x25 0) p0.length, .idx Aa (rdD p1 x25 0) p0.length, .idx (some ⟨0, 0, none⟩) x25 8] [0, 1] [(6, (((adr Aa).add (((rdD p1 x25 0)).toNat * 4)).add 2), (iv ((rdD p0 (rdD p1 x25 0) z_Tile).S))), (11, ((adr Aa).add (((rdD p1 x25 0)).toNat * 4)), (iv ((rdD p0 (rdD p1 x25 0) z_Tile).N)))] (fun fb => by kernel_rfl) rfl ⟨rowR.adr (hS35.rd 0).1 h36.1 h36.2, rowR.adr (hS35.rd 0).1 h36.1 h36.2, ⟨h37.1, h37.2, rfl⟩, trivial⟩ rfl ?_
    have h40 := (cases8 (Q := fun z_ => (([(1 + z_.toNat * 1, (iv ((rdD p0 (rdD p1 x25 0) z_Tile).S)))] : List (Nat × Value)).all fun p_ => Nat.blt p_.1 (#[(sv A14 (([] : List Int) ++ p1) c15), (iv a23.e0), (iv a23.e1), (iv a23.e2), (iv a23.e3), (iv a23.e4), (iv a23.e5), (iv a23.e6), (iv a23.e7), (iv a24.e0), (iv a24.e1), (iv a24.e2), (iv a24.e3), (iv a24.e4), (iv a24.e5), (iv a24.e6), (iv a24.e7), (iv 0), (iv 0)] : Array Value).size) = true) h37 (by kernel_rfl) (by kernel_rfl) (by kernel_rfl) (by kernel_rfl) (by kernel_rfl) (by kernel_rfl) (by kernel_rfl) (by kernel_rfl))
    have h41 := (cases8 (Q := fun z_ => wrc (#[(sv A14 (([] : List Int) ++ p1) c15), (iv a23.e0), (iv a23.e1), (iv a23.e2), (iv a23.e3), (iv a23.e4), (iv a23.e5), (iv a23.e6), (iv a23.e7), (iv a24.e0), (iv a24.e1), (iv a24.e2), (iv a24.e3), (iv a24.e4), (iv a24.e5), (iv a24.e6), (iv a24.e7), (iv 0), (iv 0)] : Array Value) [(1 + z_.toNat * 1, (iv ((rdD p0 (rdD p1 x25 0) z_Tile).S)))] = (#[(sv A14 (([] : List Int) ++ p1) c15), (iv ((A8_Int.set a23 z_ ((rdD p0 (rdD p1 x25 0) z_Tile).S)).e0)), (iv ((A8_Int.set a23 z_ ((rdD p0 (rdD p1 x25 0) z_Tile).S)).e1)), (iv ((A8_Int.set a23 z_ ((rdD p0 (rdD p1 x25 0) z_Tile).S)).e2)), (iv ((A8_Int.set a23 z_ ((rdD p0 (rdD p1 x25 0) z_Tile).S)).e3)), (iv ((A8_Int.set a23 z_ ((rdD p0 (rdD p1 x25 0) z_Tile).S)).e4)), (iv ((A8_Int.set a23 z_ ((rdD p0 (rdD p1 x25 0) z_Tile).S)).e5)), (iv ((A8_Int.set a23 z_ ((rdD p0 (rdD p1 x25 0) z_Tile).S)).e6)), (iv ((A8_Int.set a23 z_ ((rdD p0 (rdD p1 x25 0) z_Tile).S)).e7)), (iv a24.e0), (iv a24.e1), (iv a24.e2), (iv a24.e3), (iv a24.e4), (iv a24.e5), (iv a24.e6), (iv a24.e7), (iv 0), (iv 0)] : Array Value)) h37 (by kernel_rfl) (by kernel_rfl) (by kernel_rfl) (by kernel_rfl) (by kernel_rfl) (by kernel_rfl) (by kernel_rfl) (by kernel_rfl))
    refine WL.store hS35 1 rfl [(1 + x25.toNat * 1, (iv ((rdD p0 (rdD p1 x25 0) z_Tile).S)))] #[(sv A14 (([] : List Int) ++ p1) c15), (iv ((A8_Int.set a23 x25 ((rdD p0 (rdD p1 x25 0) z_Tile).S)).e0)), (iv ((A8_Int.set a23 x25 ((rdD p0 (rdD p1 x25 0) z_Tile).S)).e1)), (iv ((A8_Int.set a23 x25 ((rdD p0 (rdD p1 x25 0) z_Tile).S)).e2)), (iv ((A8_Int.set a23 x25 ((rdD p0 (rdD p1 x25 0) z_Tile).S)).e3)), (iv ((A8_Int.set a23 x25 ((rdD p0 (rdD p1 x25 0) z_Tile).S)).e4)), (iv ((A8_Int.set a23 x25 ((rdD p0 (rdD p1 x25 0) z_Tile).S)).e5)), (iv ((A8_Int.set a23 x25 ((rdD p0 (rdD p1 x25 0) z_Tile).S)).e6)), (iv ((A8_Int.set a23 x25 ((rdD p0 (rdD p1 x25 0) z_Tile).S)).e7)), (iv a24.e0), (iv a24.e1), (iv a24.e2), (iv a24.e3), (iv a24.e4), (iv a24.e5), (iv a24.e6), (iv a24.e7), (iv 0), (iv 0)] (fun fb => by kernel_rfl) h40 h41 [0, 2] (by decide) (by decide) (fun w38 hS39 => ?_)
    refine ⟨⟨rowR.cell (hS39.rd 0).1 z_Tile h36.1 h36.2 0 rfl, trivial⟩, ?_⟩
    refine seg 17 [] [0, 1, 4, 5, 11, 12, 13, 29, 33] [(0, (sv Aa p0 ca)), (1, (sv Ab p1 cb)), (4, (pt g9)), (5, (pt g18)), (11, (sv Ab p1 cb)), (12, (iv (p1.length : Int))), (13, (iv x25)), (29, (iv ((rdD p0 (rdD p1 x25 0) z_Tile).N))), (33, (.pointer (some (flatA ⟨g18, 9, none⟩ (x25.toNat * 1)))))] [.idx (some ⟨0, 0, none⟩) x25 8] (fun fb => by kernel_rfl) rfl ⟨⟨h37.1, h37.2, rfl⟩, trivial⟩ ?_
    have h44 := (cases8 (Q := fun z_ => (([(9 + z_.toNat * 1, (iv ((rdD p0 (rdD p1 x25 0) z_Tile).N)))] : List (Nat × Value)).all fun p_ => Nat.blt p_.1 (#[(sv A14 (([] : List Int) ++ p1) c15), (iv ((A8_Int.set a23 x25 ((rdD p0 (rdD p1 x25 0) z_Tile).S)).e0)), (iv ((A8_Int.set a23 x25 ((rdD p0 (rdD p1 x25 0) z_Tile).S)).e1)), (iv ((A8_Int.set a23 x25 ((rdD p0 (rdD p1 x25 0) z_Tile).S)).e2)), (iv ((A8_Int.set a23 x25 ((rdD p0 (rdD p1 x25 0) z_Tile).S)).e3)), (iv ((A8_Int.set a23 x25 ((rdD p0 (rdD p1 x25 0) z_Tile).S)).e4)), (iv ((A8_Int.set a23 x25 ((rdD p0 (rdD p1 x25 0) z_Tile).S)).e5)), (iv ((A8_Int.set a23 x25 ((rdD p0 (rdD p1 x25 0) z_Tile).S)).e6)), (iv ((A8_Int.set a23 x25 ((rdD p0 (rdD p1 x25 0) z_Tile).S)).e7)), (iv a24.e0), (iv a24.e1), (iv a24.e2), (iv a24.e3), (iv a24.e4), (iv a24.e5), (iv a24.e6), (iv a24.e7), (iv 0), (iv 0)] : Array Value).size) = true) h37 (by kernel_rfl) (by kernel_rfl) (by kernel_rfl) (by kernel_rfl) (by kernel_rfl) (by kernel_rfl) (by kernel_rfl) (by kernel_rfl))
    have h45 := (cases8 (Q := fun z_ => wrc (#[(sv A14 (([] : List Int) ++ p1) c15), (iv ((A8_Int.set a23 x25 ((rdD p0 (rdD p1 x25 0) z_Tile).S)).e0)), (iv ((A8_Int.set a23 x25 ((rdD p0 (rdD p1 x25 0) z_Tile).S)).e1)), (iv ((A8_Int.set a23 x25 ((rdD p0 (rdD p1 x25 0) z_Tile).S)).e2)), (iv ((A8_Int.set a23 x25 ((rdD p0 (rdD p1 x25 0) z_Tile).S)).e3)), (iv ((A8_Int.set a23 x25 ((rdD p0 (rdD p1 x25 0) z_Tile).S)).e4)), (iv ((A8_Int.set a23 x25 ((rdD p0 (rdD p1 x25 0) z_Tile).S)).e5)), (iv ((A8_Int.set a23 x25 ((rdD p0 (rdD p1 x25 0) z_Tile).S)).e6)), (iv ((A8_Int.set a23 x25 ((rdD p0 (rdD p1 x25 0) z_Tile).S)).e7)), (iv a24.e0), (iv a24.e1), (iv a24.e2), (iv a24.e3), (iv a24.e4), (iv a24.e5), (iv a24.e6), (iv a24.e7), (iv 0), (iv 0)] : Array Value) [(9 + z_.toNat * 1, (iv ((rdD p0 (rdD p1 x25 0) z_Tile).N)))] = (#[(sv A14 (([] : List Int) ++ p1) c15), (iv ((A8_Int.set a23 x25 ((rdD p0 (rdD p1 x25 0) z_Tile).S)).e0)), (iv ((A8_Int.set a23 x25 ((rdD p0 (rdD p1 x25 0) z_Tile).S)).e1)), (iv ((A8_Int.set a23 x25 ((rdD p0 (rdD p1 x25 0) z_Tile).S)).e2)), (iv ((A8_Int.set a23 x25 ((rdD p0 (rdD p1 x25 0) z_Tile).S)).e3)), (iv ((A8_Int.set a23 x25 ((rdD p0 (rdD p1 x25 0) z_Tile).S)).e4)), (iv ((A8_Int.set a23 x25 ((rdD p0 (rdD p1 x25 0) z_Tile).S)).e5)), (iv ((A8_Int.set a23 x25 ((rdD p0 (rdD p1 x25 0) z_Tile).S)).e6)), (iv ((A8_Int.set a23 x25 ((rdD p0 (rdD p1 x25 0) z_Tile).S)).e7)), (iv ((A8_Int.set a24 z_ ((rdD p0 (rdD p1 x25 0) z_Tile).N)).e0)), (iv ((A8_Int.set a24 z_ ((rdD p0 (rdD p1 x25 0) z_Tile).N)).e1)), (iv ((A8_Int.set a24 z_ ((rdD p0 (rdD p1 x25 0) z_Tile).N)).e2)), (iv ((A8_Int.set a24 z_ ((rdD p0 (rdD p1 x25 0) z_Tile).N)).e3)), (iv ((A8_Int.set a24 z_ ((rdD p0 (rdD p1 x25 0) z_Tile).N)).e4)), (iv ((A8_Int.set a24 z_ ((rdD p0 (rdD p1 x25 0) z_Tile).N)).e5)), (iv ((A8_Int.set a24 z_ ((rdD p0 (rdD p1 x25 0) z_Tile).N)).e6)), (iv ((A8_Int.set a24 z_ ((rdD p0 (rdD p1 x25 0) z_Tile).N)).e7)), (iv 0), (iv 0)] : Array Value)) h37 (by kernel_rfl) (by kernel_rfl) (by kernel_rfl) (by kernel_rfl) (by kernel_rfl) (by kernel_rfl) (by kernel_rfl) (by kernel_rfl))
    refine WL.store hS39 0 rfl [(9 + x25.toNat * 1, (iv ((rdD p0 (rdD p1 x25 0) z_Tile).N)))] #[(sv A14 (([] : List Int) ++ p1) c15), (iv ((A8_Int.set a23 x25 ((rdD p0 (rdD p1 x25 0) z_Tile).S)).e0)), (iv ((A8_Int.set a23 x25 ((rdD p0 (rdD p1 x25 0) z_Tile).S)).e1)), (iv ((A8_Int.set a23 x25 ((rdD p0 (rdD p1 x25 0) z_Tile).S)).e2)), (iv ((A8_Int.set a23 x25 ((rdD p0 (rdD p1 x25 0) z_Tile).S)).e3)), (iv ((A8_Int.set a23 x25 ((rdD p0 (rdD p1 x25 0) z_Tile).S)).e4)), (iv ((A8_Int.set a23 x25 ((rdD p0 (rdD p1 x25 0) z_Tile).S)).e5)), (iv ((A8_Int.set a23 x25 ((rdD p0 (rdD p1 x25 0) z_Tile).S)).e6)), (iv ((A8_Int.set a23 x25 ((rdD p0 (rdD p1 x25 0) z_Tile).S)).e7)), (iv ((A8_Int.set a24 x25 ((rdD p0 (rdD p1 x25 0) z_Tile).N)).e0)), (iv ((A8_Int.set a24 x25 ((rdD p0 (rdD p1 x25 0) z_Tile).N)).e1)), (iv ((A8_Int.set a24 x25 ((rdD p0 (rdD p1 x25 0) z_Tile).N)).e2)), (iv ((A8_Int.set a24 x25 ((rdD p0 (rdD p1 x25 0) z_Tile).N)).e3)), (iv ((A8_Int.set a24 x25 ((rdD p0 (rdD p1 x25 0) z_Tile).N)).e4)), (iv ((A8_Int.set a24 x25 ((rdD p0 (rdD p1 x25 0) z_Tile).N)).e5)), (iv ((A8_Int.set a24 x25 ((rdD p0 (rdD p1 x25 0) z_Tile).N)).e6)), (iv ((A8_Int.set a24 x25 ((rdD p0 (rdD p1 x25 0) z_Tile).N)).e7)), (iv 0), (iv 0)] (fun fb => by kernel_rfl) h44 h45 [1, 2] (by decide) (by decide) (fun w42 hS43 => ?_)
    refine ⟨trivial, ?_⟩
    refine WL.done rfl ?_
    refine WX.blockN (WX.next ?_)
    refine WC.region ?_
    refine seg 2 [] [0, 1, 4, 5, 11, 12, 13] [(0, (sv Aa p0 ca)), (1, (sv Ab p1 cb)), (4, (pt g9)), (5, (pt g18)), (11, (sv Ab p1 cb)), (12, (iv (p1.length : Int))), (13, (iv (w64 (x25 + 1))))] [] (fun fb => by kernel_rfl) rfl trivial ?_
    refine WL.done rfl ?_
    exact WX.again k28 (Nat.lt_succ_self _) ((A8_Int.set a23 x25 ((rdD p0 (rdD p1 x25 0) z_Tile).S)), (A8_Int.set a24 x25 ((rdD p0 (rdD p1 x25 0) z_Tile).N)), w64 (x25 + 1)) [0, 1, 4, 5, 11, 12, 13] rfl ⟨(hS43.subR [0, 1]).sub [1, 0, 2] (by decide), hl31⟩
   refine WC.condF2 (fun fb => by kernel_rfl) h32 ?_
   refine WC.exit ?_
   injection hl31 with hl31
   exact WX.thenX (WX.thenX (WX.blockHere (WX.to Kx26 (a23, a24) [0, 1, 4, 5] rfl ⟨(hS30.subR [0, 1]).sub [0, 1, 2] (by decide), hl31.symm⟩)))
 rintro y49 w46 ⟨hS47, hq48⟩
 subst hq48
 refine WX.next (WC.seq ?_)
 obtain ⟨h52, hf⟩ := as_some hf
 obtain ⟨h53, hf⟩ := as_some hf
 obtain ⟨h54, hf⟩ := as_some hf
 obtain ⟨h55, hf⟩ := as_some hf
 refine WC.regionD ([(3, ((adr Ab).add (((0 : Int)).toNat * 1)), (iv (rdD p1 (0 : Int) 0))), (6, (((adr Aa).add (((rdD p1 (0 : Int) 0)).toNat * 4)).add 3), (iv ((rdD p0 (rdD p1 (0 : Int) 0) z_Tile).W))), (13, ((adr Ab).add ((w64 ((p1.length : Int) - 1)).toNat * 1)), (iv (rdD p1 (w64 ((p1.length : Int) - 1)) 0))), (16, (((adr Aa).add (((rdD p1 (w64 ((p1.length : Int) - 1)) 0)).toNat * 4)).add 1), (iv ((rdD p0 (rdD p1 (w64 ((p1.length : Int) - 1)) 0) z_Tile).E)))], [0, 1, 2, 3, 4, 5, 6, 7, 8, 9, 10, 11, 12, 13, 14, 15, 16, 17, 19], [[], [], [1], [1, 2], [0, 1, 2, 3], [0, 1, 2, 3, 4], [0, 1, 2, 3, 4, 5], [], [], [], [9], [9, 10], [8, 9, 10, 11], [8, 9, 10, 11, 12], [7, 8, 9, 10, 11, 12, 13], [7, 8, 9, 10, 11, 12, 13, 14], [7, 8, 9, 10, 11, 12, 13, 14, 15], [0, 1, 2, 3, 4, 5, 6], [0, 1, 2, 3, 4, 5, 6, 17], [0, 1, 2, 3, 4, 5, 6, 7, 8, 9, 10, 11, 12, 13, 14, 15, 16, 17, 18], [0, 1, 2, 3, 4, 5, 6, 7, 8, 9, 10, 11, 12, 13, 14, 15, 16, 17, 18, 19]]) [[0, 1, 2, 3, 4, 5, 6, 7, 8, 9, 10, 11, 12, 13, 14, 15, 16, 17, 18, 19, 20]] (by kernel_rfl) (by kernel_rfl) (NoPanic.seq (NoPanic.body)) ?_
 have hS51 := hS47.drew
 revert hS51
 generalize World.drew w46 = w50
 intro hS51
 refine ⟨⟨rowR.cell (hS51.rd 1).1 0 h52.1 h52.2 0 rfl, rowR.cell (hS51.rd 0).1 z_Tile h53.1 h53.2 3 rfl, rowR.cell (hS51.rd 1).1 0 h54.1 h54.2 0 rfl, rowR.cell (hS51.rd 0).1 z_Tile h55.1 h55.2 1 rfl, trivial⟩, forallC ?_ (forallN)⟩
 refine segF 18 [.v (iv (rdD p1 (0 : Int) 0)), .v (iv ((rdD p0 (rdD p1 (0 : Int) 0) z_Tile).W)), .v (iv (rdD p1 (w64 ((p1.length : Int) - 1)) 0)), .v (iv ((rdD p0 (rdD p1 (w64 ((p1.length : Int) - 1)) 0) z_Tile).E))] [4, 5, 41, 51, 52] [(4, (pt g9)), (5, (pt g18)), (41, (iv ((rdD p0 (rdD p1 (0 : Int) 0) z_Tile).W))), (51, (iv ((rdD p0 (rdD p1 (w64 ((p1.length : Int) - 1)) 0) z_Tile).E))), (52, (.pointer (some ⟨g18, 17, none⟩)))] [.idx Ab (0 : Int) p1.length, .idx Aa (rdD p1 (0 : Int) 0) p0.length, .idx Ab (w64 ((p1.length : Int) - 1)) p1.length, .idx Aa (rdD p1 (w64 ((p1.length : Int) - 1)) 0) p0.length] [0, 1, 2, 3] [(3, ((adr Ab).add (((0 : Int)).toNat * 1)), (iv (rdD p1 (0 : Int) 0))), (6, (((adr Aa).add (((rdD p1 (0 : Int) 0)).toNat * 4)).add 3), (iv ((rdD p0 (rdD p1 (0 : Int) 0) z_Tile).W))), (13, ((adr Ab).add ((w64 ((p1.length : Int) - 1)).toNat * 1)), (iv (rdD p1 (w64 ((p1.length : Int) - 1)) 0))), (16, (((adr Aa).add (((rdD p1 (w64 ((p1.length : Int) - 1)) 0)).toNat * 4)).add 1), (iv ((rdD p0 (rdD p1 (w64 ((p1.length : Int) - 1)) 0) z_Tile).E)))] (fun fb => by kernel_rfl) rfl ⟨rowR.adr (hS51.rd 1).1 h52.1 h52.2, rowR.adr (hS51.rd 0).1 h53.1 h53.2, rowR.adr (hS51.rd 1).1 h54.1 h54.2, rowR.adr (hS51.rd 0).1 h55.1 h55.2, trivial⟩ rfl ?_
 refine WL.store hS51 1 rfl [(17, (iv ((rdD p0 (rdD p1 (0 : Int) 0) z_Tile).W)))] #[(sv A14 (([] : List Int) ++ p1) c15), (iv x26.1.e0), (iv x26.1.e1), (iv x26.1.e2), (iv x26.1.e3), (iv x26.1.e4), (iv x26.1.e5), (iv x26.1.e6), (iv x26.1.e7), (iv x26.2.e0), (iv x26.2.e1), (iv x26.2.e2), (iv x26.2.e3), (iv x26.2.e4), (iv x26.2.e5), (iv x26.2.e6), (iv x26.2.e7), (iv ((rdD p0 (rdD p1 (0 : Int) 0) z_Tile).W)), (iv 0)] (fun fb => by kernel_rfl) (by kernel_rfl) (by kernel_rfl) [0, 2] (by decide) (by decide) (fun w56 hS57 => ?_)
 refine ⟨⟨rowR.cell (hS57.rd 1).1 0 h54.1 h54.2 0 rfl, rowR.cell (hS57.rd 0).1 z_Tile h55.1 h55.2 1 rfl, trivial⟩, ?_⟩
 refine seg 20 [] [4, 5, 51, 53] [(4, (pt g9)), (5, (pt g18)), (51, (iv ((rdD p0 (rdD p1 (w64 ((p1.length : Int) - 1)) 0) z_Tile).E))), (53, (.pointer (some ⟨g18, 18, none⟩)))] [] (fun fb => by kernel_rfl) rfl trivial ?_
 refine WL.store hS57 0 rfl [(18, (iv ((rdD p0 (rdD p1 (w64 ((p1.length : Int) - 1)) 0) z_Tile).E)))] #[(sv A14 (([] : List Int) ++ p1) c15), (iv x26.1.e0), (iv x26.1.e1), (iv x26.1.e2), (iv x26.1.e3), (iv x26.1.e4), (iv x26.1.e5), (iv x26.1.e6), (iv x26.1.e7), (iv x26.2.e0), (iv x26.2.e1), (iv x26.2.e2), (iv x26.2.e3), (iv x26.2.e4), (iv x26.2.e5), (iv x26.2.e6), (iv x26.2.e7), (iv ((rdD p0 (rdD p1 (0 : Int) 0) z_Tile).W)), (iv ((rdD p0 (rdD p1 (w64 ((p1.length : Int) - 1)) 0) z_Tile).E))] (fun fb => by kernel_rfl) (by kernel_rfl) (by kernel_rfl) [1, 2] (by decide) (by decide) (fun w58 hS59 => ?_)
 refine ⟨trivial, ?_⟩
 refine WL.done rfl (WX.next (WC.seq (WC.region ?_)))
 refine seg 1 [.v (sv A14 (([] : List Int) ++ p1) c15), .v (iv x26.1.e0), .v (iv x26.1.e1), .v (iv x26.1.e2), .v (iv x26.1.e3), .v (iv x26.1.e4), .v (iv x26.1.e5), .v (iv x26.1.e6), .v (iv x26.1.e7), .v (iv x26.2.e0), .v (iv x26.2.e1), .v (iv x26.2.e2), .v (iv x26.2.e3), .v (iv x26.2.e4), .v (iv x26.2.e5), .v (iv x26.2.e6), .v (iv x26.2.e7), .v (iv ((rdD p0 (rdD p1 (0 : Int) 0) z_Tile).W)), .v (iv ((rdD p0 (rdD p1 (w64 ((p1.length : Int) - 1)) 0) z_Tile).E))] [4, 54] [(4, (pt g9)), (54, (.agg #[(sv A14 (([] : List Int) ++ p1) c15), (iv x26.1.e0), (iv x26.1.e1), (iv x26.1.e2), (iv x26.1.e3), (iv x26.1.e4), (iv x26.1.e5), (iv x26.1.e6), (iv x26.1.e7), (iv x26.2.e0), (iv x26.2.e1), (iv x26.2.e2), (iv x26.2.e3), (iv x26.2.e4), (iv x26.2.e5), (iv x26.2.e6), (iv x26.2.e7), (iv ((rdD p0 (rdD p1 (0 : Int) 0) z_Tile).W)), (iv ((rdD p0 (rdD p1 (w64 ((p1.length : Int) - 1)) 0) z_Tile).E))]))] [.cell ⟨g18, 0, none⟩ (sv A14 (([] : List Int) ++ p1) c15), .cell ⟨g18, 1, none⟩ (iv x26.1.e0), .cell ⟨g18, 2, none⟩ (iv x26.1.e1), .cell ⟨g18, 3, none⟩ (iv x26.1.e2), .cell ⟨g18, 4, none⟩ (iv x26.1.e3), .cell ⟨g18, 5, none⟩ (iv x26.1.e4), .cell ⟨g18, 6, none⟩ (iv x26.1.e5), .cell ⟨g18, 7, none⟩ (iv x26.1.e6), .cell ⟨g18, 8, none⟩ (iv x26.1.e7), .cell ⟨g18, 9, none⟩ (iv x26.2.e0), .cell ⟨g18, 10, none⟩ (iv x26.2.e1), .cell ⟨g18, 11, none⟩ (iv x26.2.e2), .cell ⟨g18, 12, none⟩ (iv x26.2.e3), .cell ⟨g18, 13, none⟩ (iv x26.2.e4), .cell ⟨g18, 14, none⟩ (iv x26.2.e5), .cell ⟨g18, 15, none⟩ (iv x26.2.e6), .cell ⟨g18, 16, none⟩ (iv x26.2.e7), .cell ⟨g18, 17, none⟩ (iv ((rdD p0 (rdD p1 (0 : Int) 0) z_Tile).W)), .cell ⟨g18, 18, none⟩ (iv ((rdD p0 (rdD p1 (w64 ((p1.length : Int) - 1)) 0) z_Tile).E))] (fun fb => by kernel_rfl) rfl ⟨hS59.cell 0 rfl 0 rfl, hS59.cell 0 rfl 1 rfl, hS59.cell 0 rfl 2 rfl, hS59.cell 0 rfl 3 rfl, hS59.cell 0 rfl 4 rfl, hS59.cell 0 rfl 5 rfl, hS59.cell 0 rfl 6 rfl, hS59.cell 0 rfl 7 rfl, hS59.cell 0 rfl 8 rfl, hS59.cell 0 rfl 9 rfl, hS59.cell 0 rfl 10 rfl, hS59.cell 0 rfl 11 rfl, hS59.cell 0 rfl 12 rfl, hS59.cell 0 rfl 13 rfl, hS59.cell 0 rfl 14 rfl, hS59.cell 0 rfl 15 rfl, hS59.cell 0 rfl 16 rfl, hS59.cell 0 rfl 17 rfl, hS59.cell 0 rfl 18 rfl, trivial⟩ ?_
 refine WL.store hS59 1 rfl [(0, (sv A14 (([] : List Int) ++ p1) c15)), (1, (iv x26.1.e0)), (2, (iv x26.1.e1)), (3, (iv x26.1.e2)), (4, (iv x26.1.e3)), (5, (iv x26.1.e4)), (6, (iv x26.1.e5)), (7, (iv x26.1.e6)), (8, (iv x26.1.e7)), (9, (iv x26.2.e0)), (10, (iv x26.2.e1)), (11, (iv x26.2.e2)), (12, (iv x26.2.e3)), (13, (iv x26.2.e4)), (14, (iv x26.2.e5)), (15, (iv x26.2.e6)), (16, (iv x26.2.e7)), (17, (iv ((rdD p0 (rdD p1 (0 : Int) 0) z_Tile).W))), (18, (iv ((rdD p0 (rdD p1 (w64 ((p1.length : Int) - 1)) 0) z_Tile).E)))] #[(sv A14 (([] : List Int) ++ p1) c15), (iv x26.1.e0), (iv x26.1.e1), (iv x26.1.e2), (iv x26.1.e3), (iv x26.1.e4), (iv x26.1.e5), (iv x26.1.e6), (iv x26.1.e7), (iv x26.2.e0), (iv x26.2.e1), (iv x26.2.e2), (iv x26.2.e3), (iv x26.2.e4), (iv x26.2.e5), (iv x26.2.e6), (iv x26.2.e7), (iv ((rdD p0 (rdD p1 (0 : Int) 0) z_Tile).W)), (iv ((rdD p0 (rdD p1 (w64 ((p1.length : Int) - 1)) 0) z_Tile).E))] (fun fb => by kernel_rfl) (by kernel_rfl) (by kernel_rfl) [0, 2] (by decide) (by decide) (fun w60 hS61 => ?_)
 refine ⟨trivial, ?_⟩
 refine WL.done rfl (WX.next ?_)
 refine WC.ret ?_
 injection hf with hf
 subst hf
 exact WX.ret_ [.v (sv A14 (([] : List Int) ++ p1) c15), .v (iv x26.1.e0), .v (iv x26.1.e1), .v (iv x26.1.e2), .v (iv x26.1.e3), .v (iv x26.1.e4), .v (iv x26.1.e5), .v (iv x26.1.e6), .v (iv x26.1.e7), .v (iv x26.2.e0), .v (iv x26.2.e1), .v (iv x26.2.e2), .v (iv x26.2.e3), .v (iv x26.2.e4), .v (iv x26.2.e5), .v (iv x26.2.e6), .v (iv x26.2.e7), .v (iv ((rdD p0 (rdD p1 (0 : Int) 0) z_Tile).W)), .v (iv ((rdD p0 (rdD p1 (w64 ((p1.length : Int) - 1)) 0) z_Tile).E))] (.agg #[(sv A14 (([] : List Int) ++ p1) c15), (iv x26.1.e0), (iv x26.1.e1), (iv x26.1.e2), (iv x26.1.e3), (iv x26.1.e4), (iv x26.1.e5), (iv x26.1.e6), (iv x26.1.e7), (iv x26.2.e0), (iv x26.2.e1), (iv x26.2.e2), (iv x26.2.e3), (iv x26.2.e4), (iv x26.2.e5), (iv x26.2.e6), (iv x26.2.e7), (iv ((rdD p0 (rdD p1 (0 : Int) 0) z_Tile).W)), (iv ((rdD p0 (rdD p1 (w64 ((p1.length : Int) - 1)) 0) z_Tile).E))]) [.cell ⟨g9, 0, none⟩ (sv A14 (([] : List Int) ++ p1) c15), .cell ⟨g9, 1, none⟩ (iv x26.1.e0), .cell ⟨g9, 2, none⟩ (iv x26.1.e1), .cell ⟨g9, 3, none⟩ (iv x26.1.e2), .cell ⟨g9, 4, none⟩ (iv x26.1.e3), .cell ⟨g9, 5, none⟩ (iv x26.1.e4), .cell ⟨g9, 6, none⟩ (iv x26.1.e5), .cell ⟨g9, 7, none⟩ (iv x26.1.e6), .cell ⟨g9, 8, none⟩ (iv x26.1.e7), .cell ⟨g9, 9, none⟩ (iv x26.2.e0), .cell ⟨g9, 10, none⟩ (iv x26.2.e1), .cell ⟨g9, 11, none⟩ (iv x26.2.e2), .cell ⟨g9, 12, none⟩ (iv x26.2.e3), .cell ⟨g9, 13, none⟩ (iv x26.2.e4), .cell ⟨g9, 14, none⟩ (iv x26.2.e5), .cell ⟨g9, 15, none⟩ (iv x26.2.e6), .cell ⟨g9, 16, none⟩ (iv x26.2.e7), .cell ⟨g9, 17, none⟩ (iv ((rdD p0 (rdD p1 (0 : Int) 0) z_Tile).W)), .cell ⟨g9, 18, none⟩ (iv ((rdD p0 (rdD p1 (w64 ((p1.length : Int) - 1)) 0) z_Tile).E))] (fun fb => by kernel_rfl) ⟨hS61.cell 0 rfl 0 rfl, hS61.cell 0 rfl 1 rfl, hS61.cell 0 rfl 2 rfl, hS61.cell 0 rfl 3 rfl, hS61.cell 0 rfl 4 rfl, hS61.cell 0 rfl 5 rfl, hS61.cell 0 rfl 6 rfl, hS61.cell 0 rfl 7 rfl, hS61.cell 0 rfl 8 rfl, hS61.cell 0 rfl 9 rfl, hS61.cell 0 rfl 10 rfl, hS61.cell 0 rfl 11 rfl, hS61.cell 0 rfl 12 rfl, hS61.cell 0 rfl 13 rfl, hS61.cell 0 rfl 14 rfl, hS61.cell 0 rfl 15 rfl, hS61.cell 0 rfl 16 rfl, hS61.cell 0 rfl 17 rfl, hS61.cell 0 rfl 18 rfl, trivial⟩ ⟨_, rfl, A14, c15, rfl, (hS61.sub [2] (by decide)).noR⟩
theorem rows_All_1_calls : ∀ (k : Nat) (p0 : Int) (f0 : Int) (f1 : List Row) (f2 : List Tile) (f3 : List Int) (ga : Nat) (gb : Nat) (Aa : Option Addr) (ca : Nat) (Ha : Nat → HF) (gc : Nat) (Ab : Option Addr) (cb : Nat) (gd : Nat) (Ac : Option Addr) (cc : Nat) (ge : Nat) (r : (List Row) × (List Int)) (w : World) (hR0 : RO (fpL [blk gb (.cells #[(sv Aa f1 ca)] 79 (0, 0)), rowO 85 encN_Row Aa ca (tag Ha f1), poolO [nestO subN_Row Ha f1], blk gd (.cells #[(sv Ac f3 cc)] 25 (0, 0)), rowO 3 encInt Ac cc f3]) w (blk ga (.cells #[(iv f0)] 3 (0, 0)))) (hR1 : RO (fpL [blk gb (.cells #[(sv Aa f1 ca)] 79 (0, 0)), rowO 85 encN_Row Aa ca (tag Ha f1), poolO [nestO subN_Row Ha f1], blk gd (.cells #[(sv Ac f3 cc)] 25 (0, 0)), rowO 3 encInt Ac cc f3]) w (blk gc (.cells #[(sv Ab f2 cb)] 22 (0, 0)))) (hR2 : RO (fpL [blk gb (.cells #[(sv Aa f1 ca)] 79 (0, 0)), rowO 85 encN_Row Aa ca (tag Ha f1), poolO [nestO subN_Row Ha f1], blk gd (.cells #[(sv Ac f3 cc)] 25 (0, 0)), rowO 3 encInt Ac cc f3]) w (rowR enc_Tile Ab cb f2)) (hR3 : RO (fpL [blk gb (.cells #[(sv Aa f1 ca)] 79 (0, 0)), rowO 85 encN_Row Aa ca (tag Ha f1), poolO [nestO subN_Row Ha f1], blk gd (.cells #[(sv Ac f3 cc)] 25 (0, 0)), rowO 3 encInt Ac cc f3]) w (blk ge (.cells #[(.func (.func 97) #[] #[(pt ga), (pt gb), (pt gc), (pt gd), (pt ge)])] 129 (0, 0)))) (hI : IoOK w [blk gb (.cells #[(sv Aa f1 ca)] 79 (0, 0)), rowO 85 encN_Row Aa ca (tag Ha f1), poolO [nestO subN_Row Ha f1], blk gd (.cells #[(sv Ac f3 cc)] 25 (0, 0)), rowO 3 encInt Ac cc f3]) (hf : rows_All_1 k p0 f0 f1 f2 f3 = some r),
  CallsR Tryd.prog 97 #[(iv p0), (pt ga), (pt gb), (pt gc), (pt gd), (pt ge)] w (fun v w' => ∃ (A1_ : Option Addr), ∃ (c1_ : Nat), ∃ (h1_ : Nat → HF), ∃ (A2_ : Option Addr), ∃ (c2_ : Nat), v = (.tuple #[]) ∧ St (fpL [blk gb (.cells #[(sv Aa f1 ca)] 79 (0, 0)), rowO 85 encN_Row Aa ca (tag Ha f1), poolO [nestO subN_Row Ha f1], blk gd (.cells #[(sv Ac f3 cc)] 25 (0, 0)), rowO 3 encInt Ac cc f3]) w w' [] [blk gb (.cells #[(sv A1_ r.1 c1_)] 79 (0, 0)), rowO 85 encN_Row A1_ c1_ (tag h1_ r.1), poolO [nestO subN_Row h1_ r.1], blk gd (.cells #[(sv A2_ r.2 c2_)] 25 (0, 0)), rowO 3 encInt A2_ c2_ r.2]) := by
 intro k
 induction k with
 | zero => intro p0 f0 f1 f2 f3 ga gb Aa ca Ha gc Ab cb gd Ac cc ge r w hR0 hR1 hR2 hR3 hI hf; rw [rows_All_1] at hf; cases hf
 | succ k ih_ =>
 intro p0 f0 f1 f2 f3 ga gb Aa ca Ha gc Ab cb gd Ac cc ge r w hR0 hR1 hR2 hR3 hI hf
 have hS : St (fpL [blk gb (.cells #[(sv Aa f1 ca)] 79 (0, 0)), rowO 85 encN_Row Aa ca (tag Ha f1), poolO [nestO subN_Row Ha f1], blk gd (.cells #[(sv Ac f3 cc)] 25 (0, 0)), rowO 3 encInt Ac cc f3]) w w [blk ga (.cells #[(iv f0)] 3 (0, 0)), blk gc (.cells #[(sv Ab f2 cb)] 22 (0, 0)), rowR enc_Tile Ab cb f2, blk ge (.cells #[(.func (.func 97) #[] #[(pt ga), (pt gb), (pt gc), (pt gd), (pt ge)])] 129 (0, 0))] [blk gb (.cells #[(sv Aa f1 ca)] 79 (0, 0)), rowO 85 encN_Row Aa ca (tag Ha f1), poolO [nestO subN_Row Ha f1], blk gd (.cells #[(sv Ac f3 cc)] 25 (0, 0)), rowO 3 encInt Ac cc f3] := St.initIO (ro_cons hR0 (ro_cons hR1 (ro_cons hR2 (ro_cons hR3 (ro_nil _ _))))) hI
 rw [rows_All_1] at hf
 generalize rows_All_1 k = rc_ at hf ih_
 refine enter 50 Tryd.func97 rfl Tryd.ntmps97 rfl ?_
 refine WC.seq (WC.seq (WC.region ?_))
 refine seg 3 [.v (iv f0)] [0, 2, 3, 4, 5, 11] [(0, (iv p0)), (2, (pt gb)), (3, (pt gc)), (4, (pt gd)), (5, (pt ge)), (11, (bv (p0 == f0)))] [.cell ⟨ga, 0, none⟩ (iv f0)] (fun fb => by kernel_rfl) rfl ⟨blk_cell (hS.rd 0).1 0 rfl, trivial⟩ ?_
 refine WL.done rfl (WX.next ?_)
 rcases br_some hf with ⟨h8, hf⟩ | ⟨h8, hf⟩
 ·refine WC.condT2 (fun fb => by kernel_rfl) h8 ?_
  refine WC.seq ?_
  refine WC.regionD ([(0, ⟨gb, 0, none⟩, (sv Aa f1 ca)), (1, ⟨gc, 0, none⟩, (sv Ab f2 cb)), (2, ⟨gd, 0, none⟩, (sv Ac f3 cc))], [0, 1, 2], [[], [], [], [1, 2], [1, 2, 3], [0, 1, 2, 3, 4], [0, 1, 2, 3, 4, 5]]) [[0, 1, 2, 3, 4, 5, 6]] (by kernel_rfl) (by kernel_rfl) (NoPanic.seq (NoPanic.seq (NoPanic.body))) ?_
  have hS10 := hS.drew
  revert hS10
  generalize World.drew w = w9
  intro hS10
  refine ⟨⟨hS10.cell 0 rfl 0 rfl, blk_cell (hS10.rd 1).1 0 rfl, hS10.cell 3 rfl 0 rfl, trivial⟩, forallC ?_ (forallN)⟩
  refine segF 3 [.v (sv Aa f1 ca), .v (sv Ab f2 cb), .v (sv Ac f3 cc)] [2, 4, 12, 13, 14] [(2, (pt gb)), (4, (pt gd)), (12, (sv Aa f1 ca)), (13, (sv Ab f2 cb)), (14, (sv Ac f3 cc))] [] [0, 1, 2] [(0, ⟨gb, 0, none⟩, (sv Aa f1 ca)), (1, ⟨gc, 0, none⟩, (sv Ab f2 cb)), (2, ⟨gd, 0, none⟩, (sv Ac f3 cc))] (fun fb => by kernel_rfl) rfl trivial rfl ?_
  obtain ⟨t11, ht12, hf⟩ := bind_some hf
  refine WL.call (some 15) 98 #[(sv Ab f2 cb), (sv Ac f3 cc)] (fun fb => by kernel_rfl) (rows_rowOf_calls _ f2 f3 Ab cb Ac cc t11 _ (hS10.rd 2) (hS10.ow 4).ofO ht12) (fun v w13 hR14 => ?_)
  obtain ⟨A16, c17, rfl, hk_⟩ := hR14
  have hS15 : St (fpL [blk gb (.cells #[(.slice Aa f1.length ca)] 79 (0, 0)), rowO 85 encN_Row Aa ca (tag Ha f1), poolO [nestO subN_Row Ha f1], blk gd (.cells #[(.slice Ac f3.length cc)] 25 (0, 0)), rowO 3 encInt Ac cc f3]) w w13 [blk ga (.cells #[(iv f0)] 3 (0, 0)), blk gc (.cells #[(.slice Ab f2.length cb)] 22 (0, 0)), rowR enc_Tile Ab cb f2, blk ge (.cells #[(.func (.func 97) #[] #[(pt ga), (pt gb), (pt gc), (pt gd), (pt ge)])] 129 (0, 0))] [rowO 3 encInt A16 c17 t11.Cells, blk gb (.cells #[(.slice Aa f1.length ca)] 79 (0, 0)), rowO 85 encN_Row Aa ca (tag Ha f1), poolO [nestO subN_Row Ha f1], blk gd (.cells #[(.slice Ac f3.length cc)] 25 (0, 0)), rowO 3 encInt Ac cc f3] := hS10.call hk_ [] [0, 1, 2, 3, 4] (fun g hg => hg.elim) (by simp) (by decide)
  refine ⟨⟨hS15.cell 1 rfl 0 rfl, trivial⟩, ?_⟩
  refine WL.new hS15 16 [] (fun g => (.slice (some ⟨g, 0, none⟩) 1 1)) (.cells #[(sv A16 t11.Cells c17), (iv t11.South.e0), (iv t11.South.e1), (iv t11.South.e2), (iv t11.South.e3), (iv t11.South.e4), (iv t11.South.e5), (iv t11.South.e6), (iv t11.South.e7), (iv t11.North.e0), (iv t11.North.e1), (iv t11.North.e2), (iv t11.North.e3), (iv t11.North.e4), (iv t11.North.e5), (iv t11.North.e6), (iv t11.North.e7), (iv t11.West), (iv t11.East)] 85 (0, 0)) [] (fun fb g => by kernel_rfl) trivial (fun g18 w19 hS20 => ?_)
  refine ⟨⟨hS20.cell 2 rfl 0 rfl, trivial⟩, ?_⟩
  have hS21 := hS.go w19 [rowO 85 encN_Row (some ⟨g18, 0, none⟩) 1 [((hd1 A16 c17), t11)], rowO 3 encInt A16 c17 t11.Cells, blk gb (.cells #[(sv Aa f1 ca)] 79 (0, 0)), rowO 85 encN_Row Aa ca (tag Ha f1), poolO [nestO subN_Row Ha f1], blk gd (.cells #[(sv Ac f3 cc)] 25 (0, 0)), rowO 3 encInt Ac cc f3] (hS20.map1 0 _ (fun h => rowO.ofBlk h rfl (Nat.le_of_ble_eq_true (by kernel_rfl))) (fun _ h => by obtain ⟨_, h1, h2⟩ := h; injection h1 with h1; subst h1; exact h2) [1, 2, 3, 4, 5, 6] (by decide) (by decide))
  obtain ⟨h22, hf⟩ := as_some hf
  refine WL.appendN hS21 3 (d := 17) (tS := 79) (z := (.agg #[(.slice none 0 0), (iv 0), (iv 0), (iv 0), (iv 0), (iv 0), (iv 0), (iv 0), (iv 0), (iv 0), (iv 0), (iv 0), (iv 0), (iv 0), (iv 0), (iv 0), (iv 0), (iv 0), (iv 0)])) (bytes := 168) (c2 := 1) (hx := (hd1 A16 c17)) (x := t11) rfl (fun fb => by kernel_rfl) (rowO.rd (hS21.own 0).1) (by kernel_rfl) (by kernel_rfl) rfl (by decide) h22 (by decide) [0, 1, 2, 4, 5, 6] (by decide) (by decide) (fun A23 c24 w25 hS26 => ?_)
  have hS27 := hS15.go w25 [poolO [nestO subN_Row (updH Ha f1.length (hd1 A16 c17)) (f1 ++ [t11])], rowO 85 encN_Row A23 c24 (tag (updH Ha f1.length (hd1 A16 c17)) (f1 ++ [t11])), rowO 85 encN_Row (some ⟨g18, 0, none⟩) 1 [((hd1 A16 c17), t11)], blk gb (.cells #[(.slice Aa f1.length ca)] 79 (0, 0)), blk gd (.cells #[(.slice Ac f3.length cc)] 25 (0, 0)), rowO 3 encInt Ac cc f3] (hS26.poolPush 4 rfl 0 (by simp) rfl (hd1 A16 c17) t11 (hS26.ow 2).ofO [2] (fun g hg => ⟨2, by simp, rowO.fpR (hS26.own 2).1 g hg⟩) _ rfl [0, 1, 3, 5, 6] (by decide) (by decide))
  refine ⟨trivial, ?_⟩
  refine WL.store hS27 3 rfl [(0, (sv A23 (f1 ++ [t11]) c24))] #[(sv A23 (f1 ++ [t11]) c24)] (fun fb => by kernel_rfl) (by kernel_rfl) rfl [0, 1, 2, 4, 5] (by decide) (by decide) (fun w28 hS29 => ?_)
  refine ⟨trivial, ?_⟩
  refine WL.done rfl (WX.next ?_)
  refine WC.ret ?_
  injection hf with hf
  subst hf
  exact WX.thenR (WX.ret_ [] (.tuple #[]) [] (fun fb => by kernel_rfl) trivial ⟨_, rfl, A23, c24, (updH Ha f1.length (hd1 A16 c17)), Ac, cc, rfl, (hS29.sub [0, 2, 1, 4, 5] (by decide)).noR⟩)
 refine WC.condF2 (fun fb => by kernel_rfl) h8 ?_
 refine WC.skip (WX.next (WC.seq (WC.region ?_)))
 refine seg 3 [.v (sv Ab f2 cb)] [0, 2, 3, 4, 5, 18, 19, 20] [(0, (iv p0)), (2, (pt gb)), (3, (pt gc)), (4, (pt gd)), (5, (pt ge)), (18, (sv Ab f2 cb)), (19, (iv (f2.length : Int))), (20, (iv 0))] [.cell ⟨gc, 0, none⟩ (sv Ab f2 cb)] (fun fb => by kernel_rfl) rfl ⟨blk_cell (hS.rd 1).1 0 rfl, trivial⟩ ?_
 refine WL.done rfl (WX.next ?_)
 obtain ⟨x43, hx44, hf⟩ := bind_some hf
 refine WC.cutN (T := ((List Row) × (List Int)) × (Option Addr) × Nat × (Nat → HF) × (Option Addr) × Nat) (fun t => [(2, (pt gb)), (4, (pt gd))]) (fun t w1 => St (fpL [blk gb (.cells #[(sv Aa f1 ca)] 79 (0, 0)), rowO 85 encN_Row Aa ca (tag Ha f1), poolO [nestO subN_Row Ha f1], blk gd (.cells #[(sv Ac f3 cc)] 25 (0, 0)), rowO 3 encInt Ac cc f3]) w w1 [blk ga (.cells #[(iv f0)] 3 (0, 0)), blk gc (.cells #[(sv Ab f2 cb)] 22 (0, 0)), rowR enc_Tile Ab cb f2, blk ge (.cells #[(.func (.func 97) #[] #[(pt ga), (pt gb), (pt gc), (pt gd), (pt ge)])] 129 (0, 0))] [blk gb (.cells #[(sv t.2.1 t.1.1 t.2.2.1)] 79 (0, 0)), rowO 85 encN_Row t.2.1 t.2.2.1 (tag t.2.2.2.1 t.1.1), poolO [nestO subN_Row t.2.2.2.1 t.1.1], blk gd (.cells #[(sv t.2.2.2.2.1 t.1.2 t.2.2.2.2.2)] 25 (0, 0)), rowO 3 encInt t.2.2.2.2.1 t.2.2.2.2.2 t.1.2] ∧ x43 = t.1) (fun Kx43 => ?_) ?_
 ·
  refine WC.block ?_
  refine WC.loop (T := ((List Row) × (List Int) × Int) × (Option Addr) × Nat × (Nat → HF) × (Option Addr) × Nat) (fun t => [(0, (iv p0)), (2, (pt gb)), (3, (pt gc)), (4, (pt gd)), (5, (pt ge)), (18, (sv Ab f2 cb)), (19, (iv (f2.length : Int))), (20, (iv t.1.2.2))]) (fun n t w1 => St (fpL [blk gb (.cells #[(sv Aa f1 ca)] 79 (0, 0)), rowO 85 encN_Row Aa ca (tag Ha f1), poolO [nestO subN_Row Ha f1], blk gd (.cells #[(sv Ac f3 cc)] 25 (0, 0)), rowO 3 encInt Ac cc f3]) w w1 [blk ga (.cells #[(iv f0)] 3 (0, 0)), blk gc (.cells #[(sv Ab f2 cb)] 22 (0, 0)), rowR enc_Tile Ab cb f2, blk ge (.cells #[(.func (.func 97) #[] #[(pt ga), (pt gb), (pt gc), (pt gd), (pt ge)])] 129 (0, 0))] [blk gb (.cells #[(sv t.2.1 t.1.1 t.2.2.1)] 79 (0, 0)), rowO 85 encN_Row t.2.1 t.2.2.1 (tag t.2.2.2.1 t.1.1), poolO [nestO subN_Row t.2.2.2.1 t.1.1], blk gd (.cells #[(sv t.2.2.2.2.1 t.1.2.1 t.2.2.2.2.2)] 25 (0, 0)), rowO 3 encInt t.2.2.2.2.1 t.2.2.2.2.2 t.1.2.1] ∧ rows_All_1.l0 n t.1.1 t.1.2.1 t.1.2.2 p0 f0 f2 rc_ = some x43) k ((f1, f3, 0), Aa, ca, Ha, Ac, cc) [0, 2, 3, 4, 5, 18, 19, 20] rfl ⟨(hS.subR [0, 1, 2, 3]).sub [0, 1, 2, 3, 4] (by decide), hx44⟩ ?_
  rintro k45 ⟨⟨l32, l36, x37⟩, A30, c31, H33, A34, c35⟩ w46 ⟨hS47, hl48⟩
  cases k45 with
  | zero => rw [rows_All_1.l0] at hl48; cases hl48
  | succ k45 =>
   rw [rows_All_1.l0] at hl48
   refine WC.seq (WC.region ?_)
   refine seg 1 [] [0, 2, 3, 4, 5, 18, 19, 20, 21] [(0, (iv p0)), (2, (pt gb)), (3, (pt gc)), (4, (pt gd)), (5, (pt ge)), (18, (sv Ab f2 cb)), (19, (iv (f2.length : Int))), (20, (iv x37)), (21, (bv (decide (x37 < (f2.length : Int)))))] [] (fun fb => by kernel_rfl) rfl trivial ?_
   refine WL.done rfl (WX.next (WC.seq ?_))
   rcases br_some hl48 with ⟨h49, hl48⟩ | ⟨h49, hl48⟩
   ·refine WC.condT2 (fun fb => by kernel_rfl) h49 ?_
    refine WC.skip (WX.next (WC.seq (WC.block (WC.seq (WC.region ?_)))))
    refine seg 1 [] [0, 2, 3, 4, 5, 18, 19, 20, 22] [(0, (iv p0)), (2, (pt gb)), (3, (pt gc)), (4, (pt gd)), (5, (pt ge)), (18, (sv Ab f2 cb)), (19, (iv (f2.length : Int))), (20, (iv x37)), (22, (iv x37))] [] (fun fb => by kernel_rfl) rfl trivial ?_
    obtain ⟨h50, hl48⟩ := as_some hl48
    refine seg 3 [.v (iv ((rdD f2 x37 z_Tile).N)), .v (iv ((rdD f2 x37 z_Tile).E)), .v (iv ((rdD f2 x37 z_Tile).S)), .v (iv ((rdD f2 x37 z_Tile).W))] [0, 2, 3, 4, 5, 18, 19, 20, 22, 24] [(0, (iv p0)), (2, (pt gb)), (3, (pt gc)), (4, (pt gd)), (5, (pt ge)), (18, (sv Ab f2 cb)), (19, (iv (f2.length : Int))), (20, (iv x37)), (22, (iv x37)), (24, (.agg #[(iv ((rdD f2 x37 z_Tile).N)), (iv ((rdD f2 x37 z_Tile).E)), (iv ((rdD f2 x37 z_Tile).S)), (iv ((rdD f2 x37 z_Tile).W))]))] [.idx Ab x37 f2.length, .cell ((adr Ab).add ((x37).toNat * 4)) (iv ((rdD f2 x37 z_Tile).N)), .cell (((adr Ab).add ((x37).toNat * 4)).add 1) (iv ((rdD f2 x37 z_Tile).E)), .cell (((adr Ab).add ((x37).toNat * 4)).add 2) (iv ((rdD f2 x37 z_Tile).S)), .cell (((adr Ab).add ((x37).toNat * 4)).add 3) (iv ((rdD f2 x37 z_Tile).W))] (fun fb => by kernel_rfl) rfl ⟨rowR.adr (hS47.rd 2).1 h50.1 h50.2, rowR.cell (hS47.rd 2).1 z_Tile h50.1 h50.2 0 rfl, rowR.cell (hS47.rd 2).1 z_Tile h50.1 h50.2 1 rfl, rowR.cell (hS47.rd 2).1 z_Tile h50.1 h50.2 2 rfl, rowR.cell (hS47.rd 2).1 z_Tile h50.1 h50.2 3 rfl, trivial⟩ ?_
    refine WL.new hS47 8 [] (fun g => (pt g)) (.cells #[(iv 0), (iv 0), (iv 0), (iv 0)] 40 (0, 0)) [] (fun fb g => by kernel_rfl) trivial (fun g51 w52 hS53 => ?_)
    refine ⟨trivial, ?_⟩
    refine seg 5 [] [0, 2, 3, 4, 5, 7, 8, 18, 19, 20, 24] [(0, (iv p0)), (2, (pt gb)), (3, (pt gc)), (4, (pt gd)), (5, (pt ge)), (7, (iv x37)), (8, (pt g51)), (18, (sv Ab f2 cb)), (19, (iv (f2.length : Int))), (20, (iv x37)), (24, (.agg #[(iv ((rdD f2 x37 z_Tile).N)), (iv ((rdD f2 x37 z_Tile).E)), (iv ((rdD f2 x37 z_Tile).S)), (iv ((rdD f2 x37 z_Tile).W))]))] [] (fun fb => by kernel_rfl) rfl trivial ?_
    refine WL.store hS53 0 rfl [(0, (iv ((rdD f2 x37 z_Tile).N))), (1, (iv ((rdD f2 x37 z_Tile).E))), (2, (iv ((rdD f2 x37 z_Tile).S))), (3, (iv ((rdD f2 x37 z_Tile).W)))] #[(iv ((rdD f2 x37 z_Tile).N)), (iv ((rdD f2 x37 z_Tile).E)), (iv ((rdD f2 x37 z_Tile).S)), (iv ((rdD f2 x37 z_Tile).W))] (fun fb => by kernel_rfl) (by kernel_rfl) rfl [1, 2, 3, 4, 5] (by decide) (by decide) (fun w54 hS55 => ?_)
    refine ⟨trivial, ?_⟩
    refine WL.done rfl (WX.next (WC.seq ?_))
    obtain ⟨x56, hx57, hl48⟩ := bind_some hl48
    refine WC.cutN (T := Bool) (fun t => [(0, (iv p0)), (2, (pt gb)), (3, (pt gc)), (4, (pt gd)), (5, (pt ge)), (7, (iv x37)), (18, (sv Ab f2 cb)), (19, (iv (f2.length : Int))), (20, (iv x37)), (40, (bv t))]) (fun t w1 => St (fpL [blk gb (.cells #[(sv Aa f1 ca)] 79 (0, 0)), rowO 85 encN_Row Aa ca (tag Ha f1), poolO [nestO subN_Row Ha f1], blk gd (.cells #[(sv Ac f3 cc)] 25 (0, 0)), rowO 3 encInt Ac cc f3]) w w1 [blk ga (.cells #[(iv f0)] 3 (0, 0)), blk gc (.cells #[(sv Ab f2 cb)] 22 (0, 0)), rowR enc_Tile Ab cb f2, blk ge (.cells #[(.func (.func 97) #[] #[(pt ga), (pt gb), (pt gc), (pt gd), (pt ge)])] 129 (0, 0))] [blk gb (.cells #[(sv A30 l32 c31)] 79 (0, 0)), rowO 85 encN_Row A30 c31 (tag H33 l32), poolO [nestO subN_Row H33 l32], blk gd (.cells #[(sv A34 l36 c35)] 25 (0, 0)), rowO 3 encInt A34 c35 l36] ∧ x56 = t) (fun Kx56 => ?_) ?_
    ·
     rcases br_some hx57 with ⟨h58, hx57⟩ | ⟨h58, hx57⟩
     ·
      refine WC.regionD ([], [0, 1, 2, 3, 4, 5, 6, 7, 8, 9, 10, 11, 12, 13, 14, 15], [[], [0], [0, 1], [0, 1, 2], [0, 1, 2], [0, 1, 2], [0, 1, 2, 5], [0, 1, 2, 4, 5, 6], [0, 1, 2, 4, 5, 6, 7], [0, 1, 2, 3, 4, 5, 6, 7, 8], [0, 1, 2, 3, 4, 5, 6, 7, 8, 9], [0, 1, 2, 3, 4, 5, 6, 7, 8, 9, 10], [0, 1, 2], [0, 1, 2, 12], [0, 1, 2, 3, 4, 5, 6, 7, 8, 9, 10, 11, 12, 13], [0, 1, 2, 3, 4, 5, 6, 7, 8, 9, 10, 11, 12, 13, 14]]) [[0, 1, 2, 3, 4, 5, 6, 7, 8, 9, 10, 11, 12, 13, 14, 15]] (by kernel_rfl) (by kernel_rfl) (NoPanic.seq (NoPanic.block (NoPanic.seq (NoPanic.seq (NoPanic.block (NoPanic.body)))))) ?_
      have hS60 := hS55.drew
      revert hS60
      generalize World.drew w54 = w59
      intro hS60
      refine ⟨trivial, forallC ?_ (forallN)⟩
      refine seg 3 [] [0, 2, 3, 4, 5, 7, 8, 18, 19, 20, 27] [(0, (iv p0)), (2, (pt gb)), (3, (pt gc)), (4, (pt gd)), (5, (pt ge)), (7, (iv x37)), (8, (pt g51)), (18, (sv Ab f2 cb)), (19, (iv (f2.length : Int))), (20, (iv x37)), (27, (bv (p0 == 0)))] [] (fun fb => by kernel_rfl) rfl trivial ?_
      refine WL.setB 27 h58 rfl ?_
      refine seg 16 [] [0, 2, 3, 4, 5, 7, 18, 19, 20, 40] [(0, (iv p0)), (2, (pt gb)), (3, (pt gc)), (4, (pt gd)), (5, (pt ge)), (7, (iv x37)), (18, (sv Ab f2 cb)), (19, (iv (f2.length : Int))), (20, (iv x37)), (40, (bv true))] [] (fun fb => by kernel_rfl) rfl trivial ?_
      refine WL.done rfl ?_
      injection hx57 with hx57
      exact WX.to Kx56 true [0, 2, 3, 4, 5, 7, 18, 19, 20, 40] rfl ⟨(hS60.subR [0, 1, 2, 3]).sub [1, 2, 3, 4, 5] (by decide), hx57.symm⟩
     obtain ⟨h63, hx57⟩ := as_some hx57
     obtain ⟨h65, hx57⟩ := as_some hx57
     refine WC.regionD ([(3, ⟨gc, 0, none⟩, (sv Ab f2 cb)), (4, ⟨gd, 0, none⟩, (sv A34 l36 c35)), (8, ((adr A34).add ((w64 (p0 - 1)).toNat * 1)), (iv (rdD l36 (w64 (p0 - 1)) 0))), (11, (((adr Ab).add (((rdD l36 (w64 (p0 - 1)) 0)).toNat * 4)).add 1), (iv ((rdD f2 (rdD l36 (w64 (p0 - 1)) 0) z_Tile).E))), (13, ⟨g51, 3, none⟩, (iv ((rdD f2 x37 z_Tile).W)))], [0, 1, 2, 3, 4, 5, 6, 7, 8, 9, 10, 11, 12, 13, 14, 15], [[], [0], [0, 1], [0, 1, 2], [0, 1, 2], [0, 1, 2], [0, 1, 2, 5], [0, 1, 2, 4, 5, 6], [0, 1, 2, 4, 5, 6, 7], [0, 1, 2, 3, 4, 5, 6, 7, 8], [0, 1, 2, 3, 4, 5, 6, 7, 8, 9], [0, 1, 2, 3, 4, 5, 6, 7, 8, 9, 10], [0, 1, 2], [0, 1, 2, 12], [0, 1, 2, 3, 4, 5, 6, 7, 8, 9, 10, 11, 12, 13], [0, 1, 2, 3, 4, 5, 6, 7, 8, 9, 10, 11, 12, 13, 14]]) [[0, 1, 2, 3, 4, 5, 6, 7, 8, 9, 10, 11, 12, 13, 14, 15]] (by kernel_rfl) (by kernel_rfl) (NoPanic.seq (NoPanic.block (NoPanic.seq (NoPanic.seq (NoPanic.block (NoPanic.body)))))) ?_
     have hS62 := hS55.drew
     revert hS62
     generalize World.drew w54 = w61
     intro hS62
     refine ⟨⟨blk_cell (hS62.rd 1).1 0 rfl, hS62.cell 4 rfl 0 rfl, rowR.cell (rowO.rd (hS62.own 5).1) 0 h63.1 h63.2 0 rfl, rowR.cell (hS62.rd 2).1 z_Tile h65.1 h65.2 1 rfl, hS62.cell 0 rfl 3 rfl, trivial⟩, forallC ?_ (forallN)⟩
     refine seg 3 [] [0, 2, 3, 4, 5, 7, 8, 18, 19, 20, 27] [(0, (iv p0)), (2, (pt gb)), (3, (pt gc)), (4, (pt gd)), (5, (pt ge)), (7, (iv x37)), (8, (pt g51)), (18, (sv Ab f2 cb)), (19, (iv (f2.length : Int))), (20, (iv x37)), (27, (bv (p0 == 0)))] [] (fun fb => by kernel_rfl) rfl trivial ?_
     refine WL.setB 27 h58 rfl ?_
     refine segF 16 [.v (sv Ab f2 cb), .v (sv A34 l36 c35), .v (iv (rdD l36 (w64 (p0 - 1)) 0)), .v (iv ((rdD f2 (rdD l36 (w64 (p0 - 1)) 0) z_Tile).E)), .v (iv ((rdD f2 x37 z_Tile).W))] [0, 2, 3, 4, 5, 7, 18, 19, 20, 40] [(0, (iv p0)), (2, (pt gb)), (3, (pt gc)), (4, (pt gd)), (5, (pt ge)), (7, (iv x37)), (18, (sv Ab f2 cb)), (19, (iv (f2.length : Int))), (20, (iv x37)), (40, (bv (((rdD f2 (rdD l36 (w64 (p0 - 1)) 0) z_Tile).E) == ((rdD f2 x37 z_Tile).W))))] [.idx A34 (w64 (p0 - 1)) l36.length, .idx Ab (rdD l36 (w64 (p0 - 1)) 0) f2.length] [0, 1, 2, 3, 4] [(3, ⟨gc, 0, none⟩, (sv Ab f2 cb)), (4, ⟨gd, 0, none⟩, (sv A34 l36 c35)), (8, ((adr A34).add ((w64 (p0 - 1)).toNat * 1)), (iv (rdD l36 (w64 (p0 - 1)) 0))), (11, (((adr Ab).add (((rdD l36 (w64 (p0 - 1)) 0)).toNat * 4)).add 1), (iv ((rdD f2 (rdD l36 (w64 (p0 - 1)) 0) z_Tile).E))), (13, ⟨g51, 3, none⟩, (iv ((rdD f2 x37 z_Tile).W)))] (fun fb => by kernel_rfl) rfl ⟨rowR.adr (rowO.rd (hS62.own 5).1) h63.1 h63.2, rowR.adr (hS62.rd 2).1 h65.1 h65.2, trivial⟩ rfl ?_
     refine WL.done rfl ?_
     injection hx57 with hx57
     exact WX.to Kx56 (((rdD f2 (rdD l36 (w64 (p0 - 1)) 0) z_Tile).E) == ((rdD f2 x37 z_Tile).W)) [0, 2, 3, 4, 5, 7, 18, 19, 20, 40] rfl ⟨(hS62.subR [0, 1, 2, 3]).sub [1, 2, 3, 4, 5] (by decide), hx57.symm⟩
    rintro y69 w66 ⟨hS67, hq68⟩
    subst hq68
    refine WX.next ?_
    obtain ⟨x75, hx76, hl48⟩ := bind_some hl48
    refine WC.cutN (T := ((List Row) × (List Int)) × (Option Addr) × Nat × (Nat → HF) × (Option Addr) × Nat) (fun t => [(0, (iv p0)), (2, (pt gb)), (3, (pt gc)), (4, (pt gd)), (5, (pt ge)), (18, (sv Ab f2 cb)), (19, (iv (f2.length : Int))), (20, (iv x37))]) (fun t w1 => St (fpL [blk gb (.cells #[(sv Aa f1 ca)] 79 (0, 0)), rowO 85 encN_Row Aa ca (tag Ha f1), poolO [nestO subN_Row Ha f1], blk gd (.cells #[(sv Ac f3 cc)] 25 (0, 0)), rowO 3 encInt Ac cc f3]) w w1 [blk ga (.cells #[(iv f0)] 3 (0, 0)), blk gc (.cells #[(sv Ab f2 cb)] 22 (0, 0)), rowR enc_Tile Ab cb f2, blk ge (.cells #[(.func (.func 97) #[] #[(pt ga), (pt gb), (pt gc), (pt gd), (pt ge)])] 129 (0, 0))] [blk gb (.cells #[(sv t.2.1 t.1.1 t.2.2.1)] 79 (0, 0)), rowO 85 encN_Row t.2.1 t.2.2.1 (tag t.2.2.2.1 t.1.1), poolO [nestO subN_Row t.2.2.2.1 t.1.1], blk gd (.cells #[(sv t.2.2.2.2.1 t.1.2 t.2.2.2.2.2)] 25 (0, 0)), rowO 3 encInt t.2.2.2.2.1 t.2.2.2.2.2 t.1.2] ∧ x75 = t.1) (fun Kx75 => ?_) ?_
    ·
     rcases br_some hx76 with ⟨h77, hx76⟩ | ⟨h77, hx76⟩
     ·refine WC.condT2 (fun fb => by kernel_rfl) h77 ?_
      refine WC.seq (WC.region ?_)
      refine seg 3 [.v (sv A34 l36 c35)] [0, 2, 3, 4, 5, 18, 19, 20, 41, 42, 43] [(0, (iv p0)), (2, (pt gb)), (3, (pt gc)), (4, (pt gd)), (5, (pt ge)), (18, (sv Ab f2 cb)), (19, (iv (f2.length : Int))), (20, (iv x37)), (41, (sv A34 l36 c35)), (42, (iv p0)), (43, (iv x37))] [.cell ⟨gd, 0, none⟩ (sv A34 l36 c35)] (fun fb => by kernel_rfl) rfl ⟨hS67.cell 3 rfl 0 rfl, trivial⟩ ?_
      obtain ⟨h78, hx76⟩ := as_some hx76
      refine seg 4 [] [0, 2, 3, 4, 5, 18, 19, 20, 43, 44] [(0, (iv p0)), (2, (pt gb)), (3, (pt gc)), (4, (pt gd)), (5, (pt ge)), (18, (sv Ab f2 cb)), (19, (iv (f2.length : Int))), (20, (iv x37)), (43, (iv x37)), (44, (.pointer (some ((adr A34).add ((p0).toNat * 1)))))] [.idx A34 p0 l36.length] (fun fb => by kernel_rfl) rfl ⟨rowR.adr (rowO.rd (hS67.own 4).1) h78.1 h78.2, trivial⟩ ?_
      refine WL.storeRow hS67 4 rfl (p0) (x37) (0) [(0, (iv x37))] (fun fb => by kernel_rfl) h78.1 h78.2 (by kernel_rfl) rfl [0, 1, 2, 3] (by decide) (by decide) (fun w79 hS80 => ?_)
      refine ⟨trivial, ?_⟩
      have hS81 : St (fpL [blk gb (.cells #[(.slice Aa f1.length ca)] 79 (0, 0)), rowO 85 encN_Row Aa ca (tag Ha f1), poolO [nestO subN_Row Ha f1], blk gd (.cells #[(.slice Ac f3.length cc)] 25 (0, 0)), rowO 3 encInt Ac cc f3]) w w79 [blk ga (.cells #[(iv f0)] 3 (0, 0)), blk gc (.cells #[(.slice Ab f2.length cb)] 22 (0, 0)), rowR enc_Tile Ab cb f2, blk ge (.cells #[(.func (.func 97) #[] #[(pt ga), (pt gb), (pt gc), (pt gd), (pt ge)])] 129 (0, 0))] [rowO 3 encInt A34 c35 (l36.set (p0).toNat x37), blk gb (.cells #[(.slice A30 l32.length c31)] 79 (0, 0)), rowO 85 encN_Row A30 c31 (tag H33 l32), poolO [nestO subN_Row H33 l32], blk gd (.cells #[(.slice A34 (l36.set (p0).toNat x37).length c35)] 25 (0, 0))] := by simpa only [List.length_set] using (show St (fpL [blk gb (.cells #[(.slice Aa f1.length ca)] 79 (0, 0)), rowO 85 encN_Row Aa ca (tag Ha f1), poolO [nestO subN_Row Ha f1], blk gd (.cells #[(.slice Ac f3.length cc)] 25 (0, 0)), rowO 3 encInt Ac cc f3]) w w79 [blk ga (.cells #[(iv f0)] 3 (0, 0)), blk gc (.cells #[(.slice Ab f2.length cb)] 22 (0, 0)), rowR enc_Tile Ab cb f2, blk ge (.cells #[(.func (.func 97) #[] #[(pt ga), (pt gb), (pt gc), (pt gd), (pt ge)])] 129 (0, 0))] [rowO 3 encInt A34 c35 (l36.set (p0).toNat x37), blk gb (.cells #[(.slice A30 l32.length c31)] 79 (0, 0)), rowO 85 encN_Row A30 c31 (tag H33 l32), poolO [nestO subN_Row H33 l32], blk gd (.cells #[(.slice A34 l36.length c35)] 25 (0, 0))] from hS80)
      refine WL.done rfl (WX.next (WC.region ?_))
      refine seg 3 [.v (.func (.func 97) #[] #[(pt ga), (pt gb), (pt gc), (pt gd), (pt ge)])] [0, 2, 3, 4, 5, 18, 19, 20, 45, 47] [(0, (iv p0)), (2, (pt gb)), (3, (pt gc)), (4, (pt gd)), (5, (pt ge)), (18, (sv Ab f2 cb)), (19, (iv (f2.length : Int))), (20, (iv x37)), (45, (.func (.func 97) #[] #[(pt ga), (pt gb), (pt gc), (pt gd), (pt ge)])), (47, (iv (w64 (p0 + 1))))] [.cell ⟨ge, 0, none⟩ (.func (.func 97) #[] #[(pt ga), (pt gb), (pt gc), (pt gd), (pt ge)])] (fun fb => by kernel_rfl) rfl ⟨blk_cell (hS81.rd 3).1 0 rfl, trivial⟩ ?_
      obtain ⟨t82, ht83, hx76⟩ := bind_some hx76
      refine WL.call (some 48) 97 #[(iv (w64 (p0 + 1))), (pt ga), (pt gb), (pt gc), (pt gd), (pt ge)] (fun fb => by kernel_rfl) (ih_ (w64 (p0 + 1)) f0 l32 f2 (l36.set (p0).toNat x37) ga gb A30 c31 H33 gc Ab cb gd A34 c35 ge t82 _ (hS81.rdT [1, 2, 3, 4, 0] 0) (hS81.rdT [1, 2, 3, 4, 0] 1) (hS81.rdT [1, 2, 3, 4, 0] 2) (hS81.rdT [1, 2, 3, 4, 0] 3) (hS81.io [1, 2, 3, 4, 0] (by decide)) ht83) (fun v w84 hR85 => ?_)
      obtain ⟨A87, c88, H89, A90, c91, rfl, hk_⟩ := hR85
      have hS86 := hS.go w84 [blk gb (.cells #[(sv A87 t82.1 c88)] 79 (0, 0)), rowO 85 encN_Row A87 c88 (tag H89 t82.1), poolO [nestO subN_Row H89 t82.1], blk gd (.cells #[(sv A90 t82.2 c91)] 25 (0, 0)), rowO 3 encInt A90 c91 t82.2] (hS81.call hk_ [1, 2, 3, 4, 0] [] (fun g hg => fpL_sel g hg) (by decide) (by decide))
      refine ⟨trivial, ?_⟩
      refine WL.done rfl ?_
      injection hx76 with hx76
      exact WX.to Kx75 ((t82.1, t82.2), A87, c88, H89, A90, c91) [0, 2, 3, 4, 5, 18, 19, 20] rfl ⟨(hS86.subR [0, 1, 2, 3]).sub [0, 1, 2, 3, 4] (by decide), hx76.symm⟩
     refine WC.condF2 (fun fb => by kernel_rfl) h77 ?_
     refine WC.skip ?_
     injection hx76 with hx76
     exact WX.to Kx75 ((l32, l36), A30, c31, H33, A34, c35) [0, 2, 3, 4, 5, 18, 19, 20] rfl ⟨(hS67.subR [0, 1, 2, 3]).sub [0, 1, 2, 3, 4] (by decide), hx76.symm⟩
    rintro ⟨y95, A70, c71, H72, A73, c74⟩ w92 ⟨hS93, hq94⟩
    subst hq94
    refine WX.blockN (WX.next ?_)
    refine WC.region ?_
    refine seg 2 [] [0, 2, 3, 4, 5, 18, 19, 20] [(0, (iv p0)), (2, (pt gb)), (3, (pt gc)), (4, (pt gd)), (5, (pt ge)), (18, (sv Ab f2 cb)), (19, (iv (f2.length : Int))), (20, (iv (w64 (x37 + 1))))] [] (fun fb => by kernel_rfl) rfl trivial ?_
    refine WL.done rfl ?_
    exact WX.again k45 (Nat.lt_succ_self _) ((x75.1, x75.2, w64 (x37 + 1)), A70, c71, H72, A73, c74) [0, 2, 3, 4, 5, 18, 19, 20] rfl ⟨(hS93.subR [0, 1, 2, 3]).sub [0, 1, 2, 3, 4] (by decide), hl48⟩
   refine WC.condF2 (fun fb => by kernel_rfl) h49 ?_
   refine WC.exit ?_
   injection hl48 with hl48
   exact WX.thenX (WX.thenX (WX.blockHere (WX.to Kx43 ((l32, l36), A30, c31, H33, A34, c35) [2, 4] rfl ⟨(hS47.subR [0, 1, 2, 3]).sub [0, 1, 2, 3, 4] (by decide), hl48.symm⟩)))
 rintro ⟨y100, A38, c39, H40, A41, c42⟩ w96 ⟨hS98, hq99⟩
 subst hq99
 injection hf with hf
 subst hf
 exact WX.end_ [] (.tuple #[]) [] (fun fb => by kernel_rfl) trivial ⟨_, rfl, A38, c39, H40, A41, c42, rfl, (hS98.sub [0, 1, 2, 3, 4] (by decide)).noR⟩
theorem rows_All_calls (k : Nat) (p0 : List Tile) (p1 : Int) (Aa : Option Addr) (ca : Nat) (r : (List Row)) (w : World) (hR0 : RO NoS w (rowR enc_Tile Aa ca p0)) (hf : rows_All k p0 p1 = some r) :
  CallsR Tryd.prog 83 #[(sv Aa p0 ca), (iv p1)] w (fun v w' => ∃ (A1_ : Option Addr), ∃ (c1_ : Nat), ∃ (h1_ : Nat → HF), v = (sv A1_ r c1_) ∧ St NoS w w' [] [rowO 85 encN_Row A1_ c1_ (tag h1_ r), poolO [nestO subN_Row h1_ r]]) := by
 have hS : St NoS w w [rowR enc_Tile Aa ca p0] [] := St.init (ro_cons hR0 (ro_nil _ _))
 refine enter 14 Tryd.func83 rfl Tryd.ntmps83 rfl ?_
 unfold rows_All at hf
 refine WC.seq (WC.region ?_)
 refine WL.new hS 2 [] (fun g => (pt g)) (.cells #[(sv Aa p0 ca)] 22 (0, 0)) [] (fun fb g => by kernel_rfl) trivial (fun g2 w3 hS4 => ?_)
 refine ⟨trivial, ?_⟩
 refine WL.new hS4 3 [] (fun g => (pt g)) (.cells #[(iv p1)] 3 (0, 0)) [] (fun fb g => by kernel_rfl) trivial (fun g5 w6 hS7 => ?_)
 refine ⟨trivial, ?_⟩
 refine seg 3 [] [2, 3] [(2, (pt g2)), (3, (pt g5))] [] (fun fb => by kernel_rfl) rfl trivial ?_
 refine WL.done rfl (WX.next (WC.seq (WC.region ?_)))
 refine WL.new hS7 5 [] (fun g => (pt g)) (.cells #[(.slice none 0 0)] 79 (0, 0)) [] (fun fb g => by kernel_rfl) trivial (fun g8 w9 hS10 => ?_)
 refine ⟨trivial, ?_⟩
 refine WL.done rfl (WX.next (WC.seq (WC.region ?_)))
 refine seg 1 [.v (iv p1)] [2, 3, 5, 8] [(2, (pt g2)), (3, (pt g5)), (5, (pt g8)), (8, (iv p1))] [.cell ⟨g5, 0, none⟩ (iv p1)] (fun fb => by kernel_rfl) rfl ⟨hS10.cell 1 rfl 0 rfl, trivial⟩ ?_
 obtain ⟨h11, hf⟩ := as_some hf
 refine WL.make hS10 (e := encInt) (T := 3) (tS := 25) (z := (iv 0)) (bytes := 8) (d := 9) (0 : Int) p1 (fun fb => by kernel_rfl) (by kernel_rfl) (by kernel_rfl) rfl (by decide) h11 (by decide) (fun g12 w13 hS14 => ?_)
 refine ⟨trivial, ?_⟩
 refine WL.new hS14 6 [] (fun g => (pt g)) (.cells #[(.slice none 0 0)] 25 (0, 0)) [] (fun fb g => by kernel_rfl) trivial (fun g15 w16 hS17 => ?_)
 refine ⟨trivial, ?_⟩
 refine WL.store hS17 0 rfl [(0, (sv (some ⟨g12, 0, none⟩) (List.replicate p1.toNat (0 : Int)) p1.toNat))] #[(sv (some ⟨g12, 0, none⟩) (List.replicate p1.toNat (0 : Int)) p1.toNat)] (fun fb => by kernel_rfl) (by kernel_rfl) rfl [1, 2, 3, 4] (by decide) (by decide) (fun w18 hS19 => ?_)
 refine ⟨trivial, ?_⟩
 refine WL.done rfl (WX.next (WC.seq (WC.region ?_)))
 refine WL.new hS19 7 [] (fun g => (pt g)) (.cells #[.nilFunc] 129 (0, 0)) [] (fun fb g => by kernel_rfl) trivial (fun g20 w21 hS22 => ?_)
 refine ⟨trivial, ?_⟩
 refine WL.done rfl (WX.next (WC.seq (WC.region ?_)))
 refine seg 1 [] [5, 7, 10] [(5, (pt g8)), (7, (pt g20)), (10, (.func (.func 97) #[] #[(pt g5), (pt g8), (pt g2), (pt g15), (pt g20)]))] [] (fun fb => by kernel_rfl) rfl trivial ?_
 refine WL.store hS22 0 rfl [(0, (.func (.func 97) #[] #[(pt g5), (pt g8), (pt g2), (pt g15), (pt g20)]))] #[(.func (.func 97) #[] #[(pt g5), (pt g8), (pt g2), (pt g15), (pt g20)])] (fun fb => by kernel_rfl) (by kernel_rfl) rfl [1, 2, 3, 4, 5] (by decide) (by decide) (fun w23 hS24 => ?_)
 refine ⟨trivial, ?_⟩
 refine WL.done rfl (WX.next (WC.seq (WC.region ?_)))
 refine seg 1 [.v (.func (.func 97) #[] #[(pt g5), (pt g8), (pt g2), (pt g15), (pt g20)])] [5, 11] [(5, (pt g8)), (11, (.func (.func 97) #[] #[(pt g5), (pt g8), (pt g2), (pt g15), (pt g20)]))] [.cell ⟨g20, 0, none⟩ (.func (.func 97) #[] #[(pt g5), (pt g8), (pt g2), (pt g15), (pt g20)])] (fun fb => by kernel_rfl) rfl ⟨hS24.cell 0 rfl 0 rfl, trivial⟩ ?_
 have hS25 := hS.go w23 [rowO 85 encN_Row none 0 (tag h0 ([] : List Row)), blk g20 (.cells #[(.func (.func 97) #[] #[(pt g5), (pt g8), (pt g2), (pt g15), (pt g20)])] 129 (0, 0)), blk g15 (.cells #[(sv (some ⟨g12, 0, none⟩) (List.replicate p1.toNat (0 : Int)) p1.toNat)] 25 (0, 0)), rowO 3 encInt (some ⟨g12, 0, none⟩) p1.toNat (List.replicate p1.toNat (0 : Int)), blk g8 (.cells #[(.slice none 0 0)] 79 (0, 0)), blk g5 (.cells #[(iv p1)] 3 (0, 0)), blk g2 (.cells #[(sv Aa p0 ca)] 22 (0, 0))] (hS24.nilrow 85 encN_Row)
 have hS26 := hS25.poolNil subN_Row h0
 obtain ⟨t27, ht28, hf⟩ := bind_some hf
 refine WL.call (some 12) 97 #[(iv 0), (pt g5), (pt g8), (pt g2), (pt g15), (pt g20)] (fun fb => by kernel_rfl) (rows_All_1_calls _ 0 p1 ([] : List Row) p0 (List.replicate p1.toNat (0 : Int)) g5 g8 none 0 h0 g2 Aa ca g15 (some ⟨g12, 0, none⟩) p1.toNat g20 t27 _ (hS26.owT [5, 1, 0, 3, 4] 6 (by decide)) (hS26.owT [5, 1, 0, 3, 4] 7 (by decide)) (hS26.rdT [5, 1, 0, 3, 4] 0) (hS26.owT [5, 1, 0, 3, 4] 2 (by decide)) (hS26.io [5, 1, 0, 3, 4] (by decide)) ht28) (fun v w29 hR30 => ?_)
 obtain ⟨A32, c33, H34, A35, c36, rfl, hk_⟩ := hR30
 have hS31 := hS25.go w29 [blk g8 (.cells #[(sv A32 t27.1 c33)] 79 (0, 0)), rowO 85 encN_Row A32 c33 (tag H34 t27.1), poolO [nestO subN_Row H34 t27.1], blk g15 (.cells #[(sv A35 t27.2 c36)] 25 (0, 0)), rowO 3 encInt A35 c36 t27.2, blk g20 (.cells #[(.func (.func 97) #[] #[(pt g5), (pt g8), (pt g2), (pt g15), (pt g20)])] 129 (0, 0)), blk g5 (.cells #[(iv p1)] 3 (0, 0)), blk g2 (.cells #[(sv Aa p0 ca)] 22 (0, 0))] (hS26.call hk_ [5, 1, 0, 3, 4] [2, 6, 7] (fun g hg => fpL_sel g hg) (by decide) (by decide))
 refine ⟨trivial, ?_⟩
 refine WL.done rfl (WX.next (WC.seq (WC.region ?_)))
 refine seg 2 [.v (sv A32 t27.1 c33)] [4] [(4, (sv A32 t27.1 c33))] [.cell ⟨g8, 0, none⟩ (sv A32 t27.1 c33)] (fun fb => by kernel_rfl) rfl ⟨hS31.cell 0 rfl 0 rfl, trivial⟩ ?_
 refine WL.done rfl (WX.next ?_)
 refine WC.ret ?_
 injection hf with hf
 subst hf
 exact WX.ret_ [] (sv A32 t27.1 c33) [] (fun fb => by kernel_rfl) trivial ⟨_, rfl, A32, c33, H34, rfl, (hS31.sub [1, 2] (by decide)).noR⟩
theorem fill_begin_calls (k : Nat) (p0 : List Tile) (p1 : Int) (p2 : Int) (p3 : Edges) (Aa : Option Addr) (ca : Nat) (Ab : Option Addr) (cb : Nat) (Ac : Option Addr) (cc : Nat) (Ad : Option Addr) (cd : Nat) (Ae : Option Addr) (ce : Nat) (r : (Option Job) × Int) (w : World) (hR0 : RO NoS w (rowR enc_Tile Aa ca p0)) (hR1 : RO NoS w (rowR encInt Ab cb p3.North)) (hR2 : RO NoS w (rowR encInt Ac cc p3.East)) (hR3 : RO NoS w (rowR encInt Ad cd p3.South)) (hR4 : RO NoS w (rowR encInt Ae ce p3.West)) (hf : fill_begin k p0 p1 p2 p3 = some r) :
  CallsR Tryd.prog 58 #[(sv Aa p0 ca), (iv p1), (iv p2), (.agg #[(sv Ab p3.North cb), (sv Ac p3.East cc), (sv Ad p3.South cd), (sv Ae p3.West ce)])] w (fun v w' => ∃ (g1_ : Nat), ∃ (A2_ : Option Addr), ∃ (c2_ : Nat), ∃ (h2_ : Nat → HF), v = (.tuple #[(optP r.1 g1_), (iv r.2)]) ∧ optS r.1 (Keeps NoS w w') (fun y_ => St NoS w w' [] [blk g1_ (.cells #[(sv A2_ y_.rows c2_), (iv y_.width), (iv y_.height), (sv Ab p3.North cb), (sv Ac p3.East cc), (sv Ad p3.South cd), (sv Ae p3.West ce)] 81 (0, 0)), rowO 85 encN_Row A2_ c2_ (tag h2_ y_.rows), poolO [nestO subN_Row h2_ y_.rows]])) := by
 have hS : St NoS w w [rowR enc_Tile Aa ca p0, rowR encInt Ab cb p3.North, rowR encInt Ac cc p3.East, rowR encInt Ad cd p3.South, rowR encInt Ae ce p3.West] [] := St.init (ro_cons hR0 (ro_cons hR1 (ro_cons hR2 (ro_cons hR3 (ro_cons hR4 (ro_nil _ _))))))
 refine enter 76 Tryd.func58 rfl Tryd.ntmps58 rfl ?_
 unfold fill_begin at hf
 refine WC.seq (WC.region ?_)
 refine WL.new hS 7 [] (fun g => (pt g)) (.cells #[(sv Ab p3.North cb), (sv Ac p3.East cc), (sv Ad p3.South cd), (sv Ae p3.West ce)] 44 (0, 0)) [] (fun fb g => by kernel_rfl) trivial (fun g5 w6 hS7 => ?_)
 refine ⟨trivial, ?_⟩
 refine seg 3 [] [0, 1, 2, 7] [(0, (sv Aa p0 ca)), (1, (iv p1)), (2, (iv p2)), (7, (pt g5))] [] (fun fb => by kernel_rfl) rfl trivial ?_
 refine WL.done rfl (WX.next (WC.seq (WC.seq (WC.region ?_))))
 refine seg 1 [] [0, 1, 2, 7, 12] [(0, (sv Aa p0 ca)), (1, (iv p1)), (2, (iv p2)), (7, (pt g5)), (12, (sv Aa p0 ca))] [] (fun fb => by kernel_rfl) rfl trivial ?_
 obtain ⟨t8, ht9, hf⟩ := bind_some hf
 refine WL.call (some 13) 52 #[(sv Aa p0 ca)] (fun fb => by kernel_rfl) (tile_Valid_calls _ p0 Aa ca t8 _ (hS7.rd 0) ht9) (fun v w10 hR11 => ?_)
 obtain ⟨rfl, hk_⟩ := hR11
 have hS12 := hS7.keepN hk_
 refine ⟨trivial, ?_⟩
 refine seg 3 [] [0, 1, 2, 7, 14] [(0, (sv Aa p0 ca)), (1, (iv p1)), (2, (iv p2)), (7, (pt g5)), (14, (bv (!t8)))] [] (fun fb => by kernel_rfl) rfl trivial ?_
 refine WL.done rfl (WX.next ?_)
 rcases br_some hf with ⟨h13, hf⟩ | ⟨h13, hf⟩
 ·refine WC.condT2 (fun fb => by kernel_rfl) h13 ?_
  refine WC.seq (WC.region ?_)
  refine seg 2 [] [8, 9] [(8, (.pointer none)), (9, (iv 1))] [] (fun fb => by kernel_rfl) rfl trivial ?_
  refine WL.done rfl (WX.next ?_)
  refine WC.ret ?_
  injection hf with hf
  subst hf
  exact WX.thenR (WX.ret_ [] (.tuple #[(.pointer none), (iv 1)]) [] (fun fb => by kernel_rfl) trivial ⟨_, rfl, 0, none, 0, h0, rfl, hS12.keep⟩)
 refine WC.condF2 (fun fb => by kernel_rfl) h13 ?_
 refine WC.skip (WX.next (WC.seq (WC.seq (WC.region ?_))))
 refine seg 3 [] [0, 1, 2, 7, 17] [(0, (sv Aa p0 ca)), (1, (iv p1)), (2, (iv p2)), (7, (pt g5)), (17, (bv (decide (p1 < 1))))] [] (fun fb => by kernel_rfl) rfl trivial ?_
 refine WL.cutV (T := Bool) 6 (fun t => [(20, (bv t)), (0, (sv Aa p0 ca)), (1, (iv p1)), (2, (iv p2)), (7, (pt g5))]) (fun t => ((decide (p1 < 1)) || (decide (p1 > 8))) = t) (fun K => ?_) ?_
 ·
  rcases Bool.eq_false_or_eq_true (decide (p1 < 1)) with h14 | h14
  ·
   refine WL.setB 17 h14 rfl ?_
   refine seg 6 [] [0, 1, 2, 7, 20] [(0, (sv Aa p0 ca)), (1, (iv p1)), (2, (iv p2)), (7, (pt g5)), (20, (bv true))] [] (fun fb => by kernel_rfl) rfl trivial ?_
   exact WL.toV K true [20, 0, 1, 2, 7] rfl (by first | (rw [h14]; done) | (rw [h14]; rfl))
  refine WL.setB 17 h14 rfl ?_
  refine seg 6 [] [0, 1, 2, 7, 20] [(0, (sv Aa p0 ca)), (1, (iv p1)), (2, (iv p2)), (7, (pt g5)), (20, (bv (decide (p1 > 8))))] [] (fun fb => by kernel_rfl) rfl trivial ?_
  exact WL.toV K (decide (p1 > 8)) [20, 0, 1, 2, 7] rfl (by first | (rw [h14]; done) | (rw [h14]; rfl))
 rintro b15 rfl
 refine seg 7 [] [0, 1, 2, 7, 21] [(0, (sv Aa p0 ca)), (1, (iv p1)), (2, (iv p2)), (7, (pt g5)), (21, (bv ((decide (p1 < 1)) || (decide (p1 > 8)))))] [] (fun fb => by kernel_rfl) rfl trivial ?_
 refine WL.cutV (T := Bool) 10 (fun t => [(24, (bv t)), (0, (sv Aa p0 ca)), (1, (iv p1)), (2, (iv p2)), (7, (pt g5))]) (fun t => (((decide (p1 < 1)) || (decide (p1 > 8))) || (decide (p2 < 1))) = t) (fun K => ?_) ?_
 ·
  rcases Bool.eq_false_or_eq_true ((decide (p1 < 1)) || (decide (p1 > 8))) with h16 | h16
  ·
   refine WL.setB 21 h16 rfl ?_
   refine seg 10 [] [0, 1, 2, 7, 24] [(0, (sv Aa p0 ca)), (1, (iv p1)), (2, (iv p2)), (7, (pt g5)), (24, (bv true))] [] (fun fb => by kernel_rfl) rfl trivial ?_
   exact WL.toV K true [24, 0, 1, 2, 7] rfl (by first | (rw [h16]; done) | (rw [h16]; rfl))
  refine WL.setB 21 h16 rfl ?_
  refine seg 10 [] [0, 1, 2, 7, 24] [(0, (sv Aa p0 ca)), (1, (iv p1)), (2, (iv p2)), (7, (pt g5)), (24, (bv (decide (p2 < 1))))] [] (fun fb => by kernel_rfl) rfl trivial ?_
  exact WL.toV K (decide (p2 < 1)) [24, 0, 1, 2, 7] rfl (by first | (rw [h16]; done) | (rw [h16]; rfl))
 rintro b17 rfl
 refine seg 11 [] [0, 1, 2, 7, 25] [(0, (sv Aa p0 ca)), (1, (iv p1)), (2, (iv p2)), (7, (pt g5)), (25, (bv (((decide (p1 < 1)) || (decide (p1 > 8))) || (decide (p2 < 1)))))] [] (fun fb => by kernel_rfl) rfl trivial ?_
 refine WL.cutV (T := Bool) 14 (fun t => [(28, (bv t)), (0, (sv Aa p0 ca)), (1, (iv p1)), (2, (iv p2)), (7, (pt g5))]) (fun t => ((((decide (p1 < 1)) || (decide (p1 > 8))) || (decide (p2 < 1))) || (decide (p2 > 60))) = t) (fun K => ?_) ?_
 ·
  rcases Bool.eq_false_or_eq_true (((decide (p1 < 1)) || (decide (p1 > 8))) || (decide (p2 < 1))) with h18 | h18
  ·
   refine WL.setB 25 h18 rfl ?_
   refine seg 14 [] [0, 1, 2, 7, 28] [(0, (sv Aa p0 ca)), (1, (iv p1)), (2, (iv p2)), (7, (pt g5)), (28, (bv true))] [] (fun fb => by kernel_rfl) rfl trivial ?_
   exact WL.toV K true [28, 0, 1, 2, 7] rfl (by first | (rw [h18]; done) | (rw [h18]; rfl))
  refine WL.setB 25 h18 rfl ?_
  refine seg 14 [] [0, 1, 2, 7, 28] [(0, (sv Aa p0 ca)), (1, (iv p1)), (2, (iv p2)), (7, (pt g5)), (28, (bv (decide (p2 > 60))))] [] (fun fb => by kernel_rfl) rfl trivial ?_
  exact WL.toV K (decide (p2 > 60)) [28, 0, 1, 2, 7] rfl (by first | (rw [h18]; done) | (rw [h18]; rfl))
 rintro b19 rfl
 refine WL.done rfl (WX.next ?_)
 rcases br_some hf with ⟨h20, hf⟩ | ⟨h20, hf⟩
 ·refine WC.condT2 (fun fb => by kernel_rfl) h20 ?_
  refine WC.seq (WC.region ?_)
  refine seg 2 [] [8, 9] [(8, (.pointer none)), (9, (iv 2))] [] (fun fb => by kernel_rfl) rfl trivial ?_
  refine WL.done rfl (WX.next ?_)
  refine WC.ret ?_
  injection hf with hf
  subst hf
  exact WX.thenR (WX.ret_ [] (.tuple #[(.pointer none), (iv 2)]) [] (fun fb => by kernel_rfl) trivial ⟨_, rfl, 0, none, 0, h0, rfl, hS12.keep⟩)
 refine WC.condF2 (fun fb => by kernel_rfl) h20 ?_
 refine WC.skip (WX.next (WC.seq (WC.seq (WC.region ?_))))
 refine seg 16 [.v (sv Ab p3.North cb), .v (sv Ad p3.South cd), .v (sv Ac p3.East cc), .v (sv Ae p3.West ce)] [0, 1, 2, 7, 32, 36, 40, 44] [(0, (sv Aa p0 ca)), (1, (iv p1)), (2, (iv p2)), (7, (pt g5)), (32, (.agg #[(sv Ab p3.North cb), (iv p1)])), (36, (.agg #[(sv Ad p3.South cd), (iv p1)])), (40, (.agg #[(sv Ac p3.East cc), (iv p2)])), (44, (.agg #[(sv Ae p3.West ce), (iv p2)]))] [.cell ⟨g5, 0, none⟩ (sv Ab p3.North cb), .cell ⟨g5, 2, none⟩ (sv Ad p3.South cd), .cell ⟨g5, 1, none⟩ (sv Ac p3.East cc), .cell ⟨g5, 3, none⟩ (sv Ae p3.West ce)] (fun fb => by kernel_rfl) rfl ⟨hS12.cell 0 rfl 0 rfl, hS12.cell 0 rfl 2 rfl, hS12.cell 0 rfl 1 rfl, hS12.cell 0 rfl 3 rfl, trivial⟩ ?_
 refine WL.new hS12 45 [] (fun g => (.slice (some ⟨g, 0, none⟩) 4 4)) (.cells #[(sv Ab p3.North cb), (iv p1), (sv Ad p3.South cd), (iv p1), (sv Ac p3.East cc), (iv p2), (sv Ae p3.West ce), (iv p2)] 120 (0, 0)) [] (fun fb g => by kernel_rfl) trivial (fun g21 w22 hS23 => ?_)
 refine ⟨trivial, ?_⟩
 have hS25 : St NoS w w22 [nestO subN_S_side_n (hlN [(hd1 Ab cb), (hd1 Ad cd), (hd1 Ac cc), (hd1 Ae ce)]) [(S_side_n.mk p3.North p1), (S_side_n.mk p3.South p1), (S_side_n.mk p3.East p2), (S_side_n.mk p3.West p2)], rowR enc_Tile Aa ca p0, rowR encInt Ab cb p3.North, rowR encInt Ac cc p3.East, rowR encInt Ad cd p3.South, rowR encInt Ae ce p3.West] [blk g21 (.cells #[(sv Ab p3.North cb), (iv p1), (sv Ad p3.South cd), (iv p1), (sv Ac p3.East cc), (iv p2), (sv Ae p3.West ce), (iv p2)] 120 (0, 0)), blk g5 (.cells #[(sv Ab p3.North cb), (sv Ac p3.East cc), (sv Ad p3.South cd), (sv Ae p3.West ce)] 44 (0, 0))] := hS23.addR _ (nestO_cons (hS23.rdL 1) (nestO_cons (hS23.rdL 3) (nestO_cons (hS23.rdL 2) (nestO_cons (hS23.rdL 4) (nestO_nil _ _ _ _)))))
 have hS24 := hS25.go w22 [rowO 120 encN_S_side_n (some ⟨g21, 0, none⟩) 4 (tag (hlN [(hd1 Ab cb), (hd1 Ad cd), (hd1 Ac cc), (hd1 Ae ce)]) [(S_side_n.mk p3.North p1), (S_side_n.mk p3.South p1), (S_side_n.mk p3.East p2), (S_side_n.mk p3.West p2)]), blk g5 (.cells #[(sv Ab p3.North cb), (sv Ac p3.East cc), (sv Ad p3.South cd), (sv Ae p3.West ce)] 44 (0, 0))] (hS25.map1 0 _ (fun h => rowO.ofBlk h rfl (Nat.le_of_ble_eq_true (by kernel_rfl))) (fun _ h => by obtain ⟨_, h1, h2⟩ := h; injection h1 with h1; subst h1; exact h2) [1] (by decide) (by decide))
 refine seg 19 [] [0, 1, 2, 7, 45, 46, 47] [(0, (sv Aa p0 ca)), (1, (iv p1)), (2, (iv p2)), (7, (pt g5)), (45, (sv (some ⟨g21, 0, none⟩) [(S_side_n.mk p3.North p1), (S_side_n.mk p3.South p1), (S_side_n.mk p3.East p2), (S_side_n.mk p3.West p2)] 4)), (46, (iv ([(S_side_n.mk p3.North p1), (S_side_n.mk p3.South p1), (S_side_n.mk p3.East p2), (S_side_n.mk p3.West p2)].length : Int))), (47, (iv 0))] [] (fun fb => by kernel_rfl) rfl trivial ?_
 refine WL.done rfl (WX.next ?_)
 obtain ⟨x27, hx28, hf⟩ := bind_some hf
 refine WC.cutN (T := Unit) (fun t => [(0, (sv Aa p0 ca)), (1, (iv p1)), (2, (iv p2)), (7, (pt g5))]) (fun t w1 => St NoS w w1 [nestO subN_S_side_n (hlN [(hd1 Ab cb), (hd1 Ad cd), (hd1 Ac cc), (hd1 Ae ce)]) [(S_side_n.mk p3.North p1), (S_side_n.mk p3.South p1), (S_side_n.mk p3.East p2), (S_side_n.mk p3.West p2)], rowR enc_Tile Aa ca p0, rowR encInt Ab cb p3.North, rowR encInt Ac cc p3.East, rowR encInt Ad cd p3.South, rowR encInt Ae ce p3.West] [blk g5 (.cells #[(sv Ab p3.North cb), (sv Ac p3.East cc), (sv Ad p3.South cd), (sv Ae p3.West ce)] 44 (0, 0))] ∧ x27 = .inr t) (fun Kx27 => ?_) ?_
 ·
  refine WC.block ?_
  refine WC.loop (T := Int) (fun t => [(0, (sv Aa p0 ca)), (1, (iv p1)), (2, (iv p2)), (7, (pt g5)), (45, (sv (some ⟨g21, 0, none⟩) [(S_side_n.mk p3.North p1), (S_side_n.mk p3.South p1), (S_side_n.mk p3.East p2), (S_side_n.mk p3.West p2)] 4)), (46, (iv ([(S_side_n.mk p3.North p1), (S_side_n.mk p3.South p1), (S_side_n.mk p3.East p2), (S_side_n.mk p3.West p2)].length : Int))), (47, (iv t))]) (fun n t w1 => St NoS w w1 [nestO subN_S_side_n (hlN [(hd1 Ab cb), (hd1 Ad cd), (hd1 Ac cc), (hd1 Ae ce)]) [(S_side_n.mk p3.North p1), (S_side_n.mk p3.South p1), (S_side_n.mk p3.East p2), (S_side_n.mk p3.West p2)], rowR enc_Tile Aa ca p0, rowR encInt Ab cb p3.North, rowR encInt Ac cc p3.East, rowR encInt Ad cd p3.South, rowR encInt Ae ce p3.West] [blk g5 (.cells #[(sv Ab p3.North cb), (sv Ac p3.East cc), (sv Ad p3.South cd), (sv Ae p3.West ce)] 44 (0, 0)), rowO 120 encN_S_side_n (some ⟨g21, 0, none⟩) 4 (tag (hlN [(hd1 Ab cb), (hd1 Ad cd), (hd1 Ac cc), (hd1 Ae ce)]) [(S_side_n.mk p3.North p1), (S_side_n.mk p3.South p1), (S_side_n.mk p3.East p2), (S_side_n.mk p3.West p2)])] ∧ fill_begin.l0 n t p1 p2 p3 = some x27) k 0 [0, 1, 2, 7, 45, 46, 47] rfl ⟨(hS24.subR [0, 1, 2, 3, 4, 5]).sub [1, 0] (by decide), hx28⟩ ?_
  rintro k29 x26 w30 ⟨hS31, hl32⟩
  cases k29 with
  | zero => rw [fill_begin.l0] at hl32; cases hl32
  | succ k29 =>
   rw [fill_begin.l0] at hl32
   refine WC.seq (WC.region ?_)
   refine seg 1 [] [0, 1, 2, 7, 45, 46, 47, 48] [(0, (sv Aa p0 ca)), (1, (iv p1)), (2, (iv p2)), (7, (pt g5)), (45, (sv (some ⟨g21, 0, none⟩) [(S_side_n.mk p3.North p1), (S_side_n.mk p3.South p1), (S_side_n.mk p3.East p2), (S_side_n.mk p3.West p2)] 4)), (46, (iv ([(S_side_n.mk p3.North p1), (S_side_n.mk p3.South p1), (S_side_n.mk p3.East p2), (S_side_n.mk p3.West p2)].length : Int))), (47, (iv x26)), (48, (bv (decide (x26 < ([(S_side_n.mk p3.North p1), (S_side_n.mk p3.South p1), (S_side_n.mk p3.East p2), (S_side_n.mk p3.West p2)].length : Int)))))] [] (fun fb => by kernel_rfl) rfl trivial ?_
   refine WL.done rfl (WX.next (WC.seq ?_))
   rcases br_some hl32 with ⟨h33, hl32⟩ | ⟨h33, hl32⟩
   ·refine WC.condT2 (fun fb => by kernel_rfl) h33 ?_
    refine WC.skip (WX.next (WC.seq (WC.block (WC.seq (WC.region ?_)))))
    obtain ⟨h34, hl32⟩ := as_some hl32
    refine seg 2 [.v (sv (((hlN [(hd1 Ab cb), (hd1 Ad cd), (hd1 Ac cc), (hd1 Ae ce)]) x26.toNat 0).1) ((rdD [(S_side_n.mk p3.North p1), (S_side_n.mk p3.South p1), (S_side_n.mk p3.East p2), (S_side_n.mk p3.West p2)] x26 z_S_side_n).side) (((hlN [(hd1 Ab cb), (hd1 Ad cd), (hd1 Ac cc), (hd1 Ae ce)]) x26.toNat 0).2)), .v (iv ((rdD [(S_side_n.mk p3.North p1), (S_side_n.mk p3.South p1), (S_side_n.mk p3.East p2), (S_side_n.mk p3.West p2)] x26 z_S_side_n).n))] [0, 1, 2, 7, 45, 46, 47, 50] [(0, (sv Aa p0 ca)), (1, (iv p1)), (2, (iv p2)), (7, (pt g5)), (45, (sv (some ⟨g21, 0, none⟩) [(S_side_n.mk p3.North p1), (S_side_n.mk p3.South p1), (S_side_n.mk p3.East p2), (S_side_n.mk p3.West p2)] 4)), (46, (iv ([(S_side_n.mk p3.North p1), (S_side_n.mk p3.South p1), (S_side_n.mk p3.East p2), (S_side_n.mk p3.West p2)].length : Int))), (47, (iv x26)), (50, (.agg #[(sv (((hlN [(hd1 Ab cb), (hd1 Ad cd), (hd1 Ac cc), (hd1 Ae ce)]) x26.toNat 0).1) ((rdD [(S_side_n.mk p3.North p1), (S_side_n.mk p3.South p1), (S_side_n.mk p3.East p2), (S_side_n.mk p3.West p2)] x26 z_S_side_n).side) (((hlN [(hd1 Ab cb), (hd1 Ad cd), (hd1 Ac cc), (hd1 Ae ce)]) x26.toNat 0).2)), (iv ((rdD [(S_side_n.mk p3.North p1), (S_side_n.mk p3.South p1), (S_side_n.mk p3.East p2), (S_side_n.mk p3.West p2)] x26 z_S_side_n).n))]))] [.idx (some ⟨g21, 0, none⟩) x26 [(S_side_n.mk p3.North p1), (S_side_n.mk p3.South p1), (S_side_n.mk p3.East p2), (S_side_n.mk p3.West p2)].length, .cell ((adr (some ⟨g21, 0, none⟩)).add ((x26).toNat * 2)) (sv (((hlN [(hd1 Ab cb), (hd1 Ad cd), (hd1 Ac cc), (hd1 Ae ce)]) x26.toNat 0).1) ((rdD [(S_side_n.mk p3.North p1), (S_side_n.mk p3.South p1), (S_side_n.mk p3.East p2), (S_side_n.mk p3.West p2)] x26 z_S_side_n).side) (((hlN [(hd1 Ab cb), (hd1 Ad cd), (hd1 Ac cc), (hd1 Ae ce)]) x26.toNat 0).2)), .cell (((adr (some ⟨g21, 0, none⟩)).add ((x26).toNat * 2)).add 1) (iv ((rdD [(S_side_n.mk p3.North p1), (S_side_n.mk p3.South p1), (S_side_n.mk p3.East p2), (S_side_n.mk p3.West p2)] x26 z_S_side_n).n))] (fun fb => by kernel_rfl) rfl ⟨nrow_adr (rowO.rd (hS31.own 1).1) h34.1 h34.2, nrow_cell (rowO.rd (hS31.own 1).1) z_S_side_n h34.1 h34.2 0 rfl, nrow_cell (rowO.rd (hS31.own 1).1) z_S_side_n h34.1 h34.2 1 rfl, trivial⟩ ?_
    refine WL.new hS31 11 [] (fun g => (pt g)) (.cells #[(.slice none 0 0), (iv 0)] 120 (0, 0)) [] (fun fb g => by kernel_rfl) trivial (fun g35 w36 hS37 => ?_)
    refine ⟨trivial, ?_⟩
    refine WL.store hS37 0 rfl [(0, (sv (((hlN [(hd1 Ab cb), (hd1 Ad cd), (hd1 Ac cc), (hd1 Ae ce)]) x26.toNat 0).1) ((rdD [(S_side_n.mk p3.North p1), (S_side_n.mk p3.South p1), (S_side_n.mk p3.East p2), (S_side_n.mk p3.West p2)] x26 z_S_side_n).side) (((hlN [(hd1 Ab cb), (hd1 Ad cd), (hd1 Ac cc), (hd1 Ae ce)]) x26.toNat 0).2))), (1, (iv ((rdD [(S_side_n.mk p3.North p1), (S_side_n.mk p3.South p1), (S_side_n.mk p3.East p2), (S_side_n.mk p3.West p2)] x26 z_S_side_n).n)))] #[(sv (((hlN [(hd1 Ab cb), (hd1 Ad cd), (hd1 Ac cc), (hd1 Ae ce)]) x26.toNat 0).1) ((rdD [(S_side_n.mk p3.North p1), (S_side_n.mk p3.South p1), (S_side_n.mk p3.East p2), (S_side_n.mk p3.West p2)] x26 z_S_side_n).side) (((hlN [(hd1 Ab cb), (hd1 Ad cd), (hd1 Ac cc), (hd1 Ae ce)]) x26.toNat 0).2)), (iv ((rdD [(S_side_n.mk p3.North p1), (S_side_n.mk p3.South p1), (S_side_n.mk p3.East p2), (S_side_n.mk p3.West p2)] x26 z_S_side_n).n))] (fun fb => by kernel_rfl) (by kernel_rfl) rfl [1, 2] (by decide) (by decide) (fun w38 hS39 => ?_)
    refine ⟨trivial, ?_⟩
    refine WL.done rfl (WX.next (WC.seq (WC.region ?_)))
    refine seg 5 [.v (sv (((hlN [(hd1 Ab cb), (hd1 Ad cd), (hd1 Ac cc), (hd1 Ae ce)]) x26.toNat 0).1) ((rdD [(S_side_n.mk p3.North p1), (S_side_n.mk p3.South p1), (S_side_n.mk p3.East p2), (S_side_n.mk p3.West p2)] x26 z_S_side_n).side) (((hlN [(hd1 Ab cb), (hd1 Ad cd), (hd1 Ac cc), (hd1 Ae ce)]) x26.toNat 0).2))] [0, 1, 2, 7, 11, 45, 46, 47, 55] [(0, (sv Aa p0 ca)), (1, (iv p1)), (2, (iv p2)), (7, (pt g5)), (11, (pt g35)), (45, (sv (some ⟨g21, 0, none⟩) [(S_side_n.mk p3.North p1), (S_side_n.mk p3.South p1), (S_side_n.mk p3.East p2), (S_side_n.mk p3.West p2)] 4)), (46, (iv ([(S_side_n.mk p3.North p1), (S_side_n.mk p3.South p1), (S_side_n.mk p3.East p2), (S_side_n.mk p3.West p2)].length : Int))), (47, (iv x26)), (55, (bv ((((rdD [(S_side_n.mk p3.North p1), (S_side_n.mk p3.South p1), (S_side_n.mk p3.East p2), (S_side_n.mk p3.West p2)] x26 z_S_side_n).side).length : Int) != 0)))] [.cell ⟨g35, 0, none⟩ (sv (((hlN [(hd1 Ab cb), (hd1 Ad cd), (hd1 Ac cc), (hd1 Ae ce)]) x26.toNat 0).1) ((rdD [(S_side_n.mk p3.North p1), (S_side_n.mk p3.South p1), (S_side_n.mk p3.East p2), (S_side_n.mk p3.West p2)] x26 z_S_side_n).side) (((hlN [(hd1 Ab cb), (hd1 Ad cd), (hd1 Ac cc), (hd1 Ae ce)]) x26.toNat 0).2))] (fun fb => by kernel_rfl) rfl ⟨hS39.cell 0 rfl 0 rfl, trivial⟩ ?_
    refine WL.cutV (T := Bool) 12 (fun t => [(62, (bv t)), (0, (sv Aa p0 ca)), (1, (iv p1)), (2, (iv p2)), (7, (pt g5)), (45, (sv (some ⟨g21, 0, none⟩) [(S_side_n.mk p3.North p1), (S_side_n.mk p3.South p1), (S_side_n.mk p3.East p2), (S_side_n.mk p3.West p2)] 4)), (46, (iv ([(S_side_n.mk p3.North p1), (S_side_n.mk p3.South p1), (S_side_n.mk p3.East p2), (S_side_n.mk p3.West p2)].length : Int))), (47, (iv x26))]) (fun t => (((((rdD [(S_side_n.mk p3.North p1), (S_side_n.mk p3.South p1), (S_side_n.mk p3.East p2), (S_side_n.mk p3.West p2)] x26 z_S_side_n).side).length : Int) != 0) && ((((rdD [(S_side_n.mk p3.North p1), (S_side_n.mk p3.South p1), (S_side_n.mk p3.East p2), (S_side_n.mk p3.West p2)] x26 z_S_side_n).side).length : Int) != ((rdD [(S_side_n.mk p3.North p1), (S_side_n.mk p3.South p1), (S_side_n.mk p3.East p2), (S_side_n.mk p3.West p2)] x26 z_S_side_n).n))) = t) (fun K => ?_) ?_
    ·
     rcases Bool.eq_false_or_eq_true ((((rdD [(S_side_n.mk p3.North p1), (S_side_n.mk p3.South p1), (S_side_n.mk p3.East p2), (S_side_n.mk p3.West p2)] x26 z_S_side_n).side).length : Int) != 0) with h40 | h40
     ·
      refine WL.setB 55 h40 rfl ?_
      refine seg 12 [.v (sv (((hlN [(hd1 Ab cb), (hd1 Ad cd), (hd1 Ac cc), (hd1 Ae ce)]) x26.toNat 0).1) ((rdD [(S_side_n.mk p3.North p1), (S_side_n.mk p3.South p1), (S_side_n.mk p3.East p2), (S_side_n.mk p3.West p2)] x26 z_S_side_n).side) (((hlN [(hd1 Ab cb), (hd1 Ad cd), (hd1 Ac cc), (hd1 Ae ce)]) x26.toNat 0).2)), .v (iv ((rdD [(S_side_n.mk p3.North p1), (S_side_n.mk p3.South p1), (S_side_n.mk p3.East p2), (S_side_n.mk p3.West p2)] x26 z_S_side_n).n))] [0, 1, 2, 7, 45, 46, 47, 62] [(0, (sv Aa p0 ca)), (1, (iv p1)), (2, (iv p2)), (7, (pt g5)), (45, (sv (some ⟨g21, 0, none⟩) [(S_side_n.mk p3.North p1), (S_side_n.mk p3.South p1), (S_side_n.mk p3.East p2), (S_side_n.mk p3.West p2)] 4)), (46, (iv ([(S_side_n.mk p3.North p1), (S_side_n.mk p3.South p1), (S_side_n.mk p3.East p2), (S_side_n.mk p3.West p2)].length : Int))), (47, (iv x26)), (62, (bv ((((rdD [(S_side_n.mk p3.North p1), (S_side_n.mk p3.South p1), (S_side_n.mk p3.East p2), (S_side_n.mk p3.West p2)] x26 z_S_side_n).side).length : Int) != ((rdD [(S_side_n.mk p3.North p1), (S_side_n.mk p3.South p1), (S_side_n.mk p3.East p2), (S_side_n.mk p3.West p2)] x26 z_S_side_n).n))))] [.cell ⟨g35, 0, none⟩ (sv (((hlN [(hd1 Ab cb), (hd1 Ad cd), (hd1 Ac cc), (hd1 Ae ce)]) x26.toNat 0).1) ((rdD [(S_side_n.mk p3.North p1), (S_side_n.mk p3.South p1), (S_side_n.mk p3.East p2), (S_side_n.mk p3.West p2)] x26 z_S_side_n).side) (((hlN [(hd1 Ab cb), (hd1 Ad cd), (hd1 Ac cc), (hd1 Ae ce)]) x26.toNat 0).2)), .cell ⟨g35, 1, none⟩ (iv ((rdD [(S_side_n.mk p3.North p1), (S_side_n.mk p3.South p1), (S_side_n.mk p3.East p2), (S_side_n.mk p3.West p2)] x26 z_S_side_n).n))] (fun fb => by kernel_rfl) rfl ⟨hS39.cell 0 rfl 0 rfl, hS39.cell 0 rfl 1 rfl, trivial⟩ ?_
      exact WL.toV K ((((rdD [(S_side_n.mk p3.North p1), (S_side_n.mk p3.South p1), (S_side_n.mk p3.East p2), (S_side_n.mk p3.West p2)] x26 z_S_side_n).side).length : Int) != ((rdD [(S_side_n.mk p3.North p1), (S_side_n.mk p3.South p1), (S_side_n.mk p3.East p2), (S_side_n.mk p3.West p2)] x26 z_S_side_n).n)) [62, 0, 1, 2, 7, 45, 46, 47] rfl (by first | (rw [h40]; done) | (rw [h40]; rfl))
     refine WL.setB 55 h40 rfl ?_
     refine seg 12 [] [0, 1, 2, 7, 45, 46, 47, 62] [(0, (sv Aa p0 ca)), (1, (iv p1)), (2, (iv p2)), (7, (pt g5)), (45, (sv (some ⟨g21, 0, none⟩) [(S_side_n.mk p3.North p1), (S_side_n.mk p3.South p1), (S_side_n.mk p3.East p2), (S_side_n.mk p3.West p2)] 4)), (46, (iv ([(S_side_n.mk p3.North p1), (S_side_n.mk p3.South p1), (S_side_n.mk p3.East p2), (S_side_n.mk p3.West p2)].length : Int))), (47, (iv x26)), (62, (bv false))] [] (fun fb => by kernel_rfl) rfl trivial ?_
     exact WL.toV K false [62, 0, 1, 2, 7, 45, 46, 47] rfl (by first | (rw [h40]; done) | (rw [h40]; rfl))
    rintro b41 rfl
    refine WL.done rfl (WX.next ?_)
    rcases br_some hl32 with ⟨h42, hl32⟩ | ⟨h42, hl32⟩
    ·refine WC.condT2 (fun fb => by kernel_rfl) h42 ?_
     refine WC.seq (WC.region ?_)
     refine seg 2 [] [8, 9] [(8, (.pointer none)), (9, (iv 2))] [] (fun fb => by kernel_rfl) rfl trivial ?_
     refine WL.done rfl (WX.next ?_)
     refine WC.ret ?_
     injection hl32 with hl32
     subst hl32
     injection hf with hf
     subst hf
     exact WX.blockR (WX.thenR (WX.thenR (WX.blockR (WX.thenR (WX.ret_ [] (.tuple #[(.pointer none), (iv 2)]) [] (fun fb => by kernel_rfl) trivial ⟨_, rfl, 0, none, 0, h0, rfl, hS39.keep⟩)))))
    refine WC.condF2 (fun fb => by kernel_rfl) h42 ?_
    refine WC.skip ?_
    refine WX.blockN (WX.next ?_)
    refine WC.region ?_
    refine seg 2 [] [0, 1, 2, 7, 45, 46, 47] [(0, (sv Aa p0 ca)), (1, (iv p1)), (2, (iv p2)), (7, (pt g5)), (45, (sv (some ⟨g21, 0, none⟩) [(S_side_n.mk p3.North p1), (S_side_n.mk p3.South p1), (S_side_n.mk p3.East p2), (S_side_n.mk p3.West p2)] 4)), (46, (iv ([(S_side_n.mk p3.North p1), (S_side_n.mk p3.South p1), (S_side_n.mk p3.East p2), (S_side_n.mk p3.West p2)].length : Int))), (47, (iv (w64 (x26 + 1))))] [] (fun fb => by kernel_rfl) rfl trivial ?_
    refine WL.done rfl ?_
    exact WX.again k29 (Nat.lt_succ_self _) (w64 (x26 + 1)) [0, 1, 2, 7, 45, 46, 47] rfl ⟨(hS39.subR [0, 1, 2, 3, 4, 5]).sub [1, 2] (by decide), hl32⟩
   refine WC.condF2 (fun fb => by kernel_rfl) h33 ?_
   refine WC.exit ?_
   injection hl32 with hl32
   exact WX.thenX (WX.thenX (WX.blockHere (WX.to Kx27 () [0, 1, 2, 7] rfl ⟨(hS31.subR [0, 1, 2, 3, 4, 5]).sub [0] (by decide), hl32.symm⟩)))
 rintro y46 w43 ⟨hS44, hq45⟩
 subst hq45
 have hf := sum_inr hf
 refine WX.next (WC.seq (WC.seq (WC.region ?_)))
 refine seg 2 [] [0, 1, 2, 7, 64, 65] [(0, (sv Aa p0 ca)), (1, (iv p1)), (2, (iv p2)), (7, (pt g5)), (64, (sv Aa p0 ca)), (65, (iv p1))] [] (fun fb => by kernel_rfl) rfl trivial ?_
 obtain ⟨t47, ht48, hf⟩ := bind_some hf
 refine WL.call (some 66) 53 #[(sv Aa p0 ca), (iv p1)] (fun fb => by kernel_rfl) (rows_Few_calls _ p0 p1 Aa ca t47 _ (hS44.rd 1) ht48) (fun v w49 hR50 => ?_)
 obtain ⟨rfl, hk_⟩ := hR50
 have hS51 := hS44.keepN hk_
 refine ⟨trivial, ?_⟩
 refine seg 4 [] [0, 1, 2, 7, 67] [(0, (sv Aa p0 ca)), (1, (iv p1)), (2, (iv p2)), (7, (pt g5)), (67, (bv (!t47)))] [] (fun fb => by kernel_rfl) rfl trivial ?_
 refine WL.done rfl (WX.next ?_)
 rcases br_some hf with ⟨h52, hf⟩ | ⟨h52, hf⟩
 ·refine WC.condT2 (fun fb => by kernel_rfl) h52 ?_
  refine WC.seq (WC.region ?_)
  refine seg 2 [] [8, 9] [(8, (.pointer none)), (9, (iv 4))] [] (fun fb => by kernel_rfl) rfl trivial ?_
  refine WL.done rfl (WX.next ?_)
  refine WC.ret ?_
  injection hf with hf
  subst hf
  exact WX.thenR (WX.ret_ [] (.tuple #[(.pointer none), (iv 4)]) [] (fun fb => by kernel_rfl) trivial ⟨_, rfl, 0, none, 0, h0, rfl, hS51.keep⟩)
 refine WC.condF2 (fun fb => by kernel_rfl) h52 ?_
 refine WC.skip (WX.next (WC.seq ?_))
 refine WC.regionD ([(5, ⟨g5, 0, none⟩, (sv Ab p3.North cb)), (5, ⟨g5, 1, none⟩, (sv Ac p3.East cc)), (5, ⟨g5, 2, none⟩, (sv Ad p3.South cd)), (5, ⟨g5, 3, none⟩, (sv Ae p3.West ce))], [0, 1, 3, 4, 5, 6, 8, 9], [[], [], [0, 1], [], [], [], [0, 1, 2, 3, 4, 5], [0, 1, 2, 3, 4, 5, 6], [0, 1, 2, 3, 4, 5, 6, 7], [0, 1, 2, 3, 4, 5, 6, 7, 8]]) [[0, 1, 3, 4, 5, 2, 6, 7, 8, 9]] (by kernel_rfl) (by kernel_rfl) (NoPanic.seq (NoPanic.body)) ?_
 have hS54 := hS51.drew
 revert hS54
 generalize World.drew w49 = w53
 intro hS54
 refine ⟨⟨hS54.cell 0 rfl 0 rfl, hS54.cell 0 rfl 1 rfl, hS54.cell 0 rfl 2 rfl, hS54.cell 0 rfl 3 rfl, trivial⟩, forallC ?_ (forallN)⟩
 refine segF 5 [.v (sv Ab p3.North cb), .v (sv Ac p3.East cc), .v (sv Ad p3.South cd), .v (sv Ae p3.West ce)] [68, 69, 71, 72, 73] [(68, (sv Aa p0 ca)), (69, (iv p1)), (71, (iv p1)), (72, (iv p2)), (73, (.agg #[(sv Ab p3.North cb), (sv Ac p3.East cc), (sv Ad p3.South cd), (sv Ae p3.West ce)]))] [] [0, 1, 2, 3] [(5, ⟨g5, 0, none⟩, (sv Ab p3.North cb)), (5, ⟨g5, 1, none⟩, (sv Ac p3.East cc)), (5, ⟨g5, 2, none⟩, (sv Ad p3.South cd)), (5, ⟨g5, 3, none⟩, (sv Ae p3.West ce))] (fun fb => by kernel_rfl) rfl trivial rfl ?_
 obtain ⟨t55, ht56, hf⟩ := bind_some hf
 refine WL.call (some 70) 83 #[(sv Aa p0 ca), (iv p1)] (fun fb => by kernel_rfl) (rows_All_calls _ p0 p1 Aa ca t55 _ (hS54.rd 1) ht56) (fun v w57 hR59 => ?_)
 obtain ⟨A61, c62, H63, rfl, hk_⟩ := hR59
 have hS60 := hS24.go w57 [rowO 85 encN_Row A61 c62 (tag H63 t55), poolO [nestO subN_Row H63 t55], blk g5 (.cells #[(.slice Ab p3.North.length cb), (.slice Ac p3.East.length cc), (.slice Ad p3.South.length cd), (.slice Ae p3.West.length ce)] 44 (0, 0))] (hS54.call hk_ [] [0] (fun g hg => hg.elim) (by simp) (by decide))
 refine ⟨⟨hS60.cell 2 rfl 0 rfl, hS60.cell 2 rfl 1 rfl, hS60.cell 2 rfl 2 rfl, hS60.cell 2 rfl 3 rfl, trivial⟩, ?_⟩
 refine seg 7 [] [74] [(74, (.agg #[(sv A61 t55 c62), (iv p1), (iv p2), (sv Ab p3.North cb), (sv Ac p3.East cc), (sv Ad p3.South cd), (sv Ae p3.West ce)]))] [] (fun fb => by kernel_rfl) rfl trivial ?_
 refine WL.new hS60 75 [] (fun g => (pt g)) (.cells #[(sv A61 t55 c62), (iv p1), (iv p2), (sv Ab p3.North cb), (sv Ac p3.East cc), (sv Ad p3.South cd), (sv Ae p3.West ce)] 81 (0, 0)) [] (fun fb g => by kernel_rfl) trivial (fun g65 w66 hS67 => ?_)
 refine ⟨trivial, ?_⟩
 refine seg 10 [] [8, 9] [(8, (pt g65)), (9, (iv 0))] [] (fun fb => by kernel_rfl) rfl trivial ?_
 refine WL.done rfl (WX.next ?_)
 refine WC.ret ?_
 injection hf with hf
 subst hf
 exact WX.ret_ [] (.tuple #[(pt g65), (iv 0)]) [] (fun fb => by kernel_rfl) trivial ⟨_, rfl, g65, A61, c62, H63, rfl, (hS67.sub [0, 1, 2] (by decide)).noR⟩
theorem fill_Count_1_calls (p0 : Int) (p1 : Int)  (r : Int) (w : World)  (hf : fill_Count_1 p0 p1 = some r) :
  CallsR Tryd.prog 59 #[(iv p0), (iv p1)] w (fun v w' => v = (iv r) ∧ Keeps NoS w w') := by
 have hS : St NoS w w [] [] := St.init (ro_nil _ _)
 refine enter 9 Tryd.func59 rfl Tryd.ntmps59 rfl ?_
 unfold fill_Count_1 at hf
 refine WC.seq (WC.region ?_)
 refine seg 1 [] [0, 1] [(0, (iv p0)), (1, (iv p1))] [] (fun fb => by kernel_rfl) rfl trivial ?_
 refine WL.done rfl (WX.next (WC.seq (WC.region ?_)))
 refine seg 5 [] [4] [(4, (iv (minI (w64 (p0 + p1)) 1152921504606846977)))] [] (fun fb => by kernel_rfl) rfl trivial ?_
 refine WL.done rfl (WX.next ?_)
 refine WC.ret ?_
 injection hf with hf
 subst hf
 exact WX.ret_ [] (iv (minI (w64 (p0 + p1)) 1152921504606846977)) [] (fun fb => by kernel_rfl) trivial ⟨_, rfl, rfl, hS.keep⟩
theorem fill_at_calls (p0 : List Int) (p1 : Int) (p2 : Int) (Aa : Option Addr) (ca : Nat) (r : Bool) (w : World) (hR0 : RO NoS w (rowR encInt Aa ca p0)) (hf : fill_at p0 p1 p2 = some r) :
  CallsR Tryd.prog 84 #[(sv Aa p0 ca), (iv p1), (iv p2)] w (fun v w' => v = (bv r) ∧ Keeps NoS w w') := by
 have hS : St NoS w w [rowR encInt Aa ca p0] [] := St.init (ro_cons hR0 (ro_nil _ _))
 refine enter 18 Tryd.func84 rfl Tryd.ntmps84 rfl ?_
 unfold fill_at at hf
 refine WC.seq (WC.region ?_)
 refine seg 1 [] [0, 1, 2] [(0, (sv Aa p0 ca)), (1, (iv p1)), (2, (iv p2))] [] (fun fb => by kernel_rfl) rfl trivial ?_
 refine WL.done rfl (WX.next (WC.seq (WC.region ?_)))
 refine seg 4 [] [0, 1, 2, 10] [(0, (sv Aa p0 ca)), (1, (iv p1)), (2, (iv p2)), (10, (bv ((p0.length : Int) == 0)))] [] (fun fb => by kernel_rfl) rfl trivial ?_
 obtain ⟨b3, hv4, hf⟩ := bind_some hf
 refine WL.cutV (T := Unit) 11 (fun t => [(17, (bv b3))]) (fun t => True) (fun K => ?_) ?_
 ·
  rcases br_some hv4 with ⟨h5, hv4⟩ | ⟨h5, hv4⟩
  ·
   refine WL.setB 10 h5 rfl ?_
   refine seg 11 [] [17] [(17, (bv true))] [] (fun fb => by kernel_rfl) rfl trivial ?_
   injection hv4 with hv4
   subst hv4
   exact WL.toV K () [17] rfl trivial
  refine WL.setB 10 h5 rfl ?_
  refine seg 6 [] [2, 10, 11, 12] [(2, (iv p2)), (10, (bv false)), (11, (sv Aa p0 ca)), (12, (iv p1))] [] (fun fb => by kernel_rfl) rfl trivial ?_
  obtain ⟨h6, hv4⟩ := as_some hv4
  refine seg 11 [.v (iv (rdD p0 p1 0))] [17] [(17, (bv ((rdD p0 p1 0) == p2)))] [.idx Aa p1 p0.length, .cell ((adr Aa).add ((p1).toNat * 1)) (iv (rdD p0 p1 0))] (fun fb => by kernel_rfl) rfl ⟨rowR.adr (hS.rd 0).1 h6.1 h6.2, rowR.cell (hS.rd 0).1 0 h6.1 h6.2 0 rfl, trivial⟩ ?_
  injection hv4 with hv4
  subst hv4
  exact WL.toV K () [17] rfl trivial
 rintro _ _
 refine seg 12 [] [6] [(6, (bv b3))] [] (fun fb => by kernel_rfl) rfl trivial ?_
 refine WL.done rfl (WX.next ?_)
 refine WC.ret ?_
 injection hf with hf
 subst hf
 exact WX.ret_ [] (bv b3) [] (fun fb => by kernel_rfl) trivial ⟨_, rfl, rfl, hS.keep⟩
end Gp
