/- Walks: each function of the program computes its plain function. -/
import Derived.Test.YtdikkfepiiomiaaDoorGx2
set_option linter.unusedVariables false
set_option linter.unusedSimpArgs false
set_option maxHeartbeats 4000000
namespace Gp
open Go Gw Go.Proofs
theorem law05_awake_calls (k : Nat)  (mG : Int) (r : Bool) (w : World) (hR0 : RO NoS w (cel ⟨2, 0, none⟩ (iv mG))) (hf : law05_awake k = some r) :
  CallsR Tryd.prog 7 #[] w (fun v w' => v = (bv r) ∧ Keeps NoS w w') := by
 have hS : St NoS w w [cel ⟨2, 0, none⟩ (iv mG)] [] := St.init (ro_cons hR0 (ro_nil _ _))
 refine enter 72 Tryd.func7 rfl Tryd.ntmps7 rfl ?_
 unfold law05_awake at hf
 refine WC.seq (WC.region ?_)
 refine seg 1 [] [] [] [] (fun fb => by kernel_rfl) rfl trivial ?_
 refine WL.done rfl (WX.next (WC.seq (WC.region ?_)))
 obtain ⟨t1, ht2, hf⟩ := bind_some hf
 refine WL.call (some 16) 16 #[(.string (⟨#[48, 46, 49, 46, 48, 46, 48]⟩ : ByteArray))] (fun fb => by kernel_rfl) (tile_Parse_calls _ (⟨#[48, 46, 49, 46, 48, 46, 48]⟩ : ByteArray) mG t1 _ (hS.rd 0) ht2) (fun v w3 hR4 => ?_)
 obtain ⟨A8, c9, rfl, hk_⟩ := hR4
 have hS6 := hS.go w3 [rowO 37 enc_Tile A8 c9 t1.1] (hS.call hk_ [] [] (fun g hg => hg.elim) (by simp) (by decide))
 refine ⟨trivial, ?_⟩
 refine seg 6 [] [1] [(1, (sv A8 t1.1 c9))] [] (fun fb => by kernel_rfl) rfl trivial ?_
 refine WL.done rfl (WX.next (WC.seq (WC.region ?_)))
 obtain ⟨t10, ht11, hf⟩ := bind_some hf
 refine WL.call (some 20) 16 #[(.string (⟨#[48, 46, 48, 46, 49, 46, 48]⟩ : ByteArray))] (fun fb => by kernel_rfl) (tile_Parse_calls _ (⟨#[48, 46, 48, 46, 49, 46, 48]⟩ : ByteArray) mG t10 _ (hS6.rd 0) ht11) (fun v w12 hR13 => ?_)
 obtain ⟨A15, c16, rfl, hk_⟩ := hR13
 have hS14 := hS6.go w12 [rowO 37 enc_Tile A15 c16 t10.1, rowO 37 enc_Tile A8 c9 t1.1] (hS6.call hk_ [] [0] (fun g hg => hg.elim) (by simp) (by decide))
 refine ⟨trivial, ?_⟩
 refine seg 6 [] [1, 3] [(1, (sv A8 t1.1 c9)), (3, (sv A15 t10.1 c16))] [] (fun fb => by kernel_rfl) rfl trivial ?_
 refine WL.done rfl (WX.next (WC.seq (WC.region ?_)))
 obtain ⟨t17, ht18, hf⟩ := bind_some hf
 refine WL.call (some 24) 16 #[(.string (⟨#[48, 46, 49, 46, 49, 46, 48, 32, 49, 46, 48, 46, 48, 46, 49]⟩ : ByteArray))] (fun fb => by kernel_rfl) (tile_Parse_calls _ (⟨#[48, 46, 49, 46, 49, 46, 48, 32, 49, 46, 48, 46, 48, 46, 49]⟩ : ByteArray) mG t17 _ (hS14.rd 0) ht18) (fun v w19 hR20 => ?_)
 obtain ⟨A22, c23, rfl, hk_⟩ := hR20
 have hS21 := hS14.go w19 [rowO 37 enc_Tile A22 c23 t17.1, rowO 37 enc_Tile A15 c16 t10.1, rowO 37 enc_Tile A8 c9 t1.1] (hS14.call hk_ [] [0, 1] (fun g hg => hg.elim) (by simp) (by decide))
 refine ⟨trivial, ?_⟩
 refine seg 6 [] [1, 3, 5] [(1, (sv A8 t1.1 c9)), (3, (sv A15 t10.1 c16)), (5, (sv A22 t17.1 c23))] [] (fun fb => by kernel_rfl) rfl trivial ?_
 refine WL.done rfl (WX.next (WC.seq (WC.region ?_)))
 refine seg 1 [] [3, 5, 28] [(3, (sv A15 t10.1 c16)), (5, (sv A22 t17.1 c23)), (28, (sv A8 t1.1 c9))] [] (fun fb => by kernel_rfl) rfl trivial ?_
 obtain ⟨t24, ht25, hf⟩ := bind_some hf
 refine WL.call (some 29) 17 #[(sv A8 t1.1 c9), (iv 4)] (fun fb => by kernel_rfl) (square_Largest_calls _ t1.1 4 A8 c9 t24 _ (hS21.ow 2).ofO ht25) (fun v w26 hR27 => ?_)
 obtain ⟨rfl, hk_⟩ := hR27
 have hS28 := hS21.keepN hk_
 refine ⟨trivial, ?_⟩
 refine seg 7 [] [3, 5, 7, 8] [(3, (sv A15 t10.1 c16)), (5, (sv A22 t17.1 c23)), (7, (iv t24.1)), (8, (iv t24.2))] [] (fun fb => by kernel_rfl) rfl trivial ?_
 refine WL.done rfl (WX.next (WC.seq (WC.region ?_)))
 refine seg 1 [] [5, 7, 8, 33] [(5, (sv A22 t17.1 c23)), (7, (iv t24.1)), (8, (iv t24.2)), (33, (sv A15 t10.1 c16))] [] (fun fb => by kernel_rfl) rfl trivial ?_
 obtain ⟨t29, ht30, hf⟩ := bind_some hf
 refine WL.call (some 34) 17 #[(sv A15 t10.1 c16), (iv 4)] (fun fb => by kernel_rfl) (square_Largest_calls _ t10.1 4 A15 c16 t29 _ (hS28.ow 1).ofO ht30) (fun v w31 hR32 => ?_)
 obtain ⟨rfl, hk_⟩ := hR32
 have hS33 := hS28.keepN hk_
 refine ⟨trivial, ?_⟩
 refine seg 7 [] [5, 7, 8, 9, 10] [(5, (sv A22 t17.1 c23)), (7, (iv t24.1)), (8, (iv t24.2)), (9, (iv t29.1)), (10, (iv t29.2))] [] (fun fb => by kernel_rfl) rfl trivial ?_
 refine WL.done rfl (WX.next (WC.seq (WC.region ?_)))
 refine seg 1 [] [5, 7, 8, 9, 10, 38] [(5, (sv A22 t17.1 c23)), (7, (iv t24.1)), (8, (iv t24.2)), (9, (iv t29.1)), (10, (iv t29.2)), (38, (sv A22 t17.1 c23))] [] (fun fb => by kernel_rfl) rfl trivial ?_
 obtain ⟨t34, ht35, hf⟩ := bind_some hf
 refine WL.call (some 39) 8 #[(sv A22 t17.1 c23), (iv 5)] (fun fb => by kernel_rfl) (square_Exists_calls _ t17.1 5 A22 c23 t34 _ (hS33.ow 0).ofO ht35) (fun v w36 hR37 => ?_)
 obtain ⟨rfl, hk_⟩ := hR37
 have hS38 := hS33.keepN hk_
 refine ⟨trivial, ?_⟩
 refine seg 7 [] [5, 7, 8, 9, 10, 11, 12] [(5, (sv A22 t17.1 c23)), (7, (iv t24.1)), (8, (iv t24.2)), (9, (iv t29.1)), (10, (iv t29.2)), (11, (bv t34.1)), (12, (iv t34.2))] [] (fun fb => by kernel_rfl) rfl trivial ?_
 refine WL.done rfl (WX.next (WC.seq (WC.region ?_)))
 refine seg 1 [] [7, 8, 9, 10, 11, 12, 43] [(7, (iv t24.1)), (8, (iv t24.2)), (9, (iv t29.1)), (10, (iv t29.2)), (11, (bv t34.1)), (12, (iv t34.2)), (43, (sv A22 t17.1 c23))] [] (fun fb => by kernel_rfl) rfl trivial ?_
 obtain ⟨t39, ht40, hf⟩ := bind_some hf
 refine WL.call (some 44) 17 #[(sv A22 t17.1 c23), (iv 5)] (fun fb => by kernel_rfl) (square_Largest_calls _ t17.1 5 A22 c23 t39 _ (hS38.ow 0).ofO ht40) (fun v w41 hR42 => ?_)
 obtain ⟨rfl, hk_⟩ := hR42
 have hS43 := hS38.keepN hk_
 refine ⟨trivial, ?_⟩
 refine seg 7 [] [7, 8, 9, 10, 11, 12, 14] [(7, (iv t24.1)), (8, (iv t24.2)), (9, (iv t29.1)), (10, (iv t29.2)), (11, (bv t34.1)), (12, (iv t34.2)), (14, (iv t39.2))] [] (fun fb => by kernel_rfl) rfl trivial ?_
 refine WL.done rfl (WX.next (WC.seq (WC.region ?_)))
 refine seg 3 [] [7, 9, 10, 11, 12, 14, 49] [(7, (iv t24.1)), (9, (iv t29.1)), (10, (iv t29.2)), (11, (bv t34.1)), (12, (iv t34.2)), (14, (iv t39.2)), (49, (bv (t24.2 == 0)))] [] (fun fb => by kernel_rfl) rfl trivial ?_
 refine WL.cutV (T := Bool) 6 (fun t => [(52, (bv t)), (7, (iv t24.1)), (9, (iv t29.1)), (11, (bv t34.1)), (12, (iv t34.2)), (14, (iv t39.2))]) (fun t => ((t24.2 == 0) && (t29.2 == 0)) = t) (fun K => ?_) ?_
 ·
  rcases Bool.eq_false_or_eq_true (t24.2 == 0) with h44 | h44
  ·
   refine WL.setB 49 h44 rfl ?_
   refine seg 6 [] [7, 9, 11, 12, 14, 52] [(7, (iv t24.1)), (9, (iv t29.1)), (11, (bv t34.1)), (12, (iv t34.2)), (14, (iv t39.2)), (52, (bv (t29.2 == 0)))] [] (fun fb => by kernel_rfl) rfl trivial ?_
   exact WL.toV K (t29.2 == 0) [52, 7, 9, 11, 12, 14] rfl (by first | (rw [h44]; done) | (rw [h44]; rfl))
  refine WL.setB 49 h44 rfl ?_
  refine seg 6 [] [7, 9, 11, 12, 14, 52] [(7, (iv t24.1)), (9, (iv t29.1)), (11, (bv t34.1)), (12, (iv t34.2)), (14, (iv t39.2)), (52, (bv false))] [] (fun fb => by kernel_rfl) rfl trivial ?_
  exact WL.toV K false [52, 7, 9, 11, 12, 14] rfl (by first | (rw [h44]; done) | (rw [h44]; rfl))
 rintro b45 rfl
 refine seg 7 [] [7, 9, 11, 12, 14, 53] [(7, (iv t24.1)), (9, (iv t29.1)), (11, (bv t34.1)), (12, (iv t34.2)), (14, (iv t39.2)), (53, (bv ((t24.2 == 0) && (t29.2 == 0))))] [] (fun fb => by kernel_rfl) rfl trivial ?_
 refine WL.cutV (T := Bool) 10 (fun t => [(56, (bv t)), (7, (iv t24.1)), (9, (iv t29.1)), (11, (bv t34.1)), (14, (iv t39.2))]) (fun t => (((t24.2 == 0) && (t29.2 == 0)) && (t34.2 == 0)) = t) (fun K => ?_) ?_
 ·
  rcases Bool.eq_false_or_eq_true ((t24.2 == 0) && (t29.2 == 0)) with h46 | h46
  ·
   refine WL.setB 53 h46 rfl ?_
   refine seg 10 [] [7, 9, 11, 14, 56] [(7, (iv t24.1)), (9, (iv t29.1)), (11, (bv t34.1)), (14, (iv t39.2)), (56, (bv (t34.2 == 0)))] [] (fun fb => by kernel_rfl) rfl trivial ?_
   exact WL.toV K (t34.2 == 0) [56, 7, 9, 11, 14] rfl (by first | (rw [h46]; done) | (rw [h46]; rfl))
  refine WL.setB 53 h46 rfl ?_
  refine seg 10 [] [7, 9, 11, 14, 56] [(7, (iv t24.1)), (9, (iv t29.1)), (11, (bv t34.1)), (14, (iv t39.2)), (56, (bv false))] [] (fun fb => by kernel_rfl) rfl trivial ?_
  exact WL.toV K false [56, 7, 9, 11, 14] rfl (by first | (rw [h46]; done) | (rw [h46]; rfl))
 rintro b47 rfl
 refine seg 11 [] [7, 9, 11, 14, 57] [(7, (iv t24.1)), (9, (iv t29.1)), (11, (bv t34.1)), (14, (iv t39.2)), (57, (bv (((t24.2 == 0) && (t29.2 == 0)) && (t34.2 == 0))))] [] (fun fb => by kernel_rfl) rfl trivial ?_
 refine WL.cutV (T := Bool) 14 (fun t => [(60, (bv t)), (7, (iv t24.1)), (9, (iv t29.1)), (11, (bv t34.1))]) (fun t => ((((t24.2 == 0) && (t29.2 == 0)) && (t34.2 == 0)) && (t39.2 == 6)) = t) (fun K => ?_) ?_
 ·
  rcases Bool.eq_false_or_eq_true (((t24.2 == 0) && (t29.2 == 0)) && (t34.2 == 0)) with h48 | h48
  ·
   refine WL.setB 57 h48 rfl ?_
   refine seg 14 [] [7, 9, 11, 60] [(7, (iv t24.1)), (9, (iv t29.1)), (11, (bv t34.1)), (60, (bv (t39.2 == 6)))] [] (fun fb => by kernel_rfl) rfl trivial ?_
   exact WL.toV K (t39.2 == 6) [60, 7, 9, 11] rfl (by first | (rw [h48]; done) | (rw [h48]; rfl))
  refine WL.setB 57 h48 rfl ?_
  refine seg 14 [] [7, 9, 11, 60] [(7, (iv t24.1)), (9, (iv t29.1)), (11, (bv t34.1)), (60, (bv false))] [] (fun fb => by kernel_rfl) rfl trivial ?_
  exact WL.toV K false [60, 7, 9, 11] rfl (by first | (rw [h48]; done) | (rw [h48]; rfl))
 rintro b49 rfl
 refine seg 15 [] [7, 9, 11, 61] [(7, (iv t24.1)), (9, (iv t29.1)), (11, (bv t34.1)), (61, (bv ((((t24.2 == 0) && (t29.2 == 0)) && (t34.2 == 0)) && (t39.2 == 6))))] [] (fun fb => by kernel_rfl) rfl trivial ?_
 refine WL.cutV (T := Bool) 18 (fun t => [(64, (bv t)), (9, (iv t29.1)), (11, (bv t34.1))]) (fun t => (((((t24.2 == 0) && (t29.2 == 0)) && (t34.2 == 0)) && (t39.2 == 6)) && (t24.1 == 1)) = t) (fun K => ?_) ?_
 ·
  rcases Bool.eq_false_or_eq_true ((((t24.2 == 0) && (t29.2 == 0)) && (t34.2 == 0)) && (t39.2 == 6)) with h50 | h50
  ·
   refine WL.setB 61 h50 rfl ?_
   refine seg 18 [] [9, 11, 64] [(9, (iv t29.1)), (11, (bv t34.1)), (64, (bv (t24.1 == 1)))] [] (fun fb => by kernel_rfl) rfl trivial ?_
   exact WL.toV K (t24.1 == 1) [64, 9, 11] rfl (by first | (rw [h50]; done) | (rw [h50]; rfl))
  refine WL.setB 61 h50 rfl ?_
  refine seg 18 [] [9, 11, 64] [(9, (iv t29.1)), (11, (bv t34.1)), (64, (bv false))] [] (fun fb => by kernel_rfl) rfl trivial ?_
  exact WL.toV K false [64, 9, 11] rfl (by first | (rw [h50]; done) | (rw [h50]; rfl))
 rintro b51 rfl
 refine seg 19 [] [9, 11, 65] [(9, (iv t29.1)), (11, (bv t34.1)), (65, (bv (((((t24.2 == 0) && (t29.2 == 0)) && (t34.2 == 0)) && (t39.2 == 6)) && (t24.1 == 1))))] [] (fun fb => by kernel_rfl) rfl trivial ?_
 refine WL.cutV (T := Bool) 22 (fun t => [(68, (bv t)), (11, (bv t34.1))]) (fun t => ((((((t24.2 == 0) && (t29.2 == 0)) && (t34.2 == 0)) && (t39.2 == 6)) && (t24.1 == 1)) && (t29.1 == 1)) = t) (fun K => ?_) ?_
 ·
  rcases Bool.eq_false_or_eq_true (((((t24.2 == 0) && (t29.2 == 0)) && (t34.2 == 0)) && (t39.2 == 6)) && (t24.1 == 1)) with h52 | h52
  ·
   refine WL.setB 65 h52 rfl ?_
   refine seg 22 [] [11, 68] [(11, (bv t34.1)), (68, (bv (t29.1 == 1)))] [] (fun fb => by kernel_rfl) rfl trivial ?_
   exact WL.toV K (t29.1 == 1) [68, 11] rfl (by first | (rw [h52]; done) | (rw [h52]; rfl))
  refine WL.setB 65 h52 rfl ?_
  refine seg 22 [] [11, 68] [(11, (bv t34.1)), (68, (bv false))] [] (fun fb => by kernel_rfl) rfl trivial ?_
  exact WL.toV K false [68, 11] rfl (by first | (rw [h52]; done) | (rw [h52]; rfl))
 rintro b53 rfl
 refine seg 23 [] [11, 69] [(11, (bv t34.1)), (69, (bv ((((((t24.2 == 0) && (t29.2 == 0)) && (t34.2 == 0)) && (t39.2 == 6)) && (t24.1 == 1)) && (t29.1 == 1))))] [] (fun fb => by kernel_rfl) rfl trivial ?_
 refine WL.cutV (T := Bool) 25 (fun t => [(71, (bv t))]) (fun t => (((((((t24.2 == 0) && (t29.2 == 0)) && (t34.2 == 0)) && (t39.2 == 6)) && (t24.1 == 1)) && (t29.1 == 1)) && t34.1) = t) (fun K => ?_) ?_
 ·
  rcases Bool.eq_false_or_eq_true ((((((t24.2 == 0) && (t29.2 == 0)) && (t34.2 == 0)) && (t39.2 == 6)) && (t24.1 == 1)) && (t29.1 == 1)) with h54 | h54
  ·
   refine WL.setB 69 h54 rfl ?_
   refine seg 25 [] [71] [(71, (bv t34.1))] [] (fun fb => by kernel_rfl) rfl trivial ?_
   exact WL.toV K t34.1 [71] rfl (by first | (rw [h54]; done) | (rw [h54]; rfl))
  refine WL.setB 69 h54 rfl ?_
  refine seg 25 [] [71] [(71, (bv false))] [] (fun fb => by kernel_rfl) rfl trivial ?_
  exact WL.toV K false [71] rfl (by first | (rw [h54]; done) | (rw [h54]; rfl))
 rintro b55 rfl
 refine seg 26 [] [0] [(0, (bv (((((((t24.2 == 0) && (t29.2 == 0)) && (t34.2 == 0)) && (t39.2 == 6)) && (t24.1 == 1)) && (t29.1 == 1)) && t34.1)))] [] (fun fb => by kernel_rfl) rfl trivial ?_
 refine WL.done rfl (WX.next ?_)
 refine WC.ret ?_
 injection hf with hf
 subst hf
 exact WX.ret_ [] (bv (((((((t24.2 == 0) && (t29.2 == 0)) && (t34.2 == 0)) && (t39.2 == 6)) && (t24.1 == 1)) && (t29.1 == 1)) && t34.1)) [] (fun fb => by kernel_rfl) trivial ⟨_, rfl, rfl, hS43.keep⟩
theorem tile_Form_calls (p0 : Pattern) (Aa : Option Addr) (ca : Nat) (r : Bool) (w : World) (hR0 : RO NoS w (rowR encInt Aa ca p0.Cells)) (hf : tile_Form p0 = some r) :
  CallsR Tryd.prog 31 #[(.agg #[(iv p0.Width), (iv p0.Height), (sv Aa p0.Cells ca)])] w (fun v w' => v = (bv r) ∧ Keeps NoS w w') := by
 have hS : St NoS w w [rowR encInt Aa ca p0.Cells] [] := St.init (ro_cons hR0 (ro_nil _ _))
 refine enter 40 Tryd.func31 rfl Tryd.ntmps31 rfl ?_
 unfold tile_Form at hf
 refine WC.seq (WC.region ?_)
 refine WL.new hS 1 [] (fun g => (pt g)) (.cells #[(iv p0.Width), (iv p0.Height), (sv Aa p0.Cells ca)] 25 (0, 0)) [] (fun fb g => by kernel_rfl) trivial (fun g1 w2 hS3 => ?_)
 refine ⟨trivial, ?_⟩
 refine seg 2 [] [1] [(1, (pt g1))] [] (fun fb => by kernel_rfl) rfl trivial ?_
 refine WL.done rfl (WX.next (WC.seq (WC.region ?_)))
 refine seg 4 [.v (iv p0.Width)] [1, 6] [(1, (pt g1)), (6, (bv (decide (p0.Width ≥ 1))))] [.cell ⟨g1, 0, none⟩ (iv p0.Width)] (fun fb => by kernel_rfl) rfl ⟨hS3.cell 0 rfl 0 rfl, trivial⟩ ?_
 refine WL.cutV (T := Bool) 8 (fun t => [(10, (bv t)), (1, (pt g1))]) (fun t => ((decide (p0.Width ≥ 1)) && (decide (p0.Height ≥ 1))) = t) (fun K => ?_) ?_
 ·
  rcases Bool.eq_false_or_eq_true (decide (p0.Width ≥ 1)) with h4 | h4
  ·
   refine WL.setB 6 h4 rfl ?_
   refine seg 8 [.v (iv p0.Height)] [1, 10] [(1, (pt g1)), (10, (bv (decide (p0.Height ≥ 1))))] [.cell ⟨g1, 1, none⟩ (iv p0.Height)] (fun fb => by kernel_rfl) rfl ⟨hS3.cell 0 rfl 1 rfl, trivial⟩ ?_
   exact WL.toV K (decide (p0.Height ≥ 1)) [10, 1] rfl (by first | (rw [h4]; done) | (rw [h4]; rfl))
  refine WL.setB 6 h4 rfl ?_
  refine seg 8 [] [1, 10] [(1, (pt g1)), (10, (bv false))] [] (fun fb => by kernel_rfl) rfl trivial ?_
  exact WL.toV K false [10, 1] rfl (by first | (rw [h4]; done) | (rw [h4]; rfl))
 rintro b5 rfl
 refine seg 9 [] [1, 11] [(1, (pt g1)), (11, (bv ((decide (p0.Width ≥ 1)) && (decide (p0.Height ≥ 1)))))] [] (fun fb => by kernel_rfl) rfl trivial ?_
 refine WL.cutV (T := Bool) 13 (fun t => [(15, (bv t)), (1, (pt g1))]) (fun t => (((decide (p0.Width ≥ 1)) && (decide (p0.Height ≥ 1))) && (decide (p0.Width ≤ 40000))) = t) (fun K => ?_) ?_
 ·
  rcases Bool.eq_false_or_eq_true ((decide (p0.Width ≥ 1)) && (decide (p0.Height ≥ 1))) with h6 | h6
  ·
   refine WL.setB 11 h6 rfl ?_
   refine seg 13 [.v (iv p0.Width)] [1, 15] [(1, (pt g1)), (15, (bv (decide (p0.Width ≤ 40000))))] [.cell ⟨g1, 0, none⟩ (iv p0.Width)] (fun fb => by kernel_rfl) rfl ⟨hS3.cell 0 rfl 0 rfl, trivial⟩ ?_
   exact WL.toV K (decide (p0.Width ≤ 40000)) [15, 1] rfl (by first | (rw [h6]; done) | (rw [h6]; rfl))
  refine WL.setB 11 h6 rfl ?_
  refine seg 13 [] [1, 15] [(1, (pt g1)), (15, (bv false))] [] (fun fb => by kernel_rfl) rfl trivial ?_
  exact WL.toV K false [15, 1] rfl (by first | (rw [h6]; done) | (rw [h6]; rfl))
 rintro b7 rfl
 refine seg 14 [] [1, 16] [(1, (pt g1)), (16, (bv (((decide (p0.Width ≥ 1)) && (decide (p0.Height ≥ 1))) && (decide (p0.Width ≤ 40000)))))] [] (fun fb => by kernel_rfl) rfl trivial ?_
 refine WL.cutV (T := Bool) 18 (fun t => [(20, (bv t)), (1, (pt g1))]) (fun t => ((((decide (p0.Width ≥ 1)) && (decide (p0.Height ≥ 1))) && (decide (p0.Width ≤ 40000))) && (decide (p0.Height ≤ 40000))) = t) (fun K => ?_) ?_
 ·
  rcases Bool.eq_false_or_eq_true (((decide (p0.Width ≥ 1)) && (decide (p0.Height ≥ 1))) && (decide (p0.Width ≤ 40000))) with h8 | h8
  ·
   refine WL.setB 16 h8 rfl ?_
   refine seg 18 [.v (iv p0.Height)] [1, 20] [(1, (pt g1)), (20, (bv (decide (p0.Height ≤ 40000))))] [.cell ⟨g1, 1, none⟩ (iv p0.Height)] (fun fb => by kernel_rfl) rfl ⟨hS3.cell 0 rfl 1 rfl, trivial⟩ ?_
   exact WL.toV K (decide (p0.Height ≤ 40000)) [20, 1] rfl (by first | (rw [h8]; done) | (rw [h8]; rfl))
  refine WL.setB 16 h8 rfl ?_
  refine seg 18 [] [1, 20] [(1, (pt g1)), (20, (bv false))] [] (fun fb => by kernel_rfl) rfl trivial ?_
  exact WL.toV K false [20, 1] rfl (by first | (rw [h8]; done) | (rw [h8]; rfl))
 rintro b9 rfl
 refine seg 19 [] [1, 21] [(1, (pt g1)), (21, (bv ((((decide (p0.Width ≥ 1)) && (decide (p0.Height ≥ 1))) && (decide (p0.Width ≤ 40000))) && (decide (p0.Height ≤ 40000)))))] [] (fun fb => by kernel_rfl) rfl trivial ?_
 refine WL.cutV (T := Bool) 26 (fun t => [(28, (bv t)), (1, (pt g1))]) (fun t => (((((decide (p0.Width ≥ 1)) && (decide (p0.Height ≥ 1))) && (decide (p0.Width ≤ 40000))) && (decide (p0.Height ≤ 40000))) && (decide (w64 (p0.Width * p0.Height) ≤ 40000))) = t) (fun K => ?_) ?_
 ·
  rcases Bool.eq_false_or_eq_true ((((decide (p0.Width ≥ 1)) && (decide (p0.Height ≥ 1))) && (decide (p0.Width ≤ 40000))) && (decide (p0.Height ≤ 40000))) with h10 | h10
  ·
   refine WL.setB 21 h10 rfl ?_
   refine seg 26 [.v (iv p0.Width), .v (iv p0.Height)] [1, 28] [(1, (pt g1)), (28, (bv (decide (w64 (p0.Width * p0.Height) ≤ 40000))))] [.cell ⟨g1, 0, none⟩ (iv p0.Width), .cell ⟨g1, 1, none⟩ (iv p0.Height)] (fun fb => by kernel_rfl) rfl ⟨hS3.cell 0 rfl 0 rfl, hS3.cell 0 rfl 1 rfl, trivial⟩ ?_
   exact WL.toV K (decide (w64 (p0.Width * p0.Height) ≤ 40000)) [28, 1] rfl (by first | (rw [h10]; done) | (rw [h10]; rfl))
  refine WL.setB 21 h10 rfl ?_
  refine seg 26 [] [1, 28] [(1, (pt g1)), (28, (bv false))] [] (fun fb => by kernel_rfl) rfl trivial ?_
  exact WL.toV K false [28, 1] rfl (by first | (rw [h10]; done) | (rw [h10]; rfl))
 rintro b11 rfl
 refine seg 27 [] [1, 29] [(1, (pt g1)), (29, (bv (((((decide (p0.Width ≥ 1)) && (decide (p0.Height ≥ 1))) && (decide (p0.Width ≤ 40000))) && (decide (p0.Height ≤ 40000))) && (decide (w64 (p0.Width * p0.Height) ≤ 40000)))))] [] (fun fb => by kernel_rfl) rfl trivial ?_
 refine WL.cutV (T := Bool) 37 (fun t => [(39, (bv t))]) (fun t => ((((((decide (p0.Width ≥ 1)) && (decide (p0.Height ≥ 1))) && (decide (p0.Width ≤ 40000))) && (decide (p0.Height ≤ 40000))) && (decide (w64 (p0.Width * p0.Height) ≤ 40000))) && ((p0.Cells.length : Int) == (w64 (p0.Width * p0.Height)))) = t) (fun K => ?_) ?_
 ·
  rcases Bool.eq_false_or_eq_true (((((decide (p0.Width ≥ 1)) && (decide (p0.Height ≥ 1))) && (decide (p0.Width ≤ 40000))) && (decide (p0.Height ≤ 40000))) && (decide (w64 (p0.Width * p0.Height) ≤ 40000))) with h12 | h12
  ·
   refine WL.setB 29 h12 rfl ?_
   refine seg 37 [.v (sv Aa p0.Cells ca), .v (iv p0.Width), .v (iv p0.Height)] [39] [(39, (bv ((p0.Cells.length : Int) == (w64 (p0.Width * p0.Height)))))] [.cell ⟨g1, 2, none⟩ (sv Aa p0.Cells ca), .cell ⟨g1, 0, none⟩ (iv p0.Width), .cell ⟨g1, 1, none⟩ (iv p0.Height)] (fun fb => by kernel_rfl) rfl ⟨hS3.cell 0 rfl 2 rfl, hS3.cell 0 rfl 0 rfl, hS3.cell 0 rfl 1 rfl, trivial⟩ ?_
   exact WL.toV K ((p0.Cells.length : Int) == (w64 (p0.Width * p0.Height))) [39] rfl (by first | (rw [h12]; done) | (rw [h12]; rfl))
  refine WL.setB 29 h12 rfl ?_
  refine seg 37 [] [39] [(39, (bv false))] [] (fun fb => by kernel_rfl) rfl trivial ?_
  exact WL.toV K false [39] rfl (by first | (rw [h12]; done) | (rw [h12]; rfl))
 rintro b13 rfl
 refine seg 38 [] [2] [(2, (bv ((((((decide (p0.Width ≥ 1)) && (decide (p0.Height ≥ 1))) && (decide (p0.Width ≤ 40000))) && (decide (p0.Height ≤ 40000))) && (decide (w64 (p0.Width * p0.Height) ≤ 40000))) && ((p0.Cells.length : Int) == (w64 (p0.Width * p0.Height))))))] [] (fun fb => by kernel_rfl) rfl trivial ?_
 refine WL.done rfl (WX.next ?_)
 refine WC.ret ?_
 injection hf with hf
 subst hf
 exact WX.ret_ [] (bv ((((((decide (p0.Width ≥ 1)) && (decide (p0.Height ≥ 1))) && (decide (p0.Width ≤ 40000))) && (decide (p0.Height ≤ 40000))) && (decide (w64 (p0.Width * p0.Height) ≤ 40000))) && ((p0.Cells.length : Int) == (w64 (p0.Width * p0.Height))))) [] (fun fb => by kernel_rfl) trivial ⟨_, rfl, rfl, hS3.keep⟩
theorem tile_of_1_calls (p0 : Int) (f0 : List Tile) (ga : Nat) (Aa : Option Addr) (ca : Nat) (r : Bool) (w : World) (hR0 : RO NoS w (blk ga (.cells #[(sv Aa f0 ca)] 22 (0, 0)))) (hR1 : RO NoS w (rowR enc_Tile Aa ca f0)) (hf : tile_of_1 p0 f0 = some r) :
  CallsR Tryd.prog 33 #[(iv p0), (pt ga)] w (fun v w' => v = (bv r) ∧ Keeps NoS w w') := by
 have hS : St NoS w w [blk ga (.cells #[(sv Aa f0 ca)] 22 (0, 0)), rowR enc_Tile Aa ca f0] [] := St.init (ro_cons hR0 (ro_cons hR1 (ro_nil _ _)))
 refine enter 12 Tryd.func33 rfl Tryd.ntmps33 rfl ?_
 unfold tile_of_1 at hf
 refine WC.seq (WC.region ?_)
 refine seg 1 [] [0, 1] [(0, (iv p0)), (1, (pt ga))] [] (fun fb => by kernel_rfl) rfl trivial ?_
 refine WL.done rfl (WX.next (WC.seq (WC.region ?_)))
 refine seg 3 [] [0, 1, 6] [(0, (iv p0)), (1, (pt ga)), (6, (bv (decide (p0 < 0))))] [] (fun fb => by kernel_rfl) rfl trivial ?_
 refine WL.cutV (T := Bool) 8 (fun t => [(11, (bv t))]) (fun t => ((decide (p0 < 0)) || (decide (p0 ≥ (f0.length : Int)))) = t) (fun K => ?_) ?_
 ·
  rcases Bool.eq_false_or_eq_true (decide (p0 < 0)) with h2 | h2
  ·
   refine WL.setB 6 h2 rfl ?_
   refine seg 8 [] [11] [(11, (bv true))] [] (fun fb => by kernel_rfl) rfl trivial ?_
   exact WL.toV K true [11] rfl (by first | (rw [h2]; done) | (rw [h2]; rfl))
  refine WL.setB 6 h2 rfl ?_
  refine seg 8 [.v (sv Aa f0 ca)] [11] [(11, (bv (decide (p0 ≥ (f0.length : Int)))))] [.cell ⟨ga, 0, none⟩ (sv Aa f0 ca)] (fun fb => by kernel_rfl) rfl ⟨blk_cell (hS.rd 0).1 0 rfl, trivial⟩ ?_
  exact WL.toV K (decide (p0 ≥ (f0.length : Int))) [11] rfl (by first | (rw [h2]; done) | (rw [h2]; rfl))
 rintro b3 rfl
 refine seg 9 [] [3] [(3, (bv ((decide (p0 < 0)) || (decide (p0 ≥ (f0.length : Int))))))] [] (fun fb => by kernel_rfl) rfl trivial ?_
 refine WL.done rfl (WX.next ?_)
 refine WC.ret ?_
 injection hf with hf
 subst hf
 exact WX.ret_ [] (bv ((decide (p0 < 0)) || (decide (p0 ≥ (f0.length : Int))))) [] (fun fb => by kernel_rfl) trivial ⟨_, rfl, rfl, hS.keep⟩
theorem slices_IndexFunc_int_int_with_tile_of_1_calls (k : Nat) (p0 : List Int) (p1_0 : List Tile) (Aa : Option Addr) (ca : Nat) (ga : Nat) (Ab : Option Addr) (cb : Nat) (r : Int) (w : World) (hR0 : RO NoS w (rowR encInt Aa ca p0)) (hR1 : RO NoS w (blk ga (.cells #[(sv Ab p1_0 cb)] 22 (0, 0)))) (hR2 : RO NoS w (rowR enc_Tile Ab cb p1_0)) (hf : slices_IndexFunc_int_int_with_tile_of_1 k p0 p1_0 = some r) :
  CallsR Tryd.prog 46 #[(sv Aa p0 ca), (.func (.func 33) #[] #[(pt ga)])] w (fun v w' => v = (iv r) ∧ Keeps NoS w w') := by
 have hS : St NoS w w [rowR encInt Aa ca p0, blk ga (.cells #[(sv Ab p1_0 cb)] 22 (0, 0)), rowR enc_Tile Ab cb p1_0] [] := St.init (ro_cons hR0 (ro_cons hR1 (ro_cons hR2 (ro_nil _ _))))
 refine enter 19 Tryd.func46 rfl Tryd.ntmps46 rfl ?_
 unfold slices_IndexFunc_int_int_with_tile_of_1 at hf
 refine WC.seq (WC.region ?_)
 refine seg 1 [] [0, 1] [(0, (sv Aa p0 ca)), (1, (.func (.func 33) #[] #[(pt ga)]))] [] (fun fb => by kernel_rfl) rfl trivial ?_
 refine WL.done rfl (WX.next (WC.seq (WC.seq (WC.region ?_))))
 refine seg 3 [] [0, 1, 7, 8] [(0, (sv Aa p0 ca)), (1, (.func (.func 33) #[] #[(pt ga)])), (7, (iv (p0.length : Int))), (8, (iv 0))] [] (fun fb => by kernel_rfl) rfl trivial ?_
 refine WL.done rfl (WX.next ?_)
 obtain ⟨x4, hx5, hf⟩ := bind_some hf
 refine WC.cutN (T := Unit) (fun t => []) (fun t w1 => St NoS w w1 [rowR encInt Aa ca p0, blk ga (.cells #[(sv Ab p1_0 cb)] 22 (0, 0)), rowR enc_Tile Ab cb p1_0] [] ∧ x4 = .inr t) (fun Kx4 => ?_) ?_
 ·
  refine WC.block ?_
  refine WC.loop (T := Int) (fun t => [(0, (sv Aa p0 ca)), (1, (.func (.func 33) #[] #[(pt ga)])), (7, (iv (p0.length : Int))), (8, (iv t))]) (fun n t w1 => St NoS w w1 [rowR encInt Aa ca p0, blk ga (.cells #[(sv Ab p1_0 cb)] 22 (0, 0)), rowR enc_Tile Ab cb p1_0] [] ∧ slices_IndexFunc_int_int_with_tile_of_1.l0 n t p0 p1_0 = some x4) k 0 [0, 1, 7, 8] rfl ⟨(hS.subR [0, 1, 2]).sub [] (by decide), hx5⟩ ?_
  rintro k6 x3 w7 ⟨hS8, hl9⟩
  cases k6 with
  | zero => rw [slices_IndexFunc_int_int_with_tile_of_1.l0] at hl9; cases hl9
  | succ k6 =>
   rw [slices_IndexFunc_int_int_with_tile_of_1.l0] at hl9
   refine WC.seq (WC.region ?_)
   refine seg 1 [] [0, 1, 7, 8, 9] [(0, (sv Aa p0 ca)), (1, (.func (.func 33) #[] #[(pt ga)])), (7, (iv (p0.length : Int))), (8, (iv x3)), (9, (bv (decide (x3 < (p0.length : Int)))))] [] (fun fb => by kernel_rfl) rfl trivial ?_
   refine WL.done rfl (WX.next (WC.seq ?_))
   rcases br_some hl9 with ⟨h10, hl9⟩ | ⟨h10, hl9⟩
   ·refine WC.condT2 (fun fb => by kernel_rfl) h10 ?_
    refine WC.skip (WX.next (WC.seq (WC.block (WC.seq (WC.region ?_)))))
    refine seg 2 [] [0, 1, 5, 7, 8] [(0, (sv Aa p0 ca)), (1, (.func (.func 33) #[] #[(pt ga)])), (5, (iv x3)), (7, (iv (p0.length : Int))), (8, (iv x3))] [] (fun fb => by kernel_rfl) rfl trivial ?_
    refine WL.done rfl (WX.next (WC.seq (WC.region ?_)))
    refine seg 3 [] [0, 1, 5, 7, 8, 11, 12, 13] [(0, (sv Aa p0 ca)), (1, (.func (.func 33) #[] #[(pt ga)])), (5, (iv x3)), (7, (iv (p0.length : Int))), (8, (iv x3)), (11, (.func (.func 33) #[] #[(pt ga)])), (12, (sv Aa p0 ca)), (13, (iv x3))] [] (fun fb => by kernel_rfl) rfl trivial ?_
    obtain ⟨h11, hl9⟩ := as_some hl9
    refine seg 5 [.v (iv (rdD p0 x3 0))] [0, 1, 5, 7, 8, 11, 15] [(0, (sv Aa p0 ca)), (1, (.func (.func 33) #[] #[(pt ga)])), (5, (iv x3)), (7, (iv (p0.length : Int))), (8, (iv x3)), (11, (.func (.func 33) #[] #[(pt ga)])), (15, (iv (rdD p0 x3 0)))] [.idx Aa x3 p0.length, .cell ((adr Aa).add ((x3).toNat * 1)) (iv (rdD p0 x3 0))] (fun fb => by kernel_rfl) rfl ⟨rowR.adr (hS8.rd 0).1 h11.1 h11.2, rowR.cell (hS8.rd 0).1 0 h11.1 h11.2 0 rfl, trivial⟩ ?_
    obtain ⟨t12, ht13, hl9⟩ := bind_some hl9
    refine WL.call (some 16) 33 #[(iv (rdD p0 x3 0)), (pt ga)] (fun fb => by kernel_rfl) (tile_of_1_calls (rdD p0 x3 0) p1_0 ga Ab cb t12 _ (hS8.rd 1) (hS8.rd 2) ht13) (fun v w14 hR15 => ?_)
    obtain ⟨rfl, hk_⟩ := hR15
    have hS16 := hS8.keepN hk_
    refine ⟨trivial, ?_⟩
    refine WL.done rfl (WX.next ?_)
    rcases br_some hl9 with ⟨h17, hl9⟩ | ⟨h17, hl9⟩
    ·refine WC.condT2 (fun fb => by kernel_rfl) h17 ?_
     refine WC.seq (WC.region ?_)
     refine seg 2 [] [4] [(4, (iv x3))] [] (fun fb => by kernel_rfl) rfl trivial ?_
     refine WL.done rfl (WX.next ?_)
     refine WC.ret ?_
     injection hl9 with hl9
     subst hl9
     injection hf with hf
     subst hf
     exact WX.blockR (WX.thenR (WX.thenR (WX.blockR (WX.thenR (WX.ret_ [] (iv x3) [] (fun fb => by kernel_rfl) trivial ⟨_, rfl, rfl, hS16.keep⟩)))))
    refine WC.condF2 (fun fb => by kernel_rfl) h17 ?_
    refine WC.skip ?_
    refine WX.blockN (WX.next ?_)
    refine WC.region ?_
    refine seg 2 [] [0, 1, 7, 8] [(0, (sv Aa p0 ca)), (1, (.func (.func 33) #[] #[(pt ga)])), (7, (iv (p0.length : Int))), (8, (iv (w64 (x3 + 1))))] [] (fun fb => by kernel_rfl) rfl trivial ?_
    refine WL.done rfl ?_
    exact WX.again k6 (Nat.lt_succ_self _) (w64 (x3 + 1)) [0, 1, 7, 8] rfl ⟨(hS16.subR [0, 1, 2]).sub [] (by decide), hl9⟩
   refine WC.condF2 (fun fb => by kernel_rfl) h10 ?_
   refine WC.exit ?_
   injection hl9 with hl9
   exact WX.thenX (WX.thenX (WX.blockHere (WX.to Kx4 () [] rfl ⟨(hS8.subR [0, 1, 2]).sub [] (by decide), hl9.symm⟩)))
 rintro y21 w18 ⟨hS19, hq20⟩
 subst hq20
 have hf := sum_inr hf
 refine WX.next (WC.seq (WC.region ?_))
 refine seg 1 [] [4] [(4, (iv (-1)))] [] (fun fb => by kernel_rfl) rfl trivial ?_
 refine WL.done rfl (WX.next ?_)
 refine WC.ret ?_
 injection hf with hf
 subst hf
 exact WX.ret_ [] (iv (-1)) [] (fun fb => by kernel_rfl) trivial ⟨_, rfl, rfl, hS19.keep⟩
theorem slices_ContainsFunc_int_int_with_tile_of_1_calls (k : Nat) (p0 : List Int) (p1_0 : List Tile) (Aa : Option Addr) (ca : Nat) (ga : Nat) (Ab : Option Addr) (cb : Nat) (r : Bool) (w : World) (hR0 : RO NoS w (rowR encInt Aa ca p0)) (hR1 : RO NoS w (blk ga (.cells #[(sv Ab p1_0 cb)] 22 (0, 0)))) (hR2 : RO NoS w (rowR enc_Tile Ab cb p1_0)) (hf : slices_ContainsFunc_int_int_with_tile_of_1 k p0 p1_0 = some r) :
  CallsR Tryd.prog 32 #[(sv Aa p0 ca), (.func (.func 33) #[] #[(pt ga)])] w (fun v w' => v = (bv r) ∧ Keeps NoS w w') := by
 have hS : St NoS w w [rowR encInt Aa ca p0, blk ga (.cells #[(sv Ab p1_0 cb)] 22 (0, 0)), rowR enc_Tile Ab cb p1_0] [] := St.init (ro_cons hR0 (ro_cons hR1 (ro_cons hR2 (ro_nil _ _))))
 refine enter 9 Tryd.func32 rfl Tryd.ntmps32 rfl ?_
 unfold slices_ContainsFunc_int_int_with_tile_of_1 at hf
 refine WC.seq (WC.region ?_)
 refine seg 1 [] [0, 1] [(0, (sv Aa p0 ca)), (1, (.func (.func 33) #[] #[(pt ga)]))] [] (fun fb => by kernel_rfl) rfl trivial ?_
 refine WL.done rfl (WX.next (WC.seq (WC.region ?_)))
 refine seg 2 [] [5, 6] [(5, (sv Aa p0 ca)), (6, (.func (.func 33) #[] #[(pt ga)]))] [] (fun fb => by kernel_rfl) rfl trivial ?_
 obtain ⟨t3, ht4, hf⟩ := bind_some hf
 refine WL.call (some 7) 46 #[(sv Aa p0 ca), (.func (.func 33) #[] #[(pt ga)])] (fun fb => by kernel_rfl) (slices_IndexFunc_int_int_with_tile_of_1_calls _ p0 p1_0 Aa ca ga Ab cb t3 _ (hS.rd 0) (hS.rd 1) (hS.rd 2) ht4) (fun v w5 hR6 => ?_)
 obtain ⟨rfl, hk_⟩ := hR6
 have hS7 := hS.keepN hk_
 refine ⟨trivial, ?_⟩
 refine seg 5 [] [4] [(4, (bv (decide (t3 ≥ 0))))] [] (fun fb => by kernel_rfl) rfl trivial ?_
 refine WL.done rfl (WX.next ?_)
 refine WC.ret ?_
 injection hf with hf
 subst hf
 exact WX.ret_ [] (bv (decide (t3 ≥ 0))) [] (fun fb => by kernel_rfl) trivial ⟨_, rfl, rfl, hS7.keep⟩
theorem tile_of_calls (k : Nat) (p0 : List Tile) (p1 : Pattern) (Aa : Option Addr) (ca : Nat) (Ab : Option Addr) (cb : Nat) (r : Bool) (w : World) (hR0 : RO NoS w (rowR enc_Tile Aa ca p0)) (hR1 : RO NoS w (rowR encInt Ab cb p1.Cells)) (hf : tile_of k p0 p1 = some r) :
  CallsR Tryd.prog 20 #[(sv Aa p0 ca), (.agg #[(iv p1.Width), (iv p1.Height), (sv Ab p1.Cells cb)])] w (fun v w' => v = (bv r) ∧ Keeps NoS w w') := by
 have hS : St NoS w w [rowR enc_Tile Aa ca p0, rowR encInt Ab cb p1.Cells] [] := St.init (ro_cons hR0 (ro_cons hR1 (ro_nil _ _)))
 refine enter 18 Tryd.func20 rfl Tryd.ntmps20 rfl ?_
 unfold tile_of at hf
 refine WC.seq (WC.region ?_)
 refine WL.new hS 2 [] (fun g => (pt g)) (.cells #[(sv Aa p0 ca)] 22 (0, 0)) [] (fun fb g => by kernel_rfl) trivial (fun g2 w3 hS4 => ?_)
 refine ⟨trivial, ?_⟩
 refine WL.new hS4 3 [] (fun g => (pt g)) (.cells #[(iv p1.Width), (iv p1.Height), (sv Ab p1.Cells cb)] 25 (0, 0)) [] (fun fb g => by kernel_rfl) trivial (fun g5 w6 hS7 => ?_)
 refine ⟨trivial, ?_⟩
 refine seg 3 [] [2, 3] [(2, (pt g2)), (3, (pt g5))] [] (fun fb => by kernel_rfl) rfl trivial ?_
 refine WL.done rfl (WX.next (WC.seq (WC.region ?_)))
 refine seg 1 [.v (sv Aa p0 ca)] [2, 3, 5] [(2, (pt g2)), (3, (pt g5)), (5, (sv Aa p0 ca))] [.cell ⟨g2, 0, none⟩ (sv Aa p0 ca)] (fun fb => by kernel_rfl) rfl ⟨hS7.cell 1 rfl 0 rfl, trivial⟩ ?_
 obtain ⟨t8, ht9, hf⟩ := bind_some hf
 refine WL.call (some 6) 22 #[(sv Aa p0 ca)] (fun fb => by kernel_rfl) (tile_Valid_calls _ p0 Aa ca t8 _ (hS7.rd 0) ht9) (fun v w10 hR11 => ?_)
 obtain ⟨rfl, hk_⟩ := hR11
 have hS12 := hS7.keepN hk_
 refine ⟨trivial, ?_⟩
 refine seg 3 [] [2, 3, 7] [(2, (pt g2)), (3, (pt g5)), (7, (bv t8))] [] (fun fb => by kernel_rfl) rfl trivial ?_
 obtain ⟨x13, hx14, hf⟩ := bind_some hf
 refine WL.cutW (T := Bool) 6 (fun t => [(2, (pt g2)), (3, (pt g5)), (10, (bv t))]) (fun t w1 => (St NoS w w1 [rowR enc_Tile Aa ca p0, rowR encInt Ab cb p1.Cells] [blk g2 (.cells #[(sv Aa p0 ca)] 22 (0, 0)), blk g5 (.cells #[(iv p1.Width), (iv p1.Height), (sv Ab p1.Cells cb)] 25 (0, 0))] ∧ x13 = t) ∧ CellsOK [] w1) (fun K => ?_) ?_
 ·
  rcases br_some hx14 with ⟨h15, hx14⟩ | ⟨h15, hx14⟩
  ·
   refine WL.setB 7 h15 rfl ?_
   refine seg 4 [.v (iv p1.Width), .v (iv p1.Height), .v (sv Ab p1.Cells cb)] [2, 3, 7, 8] [(2, (pt g2)), (3, (pt g5)), (7, (bv true)), (8, (.agg #[(iv p1.Width), (iv p1.Height), (sv Ab p1.Cells cb)]))] [.cell ⟨g5, 0, none⟩ (iv p1.Width), .cell ⟨g5, 1, none⟩ (iv p1.Height), .cell ⟨g5, 2, none⟩ (sv Ab p1.Cells cb)] (fun fb => by kernel_rfl) rfl ⟨hS12.cell 0 rfl 0 rfl, hS12.cell 0 rfl 1 rfl, hS12.cell 0 rfl 2 rfl, trivial⟩ ?_
   obtain ⟨t16, ht17, hx14⟩ := bind_some hx14
   refine WL.call (some 9) 31 #[(.agg #[(iv p1.Width), (iv p1.Height), (sv Ab p1.Cells cb)])] (fun fb => by kernel_rfl) (tile_Form_calls p1 Ab cb t16 _ (hS12.rd 1) ht17) (fun v w18 hR19 => ?_)
   obtain ⟨rfl, hk_⟩ := hR19
   have hS21 := hS12.keepN hk_
   refine ⟨trivial, ?_⟩
   refine seg 6 [] [2, 3, 10] [(2, (pt g2)), (3, (pt g5)), (10, (bv t16))] [] (fun fb => by kernel_rfl) rfl trivial ?_
   injection hx14 with hx14
   exact WL.to K t16 [2, 3, 10] rfl ⟨⟨(hS21.subR [0, 1]).sub [1, 0] (by decide), hx14.symm⟩, trivial⟩
  refine WL.setB 7 h15 rfl ?_
  refine seg 6 [] [2, 3, 10] [(2, (pt g2)), (3, (pt g5)), (10, (bv false))] [] (fun fb => by kernel_rfl) rfl trivial ?_
  injection hx14 with hx14
  exact WL.to K false [2, 3, 10] rfl ⟨⟨(hS12.subR [0, 1]).sub [1, 0] (by decide), hx14.symm⟩, trivial⟩
 rintro y22 w24 ⟨⟨hS25, hq23⟩, hF26⟩
 subst hq23
 refine seg 7 [] [2, 3, 11] [(2, (pt g2)), (3, (pt g5)), (11, (bv x13))] [] (fun fb => by kernel_rfl) rfl trivial ?_
 obtain ⟨x27, hx28, hf⟩ := bind_some hf
 refine WL.cutW (T := Bool) 13 (fun t => [(17, (bv t))]) (fun t w1 => (St NoS w w1 [rowR enc_Tile Aa ca p0, rowR encInt Ab cb p1.Cells] [] ∧ x27 = t) ∧ CellsOK [] w1) (fun K => ?_) ?_
 ·
  rcases br_some hx28 with ⟨h29, hx28⟩ | ⟨h29, hx28⟩
  ·
   refine WL.setB 11 h29 rfl ?_
   refine seg 10 [.v (sv Ab p1.Cells cb)] [11, 13, 14] [(11, (bv true)), (13, (sv Ab p1.Cells cb)), (14, (.func (.func 33) #[] #[(pt g2)]))] [.cell ⟨g5, 2, none⟩ (sv Ab p1.Cells cb)] (fun fb => by kernel_rfl) rfl ⟨hS25.cell 1 rfl 2 rfl, trivial⟩ ?_
   obtain ⟨t30, ht31, hx28⟩ := bind_some hx28
   refine WL.call (some 15) 32 #[(sv Ab p1.Cells cb), (.func (.func 33) #[] #[(pt g2)])] (fun fb => by kernel_rfl) (slices_ContainsFunc_int_int_with_tile_of_1_calls _ p1.Cells p0 Ab cb g2 Aa ca t30 _ (hS25.rd 1) (hS25.ow 0) (hS25.rd 0) ht31) (fun v w32 hR33 => ?_)
   obtain ⟨rfl, hk_⟩ := hR33
   have hS34 := hS25.keepN hk_
   refine ⟨trivial, ?_⟩
   refine seg 13 [] [17] [(17, (bv (!t30)))] [] (fun fb => by kernel_rfl) rfl trivial ?_
   injection hx28 with hx28
   exact WL.to K (!t30) [17] rfl ⟨⟨(hS34.subR [0, 1]).sub [] (by decide), hx28.symm⟩, trivial⟩
  refine WL.setB 11 h29 rfl ?_
  refine seg 13 [] [17] [(17, (bv false))] [] (fun fb => by kernel_rfl) rfl trivial ?_
  injection hx28 with hx28
  exact WL.to K false [17] rfl ⟨⟨(hS25.subR [0, 1]).sub [] (by decide), hx28.symm⟩, trivial⟩
 rintro y35 w37 ⟨⟨hS38, hq36⟩, hF39⟩
 subst hq36
 refine seg 14 [] [4] [(4, (bv x27))] [] (fun fb => by kernel_rfl) rfl trivial ?_
 refine WL.done rfl (WX.next ?_)
 refine WC.ret ?_
 injection hf with hf
 subst hf
 exact WX.ret_ [] (bv x27) [] (fun fb => by kernel_rfl) trivial ⟨_, rfl, rfl, hS38.keep⟩
theorem tile_joins_calls (k : Nat) (p0 : List Tile) (p1 : Pattern) (p2 : Bool) (Aa : Option Addr) (ca : Nat) (Ab : Option Addr) (cb : Nat) (r : Bool) (w : World) (hR0 : RO NoS w (rowR enc_Tile Aa ca p0)) (hR1 : RO NoS w (rowR encInt Ab cb p1.Cells)) (hf : tile_joins k p0 p1 p2 = some r) :
  CallsR Tryd.prog 21 #[(sv Aa p0 ca), (.agg #[(iv p1.Width), (iv p1.Height), (sv Ab p1.Cells cb)]), (bv p2)] w (fun v w' => v = (bv r) ∧ Keeps NoS w w') := by
 have hS : St NoS w w [rowR enc_Tile Aa ca p0, rowR encInt Ab cb p1.Cells] [] := St.init (ro_cons hR0 (ro_cons hR1 (ro_nil _ _)))
 refine enter 92 Tryd.func21 rfl Tryd.ntmps21 rfl ?_
 unfold tile_joins at hf
 refine WC.seq (WC.region ?_)
 refine WL.new hS 4 [] (fun g => (pt g)) (.cells #[(iv p1.Width), (iv p1.Height), (sv Ab p1.Cells cb)] 25 (0, 0)) [] (fun fb g => by kernel_rfl) trivial (fun g3 w4 hS5 => ?_)
 refine ⟨trivial, ?_⟩
 refine seg 2 [] [0, 2, 4] [(0, (sv Aa p0 ca)), (2, (bv p2)), (4, (pt g3))] [] (fun fb => by kernel_rfl) rfl trivial ?_
 refine WL.done rfl (WX.next (WC.seq (WC.seq (WC.region ?_))))
 refine seg 4 [.v (sv Ab p1.Cells cb)] [0, 2, 4, 12, 13, 14] [(0, (sv Aa p0 ca)), (2, (bv p2)), (4, (pt g3)), (12, (sv Ab p1.Cells cb)), (13, (iv (p1.Cells.length : Int))), (14, (iv 0))] [.cell ⟨g3, 2, none⟩ (sv Ab p1.Cells cb)] (fun fb => by kernel_rfl) rfl ⟨hS5.cell 0 rfl 2 rfl, trivial⟩ ?_
 refine WL.done rfl (WX.next ?_)
 obtain ⟨x7, hx8, hf⟩ := bind_some hf
 refine WC.cutN (T := Unit) (fun t => []) (fun t w1 => St NoS w w1 [rowR enc_Tile Aa ca p0, rowR encInt Ab cb p1.Cells] [] ∧ x7 = .inr t) (fun Kx7 => ?_) ?_
 ·
  refine WC.block ?_
  refine WC.loop (T := Int) (fun t => [(0, (sv Aa p0 ca)), (2, (bv p2)), (4, (pt g3)), (12, (sv Ab p1.Cells cb)), (13, (iv (p1.Cells.length : Int))), (14, (iv t))]) (fun n t w1 => St NoS w w1 [rowR enc_Tile Aa ca p0, rowR encInt Ab cb p1.Cells] [blk g3 (.cells #[(iv p1.Width), (iv p1.Height), (sv Ab p1.Cells cb)] 25 (0, 0))] ∧ tile_joins.l0 n t p0 p1 p2 = some x7) k 0 [0, 2, 4, 12, 13, 14] rfl ⟨(hS5.subR [0, 1]).sub [0] (by decide), hx8⟩ ?_
  rintro k9 x6 w10 ⟨hS11, hl12⟩
  cases k9 with
  | zero => rw [tile_joins.l0] at hl12; cases hl12
  | succ k9 =>
   rw [tile_joins.l0] at hl12
   refine WC.seq (WC.region ?_)
   refine seg 1 [] [0, 2, 4, 12, 13, 14, 15] [(0, (sv Aa p0 ca)), (2, (bv p2)), (4, (pt g3)), (12, (sv Ab p1.Cells cb)), (13, (iv (p1.Cells.length : Int))), (14, (iv x6)), (15, (bv (decide (x6 < (p1.Cells.length : Int)))))] [] (fun fb => by kernel_rfl) rfl trivial ?_
   refine WL.done rfl (WX.next (WC.seq ?_))
   rcases br_some hl12 with ⟨h13, hl12⟩ | ⟨h13, hl12⟩
   ·refine WC.condT2 (fun fb => by kernel_rfl) h13 ?_
    refine WC.skip (WX.next (WC.seq (WC.block (WC.seq (WC.region ?_)))))
    refine seg 1 [] [0, 2, 4, 12, 13, 14, 16] [(0, (sv Aa p0 ca)), (2, (bv p2)), (4, (pt g3)), (12, (sv Ab p1.Cells cb)), (13, (iv (p1.Cells.length : Int))), (14, (iv x6)), (16, (iv x6))] [] (fun fb => by kernel_rfl) rfl trivial ?_
    obtain ⟨h14, hl12⟩ := as_some hl12
    refine seg 5 [.v (iv (rdD p1.Cells x6 0))] [0, 2, 4, 7, 8, 12, 13, 14] [(0, (sv Aa p0 ca)), (2, (bv p2)), (4, (pt g3)), (7, (iv x6)), (8, (iv (rdD p1.Cells x6 0))), (12, (sv Ab p1.Cells cb)), (13, (iv (p1.Cells.length : Int))), (14, (iv x6))] [.idx Ab x6 p1.Cells.length, .cell ((adr Ab).add ((x6).toNat * 1)) (iv (rdD p1.Cells x6 0))] (fun fb => by kernel_rfl) rfl ⟨rowR.adr (hS11.rd 1).1 h14.1 h14.2, rowR.cell (hS11.rd 1).1 0 h14.1 h14.2 0 rfl, trivial⟩ ?_
    refine WL.done rfl (WX.next (WC.seq ?_))
    obtain ⟨h17, hl12⟩ := as_some hl12
    refine WC.regionD ([(2, ⟨g3, 0, none⟩, (iv p1.Width)), (6, ⟨g3, 0, none⟩, (iv p1.Width))], [0, 1, 2, 3, 4, 5, 6, 7, 8, 9], [[], [], [1], [0, 1, 2], [], [], [5], [4, 5, 6], [0, 1, 2, 3], [0, 1, 2, 3, 4, 5, 6, 7, 8]]) [[0, 1, 2, 3, 4, 5, 6, 7, 8, 9]] (by kernel_rfl) (by kernel_rfl) (NoPanic.seq (NoPanic.block (NoPanic.seq (NoPanic.seq (NoPanic.block (NoPanic.seq (NoPanic.body))))))) ?_
    have hS16 := hS11.drew
    revert hS16
    generalize World.drew w10 = w15
    intro hS16
    refine ⟨⟨hS16.cell 0 rfl 0 rfl, hS16.cell 0 rfl 0 rfl, trivial⟩, forallC ?_ (forallN)⟩
    refine segF 10 [.v (iv p1.Width), .v (iv p1.Width)] [0, 2, 4, 8, 9, 10, 12, 13, 14] [(0, (sv Aa p0 ca)), (2, (bv p2)), (4, (pt g3)), (8, (iv (rdD p1.Cells x6 0))), (9, (iv (Int.tmod x6 p1.Width))), (10, (iv (w64 (Int.tdiv x6 p1.Width)))), (12, (sv Ab p1.Cells cb)), (13, (iv (p1.Cells.length : Int))), (14, (iv x6))] [.ne p1.Width, .ne p1.Width] [0, 1] [(2, ⟨g3, 0, none⟩, (iv p1.Width)), (6, ⟨g3, 0, none⟩, (iv p1.Width))] (fun fb => by kernel_rfl) rfl ⟨h17, h17, trivial⟩ rfl ?_
    refine WL.done rfl (WX.next (WC.seq (WC.seq (WC.region ?_))))
    refine seg 6 [.v (iv p1.Width)] [0, 2, 4, 8, 9, 10, 12, 13, 14, 32] [(0, (sv Aa p0 ca)), (2, (bv p2)), (4, (pt g3)), (8, (iv (rdD p1.Cells x6 0))), (9, (iv (Int.tmod x6 p1.Width))), (10, (iv (w64 (Int.tdiv x6 p1.Width)))), (12, (sv Ab p1.Cells cb)), (13, (iv (p1.Cells.length : Int))), (14, (iv x6)), (32, (bv (decide (w64 ((Int.tmod x6 p1.Width) + 1) < p1.Width))))] [.cell ⟨g3, 0, none⟩ (iv p1.Width)] (fun fb => by kernel_rfl) rfl ⟨hS16.cell 0 rfl 0 rfl, trivial⟩ ?_
    refine WL.cutV (T := Bool) 8 (fun t => [(34, (bv t)), (0, (sv Aa p0 ca)), (2, (bv p2)), (4, (pt g3)), (8, (iv (rdD p1.Cells x6 0))), (9, (iv (Int.tmod x6 p1.Width))), (10, (iv (w64 (Int.tdiv x6 p1.Width)))), (12, (sv Ab p1.Cells cb)), (13, (iv (p1.Cells.length : Int))), (14, (iv x6))]) (fun t => ((decide (w64 ((Int.tmod x6 p1.Width) + 1) < p1.Width)) || p2) = t) (fun K => ?_) ?_
    ·
     rcases Bool.eq_false_or_eq_true (decide (w64 ((Int.tmod x6 p1.Width) + 1) < p1.Width)) with h18 | h18
     ·
      refine WL.setB 32 h18 rfl ?_
      refine seg 8 [] [0, 2, 4, 8, 9, 10, 12, 13, 14, 34] [(0, (sv Aa p0 ca)), (2, (bv p2)), (4, (pt g3)), (8, (iv (rdD p1.Cells x6 0))), (9, (iv (Int.tmod x6 p1.Width))), (10, (iv (w64 (Int.tdiv x6 p1.Width)))), (12, (sv Ab p1.Cells cb)), (13, (iv (p1.Cells.length : Int))), (14, (iv x6)), (34, (bv true))] [] (fun fb => by kernel_rfl) rfl trivial ?_
      exact WL.toV K true [34, 0, 2, 4, 8, 9, 10, 12, 13, 14] rfl (by first | (rw [h18]; done) | (rw [h18]; rfl))
     refine WL.setB 32 h18 rfl ?_
     refine seg 8 [] [0, 2, 4, 8, 9, 10, 12, 13, 14, 34] [(0, (sv Aa p0 ca)), (2, (bv p2)), (4, (pt g3)), (8, (iv (rdD p1.Cells x6 0))), (9, (iv (Int.tmod x6 p1.Width))), (10, (iv (w64 (Int.tdiv x6 p1.Width)))), (12, (sv Ab p1.Cells cb)), (13, (iv (p1.Cells.length : Int))), (14, (iv x6)), (34, (bv p2))] [] (fun fb => by kernel_rfl) rfl trivial ?_
     exact WL.toV K p2 [34, 0, 2, 4, 8, 9, 10, 12, 13, 14] rfl (by first | (rw [h18]; done) | (rw [h18]; rfl))
    rintro b19 rfl
    refine WL.done rfl (WX.next ?_)
    obtain ⟨x20, hx22, hl12⟩ := bind_some hl12
    refine WC.cutN (T := Unit) (fun t => [(0, (sv Aa p0 ca)), (2, (bv p2)), (4, (pt g3)), (8, (iv (rdD p1.Cells x6 0))), (9, (iv (Int.tmod x6 p1.Width))), (10, (iv (w64 (Int.tdiv x6 p1.Width)))), (12, (sv Ab p1.Cells cb)), (13, (iv (p1.Cells.length : Int))), (14, (iv x6))]) (fun t w1 => St NoS w w1 [rowR enc_Tile Aa ca p0, rowR encInt Ab cb p1.Cells] [blk g3 (.cells #[(iv p1.Width), (iv p1.Height), (sv Ab p1.Cells cb)] 25 (0, 0))] ∧ x20 = .inr t) (fun Kx20 => ?_) ?_
    ·
     rcases br_some hx22 with ⟨h23, hx22⟩ | ⟨h23, hx22⟩
     ·refine WC.condT2 (fun fb => by kernel_rfl) h23 ?_
      refine WC.seq ?_
      obtain ⟨h26, hx22⟩ := as_some hx22
      obtain ⟨h27, hx22⟩ := as_some hx22
      obtain ⟨h28, hx22⟩ := as_some hx22
      refine WC.regionD ([(4, (((adr Aa).add (((rdD p1.Cells x6 0)).toNat * 4)).add 1), (iv ((rdD p0 (rdD p1.Cells x6 0) z_Tile).E))), (7, ⟨g3, 2, none⟩, (sv Ab p1.Cells cb)), (10, ⟨g3, 0, none⟩, (iv p1.Width)), (15, ⟨g3, 0, none⟩, (iv p1.Width)), (19, ((adr Ab).add ((w64 ((w64 ((w64 (Int.tdiv x6 p1.Width)) * p1.Width)) + (Int.tmod (w64 ((Int.tmod x6 p1.Width) + 1)) p1.Width))).toNat * 1)), (iv (rdD p1.Cells (w64 ((w64 ((w64 (Int.tdiv x6 p1.Width)) * p1.Width)) + (Int.tmod (w64 ((Int.tmod x6 p1.Width) + 1)) p1.Width))) 0))), (22, (((adr Aa).add (((rdD p1.Cells (w64 ((w64 ((w64 (Int.tdiv x6 p1.Width)) * p1.Width)) + (Int.tmod (w64 ((Int.tmod x6 p1.Width) + 1)) p1.Width))) 0)).toNat * 4)).add 3), (iv ((rdD p0 (rdD p1.Cells (w64 ((w64 ((w64 (Int.tdiv x6 p1.Width)) * p1.Width)) + (Int.tmod (w64 ((Int.tmod x6 p1.Width) + 1)) p1.Width))) 0) z_Tile).W)))], [0, 1, 2, 3, 4, 5, 6, 7, 8, 9, 10, 11, 12, 13, 14, 15, 16, 17, 18, 19, 20, 21, 22, 23], [[], [], [0, 1], [0, 1, 2], [0, 1, 2, 3], [], [], [6], [], [], [9], [8, 9, 10], [], [12], [], [14], [12, 13, 14, 15], [8, 9, 10, 11, 12, 13, 14, 15, 16], [6, 7, 8, 9, 10, 11, 12, 13, 14, 15, 16, 17], [6, 7, 8, 9, 10, 11, 12, 13, 14, 15, 16, 17, 18], [5, 6, 7, 8, 9, 10, 11, 12, 13, 14, 15, 16, 17, 18, 19], [5, 6, 7, 8, 9, 10, 11, 12, 13, 14, 15, 16, 17, 18, 19, 20], [5, 6, 7, 8, 9, 10, 11, 12, 13, 14, 15, 16, 17, 18, 19, 20, 21], [0, 1, 2, 3, 4, 5, 6, 7, 8, 9, 10, 11, 12, 13, 14, 15, 16, 17, 18, 19, 20, 21, 22]]) [[0, 1, 2, 3, 4, 5, 6, 7, 8, 9, 10, 11, 12, 13, 14, 15, 16, 17, 18, 19, 20, 21, 22, 23]] (by kernel_rfl) (by kernel_rfl) (NoPanic.seq (NoPanic.seq (NoPanic.block (NoPanic.seq (NoPanic.seq (NoPanic.block (NoPanic.seq (NoPanic.body)))))))) ?_
      have hS25 := hS16.drew
      revert hS25
      generalize World.drew w15 = w24
      intro hS25
      refine ⟨⟨rowR.cell (hS25.rd 0).1 z_Tile h26.1 h26.2 1 rfl, hS25.cell 0 rfl 2 rfl, hS25.cell 0 rfl 0 rfl, hS25.cell 0 rfl 0 rfl, rowR.cell (hS25.rd 1).1 0 h27.1 h27.2 0 rfl, rowR.cell (hS25.rd 0).1 z_Tile h28.1 h28.2 3 rfl, trivial⟩, forallC ?_ (forallN)⟩
      refine segF 24 [.v (iv ((rdD p0 (rdD p1.Cells x6 0) z_Tile).E)), .v (sv Ab p1.Cells cb), .v (iv p1.Width), .v (iv p1.Width), .v (iv (rdD p1.Cells (w64 ((w64 ((w64 (Int.tdiv x6 p1.Width)) * p1.Width)) + (Int.tmod (w64 ((Int.tmod x6 p1.Width) + 1)) p1.Width))) 0)), .v (iv ((rdD p0 (rdD p1.Cells (w64 ((w64 ((w64 (Int.tdiv x6 p1.Width)) * p1.Width)) + (Int.tmod (w64 ((Int.tmod x6 p1.Width) + 1)) p1.Width))) 0) z_Tile).W))] [0, 2, 4, 8, 9, 10, 12, 13, 14, 58] [(0, (sv Aa p0 ca)), (2, (bv p2)), (4, (pt g3)), (8, (iv (rdD p1.Cells x6 0))), (9, (iv (Int.tmod x6 p1.Width))), (10, (iv (w64 (Int.tdiv x6 p1.Width)))), (12, (sv Ab p1.Cells cb)), (13, (iv (p1.Cells.length : Int))), (14, (iv x6)), (58, (bv (((rdD p0 (rdD p1.Cells x6 0) z_Tile).E) != ((rdD p0 (rdD p1.Cells (w64 ((w64 ((w64 (Int.tdiv x6 p1.Width)) * p1.Width)) + (Int.tmod (w64 ((Int.tmod x6 p1.Width) + 1)) p1.Width))) 0) z_Tile).W))))] [.idx Aa (rdD p1.Cells x6 0) p0.length, .ne p1.Width, .idx Ab (w64 ((w64 ((w64 (Int.tdiv x6 p1.Width)) * p1.Width)) + (Int.tmod (w64 ((Int.tmod x6 p1.Width) + 1)) p1.Width))) p1.Cells.length, .idx Aa (rdD p1.Cells (w64 ((w64 ((w64 (Int.tdiv x6 p1.Width)) * p1.Width)) + (Int.tmod (w64 ((Int.tmod x6 p1.Width) + 1)) p1.Width))) 0) p0.length] [0, 1, 2, 3, 4, 5] [(4, (((adr Aa).add (((rdD p1.Cells x6 0)).toNat * 4)).add 1), (iv ((rdD p0 (rdD p1.Cells x6 0) z_Tile).E))), (7, ⟨g3, 2, none⟩, (sv Ab p1.Cells cb)), (10, ⟨g3, 0, none⟩, (iv p1.Width)), (15, ⟨g3, 0, none⟩, (iv p1.Width)), (19, ((adr Ab).add ((w64 ((w64 ((w64 (Int.tdiv x6 p1.Width)) * p1.Width)) + (Int.tmod (w64 ((Int.tmod x6 p1.Width) + 1)) p1.Width))).toNat * 1)), (iv (rdD p1.Cells (w64 ((w64 ((w64 (Int.tdiv x6 p1.Width)) * p1.Width)) + (Int.tmod (w64 ((Int.tmod x6 p1.Width) + 1)) p1.Width))) 0))), (22, (((adr Aa).add (((rdD p1.Cells (w64 ((w64 ((w64 (Int.tdiv x6 p1.Width)) * p1.Width)) + (Int.tmod (w64 ((Int.tmod x6 p1.Width) + 1)) p1.Width))) 0)).toNat * 4)).add 3), (iv ((rdD p0 (rdD p1.Cells (w64 ((w64 ((w64 (Int.tdiv x6 p1.Width)) * p1.Width)) + (Int.tmod (w64 ((Int.tmod x6 p1.Width) + 1)) p1.Width))) 0) z_Tile).W)))] (fun fb => by kernel_rfl) rfl ⟨rowR.adr (hS25.rd 0).1 h26.1 h26.2, h17, rowR.adr (hS25.rd 1).1 h27.1 h27.2, rowR.adr (hS25.rd 0).1 h28.1 h28.2, trivial⟩ rfl ?_
      refine WL.done rfl (WX.next ?_)
      rcases br_some hx22 with ⟨h29, hx22⟩ | ⟨h29, hx22⟩
      ·refine WC.condT2 (fun fb => by kernel_rfl) h29 ?_
       refine WC.seq (WC.region ?_)
       refine seg 1 [] [6] [(6, (bv false))] [] (fun fb => by kernel_rfl) rfl trivial ?_
       refine WL.done rfl (WX.next ?_)
       refine WC.ret ?_
       injection hx22 with hx22
       subst hx22
       injection hl12 with hl12
       subst hl12
       injection hf with hf
       subst hf
       exact WX.thenR (WX.blockR (WX.thenR (WX.thenR (WX.blockR (WX.thenR (WX.ret_ [] (bv false) [] (fun fb => by kernel_rfl) trivial ⟨_, rfl, rfl, hS25.keep⟩))))))
      refine WC.condF2 (fun fb => by kernel_rfl) h29 ?_
      refine WC.skip ?_
      injection hx22 with hx22
      exact WX.to Kx20 () [0, 2, 4, 8, 9, 10, 12, 13, 14] rfl ⟨(hS25.subR [0, 1]).sub [0] (by decide), hx22.symm⟩
     refine WC.condF2 (fun fb => by kernel_rfl) h23 ?_
     refine WC.skip ?_
     injection hx22 with hx22
     exact WX.to Kx20 () [0, 2, 4, 8, 9, 10, 12, 13, 14] rfl ⟨(hS16.subR [0, 1]).sub [0] (by decide), hx22.symm⟩
    rintro y33 w30 ⟨hS31, hq32⟩
    subst hq32
    have hl12 := sum_inr hl12
    refine WX.next (WC.seq (WC.region ?_))
    refine seg 6 [.v (iv p1.Height)] [0, 2, 4, 8, 9, 10, 12, 13, 14, 64] [(0, (sv Aa p0 ca)), (2, (bv p2)), (4, (pt g3)), (8, (iv (rdD p1.Cells x6 0))), (9, (iv (Int.tmod x6 p1.Width))), (10, (iv (w64 (Int.tdiv x6 p1.Width)))), (12, (sv Ab p1.Cells cb)), (13, (iv (p1.Cells.length : Int))), (14, (iv x6)), (64, (bv (decide (w64 ((w64 (Int.tdiv x6 p1.Width)) + 1) < p1.Height))))] [.cell ⟨g3, 1, none⟩ (iv p1.Height)] (fun fb => by kernel_rfl) rfl ⟨hS31.cell 0 rfl 1 rfl, trivial⟩ ?_
    refine WL.cutV (T := Bool) 8 (fun t => [(66, (bv t)), (0, (sv Aa p0 ca)), (2, (bv p2)), (4, (pt g3)), (8, (iv (rdD p1.Cells x6 0))), (9, (iv (Int.tmod x6 p1.Width))), (10, (iv (w64 (Int.tdiv x6 p1.Width)))), (12, (sv Ab p1.Cells cb)), (13, (iv (p1.Cells.length : Int))), (14, (iv x6))]) (fun t => ((decide (w64 ((w64 (Int.tdiv x6 p1.Width)) + 1) < p1.Height)) || p2) = t) (fun K => ?_) ?_
    ·
     rcases Bool.eq_false_or_eq_true (decide (w64 ((w64 (Int.tdiv x6 p1.Width)) + 1) < p1.Height)) with h34 | h34
     ·
      refine WL.setB 64 h34 rfl ?_
      refine seg 8 [] [0, 2, 4, 8, 9, 10, 12, 13, 14, 66] [(0, (sv Aa p0 ca)), (2, (bv p2)), (4, (pt g3)), (8, (iv (rdD p1.Cells x6 0))), (9, (iv (Int.tmod x6 p1.Width))), (10, (iv (w64 (Int.tdiv x6 p1.Width)))), (12, (sv Ab p1.Cells cb)), (13, (iv (p1.Cells.length : Int))), (14, (iv x6)), (66, (bv true))] [] (fun fb => by kernel_rfl) rfl trivial ?_
      exact WL.toV K true [66, 0, 2, 4, 8, 9, 10, 12, 13, 14] rfl (by first | (rw [h34]; done) | (rw [h34]; rfl))
     refine WL.setB 64 h34 rfl ?_
     refine seg 8 [] [0, 2, 4, 8, 9, 10, 12, 13, 14, 66] [(0, (sv Aa p0 ca)), (2, (bv p2)), (4, (pt g3)), (8, (iv (rdD p1.Cells x6 0))), (9, (iv (Int.tmod x6 p1.Width))), (10, (iv (w64 (Int.tdiv x6 p1.Width)))), (12, (sv Ab p1.Cells cb)), (13, (iv (p1.Cells.length : Int))), (14, (iv x6)), (66, (bv p2))] [] (fun fb => by kernel_rfl) rfl trivial ?_
     exact WL.toV K p2 [66, 0, 2, 4, 8, 9, 10, 12, 13, 14] rfl (by first | (rw [h34]; done) | (rw [h34]; rfl))
    rintro b35 rfl
    refine WL.done rfl (WX.next ?_)
    obtain ⟨x36, hx37, hl12⟩ := bind_some hl12
    refine WC.cutN (T := Unit) (fun t => [(0, (sv Aa p0 ca)), (2, (bv p2)), (4, (pt g3)), (12, (sv Ab p1.Cells cb)), (13, (iv (p1.Cells.length : Int))), (14, (iv x6))]) (fun t w1 => St NoS w w1 [rowR enc_Tile Aa ca p0, rowR encInt Ab cb p1.Cells] [blk g3 (.cells #[(iv p1.Width), (iv p1.Height), (sv Ab p1.Cells cb)] 25 (0, 0))] ∧ x36 = .inr t) (fun Kx36 => ?_) ?_
    ·
     rcases br_some hx37 with ⟨h38, hx37⟩ | ⟨h38, hx37⟩
     ·refine WC.condT2 (fun fb => by kernel_rfl) h38 ?_
      refine WC.seq ?_
      obtain ⟨h41, hx37⟩ := as_some hx37
      obtain ⟨h42, hx37⟩ := as_some hx37
      obtain ⟨h43, hx37⟩ := as_some hx37
      obtain ⟨h44, hx37⟩ := as_some hx37
      refine WC.regionD ([(4, ((adr Aa).add (((rdD p1.Cells x6 0)).toNat * 4)), (iv ((rdD p0 (rdD p1.Cells x6 0) z_Tile).N))), (7, ⟨g3, 2, none⟩, (sv Ab p1.Cells cb)), (11, ⟨g3, 1, none⟩, (iv p1.Height)), (14, ⟨g3, 0, none⟩, (iv p1.Width)), (19, ((adr Ab).add ((w64 ((w64 ((Int.tmod (w64 ((w64 (Int.tdiv x6 p1.Width)) + 1)) p1.Height) * p1.Width)) + (Int.tmod x6 p1.Width))).toNat * 1)), (iv (rdD p1.Cells (w64 ((w64 ((Int.tmod (w64 ((w64 (Int.tdiv x6 p1.Width)) + 1)) p1.Height) * p1.Width)) + (Int.tmod x6 p1.Width))) 0))), (22, (((adr Aa).add (((rdD p1.Cells (w64 ((w64 ((Int.tmod (w64 ((w64 (Int.tdiv x6 p1.Width)) + 1)) p1.Height) * p1.Width)) + (Int.tmod x6 p1.Width))) 0)).toNat * 4)).add 2), (iv ((rdD p0 (rdD p1.Cells (w64 ((w64 ((Int.tmod (w64 ((w64 (Int.tdiv x6 p1.Width)) + 1)) p1.Height) * p1.Width)) + (Int.tmod x6 p1.Width))) 0) z_Tile).S)))], [0, 1, 2, 3, 4, 5, 6, 7, 8, 9, 10, 11, 12, 13, 14, 15, 16, 17, 18, 19, 20, 21, 22, 23], [[], [], [0, 1], [0, 1, 2], [0, 1, 2, 3], [], [], [6], [], [8], [], [10], [8, 9, 10, 11], [], [13], [8, 9, 10, 11, 12, 13, 14], [], [8, 9, 10, 11, 12, 13, 14, 15, 16], [6, 7, 8, 9, 10, 11, 12, 13, 14, 15, 16, 17], [6, 7, 8, 9, 10, 11, 12, 13, 14, 15, 16, 17, 18], [5, 6, 7, 8, 9, 10, 11, 12, 13, 14, 15, 16, 17, 18, 19], [5, 6, 7, 8, 9, 10, 11, 12, 13, 14, 15, 16, 17, 18, 19, 20], [5, 6, 7, 8, 9, 10, 11, 12, 13, 14, 15, 16, 17, 18, 19, 20, 21], [0, 1, 2, 3, 4, 5, 6, 7, 8, 9, 10, 11, 12, 13, 14, 15, 16, 17, 18, 19, 20, 21, 22]]) [[0, 1, 2, 3, 4, 5, 6, 7, 8, 9, 10, 11, 12, 13, 14, 15, 16, 17, 18, 19, 20, 21, 22, 23]] (by kernel_rfl) (by kernel_rfl) (NoPanic.seq (NoPanic.block (NoPanic.seq (NoPanic.seq (NoPanic.block (NoPanic.seq (NoPanic.body))))))) ?_
      have hS40 := hS31.drew
      revert hS40
      generalize World.drew w30 = w39
      intro hS40
      refine ⟨⟨rowR.cell (hS40.rd 0).1 z_Tile h41.1 h41.2 0 rfl, hS40.cell 0 rfl 2 rfl, hS40.cell 0 rfl 1 rfl, hS40.cell 0 rfl 0 rfl, rowR.cell (hS40.rd 1).1 0 h43.1 h43.2 0 rfl, rowR.cell (hS40.rd 0).1 z_Tile h44.1 h44.2 2 rfl, trivial⟩, forallC ?_ (forallN)⟩
      refine segF 24 [.v (iv ((rdD p0 (rdD p1.Cells x6 0) z_Tile).N)), .v (sv Ab p1.Cells cb), .v (iv p1.Height), .v (iv p1.Width), .v (iv (rdD p1.Cells (w64 ((w64 ((Int.tmod (w64 ((w64 (Int.tdiv x6 p1.Width)) + 1)) p1.Height) * p1.Width)) + (Int.tmod x6 p1.Width))) 0)), .v (iv ((rdD p0 (rdD p1.Cells (w64 ((w64 ((Int.tmod (w64 ((w64 (Int.tdiv x6 p1.Width)) + 1)) p1.Height) * p1.Width)) + (Int.tmod x6 p1.Width))) 0) z_Tile).S))] [0, 2, 4, 12, 13, 14, 90] [(0, (sv Aa p0 ca)), (2, (bv p2)), (4, (pt g3)), (12, (sv Ab p1.Cells cb)), (13, (iv (p1.Cells.length : Int))), (14, (iv x6)), (90, (bv (((rdD p0 (rdD p1.Cells x6 0) z_Tile).N) != ((rdD p0 (rdD p1.Cells (w64 ((w64 ((Int.tmod (w64 ((w64 (Int.tdiv x6 p1.Width)) + 1)) p1.Height) * p1.Width)) + (Int.tmod x6 p1.Width))) 0) z_Tile).S))))] [.idx Aa (rdD p1.Cells x6 0) p0.length, .ne p1.Height, .idx Ab (w64 ((w64 ((Int.tmod (w64 ((w64 (Int.tdiv x6 p1.Width)) + 1)) p1.Height) * p1.Width)) + (Int.tmod x6 p1.Width))) p1.Cells.length, .idx Aa (rdD p1.Cells (w64 ((w64 ((Int.tmod (w64 ((w64 (Int.tdiv x6 p1.Width)) + 1)) p1.Height) * p1.Width)) + (Int.tmod x6 p1.Width))) 0) p0.length] [0, 1, 2, 3, 4, 5] [(4, ((adr Aa).add (((rdD p1.Cells x6 0)).toNat * 4)), (iv ((rdD p0 (rdD p1.Cells x6 0) z_Tile).N))), (7, ⟨g3, 2, none⟩, (sv Ab p1.Cells cb)), (11, ⟨g3, 1, none⟩, (iv p1.Height)), (14, ⟨g3, 0, none⟩, (iv p1.Width)), (19, ((adr Ab).add ((w64 ((w64 ((Int.tmod (w64 ((w64 (Int.tdiv x6 p1.Width)) + 1)) p1.Height) * p1.Width)) + (Int.tmod x6 p1.Width))).toNat * 1)), (iv (rdD p1.Cells (w64 ((w64 ((Int.tmod (w64 ((w64 (Int.tdiv x6 p1.Width)) + 1)) p1.Height) * p1.Width)) + (Int.tmod x6 p1.Width))) 0))), (22, (((adr Aa).add (((rdD p1.Cells (w64 ((w64 ((Int.tmod (w64 ((w64 (Int.tdiv x6 p1.Width)) + 1)) p1.Height) * p1.Width)) + (Int.tmod x6 p1.Width))) 0)).toNat * 4)).add 2), (iv ((rdD p0 (rdD p1.Cells (w64 ((w64 ((Int.tmod (w64 ((w64 (Int.tdiv x6 p1.Width)) + 1)) p1.Height) * p1.Width)) + (Int.tmod x6 p1.Width))) 0) z_Tile).S)))] (fun fb => by kernel_rfl) rfl ⟨rowR.adr (hS40.rd 0).1 h41.1 h41.2, h42, rowR.adr (hS40.rd 1).1 h43.1 h43.2, rowR.adr (hS40.rd 0).1 h44.1 h44.2, trivial⟩ rfl ?_
      refine WL.done rfl (WX.next ?_)
      rcases br_some hx37 with ⟨h45, hx37⟩ | ⟨h45, hx37⟩
      ·refine WC.condT2 (fun fb => by kernel_rfl) h45 ?_
       refine WC.seq (WC.region ?_)
       refine seg 1 [] [6] [(6, (bv false))] [] (fun fb => by kernel_rfl) rfl trivial ?_
       refine WL.done rfl (WX.next ?_)
       refine WC.ret ?_
       injection hx37 with hx37
       subst hx37
       injection hl12 with hl12
       subst hl12
       injection hf with hf
       subst hf
       exact WX.blockR (WX.thenR (WX.thenR (WX.blockR (WX.thenR (WX.ret_ [] (bv false) [] (fun fb => by kernel_rfl) trivial ⟨_, rfl, rfl, hS40.keep⟩)))))
      refine WC.condF2 (fun fb => by kernel_rfl) h45 ?_
      refine WC.skip ?_
      injection hx37 with hx37
      exact WX.to Kx36 () [0, 2, 4, 12, 13, 14] rfl ⟨(hS40.subR [0, 1]).sub [0] (by decide), hx37.symm⟩
     refine WC.condF2 (fun fb => by kernel_rfl) h38 ?_
     refine WC.skip ?_
     injection hx37 with hx37
     exact WX.to Kx36 () [0, 2, 4, 12, 13, 14] rfl ⟨(hS31.subR [0, 1]).sub [0] (by decide), hx37.symm⟩
    rintro y49 w46 ⟨hS47, hq48⟩
    subst hq48
    have hl12 := sum_inr hl12
    refine WX.blockN (WX.next ?_)
    refine WC.region ?_
    refine seg 2 [] [0, 2, 4, 12, 13, 14] [(0, (sv Aa p0 ca)), (2, (bv p2)), (4, (pt g3)), (12, (sv Ab p1.Cells cb)), (13, (iv (p1.Cells.length : Int))), (14, (iv (w64 (x6 + 1))))] [] (fun fb => by kernel_rfl) rfl trivial ?_
    refine WL.done rfl ?_
    exact WX.again k9 (Nat.lt_succ_self _) (w64 (x6 + 1)) [0, 2, 4, 12, 13, 14] rfl ⟨(hS47.subR [0, 1]).sub [0] (by decide), hl12⟩
   refine WC.condF2 (fun fb => by kernel_rfl) h13 ?_
   refine WC.exit ?_
   injection hl12 with hl12
   exact WX.thenX (WX.thenX (WX.blockHere (WX.to Kx7 () [] rfl ⟨(hS11.subR [0, 1]).sub [] (by decide), hl12.symm⟩)))
 rintro y53 w50 ⟨hS51, hq52⟩
 subst hq52
 have hf := sum_inr hf
 refine WX.next (WC.seq (WC.region ?_))
 refine seg 1 [] [6] [(6, (bv true))] [] (fun fb => by kernel_rfl) rfl trivial ?_
 refine WL.done rfl (WX.next ?_)
 refine WC.ret ?_
 injection hf with hf
 subst hf
 exact WX.ret_ [] (bv true) [] (fun fb => by kernel_rfl) trivial ⟨_, rfl, rfl, hS51.keep⟩
theorem tile_Fits_calls (k : Nat) (p0 : List Tile) (p1 : Pattern) (Aa : Option Addr) (ca : Nat) (Ab : Option Addr) (cb : Nat) (r : Bool) (w : World) (hR0 : RO NoS w (rowR enc_Tile Aa ca p0)) (hR1 : RO NoS w (rowR encInt Ab cb p1.Cells)) (hf : tile_Fits k p0 p1 = some r) :
  CallsR Tryd.prog 9 #[(sv Aa p0 ca), (.agg #[(iv p1.Width), (iv p1.Height), (sv Ab p1.Cells cb)])] w (fun v w' => v = (bv r) ∧ Keeps NoS w w') := by
 have hS : St NoS w w [rowR enc_Tile Aa ca p0, rowR encInt Ab cb p1.Cells] [] := St.init (ro_cons hR0 (ro_cons hR1 (ro_nil _ _)))
 refine enter 13 Tryd.func9 rfl Tryd.ntmps9 rfl ?_
 unfold tile_Fits at hf
 refine WC.seq (WC.region ?_)
 refine WL.new hS 3 [] (fun g => (pt g)) (.cells #[(iv p1.Width), (iv p1.Height), (sv Ab p1.Cells cb)] 25 (0, 0)) [] (fun fb g => by kernel_rfl) trivial (fun g2 w3 hS4 => ?_)
 refine ⟨trivial, ?_⟩
 refine seg 2 [] [0, 3] [(0, (sv Aa p0 ca)), (3, (pt g2))] [] (fun fb => by kernel_rfl) rfl trivial ?_
 refine WL.done rfl (WX.next (WC.seq (WC.region ?_)))
 refine seg 2 [.v (iv p1.Width), .v (iv p1.Height), .v (sv Ab p1.Cells cb)] [0, 3, 5, 6] [(0, (sv Aa p0 ca)), (3, (pt g2)), (5, (sv Aa p0 ca)), (6, (.agg #[(iv p1.Width), (iv p1.Height), (sv Ab p1.Cells cb)]))] [.cell ⟨g2, 0, none⟩ (iv p1.Width), .cell ⟨g2, 1, none⟩ (iv p1.Height), .cell ⟨g2, 2, none⟩ (sv Ab p1.Cells cb)] (fun fb => by kernel_rfl) rfl ⟨hS4.cell 0 rfl 0 rfl, hS4.cell 0 rfl 1 rfl, hS4.cell 0 rfl 2 rfl, trivial⟩ ?_
 obtain ⟨t5, ht6, hf⟩ := bind_some hf
 refine WL.call (some 7) 20 #[(sv Aa p0 ca), (.agg #[(iv p1.Width), (iv p1.Height), (sv Ab p1.Cells cb)])] (fun fb => by kernel_rfl) (tile_of_calls _ p0 p1 Aa ca Ab cb t5 _ (hS4.rd 0) (hS4.rd 1) ht6) (fun v w7 hR8 => ?_)
 obtain ⟨rfl, hk_⟩ := hR8
 have hS10 := hS4.keepN hk_
 refine ⟨trivial, ?_⟩
 refine seg 4 [] [0, 3, 8] [(0, (sv Aa p0 ca)), (3, (pt g2)), (8, (bv t5))] [] (fun fb => by kernel_rfl) rfl trivial ?_
 obtain ⟨x11, hx12, hf⟩ := bind_some hf
 refine WL.cutW (T := Bool) 8 (fun t => [(12, (bv t))]) (fun t w1 => (St NoS w w1 [rowR enc_Tile Aa ca p0, rowR encInt Ab cb p1.Cells] [] ∧ x11 = t) ∧ CellsOK [] w1) (fun K => ?_) ?_
 ·
  rcases br_some hx12 with ⟨h13, hx12⟩ | ⟨h13, hx12⟩
  ·
   refine WL.setB 8 h13 rfl ?_
   refine seg 6 [.v (iv p1.Width), .v (iv p1.Height), .v (sv Ab p1.Cells cb)] [8, 9, 10] [(8, (bv true)), (9, (sv Aa p0 ca)), (10, (.agg #[(iv p1.Width), (iv p1.Height), (sv Ab p1.Cells cb)]))] [.cell ⟨g2, 0, none⟩ (iv p1.Width), .cell ⟨g2, 1, none⟩ (iv p1.Height), .cell ⟨g2, 2, none⟩ (sv Ab p1.Cells cb)] (fun fb => by kernel_rfl) rfl ⟨hS10.cell 0 rfl 0 rfl, hS10.cell 0 rfl 1 rfl, hS10.cell 0 rfl 2 rfl, trivial⟩ ?_
   obtain ⟨t14, ht15, hx12⟩ := bind_some hx12
   refine WL.call (some 11) 21 #[(sv Aa p0 ca), (.agg #[(iv p1.Width), (iv p1.Height), (sv Ab p1.Cells cb)]), (bv false)] (fun fb => by kernel_rfl) (tile_joins_calls _ p0 p1 false Aa ca Ab cb t14 _ (hS10.rd 0) (hS10.rd 1) ht15) (fun v w16 hR17 => ?_)
   obtain ⟨rfl, hk_⟩ := hR17
   have hS18 := hS10.keepN hk_
   refine ⟨trivial, ?_⟩
   refine seg 8 [] [12] [(12, (bv t14))] [] (fun fb => by kernel_rfl) rfl trivial ?_
   injection hx12 with hx12
   exact WL.to K t14 [12] rfl ⟨⟨(hS18.subR [0, 1]).sub [] (by decide), hx12.symm⟩, trivial⟩
  refine WL.setB 8 h13 rfl ?_
  refine seg 8 [] [12] [(12, (bv false))] [] (fun fb => by kernel_rfl) rfl trivial ?_
  injection hx12 with hx12
  exact WL.to K false [12] rfl ⟨⟨(hS10.subR [0, 1]).sub [] (by decide), hx12.symm⟩, trivial⟩
 rintro y19 w21 ⟨⟨hS22, hq20⟩, hF23⟩
 subst hq20
 refine seg 9 [] [4] [(4, (bv x11))] [] (fun fb => by kernel_rfl) rfl trivial ?_
 refine WL.done rfl (WX.next ?_)
 refine WC.ret ?_
 injection hf with hf
 subst hf
 exact WX.ret_ [] (bv x11) [] (fun fb => by kernel_rfl) trivial ⟨_, rfl, rfl, hS22.keep⟩
theorem tile_Repeats_calls (k : Nat) (p0 : List Tile) (p1 : Pattern) (Aa : Option Addr) (ca : Nat) (Ab : Option Addr) (cb : Nat) (r : Bool) (w : World) (hR0 : RO NoS w (rowR enc_Tile Aa ca p0)) (hR1 : RO NoS w (rowR encInt Ab cb p1.Cells)) (hf : tile_Repeats k p0 p1 = some r) :
  CallsR Tryd.prog 10 #[(sv Aa p0 ca), (.agg #[(iv p1.Width), (iv p1.Height), (sv Ab p1.Cells cb)])] w (fun v w' => v = (bv r) ∧ Keeps NoS w w') := by
 have hS : St NoS w w [rowR enc_Tile Aa ca p0, rowR encInt Ab cb p1.Cells] [] := St.init (ro_cons hR0 (ro_cons hR1 (ro_nil _ _)))
 refine enter 13 Tryd.func10 rfl Tryd.ntmps10 rfl ?_
 unfold tile_Repeats at hf
 refine WC.seq (WC.region ?_)
 refine WL.new hS 3 [] (fun g => (pt g)) (.cells #[(iv p1.Width), (iv p1.Height), (sv Ab p1.Cells cb)] 25 (0, 0)) [] (fun fb g => by kernel_rfl) trivial (fun g2 w3 hS4 => ?_)
 refine ⟨trivial, ?_⟩
 refine seg 2 [] [0, 3] [(0, (sv Aa p0 ca)), (3, (pt g2))] [] (fun fb => by kernel_rfl) rfl trivial ?_
 refine WL.done rfl (WX.next (WC.seq (WC.region ?_)))
 refine seg 2 [.v (iv p1.Width), .v (iv p1.Height), .v (sv Ab p1.Cells cb)] [0, 3, 5, 6] [(0, (sv Aa p0 ca)), (3, (pt g2)), (5, (sv Aa p0 ca)), (6, (.agg #[(iv p1.Width), (iv p1.Height), (sv Ab p1.Cells cb)]))] [.cell ⟨g2, 0, none⟩ (iv p1.Width), .cell ⟨g2, 1, none⟩ (iv p1.Height), .cell ⟨g2, 2, none⟩ (sv Ab p1.Cells cb)] (fun fb => by kernel_rfl) rfl ⟨hS4.cell 0 rfl 0 rfl, hS4.cell 0 rfl 1 rfl, hS4.cell 0 rfl 2 rfl, trivial⟩ ?_
 obtain ⟨t5, ht6, hf⟩ := bind_some hf
 refine WL.call (some 7) 20 #[(sv Aa p0 ca), (.agg #[(iv p1.Width), (iv p1.Height), (sv Ab p1.Cells cb)])] (fun fb => by kernel_rfl) (tile_of_calls _ p0 p1 Aa ca Ab cb t5 _ (hS4.rd 0) (hS4.rd 1) ht6) (fun v w7 hR8 => ?_)
 obtain ⟨rfl, hk_⟩ := hR8
 have hS9 := hS4.keepN hk_
 refine ⟨trivial, ?_⟩
 refine seg 4 [] [0, 3, 8] [(0, (sv Aa p0 ca)), (3, (pt g2)), (8, (bv t5))] [] (fun fb => by kernel_rfl) rfl trivial ?_
 obtain ⟨x11, hx12, hf⟩ := bind_some hf
 refine WL.cutW (T := Bool) 8 (fun t => [(12, (bv t))]) (fun t w1 => (St NoS w w1 [rowR enc_Tile Aa ca p0, rowR encInt Ab cb p1.Cells] [] ∧ x11 = t) ∧ CellsOK [] w1) (fun K => ?_) ?_
 ·
  rcases br_some hx12 with ⟨h13, hx12⟩ | ⟨h13, hx12⟩
  ·
   refine WL.setB 8 h13 rfl ?_
   refine seg 6 [.v (iv p1.Width), .v (iv p1.Height), .v (sv Ab p1.Cells cb)] [8, 9, 10] [(8, (bv true)), (9, (sv Aa p0 ca)), (10, (.agg #[(iv p1.Width), (iv p1.Height), (sv Ab p1.Cells cb)]))] [.cell ⟨g2, 0, none⟩ (iv p1.Width), .cell ⟨g2, 1, none⟩ (iv p1.Height), .cell ⟨g2, 2, none⟩ (sv Ab p1.Cells cb)] (fun fb => by kernel_rfl) rfl ⟨hS9.cell 0 rfl 0 rfl, hS9.cell 0 rfl 1 rfl, hS9.cell 0 rfl 2 rfl, trivial⟩ ?_
   obtain ⟨t14, ht15, hx12⟩ := bind_some hx12
   refine WL.call (some 11) 21 #[(sv Aa p0 ca), (.agg #[(iv p1.Width), (iv p1.Height), (sv Ab p1.Cells cb)]), (bv true)] (fun fb => by kernel_rfl) (tile_joins_calls _ p0 p1 true Aa ca Ab cb t14 _ (hS9.rd 0) (hS9.rd 1) ht15) (fun v w16 hR17 => ?_)
   obtain ⟨rfl, hk_⟩ := hR17
   have hS18 := hS9.keepN hk_
   refine ⟨trivial, ?_⟩
   refine seg 8 [] [12] [(12, (bv t14))] [] (fun fb => by kernel_rfl) rfl trivial ?_
   injection hx12 with hx12
   exact WL.to K t14 [12] rfl ⟨⟨(hS18.subR [0, 1]).sub [] (by decide), hx12.symm⟩, trivial⟩
  refine WL.setB 8 h13 rfl ?_
  refine seg 8 [] [12] [(12, (bv false))] [] (fun fb => by kernel_rfl) rfl trivial ?_
  injection hx12 with hx12
  exact WL.to K false [12] rfl ⟨⟨(hS9.subR [0, 1]).sub [] (by decide), hx12.symm⟩, trivial⟩
 rintro y19 w21 ⟨⟨hS22, hq20⟩, hF23⟩
 subst hq20
 refine seg 9 [] [4] [(4, (bv x11))] [] (fun fb => by kernel_rfl) rfl trivial ?_
 refine WL.done rfl (WX.next ?_)
 refine WC.ret ?_
 injection hf with hf
 subst hf
 exact WX.ret_ [] (bv x11) [] (fun fb => by kernel_rfl) trivial ⟨_, rfl, rfl, hS22.keep⟩
theorem torus_rings_calls (k : Nat) (p0 : List Tile) (p1 : Int) (Aa : Option Addr) (ca : Nat) (r : (List Row)) (w : World) (hR0 : RO NoS w (rowR enc_Tile Aa ca p0)) (hf : torus_rings k p0 p1 = some r) :
  CallsR Tryd.prog 35 #[(sv Aa p0 ca), (iv p1)] w (fun v w' => ∃ (A1_ : Option Addr), ∃ (c1_ : Nat), ∃ (h1_ : Nat → HF), v = (sv A1_ r c1_) ∧ St NoS w w' [] [rowO 74 encN_Row A1_ c1_ (tag h1_ r), poolO [nestO subN_Row h1_ r]]) := by
 have hS : St NoS w w [rowR enc_Tile Aa ca p0] [] := St.init (ro_cons hR0 (ro_nil _ _))
 refine enter 27 Tryd.func35 rfl Tryd.ntmps35 rfl ?_
 unfold torus_rings at hf
 refine WC.seq (WC.region ?_)
 refine seg 1 [] [0, 1] [(0, (sv Aa p0 ca)), (1, (iv p1))] [] (fun fb => by kernel_rfl) rfl trivial ?_
 refine WL.done rfl (WX.next (WC.seq (WC.region ?_)))
 refine seg 1 [] [0, 1, 5] [(0, (sv Aa p0 ca)), (1, (iv p1)), (5, (.slice none 0 0))] [] (fun fb => by kernel_rfl) rfl trivial ?_
 refine WL.done rfl (WX.next (WC.seq (WC.seq (WC.region ?_))))
 refine seg 2 [] [5, 8, 9] [(5, (.slice none 0 0)), (8, (sv Aa p0 ca)), (9, (iv p1))] [] (fun fb => by kernel_rfl) rfl trivial ?_
 obtain ⟨t8, ht9, hf⟩ := bind_some hf
 refine WL.call (some 10) 48 #[(sv Aa p0 ca), (iv p1)] (fun fb => by kernel_rfl) (rows_All_calls _ p0 p1 Aa ca t8 _ (hS.rd 0) ht9) (fun v w10 hR11 => ?_)
 obtain ⟨A13, c14, H15, rfl, hk_⟩ := hR11
 have hS12 := hS.go w10 [rowO 74 encN_Row A13 c14 (tag H15 t8), poolO [nestO subN_Row H15 t8]] (hS.call hk_ [] [] (fun g hg => hg.elim) (by simp) (by decide))
 refine ⟨trivial, ?_⟩
 refine seg 5 [] [5, 10, 11, 12] [(5, (.slice none 0 0)), (10, (sv A13 t8 c14)), (11, (iv (t8.length : Int))), (12, (iv 0))] [] (fun fb => by kernel_rfl) rfl trivial ?_
 refine WL.done rfl (WX.next ?_)
 have hS16 := hS12.go w10 [rowO 74 encN_Row none 0 (tag h0 ([] : List Row)), rowO 74 encN_Row A13 c14 (tag H15 t8), poolO [nestO subN_Row H15 t8]] (hS12.nilrow 74 encN_Row)
 have hS17 := hS16.poolNil subN_Row h0
 have hS18 := hS16.go w10 [poolO [nestO subN_Row h0 ([] : List Row), nestO subN_Row H15 t8], rowO 74 encN_Row none 0 (tag h0 ([] : List Row)), rowO 74 encN_Row A13 c14 (tag H15 t8)] (hS17.poolMerge 0 3 rfl rfl [1, 2] (by decide) (by decide))
 obtain ⟨x27, hx28, hf⟩ := bind_some hf
 refine WC.cutN (T := (List Row) × (Option Addr) × Nat × (Nat → HF)) (fun t => [(5, (sv t.2.1 t.1 t.2.2.1))]) (fun t w1 => St NoS w w1 [rowR enc_Tile Aa ca p0] [rowO 74 encN_Row t.2.1 t.2.2.1 (tag t.2.2.2 t.1), poolO [nestO subN_Row t.2.2.2 t.1]] ∧ x27 = t.1) (fun Kx27 => ?_) ?_
 ·
  refine WC.block ?_
  refine WC.loop (T := ((List Row) × Int) × (Option Addr) × Nat × (Nat → HF)) (fun t => [(5, (sv t.2.1 t.1.1 t.2.2.1)), (10, (sv A13 t8 c14)), (11, (iv (t8.length : Int))), (12, (iv t.1.2))]) (fun n t w1 => St NoS w w1 [rowR enc_Tile Aa ca p0] [rowO 74 encN_Row t.2.1 t.2.2.1 (tag t.2.2.2 t.1.1), poolO [nestO subN_Row t.2.2.2 t.1.1, nestO subN_Row H15 t8], rowO 74 encN_Row A13 c14 (tag H15 t8)] ∧ torus_rings.l0 n t.1.1 t.1.2 t8 = some x27) k ((([] : List Row), 0), none, 0, h0) [5, 10, 11, 12] rfl ⟨(hS18.subR [0]).sub [1, 0, 2] (by decide), hx28⟩ ?_
  rintro k29 ⟨⟨l21, x23⟩, A19, c20, H22⟩ w30 ⟨hS31, hl32⟩
  cases k29 with
  | zero => rw [torus_rings.l0] at hl32; cases hl32
  | succ k29 =>
   rw [torus_rings.l0] at hl32
   refine WC.seq (WC.region ?_)
   refine seg 1 [] [5, 10, 11, 12, 13] [(5, (sv A19 l21 c20)), (10, (sv A13 t8 c14)), (11, (iv (t8.length : Int))), (12, (iv x23)), (13, (bv (decide (x23 < (t8.length : Int)))))] [] (fun fb => by kernel_rfl) rfl trivial ?_
   refine WL.done rfl (WX.next (WC.seq ?_))
   rcases br_some hl32 with ⟨h33, hl32⟩ | ⟨h33, hl32⟩
   ·refine WC.condT2 (fun fb => by kernel_rfl) h33 ?_
    refine WC.skip (WX.next (WC.seq (WC.block (WC.seq (WC.region ?_)))))
    obtain ⟨h34, hl32⟩ := as_some hl32
    refine seg 2 [.v (sv ((H15 x23.toNat 0).1) ((rdD t8 x23 z_Row).Cells) ((H15 x23.toNat 0).2)), .v (iv (((rdD t8 x23 z_Row).South).e0)), .v (iv (((rdD t8 x23 z_Row).South).e1)), .v (iv (((rdD t8 x23 z_Row).South).e2)), .v (iv (((rdD t8 x23 z_Row).South).e3)), .v (iv (((rdD t8 x23 z_Row).South).e4)), .v (iv (((rdD t8 x23 z_Row).South).e5)), .v (iv (((rdD t8 x23 z_Row).South).e6)), .v (iv (((rdD t8 x23 z_Row).South).e7)), .v (iv (((rdD t8 x23 z_Row).North).e0)), .v (iv (((rdD t8 x23 z_Row).North).e1)), .v (iv (((rdD t8 x23 z_Row).North).e2)), .v (iv (((rdD t8 x23 z_Row).North).e3)), .v (iv (((rdD t8 x23 z_Row).North).e4)), .v (iv (((rdD t8 x23 z_Row).North).e5)), .v (iv (((rdD t8 x23 z_Row).North).e6)), .v (iv (((rdD t8 x23 z_Row).North).e7)), .v (iv ((rdD t8 x23 z_Row).West)), .v (iv ((rdD t8 x23 z_Row).East))] [5, 10, 11, 12, 15] [(5, (sv A19 l21 c20)), (10, (sv A13 t8 c14)), (11, (iv (t8.length : Int))), (12, (iv x23)), (15, (.agg #[(sv ((H15 x23.toNat 0).1) ((rdD t8 x23 z_Row).Cells) ((H15 x23.toNat 0).2)), (iv (((rdD t8 x23 z_Row).South).e0)), (iv (((rdD t8 x23 z_Row).South).e1)), (iv (((rdD t8 x23 z_Row).South).e2)), (iv (((rdD t8 x23 z_Row).South).e3)), (iv (((rdD t8 x23 z_Row).South).e4)), (iv (((rdD t8 x23 z_Row).South).e5)), (iv (((rdD t8 x23 z_Row).South).e6)), (iv (((rdD t8 x23 z_Row).South).e7)), (iv (((rdD t8 x23 z_Row).North).e0)), (iv (((rdD t8 x23 z_Row).North).e1)), (iv (((rdD t8 x23 z_Row).North).e2)), (iv (((rdD t8 x23 z_Row).North).e3)), (iv (((rdD t8 x23 z_Row).North).e4)), (iv (((rdD t8 x23 z_Row).North).e5)), (iv (((rdD t8 x23 z_Row).North).e6)), (iv (((rdD t8 x23 z_Row).North).e7)), (iv ((rdD t8 x23 z_Row).West)), (iv ((rdD t8 x23 z_Row).East))]))] [.idx A13 x23 t8.length, .cell ((adr A13).add ((x23).toNat * 19)) (sv ((H15 x23.toNat 0).1) ((rdD t8 x23 z_Row).Cells) ((H15 x23.toNat 0).2)), .cell (((adr A13).add ((x23).toNat * 19)).add 1) (iv (((rdD t8 x23 z_Row).South).e0)), .cell (((adr A13).add ((x23).toNat * 19)).add 2) (iv (((rdD t8 x23 z_Row).South).e1)), .cell (((adr A13).add ((x23).toNat * 19)).add 3) (iv (((rdD t8 x23 z_Row).South).e2)), .cell (((adr A13).add ((x23).toNat * 19)).add 4) (iv (((rdD t8 x23 z_Row).South).e3)), .cell (((adr A13).add ((x23).toNat * 19)).add 5) (iv (((rdD t8 x23 z_Row).South).e4)), .cell (((adr A13).add ((x23).toNat * 19)).add 6) (iv (((rdD t8 x23 z_Row).South).e5)), .cell (((adr A13).add ((x23).toNat * 19)).add 7) (iv (((rdD t8 x23 z_Row).South).e6)), .cell (((adr A13).add ((x23).toNat * 19)).add 8) (iv (((rdD t8 x23 z_Row).South).e7)), .cell (((adr A13).add ((x23).toNat * 19)).add 9) (iv (((rdD t8 x23 z_Row).North).e0)), .cell (((adr A13).add ((x23).toNat * 19)).add 10) (iv (((rdD t8 x23 z_Row).North).e1)), .cell (((adr A13).add ((x23).toNat * 19)).add 11) (iv (((rdD t8 x23 z_Row).North).e2)), .cell (((adr A13).add ((x23).toNat * 19)).add 12) (iv (((rdD t8 x23 z_Row).North).e3)), .cell (((adr A13).add ((x23).toNat * 19)).add 13) (iv (((rdD t8 x23 z_Row).North).e4)), .cell (((adr A13).add ((x23).toNat * 19)).add 14) (iv (((rdD t8 x23 z_Row).North).e5)), .cell (((adr A13).add ((x23).toNat * 19)).add 15) (iv (((rdD t8 x23 z_Row).North).e6)), .cell (((adr A13).add ((x23).toNat * 19)).add 16) (iv (((rdD t8 x23 z_Row).North).e7)), .cell (((adr A13).add ((x23).toNat * 19)).add 17) (iv ((rdD t8 x23 z_Row).West)), .cell (((adr A13).add ((x23).toNat * 19)).add 18) (iv ((rdD t8 x23 z_Row).East))] (fun fb => by kernel_rfl) rfl ⟨nrow_adr (rowO.rd (hS31.own 2).1) h34.1 h34.2, nrow_cell (rowO.rd (hS31.own 2).1) z_Row h34.1 h34.2 0 rfl, nrow_cell (rowO.rd (hS31.own 2).1) z_Row h34.1 h34.2 1 rfl, nrow_cell (rowO.rd (hS31.own 2).1) z_Row h34.1 h34.2 2 rfl, nrow_cell (rowO.rd (hS31.own 2).1) z_Row h34.1 h34.2 3 rfl, nrow_cell (rowO.rd (hS31.own 2).1) z_Row h34.1 h34.2 4 rfl, nrow_cell (rowO.rd (hS31.own 2).1) z_Row h34.1 h34.2 5 rfl, nrow_cell (rowO.rd (hS31.own 2).1) z_Row h34.1 h34.2 6 rfl, nrow_cell (rowO.rd (hS31.own 2).1) z_Row h34.1 h34.2 7 rfl, nrow_cell (rowO.rd (hS31.own 2).1) z_Row h34.1 h34.2 8 rfl, nrow_cell (rowO.rd (hS31.own 2).1) z_Row h34.1 h34.2 9 rfl, nrow_cell (rowO.rd (hS31.own 2).1) z_Row h34.1 h34.2 10 rfl, nrow_cell (rowO.rd (hS31.own 2).1) z_Row h34.1 h34.2 11 rfl, nrow_cell (rowO.rd (hS31.own 2).1) z_Row h34.1 h34.2 12 rfl, nrow_cell (rowO.rd (hS31.own 2).1) z_Row h34.1 h34.2 13 rfl, nrow_cell (rowO.rd (hS31.own 2).1) z_Row h34.1 h34.2 14 rfl, nrow_cell (rowO.rd (hS31.own 2).1) z_Row h34.1 h34.2 15 rfl, nrow_cell (rowO.rd (hS31.own 2).1) z_Row h34.1 h34.2 16 rfl, nrow_cell (rowO.rd (hS31.own 2).1) z_Row h34.1 h34.2 17 rfl, nrow_cell (rowO.rd (hS31.own 2).1) z_Row h34.1 h34.2 18 rfl, trivial⟩ ?_
    refine WL.new hS31 7 [] (fun g => (pt g)) (.cells #[(.slice none 0 0), (iv 0), (iv 0), (iv 0), (iv 0), (iv 0), (iv 0), (iv 0), (iv 0), (iv 0), (iv 0), (iv 0), (iv 0), (iv 0), (iv 0), (iv 0), (iv 0), (iv 0), (iv 0)] 74 (0, 0)) [] (fun fb g => by kernel_rfl) trivial (fun g36 w37 hS38 => ?_)
    refine ⟨trivial, ?_⟩
    refine WL.store hS38 0 rfl [(0, (sv ((H15 x23.toNat 0).1) ((rdD t8 x23 z_Row).Cells) ((H15 x23.toNat 0).2))), (1, (iv (((rdD t8 x23 z_Row).South).e0))), (2, (iv (((rdD t8 x23 z_Row).South).e1))), (3, (iv (((rdD t8 x23 z_Row).South).e2))), (4, (iv (((rdD t8 x23 z_Row).South).e3))), (5, (iv (((rdD t8 x23 z_Row).South).e4))), (6, (iv (((rdD t8 x23 z_Row).South).e5))), (7, (iv (((rdD t8 x23 z_Row).South).e6))), (8, (iv (((rdD t8 x23 z_Row).South).e7))), (9, (iv (((rdD t8 x23 z_Row).North).e0))), (10, (iv (((rdD t8 x23 z_Row).North).e1))), (11, (iv (((rdD t8 x23 z_Row).North).e2))), (12, (iv (((rdD t8 x23 z_Row).North).e3))), (13, (iv (((rdD t8 x23 z_Row).North).e4))), (14, (iv (((rdD t8 x23 z_Row).North).e5))), (15, (iv (((rdD t8 x23 z_Row).North).e6))), (16, (iv (((rdD t8 x23 z_Row).North).e7))), (17, (iv ((rdD t8 x23 z_Row).West))), (18, (iv ((rdD t8 x23 z_Row).East)))] #[(sv ((H15 x23.toNat 0).1) ((rdD t8 x23 z_Row).Cells) ((H15 x23.toNat 0).2)), (iv (((rdD t8 x23 z_Row).South).e0)), (iv (((rdD t8 x23 z_Row).South).e1)), (iv (((rdD t8 x23 z_Row).South).e2)), (iv (((rdD t8 x23 z_Row).South).e3)), (iv (((rdD t8 x23 z_Row).South).e4)), (iv (((rdD t8 x23 z_Row).South).e5)), (iv (((rdD t8 x23 z_Row).South).e6)), (iv (((rdD t8 x23 z_Row).South).e7)), (iv (((rdD t8 x23 z_Row).North).e0)), (iv (((rdD t8 x23 z_Row).North).e1)), (iv (((rdD t8 x23 z_Row).North).e2)), (iv (((rdD t8 x23 z_Row).North).e3)), (iv (((rdD t8 x23 z_Row).North).e4)), (iv (((rdD t8 x23 z_Row).North).e5)), (iv (((rdD t8 x23 z_Row).North).e6)), (iv (((rdD t8 x23 z_Row).North).e7)), (iv ((rdD t8 x23 z_Row).West)), (iv ((rdD t8 x23 z_Row).East))] (fun fb => by kernel_rfl) (by kernel_rfl) (by kernel_rfl) [1, 2, 3] (by decide) (by decide) (fun w39 hS40 => ?_)
    refine ⟨trivial, ?_⟩
    refine WL.done rfl (WX.next (WC.seq (WC.region ?_)))
    refine seg 5 [.v (iv ((rdD t8 x23 z_Row).West)), .v (iv ((rdD t8 x23 z_Row).East))] [5, 7, 10, 11, 12, 20] [(5, (sv A19 l21 c20)), (7, (pt g36)), (10, (sv A13 t8 c14)), (11, (iv (t8.length : Int))), (12, (iv x23)), (20, (bv (((rdD t8 x23 z_Row).West) == ((rdD t8 x23 z_Row).East))))] [.cell ⟨g36, 17, none⟩ (iv ((rdD t8 x23 z_Row).West)), .cell ⟨g36, 18, none⟩ (iv ((rdD t8 x23 z_Row).East))] (fun fb => by kernel_rfl) rfl ⟨hS40.cell 0 rfl 17 rfl, hS40.cell 0 rfl 18 rfl, trivial⟩ ?_
    refine WL.done rfl (WX.next ?_)
    obtain ⟨x44, hx45, hl32⟩ := bind_some hl32
    refine WC.cutN (T := (List Row) × (Option Addr) × Nat × (Nat → HF)) (fun t => [(5, (sv t.2.1 t.1 t.2.2.1)), (10, (sv A13 t8 c14)), (11, (iv (t8.length : Int))), (12, (iv x23))]) (fun t w1 => St NoS w w1 [rowR enc_Tile Aa ca p0] [rowO 74 encN_Row t.2.1 t.2.2.1 (tag t.2.2.2 t.1), poolO [nestO subN_Row t.2.2.2 t.1, nestO subN_Row H15 t8], rowO 74 encN_Row A13 c14 (tag H15 t8)] ∧ x44 = t.1) (fun Kx44 => ?_) ?_
    ·
     rcases br_some hx45 with ⟨h46, hx45⟩ | ⟨h46, hx45⟩
     ·refine WC.condT2 (fun fb => by kernel_rfl) h46 ?_
      refine WC.region ?_
      refine seg 2 [.v (sv ((H15 x23.toNat 0).1) ((rdD t8 x23 z_Row).Cells) ((H15 x23.toNat 0).2)), .v (iv (((rdD t8 x23 z_Row).South).e0)), .v (iv (((rdD t8 x23 z_Row).South).e1)), .v (iv (((rdD t8 x23 z_Row).South).e2)), .v (iv (((rdD t8 x23 z_Row).South).e3)), .v (iv (((rdD t8 x23 z_Row).South).e4)), .v (iv (((rdD t8 x23 z_Row).South).e5)), .v (iv (((rdD t8 x23 z_Row).South).e6)), .v (iv (((rdD t8 x23 z_Row).South).e7)), .v (iv (((rdD t8 x23 z_Row).North).e0)), .v (iv (((rdD t8 x23 z_Row).North).e1)), .v (iv (((rdD t8 x23 z_Row).North).e2)), .v (iv (((rdD t8 x23 z_Row).North).e3)), .v (iv (((rdD t8 x23 z_Row).North).e4)), .v (iv (((rdD t8 x23 z_Row).North).e5)), .v (iv (((rdD t8 x23 z_Row).North).e6)), .v (iv (((rdD t8 x23 z_Row).North).e7)), .v (iv ((rdD t8 x23 z_Row).West)), .v (iv ((rdD t8 x23 z_Row).East))] [10, 11, 12, 21, 22] [(10, (sv A13 t8 c14)), (11, (iv (t8.length : Int))), (12, (iv x23)), (21, (sv A19 l21 c20)), (22, (.agg #[(sv ((H15 x23.toNat 0).1) ((rdD t8 x23 z_Row).Cells) ((H15 x23.toNat 0).2)), (iv (((rdD t8 x23 z_Row).South).e0)), (iv (((rdD t8 x23 z_Row).South).e1)), (iv (((rdD t8 x23 z_Row).South).e2)), (iv (((rdD t8 x23 z_Row).South).e3)), (iv (((rdD t8 x23 z_Row).South).e4)), (iv (((rdD t8 x23 z_Row).South).e5)), (iv (((rdD t8 x23 z_Row).South).e6)), (iv (((rdD t8 x23 z_Row).South).e7)), (iv (((rdD t8 x23 z_Row).North).e0)), (iv (((rdD t8 x23 z_Row).North).e1)), (iv (((rdD t8 x23 z_Row).North).e2)), (iv (((rdD t8 x23 z_Row).North).e3)), (iv (((rdD t8 x23 z_Row).North).e4)), (iv (((rdD t8 x23 z_Row).North).e5)), (iv (((rdD t8 x23 z_Row).North).e6)), (iv (((rdD t8 x23 z_Row).North).e7)), (iv ((rdD t8 x23 z_Row).West)), (iv ((rdD t8 x23 z_Row).East))]))] [.cell ⟨g36, 0, none⟩ (sv ((H15 x23.toNat 0).1) ((rdD t8 x23 z_Row).Cells) ((H15 x23.toNat 0).2)), .cell ⟨g36, 1, none⟩ (iv (((rdD t8 x23 z_Row).South).e0)), .cell ⟨g36, 2, none⟩ (iv (((rdD t8 x23 z_Row).South).e1)), .cell ⟨g36, 3, none⟩ (iv (((rdD t8 x23 z_Row).South).e2)), .cell ⟨g36, 4, none⟩ (iv (((rdD t8 x23 z_Row).South).e3)), .cell ⟨g36, 5, none⟩ (iv (((rdD t8 x23 z_Row).South).e4)), .cell ⟨g36, 6, none⟩ (iv (((rdD t8 x23 z_Row).South).e5)), .cell ⟨g36, 7, none⟩ (iv (((rdD t8 x23 z_Row).South).e6)), .cell ⟨g36, 8, none⟩ (iv (((rdD t8 x23 z_Row).South).e7)), .cell ⟨g36, 9, none⟩ (iv (((rdD t8 x23 z_Row).North).e0)), .cell ⟨g36, 10, none⟩ (iv (((rdD t8 x23 z_Row).North).e1)), .cell ⟨g36, 11, none⟩ (iv (((rdD t8 x23 z_Row).North).e2)), .cell ⟨g36, 12, none⟩ (iv (((rdD t8 x23 z_Row).North).e3)), .cell ⟨g36, 13, none⟩ (iv (((rdD t8 x23 z_Row).North).e4)), .cell ⟨g36, 14, none⟩ (iv (((rdD t8 x23 z_Row).North).e5)), .cell ⟨g36, 15, none⟩ (iv (((rdD t8 x23 z_Row).North).e6)), .cell ⟨g36, 16, none⟩ (iv (((rdD t8 x23 z_Row).North).e7)), .cell ⟨g36, 17, none⟩ (iv ((rdD t8 x23 z_Row).West)), .cell ⟨g36, 18, none⟩ (iv ((rdD t8 x23 z_Row).East))] (fun fb => by kernel_rfl) rfl ⟨hS40.cell 0 rfl 0 rfl, hS40.cell 0 rfl 1 rfl, hS40.cell 0 rfl 2 rfl, hS40.cell 0 rfl 3 rfl, hS40.cell 0 rfl 4 rfl, hS40.cell 0 rfl 5 rfl, hS40.cell 0 rfl 6 rfl, hS40.cell 0 rfl 7 rfl, hS40.cell 0 rfl 8 rfl, hS40.cell 0 rfl 9 rfl, hS40.cell 0 rfl 10 rfl, hS40.cell 0 rfl 11 rfl, hS40.cell 0 rfl 12 rfl, hS40.cell 0 rfl 13 rfl, hS40.cell 0 rfl 14 rfl, hS40.cell 0 rfl 15 rfl, hS40.cell 0 rfl 16 rfl, hS40.cell 0 rfl 17 rfl, hS40.cell 0 rfl 18 rfl, trivial⟩ ?_
      refine WL.new hS40 23 [] (fun g => (.slice (some ⟨g, 0, none⟩) 1 1)) (.cells #[(sv ((H15 x23.toNat 0).1) ((rdD t8 x23 z_Row).Cells) ((H15 x23.toNat 0).2)), (iv (((rdD t8 x23 z_Row).South).e0)), (iv (((rdD t8 x23 z_Row).South).e1)), (iv (((rdD t8 x23 z_Row).South).e2)), (iv (((rdD t8 x23 z_Row).South).e3)), (iv (((rdD t8 x23 z_Row).South).e4)), (iv (((rdD t8 x23 z_Row).South).e5)), (iv (((rdD t8 x23 z_Row).South).e6)), (iv (((rdD t8 x23 z_Row).South).e7)), (iv (((rdD t8 x23 z_Row).North).e0)), (iv (((rdD t8 x23 z_Row).North).e1)), (iv (((rdD t8 x23 z_Row).North).e2)), (iv (((rdD t8 x23 z_Row).North).e3)), (iv (((rdD t8 x23 z_Row).North).e4)), (iv (((rdD t8 x23 z_Row).North).e5)), (iv (((rdD t8 x23 z_Row).North).e6)), (iv (((rdD t8 x23 z_Row).North).e7)), (iv ((rdD t8 x23 z_Row).West)), (iv ((rdD t8 x23 z_Row).East))] 74 (0, 0)) [] (fun fb g => by kernel_rfl) trivial (fun g47 w48 hS49 => ?_)
      refine ⟨trivial, ?_⟩
      have hS50 := hS18.go w48 [rowO 74 encN_Row (some ⟨g47, 0, none⟩) 1 [((hd1 ((H15 x23.toNat 0).1) ((H15 x23.toNat 0).2)), (rdD t8 x23 z_Row))], blk g36 (.cells #[(sv ((H15 x23.toNat 0).1) ((rdD t8 x23 z_Row).Cells) ((H15 x23.toNat 0).2)), (iv (((rdD t8 x23 z_Row).South).e0)), (iv (((rdD t8 x23 z_Row).South).e1)), (iv (((rdD t8 x23 z_Row).South).e2)), (iv (((rdD t8 x23 z_Row).South).e3)), (iv (((rdD t8 x23 z_Row).South).e4)), (iv (((rdD t8 x23 z_Row).South).e5)), (iv (((rdD t8 x23 z_Row).South).e6)), (iv (((rdD t8 x23 z_Row).South).e7)), (iv (((rdD t8 x23 z_Row).North).e0)), (iv (((rdD t8 x23 z_Row).North).e1)), (iv (((rdD t8 x23 z_Row).North).e2)), (iv (((rdD t8 x23 z_Row).North).e3)), (iv (((rdD t8 x23 z_Row).North).e4)), (iv (((rdD t8 x23 z_Row).North).e5)), (iv (((rdD t8 x23 z_Row).North).e6)), (iv (((rdD t8 x23 z_Row).North).e7)), (iv ((rdD t8 x23 z_Row).West)), (iv ((rdD t8 x23 z_Row).East))] 74 (0, 0)), rowO 74 encN_Row A19 c20 (tag H22 l21), poolO [nestO subN_Row H22 l21, nestO subN_Row H15 t8], rowO 74 encN_Row A13 c14 (tag H15 t8)] (hS49.map1 0 _ (fun h => rowO.ofBlk h rfl (Nat.le_of_ble_eq_true (by kernel_rfl))) (fun _ h => by obtain ⟨_, h1, h2⟩ := h; injection h1 with h1; subst h1; exact h2) [1, 2, 3, 4] (by decide) (by decide))
      obtain ⟨h51, hx45⟩ := as_some hx45
      refine WL.appendN hS50 2 (d := 24) (tS := 68) (z := (.agg #[(.slice none 0 0), (iv 0), (iv 0), (iv 0), (iv 0), (iv 0), (iv 0), (iv 0), (iv 0), (iv 0), (iv 0), (iv 0), (iv 0), (iv 0), (iv 0), (iv 0), (iv 0), (iv 0), (iv 0)])) (bytes := 168) (c2 := 1) (hx := (hd1 ((H15 x23.toNat 0).1) ((H15 x23.toNat 0).2))) (x := (rdD t8 x23 z_Row)) rfl (fun fb => by kernel_rfl) (rowO.rd (hS50.own 0).1) (by kernel_rfl) (by kernel_rfl) rfl (by decide) h51 (by decide) [0, 1, 3, 4] (by decide) (by decide) (fun A52 c53 w54 hS55 => ?_)
      have hS56 := hS50.go w54 [poolO [nestO subN_Row (updH H22 l21.length (hd1 ((H15 x23.toNat 0).1) ((H15 x23.toNat 0).2))) (l21 ++ [(rdD t8 x23 z_Row)]), nestO subN_Row H15 t8], rowO 74 encN_Row A52 c53 (tag (updH H22 l21.length (hd1 ((H15 x23.toNat 0).1) ((H15 x23.toNat 0).2))) (l21 ++ [(rdD t8 x23 z_Row)])), rowO 74 encN_Row (some ⟨g47, 0, none⟩) 1 [((hd1 ((H15 x23.toNat 0).1) ((H15 x23.toNat 0).2)), (rdD t8 x23 z_Row))], blk g36 (.cells #[(.slice ((H15 x23.toNat 0).1) ((rdD t8 x23 z_Row).Cells).length ((H15 x23.toNat 0).2)), (iv (((rdD t8 x23 z_Row).South).e0)), (iv (((rdD t8 x23 z_Row).South).e1)), (iv (((rdD t8 x23 z_Row).South).e2)), (iv (((rdD t8 x23 z_Row).South).e3)), (iv (((rdD t8 x23 z_Row).South).e4)), (iv (((rdD t8 x23 z_Row).South).e5)), (iv (((rdD t8 x23 z_Row).South).e6)), (iv (((rdD t8 x23 z_Row).South).e7)), (iv (((rdD t8 x23 z_Row).North).e0)), (iv (((rdD t8 x23 z_Row).North).e1)), (iv (((rdD t8 x23 z_Row).North).e2)), (iv (((rdD t8 x23 z_Row).North).e3)), (iv (((rdD t8 x23 z_Row).North).e4)), (iv (((rdD t8 x23 z_Row).North).e5)), (iv (((rdD t8 x23 z_Row).North).e6)), (iv (((rdD t8 x23 z_Row).North).e7)), (iv ((rdD t8 x23 z_Row).West)), (iv ((rdD t8 x23 z_Row).East))] 74 (0, 0)), rowO 74 encN_Row A13 c14 (tag H15 t8)] (hS55.poolPush 3 rfl 0 (by simp) rfl (hd1 ((H15 x23.toNat 0).1) ((H15 x23.toNat 0).2)) (rdD t8 x23 z_Row) (nestO.ro (poolO.ro (hS55.ow 3) 1) z_Row h34.1 h34.2) [] (fun g hg => ⟨3, by simp, ⟨1, ⟨_, _, rdD_at (d := z_Row) h34.1 h34.2, hg⟩⟩⟩) _ rfl [0, 1, 2, 4] (by decide) (by decide))
      refine ⟨trivial, ?_⟩
      refine seg 5 [] [5, 10, 11, 12] [(5, (sv A52 (l21 ++ [(rdD t8 x23 z_Row)]) c53)), (10, (sv A13 t8 c14)), (11, (iv (t8.length : Int))), (12, (iv x23))] [] (fun fb => by kernel_rfl) rfl trivial ?_
      refine WL.done rfl ?_
      injection hx45 with hx45
      exact WX.to Kx44 (l21 ++ [(rdD t8 x23 z_Row)], A52, c53, (updH H22 l21.length (hd1 ((H15 x23.toNat 0).1) ((H15 x23.toNat 0).2)))) [5, 10, 11, 12] rfl ⟨(hS56.subR [0]).sub [1, 0, 4] (by decide), hx45.symm⟩
     refine WC.condF2 (fun fb => by kernel_rfl) h46 ?_
     refine WC.skip ?_
     injection hx45 with hx45
     exact WX.to Kx44 (l21, A19, c20, H22) [5, 10, 11, 12] rfl ⟨(hS40.subR [0]).sub [1, 2, 3] (by decide), hx45.symm⟩
    rintro ⟨y60, A41, c42, H43⟩ w57 ⟨hS58, hq59⟩
    subst hq59
    refine WX.blockN (WX.next ?_)
    refine WC.region ?_
    refine seg 2 [] [5, 10, 11, 12] [(5, (sv A41 x44 c42)), (10, (sv A13 t8 c14)), (11, (iv (t8.length : Int))), (12, (iv (w64 (x23 + 1))))] [] (fun fb => by kernel_rfl) rfl trivial ?_
    refine WL.done rfl ?_
    exact WX.again k29 (Nat.lt_succ_self _) ((x44, w64 (x23 + 1)), A41, c42, H43) [5, 10, 11, 12] rfl ⟨(hS58.subR [0]).sub [0, 1, 2] (by decide), hl32⟩
   refine WC.condF2 (fun fb => by kernel_rfl) h33 ?_
   refine WC.exit ?_
   have hS61 := hS18.go w30 [poolO [nestO subN_Row H22 l21], rowO 74 encN_Row A19 c20 (tag H22 l21), rowO 74 encN_Row A13 c14 (tag H15 t8)] (hS31.poolSub 1 rfl [0] [0, 2] (by decide) (by decide))
   injection hl32 with hl32
   exact WX.thenX (WX.thenX (WX.blockHere (WX.to Kx27 (l21, A19, c20, H22) [5] rfl ⟨(hS61.subR [0]).sub [1, 0] (by decide), hl32.symm⟩)))
 rintro ⟨y66, A24, c25, H26⟩ w62 ⟨hS63, hq65⟩
 subst hq65
 refine WX.next (WC.seq (WC.region ?_))
 refine seg 2 [] [4] [(4, (sv A24 x27 c25))] [] (fun fb => by kernel_rfl) rfl trivial ?_
 refine WL.done rfl (WX.next ?_)
 refine WC.ret ?_
 injection hf with hf
 subst hf
 exact WX.ret_ [] (sv A24 x27 c25) [] (fun fb => by kernel_rfl) trivial ⟨_, rfl, A24, c25, H26, rfl, (hS63.sub [0, 1] (by decide)).noR⟩
theorem torus_back_key72 : KeyK Tryd.prog 72 (aggI ints_A8_Int) := KeyK.array (n := 8) (by kernel_rfl) ints_A8_Int (fun _ => rfl) (fun x y h => by cases x; cases y; simp only [ints_A8_Int, List.cons.injEq, and_true] at h; obtain ⟨rfl, rfl, rfl, rfl, rfl, rfl, rfl, rfl⟩ := h; rfl)
theorem torus_back_calls (k : Nat) (p0 : List Row) (p1 : A8_Int) (p2 : Int) (Aa : Option Addr) (ca : Nat) (Ha : Nat → HF) (r : (List (Option (List (A8_Int × Bool))))) (w : World) (hR0 : RO NoS w (rowR encN_Row Aa ca (tag Ha p0))) (hR1 : RO NoS w (nestO subN_Row Ha p0)) (hf : torus_back k p0 p1 p2 = some r) :
  CallsR Tryd.prog 36 #[(sv Aa p0 ca), (.agg #[(iv p1.e0), (iv p1.e1), (iv p1.e2), (iv p1.e3), (iv p1.e4), (iv p1.e5), (iv p1.e6), (iv p1.e7)]), (iv p2)] w (fun v w' => ∃ (A1_ : Option Addr), ∃ (c1_ : Nat), ∃ (m1_ : Nat → Nat), v = (sv A1_ r c1_) ∧ St NoS w w' [] [rowO 78 (encMap A8_Int Bool) A1_ c1_ (tag m1_ r), mapsO (aggI ints_A8_Int) vB m1_ r]) := by
 have hS : St NoS w w [rowR encN_Row Aa ca (tag Ha p0), nestO subN_Row Ha p0] [] := St.init (ro_cons hR0 (ro_cons hR1 (ro_nil _ _)))
 refine enter 46 Tryd.func36 rfl Tryd.ntmps36 rfl ?_
 unfold torus_back at hf
 refine WC.seq (WC.region ?_)
 refine WL.new hS 4 [] (fun g => (pt g)) (.cells #[(iv p1.e0), (iv p1.e1), (iv p1.e2), (iv p1.e3), (iv p1.e4), (iv p1.e5), (iv p1.e6), (iv p1.e7)] 72 (0, 0)) [] (fun fb g => by kernel_rfl) trivial (fun g9 w10 hS11 => ?_)
 refine ⟨trivial, ?_⟩
 refine seg 2 [] [0, 2, 4] [(0, (sv Aa p0 ca)), (2, (iv p2)), (4, (pt g9))] [] (fun fb => by kernel_rfl) rfl trivial ?_
 refine WL.done rfl (WX.next (WC.seq (WC.region ?_)))
 refine WL.new hS11 12 [] (fun g => (.map (some g))) (mapObj (aggI ints_A8_Int) vB ([] : List (A8_Int × Bool))) [] (fun fb g => by kernel_rfl) trivial (fun g12 w13 hS14 => ?_)
 refine ⟨trivial, ?_⟩
 refine seg 2 [.v (iv p1.e0), .v (iv p1.e1), .v (iv p1.e2), .v (iv p1.e3), .v (iv p1.e4), .v (iv p1.e5), .v (iv p1.e6), .v (iv p1.e7)] [0, 2, 12, 13] [(0, (sv Aa p0 ca)), (2, (iv p2)), (12, (.map (some g12))), (13, (.agg #[(iv p1.e0), (iv p1.e1), (iv p1.e2), (iv p1.e3), (iv p1.e4), (iv p1.e5), (iv p1.e6), (iv p1.e7)]))] [.cell ⟨g9, 0, none⟩ (iv p1.e0), .cell ⟨g9, 1, none⟩ (iv p1.e1), .cell ⟨g9, 2, none⟩ (iv p1.e2), .cell ⟨g9, 3, none⟩ (iv p1.e3), .cell ⟨g9, 4, none⟩ (iv p1.e4), .cell ⟨g9, 5, none⟩ (iv p1.e5), .cell ⟨g9, 6, none⟩ (iv p1.e6), .cell ⟨g9, 7, none⟩ (iv p1.e7)] (fun fb => by kernel_rfl) rfl ⟨hS14.cell 1 rfl 0 rfl, hS14.cell 1 rfl 1 rfl, hS14.cell 1 rfl 2 rfl, hS14.cell 1 rfl 3 rfl, hS14.cell 1 rfl 4 rfl, hS14.cell 1 rfl 5 rfl, hS14.cell 1 rfl 6 rfl, hS14.cell 1 rfl 7 rfl, trivial⟩ ?_
 refine WL.mapput hS14 0 (t := 78) (kT := 72) (eT := 4) (kE := (aggI ints_A8_Int)) (vE := vB) (l := ([] : List (A8_Int × Bool))) rfl p1 true (fun fb => by kernel_rfl) torus_back_key72 (by kernel_rfl) [1] (by decide) (by decide) (fun w15 hS16 => ?_)
 refine ⟨trivial, ?_⟩
 refine seg 4 [] [0, 2, 14] [(0, (sv Aa p0 ca)), (2, (iv p2)), (14, (.map (some g12)))] [] (fun fb => by kernel_rfl) rfl trivial ?_
 refine WL.new hS16 15 [] (fun g => (.slice (some ⟨g, 0, none⟩) 1 1)) (.cells #[(.map (some g12))] 78 (0, 0)) [] (fun fb g => by kernel_rfl) trivial (fun g17 w18 hS19 => ?_)
 refine ⟨trivial, ?_⟩
 have hS20 := hS.go w18 [rowO 78 (encMap A8_Int Bool) (some ⟨g17, 0, none⟩) 1 (tag (fun _ => g12) [some (mput p1 true ([] : List (A8_Int × Bool)))]), blk g12 (mapObj (aggI ints_A8_Int) vB (mput p1 true ([] : List (A8_Int × Bool)))), blk g9 (.cells #[(iv p1.e0), (iv p1.e1), (iv p1.e2), (iv p1.e3), (iv p1.e4), (iv p1.e5), (iv p1.e6), (iv p1.e7)] 72 (0, 0))] (hS19.map1 0 _ (fun h => rowO.ofBlk h rfl (Nat.le_of_ble_eq_true (by kernel_rfl))) (fun _ h => by obtain ⟨_, h1, h2⟩ := h; injection h1 with h1; subst h1; exact h2) [1, 2] (by decide) (by decide))
 have hS21 := hS20.go w18 [mapsO (aggI ints_A8_Int) vB (fun _ => g12) [some (mput p1 true ([] : List (A8_Int × Bool)))], rowO 78 (encMap A8_Int Bool) (some ⟨g17, 0, none⟩) 1 (tag (fun _ => g12) [some (mput p1 true ([] : List (A8_Int × Bool)))]), blk g9 (.cells #[(iv p1.e0), (iv p1.e1), (iv p1.e2), (iv p1.e3), (iv p1.e4), (iv p1.e5), (iv p1.e6), (iv p1.e7)] 72 (0, 0))] (hS20.mapsOne 1 rfl [0, 2] (by decide) (by decide))
 refine seg 6 [] [0, 2, 7] [(0, (sv Aa p0 ca)), (2, (iv p2)), (7, (sv (some ⟨g17, 0, none⟩) [some (mput p1 true ([] : List (A8_Int × Bool)))] 1))] [] (fun fb => by kernel_rfl) rfl trivial ?_
 refine WL.done rfl (WX.next (WC.seq (WC.seq (WC.region ?_))))
 refine seg 2 [] [0, 7, 16, 17] [(0, (sv Aa p0 ca)), (7, (sv (some ⟨g17, 0, none⟩) [some (mput p1 true ([] : List (A8_Int × Bool)))] 1)), (16, (iv p2)), (17, (iv 0))] [] (fun fb => by kernel_rfl) rfl trivial ?_
 refine WL.done rfl (WX.next ?_)
 obtain ⟨x30, hx31, hf⟩ := bind_some hf
 refine WC.cutN (T := (List (Option (List (A8_Int × Bool)))) × (Option Addr) × Nat × (Nat → Nat)) (fun t => [(7, (sv t.2.1 t.1 t.2.2.1))]) (fun t w1 => St NoS w w1 [rowR encN_Row Aa ca (tag Ha p0), nestO subN_Row Ha p0] [rowO 78 (encMap A8_Int Bool) t.2.1 t.2.2.1 (tag t.2.2.2 t.1), mapsO (aggI ints_A8_Int) vB t.2.2.2 t.1] ∧ x30 = t.1) (fun Kx30 => ?_) ?_
 ·
  refine WC.block ?_
  refine WC.loop (T := ((List (Option (List (A8_Int × Bool)))) × Int) × (Option Addr) × Nat × (Nat → Nat)) (fun t => [(0, (sv Aa p0 ca)), (7, (sv t.2.1 t.1.1 t.2.2.1)), (16, (iv p2)), (17, (iv t.1.2))]) (fun n t w1 => St NoS w w1 [rowR encN_Row Aa ca (tag Ha p0), nestO subN_Row Ha p0] [rowO 78 (encMap A8_Int Bool) t.2.1 t.2.2.1 (tag t.2.2.2 t.1.1), mapsO (aggI ints_A8_Int) vB t.2.2.2 t.1.1] ∧ torus_back.l0 n t.1.1 t.1.2 p0 p2 = some x30) k (([some (mput p1 true ([] : List (A8_Int × Bool)))], 0), (some ⟨g17, 0, none⟩), 1, (fun _ => g12)) [0, 7, 16, 17] rfl ⟨(hS21.subR [0, 1]).sub [1, 0] (by decide), hx31⟩ ?_
  rintro k32 ⟨⟨l24, x26⟩, A22, c23, H25⟩ w33 ⟨hS34, hl35⟩
  cases k32 with
  | zero => rw [torus_back.l0] at hl35; cases hl35
  | succ k32 =>
   rw [torus_back.l0] at hl35
   refine WC.seq (WC.region ?_)
   refine seg 1 [] [0, 7, 16, 17, 18] [(0, (sv Aa p0 ca)), (7, (sv A22 l24 c23)), (16, (iv p2)), (17, (iv x26)), (18, (bv (decide (x26 < p2))))] [] (fun fb => by kernel_rfl) rfl trivial ?_
   refine WL.done rfl (WX.next (WC.seq ?_))
   rcases br_some hl35 with ⟨h37, hl35⟩ | ⟨h37, hl35⟩
   ·refine WC.condT2 (fun fb => by kernel_rfl) h37 ?_
    refine WC.skip (WX.next (WC.seq (WC.block (WC.seq (WC.region ?_)))))
    refine seg 4 [] [0, 7, 16, 17, 19, 22] [(0, (sv Aa p0 ca)), (7, (sv A22 l24 c23)), (16, (iv p2)), (17, (iv x26)), (19, (sv A22 l24 c23)), (22, (iv (w64 ((l24.length : Int) - 1))))] [] (fun fb => by kernel_rfl) rfl trivial ?_
    obtain ⟨h38, hl35⟩ := as_some hl35
    refine seg 5 [] [0, 7, 16, 17, 23] [(0, (sv Aa p0 ca)), (7, (sv A22 l24 c23)), (16, (iv p2)), (17, (iv x26)), (23, (.pointer (some ((adr A22).add ((w64 ((l24.length : Int) - 1)).toNat * 1)))))] [.idx A22 (w64 ((l24.length : Int) - 1)) l24.length] (fun fb => by kernel_rfl) rfl ⟨nrow_adr (rowO.rd (hS34.own 0).1) h38.1 h38.2, trivial⟩ ?_
    obtain ⟨m39, hm40, hl35⟩ := bind_some hl35
    refine seg 6 [.v (.map (some (H25 (w64 ((l24.length : Int) - 1)).toNat)))] [0, 7, 16, 17, 24] [(0, (sv Aa p0 ca)), (7, (sv A22 l24 c23)), (16, (iv p2)), (17, (iv x26)), (24, (.map (some (H25 (w64 ((l24.length : Int) - 1)).toNat))))] [.cell ((adr A22).add ((w64 ((l24.length : Int) - 1)).toNat * 1)) (.map (some (H25 (w64 ((l24.length : Int) - 1)).toNat)))] (fun fb => by kernel_rfl) rfl ⟨nrow_cell (rowO.rd (hS34.own 0).1) none h38.1 h38.2 0 (mapV_some hm40), trivial⟩ ?_
    refine WL.new hS34 25 [] (fun g => (.map (some g))) (mapObj (aggI ints_A8_Int) vB ([] : List (A8_Int × Bool))) [] (fun fb g => by kernel_rfl) trivial (fun g41 w42 hS43 => ?_)
    refine ⟨trivial, ?_⟩
    refine seg 9 [] [0, 7, 8, 9, 16, 17] [(0, (sv Aa p0 ca)), (7, (sv A22 l24 c23)), (8, (.map (some (H25 (w64 ((l24.length : Int) - 1)).toNat)))), (9, (.map (some g41))), (16, (iv p2)), (17, (iv x26))] [] (fun fb => by kernel_rfl) rfl trivial ?_
    refine WL.done rfl (WX.next (WC.seq (WC.seq (WC.region ?_))))
    refine seg 3 [] [0, 7, 8, 9, 16, 17, 26, 27, 28] [(0, (sv Aa p0 ca)), (7, (sv A22 l24 c23)), (8, (.map (some (H25 (w64 ((l24.length : Int) - 1)).toNat)))), (9, (.map (some g41))), (16, (iv p2)), (17, (iv x26)), (26, (sv Aa p0 ca)), (27, (iv (p0.length : Int))), (28, (iv 0))] [] (fun fb => by kernel_rfl) rfl trivial ?_
    refine WL.done rfl (WX.next ?_)
    obtain ⟨x46, hx47, hl35⟩ := bind_some hl35
    refine WC.cutN (T := (List (A8_Int × Bool))) (fun t => [(0, (sv Aa p0 ca)), (7, (sv A22 l24 c23)), (9, (.map (some g41))), (16, (iv p2)), (17, (iv x26))]) (fun t w1 => St NoS w w1 [rowR encN_Row Aa ca (tag Ha p0), nestO subN_Row Ha p0] [rowO 78 (encMap A8_Int Bool) A22 c23 (tag H25 l24), mapsO (aggI ints_A8_Int) vB H25 l24, blk g41 (mapObj (aggI ints_A8_Int) vB t)] ∧ x46 = t) (fun Kx46 => ?_) ?_
    ·
     refine WC.block ?_
     refine WC.loop (T := (List (A8_Int × Bool)) × Int) (fun t => [(0, (sv Aa p0 ca)), (7, (sv A22 l24 c23)), (8, (.map (some (H25 (w64 ((l24.length : Int) - 1)).toNat)))), (9, (.map (some g41))), (16, (iv p2)), (17, (iv x26)), (26, (sv Aa p0 ca)), (27, (iv (p0.length : Int))), (28, (iv t.2))]) (fun n t w1 => St NoS w w1 [rowR encN_Row Aa ca (tag Ha p0), nestO subN_Row Ha p0] [rowO 78 (encMap A8_Int Bool) A22 c23 (tag H25 l24), mapsO (aggI ints_A8_Int) vB H25 l24, blk g41 (mapObj (aggI ints_A8_Int) vB t.1)] ∧ torus_back.l1 n t.1 t.2 p0 m39 = some x46) k32 (([] : List (A8_Int × Bool)), 0) [0, 7, 8, 9, 16, 17, 26, 27, 28] rfl ⟨(hS43.subR [0, 1]).sub [1, 2, 0] (by decide), hx47⟩ ?_
     rintro k48 ⟨l44, x45⟩ w49 ⟨hS50, hl51⟩
     cases k48 with
     | zero => rw [torus_back.l1] at hl51; cases hl51
     | succ k48 =>
      rw [torus_back.l1] at hl51
      refine WC.seq (WC.region ?_)
      refine seg 1 [] [0, 7, 8, 9, 16, 17, 26, 27, 28, 29] [(0, (sv Aa p0 ca)), (7, (sv A22 l24 c23)), (8, (.map (some (H25 (w64 ((l24.length : Int) - 1)).toNat)))), (9, (.map (some g41))), (16, (iv p2)), (17, (iv x26)), (26, (sv Aa p0 ca)), (27, (iv (p0.length : Int))), (28, (iv x45)), (29, (bv (decide (x45 < (p0.length : Int)))))] [] (fun fb => by kernel_rfl) rfl trivial ?_
      refine WL.done rfl (WX.next (WC.seq ?_))
      rcases br_some hl51 with ⟨h52, hl51⟩ | ⟨h52, hl51⟩
      ·refine WC.condT2 (fun fb => by kernel_rfl) h52 ?_
       refine WC.skip (WX.next (WC.seq (WC.block (WC.seq (WC.region ?_)))))
       obtain ⟨h53, hl51⟩ := as_some hl51
       refine seg 2 [.v (sv ((Ha x45.toNat 0).1) ((rdD p0 x45 z_Row).Cells) ((Ha x45.toNat 0).2)), .v (iv (((rdD p0 x45 z_Row).South).e0)), .v (iv (((rdD p0 x45 z_Row).South).e1)), .v (iv (((rdD p0 x45 z_Row).South).e2)), .v (iv (((rdD p0 x45 z_Row).South).e3)), .v (iv (((rdD p0 x45 z_Row).South).e4)), .v (iv (((rdD p0 x45 z_Row).South).e5)), .v (iv (((rdD p0 x45 z_Row).South).e6)), .v (iv (((rdD p0 x45 z_Row).South).e7)), .v (iv (((rdD p0 x45 z_Row).North).e0)), .v (iv (((rdD p0 x45 z_Row).North).e1)), .v (iv (((rdD p0 x45 z_Row).North).e2)), .v (iv (((rdD p0 x45 z_Row).North).e3)), .v (iv (((rdD p0 x45 z_Row).North).e4)), .v (iv (((rdD p0 x45 z_Row).North).e5)), .v (iv (((rdD p0 x45 z_Row).North).e6)), .v (iv (((rdD p0 x45 z_Row).North).e7)), .v (iv ((rdD p0 x45 z_Row).West)), .v (iv ((rdD p0 x45 z_Row).East))] [0, 7, 8, 9, 16, 17, 26, 27, 28, 31] [(0, (sv Aa p0 ca)), (7, (sv A22 l24 c23)), (8, (.map (some (H25 (w64 ((l24.length : Int) - 1)).toNat)))), (9, (.map (some g41))), (16, (iv p2)), (17, (iv x26)), (26, (sv Aa p0 ca)), (27, (iv (p0.length : Int))), (28, (iv x45)), (31, (.agg #[(sv ((Ha x45.toNat 0).1) ((rdD p0 x45 z_Row).Cells) ((Ha x45.toNat 0).2)), (iv (((rdD p0 x45 z_Row).South).e0)), (iv (((rdD p0 x45 z_Row).South).e1)), (iv (((rdD p0 x45 z_Row).South).e2)), (iv (((rdD p0 x45 z_Row).South).e3)), (iv (((rdD p0 x45 z_Row).South).e4)), (iv (((rdD p0 x45 z_Row).South).e5)), (iv (((rdD p0 x45 z_Row).South).e6)), (iv (((rdD p0 x45 z_Row).South).e7)), (iv (((rdD p0 x45 z_Row).North).e0)), (iv (((rdD p0 x45 z_Row).North).e1)), (iv (((rdD p0 x45 z_Row).North).e2)), (iv (((rdD p0 x45 z_Row).North).e3)), (iv (((rdD p0 x45 z_Row).North).e4)), (iv (((rdD p0 x45 z_Row).North).e5)), (iv (((rdD p0 x45 z_Row).North).e6)), (iv (((rdD p0 x45 z_Row).North).e7)), (iv ((rdD p0 x45 z_Row).West)), (iv ((rdD p0 x45 z_Row).East))]))] [.idx Aa x45 p0.length, .cell ((adr Aa).add ((x45).toNat * 19)) (sv ((Ha x45.toNat 0).1) ((rdD p0 x45 z_Row).Cells) ((Ha x45.toNat 0).2)), .cell (((adr Aa).add ((x45).toNat * 19)).add 1) (iv (((rdD p0 x45 z_Row).South).e0)), .cell (((adr Aa).add ((x45).toNat * 19)).add 2) (iv (((rdD p0 x45 z_Row).South).e1)), .cell (((adr Aa).add ((x45).toNat * 19)).add 3) (iv (((rdD p0 x45 z_Row).South).e2)), .cell (((adr Aa).add ((x45).toNat * 19)).add 4) (iv (((rdD p0 x45 z_Row).South).e3)), .cell (((adr Aa).add ((x45).toNat * 19)).add 5) (iv (((rdD p0 x45 z_Row).South).e4)), .cell (((adr Aa).add ((x45).toNat * 19)).add 6) (iv (((rdD p0 x45 z_Row).South).e5)), .cell (((adr Aa).add ((x45).toNat * 19)).add 7) (iv (((rdD p0 x45 z_Row).South).e6)), .cell (((adr Aa).add ((x45).toNat * 19)).add 8) (iv (((rdD p0 x45 z_Row).South).e7)), .cell (((adr Aa).add ((x45).toNat * 19)).add 9) (iv (((rdD p0 x45 z_Row).North).e0)), .cell (((adr Aa).add ((x45).toNat * 19)).add 10) (iv (((rdD p0 x45 z_Row).North).e1)), .cell (((adr Aa).add ((x45).toNat * 19)).add 11) (iv (((rdD p0 x45 z_Row).North).e2)), .cell (((adr Aa).add ((x45).toNat * 19)).add 12) (iv (((rdD p0 x45 z_Row).North).e3)), .cell (((adr Aa).add ((x45).toNat * 19)).add 13) (iv (((rdD p0 x45 z_Row).North).e4)), .cell (((adr Aa).add ((x45).toNat * 19)).add 14) (iv (((rdD p0 x45 z_Row).North).e5)), .cell (((adr Aa).add ((x45).toNat * 19)).add 15) (iv (((rdD p0 x45 z_Row).North).e6)), .cell (((adr Aa).add ((x45).toNat * 19)).add 16) (iv (((rdD p0 x45 z_Row).North).e7)), .cell (((adr Aa).add ((x45).toNat * 19)).add 17) (iv ((rdD p0 x45 z_Row).West)), .cell (((adr Aa).add ((x45).toNat * 19)).add 18) (iv ((rdD p0 x45 z_Row).East))] (fun fb => by kernel_rfl) rfl ⟨nrow_adr (hS50.rd 0).1 h53.1 h53.2, nrow_cell (hS50.rd 0).1 z_Row h53.1 h53.2 0 rfl, nrow_cell (hS50.rd 0).1 z_Row h53.1 h53.2 1 rfl, nrow_cell (hS50.rd 0).1 z_Row h53.1 h53.2 2 rfl, nrow_cell (hS50.rd 0).1 z_Row h53.1 h53.2 3 rfl, nrow_cell (hS50.rd 0).1 z_Row h53.1 h53.2 4 rfl, nrow_cell (hS50.rd 0).1 z_Row h53.1 h53.2 5 rfl, nrow_cell (hS50.rd 0).1 z_Row h53.1 h53.2 6 rfl, nrow_cell (hS50.rd 0).1 z_Row h53.1 h53.2 7 rfl, nrow_cell (hS50.rd 0).1 z_Row h53.1 h53.2 8 rfl, nrow_cell (hS50.rd 0).1 z_Row h53.1 h53.2 9 rfl, nrow_cell (hS50.rd 0).1 z_Row h53.1 h53.2 10 rfl, nrow_cell (hS50.rd 0).1 z_Row h53.1 h53.2 11 rfl, nrow_cell (hS50.rd 0).1 z_Row h53.1 h53.2 12 rfl, nrow_cell (hS50.rd 0).1 z_Row h53.1 h53.2 13 rfl, nrow_cell (hS50.rd 0).1 z_Row h53.1 h53.2 14 rfl, nrow_cell (hS50.rd 0).1 z_Row h53.1 h53.2 15 rfl, nrow_cell (hS50.rd 0).1 z_Row h53.1 h53.2 16 rfl, nrow_cell (hS50.rd 0).1 z_Row h53.1 h53.2 17 rfl, nrow_cell (hS50.rd 0).1 z_Row h53.1 h53.2 18 rfl, trivial⟩ ?_
       refine WL.new hS50 11 [] (fun g => (pt g)) (.cells #[(.slice none 0 0), (iv 0), (iv 0), (iv 0), (iv 0), (iv 0), (iv 0), (iv 0), (iv 0), (iv 0), (iv 0), (iv 0), (iv 0), (iv 0), (iv 0), (iv 0), (iv 0), (iv 0), (iv 0)] 74 (0, 0)) [] (fun fb g => by kernel_rfl) trivial (fun g54 w55 hS56 => ?_)
       refine ⟨trivial, ?_⟩
       refine WL.store hS56 0 rfl [(0, (sv ((Ha x45.toNat 0).1) ((rdD p0 x45 z_Row).Cells) ((Ha x45.toNat 0).2))), (1, (iv (((rdD p0 x45 z_Row).South).e0))), (2, (iv (((rdD p0 x45 z_Row).South).e1))), (3, (iv (((rdD p0 x45 z_Row).South).e2))), (4, (iv (((rdD p0 x45 z_Row).South).e3))), (5, (iv (((rdD p0 x45 z_Row).South).e4))), (6, (iv (((rdD p0 x45 z_Row).South).e5))), (7, (iv (((rdD p0 x45 z_Row).South).e6))), (8, (iv (((rdD p0 x45 z_Row).South).e7))), (9, (iv (((rdD p0 x45 z_Row).North).e0))), (10, (iv (((rdD p0 x45 z_Row).North).e1))), (11, (iv (((rdD p0 x45 z_Row).North).e2))), (12, (iv (((rdD p0 x45 z_Row).North).e3))), (13, (iv (((rdD p0 x45 z_Row).North).e4))), (14, (iv (((rdD p0 x45 z_Row).North).e5))), (15, (iv (((rdD p0 x45 z_Row).North).e6))), (16, (iv (((rdD p0 x45 z_Row).North).e7))), (17, (iv ((rdD p0 x45 z_Row).West))), (18, (iv ((rdD p0 x45 z_Row).East)))] #[(sv ((Ha x45.toNat 0).1) ((rdD p0 x45 z_Row).Cells) ((Ha x45.toNat 0).2)), (iv (((rdD p0 x45 z_Row).South).e0)), (iv (((rdD p0 x45 z_Row).South).e1)), (iv (((rdD p0 x45 z_Row).South).e2)), (iv (((rdD p0 x45 z_Row).South).e3)), (iv (((rdD p0 x45 z_Row).South).e4)), (iv (((rdD p0 x45 z_Row).South).e5)), (iv (((rdD p0 x45 z_Row).South).e6)), (iv (((rdD p0 x45 z_Row).South).e7)), (iv (((rdD p0 x45 z_Row).North).e0)), (iv (((rdD p0 x45 z_Row).North).e1)), (iv (((rdD p0 x45 z_Row).North).e2)), (iv (((rdD p0 x45 z_Row).North).e3)), (iv (((rdD p0 x45 z_Row).North).e4)), (iv (((rdD p0 x45 z_Row).North).e5)), (iv (((rdD p0 x45 z_Row).North).e6)), (iv (((rdD p0 x45 z_Row).North).e7)), (iv ((rdD p0 x45 z_Row).West)), (iv ((rdD p0 x45 z_Row).East))] (fun fb => by kernel_rfl) (by kernel_rfl) (by kernel_rfl) [1, 2, 3] (by decide) (by decide) (fun w57 hS58 => ?_)
       refine ⟨trivial, ?_⟩
       refine WL.done rfl (WX.next (WC.seq (WC.region ?_)))
       refine seg 3 [.v (iv (((rdD p0 x45 z_Row).North).e0)), .v (iv (((rdD p0 x45 z_Row).North).e1)), .v (iv (((rdD p0 x45 z_Row).North).e2)), .v (iv (((rdD p0 x45 z_Row).North).e3)), .v (iv (((rdD p0 x45 z_Row).North).e4)), .v (iv (((rdD p0 x45 z_Row).North).e5)), .v (iv (((rdD p0 x45 z_Row).North).e6)), .v (iv (((rdD p0 x45 z_Row).North).e7))] [0, 7, 8, 9, 11, 16, 17, 26, 27, 28, 32, 34] [(0, (sv Aa p0 ca)), (7, (sv A22 l24 c23)), (8, (.map (some (H25 (w64 ((l24.length : Int) - 1)).toNat)))), (9, (.map (some g41))), (11, (pt g54)), (16, (iv p2)), (17, (iv x26)), (26, (sv Aa p0 ca)), (27, (iv (p0.length : Int))), (28, (iv x45)), (32, (.map (some (H25 (w64 ((l24.length : Int) - 1)).toNat)))), (34, (.agg #[(iv (((rdD p0 x45 z_Row).North).e0)), (iv (((rdD p0 x45 z_Row).North).e1)), (iv (((rdD p0 x45 z_Row).North).e2)), (iv (((rdD p0 x45 z_Row).North).e3)), (iv (((rdD p0 x45 z_Row).North).e4)), (iv (((rdD p0 x45 z_Row).North).e5)), (iv (((rdD p0 x45 z_Row).North).e6)), (iv (((rdD p0 x45 z_Row).North).e7))]))] [.cell ⟨g54, 9, none⟩ (iv (((rdD p0 x45 z_Row).North).e0)), .cell ⟨g54, 10, none⟩ (iv (((rdD p0 x45 z_Row).North).e1)), .cell ⟨g54, 11, none⟩ (iv (((rdD p0 x45 z_Row).North).e2)), .cell ⟨g54, 12, none⟩ (iv (((rdD p0 x45 z_Row).North).e3)), .cell ⟨g54, 13, none⟩ (iv (((rdD p0 x45 z_Row).North).e4)), .cell ⟨g54, 14, none⟩ (iv (((rdD p0 x45 z_Row).North).e5)), .cell ⟨g54, 15, none⟩ (iv (((rdD p0 x45 z_Row).North).e6)), .cell ⟨g54, 16, none⟩ (iv (((rdD p0 x45 z_Row).North).e7))] (fun fb => by kernel_rfl) rfl ⟨hS58.cell 0 rfl 9 rfl, hS58.cell 0 rfl 10 rfl, hS58.cell 0 rfl 11 rfl, hS58.cell 0 rfl 12 rfl, hS58.cell 0 rfl 13 rfl, hS58.cell 0 rfl 14 rfl, hS58.cell 0 rfl 15 rfl, hS58.cell 0 rfl 16 rfl, trivial⟩ ?_
       refine WL.lookup (mapsO.at (hS58.own 2).1 h38.1 h38.2 hm40) ((rdD p0 x45 z_Row).North) (d := 35) (c := false) (t := 78) (kT := 72) (eT := 4) (z := false) (kE := (aggI ints_A8_Int)) (vE := vB) (l := m39) (bv (mget ((rdD p0 x45 z_Row).North) false m39)) (fun fb => by kernel_rfl) torus_back_key72 (by kernel_rfl) (fun _ => by kernel_rfl) rfl ?_
       refine ⟨trivial, ?_⟩
       refine WL.done rfl (WX.next ?_)
       obtain ⟨x59, hx60, hl51⟩ := bind_some hl51
       refine WC.cutN (T := (List (A8_Int × Bool))) (fun t => [(0, (sv Aa p0 ca)), (7, (sv A22 l24 c23)), (8, (.map (some (H25 (w64 ((l24.length : Int) - 1)).toNat)))), (9, (.map (some g41))), (16, (iv p2)), (17, (iv x26)), (26, (sv Aa p0 ca)), (27, (iv (p0.length : Int))), (28, (iv x45))]) (fun t w1 => St NoS w w1 [rowR encN_Row Aa ca (tag Ha p0), nestO subN_Row Ha p0] [rowO 78 (encMap A8_Int Bool) A22 c23 (tag H25 l24), mapsO (aggI ints_A8_Int) vB H25 l24, blk g41 (mapObj (aggI ints_A8_Int) vB t)] ∧ x59 = t) (fun Kx59 => ?_) ?_
       ·
        rcases br_some hx60 with ⟨h61, hx60⟩ | ⟨h61, hx60⟩
        ·refine WC.condT2 (fun fb => by kernel_rfl) h61 ?_
         refine WC.region ?_
         refine seg 3 [.v (iv (((rdD p0 x45 z_Row).South).e0)), .v (iv (((rdD p0 x45 z_Row).South).e1)), .v (iv (((rdD p0 x45 z_Row).South).e2)), .v (iv (((rdD p0 x45 z_Row).South).e3)), .v (iv (((rdD p0 x45 z_Row).South).e4)), .v (iv (((rdD p0 x45 z_Row).South).e5)), .v (iv (((rdD p0 x45 z_Row).South).e6)), .v (iv (((rdD p0 x45 z_Row).South).e7))] [0, 7, 8, 9, 16, 17, 26, 27, 28, 36, 38] [(0, (sv Aa p0 ca)), (7, (sv A22 l24 c23)), (8, (.map (some (H25 (w64 ((l24.length : Int) - 1)).toNat)))), (9, (.map (some g41))), (16, (iv p2)), (17, (iv x26)), (26, (sv Aa p0 ca)), (27, (iv (p0.length : Int))), (28, (iv x45)), (36, (.map (some g41))), (38, (.agg #[(iv (((rdD p0 x45 z_Row).South).e0)), (iv (((rdD p0 x45 z_Row).South).e1)), (iv (((rdD p0 x45 z_Row).South).e2)), (iv (((rdD p0 x45 z_Row).South).e3)), (iv (((rdD p0 x45 z_Row).South).e4)), (iv (((rdD p0 x45 z_Row).South).e5)), (iv (((rdD p0 x45 z_Row).South).e6)), (iv (((rdD p0 x45 z_Row).South).e7))]))] [.cell ⟨g54, 1, none⟩ (iv (((rdD p0 x45 z_Row).South).e0)), .cell ⟨g54, 2, none⟩ (iv (((rdD p0 x45 z_Row).South).e1)), .cell ⟨g54, 3, none⟩ (iv (((rdD p0 x45 z_Row).South).e2)), .cell ⟨g54, 4, none⟩ (iv (((rdD p0 x45 z_Row).South).e3)), .cell ⟨g54, 5, none⟩ (iv (((rdD p0 x45 z_Row).South).e4)), .cell ⟨g54, 6, none⟩ (iv (((rdD p0 x45 z_Row).South).e5)), .cell ⟨g54, 7, none⟩ (iv (((rdD p0 x45 z_Row).South).e6)), .cell ⟨g54, 8, none⟩ (iv (((rdD p0 x45 z_Row).South).e7))] (fun fb => by kernel_rfl) rfl ⟨hS58.cell 0 rfl 1 rfl, hS58.cell 0 rfl 2 rfl, hS58.cell 0 rfl 3 rfl, hS58.cell 0 rfl 4 rfl, hS58.cell 0 rfl 5 rfl, hS58.cell 0 rfl 6 rfl, hS58.cell 0 rfl 7 rfl, hS58.cell 0 rfl 8 rfl, trivial⟩ ?_
         refine WL.mapput hS58 3 (t := 78) (kT := 72) (eT := 4) (kE := (aggI ints_A8_Int)) (vE := vB) (l := l44) rfl ((rdD p0 x45 z_Row).South) true (fun fb => by kernel_rfl) torus_back_key72 (by kernel_rfl) [0, 1, 2] (by decide) (by decide) (fun w62 hS63 => ?_)
         refine ⟨trivial, ?_⟩
         refine WL.done rfl ?_
         injection hx60 with hx60
         exact WX.to Kx59 (mput ((rdD p0 x45 z_Row).South) true l44) [0, 7, 8, 9, 16, 17, 26, 27, 28] rfl ⟨(hS63.subR [0, 1]).sub [2, 3, 0] (by decide), hx60.symm⟩
        refine WC.condF2 (fun fb => by kernel_rfl) h61 ?_
        refine WC.skip ?_
        injection hx60 with hx60
        exact WX.to Kx59 l44 [0, 7, 8, 9, 16, 17, 26, 27, 28] rfl ⟨(hS58.subR [0, 1]).sub [1, 2, 3] (by decide), hx60.symm⟩
       rintro y68 w65 ⟨hS66, hq67⟩
       subst hq67
       refine WX.blockN (WX.next ?_)
       refine WC.region ?_
       refine seg 2 [] [0, 7, 8, 9, 16, 17, 26, 27, 28] [(0, (sv Aa p0 ca)), (7, (sv A22 l24 c23)), (8, (.map (some (H25 (w64 ((l24.length : Int) - 1)).toNat)))), (9, (.map (some g41))), (16, (iv p2)), (17, (iv x26)), (26, (sv Aa p0 ca)), (27, (iv (p0.length : Int))), (28, (iv (w64 (x45 + 1))))] [] (fun fb => by kernel_rfl) rfl trivial ?_
       refine WL.done rfl ?_
       exact WX.again k48 (Nat.lt_succ_self _) (x59, w64 (x45 + 1)) [0, 7, 8, 9, 16, 17, 26, 27, 28] rfl ⟨(hS66.subR [0, 1]).sub [0, 1, 2] (by decide), hl51⟩
      refine WC.condF2 (fun fb => by kernel_rfl) h52 ?_
      refine WC.exit ?_
      injection hl51 with hl51
      exact WX.thenX (WX.thenX (WX.blockHere (WX.to Kx46 l44 [0, 7, 9, 16, 17] rfl ⟨(hS50.subR [0, 1]).sub [0, 1, 2] (by decide), hl51.symm⟩)))
    rintro y73 w69 ⟨hS70, hq71⟩
    subst hq71
    refine WX.next (WC.region ?_)
    refine seg 2 [] [0, 16, 17, 40, 41] [(0, (sv Aa p0 ca)), (16, (iv p2)), (17, (iv x26)), (40, (sv A22 l24 c23)), (41, (.map (some g41)))] [] (fun fb => by kernel_rfl) rfl trivial ?_
    refine WL.new hS70 42 [] (fun g => (.slice (some ⟨g, 0, none⟩) 1 1)) (.cells #[(.map (some g41))] 78 (0, 0)) [] (fun fb g => by kernel_rfl) trivial (fun g74 w75 hS76 => ?_)
    refine ⟨trivial, ?_⟩
    have hS77 := hS21.go w75 [rowO 78 (encMap A8_Int Bool) (some ⟨g74, 0, none⟩) 1 (tag (fun _ => g41) [some x46]), rowO 78 (encMap A8_Int Bool) A22 c23 (tag H25 l24), mapsO (aggI ints_A8_Int) vB H25 l24, blk g41 (mapObj (aggI ints_A8_Int) vB x46)] (hS76.map1 0 _ (fun h => rowO.ofBlk h rfl (Nat.le_of_ble_eq_true (by kernel_rfl))) (fun _ h => by obtain ⟨_, h1, h2⟩ := h; injection h1 with h1; subst h1; exact h2) [1, 2, 3] (by decide) (by decide))
    have hS78 := hS77.go w75 [mapsO (aggI ints_A8_Int) vB (fun _ => g41) [some x46], rowO 78 (encMap A8_Int Bool) (some ⟨g74, 0, none⟩) 1 (tag (fun _ => g41) [some x46]), rowO 78 (encMap A8_Int Bool) A22 c23 (tag H25 l24), mapsO (aggI ints_A8_Int) vB H25 l24] (hS77.mapsOne 3 rfl [0, 1, 2] (by decide) (by decide))
    obtain ⟨h79, hl35⟩ := as_some hl35
    refine WL.appendN hS78 2 (d := 43) (tS := 75) (z := (.map none)) (bytes := 8) (c2 := 1) (hx := g41) (x := (some x46)) rfl (fun fb => by kernel_rfl) (rowO.rd (hS78.own 1).1) (by kernel_rfl) (by kernel_rfl) rfl (by decide) h79 (by decide) [0, 1, 3] (by decide) (by decide) (fun A80 c81 w82 hS83 => ?_)
    have hS84 := hS78.go w82 [mapsO (aggI ints_A8_Int) vB (updH H25 l24.length g41) (l24 ++ [some x46]), rowO 78 (encMap A8_Int Bool) A80 c81 (tag (updH H25 l24.length g41) (l24 ++ [some x46])), rowO 78 (encMap A8_Int Bool) (some ⟨g74, 0, none⟩) 1 (tag (fun _ => g41) [some x46])] (hS83.mapsPush 3 1 rfl rfl (by decide) [0, 2] (by decide) (by decide))
    refine ⟨trivial, ?_⟩
    refine seg 5 [] [0, 7, 16, 17] [(0, (sv Aa p0 ca)), (7, (sv A80 (l24 ++ [some x46]) c81)), (16, (iv p2)), (17, (iv x26))] [] (fun fb => by kernel_rfl) rfl trivial ?_
    refine WL.done rfl ?_
    refine WX.blockN (WX.next ?_)
    refine WC.region ?_
    refine seg 2 [] [0, 7, 16, 17] [(0, (sv Aa p0 ca)), (7, (sv A80 (l24 ++ [some x46]) c81)), (16, (iv p2)), (17, (iv (w64 (x26 + 1))))] [] (fun fb => by kernel_rfl) rfl trivial ?_
    refine WL.done rfl ?_
    exact WX.again k32 (Nat.lt_succ_self _) ((l24 ++ [some x46], w64 (x26 + 1)), A80, c81, (updH H25 l24.length g41)) [0, 7, 16, 17] rfl ⟨(hS84.subR [0, 1]).sub [1, 0] (by decide), hl35⟩
   refine WC.condF2 (fun fb => by kernel_rfl) h37 ?_
   refine WC.exit ?_
   injection hl35 with hl35
   exact WX.thenX (WX.thenX (WX.blockHere (WX.to Kx30 (l24, A22, c23, H25) [7] rfl ⟨(hS34.subR [0, 1]).sub [0, 1] (by decide), hl35.symm⟩)))
 rintro ⟨y88, A27, c28, H29⟩ w85 ⟨hS86, hq87⟩
 subst hq87
 refine WX.next (WC.seq (WC.region ?_))
 refine seg 2 [] [6] [(6, (sv A27 x30 c28))] [] (fun fb => by kernel_rfl) rfl trivial ?_
 refine WL.done rfl (WX.next ?_)
 refine WC.ret ?_
 injection hf with hf
 subst hf
 exact WX.ret_ [] (sv A27 x30 c28) [] (fun fb => by kernel_rfl) trivial ⟨_, rfl, A27, c28, H29, rfl, (hS86.sub [0, 1] (by decide)).noR⟩
theorem torus_find_key72 : KeyK Tryd.prog 72 (aggI ints_A8_Int) := KeyK.array (n := 8) (by kernel_rfl) ints_A8_Int (fun _ => rfl) (fun x y h => by cases x; cases y; simp only [ints_A8_Int, List.cons.injEq, and_true] at h; obtain ⟨rfl, rfl, rfl, rfl, rfl, rfl, rfl, rfl⟩ := h; rfl)
theorem torus_find_calls (k : Nat) (p0 : List Tile) (p1 : Int) (p2 : Int) (Aa : Option Addr) (ca : Nat) (r : Pattern × Bool) (w : World) (hR0 : RO NoS w (rowR enc_Tile Aa ca p0)) (hf : torus_find k p0 p1 p2 = some r) :
  CallsR Tryd.prog 24 #[(sv Aa p0 ca), (iv p1), (iv p2)] w (fun v w' => ∃ (A1_ : Option Addr), ∃ (c1_ : Nat), v = (.tuple #[(.agg #[(iv r.1.Width), (iv r.1.Height), (sv A1_ r.1.Cells c1_)]), (bv r.2)]) ∧ St NoS w w' [] [rowO 3 encInt A1_ c1_ r.1.Cells]) := by
 have hS : St NoS w w [rowR enc_Tile Aa ca p0] [] := St.init (ro_cons hR0 (ro_nil _ _))
 refine enter 105 Tryd.func24 rfl Tryd.ntmps24 rfl ?_
 unfold torus_find at hf
 refine WC.seq (WC.region ?_)
 refine WL.new hS 6 [] (fun g => (pt g)) (.cells #[(iv 0), (iv 0), (.slice none 0 0)] 25 (0, 0)) [] (fun fb g => by kernel_rfl) trivial (fun g9 w10 hS11 => ?_)
 refine ⟨trivial, ?_⟩
 refine seg 2 [] [0, 1, 2, 6] [(0, (sv Aa p0 ca)), (1, (iv p1)), (2, (iv p2)), (6, (pt g9))] [] (fun fb => by kernel_rfl) rfl trivial ?_
 refine WL.done rfl (WX.next ?_)
 refine WC.scope ?_
 refine WC.seq (WC.region ?_)
 refine seg 2 [] [1, 2, 6, 19, 20] [(1, (iv p1)), (2, (iv p2)), (6, (pt g9)), (19, (sv Aa p0 ca)), (20, (iv p1))] [] (fun fb => by kernel_rfl) rfl trivial ?_
 obtain ⟨t12, ht13, hf⟩ := bind_some hf
 refine WL.call (some 21) 35 #[(sv Aa p0 ca), (iv p1)] (fun fb => by kernel_rfl) (torus_rings_calls _ p0 p1 Aa ca t12 _ (hS11.rd 0) ht13) (fun v w14 hR15 => ?_)
 obtain ⟨A17, c18, H19, rfl, hk_⟩ := hR15
 have hS16 := hS.go w14 [rowO 74 encN_Row A17 c18 (tag H19 t12), poolO [nestO subN_Row H19 t12], blk g9 (.cells #[(iv 0), (iv 0), (.slice none 0 0)] 25 (0, 0))] (hS11.call hk_ [] [0] (fun g hg => hg.elim) (by simp) (by decide))
 refine ⟨trivial, ?_⟩
 refine seg 4 [] [1, 2, 6, 8] [(1, (iv p1)), (2, (iv p2)), (6, (pt g9)), (8, (sv A17 t12 c18))] [] (fun fb => by kernel_rfl) rfl trivial ?_
 refine WL.done rfl (WX.next (WC.seq (WC.region ?_)))
 refine WL.new hS16 22 [] (fun g => (.map (some g))) (mapObj (aggI ints_A8_Int) slV ([] : List (A8_Int × (HM × List (Option (List (A8_Int × Bool))))))) [] (fun fb g => by kernel_rfl) trivial (fun g20 w21 hS22 => ?_)
 have hS23 : St NoS w w21 [knestO (aggI ints_A8_Int) vB ([] : List (A8_Int × (HM × List (Option (List (A8_Int × Bool)))))) ([] : List (A8_Int × List (Option (List (A8_Int × Bool))))), rowR enc_Tile Aa ca p0] [blk g20 (mapObj (aggI ints_A8_Int) slV ([] : List (A8_Int × (HM × List (Option (List (A8_Int × Bool))))))), rowO 74 encN_Row A17 c18 (tag H19 t12), poolO [nestO subN_Row H19 t12], blk g9 (.cells #[(iv 0), (iv 0), (.slice none 0 0)] 25 (0, 0))] := hS22.addR _ (knestO_nil _ _ _ _)
 refine ⟨trivial, ?_⟩
 refine seg 2 [] [1, 2, 6, 8, 9] [(1, (iv p1)), (2, (iv p2)), (6, (pt g9)), (8, (sv A17 t12 c18)), (9, (.map (some g20)))] [] (fun fb => by kernel_rfl) rfl trivial ?_
 refine WL.done rfl (WX.next (WC.seq (WC.region ?_)))
 refine seg 3 [] [2, 6, 8, 9, 25] [(2, (iv p2)), (6, (pt g9)), (8, (sv A17 t12 c18)), (9, (.map (some g20))), (25, (.agg #[(iv p1), (iv p2), (.slice none 0 0)]))] [] (fun fb => by kernel_rfl) rfl trivial ?_
 refine WL.new hS23 10 [] (fun g => (pt g)) (.cells #[(iv 0), (iv 0), (.slice none 0 0)] 25 (0, 0)) [] (fun fb g => by kernel_rfl) trivial (fun g25 w26 hS27 => ?_)
 refine ⟨trivial, ?_⟩
 refine WL.store hS27 0 rfl [(0, (iv p1)), (1, (iv p2)), (2, (.slice none 0 0))] #[(iv p1), (iv p2), (.slice none 0 0)] (fun fb => by kernel_rfl) (by kernel_rfl) rfl [1, 2, 3, 4] (by decide) (by decide) (fun w28 hS29 => ?_)
 refine ⟨trivial, ?_⟩
 refine WL.done rfl (WX.next (WC.seq ?_))
 refine WC.label ?_
 refine WX.next (WC.seq (WC.seq (WC.region ?_)))
 refine seg 3 [] [2, 6, 8, 9, 10, 26, 27, 28] [(2, (iv p2)), (6, (pt g9)), (8, (sv A17 t12 c18)), (9, (.map (some g20))), (10, (pt g25)), (26, (sv A17 t12 c18)), (27, (iv (t12.length : Int))), (28, (iv 0))] [] (fun fb => by kernel_rfl) rfl trivial ?_
 refine WL.done rfl (WX.next ?_)
 obtain ⟨x33, hx34, hf⟩ := bind_some hf
 refine WC.cutN (T := Unit) (fun t => [(6, (pt g9))]) (fun t w1 => St NoS w w1 [knestO (aggI ints_A8_Int) vB ([] : List (A8_Int × (HM × List (Option (List (A8_Int × Bool)))))) ([] : List (A8_Int × List (Option (List (A8_Int × Bool))))), rowR enc_Tile Aa ca p0] [blk g9 (.cells #[(iv 0), (iv 0), (.slice none 0 0)] 25 (0, 0))] ∧ x33 = .inr t) (fun Kx33 => ?_) ?_
 ·
  refine WC.block ?_
  refine WC.loop (T := ((List (A8_Int × List (Option (List (A8_Int × Bool))))) × Int) × (List (A8_Int × (HM × List (Option (List (A8_Int × Bool))))))) (fun t => [(2, (iv p2)), (6, (pt g9)), (8, (sv A17 t12 c18)), (9, (.map (some g20))), (10, (pt g25)), (26, (sv A17 t12 c18)), (27, (iv (t12.length : Int))), (28, (iv t.1.2))]) (fun n t w1 => St NoS w w1 [knestO (aggI ints_A8_Int) vB t.2 t.1.1, knestO (aggI ints_A8_Int) vB ([] : List (A8_Int × (HM × List (Option (List (A8_Int × Bool)))))) ([] : List (A8_Int × List (Option (List (A8_Int × Bool))))), rowR enc_Tile Aa ca p0] [blk g9 (.cells #[(iv 0), (iv 0), (.slice none 0 0)] 25 (0, 0)), rowO 74 encN_Row A17 c18 (tag H19 t12), poolO [nestO subN_Row H19 t12], blk g20 (mapObj (aggI ints_A8_Int) slV t.2), blk g25 (.cells #[(iv p1), (iv p2), (.slice none 0 0)] 25 (0, 0))] ∧ torus_find.l0 n t.1.1 t.1.2 p1 p2 t12 = some x33) k ((([] : List (A8_Int × List (Option (List (A8_Int × Bool))))), 0), ([] : List (A8_Int × (HM × List (Option (List (A8_Int × Bool))))))) [2, 6, 8, 9, 10, 26, 27, 28] rfl ⟨(hS29.subR [0, 0, 1]).sub [4, 2, 3, 1, 0] (by decide), hx34⟩ ?_
  rintro k35 ⟨⟨l30, x32⟩, K31⟩ w36 ⟨hS37, hl38⟩
  cases k35 with
  | zero => rw [torus_find.l0] at hl38; cases hl38
  | succ k35 =>
   rw [torus_find.l0] at hl38
   refine WC.seq (WC.region ?_)
   refine seg 1 [] [2, 6, 8, 9, 10, 26, 27, 28, 29] [(2, (iv p2)), (6, (pt g9)), (8, (sv A17 t12 c18)), (9, (.map (some g20))), (10, (pt g25)), (26, (sv A17 t12 c18)), (27, (iv (t12.length : Int))), (28, (iv x32)), (29, (bv (decide (x32 < (t12.length : Int)))))] [] (fun fb => by kernel_rfl) rfl trivial ?_
   refine WL.done rfl (WX.next (WC.seq ?_))
   rcases br_some hl38 with ⟨h39, hl38⟩ | ⟨h39, hl38⟩
   ·refine WC.condT2 (fun fb => by kernel_rfl) h39 ?_
    refine WC.skip (WX.next (WC.seq (WC.block (WC.seq (WC.region ?_)))))
    obtain ⟨h40, hl38⟩ := as_some hl38
    refine seg 2 [.v (sv ((H19 x32.toNat 0).1) ((rdD t12 x32 z_Row).Cells) ((H19 x32.toNat 0).2)), .v (iv (((rdD t12 x32 z_Row).South).e0)), .v (iv (((rdD t12 x32 z_Row).South).e1)), .v (iv (((rdD t12 x32 z_Row).South).e2)), .v (iv (((rdD t12 x32 z_Row).South).e3)), .v (iv (((rdD t12 x32 z_Row).South).e4)), .v (iv (((rdD t12 x32 z_Row).South).e5)), .v (iv (((rdD t12 x32 z_Row).South).e6)), .v (iv (((rdD t12 x32 z_Row).South).e7)), .v (iv (((rdD t12 x32 z_Row).North).e0)), .v (iv (((rdD t12 x32 z_Row).North).e1)), .v (iv (((rdD t12 x32 z_Row).North).e2)), .v (iv (((rdD t12 x32 z_Row).North).e3)), .v (iv (((rdD t12 x32 z_Row).North).e4)), .v (iv (((rdD t12 x32 z_Row).North).e5)), .v (iv (((rdD t12 x32 z_Row).North).e6)), .v (iv (((rdD t12 x32 z_Row).North).e7)), .v (iv ((rdD t12 x32 z_Row).West)), .v (iv ((rdD t12 x32 z_Row).East))] [2, 6, 8, 9, 10, 26, 27, 28, 31] [(2, (iv p2)), (6, (pt g9)), (8, (sv A17 t12 c18)), (9, (.map (some g20))), (10, (pt g25)), (26, (sv A17 t12 c18)), (27, (iv (t12.length : Int))), (28, (iv x32)), (31, (.agg #[(sv ((H19 x32.toNat 0).1) ((rdD t12 x32 z_Row).Cells) ((H19 x32.toNat 0).2)), (iv (((rdD t12 x32 z_Row).South).e0)), (iv (((rdD t12 x32 z_Row).South).e1)), (iv (((rdD t12 x32 z_Row).South).e2)), (iv (((rdD t12 x32 z_Row).South).e3)), (iv (((rdD t12 x32 z_Row).South).e4)), (iv (((rdD t12 x32 z_Row).South).e5)), (iv (((rdD t12 x32 z_Row).South).e6)), (iv (((rdD t12 x32 z_Row).South).e7)), (iv (((rdD t12 x32 z_Row).North).e0)), (iv (((rdD t12 x32 z_Row).North).e1)), (iv (((rdD t12 x32 z_Row).North).e2)), (iv (((rdD t12 x32 z_Row).North).e3)), (iv (((rdD t12 x32 z_Row).North).e4)), (iv (((rdD t12 x32 z_Row).North).e5)), (iv (((rdD t12 x32 z_Row).North).e6)), (iv (((rdD t12 x32 z_Row).North).e7)), (iv ((rdD t12 x32 z_Row).West)), (iv ((rdD t12 x32 z_Row).East))]))] [.idx A17 x32 t12.length, .cell ((adr A17).add ((x32).toNat * 19)) (sv ((H19 x32.toNat 0).1) ((rdD t12 x32 z_Row).Cells) ((H19 x32.toNat 0).2)), .cell (((adr A17).add ((x32).toNat * 19)).add 1) (iv (((rdD t12 x32 z_Row).South).e0)), .cell (((adr A17).add ((x32).toNat * 19)).add 2) (iv (((rdD t12 x32 z_Row).South).e1)), .cell (((adr A17).add ((x32).toNat * 19)).add 3) (iv (((rdD t12 x32 z_Row).South).e2)), .cell (((adr A17).add ((x32).toNat * 19)).add 4) (iv (((rdD t12 x32 z_Row).South).e3)), .cell (((adr A17).add ((x32).toNat * 19)).add 5) (iv (((rdD t12 x32 z_Row).South).e4)), .cell (((adr A17).add ((x32).toNat * 19)).add 6) (iv (((rdD t12 x32 z_Row).South).e5)), .cell (((adr A17).add ((x32).toNat * 19)).add 7) (iv (((rdD t12 x32 z_Row).South).e6)), .cell (((adr A17).add ((x32).toNat * 19)).add 8) (iv (((rdD t12 x32 z_Row).South).e7)), .cell (((adr A17).add ((x32).toNat * 19)).add 9) (iv (((rdD t12 x32 z_Row).North).e0)), .cell (((adr A17).add ((x32).toNat * 19)).add 10) (iv (((rdD t12 x32 z_Row).North).e1)), .cell (((adr A17).add ((x32).toNat * 19)).add 11) (iv (((rdD t12 x32 z_Row).North).e2)), .cell (((adr A17).add ((x32).toNat * 19)).add 12) (iv (((rdD t12 x32 z_Row).North).e3)), .cell (((adr A17).add ((x32).toNat * 19)).add 13) (iv (((rdD t12 x32 z_Row).North).e4)), .cell (((adr A17).add ((x32).toNat * 19)).add 14) (iv (((rdD t12 x32 z_Row).North).e5)), .cell (((adr A17).add ((x32).toNat * 19)).add 15) (iv (((rdD t12 x32 z_Row).North).e6)), .cell (((adr A17).add ((x32).toNat * 19)).add 16) (iv (((rdD t12 x32 z_Row).North).e7)), .cell (((adr A17).add ((x32).toNat * 19)).add 17) (iv ((rdD t12 x32 z_Row).West)), .cell (((adr A17).add ((x32).toNat * 19)).add 18) (iv ((rdD t12 x32 z_Row).East))] (fun fb => by kernel_rfl) rfl ⟨nrow_adr (rowO.rd (hS37.own 1).1) h40.1 h40.2, nrow_cell (rowO.rd (hS37.own 1).1) z_Row h40.1 h40.2 0 rfl, nrow_cell (rowO.rd (hS37.own 1).1) z_Row h40.1 h40.2 1 rfl, nrow_cell (rowO.rd (hS37.own 1).1) z_Row h40.1 h40.2 2 rfl, nrow_cell (rowO.rd (hS37.own 1).1) z_Row h40.1 h40.2 3 rfl, nrow_cell (rowO.rd (hS37.own 1).1) z_Row h40.1 h40.2 4 rfl, nrow_cell (rowO.rd (hS37.own 1).1) z_Row h40.1 h40.2 5 rfl, nrow_cell (rowO.rd (hS37.own 1).1) z_Row h40.1 h40.2 6 rfl, nrow_cell (rowO.rd (hS37.own 1).1) z_Row h40.1 h40.2 7 rfl, nrow_cell (rowO.rd (hS37.own 1).1) z_Row h40.1 h40.2 8 rfl, nrow_cell (rowO.rd (hS37.own 1).1) z_Row h40.1 h40.2 9 rfl, nrow_cell (rowO.rd (hS37.own 1).1) z_Row h40.1 h40.2 10 rfl, nrow_cell (rowO.rd (hS37.own 1).1) z_Row h40.1 h40.2 11 rfl, nrow_cell (rowO.rd (hS37.own 1).1) z_Row h40.1 h40.2 12 rfl, nrow_cell (rowO.rd (hS37.own 1).1) z_Row h40.1 h40.2 13 rfl, nrow_cell (rowO.rd (hS37.own 1).1) z_Row h40.1 h40.2 14 rfl, nrow_cell (rowO.rd (hS37.own 1).1) z_Row h40.1 h40.2 15 rfl, nrow_cell (rowO.rd (hS37.own 1).1) z_Row h40.1 h40.2 16 rfl, nrow_cell (rowO.rd (hS37.own 1).1) z_Row h40.1 h40.2 17 rfl, nrow_cell (rowO.rd (hS37.own 1).1) z_Row h40.1 h40.2 18 rfl, trivial⟩ ?_
    refine WL.new hS37 12 [] (fun g => (pt g)) (.cells #[(.slice none 0 0), (iv 0), (iv 0), (iv 0), (iv 0), (iv 0), (iv 0), (iv 0), (iv 0), (iv 0), (iv 0), (iv 0), (iv 0), (iv 0), (iv 0), (iv 0), (iv 0), (iv 0), (iv 0)] 74 (0, 0)) [] (fun fb g => by kernel_rfl) trivial (fun g41 w42 hS43 => ?_)
    refine ⟨trivial, ?_⟩
    refine WL.store hS43 0 rfl [(0, (sv ((H19 x32.toNat 0).1) ((rdD t12 x32 z_Row).Cells) ((H19 x32.toNat 0).2))), (1, (iv (((rdD t12 x32 z_Row).South).e0))), (2, (iv (((rdD t12 x32 z_Row).South).e1))), (3, (iv (((rdD t12 x32 z_Row).South).e2))), (4, (iv (((rdD t12 x32 z_Row).South).e3))), (5, (iv (((rdD t12 x32 z_Row).South).e4))), (6, (iv (((rdD t12 x32 z_Row).South).e5))), (7, (iv (((rdD t12 x32 z_Row).South).e6))), (8, (iv (((rdD t12 x32 z_Row).South).e7))), (9, (iv (((rdD t12 x32 z_Row).North).e0))), (10, (iv (((rdD t12 x32 z_Row).North).e1))), (11, (iv (((rdD t12 x32 z_Row).North).e2))), (12, (iv (((rdD t12 x32 z_Row).North).e3))), (13, (iv (((rdD t12 x32 z_Row).North).e4))), (14, (iv (((rdD t12 x32 z_Row).North).e5))), (15, (iv (((rdD t12 x32 z_Row).North).e6))), (16, (iv (((rdD t12 x32 z_Row).North).e7))), (17, (iv ((rdD t12 x32 z_Row).West))), (18, (iv ((rdD t12 x32 z_Row).East)))] #[(sv ((H19 x32.toNat 0).1) ((rdD t12 x32 z_Row).Cells) ((H19 x32.toNat 0).2)), (iv (((rdD t12 x32 z_Row).South).e0)), (iv (((rdD t12 x32 z_Row).South).e1)), (iv (((rdD t12 x32 z_Row).South).e2)), (iv (((rdD t12 x32 z_Row).South).e3)), (iv (((rdD t12 x32 z_Row).South).e4)), (iv (((rdD t12 x32 z_Row).South).e5)), (iv (((rdD t12 x32 z_Row).South).e6)), (iv (((rdD t12 x32 z_Row).South).e7)), (iv (((rdD t12 x32 z_Row).North).e0)), (iv (((rdD t12 x32 z_Row).North).e1)), (iv (((rdD t12 x32 z_Row).North).e2)), (iv (((rdD t12 x32 z_Row).North).e3)), (iv (((rdD t12 x32 z_Row).North).e4)), (iv (((rdD t12 x32 z_Row).North).e5)), (iv (((rdD t12 x32 z_Row).North).e6)), (iv (((rdD t12 x32 z_Row).North).e7)), (iv ((rdD t12 x32 z_Row).West)), (iv ((rdD t12 x32 z_Row).East))] (fun fb => by kernel_rfl) (by kernel_rfl) (by kernel_rfl) [1, 2, 3, 4, 5] (by decide) (by decide) (fun w44 hS45 => ?_)
    refine ⟨trivial, ?_⟩
    refine WL.done rfl (WX.next (WC.seq (WC.region ?_)))
    refine seg 3 [.v (iv (((rdD t12 x32 z_Row).South).e0)), .v (iv (((rdD t12 x32 z_Row).South).e1)), .v (iv (((rdD t12 x32 z_Row).South).e2)), .v (iv (((rdD t12 x32 z_Row).South).e3)), .v (iv (((rdD t12 x32 z_Row).South).e4)), .v (iv (((rdD t12 x32 z_Row).South).e5)), .v (iv (((rdD t12 x32 z_Row).South).e6)), .v (iv (((rdD t12 x32 z_Row).South).e7))] [2, 6, 8, 9, 10, 12, 26, 27, 28, 33, 35] [(2, (iv p2)), (6, (pt g9)), (8, (sv A17 t12 c18)), (9, (.map (some g20))), (10, (pt g25)), (12, (pt g41)), (26, (sv A17 t12 c18)), (27, (iv (t12.length : Int))), (28, (iv x32)), (33, (.map (some g20))), (35, (.agg #[(iv (((rdD t12 x32 z_Row).South).e0)), (iv (((rdD t12 x32 z_Row).South).e1)), (iv (((rdD t12 x32 z_Row).South).e2)), (iv (((rdD t12 x32 z_Row).South).e3)), (iv (((rdD t12 x32 z_Row).South).e4)), (iv (((rdD t12 x32 z_Row).South).e5)), (iv (((rdD t12 x32 z_Row).South).e6)), (iv (((rdD t12 x32 z_Row).South).e7))]))] [.cell ⟨g41, 1, none⟩ (iv (((rdD t12 x32 z_Row).South).e0)), .cell ⟨g41, 2, none⟩ (iv (((rdD t12 x32 z_Row).South).e1)), .cell ⟨g41, 3, none⟩ (iv (((rdD t12 x32 z_Row).South).e2)), .cell ⟨g41, 4, none⟩ (iv (((rdD t12 x32 z_Row).South).e3)), .cell ⟨g41, 5, none⟩ (iv (((rdD t12 x32 z_Row).South).e4)), .cell ⟨g41, 6, none⟩ (iv (((rdD t12 x32 z_Row).South).e5)), .cell ⟨g41, 7, none⟩ (iv (((rdD t12 x32 z_Row).South).e6)), .cell ⟨g41, 8, none⟩ (iv (((rdD t12 x32 z_Row).South).e7))] (fun fb => by kernel_rfl) rfl ⟨hS45.cell 0 rfl 1 rfl, hS45.cell 0 rfl 2 rfl, hS45.cell 0 rfl 3 rfl, hS45.cell 0 rfl 4 rfl, hS45.cell 0 rfl 5 rfl, hS45.cell 0 rfl 6 rfl, hS45.cell 0 rfl 7 rfl, hS45.cell 0 rfl 8 rfl, trivial⟩ ?_
    refine WL.lookup (hS45.own 4).1 ((rdD t12 x32 z_Row).South) (d := 36) (c := true) (t := 70) (kT := 72) (eT := 75) (z := zHM) (kE := (aggI ints_A8_Int)) (vE := slV) (l := K31) (.tuple #[(.slice ((mget ((rdD t12 x32 z_Row).South) zHM K31).1.1) (mget ((rdD t12 x32 z_Row).South) [] l30).length ((mget ((rdD t12 x32 z_Row).South) zHM K31).1.2.1)), (.bool (mhas ((rdD t12 x32 z_Row).South) l30))]) (fun fb => by kernel_rfl) torus_find_key72 (by kernel_rfl) (fun _ => by kernel_rfl) (by rw [mhas_unK, (knestO.eq (hS45.rd 0))]; rw [slV_get _ _ (knestO.eq (hS45.rd 0))]; rfl) ?_
    refine ⟨trivial, ?_⟩
    have hS46 : St NoS w w44 [rowR (encMap A8_Int Bool) ((mget ((rdD t12 x32 z_Row).South) zHM K31).1.1) ((mget ((rdD t12 x32 z_Row).South) zHM K31).1.2.1) (tag ((mget ((rdD t12 x32 z_Row).South) zHM K31).1.2.2) (mget ((rdD t12 x32 z_Row).South) [] l30)), knestO (aggI ints_A8_Int) vB K31 l30, knestO (aggI ints_A8_Int) vB ([] : List (A8_Int × (HM × List (Option (List (A8_Int × Bool)))))) ([] : List (A8_Int × List (Option (List (A8_Int × Bool))))), rowR enc_Tile Aa ca p0] [blk g41 (.cells #[(sv ((H19 x32.toNat 0).1) ((rdD t12 x32 z_Row).Cells) ((H19 x32.toNat 0).2)), (iv (((rdD t12 x32 z_Row).South).e0)), (iv (((rdD t12 x32 z_Row).South).e1)), (iv (((rdD t12 x32 z_Row).South).e2)), (iv (((rdD t12 x32 z_Row).South).e3)), (iv (((rdD t12 x32 z_Row).South).e4)), (iv (((rdD t12 x32 z_Row).South).e5)), (iv (((rdD t12 x32 z_Row).South).e6)), (iv (((rdD t12 x32 z_Row).South).e7)), (iv (((rdD t12 x32 z_Row).North).e0)), (iv (((rdD t12 x32 z_Row).North).e1)), (iv (((rdD t12 x32 z_Row).North).e2)), (iv (((rdD t12 x32 z_Row).North).e3)), (iv (((rdD t12 x32 z_Row).North).e4)), (iv (((rdD t12 x32 z_Row).North).e5)), (iv (((rdD t12 x32 z_Row).North).e6)), (iv (((rdD t12 x32 z_Row).North).e7)), (iv ((rdD t12 x32 z_Row).West)), (iv ((rdD t12 x32 z_Row).East))] 74 (0, 0)), blk g9 (.cells #[(iv 0), (iv 0), (.slice none 0 0)] 25 (0, 0)), rowO 74 encN_Row A17 c18 (tag H19 t12), poolO [nestO subN_Row H19 t12], blk g20 (mapObj (aggI ints_A8_Int) slV K31), blk g25 (.cells #[(iv p1), (iv p2), (.slice none 0 0)] 25 (0, 0))] := hS45.addR _ (knestO.row (hS45.rdL 0) ((rdD t12 x32 z_Row).South))
    have hS47 : St NoS w w44 [mapsO (aggI ints_A8_Int) vB ((mget ((rdD t12 x32 z_Row).South) zHM K31).1.2.2) (mget ((rdD t12 x32 z_Row).South) [] l30), rowR (encMap A8_Int Bool) ((mget ((rdD t12 x32 z_Row).South) zHM K31).1.1) ((mget ((rdD t12 x32 z_Row).South) zHM K31).1.2.1) (tag ((mget ((rdD t12 x32 z_Row).South) zHM K31).1.2.2) (mget ((rdD t12 x32 z_Row).South) [] l30)), knestO (aggI ints_A8_Int) vB K31 l30, knestO (aggI ints_A8_Int) vB ([] : List (A8_Int × (HM × List (Option (List (A8_Int × Bool)))))) ([] : List (A8_Int × List (Option (List (A8_Int × Bool))))), rowR enc_Tile Aa ca p0] [blk g41 (.cells #[(sv ((H19 x32.toNat 0).1) ((rdD t12 x32 z_Row).Cells) ((H19 x32.toNat 0).2)), (iv (((rdD t12 x32 z_Row).South).e0)), (iv (((rdD t12 x32 z_Row).South).e1)), (iv (((rdD t12 x32 z_Row).South).e2)), (iv (((rdD t12 x32 z_Row).South).e3)), (iv (((rdD t12 x32 z_Row).South).e4)), (iv (((rdD t12 x32 z_Row).South).e5)), (iv (((rdD t12 x32 z_Row).South).e6)), (iv (((rdD t12 x32 z_Row).South).e7)), (iv (((rdD t12 x32 z_Row).North).e0)), (iv (((rdD t12 x32 z_Row).North).e1)), (iv (((rdD t12 x32 z_Row).North).e2)), (iv (((rdD t12 x32 z_Row).North).e3)), (iv (((rdD t12 x32 z_Row).North).e4)), (iv (((rdD t12 x32 z_Row).North).e5)), (iv (((rdD t12 x32 z_Row).North).e6)), (iv (((rdD t12 x32 z_Row).North).e7)), (iv ((rdD t12 x32 z_Row).West)), (iv ((rdD t12 x32 z_Row).East))] 74 (0, 0)), blk g9 (.cells #[(iv 0), (iv 0), (.slice none 0 0)] 25 (0, 0)), rowO 74 encN_Row A17 c18 (tag H19 t12), poolO [nestO subN_Row H19 t12], blk g20 (mapObj (aggI ints_A8_Int) slV K31), blk g25 (.cells #[(iv p1), (iv p2), (.slice none 0 0)] 25 (0, 0))] := hS46.addR _ (knestO.maps (hS46.rdL 1) ((rdD t12 x32 z_Row).South))
    refine seg 9 [] [2, 6, 8, 9, 10, 12, 13, 14, 26, 27, 28] [(2, (iv p2)), (6, (pt g9)), (8, (sv A17 t12 c18)), (9, (.map (some g20))), (10, (pt g25)), (12, (pt g41)), (13, (sv ((mget ((rdD t12 x32 z_Row).South) zHM K31).1.1) (mget ((rdD t12 x32 z_Row).South) [] l30) ((mget ((rdD t12 x32 z_Row).South) zHM K31).1.2.1))), (14, (bv (mhas ((rdD t12 x32 z_Row).South) l30))), (26, (sv A17 t12 c18)), (27, (iv (t12.length : Int))), (28, (iv x32))] [] (fun fb => by kernel_rfl) rfl trivial ?_
    refine WL.done rfl (WX.next (WC.seq (WC.seq (WC.region ?_))))
    refine seg 2 [] [2, 6, 8, 9, 10, 12, 13, 26, 27, 28, 40] [(2, (iv p2)), (6, (pt g9)), (8, (sv A17 t12 c18)), (9, (.map (some g20))), (10, (pt g25)), (12, (pt g41)), (13, (sv ((mget ((rdD t12 x32 z_Row).South) zHM K31).1.1) (mget ((rdD t12 x32 z_Row).South) [] l30) ((mget ((rdD t12 x32 z_Row).South) zHM K31).1.2.1))), (26, (sv A17 t12 c18)), (27, (iv (t12.length : Int))), (28, (iv x32)), (40, (bv (!(mhas ((rdD t12 x32 z_Row).South) l30))))] [] (fun fb => by kernel_rfl) rfl trivial ?_
    refine WL.done rfl (WX.next ?_)
    obtain ⟨x52, hx53, hl38⟩ := bind_some hl38
    refine WC.cutN (T := ((List (A8_Int × List (Option (List (A8_Int × Bool))))) × (List (Option (List (A8_Int × Bool))))) × (List (A8_Int × (HM × List (Option (List (A8_Int × Bool)))))) × (Option Addr) × Nat × (Nat → Nat)) (fun t => [(2, (iv p2)), (6, (pt g9)), (8, (sv A17 t12 c18)), (9, (.map (some g20))), (10, (pt g25)), (12, (pt g41)), (13, (sv t.2.2.1 t.1.2 t.2.2.2.1)), (26, (sv A17 t12 c18)), (27, (iv (t12.length : Int))), (28, (iv x32))]) (fun t w1 => St NoS w w1 [knestO (aggI ints_A8_Int) vB t.2.1 t.1.1, rowR (encMap A8_Int Bool) t.2.2.1 t.2.2.2.1 (tag t.2.2.2.2 t.1.2), mapsO (aggI ints_A8_Int) vB t.2.2.2.2 t.1.2, mapsO (aggI ints_A8_Int) vB ((mget ((rdD t12 x32 z_Row).South) zHM K31).1.2.2) (mget ((rdD t12 x32 z_Row).South) [] l30), rowR (encMap A8_Int Bool) ((mget ((rdD t12 x32 z_Row).South) zHM K31).1.1) ((mget ((rdD t12 x32 z_Row).South) zHM K31).1.2.1) (tag ((mget ((rdD t12 x32 z_Row).South) zHM K31).1.2.2) (mget ((rdD t12 x32 z_Row).South) [] l30)), knestO (aggI ints_A8_Int) vB K31 l30, knestO (aggI ints_A8_Int) vB ([] : List (A8_Int × (HM × List (Option (List (A8_Int × Bool)))))) ([] : List (A8_Int × List (Option (List (A8_Int × Bool))))), rowR enc_Tile Aa ca p0] [blk g9 (.cells #[(iv 0), (iv 0), (.slice none 0 0)] 25 (0, 0)), rowO 74 encN_Row A17 c18 (tag H19 t12), poolO [nestO subN_Row H19 t12], blk g20 (mapObj (aggI ints_A8_Int) slV t.2.1), blk g25 (.cells #[(iv p1), (iv p2), (.slice none 0 0)] 25 (0, 0)), blk g41 (.cells #[(sv ((H19 x32.toNat 0).1) ((rdD t12 x32 z_Row).Cells) ((H19 x32.toNat 0).2)), (iv (((rdD t12 x32 z_Row).South).e0)), (iv (((rdD t12 x32 z_Row).South).e1)), (iv (((rdD t12 x32 z_Row).South).e2)), (iv (((rdD t12 x32 z_Row).South).e3)), (iv (((rdD t12 x32 z_Row).South).e4)), (iv (((rdD t12 x32 z_Row).South).e5)), (iv (((rdD t12 x32 z_Row).South).e6)), (iv (((rdD t12 x32 z_Row).South).e7)), (iv (((rdD t12 x32 z_Row).North).e0)), (iv (((rdD t12 x32 z_Row).North).e1)), (iv (((rdD t12 x32 z_Row).North).e2)), (iv (((rdD t12 x32 z_Row).North).e3)), (iv (((rdD t12 x32 z_Row).North).e4)), (iv (((rdD t12 x32 z_Row).North).e5)), (iv (((rdD t12 x32 z_Row).North).e6)), (iv (((rdD t12 x32 z_Row).North).e7)), (iv ((rdD t12 x32 z_Row).West)), (iv ((rdD t12 x32 z_Row).East))] 74 (0, 0))] ∧ x52 = t.1) (fun Kx52 => ?_) ?_
    ·
     rcases br_some hx53 with ⟨h54, hx53⟩ | ⟨h54, hx53⟩
     ·refine WC.condT2 (fun fb => by kernel_rfl) h54 ?_
      refine WC.seq (WC.region ?_)
      refine seg 5 [.v (iv (((rdD t12 x32 z_Row).South).e0)), .v (iv (((rdD t12 x32 z_Row).South).e1)), .v (iv (((rdD t12 x32 z_Row).South).e2)), .v (iv (((rdD t12 x32 z_Row).South).e3)), .v (iv (((rdD t12 x32 z_Row).South).e4)), .v (iv (((rdD t12 x32 z_Row).South).e5)), .v (iv (((rdD t12 x32 z_Row).South).e6)), .v (iv (((rdD t12 x32 z_Row).South).e7))] [2, 6, 8, 9, 10, 12, 26, 27, 28, 41, 43, 45] [(2, (iv p2)), (6, (pt g9)), (8, (sv A17 t12 c18)), (9, (.map (some g20))), (10, (pt g25)), (12, (pt g41)), (26, (sv A17 t12 c18)), (27, (iv (t12.length : Int))), (28, (iv x32)), (41, (sv A17 t12 c18)), (43, (.agg #[(iv (((rdD t12 x32 z_Row).South).e0)), (iv (((rdD t12 x32 z_Row).South).e1)), (iv (((rdD t12 x32 z_Row).South).e2)), (iv (((rdD t12 x32 z_Row).South).e3)), (iv (((rdD t12 x32 z_Row).South).e4)), (iv (((rdD t12 x32 z_Row).South).e5)), (iv (((rdD t12 x32 z_Row).South).e6)), (iv (((rdD t12 x32 z_Row).South).e7))])), (45, (iv (w64 (p2 - 1))))] [.cell ⟨g41, 1, none⟩ (iv (((rdD t12 x32 z_Row).South).e0)), .cell ⟨g41, 2, none⟩ (iv (((rdD t12 x32 z_Row).South).e1)), .cell ⟨g41, 3, none⟩ (iv (((rdD t12 x32 z_Row).South).e2)), .cell ⟨g41, 4, none⟩ (iv (((rdD t12 x32 z_Row).South).e3)), .cell ⟨g41, 5, none⟩ (iv (((rdD t12 x32 z_Row).South).e4)), .cell ⟨g41, 6, none⟩ (iv (((rdD t12 x32 z_Row).South).e5)), .cell ⟨g41, 7, none⟩ (iv (((rdD t12 x32 z_Row).South).e6)), .cell ⟨g41, 8, none⟩ (iv (((rdD t12 x32 z_Row).South).e7))] (fun fb => by kernel_rfl) rfl ⟨hS47.cell 0 rfl 1 rfl, hS47.cell 0 rfl 2 rfl, hS47.cell 0 rfl 3 rfl, hS47.cell 0 rfl 4 rfl, hS47.cell 0 rfl 5 rfl, hS47.cell 0 rfl 6 rfl, hS47.cell 0 rfl 7 rfl, hS47.cell 0 rfl 8 rfl, trivial⟩ ?_
      obtain ⟨t55, ht56, hx53⟩ := bind_some hx53
      refine WL.call (some 46) 36 #[(sv A17 t12 c18), (.agg #[(iv (((rdD t12 x32 z_Row).South).e0)), (iv (((rdD t12 x32 z_Row).South).e1)), (iv (((rdD t12 x32 z_Row).South).e2)), (iv (((rdD t12 x32 z_Row).South).e3)), (iv (((rdD t12 x32 z_Row).South).e4)), (iv (((rdD t12 x32 z_Row).South).e5)), (iv (((rdD t12 x32 z_Row).South).e6)), (iv (((rdD t12 x32 z_Row).South).e7))]), (iv (w64 (p2 - 1)))] (fun fb => by kernel_rfl) (torus_back_calls _ t12 ((rdD t12 x32 z_Row).South) (w64 (p2 - 1)) A17 c18 H19 t55 _ (hS47.ow 2).ofO (poolO.ro (hS47.ow 3) 0) ht56) (fun v w57 hR58 => ?_)
      obtain ⟨A60, c61, H62, rfl, hk_⟩ := hR58
      have hS59 := hS47.go w57 [rowO 78 (encMap A8_Int Bool) A60 c61 (tag H62 t55), mapsO (aggI ints_A8_Int) vB H62 t55, blk g41 (.cells #[(.slice ((H19 x32.toNat 0).1) ((rdD t12 x32 z_Row).Cells).length ((H19 x32.toNat 0).2)), (iv (((rdD t12 x32 z_Row).South).e0)), (iv (((rdD t12 x32 z_Row).South).e1)), (iv (((rdD t12 x32 z_Row).South).e2)), (iv (((rdD t12 x32 z_Row).South).e3)), (iv (((rdD t12 x32 z_Row).South).e4)), (iv (((rdD t12 x32 z_Row).South).e5)), (iv (((rdD t12 x32 z_Row).South).e6)), (iv (((rdD t12 x32 z_Row).South).e7)), (iv (((rdD t12 x32 z_Row).North).e0)), (iv (((rdD t12 x32 z_Row).North).e1)), (iv (((rdD t12 x32 z_Row).North).e2)), (iv (((rdD t12 x32 z_Row).North).e3)), (iv (((rdD t12 x32 z_Row).North).e4)), (iv (((rdD t12 x32 z_Row).North).e5)), (iv (((rdD t12 x32 z_Row).North).e6)), (iv (((rdD t12 x32 z_Row).North).e7)), (iv ((rdD t12 x32 z_Row).West)), (iv ((rdD t12 x32 z_Row).East))] 74 (0, 0)), blk g9 (.cells #[(iv 0), (iv 0), (.slice none 0 0)] 25 (0, 0)), rowO 74 encN_Row A17 c18 (tag H19 t12), poolO [nestO subN_Row H19 t12], blk g20 (mapObj (aggI ints_A8_Int) slV K31), blk g25 (.cells #[(iv p1), (iv p2), (.slice none 0 0)] 25 (0, 0))] (hS47.call hk_ [] [0, 1, 2, 3, 4, 5] (fun g hg => hg.elim) (by simp) (by decide))
      refine ⟨trivial, ?_⟩
      refine seg 7 [] [2, 6, 8, 9, 10, 12, 13, 26, 27, 28] [(2, (iv p2)), (6, (pt g9)), (8, (sv A17 t12 c18)), (9, (.map (some g20))), (10, (pt g25)), (12, (pt g41)), (13, (sv A60 t55 c61)), (26, (sv A17 t12 c18)), (27, (iv (t12.length : Int))), (28, (iv x32))] [] (fun fb => by kernel_rfl) rfl trivial ?_
      refine WL.done rfl (WX.next (WC.region ?_))
      refine seg 4 [.v (iv (((rdD t12 x32 z_Row).South).e0)), .v (iv (((rdD t12 x32 z_Row).South).e1)), .v (iv (((rdD t12 x32 z_Row).South).e2)), .v (iv (((rdD t12 x32 z_Row).South).e3)), .v (iv (((rdD t12 x32 z_Row).South).e4)), .v (iv (((rdD t12 x32 z_Row).South).e5)), .v (iv (((rdD t12 x32 z_Row).South).e6)), .v (iv (((rdD t12 x32 z_Row).South).e7))] [2, 6, 8, 9, 10, 12, 13, 26, 27, 28, 47, 49, 50] [(2, (iv p2)), (6, (pt g9)), (8, (sv A17 t12 c18)), (9, (.map (some g20))), (10, (pt g25)), (12, (pt g41)), (13, (sv A60 t55 c61)), (26, (sv A17 t12 c18)), (27, (iv (t12.length : Int))), (28, (iv x32)), (47, (.map (some g20))), (49, (.agg #[(iv (((rdD t12 x32 z_Row).South).e0)), (iv (((rdD t12 x32 z_Row).South).e1)), (iv (((rdD t12 x32 z_Row).South).e2)), (iv (((rdD t12 x32 z_Row).South).e3)), (iv (((rdD t12 x32 z_Row).South).e4)), (iv (((rdD t12 x32 z_Row).South).e5)), (iv (((rdD t12 x32 z_Row).South).e6)), (iv (((rdD t12 x32 z_Row).South).e7))])), (50, (sv A60 t55 c61))] [.cell ⟨g41, 1, none⟩ (iv (((rdD t12 x32 z_Row).South).e0)), .cell ⟨g41, 2, none⟩ (iv (((rdD t12 x32 z_Row).South).e1)), .cell ⟨g41, 3, none⟩ (iv (((rdD t12 x32 z_Row).South).e2)), .cell ⟨g41, 4, none⟩ (iv (((rdD t12 x32 z_Row).South).e3)), .cell ⟨g41, 5, none⟩ (iv (((rdD t12 x32 z_Row).South).e4)), .cell ⟨g41, 6, none⟩ (iv (((rdD t12 x32 z_Row).South).e5)), .cell ⟨g41, 7, none⟩ (iv (((rdD t12 x32 z_Row).South).e6)), .cell ⟨g41, 8, none⟩ (iv (((rdD t12 x32 z_Row).South).e7))] (fun fb => by kernel_rfl) rfl ⟨hS59.cell 2 rfl 1 rfl, hS59.cell 2 rfl 2 rfl, hS59.cell 2 rfl 3 rfl, hS59.cell 2 rfl 4 rfl, hS59.cell 2 rfl 5 rfl, hS59.cell 2 rfl 6 rfl, hS59.cell 2 rfl 7 rfl, hS59.cell 2 rfl 8 rfl, trivial⟩ ?_
      have hS63 : St NoS w w57 [mapsO (aggI ints_A8_Int) vB H62 t55, mapsO (aggI ints_A8_Int) vB ((mget ((rdD t12 x32 z_Row).South) zHM K31).1.2.2) (mget ((rdD t12 x32 z_Row).South) [] l30), rowR (encMap A8_Int Bool) ((mget ((rdD t12 x32 z_Row).South) zHM K31).1.1) ((mget ((rdD t12 x32 z_Row).South) zHM K31).1.2.1) (tag ((mget ((rdD t12 x32 z_Row).South) zHM K31).1.2.2) (mget ((rdD t12 x32 z_Row).South) [] l30)), knestO (aggI ints_A8_Int) vB K31 l30, knestO (aggI ints_A8_Int) vB ([] : List (A8_Int × (HM × List (Option (List (A8_Int × Bool)))))) ([] : List (A8_Int × List (Option (List (A8_Int × Bool))))), rowR enc_Tile Aa ca p0] [rowO 78 (encMap A8_Int Bool) A60 c61 (tag H62 t55), blk g41 (.cells #[(sv ((H19 x32.toNat 0).1) ((rdD t12 x32 z_Row).Cells) ((H19 x32.toNat 0).2)), (iv (((rdD t12 x32 z_Row).South).e0)), (iv (((rdD t12 x32 z_Row).South).e1)), (iv (((rdD t12 x32 z_Row).South).e2)), (iv (((rdD t12 x32 z_Row).South).e3)), (iv (((rdD t12 x32 z_Row).South).e4)), (iv (((rdD t12 x32 z_Row).South).e5)), (iv (((rdD t12 x32 z_Row).South).e6)), (iv (((rdD t12 x32 z_Row).South).e7)), (iv (((rdD t12 x32 z_Row).North).e0)), (iv (((rdD t12 x32 z_Row).North).e1)), (iv (((rdD t12 x32 z_Row).North).e2)), (iv (((rdD t12 x32 z_Row).North).e3)), (iv (((rdD t12 x32 z_Row).North).e4)), (iv (((rdD t12 x32 z_Row).North).e5)), (iv (((rdD t12 x32 z_Row).North).e6)), (iv (((rdD t12 x32 z_Row).North).e7)), (iv ((rdD t12 x32 z_Row).West)), (iv ((rdD t12 x32 z_Row).East))] 74 (0, 0)), blk g9 (.cells #[(iv 0), (iv 0), (.slice none 0 0)] 25 (0, 0)), rowO 74 encN_Row A17 c18 (tag H19 t12), poolO [nestO subN_Row H19 t12], blk g20 (mapObj (aggI ints_A8_Int) slV K31), blk g25 (.cells #[(iv p1), (iv p2), (.slice none 0 0)] 25 (0, 0))] := hS59.freezeO 1 [0, 2, 3, 4, 5, 6, 7] (by decide) (by decide)
      have hS65 : St NoS w w57 [rowR (encMap A8_Int Bool) A60 c61 (tag H62 t55), mapsO (aggI ints_A8_Int) vB H62 t55, mapsO (aggI ints_A8_Int) vB ((mget ((rdD t12 x32 z_Row).South) zHM K31).1.2.2) (mget ((rdD t12 x32 z_Row).South) [] l30), rowR (encMap A8_Int Bool) ((mget ((rdD t12 x32 z_Row).South) zHM K31).1.1) ((mget ((rdD t12 x32 z_Row).South) zHM K31).1.2.1) (tag ((mget ((rdD t12 x32 z_Row).South) zHM K31).1.2.2) (mget ((rdD t12 x32 z_Row).South) [] l30)), knestO (aggI ints_A8_Int) vB K31 l30, knestO (aggI ints_A8_Int) vB ([] : List (A8_Int × (HM × List (Option (List (A8_Int × Bool)))))) ([] : List (A8_Int × List (Option (List (A8_Int × Bool))))), rowR enc_Tile Aa ca p0] [blk g41 (.cells #[(sv ((H19 x32.toNat 0).1) ((rdD t12 x32 z_Row).Cells) ((H19 x32.toNat 0).2)), (iv (((rdD t12 x32 z_Row).South).e0)), (iv (((rdD t12 x32 z_Row).South).e1)), (iv (((rdD t12 x32 z_Row).South).e2)), (iv (((rdD t12 x32 z_Row).South).e3)), (iv (((rdD t12 x32 z_Row).South).e4)), (iv (((rdD t12 x32 z_Row).South).e5)), (iv (((rdD t12 x32 z_Row).South).e6)), (iv (((rdD t12 x32 z_Row).South).e7)), (iv (((rdD t12 x32 z_Row).North).e0)), (iv (((rdD t12 x32 z_Row).North).e1)), (iv (((rdD t12 x32 z_Row).North).e2)), (iv (((rdD t12 x32 z_Row).North).e3)), (iv (((rdD t12 x32 z_Row).North).e4)), (iv (((rdD t12 x32 z_Row).North).e5)), (iv (((rdD t12 x32 z_Row).North).e6)), (iv (((rdD t12 x32 z_Row).North).e7)), (iv ((rdD t12 x32 z_Row).West)), (iv ((rdD t12 x32 z_Row).East))] 74 (0, 0)), blk g9 (.cells #[(iv 0), (iv 0), (.slice none 0 0)] 25 (0, 0)), rowO 74 encN_Row A17 c18 (tag H19 t12), poolO [nestO subN_Row H19 t12], blk g20 (mapObj (aggI ints_A8_Int) slV K31), blk g25 (.cells #[(iv p1), (iv p2), (.slice none 0 0)] 25 (0, 0))] := hS63.freezeRow 0 rfl [1, 2, 3, 4, 5, 6] (by decide) (by decide)
      refine WL.mapput hS65 4 (t := 70) (kT := 72) (eT := 75) (kE := (aggI ints_A8_Int)) (vE := slV) (l := K31) rfl ((rdD t12 x32 z_Row).South) ((A60, c61, H62), t55) (fun fb => by kernel_rfl) torus_find_key72 (by kernel_rfl) [0, 1, 2, 3, 5] (by decide) (by decide) (fun w66 hS67 => ?_)
      have hS68 : St NoS w w66 [knestO (aggI ints_A8_Int) vB (mput ((rdD t12 x32 z_Row).South) ((A60, c61, H62), t55) K31) (mput ((rdD t12 x32 z_Row).South) t55 l30), rowR (encMap A8_Int Bool) A60 c61 (tag H62 t55), mapsO (aggI ints_A8_Int) vB H62 t55, mapsO (aggI ints_A8_Int) vB ((mget ((rdD t12 x32 z_Row).South) zHM K31).1.2.2) (mget ((rdD t12 x32 z_Row).South) [] l30), rowR (encMap A8_Int Bool) ((mget ((rdD t12 x32 z_Row).South) zHM K31).1.1) ((mget ((rdD t12 x32 z_Row).South) zHM K31).1.2.1) (tag ((mget ((rdD t12 x32 z_Row).South) zHM K31).1.2.2) (mget ((rdD t12 x32 z_Row).South) [] l30)), knestO (aggI ints_A8_Int) vB K31 l30, knestO (aggI ints_A8_Int) vB ([] : List (A8_Int × (HM × List (Option (List (A8_Int × Bool)))))) ([] : List (A8_Int × List (Option (List (A8_Int × Bool))))), rowR enc_Tile Aa ca p0] [blk g20 (mapObj (aggI ints_A8_Int) slV (mput ((rdD t12 x32 z_Row).South) ((A60, c61, H62), t55) K31)), blk g41 (.cells #[(sv ((H19 x32.toNat 0).1) ((rdD t12 x32 z_Row).Cells) ((H19 x32.toNat 0).2)), (iv (((rdD t12 x32 z_Row).South).e0)), (iv (((rdD t12 x32 z_Row).South).e1)), (iv (((rdD t12 x32 z_Row).South).e2)), (iv (((rdD t12 x32 z_Row).South).e3)), (iv (((rdD t12 x32 z_Row).South).e4)), (iv (((rdD t12 x32 z_Row).South).e5)), (iv (((rdD t12 x32 z_Row).South).e6)), (iv (((rdD t12 x32 z_Row).South).e7)), (iv (((rdD t12 x32 z_Row).North).e0)), (iv (((rdD t12 x32 z_Row).North).e1)), (iv (((rdD t12 x32 z_Row).North).e2)), (iv (((rdD t12 x32 z_Row).North).e3)), (iv (((rdD t12 x32 z_Row).North).e4)), (iv (((rdD t12 x32 z_Row).North).e5)), (iv (((rdD t12 x32 z_Row).North).e6)), (iv (((rdD t12 x32 z_Row).North).e7)), (iv ((rdD t12 x32 z_Row).West)), (iv ((rdD t12 x32 z_Row).East))] 74 (0, 0)), blk g9 (.cells #[(iv 0), (iv 0), (.slice none 0 0)] 25 (0, 0)), rowO 74 encN_Row A17 c18 (tag H19 t12), poolO [nestO subN_Row H19 t12], blk g25 (.cells #[(iv p1), (iv p2), (.slice none 0 0)] 25 (0, 0))] := hS67.addR _ (knestO.put (hS67.rdL 4) ((rdD t12 x32 z_Row).South) (hS67.rdL 0) (hS67.rdL 1))
      refine ⟨trivial, ?_⟩
      refine WL.done rfl ?_
      injection hx53 with hx53
      exact WX.to Kx52 ((mput ((rdD t12 x32 z_Row).South) t55 l30, t55), mput ((rdD t12 x32 z_Row).South) ((A60, c61, H62), t55) K31, A60, c61, H62) [2, 6, 8, 9, 10, 12, 13, 26, 27, 28] rfl ⟨(hS68.subR [0, 1, 2, 3, 4, 5, 6, 7]).sub [2, 3, 4, 0, 5, 1] (by decide), hx53.symm⟩
     refine WC.condF2 (fun fb => by kernel_rfl) h54 ?_
     refine WC.skip ?_
     injection hx53 with hx53
     exact WX.to Kx52 ((l30, (mget ((rdD t12 x32 z_Row).South) [] l30)), K31, (mget ((rdD t12 x32 z_Row).South) zHM K31).1.1, (mget ((rdD t12 x32 z_Row).South) zHM K31).1.2.1, ((mget ((rdD t12 x32 z_Row).South) zHM K31).1.2.2)) [2, 6, 8, 9, 10, 12, 13, 26, 27, 28] rfl ⟨(hS47.subR [2, 1, 0, 0, 1, 2, 3, 4]).sub [1, 2, 3, 4, 5, 0] (by decide), hx53.symm⟩
    rintro ⟨y73, K48, A49, c50, H51⟩ w69 ⟨hS70, hq71⟩
    subst hq71
    refine WX.next (WC.seq (WC.seq ?_))
    obtain ⟨h76, hl38⟩ := as_some hl38
    obtain ⟨m77, hm78, hl38⟩ := bind_some hl38
    refine WC.regionD ([(4, ((adr A49).add ((w64 (p2 - 1)).toNat * 1)), (.map (some (H51 (w64 (p2 - 1)).toNat)))), (6, ⟨g41, 9, none⟩, (iv (((rdD t12 x32 z_Row).North).e0))), (6, ⟨g41, 10, none⟩, (iv (((rdD t12 x32 z_Row).North).e1))), (6, ⟨g41, 11, none⟩, (iv (((rdD t12 x32 z_Row).North).e2))), (6, ⟨g41, 12, none⟩, (iv (((rdD t12 x32 z_Row).North).e3))), (6, ⟨g41, 13, none⟩, (iv (((rdD t12 x32 z_Row).North).e4))), (6, ⟨g41, 14, none⟩, (iv (((rdD t12 x32 z_Row).North).e5))), (6, ⟨g41, 15, none⟩, (iv (((rdD t12 x32 z_Row).North).e6))), (6, ⟨g41, 16, none⟩, (iv (((rdD t12 x32 z_Row).North).e7)))], [0, 1, 2, 3, 4, 5, 6, 8], [[], [], [1], [0, 1, 2], [0, 1, 2, 3], [], [5], [0, 1, 2, 3, 4, 5, 6], [0, 1, 2, 3, 4, 5, 6, 7]]) [[0, 1, 2, 3, 4, 5, 6, 7, 8]] (by kernel_rfl) (by kernel_rfl) (NoPanic.seq (NoPanic.seq (NoPanic.block (NoPanic.seq (NoPanic.seq (NoPanic.block (NoPanic.seq (NoPanic.scope (NoPanic.body))))))))) ?_
    have hS75 := hS70.drew
    revert hS75
    generalize World.drew w69 = w74
    intro hS75
    refine ⟨⟨nrow_cell (hS75.rd 1).1 none h76.1 h76.2 0 (mapV_some hm78), hS75.cell 5 rfl 9 rfl, hS75.cell 5 rfl 10 rfl, hS75.cell 5 rfl 11 rfl, hS75.cell 5 rfl 12 rfl, hS75.cell 5 rfl 13 rfl, hS75.cell 5 rfl 14 rfl, hS75.cell 5 rfl 15 rfl, hS75.cell 5 rfl 16 rfl, trivial⟩, forallC ?_ (forallN)⟩
    refine segF 7 [.v (.map (some (H51 (w64 (p2 - 1)).toNat))), .v (iv (((rdD t12 x32 z_Row).North).e0)), .v (iv (((rdD t12 x32 z_Row).North).e1)), .v (iv (((rdD t12 x32 z_Row).North).e2)), .v (iv (((rdD t12 x32 z_Row).North).e3)), .v (iv (((rdD t12 x32 z_Row).North).e4)), .v (iv (((rdD t12 x32 z_Row).North).e5)), .v (iv (((rdD t12 x32 z_Row).North).e6)), .v (iv (((rdD t12 x32 z_Row).North).e7))] [2, 6, 8, 9, 10, 12, 13, 26, 27, 28, 55, 57] [(2, (iv p2)), (6, (pt g9)), (8, (sv A17 t12 c18)), (9, (.map (some g20))), (10, (pt g25)), (12, (pt g41)), (13, (sv A49 x52.2 c50)), (26, (sv A17 t12 c18)), (27, (iv (t12.length : Int))), (28, (iv x32)), (55, (.map (some (H51 (w64 (p2 - 1)).toNat)))), (57, (.agg #[(iv (((rdD t12 x32 z_Row).North).e0)), (iv (((rdD t12 x32 z_Row).North).e1)), (iv (((rdD t12 x32 z_Row).North).e2)), (iv (((rdD t12 x32 z_Row).North).e3)), (iv (((rdD t12 x32 z_Row).North).e4)), (iv (((rdD t12 x32 z_Row).North).e5)), (iv (((rdD t12 x32 z_Row).North).e6)), (iv (((rdD t12 x32 z_Row).North).e7))]))] [.idx A49 (w64 (p2 - 1)) x52.2.length] [0, 1, 2, 3, 4, 5, 6, 7, 8] [(4, ((adr A49).add ((w64 (p2 - 1)).toNat * 1)), (.map (some (H51 (w64 (p2 - 1)).toNat)))), (6, ⟨g41, 9, none⟩, (iv (((rdD t12 x32 z_Row).North).e0))), (6, ⟨g41, 10, none⟩, (iv (((rdD t12 x32 z_Row).North).e1))), (6, ⟨g41, 11, none⟩, (iv (((rdD t12 x32 z_Row).North).e2))), (6, ⟨g41, 12, none⟩, (iv (((rdD t12 x32 z_Row).North).e3))), (6, ⟨g41, 13, none⟩, (iv (((rdD t12 x32 z_Row).North).e4))), (6, ⟨g41, 14, none⟩, (iv (((rdD t12 x32 z_Row).North).e5))), (6, ⟨g41, 15, none⟩, (iv (((rdD t12 x32 z_Row).North).e6))), (6, ⟨g41, 16, none⟩, (iv (((rdD t12 x32 z_Row).North).e7)))] (fun fb => by kernel_rfl) rfl ⟨nrow_adr (hS75.rd 1).1 h76.1 h76.2, trivial⟩ rfl ?_
    refine WL.lookup (mapsO.at (hS75.rd 2).1 h76.1 h76.2 hm78) ((rdD t12 x32 z_Row).North) (d := 58) (c := false) (t := 78) (kT := 72) (eT := 4) (z := false) (kE := (aggI ints_A8_Int)) (vE := vB) (l := m77) (bv (mget ((rdD t12 x32 z_Row).North) false m77)) (fun fb => by kernel_rfl) torus_find_key72 (by kernel_rfl) (fun _ => by kernel_rfl) rfl ?_
    refine ⟨trivial, ?_⟩
    refine seg 9 [] [2, 6, 8, 9, 10, 12, 13, 26, 27, 28, 59] [(2, (iv p2)), (6, (pt g9)), (8, (sv A17 t12 c18)), (9, (.map (some g20))), (10, (pt g25)), (12, (pt g41)), (13, (sv A49 x52.2 c50)), (26, (sv A17 t12 c18)), (27, (iv (t12.length : Int))), (28, (iv x32)), (59, (bv (!(mget ((rdD t12 x32 z_Row).North) false m77))))] [] (fun fb => by kernel_rfl) rfl trivial ?_
    refine WL.done rfl (WX.next ?_)
    rcases br_some hl38 with ⟨h79, hl38⟩ | ⟨h79, hl38⟩
    ·refine WC.condT2 (fun fb => by kernel_rfl) h79 ?_
     refine WC.exit ?_
     refine WX.thenX (WX.blockHere (WX.next ?_))
     refine WC.region ?_
     refine seg 2 [] [2, 6, 8, 9, 10, 26, 27, 28] [(2, (iv p2)), (6, (pt g9)), (8, (sv A17 t12 c18)), (9, (.map (some g20))), (10, (pt g25)), (26, (sv A17 t12 c18)), (27, (iv (t12.length : Int))), (28, (iv (w64 (x32 + 1))))] [] (fun fb => by kernel_rfl) rfl trivial ?_
     refine WL.done rfl ?_
     exact WX.again k35 (Nat.lt_succ_self _) ((x52.1, w64 (x32 + 1)), K48) [2, 6, 8, 9, 10, 26, 27, 28] rfl ⟨(hS75.subR [0, 6, 7]).sub [0, 1, 2, 3, 4] (by decide), hl38⟩
    refine WC.condF2 (fun fb => by kernel_rfl) h79 ?_
    refine WC.skip (WX.next (WC.seq (WC.region ?_)))
    refine seg 4 [.v (.slice none 0 0), .v (sv ((H19 x32.toNat 0).1) ((rdD t12 x32 z_Row).Cells) ((H19 x32.toNat 0).2))] [2, 6, 8, 10, 12, 13, 61, 63] [(2, (iv p2)), (6, (pt g9)), (8, (sv A17 t12 c18)), (10, (pt g25)), (12, (pt g41)), (13, (sv A49 x52.2 c50)), (61, (.slice none 0 0)), (63, (sv ((H19 x32.toNat 0).1) ((rdD t12 x32 z_Row).Cells) ((H19 x32.toNat 0).2)))] [.cell ⟨g25, 2, none⟩ (.slice none 0 0), .cell ⟨g41, 0, none⟩ (sv ((H19 x32.toNat 0).1) ((rdD t12 x32 z_Row).Cells) ((H19 x32.toNat 0).2))] (fun fb => by kernel_rfl) rfl ⟨hS75.cell 4 rfl 2 rfl, hS75.cell 5 rfl 0 rfl, trivial⟩ ?_
    have hS80 := hS75.nilrow 3 encInt
    obtain ⟨h81, hl38⟩ := as_some hl38
    refine WL.append hS80 0 (d := 64) (tS := 23) (z := (iv 0)) (bytes := 8) (c2 := (H19 x32.toNat 0).2) rfl (fun fb => by kernel_rfl) (nestO.at ((hS80.own 3).1 0) z_Row h40.1 h40.2) (by kernel_rfl) (by kernel_rfl) rfl (by decide) h81 (by decide) [1, 2, 3, 4, 5, 6] (by decide) (by decide) (fun A82 c83 w84 hS85 => ?_)
    refine ⟨trivial, ?_⟩
    refine seg 6 [] [2, 6, 8, 10, 12, 13, 64, 65] [(2, (iv p2)), (6, (pt g9)), (8, (sv A17 t12 c18)), (10, (pt g25)), (12, (pt g41)), (13, (sv A49 x52.2 c50)), (64, (sv A82 (([] : List Int) ++ ((rdD t12 x32 z_Row).Cells)) c83)), (65, (.pointer (some ⟨g25, 2, none⟩)))] [] (fun fb => by kernel_rfl) rfl trivial ?_
    refine WL.store hS85 5 rfl [(2, (sv A82 (([] : List Int) ++ ((rdD t12 x32 z_Row).Cells)) c83))] #[(iv p1), (iv p2), (sv A82 (([] : List Int) ++ ((rdD t12 x32 z_Row).Cells)) c83)] (fun fb => by kernel_rfl) (by kernel_rfl) rfl [0, 1, 2, 3, 4, 6] (by decide) (by decide) (fun w86 hS87 => ?_)
    refine ⟨trivial, ?_⟩
    refine WL.done rfl (WX.next (WC.seq (WC.region ?_)))
    refine seg 2 [.v (iv (((rdD t12 x32 z_Row).North).e0)), .v (iv (((rdD t12 x32 z_Row).North).e1)), .v (iv (((rdD t12 x32 z_Row).North).e2)), .v (iv (((rdD t12 x32 z_Row).North).e3)), .v (iv (((rdD t12 x32 z_Row).North).e4)), .v (iv (((rdD t12 x32 z_Row).North).e5)), .v (iv (((rdD t12 x32 z_Row).North).e6)), .v (iv (((rdD t12 x32 z_Row).North).e7))] [2, 6, 8, 10, 13, 67] [(2, (iv p2)), (6, (pt g9)), (8, (sv A17 t12 c18)), (10, (pt g25)), (13, (sv A49 x52.2 c50)), (67, (.agg #[(iv (((rdD t12 x32 z_Row).North).e0)), (iv (((rdD t12 x32 z_Row).North).e1)), (iv (((rdD t12 x32 z_Row).North).e2)), (iv (((rdD t12 x32 z_Row).North).e3)), (iv (((rdD t12 x32 z_Row).North).e4)), (iv (((rdD t12 x32 z_Row).North).e5)), (iv (((rdD t12 x32 z_Row).North).e6)), (iv (((rdD t12 x32 z_Row).North).e7))]))] [.cell ⟨g41, 9, none⟩ (iv (((rdD t12 x32 z_Row).North).e0)), .cell ⟨g41, 10, none⟩ (iv (((rdD t12 x32 z_Row).North).e1)), .cell ⟨g41, 11, none⟩ (iv (((rdD t12 x32 z_Row).North).e2)), .cell ⟨g41, 12, none⟩ (iv (((rdD t12 x32 z_Row).North).e3)), .cell ⟨g41, 13, none⟩ (iv (((rdD t12 x32 z_Row).North).e4)), .cell ⟨g41, 14, none⟩ (iv (((rdD t12 x32 z_Row).North).e5)), .cell ⟨g41, 15, none⟩ (iv (((rdD t12 x32 z_Row).North).e6)), .cell ⟨g41, 16, none⟩ (iv (((rdD t12 x32 z_Row).North).e7))] (fun fb => by kernel_rfl) rfl ⟨hS87.cell 6 rfl 9 rfl, hS87.cell 6 rfl 10 rfl, hS87.cell 6 rfl 11 rfl, hS87.cell 6 rfl 12 rfl, hS87.cell 6 rfl 13 rfl, hS87.cell 6 rfl 14 rfl, hS87.cell 6 rfl 15 rfl, hS87.cell 6 rfl 16 rfl, trivial⟩ ?_
    refine WL.new hS87 15 [] (fun g => (pt g)) (.cells #[(iv 0), (iv 0), (iv 0), (iv 0), (iv 0), (iv 0), (iv 0), (iv 0)] 72 (0, 0)) [] (fun fb g => by kernel_rfl) trivial (fun g88 w89 hS90 => ?_)
    refine ⟨trivial, ?_⟩
    refine WL.store hS90 0 rfl [(0, (iv (((rdD t12 x32 z_Row).North).e0))), (1, (iv (((rdD t12 x32 z_Row).North).e1))), (2, (iv (((rdD t12 x32 z_Row).North).e2))), (3, (iv (((rdD t12 x32 z_Row).North).e3))), (4, (iv (((rdD t12 x32 z_Row).North).e4))), (5, (iv (((rdD t12 x32 z_Row).North).e5))), (6, (iv (((rdD t12 x32 z_Row).North).e6))), (7, (iv (((rdD t12 x32 z_Row).North).e7)))] #[(iv (((rdD t12 x32 z_Row).North).e0)), (iv (((rdD t12 x32 z_Row).North).e1)), (iv (((rdD t12 x32 z_Row).North).e2)), (iv (((rdD t12 x32 z_Row).North).e3)), (iv (((rdD t12 x32 z_Row).North).e4)), (iv (((rdD t12 x32 z_Row).North).e5)), (iv (((rdD t12 x32 z_Row).North).e6)), (iv (((rdD t12 x32 z_Row).North).e7))] (fun fb => by kernel_rfl) (by kernel_rfl) rfl [1, 2, 3, 4, 5, 6, 7] (by decide) (by decide) (fun w91 hS92 => ?_)
    refine ⟨trivial, ?_⟩
    refine WL.done rfl (WX.next (WC.seq (WC.seq (WC.region ?_))))
    refine seg 3 [] [6, 8, 10, 13, 15, 16] [(6, (pt g9)), (8, (sv A17 t12 c18)), (10, (pt g25)), (13, (sv A49 x52.2 c50)), (15, (pt g88)), (16, (iv (w64 (p2 - 2))))] [] (fun fb => by kernel_rfl) rfl trivial ?_
    refine WL.done rfl (WX.next ?_)
    obtain ⟨x100, hx101, hl38⟩ := bind_some hl38
    refine WC.cutN (T := (List Int) × (Option Addr) × Nat) (fun t => [(6, (pt g9)), (10, (pt g25))]) (fun t w1 => St NoS w w1 [knestO (aggI ints_A8_Int) vB K48 x52.1, rowR (encMap A8_Int Bool) A49 c50 (tag H51 x52.2), mapsO (aggI ints_A8_Int) vB H51 x52.2, mapsO (aggI ints_A8_Int) vB ((mget ((rdD t12 x32 z_Row).South) zHM K31).1.2.2) (mget ((rdD t12 x32 z_Row).South) [] l30), rowR (encMap A8_Int Bool) ((mget ((rdD t12 x32 z_Row).South) zHM K31).1.1) ((mget ((rdD t12 x32 z_Row).South) zHM K31).1.2.1) (tag ((mget ((rdD t12 x32 z_Row).South) zHM K31).1.2.2) (mget ((rdD t12 x32 z_Row).South) [] l30)), knestO (aggI ints_A8_Int) vB K31 l30, knestO (aggI ints_A8_Int) vB ([] : List (A8_Int × (HM × List (Option (List (A8_Int × Bool)))))) ([] : List (A8_Int × List (Option (List (A8_Int × Bool))))), rowR enc_Tile Aa ca p0] [blk g9 (.cells #[(iv 0), (iv 0), (.slice none 0 0)] 25 (0, 0)), blk g25 (.cells #[(iv p1), (iv p2), (sv t.2.1 t.1 t.2.2)] 25 (0, 0)), rowO 3 encInt t.2.1 t.2.2 t.1] ∧ x100 = t.1) (fun Kx100 => ?_) ?_
    ·
     refine WC.block ?_
     refine WC.loop (T := ((List Int) × A8_Int × Int) × (Option Addr) × Nat) (fun t => [(6, (pt g9)), (8, (sv A17 t12 c18)), (10, (pt g25)), (13, (sv A49 x52.2 c50)), (15, (pt g88)), (16, (iv t.1.2.2))]) (fun n t w1 => St NoS w w1 [knestO (aggI ints_A8_Int) vB K48 x52.1, rowR (encMap A8_Int Bool) A49 c50 (tag H51 x52.2), mapsO (aggI ints_A8_Int) vB H51 x52.2, mapsO (aggI ints_A8_Int) vB ((mget ((rdD t12 x32 z_Row).South) zHM K31).1.2.2) (mget ((rdD t12 x32 z_Row).South) [] l30), rowR (encMap A8_Int Bool) ((mget ((rdD t12 x32 z_Row).South) zHM K31).1.1) ((mget ((rdD t12 x32 z_Row).South) zHM K31).1.2.1) (tag ((mget ((rdD t12 x32 z_Row).South) zHM K31).1.2.2) (mget ((rdD t12 x32 z_Row).South) [] l30)), knestO (aggI ints_A8_Int) vB K31 l30, knestO (aggI ints_A8_Int) vB ([] : List (A8_Int × (HM × List (Option (List (A8_Int × Bool)))))) ([] : List (A8_Int × List (Option (List (A8_Int × Bool))))), rowR enc_Tile Aa ca p0] [blk g9 (.cells #[(iv 0), (iv 0), (.slice none 0 0)] 25 (0, 0)), rowO 74 encN_Row A17 c18 (tag H19 t12), poolO [nestO subN_Row H19 t12], blk g25 (.cells #[(iv p1), (iv p2), (sv t.2.1 t.1.1 t.2.2)] 25 (0, 0)), rowO 3 encInt t.2.1 t.2.2 t.1.1, blk g88 (.cells #[(iv t.1.2.1.e0), (iv t.1.2.1.e1), (iv t.1.2.1.e2), (iv t.1.2.1.e3), (iv t.1.2.1.e4), (iv t.1.2.1.e5), (iv t.1.2.1.e6), (iv t.1.2.1.e7)] 72 (0, 0))] ∧ torus_find.l1 n t.1.1 t.1.2.1 t.1.2.2 t12 x52 = some x100) k35 ((([] : List Int) ++ ((rdD t12 x32 z_Row).Cells), ((rdD t12 x32 z_Row).North), w64 (p2 - 2)), A82, c83) [6, 8, 10, 13, 15, 16] rfl ⟨(hS92.subR [0, 1, 2, 3, 4, 5, 6, 7]).sub [3, 4, 5, 1, 2, 0] (by decide), hx101⟩ ?_
     rintro k102 ⟨⟨l95, a96, x97⟩, A93, c94⟩ w103 ⟨hS104, hl105⟩
     cases k102 with
     | zero => rw [torus_find.l1] at hl105; cases hl105
     | succ k102 =>
      rw [torus_find.l1] at hl105
      refine WC.seq (WC.seq (WC.region ?_))
      refine seg 2 [] [6, 8, 10, 13, 15, 16, 71] [(6, (pt g9)), (8, (sv A17 t12 c18)), (10, (pt g25)), (13, (sv A49 x52.2 c50)), (15, (pt g88)), (16, (iv x97)), (71, (bv (decide (x97 ≥ 0))))] [] (fun fb => by kernel_rfl) rfl trivial ?_
      refine WL.done rfl (WX.next ?_)
      rcases br_some hl105 with ⟨h106, hl105⟩ | ⟨h106, hl105⟩
      ·refine WC.condT2 (fun fb => by kernel_rfl) h106 ?_
       refine WC.skip (WX.next (WC.seq (WC.block ?_)))
       refine WC.scope ?_
       refine WC.seq ?_
       refine WC.label ?_
       refine WX.next (WC.seq (WC.region ?_))
       refine seg 3 [] [6, 8, 10, 13, 15, 16, 74, 75, 76] [(6, (pt g9)), (8, (sv A17 t12 c18)), (10, (pt g25)), (13, (sv A49 x52.2 c50)), (15, (pt g88)), (16, (iv x97)), (74, (sv A17 t12 c18)), (75, (iv (t12.length : Int))), (76, (iv 0))] [] (fun fb => by kernel_rfl) rfl trivial ?_
       refine WL.done rfl (WX.next ?_)
       obtain ⟨x110, hx111, hl105⟩ := bind_some hl105
       refine WC.cutN (T := ((List Int) × A8_Int) × (Option Addr) × Nat) (fun t => [(6, (pt g9)), (8, (sv A17 t12 c18)), (10, (pt g25)), (13, (sv A49 x52.2 c50)), (15, (pt g88)), (16, (iv x97))]) (fun t w1 => St NoS w w1 [knestO (aggI ints_A8_Int) vB K48 x52.1, rowR (encMap A8_Int Bool) A49 c50 (tag H51 x52.2), mapsO (aggI ints_A8_Int) vB H51 x52.2, mapsO (aggI ints_A8_Int) vB ((mget ((rdD t12 x32 z_Row).South) zHM K31).1.2.2) (mget ((rdD t12 x32 z_Row).South) [] l30), rowR (encMap A8_Int Bool) ((mget ((rdD t12 x32 z_Row).South) zHM K31).1.1) ((mget ((rdD t12 x32 z_Row).South) zHM K31).1.2.1) (tag ((mget ((rdD t12 x32 z_Row).South) zHM K31).1.2.2) (mget ((rdD t12 x32 z_Row).South) [] l30)), knestO (aggI ints_A8_Int) vB K31 l30, knestO (aggI ints_A8_Int) vB ([] : List (A8_Int × (HM × List (Option (List (A8_Int × Bool)))))) ([] : List (A8_Int × List (Option (List (A8_Int × Bool))))), rowR enc_Tile Aa ca p0] [blk g9 (.cells #[(iv 0), (iv 0), (.slice none 0 0)] 25 (0, 0)), rowO 74 encN_Row A17 c18 (tag H19 t12), poolO [nestO subN_Row H19 t12], blk g25 (.cells #[(iv p1), (iv p2), (sv t.2.1 t.1.1 t.2.2)] 25 (0, 0)), rowO 3 encInt t.2.1 t.2.2 t.1.1, blk g88 (.cells #[(iv t.1.2.e0), (iv t.1.2.e1), (iv t.1.2.e2), (iv t.1.2.e3), (iv t.1.2.e4), (iv t.1.2.e5), (iv t.1.2.e6), (iv t.1.2.e7)] 72 (0, 0))] ∧ x110 = t.1) (fun Kx110 => ?_) ?_
       ·
        refine WC.block ?_
        refine WC.loop (T := Int) (fun t => [(6, (pt g9)), (8, (sv A17 t12 c18)), (10, (pt g25)), (13, (sv A49 x52.2 c50)), (15, (pt g88)), (16, (iv x97)), (74, (sv A17 t12 c18)), (75, (iv (t12.length : Int))), (76, (iv t))]) (fun n t w1 => St NoS w w1 [knestO (aggI ints_A8_Int) vB K48 x52.1, rowR (encMap A8_Int Bool) A49 c50 (tag H51 x52.2), mapsO (aggI ints_A8_Int) vB H51 x52.2, mapsO (aggI ints_A8_Int) vB ((mget ((rdD t12 x32 z_Row).South) zHM K31).1.2.2) (mget ((rdD t12 x32 z_Row).South) [] l30), rowR (encMap A8_Int Bool) ((mget ((rdD t12 x32 z_Row).South) zHM K31).1.1) ((mget ((rdD t12 x32 z_Row).South) zHM K31).1.2.1) (tag ((mget ((rdD t12 x32 z_Row).South) zHM K31).1.2.2) (mget ((rdD t12 x32 z_Row).South) [] l30)), knestO (aggI ints_A8_Int) vB K31 l30, knestO (aggI ints_A8_Int) vB ([] : List (A8_Int × (HM × List (Option (List (A8_Int × Bool)))))) ([] : List (A8_Int × List (Option (List (A8_Int × Bool))))), rowR enc_Tile Aa ca p0] [blk g9 (.cells #[(iv 0), (iv 0), (.slice none 0 0)] 25 (0, 0)), rowO 74 encN_Row A17 c18 (tag H19 t12), poolO [nestO subN_Row H19 t12], blk g25 (.cells #[(iv p1), (iv p2), (sv A93 l95 c94)] 25 (0, 0)), rowO 3 encInt A93 c94 l95, blk g88 (.cells #[(iv a96.e0), (iv a96.e1), (iv a96.e2), (iv a96.e3), (iv a96.e4), (iv a96.e5), (iv a96.e6), (iv a96.e7)] 72 (0, 0))] ∧ torus_find.l2 n t t12 x52 l95 a96 x97 = some x110) k102 0 [6, 8, 10, 13, 15, 16, 74, 75, 76] rfl ⟨(hS104.subR [0, 1, 2, 3, 4, 5, 6, 7]).sub [0, 1, 2, 3, 4, 5] (by decide), hx111⟩ ?_
        rintro k112 x107 w113 ⟨hS114, hl115⟩
        cases k112 with
        | zero => rw [torus_find.l2] at hl115; cases hl115
        | succ k112 =>
         rw [torus_find.l2] at hl115
         refine WC.seq (WC.region ?_)
         refine seg 1 [] [6, 8, 10, 13, 15, 16, 74, 75, 76, 77] [(6, (pt g9)), (8, (sv A17 t12 c18)), (10, (pt g25)), (13, (sv A49 x52.2 c50)), (15, (pt g88)), (16, (iv x97)), (74, (sv A17 t12 c18)), (75, (iv (t12.length : Int))), (76, (iv x107)), (77, (bv (decide (x107 < (t12.length : Int)))))] [] (fun fb => by kernel_rfl) rfl trivial ?_
         refine WL.done rfl (WX.next (WC.seq ?_))
         rcases br_some hl115 with ⟨h116, hl115⟩ | ⟨h116, hl115⟩
         ·refine WC.condT2 (fun fb => by kernel_rfl) h116 ?_
          refine WC.skip (WX.next (WC.seq (WC.block (WC.seq (WC.region ?_)))))
          obtain ⟨h117, hl115⟩ := as_some hl115
          refine seg 2 [.v (sv ((H19 x107.toNat 0).1) ((rdD t12 x107 z_Row).Cells) ((H19 x107.toNat 0).2)), .v (iv (((rdD t12 x107 z_Row).South).e0)), .v (iv (((rdD t12 x107 z_Row).South).e1)), .v (iv (((rdD t12 x107 z_Row).South).e2)), .v (iv (((rdD t12 x107 z_Row).South).e3)), .v (iv (((rdD t12 x107 z_Row).South).e4)), .v (iv (((rdD t12 x107 z_Row).South).e5)), .v (iv (((rdD t12 x107 z_Row).South).e6)), .v (iv (((rdD t12 x107 z_Row).South).e7)), .v (iv (((rdD t12 x107 z_Row).North).e0)), .v (iv (((rdD t12 x107 z_Row).North).e1)), .v (iv (((rdD t12 x107 z_Row).North).e2)), .v (iv (((rdD t12 x107 z_Row).North).e3)), .v (iv (((rdD t12 x107 z_Row).North).e4)), .v (iv (((rdD t12 x107 z_Row).North).e5)), .v (iv (((rdD t12 x107 z_Row).North).e6)), .v (iv (((rdD t12 x107 z_Row).North).e7)), .v (iv ((rdD t12 x107 z_Row).West)), .v (iv ((rdD t12 x107 z_Row).East))] [6, 8, 10, 13, 15, 16, 74, 75, 76, 79] [(6, (pt g9)), (8, (sv A17 t12 c18)), (10, (pt g25)), (13, (sv A49 x52.2 c50)), (15, (pt g88)), (16, (iv x97)), (74, (sv A17 t12 c18)), (75, (iv (t12.length : Int))), (76, (iv x107)), (79, (.agg #[(sv ((H19 x107.toNat 0).1) ((rdD t12 x107 z_Row).Cells) ((H19 x107.toNat 0).2)), (iv (((rdD t12 x107 z_Row).South).e0)), (iv (((rdD t12 x107 z_Row).South).e1)), (iv (((rdD t12 x107 z_Row).South).e2)), (iv (((rdD t12 x107 z_Row).South).e3)), (iv (((rdD t12 x107 z_Row).South).e4)), (iv (((rdD t12 x107 z_Row).South).e5)), (iv (((rdD t12 x107 z_Row).South).e6)), (iv (((rdD t12 x107 z_Row).South).e7)), (iv (((rdD t12 x107 z_Row).North).e0)), (iv (((rdD t12 x107 z_Row).North).e1)), (iv (((rdD t12 x107 z_Row).North).e2)), (iv (((rdD t12 x107 z_Row).North).e3)), (iv (((rdD t12 x107 z_Row).North).e4)), (iv (((rdD t12 x107 z_Row).North).e5)), (iv (((rdD t12 x107 z_Row).North).e6)), (iv (((rdD t12 x107 z_Row).North).e7)), (iv ((rdD t12 x107 z_Row).West)), (iv ((rdD t12 x107 z_Row).East))]))] [.idx A17 x107 t12.length, .cell ((adr A17).add ((x107).toNat * 19)) (sv ((H19 x107.toNat 0).1) ((rdD t12 x107 z_Row).Cells) ((H19 x107.toNat 0).2)), .cell (((adr A17).add ((x107).toNat * 19)).add 1) (iv (((rdD t12 x107 z_Row).South).e0)), .cell (((adr A17).add ((x107).toNat * 19)).add 2) (iv (((rdD t12 x107 z_Row).South).e1)), .cell (((adr A17).add ((x107).toNat * 19)).add 3) (iv (((rdD t12 x107 z_Row).South).e2)), .cell (((adr A17).add ((x107).toNat * 19)).add 4) (iv (((rdD t12 x107 z_Row).South).e3)), .cell (((adr A17).add ((x107).toNat * 19)).add 5) (iv (((rdD t12 x107 z_Row).South).e4)), .cell (((adr A17).add ((x107).toNat * 19)).add 6) (iv (((rdD t12 x107 z_Row).South).e5)), .cell (((adr A17).add ((x107).toNat * 19)).add 7) (iv (((rdD t12 x107 z_Row).South).e6)), .cell (((adr A17).add ((x107).toNat * 19)).add 8) (iv (((rdD t12 x107 z_Row).South).e7)), .cell (((adr A17).add ((x107).toNat * 19)).add 9) (iv (((rdD t12 x107 z_Row).North).e0)), .cell (((adr A17).add ((x107).toNat * 19)).add 10) (iv (((rdD t12 x107 z_Row).North).e1)), .cell (((adr A17).add ((x107).toNat * 19)).add 11) (iv (((rdD t12 x107 z_Row).North).e2)), .cell (((adr A17).add ((x107).toNat * 19)).add 12) (iv (((rdD t12 x107 z_Row).North).e3)), .cell (((adr A17).add ((x107).toNat * 19)).add 13) (iv (((rdD t12 x107 z_Row).North).e4)), .cell (((adr A17).add ((x107).toNat * 19)).add 14) (iv (((rdD t12 x107 z_Row).North).e5)), .cell (((adr A17).add ((x107).toNat * 19)).add 15) (iv (((rdD t12 x107 z_Row).North).e6)), .cell (((adr A17).add ((x107).toNat * 19)).add 16) (iv (((rdD t12 x107 z_Row).North).e7)), .cell (((adr A17).add ((x107).toNat * 19)).add 17) (iv ((rdD t12 x107 z_Row).West)), .cell (((adr A17).add ((x107).toNat * 19)).add 18) (iv ((rdD t12 x107 z_Row).East))] (fun fb => by kernel_rfl) rfl ⟨nrow_adr (rowO.rd (hS114.own 1).1) h117.1 h117.2, nrow_cell (rowO.rd (hS114.own 1).1) z_Row h117.1 h117.2 0 rfl, nrow_cell (rowO.rd (hS114.own 1).1) z_Row h117.1 h117.2 1 rfl, nrow_cell (rowO.rd (hS114.own 1).1) z_Row h117.1 h117.2 2 rfl, nrow_cell (rowO.rd (hS114.own 1).1) z_Row h117.1 h117.2 3 rfl, nrow_cell (rowO.rd (hS114.own 1).1) z_Row h117.1 h117.2 4 rfl, nrow_cell (rowO.rd (hS114.own 1).1) z_Row h117.1 h117.2 5 rfl, nrow_cell (rowO.rd (hS114.own 1).1) z_Row h117.1 h117.2 6 rfl, nrow_cell (rowO.rd (hS114.own 1).1) z_Row h117.1 h117.2 7 rfl, nrow_cell (rowO.rd (hS114.own 1).1) z_Row h117.1 h117.2 8 rfl, nrow_cell (rowO.rd (hS114.own 1).1) z_Row h117.1 h117.2 9 rfl, nrow_cell (rowO.rd (hS114.own 1).1) z_Row h117.1 h117.2 10 rfl, nrow_cell (rowO.rd (hS114.own 1).1) z_Row h117.1 h117.2 11 rfl, nrow_cell (rowO.rd (hS114.own 1).1) z_Row h117.1 h117.2 12 rfl, nrow_cell (rowO.rd (hS114.own 1).1) z_Row h117.1 h117.2 13 rfl, nrow_cell (rowO.rd (hS114.own 1).1) z_Row h117.1 h117.2 14 rfl, nrow_cell (rowO.rd (hS114.own 1).1) z_Row h117.1 h117.2 15 rfl, nrow_cell (rowO.rd (hS114.own 1).1) z_Row h117.1 h117.2 16 rfl, nrow_cell (rowO.rd (hS114.own 1).1) z_Row h117.1 h117.2 17 rfl, nrow_cell (rowO.rd (hS114.own 1).1) z_Row h117.1 h117.2 18 rfl, trivial⟩ ?_
          refine WL.new hS114 18 [] (fun g => (pt g)) (.cells #[(.slice none 0 0), (iv 0), (iv 0), (iv 0), (iv 0), (iv 0), (iv 0), (iv 0), (iv 0), (iv 0), (iv 0), (iv 0), (iv 0), (iv 0), (iv 0), (iv 0), (iv 0), (iv 0), (iv 0)] 74 (0, 0)) [] (fun fb g => by kernel_rfl) trivial (fun g118 w119 hS120 => ?_)
          refine ⟨trivial, ?_⟩
          refine WL.store hS120 0 rfl [(0, (sv ((H19 x107.toNat 0).1) ((rdD t12 x107 z_Row).Cells) ((H19 x107.toNat 0).2))), (1, (iv (((rdD t12 x107 z_Row).South).e0))), (2, (iv (((rdD t12 x107 z_Row).South).e1))), (3, (iv (((rdD t12 x107 z_Row).South).e2))), (4, (iv (((rdD t12 x107 z_Row).South).e3))), (5, (iv (((rdD t12 x107 z_Row).South).e4))), (6, (iv (((rdD t12 x107 z_Row).South).e5))), (7, (iv (((rdD t12 x107 z_Row).South).e6))), (8, (iv (((rdD t12 x107 z_Row).South).e7))), (9, (iv (((rdD t12 x107 z_Row).North).e0))), (10, (iv (((rdD t12 x107 z_Row).North).e1))), (11, (iv (((rdD t12 x107 z_Row).North).e2))), (12, (iv (((rdD t12 x107 z_Row).North).e3))), (13, (iv (((rdD t12 x107 z_Row).North).e4))), (14, (iv (((rdD t12 x107 z_Row).North).e5))), (15, (iv (((rdD t12 x107 z_Row).North).e6))), (16, (iv (((rdD t12 x107 z_Row).North).e7))), (17, (iv ((rdD t12 x107 z_Row).West))), (18, (iv ((rdD t12 x107 z_Row).East)))] #[(sv ((H19 x107.toNat 0).1) ((rdD t12 x107 z_Row).Cells) ((H19 x107.toNat 0).2)), (iv (((rdD t12 x107 z_Row).South).e0)), (iv (((rdD t12 x107 z_Row).South).e1)), (iv (((rdD t12 x107 z_Row).South).e2)), (iv (((rdD t12 x107 z_Row).South).e3)), (iv (((rdD t12 x107 z_Row).South).e4)), (iv (((rdD t12 x107 z_Row).South).e5)), (iv (((rdD t12 x107 z_Row).South).e6)), (iv (((rdD t12 x107 z_Row).South).e7)), (iv (((rdD t12 x107 z_Row).North).e0)), (iv (((rdD t12 x107 z_Row).North).e1)), (iv (((rdD t12 x107 z_Row).North).e2)), (iv (((rdD t12 x107 z_Row).North).e3)), (iv (((rdD t12 x107 z_Row).North).e4)), (iv (((rdD t12 x107 z_Row).North).e5)), (iv (((rdD t12 x107 z_Row).North).e6)), (iv (((rdD t12 x107 z_Row).North).e7)), (iv ((rdD t12 x107 z_Row).West)), (iv ((rdD t12 x107 z_Row).East))] (fun fb => by kernel_rfl) (by kernel_rfl) (by kernel_rfl) [1, 2, 3, 4, 5, 6] (by decide) (by decide) (fun w121 hS122 => ?_)
          refine ⟨trivial, ?_⟩
          refine WL.done rfl (WX.next (WC.seq ?_))
          obtain ⟨x123, hx124, hl115⟩ := bind_some hl115
          refine WC.cutN (T := Bool) (fun t => [(6, (pt g9)), (8, (sv A17 t12 c18)), (10, (pt g25)), (13, (sv A49 x52.2 c50)), (15, (pt g88)), (16, (iv x97)), (18, (pt g118)), (74, (sv A17 t12 c18)), (75, (iv (t12.length : Int))), (76, (iv x107)), (92, (bv t))]) (fun t w1 => St NoS w w1 [knestO (aggI ints_A8_Int) vB K48 x52.1, rowR (encMap A8_Int Bool) A49 c50 (tag H51 x52.2), mapsO (aggI ints_A8_Int) vB H51 x52.2, mapsO (aggI ints_A8_Int) vB ((mget ((rdD t12 x32 z_Row).South) zHM K31).1.2.2) (mget ((rdD t12 x32 z_Row).South) [] l30), rowR (encMap A8_Int Bool) ((mget ((rdD t12 x32 z_Row).South) zHM K31).1.1) ((mget ((rdD t12 x32 z_Row).South) zHM K31).1.2.1) (tag ((mget ((rdD t12 x32 z_Row).South) zHM K31).1.2.2) (mget ((rdD t12 x32 z_Row).South) [] l30)), knestO (aggI ints_A8_Int) vB K31 l30, knestO (aggI ints_A8_Int) vB ([] : List (A8_Int × (HM × List (Option (List (A8_Int × Bool)))))) ([] : List (A8_Int × List (Option (List (A8_Int × Bool))))), rowR enc_Tile Aa ca p0] [blk g9 (.cells #[(iv 0), (iv 0), (.slice none 0 0)] 25 (0, 0)), rowO 74 encN_Row A17 c18 (tag H19 t12), poolO [nestO subN_Row H19 t12], blk g25 (.cells #[(iv p1), (iv p2), (sv A93 l95 c94)] 25 (0, 0)), rowO 3 encInt A93 c94 l95, blk g88 (.cells #[(iv a96.e0), (iv a96.e1), (iv a96.e2), (iv a96.e3), (iv a96.e4), (iv a96.e5), (iv a96.e6), (iv a96.e7)] 72 (0, 0)), blk g118 (.cells #[(sv ((H19 x107.toNat 0).1) ((rdD t12 x107 z_Row).Cells) ((H19 x107.toNat 0).2)), (iv (((rdD t12 x107 z_Row).South).e0)), (iv (((rdD t12 x107 z_Row).South).e1)), (iv (((rdD t12 x107 z_Row).South).e2)), (iv (((rdD t12 x107 z_Row).South).e3)), (iv (((rdD t12 x107 z_Row).South).e4)), (iv (((rdD t12 x107 z_Row).South).e5)), (iv (((rdD t12 x107 z_Row).South).e6)), (iv (((rdD t12 x107 z_Row).South).e7)), (iv (((rdD t12 x107 z_Row).North).e0)), (iv (((rdD t12 x107 z_Row).North).e1)), (iv (((rdD t12 x107 z_Row).North).e2)), (iv (((rdD t12 x107 z_Row).North).e3)), (iv (((rdD t12 x107 z_Row).North).e4)), (iv (((rdD t12 x107 z_Row).North).e5)), (iv (((rdD t12 x107 z_Row).North).e6)), (iv (((rdD t12 x107 z_Row).North).e7)), (iv ((rdD t12 x107 z_Row).West)), (iv ((rdD t12 x107 z_Row).East))] 74 (0, 0))] ∧ x123 = t) (fun Kx123 => ?_) ?_
          ·
           rcases br_some hx124 with ⟨h125, hx124⟩ | ⟨h125, hx124⟩
           ·
            obtain ⟨h128, hx124⟩ := as_some hx124
            obtain ⟨m129, hm130, hx124⟩ := bind_some hx124
            refine WC.regionD ([(1, ⟨g118, 1, none⟩, (iv (((rdD t12 x107 z_Row).South).e0))), (1, ⟨g118, 2, none⟩, (iv (((rdD t12 x107 z_Row).South).e1))), (1, ⟨g118, 3, none⟩, (iv (((rdD t12 x107 z_Row).South).e2))), (1, ⟨g118, 4, none⟩, (iv (((rdD t12 x107 z_Row).South).e3))), (1, ⟨g118, 5, none⟩, (iv (((rdD t12 x107 z_Row).South).e4))), (1, ⟨g118, 6, none⟩, (iv (((rdD t12 x107 z_Row).South).e5))), (1, ⟨g118, 7, none⟩, (iv (((rdD t12 x107 z_Row).South).e6))), (1, ⟨g118, 8, none⟩, (iv (((rdD t12 x107 z_Row).South).e7))), (2, ⟨g88, 0, none⟩, (iv a96.e0)), (2, ⟨g88, 1, none⟩, (iv a96.e1)), (2, ⟨g88, 2, none⟩, (iv a96.e2)), (2, ⟨g88, 3, none⟩, (iv a96.e3)), (2, ⟨g88, 4, none⟩, (iv a96.e4)), (2, ⟨g88, 5, none⟩, (iv a96.e5)), (2, ⟨g88, 6, none⟩, (iv a96.e6)), (2, ⟨g88, 7, none⟩, (iv a96.e7)), (8, ((adr A49).add ((x97).toNat * 1)), (.map (some (H51 x97.toNat)))), (10, ⟨g118, 9, none⟩, (iv (((rdD t12 x107 z_Row).North).e0))), (10, ⟨g118, 10, none⟩, (iv (((rdD t12 x107 z_Row).North).e1))), (10, ⟨g118, 11, none⟩, (iv (((rdD t12 x107 z_Row).North).e2))), (10, ⟨g118, 12, none⟩, (iv (((rdD t12 x107 z_Row).North).e3))), (10, ⟨g118, 13, none⟩, (iv (((rdD t12 x107 z_Row).North).e4))), (10, ⟨g118, 14, none⟩, (iv (((rdD t12 x107 z_Row).North).e5))), (10, ⟨g118, 15, none⟩, (iv (((rdD t12 x107 z_Row).North).e6))), (10, ⟨g118, 16, none⟩, (iv (((rdD t12 x107 z_Row).North).e7)))], [0, 1, 2, 3, 4, 5, 6, 7, 8, 9, 10, 12], [[], [0], [], [0, 1, 2], [0, 1, 2, 3], [0, 1, 2, 3, 4], [0, 1, 2, 3, 4], [0, 1, 2, 3, 4, 5, 6], [0, 1, 2, 3, 4, 5, 6, 7], [0, 1, 2, 3, 4], [0, 1, 2, 3, 4, 9], [0, 1, 2, 3, 4, 5, 6, 7, 8, 9, 10], [0, 1, 2, 3, 4, 5, 6, 7, 8, 9, 10, 11]]) [[0, 1, 2, 3, 4, 5, 6, 7, 8, 9, 10, 11, 12]] (by kernel_rfl) (by kernel_rfl) (NoPanic.seq (NoPanic.block (NoPanic.seq (NoPanic.seq (NoPanic.block (NoPanic.scope (NoPanic.block (NoPanic.seq (NoPanic.seq (NoPanic.block (NoPanic.seq (NoPanic.block (NoPanic.seq (NoPanic.seq (NoPanic.block (NoPanic.seq (NoPanic.scope (NoPanic.body)))))))))))))))))) ?_
            have hS127 := hS122.drew
            revert hS127
            generalize World.drew w121 = w126
            intro hS127
            refine ⟨⟨hS127.cell 0 rfl 1 rfl, hS127.cell 0 rfl 2 rfl, hS127.cell 0 rfl 3 rfl, hS127.cell 0 rfl 4 rfl, hS127.cell 0 rfl 5 rfl, hS127.cell 0 rfl 6 rfl, hS127.cell 0 rfl 7 rfl, hS127.cell 0 rfl 8 rfl, hS127.cell 6 rfl 0 rfl, hS127.cell 6 rfl 1 rfl, hS127.cell 6 rfl 2 rfl, hS127.cell 6 rfl 3 rfl, hS127.cell 6 rfl 4 rfl, hS127.cell 6 rfl 5 rfl, hS127.cell 6 rfl 6 rfl, hS127.cell 6 rfl 7 rfl, nrow_cell (hS127.rd 1).1 none h128.1 h128.2 0 (mapV_some hm130), hS127.cell 0 rfl 9 rfl, hS127.cell 0 rfl 10 rfl, hS127.cell 0 rfl 11 rfl, hS127.cell 0 rfl 12 rfl, hS127.cell 0 rfl 13 rfl, hS127.cell 0 rfl 14 rfl, hS127.cell 0 rfl 15 rfl, hS127.cell 0 rfl 16 rfl, trivial⟩, forallC ?_ (forallN)⟩
            refine segF 5 [.v (iv (((rdD t12 x107 z_Row).South).e0)), .v (iv (((rdD t12 x107 z_Row).South).e1)), .v (iv (((rdD t12 x107 z_Row).South).e2)), .v (iv (((rdD t12 x107 z_Row).South).e3)), .v (iv (((rdD t12 x107 z_Row).South).e4)), .v (iv (((rdD t12 x107 z_Row).South).e5)), .v (iv (((rdD t12 x107 z_Row).South).e6)), .v (iv (((rdD t12 x107 z_Row).South).e7)), .v (iv a96.e0), .v (iv a96.e1), .v (iv a96.e2), .v (iv a96.e3), .v (iv a96.e4), .v (iv a96.e5), .v (iv a96.e6), .v (iv a96.e7)] [6, 8, 10, 13, 15, 16, 18, 74, 75, 76, 84] [(6, (pt g9)), (8, (sv A17 t12 c18)), (10, (pt g25)), (13, (sv A49 x52.2 c50)), (15, (pt g88)), (16, (iv x97)), (18, (pt g118)), (74, (sv A17 t12 c18)), (75, (iv (t12.length : Int))), (76, (iv x107)), (84, (bv ((((rdD t12 x107 z_Row).South).e0) == a96.e0 && ((((rdD t12 x107 z_Row).South).e1) == a96.e1 && ((((rdD t12 x107 z_Row).South).e2) == a96.e2 && ((((rdD t12 x107 z_Row).South).e3) == a96.e3 && ((((rdD t12 x107 z_Row).South).e4) == a96.e4 && ((((rdD t12 x107 z_Row).South).e5) == a96.e5 && ((((rdD t12 x107 z_Row).South).e6) == a96.e6 && ((((rdD t12 x107 z_Row).South).e7) == a96.e7))))))))))] [] [0, 1, 2, 3, 4, 5, 6, 7, 8, 9, 10, 11, 12, 13, 14, 15] [(1, ⟨g118, 1, none⟩, (iv (((rdD t12 x107 z_Row).South).e0))), (1, ⟨g118, 2, none⟩, (iv (((rdD t12 x107 z_Row).South).e1))), (1, ⟨g118, 3, none⟩, (iv (((rdD t12 x107 z_Row).South).e2))), (1, ⟨g118, 4, none⟩, (iv (((rdD t12 x107 z_Row).South).e3))), (1, ⟨g118, 5, none⟩, (iv (((rdD t12 x107 z_Row).South).e4))), (1, ⟨g118, 6, none⟩, (iv (((rdD t12 x107 z_Row).South).e5))), (1, ⟨g118, 7, none⟩, (iv (((rdD t12 x107 z_Row).South).e6))), (1, ⟨g118, 8, none⟩, (iv (((rdD t12 x107 z_Row).South).e7))), (2, ⟨g88, 0, none⟩, (iv a96.e0)), (2, ⟨g88, 1, none⟩, (iv a96.e1)), (2, ⟨g88, 2, none⟩, (iv a96.e2)), (2, ⟨g88, 3, none⟩, (iv a96.e3)), (2, ⟨g88, 4, none⟩, (iv a96.e4)), (2, ⟨g88, 5, none⟩, (iv a96.e5)), (2, ⟨g88, 6, none⟩, (iv a96.e6)), (2, ⟨g88, 7, none⟩, (iv a96.e7))] (fun fb => by kernel_rfl) rfl trivial rfl ?_
            refine WL.setB 84 h125 rfl ?_
            refine segF 11 [.v (.map (some (H51 x97.toNat))), .v (iv (((rdD t12 x107 z_Row).North).e0)), .v (iv (((rdD t12 x107 z_Row).North).e1)), .v (iv (((rdD t12 x107 z_Row).North).e2)), .v (iv (((rdD t12 x107 z_Row).North).e3)), .v (iv (((rdD t12 x107 z_Row).North).e4)), .v (iv (((rdD t12 x107 z_Row).North).e5)), .v (iv (((rdD t12 x107 z_Row).North).e6)), .v (iv (((rdD t12 x107 z_Row).North).e7))] [6, 8, 10, 13, 15, 16, 18, 74, 75, 76, 84, 88, 90] [(6, (pt g9)), (8, (sv A17 t12 c18)), (10, (pt g25)), (13, (sv A49 x52.2 c50)), (15, (pt g88)), (16, (iv x97)), (18, (pt g118)), (74, (sv A17 t12 c18)), (75, (iv (t12.length : Int))), (76, (iv x107)), (84, (bv true)), (88, (.map (some (H51 x97.toNat)))), (90, (.agg #[(iv (((rdD t12 x107 z_Row).North).e0)), (iv (((rdD t12 x107 z_Row).North).e1)), (iv (((rdD t12 x107 z_Row).North).e2)), (iv (((rdD t12 x107 z_Row).North).e3)), (iv (((rdD t12 x107 z_Row).North).e4)), (iv (((rdD t12 x107 z_Row).North).e5)), (iv (((rdD t12 x107 z_Row).North).e6)), (iv (((rdD t12 x107 z_Row).North).e7))]))] [.idx A49 x97 x52.2.length] [16, 17, 18, 19, 20, 21, 22, 23, 24] [(8, ((adr A49).add ((x97).toNat * 1)), (.map (some (H51 x97.toNat)))), (10, ⟨g118, 9, none⟩, (iv (((rdD t12 x107 z_Row).North).e0))), (10, ⟨g118, 10, none⟩, (iv (((rdD t12 x107 z_Row).North).e1))), (10, ⟨g118, 11, none⟩, (iv (((rdD t12 x107 z_Row).North).e2))), (10, ⟨g118, 12, none⟩, (iv (((rdD t12 x107 z_Row).North).e3))), (10, ⟨g118, 13, none⟩, (iv (((rdD t12 x107 z_Row).North).e4))), (10, ⟨g118, 14, none⟩, (iv (((rdD t12 x107 z_Row).North).e5))), (10, ⟨g118, 15, none⟩, (iv (((rdD t12 x107 z_Row).North).e6))), (10, ⟨g118, 16, none⟩, (iv (((rdD t12 x107 z_Row).North).e7)))] (fun fb => by kernel_rfl) rfl ⟨nrow_adr (hS127.rd 1).1 h128.1 h128.2, trivial⟩ rfl ?_
            refine WL.lookup (mapsO.at (hS127.rd 2).1 h128.1 h128.2 hm130) ((rdD t12 x107 z_Row).North) (d := 91) (c := false) (t := 78) (kT := 72) (eT := 4) (z := false) (kE := (aggI ints_A8_Int)) (vE := vB) (l := m129) (bv (mget ((rdD t12 x107 z_Row).North) false m129)) (fun fb => by kernel_rfl) torus_find_key72 (by kernel_rfl) (fun _ => by kernel_rfl) rfl ?_
            refine ⟨trivial, ?_⟩
            refine seg 13 [] [6, 8, 10, 13, 15, 16, 18, 74, 75, 76, 92] [(6, (pt g9)), (8, (sv A17 t12 c18)), (10, (pt g25)), (13, (sv A49 x52.2 c50)), (15, (pt g88)), (16, (iv x97)), (18, (pt g118)), (74, (sv A17 t12 c18)), (75, (iv (t12.length : Int))), (76, (iv x107)), (92, (bv (mget ((rdD t12 x107 z_Row).North) false m129)))] [] (fun fb => by kernel_rfl) rfl trivial ?_
            refine WL.done rfl ?_
            injection hx124 with hx124
            exact WX.to Kx123 (mget ((rdD t12 x107 z_Row).North) false m129) [6, 8, 10, 13, 15, 16, 18, 74, 75, 76, 92] rfl ⟨(hS127.subR [0, 1, 2, 3, 4, 5, 6, 7]).sub [1, 2, 3, 4, 5, 6, 0] (by decide), hx124.symm⟩
           refine WC.regionD ([(1, ⟨g118, 1, none⟩, (iv (((rdD t12 x107 z_Row).South).e0))), (1, ⟨g118, 2, none⟩, (iv (((rdD t12 x107 z_Row).South).e1))), (1, ⟨g118, 3, none⟩, (iv (((rdD t12 x107 z_Row).South).e2))), (1, ⟨g118, 4, none⟩, (iv (((rdD t12 x107 z_Row).South).e3))), (1, ⟨g118, 5, none⟩, (iv (((rdD t12 x107 z_Row).South).e4))), (1, ⟨g118, 6, none⟩, (iv (((rdD t12 x107 z_Row).South).e5))), (1, ⟨g118, 7, none⟩, (iv (((rdD t12 x107 z_Row).South).e6))), (1, ⟨g118, 8, none⟩, (iv (((rdD t12 x107 z_Row).South).e7))), (2, ⟨g88, 0, none⟩, (iv a96.e0)), (2, ⟨g88, 1, none⟩, (iv a96.e1)), (2, ⟨g88, 2, none⟩, (iv a96.e2)), (2, ⟨g88, 3, none⟩, (iv a96.e3)), (2, ⟨g88, 4, none⟩, (iv a96.e4)), (2, ⟨g88, 5, none⟩, (iv a96.e5)), (2, ⟨g88, 6, none⟩, (iv a96.e6)), (2, ⟨g88, 7, none⟩, (iv a96.e7))], [0, 1, 2, 3, 4, 5, 6, 7, 8, 9, 10, 12], [[], [0], [], [0, 1, 2], [0, 1, 2, 3], [0, 1, 2, 3, 4], [0, 1, 2, 3, 4], [0, 1, 2, 3, 4, 5, 6], [0, 1, 2, 3, 4, 5, 6, 7], [0, 1, 2, 3, 4], [0, 1, 2, 3, 4, 9], [0, 1, 2, 3, 4, 5, 6, 7, 8, 9, 10], [0, 1, 2, 3, 4, 5, 6, 7, 8, 9, 10, 11]]) [[0, 1, 2, 3, 4, 5, 6, 7, 8, 9, 10, 11, 12]] (by kernel_rfl) (by kernel_rfl) (NoPanic.seq (NoPanic.block (NoPanic.seq (NoPanic.seq (NoPanic.block (NoPanic.scope (NoPanic.block (NoPanic.seq (NoPanic.seq (NoPanic.block (NoPanic.seq (NoPanic.block (NoPanic.seq (NoPanic.seq (NoPanic.block (NoPanic.seq (NoPanic.scope (NoPanic.body)))))))))))))))))) ?_
           have hS132 := hS122.drew
           revert hS132
           generalize World.drew w121 = w131
           intro hS132
           refine ⟨⟨hS132.cell 0 rfl 1 rfl, hS132.cell 0 rfl 2 rfl, hS132.cell 0 rfl 3 rfl, hS132.cell 0 rfl 4 rfl, hS132.cell 0 rfl 5 rfl, hS132.cell 0 rfl 6 rfl, hS132.cell 0 rfl 7 rfl, hS132.cell 0 rfl 8 rfl, hS132.cell 6 rfl 0 rfl, hS132.cell 6 rfl 1 rfl, hS132.cell 6 rfl 2 rfl, hS132.cell 6 rfl 3 rfl, hS132.cell 6 rfl 4 rfl, hS132.cell 6 rfl 5 rfl, hS132.cell 6 rfl 6 rfl, hS132.cell 6 rfl 7 rfl, trivial⟩, forallC ?_ (forallN)⟩
           refine segF 5 [.v (iv (((rdD t12 x107 z_Row).South).e0)), .v (iv (((rdD t12 x107 z_Row).South).e1)), .v (iv (((rdD t12 x107 z_Row).South).e2)), .v (iv (((rdD t12 x107 z_Row).South).e3)), .v (iv (((rdD t12 x107 z_Row).South).e4)), .v (iv (((rdD t12 x107 z_Row).South).e5)), .v (iv (((rdD t12 x107 z_Row).South).e6)), .v (iv (((rdD t12 x107 z_Row).South).e7)), .v (iv a96.e0), .v (iv a96.e1), .v (iv a96.e2), .v (iv a96.e3), .v (iv a96.e4), .v (iv a96.e5), .v (iv a96.e6), .v (iv a96.e7)] [6, 8, 10, 13, 15, 16, 18, 74, 75, 76, 84] [(6, (pt g9)), (8, (sv A17 t12 c18)), (10, (pt g25)), (13, (sv A49 x52.2 c50)), (15, (pt g88)), (16, (iv x97)), (18, (pt g118)), (74, (sv A17 t12 c18)), (75, (iv (t12.length : Int))), (76, (iv x107)), (84, (bv ((((rdD t12 x107 z_Row).South).e0) == a96.e0 && ((((rdD t12 x107 z_Row).South).e1) == a96.e1 && ((((rdD t12 x107 z_Row).South).e2) == a96.e2 && ((((rdD t12 x107 z_Row).South).e3) == a96.e3 && ((((rdD t12 x107 z_Row).South).e4) == a96.e4 && ((((rdD t12 x107 z_Row).South).e5) == a96.e5 && ((((rdD t12 x107 z_Row).South).e6) == a96.e6 && ((((rdD t12 x107 z_Row).South).e7) == a96.e7))))))))))] [] [0, 1, 2, 3, 4, 5, 6, 7, 8, 9, 10, 11, 12, 13, 14, 15] [(1, ⟨g118, 1, none⟩, (iv (((rdD t12 x107 z_Row).South).e0))), (1, ⟨g118, 2, none⟩, (iv (((rdD t12 x107 z_Row).South).e1))), (1, ⟨g118, 3, none⟩, (iv (((rdD t12 x107 z_Row).South).e2))), (1, ⟨g118, 4, none⟩, (iv (((rdD t12 x107 z_Row).South).e3))), (1, ⟨g118, 5, none⟩, (iv (((rdD t12 x107 z_Row).South).e4))), (1, ⟨g118, 6, none⟩, (iv (((rdD t12 x107 z_Row).South).e5))), (1, ⟨g118, 7, none⟩, (iv (((rdD t12 x107 z_Row).South).e6))), (1, ⟨g118, 8, none⟩, (iv (((rdD t12 x107 z_Row).South).e7))), (2, ⟨g88, 0, none⟩, (iv a96.e0)), (2, ⟨g88, 1, none⟩, (iv a96.e1)), (2, ⟨g88, 2, none⟩, (iv a96.e2)), (2, ⟨g88, 3, none⟩, (iv a96.e3)), (2, ⟨g88, 4, none⟩, (iv a96.e4)), (2, ⟨g88, 5, none⟩, (iv a96.e5)), (2, ⟨g88, 6, none⟩, (iv a96.e6)), (2, ⟨g88, 7, none⟩, (iv a96.e7))] (fun fb => by kernel_rfl) rfl trivial rfl ?_
           refine WL.setB 84 h125 rfl ?_
           refine seg 13 [] [6, 8, 10, 13, 15, 16, 18, 74, 75, 76, 92] [(6, (pt g9)), (8, (sv A17 t12 c18)), (10, (pt g25)), (13, (sv A49 x52.2 c50)), (15, (pt g88)), (16, (iv x97)), (18, (pt g118)), (74, (sv A17 t12 c18)), (75, (iv (t12.length : Int))), (76, (iv x107)), (92, (bv false))] [] (fun fb => by kernel_rfl) rfl trivial ?_
           refine WL.done rfl ?_
           injection hx124 with hx124
           exact WX.to Kx123 false [6, 8, 10, 13, 15, 16, 18, 74, 75, 76, 92] rfl ⟨(hS132.subR [0, 1, 2, 3, 4, 5, 6, 7]).sub [1, 2, 3, 4, 5, 6, 0] (by decide), hx124.symm⟩
          rintro y136 w133 ⟨hS134, hq135⟩
          subst hq135
          refine WX.next ?_
          rcases br_some hl115 with ⟨h137, hl115⟩ | ⟨h137, hl115⟩
          ·refine WC.condT2 (fun fb => by kernel_rfl) h137 ?_
           refine WC.seq (WC.region ?_)
           refine seg 4 [.v (sv A93 l95 c94), .v (sv ((H19 x107.toNat 0).1) ((rdD t12 x107 z_Row).Cells) ((H19 x107.toNat 0).2))] [6, 8, 10, 13, 15, 16, 18, 94, 96] [(6, (pt g9)), (8, (sv A17 t12 c18)), (10, (pt g25)), (13, (sv A49 x52.2 c50)), (15, (pt g88)), (16, (iv x97)), (18, (pt g118)), (94, (sv A93 l95 c94)), (96, (sv ((H19 x107.toNat 0).1) ((rdD t12 x107 z_Row).Cells) ((H19 x107.toNat 0).2)))] [.cell ⟨g25, 2, none⟩ (sv A93 l95 c94), .cell ⟨g118, 0, none⟩ (sv ((H19 x107.toNat 0).1) ((rdD t12 x107 z_Row).Cells) ((H19 x107.toNat 0).2))] (fun fb => by kernel_rfl) rfl ⟨hS134.cell 3 rfl 2 rfl, hS134.cell 6 rfl 0 rfl, trivial⟩ ?_
           obtain ⟨h138, hl115⟩ := as_some hl115
           refine WL.append hS134 4 (d := 97) (tS := 23) (z := (iv 0)) (bytes := 8) (c2 := (H19 x107.toNat 0).2) rfl (fun fb => by kernel_rfl) (nestO.at ((hS134.own 2).1 0) z_Row h117.1 h117.2) (by kernel_rfl) (by kernel_rfl) rfl (by decide) h138 (by decide) [0, 1, 2, 3, 5, 6] (by decide) (by decide) (fun A139 c140 w141 hS142 => ?_)
           refine ⟨trivial, ?_⟩
           refine seg 6 [] [6, 8, 10, 13, 15, 16, 18, 97, 98] [(6, (pt g9)), (8, (sv A17 t12 c18)), (10, (pt g25)), (13, (sv A49 x52.2 c50)), (15, (pt g88)), (16, (iv x97)), (18, (pt g118)), (97, (sv A139 (l95 ++ ((rdD t12 x107 z_Row).Cells)) c140)), (98, (.pointer (some ⟨g25, 2, none⟩)))] [] (fun fb => by kernel_rfl) rfl trivial ?_
           refine WL.store hS142 4 rfl [(2, (sv A139 (l95 ++ ((rdD t12 x107 z_Row).Cells)) c140))] #[(iv p1), (iv p2), (sv A139 (l95 ++ ((rdD t12 x107 z_Row).Cells)) c140)] (fun fb => by kernel_rfl) (by kernel_rfl) rfl [0, 1, 2, 3, 5, 6] (by decide) (by decide) (fun w143 hS144 => ?_)
           refine ⟨trivial, ?_⟩
           refine WL.done rfl (WX.next (WC.seq (WC.region ?_)))
           refine seg 2 [.v (iv (((rdD t12 x107 z_Row).North).e0)), .v (iv (((rdD t12 x107 z_Row).North).e1)), .v (iv (((rdD t12 x107 z_Row).North).e2)), .v (iv (((rdD t12 x107 z_Row).North).e3)), .v (iv (((rdD t12 x107 z_Row).North).e4)), .v (iv (((rdD t12 x107 z_Row).North).e5)), .v (iv (((rdD t12 x107 z_Row).North).e6)), .v (iv (((rdD t12 x107 z_Row).North).e7))] [6, 8, 10, 13, 15, 16, 100] [(6, (pt g9)), (8, (sv A17 t12 c18)), (10, (pt g25)), (13, (sv A49 x52.2 c50)), (15, (pt g88)), (16, (iv x97)), (100, (.agg #[(iv (((rdD t12 x107 z_Row).North).e0)), (iv (((rdD t12 x107 z_Row).North).e1)), (iv (((rdD t12 x107 z_Row).North).e2)), (iv (((rdD t12 x107 z_Row).North).e3)), (iv (((rdD t12 x107 z_Row).North).e4)), (iv (((rdD t12 x107 z_Row).North).e5)), (iv (((rdD t12 x107 z_Row).North).e6)), (iv (((rdD t12 x107 z_Row).North).e7))]))] [.cell ⟨g118, 9, none⟩ (iv (((rdD t12 x107 z_Row).North).e0)), .cell ⟨g118, 10, none⟩ (iv (((rdD t12 x107 z_Row).North).e1)), .cell ⟨g118, 11, none⟩ (iv (((rdD t12 x107 z_Row).North).e2)), .cell ⟨g118, 12, none⟩ (iv (((rdD t12 x107 z_Row).North).e3)), .cell ⟨g118, 13, none⟩ (iv (((rdD t12 x107 z_Row).North).e4)), .cell ⟨g118, 14, none⟩ (iv (((rdD t12 x107 z_Row).North).e5)), .cell ⟨g118, 15, none⟩ (iv (((rdD t12 x107 z_Row).North).e6)), .cell ⟨g118, 16, none⟩ (iv (((rdD t12 x107 z_Row).North).e7))] (fun fb => by kernel_rfl) rfl ⟨hS144.cell 6 rfl 9 rfl, hS144.cell 6 rfl 10 rfl, hS144.cell 6 rfl 11 rfl, hS144.cell 6 rfl 12 rfl, hS144.cell 6 rfl 13 rfl, hS144.cell 6 rfl 14 rfl, hS144.cell 6 rfl 15 rfl, hS144.cell 6 rfl 16 rfl, trivial⟩ ?_
           refine WL.store hS144 5 rfl [(0, (iv (((rdD t12 x107 z_Row).North).e0))), (1, (iv (((rdD t12 x107 z_Row).North).e1))), (2, (iv (((rdD t12 x107 z_Row).North).e2))), (3, (iv (((rdD t12 x107 z_Row).North).e3))), (4, (iv (((rdD t12 x107 z_Row).North).e4))), (5, (iv (((rdD t12 x107 z_Row).North).e5))), (6, (iv (((rdD t12 x107 z_Row).North).e6))), (7, (iv (((rdD t12 x107 z_Row).North).e7)))] #[(iv (((rdD t12 x107 z_Row).North).e0)), (iv (((rdD t12 x107 z_Row).North).e1)), (iv (((rdD t12 x107 z_Row).North).e2)), (iv (((rdD t12 x107 z_Row).North).e3)), (iv (((rdD t12 x107 z_Row).North).e4)), (iv (((rdD t12 x107 z_Row).North).e5)), (iv (((rdD t12 x107 z_Row).North).e6)), (iv (((rdD t12 x107 z_Row).North).e7))] (fun fb => by kernel_rfl) (by kernel_rfl) rfl [0, 1, 2, 3, 4, 6] (by decide) (by decide) (fun w145 hS146 => ?_)
           refine ⟨trivial, ?_⟩
           refine WL.done rfl (WX.next ?_)
           refine WC.exit ?_
           injection hl115 with hl115
           exact WX.blockPast (by decide) (WX.thenX (WX.thenX (WX.blockHere (WX.to Kx110 ((l95 ++ ((rdD t12 x107 z_Row).Cells), ((rdD t12 x107 z_Row).North)), A139, c140) [6, 8, 10, 13, 15, 16] rfl ⟨(hS146.subR [0, 1, 2, 3, 4, 5, 6, 7]).sub [3, 4, 5, 1, 2, 0] (by decide), hl115.symm⟩))))
          refine WC.condF2 (fun fb => by kernel_rfl) h137 ?_
          refine WC.skip ?_
          refine WX.blockN (WX.next ?_)
          refine WC.region ?_
          refine seg 2 [] [6, 8, 10, 13, 15, 16, 74, 75, 76] [(6, (pt g9)), (8, (sv A17 t12 c18)), (10, (pt g25)), (13, (sv A49 x52.2 c50)), (15, (pt g88)), (16, (iv x97)), (74, (sv A17 t12 c18)), (75, (iv (t12.length : Int))), (76, (iv (w64 (x107 + 1))))] [] (fun fb => by kernel_rfl) rfl trivial ?_
          refine WL.done rfl ?_
          exact WX.again k112 (Nat.lt_succ_self _) (w64 (x107 + 1)) [6, 8, 10, 13, 15, 16, 74, 75, 76] rfl ⟨(hS134.subR [0, 1, 2, 3, 4, 5, 6, 7]).sub [0, 1, 2, 3, 4, 5] (by decide), hl115⟩
         refine WC.condF2 (fun fb => by kernel_rfl) h116 ?_
         refine WC.exit ?_
         injection hl115 with hl115
         exact WX.thenX (WX.thenX (WX.blockHere (WX.to Kx110 ((l95, a96), A93, c94) [6, 8, 10, 13, 15, 16] rfl ⟨(hS114.subR [0, 1, 2, 3, 4, 5, 6, 7]).sub [0, 1, 2, 3, 4, 5] (by decide), hl115.symm⟩)))
       rintro ⟨y150, A108, c109⟩ w147 ⟨hS148, hq149⟩
       subst hq149
       refine WX.scopeN (WX.blockN (WX.next ?_))
       refine WC.region ?_
       refine seg 3 [] [6, 8, 10, 13, 15, 16] [(6, (pt g9)), (8, (sv A17 t12 c18)), (10, (pt g25)), (13, (sv A49 x52.2 c50)), (15, (pt g88)), (16, (iv (w64 (x97 - 1))))] [] (fun fb => by kernel_rfl) rfl trivial ?_
       refine WL.done rfl ?_
       exact WX.again k102 (Nat.lt_succ_self _) ((x110.1, x110.2, w64 (x97 - 1)), A108, c109) [6, 8, 10, 13, 15, 16] rfl ⟨(hS148.subR [0, 1, 2, 3, 4, 5, 6, 7]).sub [0, 1, 2, 3, 4, 5] (by decide), hl105⟩
      refine WC.condF2 (fun fb => by kernel_rfl) h106 ?_
      refine WC.exit ?_
      injection hl105 with hl105
      exact WX.thenX (WX.thenX (WX.blockHere (WX.to Kx100 (l95, A93, c94) [6, 10] rfl ⟨(hS104.subR [0, 1, 2, 3, 4, 5, 6, 7]).sub [0, 3, 4] (by decide), hl105.symm⟩)))
    rintro ⟨y154, A98, c99⟩ w151 ⟨hS152, hq153⟩
    subst hq153
    refine WX.next (WC.seq (WC.region ?_))
    refine seg 1 [.v (iv p1), .v (iv p2), .v (sv A98 x100 c99)] [6, 102] [(6, (pt g9)), (102, (.agg #[(iv p1), (iv p2), (sv A98 x100 c99)]))] [.cell ⟨g25, 0, none⟩ (iv p1), .cell ⟨g25, 1, none⟩ (iv p2), .cell ⟨g25, 2, none⟩ (sv A98 x100 c99)] (fun fb => by kernel_rfl) rfl ⟨hS152.cell 1 rfl 0 rfl, hS152.cell 1 rfl 1 rfl, hS152.cell 1 rfl 2 rfl, trivial⟩ ?_
    refine WL.store hS152 0 rfl [(0, (iv p1)), (1, (iv p2)), (2, (sv A98 x100 c99))] #[(iv p1), (iv p2), (sv A98 x100 c99)] (fun fb => by kernel_rfl) (by kernel_rfl) rfl [1, 2] (by decide) (by decide) (fun w155 hS156 => ?_)
    refine ⟨trivial, ?_⟩
    refine seg 3 [] [6, 7] [(6, (pt g9)), (7, (bv true))] [] (fun fb => by kernel_rfl) rfl trivial ?_
    refine WL.done rfl (WX.next ?_)
    refine WC.ret ?_
    injection hl38 with hl38
    subst hl38
    injection hf with hf
    subst hf
    exact WX.blockR (WX.thenR (WX.thenR (WX.blockR (WX.thenR (WX.scopeR (WX.ret_ [.v (iv p1), .v (iv p2), .v (sv A98 x100 c99)] (.tuple #[(.agg #[(iv p1), (iv p2), (sv A98 x100 c99)]), (bv true)]) [.cell ⟨g9, 0, none⟩ (iv p1), .cell ⟨g9, 1, none⟩ (iv p2), .cell ⟨g9, 2, none⟩ (sv A98 x100 c99)] (fun fb => by kernel_rfl) ⟨hS156.cell 0 rfl 0 rfl, hS156.cell 0 rfl 1 rfl, hS156.cell 0 rfl 2 rfl, trivial⟩ ⟨_, rfl, A98, c99, rfl, (hS156.sub [2] (by decide)).noR⟩))))))
   refine WC.condF2 (fun fb => by kernel_rfl) h39 ?_
   refine WC.exit ?_
   injection hl38 with hl38
   exact WX.thenX (WX.thenX (WX.blockHere (WX.to Kx33 () [6] rfl ⟨(hS37.subR [1, 2]).sub [0] (by decide), hl38.symm⟩)))
 rintro y160 w157 ⟨hS158, hq159⟩
 subst hq159
 have hf := sum_inr hf
 refine WX.next (WC.seq (WC.region ?_))
 refine seg 1 [] [6, 104] [(6, (pt g9)), (104, (.agg #[(iv 0), (iv 0), (.slice none 0 0)]))] [] (fun fb => by kernel_rfl) rfl trivial ?_
 refine WL.store hS158 0 rfl [(0, (iv 0)), (1, (iv 0)), (2, (.slice none 0 0))] #[(iv 0), (iv 0), (.slice none 0 0)] (fun fb => by kernel_rfl) (by kernel_rfl) rfl [] (by decide) (by decide) (fun w161 hS162 => ?_)
 refine ⟨trivial, ?_⟩
 refine seg 3 [] [6, 7] [(6, (pt g9)), (7, (bv false))] [] (fun fb => by kernel_rfl) rfl trivial ?_
 refine WL.done rfl (WX.next ?_)
 refine WC.ret ?_
 have hS163 := hS162.nilrow 3 encInt
 injection hf with hf
 subst hf
 exact WX.scopeR (WX.ret_ [.v (iv 0), .v (iv 0), .v (.slice none 0 0)] (.tuple #[(.agg #[(iv 0), (iv 0), (sv none ([] : List Int) 0)]), (bv false)]) [.cell ⟨g9, 0, none⟩ (iv 0), .cell ⟨g9, 1, none⟩ (iv 0), .cell ⟨g9, 2, none⟩ (.slice none 0 0)] (fun fb => by kernel_rfl) ⟨hS162.cell 0 rfl 0 rfl, hS162.cell 0 rfl 1 rfl, hS162.cell 0 rfl 2 rfl, trivial⟩ ⟨_, rfl, none, 0, rfl, (hS163.sub [0] (by decide)).noR⟩)
end Gp
