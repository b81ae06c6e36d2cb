/- Walks: each function of the program computes its plain function. -/
import Derived.Test.YtjfmjfheeijfiaaDoorGx2
set_option linter.unusedVariables false
set_option linter.unusedSimpArgs false
set_option maxHeartbeats 4000000
namespace Gp
open Go Gw Go.Proofs
theorem law05_awake_calls (k : Nat)  (mG : Int) (r : Bool) (w : World) (hR0 : RO NoS w (cel ⟨2, 0, none⟩ (iv mG))) (hf : law05_awake k = some r) :
  CallsR Tryd.prog 40 #[] w (fun v w' => v = (bv r) ∧ Keeps NoS w w') := by
 have hS : St NoS w w [cel ⟨2, 0, none⟩ (iv mG)] [] := St.init (ro_cons hR0 (ro_nil _ _))
 refine enter 72 Tryd.func40 rfl Tryd.ntmps40 rfl ?_
 unfold law05_awake at hf
 refine WC.seq ?_
 refine WC.region ?_
 refine seg 1 [] [] [] [] (fun fb => by kernel_rfl) rfl trivial ?_
 refine WL.done rfl ?_
 refine WX.next ?_
 refine WC.seq ?_
 refine WC.region ?_
 obtain ⟨t1, ht2, hf⟩ := bind_some hf
 refine WL.call (some 16) 49 #[(.string (⟨#[48, 46, 49, 46, 48, 46, 48]⟩ : ByteArray))] (fun fb => by kernel_rfl) (tile_Parse_calls _ (⟨#[48, 46, 49, 46, 48, 46, 48]⟩ : ByteArray) mG t1 _ (hS.rd 0) ht2) (fun v w3 hR4 => ?_)
 obtain ⟨A7, c8, rfl, hk_⟩ := hR4
 have hS6 : St NoS w w3 [cel ⟨2, 0, none⟩ (iv mG)] [rowO 40 enc_Tile A7 c8 t1.1] := hS.call hk_ [] [] (fun g hg => hg.elim) (by simp) (by decide)
 refine ⟨trivial, ?_⟩
 refine seg 6 [] [1] [(1, (sv A7 t1.1 c8))] [] (fun fb => by kernel_rfl) rfl trivial ?_
 refine WL.done rfl ?_
 refine WX.next ?_
 refine WC.seq ?_
 refine WC.region ?_
 obtain ⟨t9, ht10, hf⟩ := bind_some hf
 refine WL.call (some 20) 49 #[(.string (⟨#[48, 46, 48, 46, 49, 46, 48]⟩ : ByteArray))] (fun fb => by kernel_rfl) (tile_Parse_calls _ (⟨#[48, 46, 48, 46, 49, 46, 48]⟩ : ByteArray) mG t9 _ (hS6.rd 0) ht10) (fun v w11 hR12 => ?_)
 obtain ⟨A14, c15, rfl, hk_⟩ := hR12
 have hS13 : St NoS w w11 [cel ⟨2, 0, none⟩ (iv mG)] [rowO 40 enc_Tile A14 c15 t9.1, rowO 40 enc_Tile A7 c8 t1.1] := hS6.call hk_ [] [0] (fun g hg => hg.elim) (by simp) (by decide)
 refine ⟨trivial, ?_⟩
 refine seg 6 [] [1, 3] [(1, (sv A7 t1.1 c8)), (3, (sv A14 t9.1 c15))] [] (fun fb => by kernel_rfl) rfl trivial ?_
 refine WL.done rfl ?_
 refine WX.next ?_
 refine WC.seq ?_
 refine WC.region ?_
 obtain ⟨t16, ht17, hf⟩ := bind_some hf
 refine WL.call (some 24) 49 #[(.string (⟨#[48, 46, 49, 46, 49, 46, 48, 32, 49, 46, 48, 46, 48, 46, 49]⟩ : ByteArray))] (fun fb => by kernel_rfl) (tile_Parse_calls _ (⟨#[48, 46, 49, 46, 49, 46, 48, 32, 49, 46, 48, 46, 48, 46, 49]⟩ : ByteArray) mG t16 _ (hS13.rd 0) ht17) (fun v w18 hR19 => ?_)
 obtain ⟨A21, c22, rfl, hk_⟩ := hR19
 have hS20 : St NoS w w18 [cel ⟨2, 0, none⟩ (iv mG)] [rowO 40 enc_Tile A21 c22 t16.1, rowO 40 enc_Tile A14 c15 t9.1, rowO 40 enc_Tile A7 c8 t1.1] := hS13.call hk_ [] [0, 1] (fun g hg => hg.elim) (by simp) (by decide)
 refine ⟨trivial, ?_⟩
 refine seg 6 [] [1, 3, 5] [(1, (sv A7 t1.1 c8)), (3, (sv A14 t9.1 c15)), (5, (sv A21 t16.1 c22))] [] (fun fb => by kernel_rfl) rfl trivial ?_
 refine WL.done rfl ?_
 refine WX.next ?_
 refine WC.seq ?_
 refine WC.region ?_
 refine seg 1 [] [3, 5, 28] [(3, (sv A14 t9.1 c15)), (5, (sv A21 t16.1 c22)), (28, (sv A7 t1.1 c8))] [] (fun fb => by kernel_rfl) rfl trivial ?_
 obtain ⟨t23, ht24, hf⟩ := bind_some hf
 refine WL.call (some 29) 45 #[(sv A7 t1.1 c8), (iv 4)] (fun fb => by kernel_rfl) (square_Largest_calls _ t1.1 4 A7 c8 t23 _ (hS20.ow 2).ofO ht24) (fun v w25 hR26 => ?_)
 obtain ⟨rfl, hk_⟩ := hR26
 have hS27 := hS20.keepN hk_
 refine ⟨trivial, ?_⟩
 refine seg 7 [] [3, 5, 7, 8] [(3, (sv A14 t9.1 c15)), (5, (sv A21 t16.1 c22)), (7, (iv t23.1)), (8, (iv t23.2))] [] (fun fb => by kernel_rfl) rfl trivial ?_
 refine WL.done rfl ?_
 refine WX.next ?_
 refine WC.seq ?_
 refine WC.region ?_
 refine seg 1 [] [5, 7, 8, 33] [(5, (sv A21 t16.1 c22)), (7, (iv t23.1)), (8, (iv t23.2)), (33, (sv A14 t9.1 c15))] [] (fun fb => by kernel_rfl) rfl trivial ?_
 obtain ⟨t28, ht29, hf⟩ := bind_some hf
 refine WL.call (some 34) 45 #[(sv A14 t9.1 c15), (iv 4)] (fun fb => by kernel_rfl) (square_Largest_calls _ t9.1 4 A14 c15 t28 _ (hS27.ow 1).ofO ht29) (fun v w30 hR31 => ?_)
 obtain ⟨rfl, hk_⟩ := hR31
 have hS32 := hS27.keepN hk_
 refine ⟨trivial, ?_⟩
 refine seg 7 [] [5, 7, 8, 9, 10] [(5, (sv A21 t16.1 c22)), (7, (iv t23.1)), (8, (iv t23.2)), (9, (iv t28.1)), (10, (iv t28.2))] [] (fun fb => by kernel_rfl) rfl trivial ?_
 refine WL.done rfl ?_
 refine WX.next ?_
 refine WC.seq ?_
 refine WC.region ?_
 refine seg 1 [] [5, 7, 8, 9, 10, 38] [(5, (sv A21 t16.1 c22)), (7, (iv t23.1)), (8, (iv t23.2)), (9, (iv t28.1)), (10, (iv t28.2)), (38, (sv A21 t16.1 c22))] [] (fun fb => by kernel_rfl) rfl trivial ?_
 obtain ⟨t33, ht34, hf⟩ := bind_some hf
 refine WL.call (some 39) 44 #[(sv A21 t16.1 c22), (iv 5)] (fun fb => by kernel_rfl) (square_Exists_calls _ t16.1 5 A21 c22 t33 _ (hS32.ow 0).ofO ht34) (fun v w35 hR36 => ?_)
 obtain ⟨rfl, hk_⟩ := hR36
 have hS37 := hS32.keepN hk_
 refine ⟨trivial, ?_⟩
 refine seg 7 [] [5, 7, 8, 9, 10, 11, 12] [(5, (sv A21 t16.1 c22)), (7, (iv t23.1)), (8, (iv t23.2)), (9, (iv t28.1)), (10, (iv t28.2)), (11, (bv t33.1)), (12, (iv t33.2))] [] (fun fb => by kernel_rfl) rfl trivial ?_
 refine WL.done rfl ?_
 refine WX.next ?_
 refine WC.seq ?_
 refine WC.region ?_
 refine seg 1 [] [7, 8, 9, 10, 11, 12, 43] [(7, (iv t23.1)), (8, (iv t23.2)), (9, (iv t28.1)), (10, (iv t28.2)), (11, (bv t33.1)), (12, (iv t33.2)), (43, (sv A21 t16.1 c22))] [] (fun fb => by kernel_rfl) rfl trivial ?_
 obtain ⟨t38, ht39, hf⟩ := bind_some hf
 refine WL.call (some 44) 45 #[(sv A21 t16.1 c22), (iv 5)] (fun fb => by kernel_rfl) (square_Largest_calls _ t16.1 5 A21 c22 t38 _ (hS37.ow 0).ofO ht39) (fun v w41 hR42 => ?_)
 obtain ⟨rfl, hk_⟩ := hR42
 have hS43 := hS37.keepN hk_
 refine ⟨trivial, ?_⟩
 refine seg 7 [] [7, 8, 9, 10, 11, 12, 14] [(7, (iv t23.1)), (8, (iv t23.2)), (9, (iv t28.1)), (10, (iv t28.2)), (11, (bv t33.1)), (12, (iv t33.2)), (14, (iv t38.2))] [] (fun fb => by kernel_rfl) rfl trivial ?_
 refine WL.done rfl ?_
 refine WX.next ?_
 refine WC.seq ?_
 refine WC.region ?_
 refine seg 3 [] [7, 9, 10, 11, 12, 14, 49] [(7, (iv t23.1)), (9, (iv t28.1)), (10, (iv t28.2)), (11, (bv t33.1)), (12, (iv t33.2)), (14, (iv t38.2)), (49, (bv (t23.2 == 0)))] [] (fun fb => by kernel_rfl) rfl trivial ?_
 refine WL.cutV (T := Bool) 6 (fun t => [(52, (bv t)), (7, (iv t23.1)), (9, (iv t28.1)), (11, (bv t33.1)), (12, (iv t33.2)), (14, (iv t38.2))]) (fun t => ((t23.2 == 0) && (t28.2 == 0)) = t) (fun K => ?_) ?_
 ·
  rcases Bool.eq_false_or_eq_true (t23.2 == 0) with h44 | h44
  ·
   refine WL.setB 49 h44 rfl ?_
   refine seg 6 [] [7, 9, 11, 12, 14, 52] [(7, (iv t23.1)), (9, (iv t28.1)), (11, (bv t33.1)), (12, (iv t33.2)), (14, (iv t38.2)), (52, (bv (t28.2 == 0)))] [] (fun fb => by kernel_rfl) rfl trivial ?_
   exact WL.toV K (t28.2 == 0) [52, 7, 9, 11, 12, 14] rfl (by first | (rw [h44]; done) | (rw [h44]; rfl))
  refine WL.setB 49 h44 rfl ?_
  refine seg 6 [] [7, 9, 11, 12, 14, 52] [(7, (iv t23.1)), (9, (iv t28.1)), (11, (bv t33.1)), (12, (iv t33.2)), (14, (iv t38.2)), (52, (bv false))] [] (fun fb => by kernel_rfl) rfl trivial ?_
  exact WL.toV K false [52, 7, 9, 11, 12, 14] rfl (by first | (rw [h44]; done) | (rw [h44]; rfl))
 rintro b45 rfl
 refine seg 7 [] [7, 9, 11, 12, 14, 53] [(7, (iv t23.1)), (9, (iv t28.1)), (11, (bv t33.1)), (12, (iv t33.2)), (14, (iv t38.2)), (53, (bv ((t23.2 == 0) && (t28.2 == 0))))] [] (fun fb => by kernel_rfl) rfl trivial ?_
 refine WL.cutV (T := Bool) 10 (fun t => [(56, (bv t)), (7, (iv t23.1)), (9, (iv t28.1)), (11, (bv t33.1)), (14, (iv t38.2))]) (fun t => (((t23.2 == 0) && (t28.2 == 0)) && (t33.2 == 0)) = t) (fun K => ?_) ?_
 ·
  rcases Bool.eq_false_or_eq_true ((t23.2 == 0) && (t28.2 == 0)) with h46 | h46
  ·
   refine WL.setB 53 h46 rfl ?_
   refine seg 10 [] [7, 9, 11, 14, 56] [(7, (iv t23.1)), (9, (iv t28.1)), (11, (bv t33.1)), (14, (iv t38.2)), (56, (bv (t33.2 == 0)))] [] (fun fb => by kernel_rfl) rfl trivial ?_
   exact WL.toV K (t33.2 == 0) [56, 7, 9, 11, 14] rfl (by first | (rw [h46]; done) | (rw [h46]; rfl))
  refine WL.setB 53 h46 rfl ?_
  refine seg 10 [] [7, 9, 11, 14, 56] [(7, (iv t23.1)), (9, (iv t28.1)), (11, (bv t33.1)), (14, (iv t38.2)), (56, (bv false))] [] (fun fb => by kernel_rfl) rfl trivial ?_
  exact WL.toV K false [56, 7, 9, 11, 14] rfl (by first | (rw [h46]; done) | (rw [h46]; rfl))
 rintro b47 rfl
 refine seg 11 [] [7, 9, 11, 14, 57] [(7, (iv t23.1)), (9, (iv t28.1)), (11, (bv t33.1)), (14, (iv t38.2)), (57, (bv (((t23.2 == 0) && (t28.2 == 0)) && (t33.2 == 0))))] [] (fun fb => by kernel_rfl) rfl trivial ?_
 refine WL.cutV (T := Bool) 14 (fun t => [(60, (bv t)), (7, (iv t23.1)), (9, (iv t28.1)), (11, (bv t33.1))]) (fun t => ((((t23.2 == 0) && (t28.2 == 0)) && (t33.2 == 0)) && (t38.2 == 6)) = t) (fun K => ?_) ?_
 ·
  rcases Bool.eq_false_or_eq_true (((t23.2 == 0) && (t28.2 == 0)) && (t33.2 == 0)) with h48 | h48
  ·
   refine WL.setB 57 h48 rfl ?_
   refine seg 14 [] [7, 9, 11, 60] [(7, (iv t23.1)), (9, (iv t28.1)), (11, (bv t33.1)), (60, (bv (t38.2 == 6)))] [] (fun fb => by kernel_rfl) rfl trivial ?_
   exact WL.toV K (t38.2 == 6) [60, 7, 9, 11] rfl (by first | (rw [h48]; done) | (rw [h48]; rfl))
  refine WL.setB 57 h48 rfl ?_
  refine seg 14 [] [7, 9, 11, 60] [(7, (iv t23.1)), (9, (iv t28.1)), (11, (bv t33.1)), (60, (bv false))] [] (fun fb => by kernel_rfl) rfl trivial ?_
  exact WL.toV K false [60, 7, 9, 11] rfl (by first | (rw [h48]; done) | (rw [h48]; rfl))
 rintro b49 rfl
 refine seg 15 [] [7, 9, 11, 61] [(7, (iv t23.1)), (9, (iv t28.1)), (11, (bv t33.1)), (61, (bv ((((t23.2 == 0) && (t28.2 == 0)) && (t33.2 == 0)) && (t38.2 == 6))))] [] (fun fb => by kernel_rfl) rfl trivial ?_
 refine WL.cutV (T := Bool) 18 (fun t => [(64, (bv t)), (9, (iv t28.1)), (11, (bv t33.1))]) (fun t => (((((t23.2 == 0) && (t28.2 == 0)) && (t33.2 == 0)) && (t38.2 == 6)) && (t23.1 == 1)) = t) (fun K => ?_) ?_
 ·
  rcases Bool.eq_false_or_eq_true ((((t23.2 == 0) && (t28.2 == 0)) && (t33.2 == 0)) && (t38.2 == 6)) with h50 | h50
  ·
   refine WL.setB 61 h50 rfl ?_
   refine seg 18 [] [9, 11, 64] [(9, (iv t28.1)), (11, (bv t33.1)), (64, (bv (t23.1 == 1)))] [] (fun fb => by kernel_rfl) rfl trivial ?_
   exact WL.toV K (t23.1 == 1) [64, 9, 11] rfl (by first | (rw [h50]; done) | (rw [h50]; rfl))
  refine WL.setB 61 h50 rfl ?_
  refine seg 18 [] [9, 11, 64] [(9, (iv t28.1)), (11, (bv t33.1)), (64, (bv false))] [] (fun fb => by kernel_rfl) rfl trivial ?_
  exact WL.toV K false [64, 9, 11] rfl (by first | (rw [h50]; done) | (rw [h50]; rfl))
 rintro b51 rfl
 refine seg 19 [] [9, 11, 65] [(9, (iv t28.1)), (11, (bv t33.1)), (65, (bv (((((t23.2 == 0) && (t28.2 == 0)) && (t33.2 == 0)) && (t38.2 == 6)) && (t23.1 == 1))))] [] (fun fb => by kernel_rfl) rfl trivial ?_
 refine WL.cutV (T := Bool) 22 (fun t => [(68, (bv t)), (11, (bv t33.1))]) (fun t => ((((((t23.2 == 0) && (t28.2 == 0)) && (t33.2 == 0)) && (t38.2 == 6)) && (t23.1 == 1)) && (t28.1 == 1)) = t) (fun K => ?_) ?_
 ·
  rcases Bool.eq_false_or_eq_true (((((t23.2 == 0) && (t28.2 == 0)) && (t33.2 == 0)) && (t38.2 == 6)) && (t23.1 == 1)) with h52 | h52
  ·
   refine WL.setB 65 h52 rfl ?_
   refine seg 22 [] [11, 68] [(11, (bv t33.1)), (68, (bv (t28.1 == 1)))] [] (fun fb => by kernel_rfl) rfl trivial ?_
   exact WL.toV K (t28.1 == 1) [68, 11] rfl (by first | (rw [h52]; done) | (rw [h52]; rfl))
  refine WL.setB 65 h52 rfl ?_
  refine seg 22 [] [11, 68] [(11, (bv t33.1)), (68, (bv false))] [] (fun fb => by kernel_rfl) rfl trivial ?_
  exact WL.toV K false [68, 11] rfl (by first | (rw [h52]; done) | (rw [h52]; rfl))
 rintro b53 rfl
 refine seg 23 [] [11, 69] [(11, (bv t33.1)), (69, (bv ((((((t23.2 == 0) && (t28.2 == 0)) && (t33.2 == 0)) && (t38.2 == 6)) && (t23.1 == 1)) && (t28.1 == 1))))] [] (fun fb => by kernel_rfl) rfl trivial ?_
 refine WL.cutV (T := Bool) 25 (fun t => [(71, (bv t))]) (fun t => (((((((t23.2 == 0) && (t28.2 == 0)) && (t33.2 == 0)) && (t38.2 == 6)) && (t23.1 == 1)) && (t28.1 == 1)) && t33.1) = t) (fun K => ?_) ?_
 ·
  rcases Bool.eq_false_or_eq_true ((((((t23.2 == 0) && (t28.2 == 0)) && (t33.2 == 0)) && (t38.2 == 6)) && (t23.1 == 1)) && (t28.1 == 1)) with h54 | h54
  ·
   refine WL.setB 69 h54 rfl ?_
   refine seg 25 [] [71] [(71, (bv t33.1))] [] (fun fb => by kernel_rfl) rfl trivial ?_
   exact WL.toV K t33.1 [71] rfl (by first | (rw [h54]; done) | (rw [h54]; rfl))
  refine WL.setB 69 h54 rfl ?_
  refine seg 25 [] [71] [(71, (bv false))] [] (fun fb => by kernel_rfl) rfl trivial ?_
  exact WL.toV K false [71] rfl (by first | (rw [h54]; done) | (rw [h54]; rfl))
 rintro b55 rfl
 refine seg 26 [] [0] [(0, (bv (((((((t23.2 == 0) && (t28.2 == 0)) && (t33.2 == 0)) && (t38.2 == 6)) && (t23.1 == 1)) && (t28.1 == 1)) && t33.1)))] [] (fun fb => by kernel_rfl) rfl trivial ?_
 refine WL.done rfl ?_
 refine WX.next ?_
 refine WC.ret ?_
 injection hf with hf
 subst hf
 exact WX.ret_ [] (bv (((((((t23.2 == 0) && (t28.2 == 0)) && (t33.2 == 0)) && (t38.2 == 6)) && (t23.1 == 1)) && (t28.1 == 1)) && t33.1)) [] (fun fb => by kernel_rfl) trivial ⟨_, rfl, rfl, hS43.keep⟩
theorem ref01_colour_calls (p0 : Int)  (r : Bool) (w : World)  (hf : ref01_colour p0 = some r) :
  CallsR Tryd.prog 50 #[(iv p0)] w (fun v w' => v = (bv r) ∧ Keeps NoS w w') := by
 have hS : St NoS w w [] [] := St.init (ro_nil _ _)
 refine enter 9 Tryd.func50 rfl Tryd.ntmps50 rfl ?_
 unfold ref01_colour at hf
 refine WC.seq ?_
 refine WC.region ?_
 refine seg 1 [] [0] [(0, (iv p0))] [] (fun fb => by kernel_rfl) rfl trivial ?_
 refine WL.done rfl ?_
 refine WX.next ?_
 refine WC.seq ?_
 refine WC.region ?_
 refine seg 3 [] [0, 5] [(0, (iv p0)), (5, (bv (decide (p0 ≥ 0))))] [] (fun fb => by kernel_rfl) rfl trivial ?_
 refine WL.cutV (T := Bool) 6 (fun t => [(8, (bv t))]) (fun t => ((decide (p0 ≥ 0)) && (decide (p0 < 1000))) = t) (fun K => ?_) ?_
 ·
  rcases Bool.eq_false_or_eq_true (decide (p0 ≥ 0)) with h2 | h2
  ·
   refine WL.setB 5 h2 rfl ?_
   refine seg 6 [] [8] [(8, (bv (decide (p0 < 1000))))] [] (fun fb => by kernel_rfl) rfl trivial ?_
   exact WL.toV K (decide (p0 < 1000)) [8] rfl (by first | (rw [h2]; done) | (rw [h2]; rfl))
  refine WL.setB 5 h2 rfl ?_
  refine seg 6 [] [8] [(8, (bv false))] [] (fun fb => by kernel_rfl) rfl trivial ?_
  exact WL.toV K false [8] rfl (by first | (rw [h2]; done) | (rw [h2]; rfl))
 rintro b3 rfl
 refine seg 7 [] [2] [(2, (bv ((decide (p0 ≥ 0)) && (decide (p0 < 1000)))))] [] (fun fb => by kernel_rfl) rfl trivial ?_
 refine WL.done rfl ?_
 refine WX.next ?_
 refine WC.ret ?_
 injection hf with hf
 subst hf
 exact WX.ret_ [] (bv ((decide (p0 ≥ 0)) && (decide (p0 < 1000)))) [] (fun fb => by kernel_rfl) trivial ⟨_, rfl, rfl, hS.keep⟩
theorem ref01_Index_calls (k : Nat) (p0 : List Tile) (p1 : Tile) (A_p0 : Option Addr) (c_p0 : Nat) (r : Int) (w : World) (hR0 : RO NoS w (rowR enc_Tile A_p0 c_p0 p0)) (hf : ref01_Index k p0 p1 = some r) :
  CallsR Tryd.prog 51 #[(sv A_p0 p0 c_p0), (.agg #[(iv p1.N), (iv p1.E), (iv p1.S), (iv p1.W)])] w (fun v w' => v = (iv r) ∧ Keeps NoS w w') := by
 have hS : St NoS w w [rowR enc_Tile A_p0 c_p0 p0] [] := St.init (ro_cons hR0 (ro_nil _ _))
 refine enter 19 Tryd.func51 rfl Tryd.ntmps51 rfl ?_
 unfold ref01_Index at hf
 refine WC.seq ?_
 refine WC.region ?_
 refine WL.new hS 3 [] (fun g => (pt g)) (.cells #[(iv p1.N), (iv p1.E), (iv p1.S), (iv p1.W)] 40 (0, 0)) [] (fun fb g => by kernel_rfl) trivial (fun g3 w4 hS5 => ?_)
 refine ⟨trivial, ?_⟩
 refine seg 2 [] [0, 3] [(0, (sv A_p0 p0 c_p0)), (3, (pt g3))] [] (fun fb => by kernel_rfl) rfl trivial ?_
 refine WL.done rfl ?_
 refine WX.next ?_
 refine WC.seq ?_
 refine WC.seq ?_
 refine WC.region ?_
 refine seg 1 [] [0, 3, 5] [(0, (sv A_p0 p0 c_p0)), (3, (pt g3)), (5, (iv 0))] [] (fun fb => by kernel_rfl) rfl trivial ?_
 refine WL.done rfl ?_
 refine WX.next ?_
 obtain ⟨x7, hx8, hf⟩ := bind_some hf
 refine WC.cutN (T := Unit) (fun t => []) (fun t w1 => St NoS w w1 [rowR enc_Tile A_p0 c_p0 p0] [] ∧ x7 = .inr t) (fun Kx7 => ?_) ?_
 ·
  refine WC.block ?_
  refine WC.loop (T := Int) (fun t => [(0, (sv A_p0 p0 c_p0)), (3, (pt g3)), (5, (iv t))]) (fun n t w1 => St NoS w w1 [rowR enc_Tile A_p0 c_p0 p0] [blk g3 (.cells #[(iv p1.N), (iv p1.E), (iv p1.S), (iv p1.W)] 40 (0, 0))] ∧ ref01_Index.l0 n t p0 p1 = some x7) k 0 [0, 3, 5] rfl ⟨(hS5.subR [0]).sub [0] (by decide), hx8⟩ ?_
  rintro k9 x6 w10 ⟨hS11, hl12⟩
  cases k9 with
  | zero => rw [ref01_Index.l0] at hl12; cases hl12
  | succ k9 =>
   rw [ref01_Index.l0] at hl12
   refine WC.seq ?_
   refine WC.seq ?_
   refine WC.region ?_
   refine seg 4 [] [0, 3, 5, 9] [(0, (sv A_p0 p0 c_p0)), (3, (pt g3)), (5, (iv x6)), (9, (bv (decide (x6 < (p0.length : Int)))))] [] (fun fb => by kernel_rfl) rfl trivial ?_
   refine WL.done rfl ?_
   refine WX.next ?_
   rcases br_some hl12 with ⟨h13, hl12⟩ | ⟨h13, hl12⟩
   ·refine WC.condT2 (fun fb => by kernel_rfl) h13 ?_
    refine WC.skip ?_
    refine WX.next ?_
    refine WC.seq ?_
    refine WC.block ?_
    refine WC.seq ?_
    obtain ⟨h16, hl12⟩ := as_some hl12
    refine WC.regionD ([(3, ((adr A_p0).add ((x6).toNat * 4)), (iv ((rdD p0 x6 z_Tile).N))), (3, (((adr A_p0).add ((x6).toNat * 4)).add 1), (iv ((rdD p0 x6 z_Tile).E))), (3, (((adr A_p0).add ((x6).toNat * 4)).add 2), (iv ((rdD p0 x6 z_Tile).S))), (3, (((adr A_p0).add ((x6).toNat * 4)).add 3), (iv ((rdD p0 x6 z_Tile).W))), (4, ⟨g3, 0, none⟩, (iv p1.N)), (4, ⟨g3, 1, none⟩, (iv p1.E)), (4, ⟨g3, 2, none⟩, (iv p1.S)), (4, ⟨g3, 3, none⟩, (iv p1.W))], [0, 1, 2, 3, 4, 5], [[], [], [0, 1], [0, 1, 2], [], [0, 1, 2, 3, 4]]) [[0, 1, 2, 3, 4, 5]] (by kernel_rfl) (by kernel_rfl) (NoPanic.seq (NoPanic.block (NoPanic.seq (NoPanic.seq (NoPanic.block (NoPanic.seq (NoPanic.body))))))) ?_
    have hS15 := hS11.drew
    revert hS15
    generalize World.drew w10 = w14
    intro hS15
    refine ⟨⟨rowR.cell (hS15.rd 0).1 z_Tile h16.1 h16.2 0 rfl, rowR.cell (hS15.rd 0).1 z_Tile h16.1 h16.2 1 rfl, rowR.cell (hS15.rd 0).1 z_Tile h16.1 h16.2 2 rfl, rowR.cell (hS15.rd 0).1 z_Tile h16.1 h16.2 3 rfl, hS15.cell 0 rfl 0 rfl, hS15.cell 0 rfl 1 rfl, hS15.cell 0 rfl 2 rfl, hS15.cell 0 rfl 3 rfl, trivial⟩, forallC ?_ (forallN)⟩
    refine segF 6 [.v (iv ((rdD p0 x6 z_Tile).N)), .v (iv ((rdD p0 x6 z_Tile).E)), .v (iv ((rdD p0 x6 z_Tile).S)), .v (iv ((rdD p0 x6 z_Tile).W)), .v (iv p1.N), .v (iv p1.E), .v (iv p1.S), .v (iv p1.W)] [0, 3, 5, 17] [(0, (sv A_p0 p0 c_p0)), (3, (pt g3)), (5, (iv x6)), (17, (bv (((rdD p0 x6 z_Tile).N) == p1.N && (((rdD p0 x6 z_Tile).E) == p1.E && (((rdD p0 x6 z_Tile).S) == p1.S && (((rdD p0 x6 z_Tile).W) == p1.W))))))] [.idx A_p0 x6 p0.length] [0, 1, 2, 3, 4, 5, 6, 7] [(3, ((adr A_p0).add ((x6).toNat * 4)), (iv ((rdD p0 x6 z_Tile).N))), (3, (((adr A_p0).add ((x6).toNat * 4)).add 1), (iv ((rdD p0 x6 z_Tile).E))), (3, (((adr A_p0).add ((x6).toNat * 4)).add 2), (iv ((rdD p0 x6 z_Tile).S))), (3, (((adr A_p0).add ((x6).toNat * 4)).add 3), (iv ((rdD p0 x6 z_Tile).W))), (4, ⟨g3, 0, none⟩, (iv p1.N)), (4, ⟨g3, 1, none⟩, (iv p1.E)), (4, ⟨g3, 2, none⟩, (iv p1.S)), (4, ⟨g3, 3, none⟩, (iv p1.W))] (fun fb => by kernel_rfl) rfl ⟨rowR.adr (hS15.rd 0).1 h16.1 h16.2, trivial⟩ rfl ?_
    refine WL.done rfl ?_
    refine WX.next ?_
    rcases br_some hl12 with ⟨h17, hl12⟩ | ⟨h17, hl12⟩
    ·refine WC.condT2 (fun fb => by kernel_rfl) h17 ?_
     refine WC.seq ?_
     refine WC.region ?_
     refine seg 2 [] [4] [(4, (iv x6))] [] (fun fb => by kernel_rfl) rfl trivial ?_
     refine WL.done rfl ?_
     refine WX.next ?_
     refine WC.ret ?_
     injection hl12 with hl12
     subst hl12
     injection hf with hf
     subst hf
     exact WX.blockR (WX.thenR (WX.thenR (WX.blockR (WX.thenR (WX.ret_ [] (iv x6) [] (fun fb => by kernel_rfl) trivial ⟨_, rfl, rfl, hS15.keep⟩)))))
    refine WC.condF2 (fun fb => by kernel_rfl) h17 ?_
    refine WC.skip ?_
    refine WX.blockN (WX.next ?_)
    refine WC.region ?_
    refine seg 3 [] [0, 3, 5] [(0, (sv A_p0 p0 c_p0)), (3, (pt g3)), (5, (iv (w64 (x6 + 1))))] [] (fun fb => by kernel_rfl) rfl trivial ?_
    refine WL.done rfl ?_
    exact WX.again k9 (Nat.lt_succ_self _) (w64 (x6 + 1)) [0, 3, 5] rfl ⟨(hS15.subR [0]).sub [0] (by decide), hl12⟩
   refine WC.condF2 (fun fb => by kernel_rfl) h13 ?_
   refine WC.exit ?_
   injection hl12 with hl12
   exact WX.thenX (WX.thenX (WX.blockHere (WX.to Kx7 () [] rfl ⟨(hS11.subR [0]).sub [] (by decide), hl12.symm⟩)))
 rintro y21 w18 ⟨hS19, hq20⟩
 subst hq20
 have hf := sum_inr hf
 refine WX.next ?_
 refine WC.seq ?_
 refine WC.region ?_
 refine seg 1 [] [4] [(4, (iv (-1)))] [] (fun fb => by kernel_rfl) rfl trivial ?_
 refine WL.done rfl ?_
 refine WX.next ?_
 refine WC.ret ?_
 injection hf with hf
 subst hf
 exact WX.ret_ [] (iv (-1)) [] (fun fb => by kernel_rfl) trivial ⟨_, rfl, rfl, hS19.keep⟩
theorem ref01_Valid_calls (k : Nat) (p0 : List Tile) (A_p0 : Option Addr) (c_p0 : Nat) (r : Bool) (w : World) (hR0 : RO NoS w (rowR enc_Tile A_p0 c_p0 p0)) (hf : ref01_Valid k p0 = some r) :
  CallsR Tryd.prog 15 #[(sv A_p0 p0 c_p0)] w (fun v w' => v = (bv r) ∧ Keeps NoS w w') := by
 have hS : St NoS w w [rowR enc_Tile A_p0 c_p0 p0] [] := St.init (ro_cons hR0 (ro_nil _ _))
 refine enter 48 Tryd.func15 rfl Tryd.ntmps15 rfl ?_
 unfold ref01_Valid at hf
 refine WC.seq ?_
 refine WC.region ?_
 refine seg 1 [] [0] [(0, (sv A_p0 p0 c_p0))] [] (fun fb => by kernel_rfl) rfl trivial ?_
 refine WL.done rfl ?_
 refine WX.next ?_
 refine WC.seq ?_
 refine WC.seq ?_
 refine WC.region ?_
 refine seg 3 [] [0, 7] [(0, (sv A_p0 p0 c_p0)), (7, (bv (decide ((p0.length : Int) > 1000))))] [] (fun fb => by kernel_rfl) rfl trivial ?_
 refine WL.done rfl ?_
 refine WX.next ?_
 rcases br_some hf with ⟨h3, hf⟩ | ⟨h3, hf⟩
 ·refine WC.condT2 (fun fb => by kernel_rfl) h3 ?_
  refine WC.seq ?_
  refine WC.region ?_
  refine seg 1 [] [2] [(2, (bv false))] [] (fun fb => by kernel_rfl) rfl trivial ?_
  refine WL.done rfl ?_
  refine WX.next ?_
  refine WC.ret ?_
  injection hf with hf
  subst hf
  exact WX.thenR (WX.ret_ [] (bv false) [] (fun fb => by kernel_rfl) trivial ⟨_, rfl, rfl, hS.keep⟩)
 refine WC.condF2 (fun fb => by kernel_rfl) h3 ?_
 refine WC.skip ?_
 refine WX.next ?_
 refine WC.seq ?_
 refine WC.seq ?_
 refine WC.region ?_
 refine seg 1 [] [0, 3] [(0, (sv A_p0 p0 c_p0)), (3, (iv 0))] [] (fun fb => by kernel_rfl) rfl trivial ?_
 refine WL.done rfl ?_
 refine WX.next ?_
 obtain ⟨x5, hx6, hf⟩ := bind_some hf
 refine WC.cutN (T := Unit) (fun t => []) (fun t w1 => St NoS w w1 [rowR enc_Tile A_p0 c_p0 p0] [] ∧ x5 = .inr t) (fun Kx5 => ?_) ?_
 ·
  refine WC.block ?_
  refine WC.loop (T := Int) (fun t => [(0, (sv A_p0 p0 c_p0)), (3, (iv t))]) (fun n t w1 => St NoS w w1 [rowR enc_Tile A_p0 c_p0 p0] [] ∧ ref01_Valid.l0 n t p0 = some x5) k 0 [0, 3] rfl ⟨(hS.subR [0]).sub [] (by decide), hx6⟩ ?_
  rintro k7 x4 w8 ⟨hS9, hl10⟩
  cases k7 with
  | zero => rw [ref01_Valid.l0] at hl10; cases hl10
  | succ k7 =>
   rw [ref01_Valid.l0] at hl10
   refine WC.seq ?_
   refine WC.seq ?_
   refine WC.region ?_
   refine seg 4 [] [0, 3, 11] [(0, (sv A_p0 p0 c_p0)), (3, (iv x4)), (11, (bv (decide (x4 < (p0.length : Int)))))] [] (fun fb => by kernel_rfl) rfl trivial ?_
   refine WL.done rfl ?_
   refine WX.next ?_
   rcases br_some hl10 with ⟨h11, hl10⟩ | ⟨h11, hl10⟩
   ·refine WC.condT2 (fun fb => by kernel_rfl) h11 ?_
    refine WC.skip ?_
    refine WX.next ?_
    refine WC.seq ?_
    refine WC.block ?_
    refine WC.seq ?_
    refine WC.region ?_
    refine seg 2 [] [0, 3, 14, 15] [(0, (sv A_p0 p0 c_p0)), (3, (iv x4)), (14, (sv A_p0 p0 c_p0)), (15, (iv x4))] [] (fun fb => by kernel_rfl) rfl trivial ?_
    obtain ⟨h12, hl10⟩ := as_some hl10
    refine seg 4 [.v (iv ((rdD p0 x4 z_Tile).N)), .v (iv ((rdD p0 x4 z_Tile).E)), .v (iv ((rdD p0 x4 z_Tile).S)), .v (iv ((rdD p0 x4 z_Tile).W))] [0, 3, 17] [(0, (sv A_p0 p0 c_p0)), (3, (iv x4)), (17, (.agg #[(iv ((rdD p0 x4 z_Tile).N)), (iv ((rdD p0 x4 z_Tile).E)), (iv ((rdD p0 x4 z_Tile).S)), (iv ((rdD p0 x4 z_Tile).W))]))] [.idx A_p0 x4 p0.length, .cell ((adr A_p0).add ((x4).toNat * 4)) (iv ((rdD p0 x4 z_Tile).N)), .cell (((adr A_p0).add ((x4).toNat * 4)).add 1) (iv ((rdD p0 x4 z_Tile).E)), .cell (((adr A_p0).add ((x4).toNat * 4)).add 2) (iv ((rdD p0 x4 z_Tile).S)), .cell (((adr A_p0).add ((x4).toNat * 4)).add 3) (iv ((rdD p0 x4 z_Tile).W))] (fun fb => by kernel_rfl) rfl ⟨rowR.adr (hS9.rd 0).1 h12.1 h12.2, rowR.cell (hS9.rd 0).1 z_Tile h12.1 h12.2 0 rfl, rowR.cell (hS9.rd 0).1 z_Tile h12.1 h12.2 1 rfl, rowR.cell (hS9.rd 0).1 z_Tile h12.1 h12.2 2 rfl, rowR.cell (hS9.rd 0).1 z_Tile h12.1 h12.2 3 rfl, trivial⟩ ?_
    refine WL.new hS9 4 [] (fun g => (pt g)) (.cells #[(iv 0), (iv 0), (iv 0), (iv 0)] 40 (0, 0)) [] (fun fb g => by kernel_rfl) trivial (fun g13 w14 hS16 => ?_)
    refine ⟨trivial, ?_⟩
    refine WL.store hS16 0 rfl [(0, (iv ((rdD p0 x4 z_Tile).N))), (1, (iv ((rdD p0 x4 z_Tile).E))), (2, (iv ((rdD p0 x4 z_Tile).S))), (3, (iv ((rdD p0 x4 z_Tile).W)))] #[(iv ((rdD p0 x4 z_Tile).N)), (iv ((rdD p0 x4 z_Tile).E)), (iv ((rdD p0 x4 z_Tile).S)), (iv ((rdD p0 x4 z_Tile).W))] (fun fb => by kernel_rfl) (by kernel_rfl) rfl [] (by decide) (by decide) (fun w17 hS18 => ?_)
    refine ⟨trivial, ?_⟩
    refine WL.done rfl ?_
    refine WX.next ?_
    refine WC.seq ?_
    refine WC.regionD ([(1, ⟨g13, 0, none⟩, (iv ((rdD p0 x4 z_Tile).N))), (6, ⟨g13, 1, none⟩, (iv ((rdD p0 x4 z_Tile).E))), (12, ⟨g13, 2, none⟩, (iv ((rdD p0 x4 z_Tile).S))), (18, ⟨g13, 3, none⟩, (iv ((rdD p0 x4 z_Tile).W))), (26, ⟨g13, 0, none⟩, (iv ((rdD p0 x4 z_Tile).N))), (26, ⟨g13, 1, none⟩, (iv ((rdD p0 x4 z_Tile).E))), (26, ⟨g13, 2, none⟩, (iv ((rdD p0 x4 z_Tile).S))), (26, ⟨g13, 3, none⟩, (iv ((rdD p0 x4 z_Tile).W)))], [0, 1, 3, 4, 5, 6, 8, 9, 10, 11, 12, 14, 15, 16, 17, 18, 20, 21, 22, 23, 24, 25, 26, 28, 29], [[], [0], [0, 1], [0, 1, 2], [0, 1, 2, 3], [0, 1, 2, 3, 4], [0, 1, 2, 3, 4, 5], [0, 1, 2, 3, 4, 5, 6], [0, 1, 2, 3, 4, 5, 6, 7], [0, 1, 2, 3, 4, 5, 6, 7, 8], [0, 1, 2, 3, 4, 5, 6, 7, 8, 9], [0, 1, 2, 3, 4, 5, 6, 7, 8, 9, 10], [0, 1, 2, 3, 4, 5, 6, 7, 8, 9, 10, 11], [0, 1, 2, 3, 4, 5, 6, 7, 8, 9, 10, 11, 12], [0, 1, 2, 3, 4, 5, 6, 7, 8, 9, 10, 11, 12, 13], [0, 1, 2, 3, 4, 5, 6, 7, 8, 9, 10, 11, 12, 13, 14], [0, 1, 2, 3, 4, 5, 6, 7, 8, 9, 10, 11, 12, 13, 14, 15], [0, 1, 2, 3, 4, 5, 6, 7, 8, 9, 10, 11, 12, 13, 14, 15, 16], [0, 1, 2, 3, 4, 5, 6, 7, 8, 9, 10, 11, 12, 13, 14, 15, 16, 17], [0, 1, 2, 3, 4, 5, 6, 7, 8, 9, 10, 11, 12, 13, 14, 15, 16, 17, 18], [0, 1, 2, 3, 4, 5, 6, 7, 8, 9, 10, 11, 12, 13, 14, 15, 16, 17, 18, 19], [0, 1, 2, 3, 4, 5, 6, 7, 8, 9, 10, 11, 12, 13, 14, 15, 16, 17, 18, 19, 20], [0, 1, 2, 3, 4, 5, 6, 7, 8, 9, 10, 11, 12, 13, 14, 15, 16, 17, 18, 19, 20, 21], [0, 1, 2, 3, 4, 5, 6, 7, 8, 9, 10, 11, 12, 13, 14, 15, 16, 17, 18, 19, 20, 21, 22], [0, 1, 2, 3, 4, 5, 6, 7, 8, 9, 10, 11, 12, 13, 14, 15, 16, 17, 18, 19, 20, 21, 22], [0, 1, 2, 3, 4, 5, 6, 7, 8, 9, 10, 11, 12, 13, 14, 15, 16, 17, 18, 19, 20, 21, 22, 23, 24], [0, 1, 2, 3, 4, 5, 6, 7, 8, 9, 10, 11, 12, 13, 14, 15, 16, 17, 18, 19, 20, 21, 22], [0, 1, 2, 3, 4, 5, 6, 7, 8, 9, 10, 11, 12, 13, 14, 15, 16, 17, 18, 19, 20, 21, 22, 23, 24, 25, 26], [0, 1, 2, 3, 4, 5, 6, 7, 8, 9, 10, 11, 12, 13, 14, 15, 16, 17, 18, 19, 20, 21, 22, 23, 24, 25, 26, 27], [0, 1, 2, 3, 4, 5, 6, 7, 8, 9, 10, 11, 12, 13, 14, 15, 16, 17, 18, 19, 20, 21, 22, 23, 24, 25, 26, 27, 28]]) [[0, 1, 2, 3, 4, 5, 6, 7, 8, 9, 10, 11, 12, 13, 14, 15, 16, 17, 18, 19, 20, 21, 22, 23, 24, 25, 26, 27, 28, 29]] (by kernel_rfl) (by kernel_rfl) (NoPanic.seq (NoPanic.block (NoPanic.seq (NoPanic.seq (NoPanic.block (NoPanic.seq (NoPanic.body))))))) ?_
    have hS20 := hS18.drew
    revert hS20
    generalize World.drew w17 = w19
    intro hS20
    refine ⟨⟨hS20.cell 0 rfl 0 rfl, hS20.cell 0 rfl 1 rfl, hS20.cell 0 rfl 2 rfl, hS20.cell 0 rfl 3 rfl, hS20.cell 0 rfl 0 rfl, hS20.cell 0 rfl 1 rfl, hS20.cell 0 rfl 2 rfl, hS20.cell 0 rfl 3 rfl, trivial⟩, forallC ?_ (forallN)⟩
    refine segF 2 [.v (iv ((rdD p0 x4 z_Tile).N))] [0, 3, 4, 19] [(0, (sv A_p0 p0 c_p0)), (3, (iv x4)), (4, (pt g13)), (19, (iv ((rdD p0 x4 z_Tile).N)))] [] [0] [(1, ⟨g13, 0, none⟩, (iv ((rdD p0 x4 z_Tile).N)))] (fun fb => by kernel_rfl) rfl trivial rfl ?_
    obtain ⟨t21, ht22, hl10⟩ := bind_some hl10
    refine WL.call (some 20) 50 #[(iv ((rdD p0 x4 z_Tile).N))] (fun fb => by kernel_rfl) (ref01_colour_calls ((rdD p0 x4 z_Tile).N) t21 _ ht22) (fun v w23 hR24 => ?_)
    obtain ⟨rfl, hk_⟩ := hR24
    have hS25 := hS20.keepN hk_
    refine ⟨⟨hS25.cell 0 rfl 1 rfl, hS25.cell 0 rfl 2 rfl, hS25.cell 0 rfl 3 rfl, hS25.cell 0 rfl 0 rfl, hS25.cell 0 rfl 1 rfl, hS25.cell 0 rfl 2 rfl, hS25.cell 0 rfl 3 rfl, trivial⟩, ?_⟩
    refine seg 5 [] [0, 3, 4, 22] [(0, (sv A_p0 p0 c_p0)), (3, (iv x4)), (4, (pt g13)), (22, (bv (!t21)))] [] (fun fb => by kernel_rfl) rfl trivial ?_
    obtain ⟨x26, hx27, hl10⟩ := bind_some hl10
    refine WL.cutW (T := Bool) 10 (fun t => [(0, (sv A_p0 p0 c_p0)), (3, (iv x4)), (4, (pt g13)), (27, (bv t))]) (fun t w1 => (St NoS w w1 [rowR enc_Tile A_p0 c_p0 p0] [blk g13 (.cells #[(iv ((rdD p0 x4 z_Tile).N)), (iv ((rdD p0 x4 z_Tile).E)), (iv ((rdD p0 x4 z_Tile).S)), (iv ((rdD p0 x4 z_Tile).W))] 40 (0, 0))] ∧ x26 = t) ∧ CellsOK [] w1) (fun K => ?_) ?_
    ·
     rcases br_some hx27 with ⟨h28, hx27⟩ | ⟨h28, hx27⟩
     ·
      refine WL.setB 22 h28 rfl ?_
      refine seg 10 [] [0, 3, 4, 27] [(0, (sv A_p0 p0 c_p0)), (3, (iv x4)), (4, (pt g13)), (27, (bv true))] [] (fun fb => by kernel_rfl) rfl trivial ?_
      injection hx27 with hx27
      exact WL.to K true [0, 3, 4, 27] rfl ⟨⟨(hS25.subR [0]).sub [0] (by decide), hx27.symm⟩, trivial⟩
     refine WL.setB 22 h28 rfl ?_
     refine segF 7 [.v (iv ((rdD p0 x4 z_Tile).E))] [0, 3, 4, 22, 24] [(0, (sv A_p0 p0 c_p0)), (3, (iv x4)), (4, (pt g13)), (22, (bv false)), (24, (iv ((rdD p0 x4 z_Tile).E)))] [] [1] [(6, ⟨g13, 1, none⟩, (iv ((rdD p0 x4 z_Tile).E)))] (fun fb => by kernel_rfl) rfl trivial rfl ?_
     obtain ⟨t29, ht30, hx27⟩ := bind_some hx27
     refine WL.call (some 25) 50 #[(iv ((rdD p0 x4 z_Tile).E))] (fun fb => by kernel_rfl) (ref01_colour_calls ((rdD p0 x4 z_Tile).E) t29 _ ht30) (fun v w31 hR32 => ?_)
     obtain ⟨rfl, hk_⟩ := hR32
     have hS33 := hS25.keepN hk_
     refine ⟨⟨hS33.cell 0 rfl 2 rfl, hS33.cell 0 rfl 3 rfl, hS33.cell 0 rfl 0 rfl, hS33.cell 0 rfl 1 rfl, hS33.cell 0 rfl 2 rfl, hS33.cell 0 rfl 3 rfl, trivial⟩, ?_⟩
     refine seg 10 [] [0, 3, 4, 27] [(0, (sv A_p0 p0 c_p0)), (3, (iv x4)), (4, (pt g13)), (27, (bv (!t29)))] [] (fun fb => by kernel_rfl) rfl trivial ?_
     injection hx27 with hx27
     exact WL.to K (!t29) [0, 3, 4, 27] rfl ⟨⟨(hS33.subR [0]).sub [0] (by decide), hx27.symm⟩, trivial⟩
    rintro y34 w36 ⟨⟨hS37, hq35⟩, hF38⟩
    subst hq35
    refine seg 11 [] [0, 3, 4, 28] [(0, (sv A_p0 p0 c_p0)), (3, (iv x4)), (4, (pt g13)), (28, (bv x26))] [] (fun fb => by kernel_rfl) rfl trivial ?_
    obtain ⟨x39, hx40, hl10⟩ := bind_some hl10
    refine WL.cutW (T := Bool) 16 (fun t => [(0, (sv A_p0 p0 c_p0)), (3, (iv x4)), (4, (pt g13)), (33, (bv t))]) (fun t w1 => (St NoS w w1 [rowR enc_Tile A_p0 c_p0 p0] [blk g13 (.cells #[(iv ((rdD p0 x4 z_Tile).N)), (iv ((rdD p0 x4 z_Tile).E)), (iv ((rdD p0 x4 z_Tile).S)), (iv ((rdD p0 x4 z_Tile).W))] 40 (0, 0))] ∧ x39 = t) ∧ CellsOK [] w1) (fun K => ?_) ?_
    ·
     rcases br_some hx40 with ⟨h41, hx40⟩ | ⟨h41, hx40⟩
     ·
      refine WL.setB 28 h41 rfl ?_
      refine seg 16 [] [0, 3, 4, 33] [(0, (sv A_p0 p0 c_p0)), (3, (iv x4)), (4, (pt g13)), (33, (bv true))] [] (fun fb => by kernel_rfl) rfl trivial ?_
      injection hx40 with hx40
      exact WL.to K true [0, 3, 4, 33] rfl ⟨⟨(hS37.subR [0]).sub [0] (by decide), hx40.symm⟩, trivial⟩
     refine WL.setB 28 h41 rfl ?_
     refine segF 13 [.v (iv ((rdD p0 x4 z_Tile).S))] [0, 3, 4, 28, 30] [(0, (sv A_p0 p0 c_p0)), (3, (iv x4)), (4, (pt g13)), (28, (bv false)), (30, (iv ((rdD p0 x4 z_Tile).S)))] [] [2] [(12, ⟨g13, 2, none⟩, (iv ((rdD p0 x4 z_Tile).S)))] (fun fb => by kernel_rfl) rfl trivial rfl ?_
     obtain ⟨t42, ht43, hx40⟩ := bind_some hx40
     refine WL.call (some 31) 50 #[(iv ((rdD p0 x4 z_Tile).S))] (fun fb => by kernel_rfl) (ref01_colour_calls ((rdD p0 x4 z_Tile).S) t42 _ ht43) (fun v w44 hR45 => ?_)
     obtain ⟨rfl, hk_⟩ := hR45
     have hS46 := hS37.keepN hk_
     refine ⟨⟨hS46.cell 0 rfl 3 rfl, hS46.cell 0 rfl 0 rfl, hS46.cell 0 rfl 1 rfl, hS46.cell 0 rfl 2 rfl, hS46.cell 0 rfl 3 rfl, trivial⟩, ?_⟩
     refine seg 16 [] [0, 3, 4, 33] [(0, (sv A_p0 p0 c_p0)), (3, (iv x4)), (4, (pt g13)), (33, (bv (!t42)))] [] (fun fb => by kernel_rfl) rfl trivial ?_
     injection hx40 with hx40
     exact WL.to K (!t42) [0, 3, 4, 33] rfl ⟨⟨(hS46.subR [0]).sub [0] (by decide), hx40.symm⟩, trivial⟩
    rintro y47 w49 ⟨⟨hS50, hq48⟩, hF51⟩
    subst hq48
    refine seg 17 [] [0, 3, 4, 34] [(0, (sv A_p0 p0 c_p0)), (3, (iv x4)), (4, (pt g13)), (34, (bv x39))] [] (fun fb => by kernel_rfl) rfl trivial ?_
    obtain ⟨x52, hx53, hl10⟩ := bind_some hl10
    refine WL.cutW (T := Bool) 22 (fun t => [(0, (sv A_p0 p0 c_p0)), (3, (iv x4)), (4, (pt g13)), (39, (bv t))]) (fun t w1 => (St NoS w w1 [rowR enc_Tile A_p0 c_p0 p0] [blk g13 (.cells #[(iv ((rdD p0 x4 z_Tile).N)), (iv ((rdD p0 x4 z_Tile).E)), (iv ((rdD p0 x4 z_Tile).S)), (iv ((rdD p0 x4 z_Tile).W))] 40 (0, 0))] ∧ x52 = t) ∧ CellsOK [] w1) (fun K => ?_) ?_
    ·
     rcases br_some hx53 with ⟨h54, hx53⟩ | ⟨h54, hx53⟩
     ·
      refine WL.setB 34 h54 rfl ?_
      refine seg 22 [] [0, 3, 4, 39] [(0, (sv A_p0 p0 c_p0)), (3, (iv x4)), (4, (pt g13)), (39, (bv true))] [] (fun fb => by kernel_rfl) rfl trivial ?_
      injection hx53 with hx53
      exact WL.to K true [0, 3, 4, 39] rfl ⟨⟨(hS50.subR [0]).sub [0] (by decide), hx53.symm⟩, trivial⟩
     refine WL.setB 34 h54 rfl ?_
     refine segF 19 [.v (iv ((rdD p0 x4 z_Tile).W))] [0, 3, 4, 34, 36] [(0, (sv A_p0 p0 c_p0)), (3, (iv x4)), (4, (pt g13)), (34, (bv false)), (36, (iv ((rdD p0 x4 z_Tile).W)))] [] [3] [(18, ⟨g13, 3, none⟩, (iv ((rdD p0 x4 z_Tile).W)))] (fun fb => by kernel_rfl) rfl trivial rfl ?_
     obtain ⟨t55, ht56, hx53⟩ := bind_some hx53
     refine WL.call (some 37) 50 #[(iv ((rdD p0 x4 z_Tile).W))] (fun fb => by kernel_rfl) (ref01_colour_calls ((rdD p0 x4 z_Tile).W) t55 _ ht56) (fun v w57 hR58 => ?_)
     obtain ⟨rfl, hk_⟩ := hR58
     have hS59 := hS50.keepN hk_
     refine ⟨⟨hS59.cell 0 rfl 0 rfl, hS59.cell 0 rfl 1 rfl, hS59.cell 0 rfl 2 rfl, hS59.cell 0 rfl 3 rfl, trivial⟩, ?_⟩
     refine seg 22 [] [0, 3, 4, 39] [(0, (sv A_p0 p0 c_p0)), (3, (iv x4)), (4, (pt g13)), (39, (bv (!t55)))] [] (fun fb => by kernel_rfl) rfl trivial ?_
     injection hx53 with hx53
     exact WL.to K (!t55) [0, 3, 4, 39] rfl ⟨⟨(hS59.subR [0]).sub [0] (by decide), hx53.symm⟩, trivial⟩
    rintro y60 w62 ⟨⟨hS63, hq61⟩, hF65⟩
    subst hq61
    refine seg 23 [] [0, 3, 4, 40] [(0, (sv A_p0 p0 c_p0)), (3, (iv x4)), (4, (pt g13)), (40, (bv x52))] [] (fun fb => by kernel_rfl) rfl trivial ?_
    obtain ⟨x66, hx67, hl10⟩ := bind_some hl10
    refine WL.cutW (T := Bool) 30 (fun t => [(0, (sv A_p0 p0 c_p0)), (3, (iv x4)), (47, (bv t))]) (fun t w1 => (St NoS w w1 [rowR enc_Tile A_p0 c_p0 p0] [] ∧ x66 = t) ∧ CellsOK [] w1) (fun K => ?_) ?_
    ·
     rcases br_some hx67 with ⟨h68, hx67⟩ | ⟨h68, hx67⟩
     ·
      refine WL.setB 40 h68 rfl ?_
      refine seg 30 [] [0, 3, 47] [(0, (sv A_p0 p0 c_p0)), (3, (iv x4)), (47, (bv true))] [] (fun fb => by kernel_rfl) rfl trivial ?_
      injection hx67 with hx67
      exact WL.to K true [0, 3, 47] rfl ⟨⟨(hS63.subR [0]).sub [] (by decide), hx67.symm⟩, trivial⟩
     refine WL.setB 40 h68 rfl ?_
     refine seg 25 [] [0, 3, 4, 40, 41, 42] [(0, (sv A_p0 p0 c_p0)), (3, (iv x4)), (4, (pt g13)), (40, (bv false)), (41, (sv A_p0 p0 c_p0)), (42, (iv x4))] [] (fun fb => by kernel_rfl) rfl trivial ?_
     obtain ⟨h69, hx67⟩ := as_some hx67
     refine seg 26 [] [0, 3, 4, 40, 43] [(0, (sv A_p0 p0 c_p0)), (3, (iv x4)), (4, (pt g13)), (40, (bv false)), (43, (.slice (subA A_p0 c_p0 (0 : Int).toNat 4) (x4.toNat - (0 : Int).toNat) (c_p0 - (0 : Int).toNat)))] [.idx (some ⟨0, 0, none⟩) (0 : Int) (x4.toNat + 1), .idx (some ⟨0, 0, none⟩) x4 (c_p0 + 1)] (fun fb => by kernel_rfl) rfl ⟨cut1 h69.1 h69.2.1, cut2 h69.1 h69.2.1 h69.2.2 (hS63.rd 0).1.2, trivial⟩ ?_
     refine WL.reE [0, 3, 4, 40, 43] [(0, (.slice A_p0 p0.length c_p0)), (3, (iv x4)), (4, (pt g13)), (40, (.bool false)), (43, (.slice (subA A_p0 c_p0 (0 : Int).toNat 4) (x4.toNat - (0 : Int).toNat) (c_p0 - (0 : Int).toNat)))] [(0, (.slice A_p0 p0.length c_p0)), (3, (iv x4)), (4, (pt g13)), (40, (.bool false)), (43, (.slice (subA A_p0 c_p0 (0 : Int).toNat 4) (cut p0 (0 : Int) x4).length (c_p0 - (0 : Int).toNat)))] rfl (by rw [cut_length h69.1 h69.2.1 h69.2.2]) ?_
     have hS70 := hS63.cutR 0 rfl h69.1 h69.2.1 h69.2.2
     refine segF 27 [.v (iv ((rdD p0 x4 z_Tile).N)), .v (iv ((rdD p0 x4 z_Tile).E)), .v (iv ((rdD p0 x4 z_Tile).S)), .v (iv ((rdD p0 x4 z_Tile).W))] [0, 3, 40, 43, 44] [(0, (sv A_p0 p0 c_p0)), (3, (iv x4)), (40, (bv false)), (43, (sv (subA A_p0 c_p0 (0 : Int).toNat 4) (cut p0 (0 : Int) x4) (c_p0 - (0 : Int).toNat))), (44, (.agg #[(iv ((rdD p0 x4 z_Tile).N)), (iv ((rdD p0 x4 z_Tile).E)), (iv ((rdD p0 x4 z_Tile).S)), (iv ((rdD p0 x4 z_Tile).W))]))] [] [4, 5, 6, 7] [(26, ⟨g13, 0, none⟩, (iv ((rdD p0 x4 z_Tile).N))), (26, ⟨g13, 1, none⟩, (iv ((rdD p0 x4 z_Tile).E))), (26, ⟨g13, 2, none⟩, (iv ((rdD p0 x4 z_Tile).S))), (26, ⟨g13, 3, none⟩, (iv ((rdD p0 x4 z_Tile).W)))] (fun fb => by kernel_rfl) rfl trivial rfl ?_
     obtain ⟨t71, ht72, hx67⟩ := bind_some hx67
     refine WL.call (some 45) 51 #[(sv (subA A_p0 c_p0 (0 : Int).toNat 4) (cut p0 (0 : Int) x4) (c_p0 - (0 : Int).toNat)), (.agg #[(iv ((rdD p0 x4 z_Tile).N)), (iv ((rdD p0 x4 z_Tile).E)), (iv ((rdD p0 x4 z_Tile).S)), (iv ((rdD p0 x4 z_Tile).W))])] (fun fb => by kernel_rfl) (ref01_Index_calls _ (cut p0 (0 : Int) x4) (rdD p0 x4 z_Tile) (subA A_p0 c_p0 (0 : Int).toNat 4) (c_p0 - (0 : Int).toNat) t71 _ (hS70.rd 0) ht72) (fun v w73 hR74 => ?_)
     obtain ⟨rfl, hk_⟩ := hR74
     have hS75 := hS70.keepN hk_
     refine ⟨trivial, ?_⟩
     refine seg 30 [] [0, 3, 47] [(0, (sv A_p0 p0 c_p0)), (3, (iv x4)), (47, (bv (decide (t71 ≥ 0))))] [] (fun fb => by kernel_rfl) rfl trivial ?_
     injection hx67 with hx67
     exact WL.to K (decide (t71 ≥ 0)) [0, 3, 47] rfl ⟨⟨(hS75.subR [1]).sub [] (by decide), hx67.symm⟩, trivial⟩
    rintro y76 w78 ⟨⟨hS79, hq77⟩, hF80⟩
    subst hq77
    refine WL.done rfl ?_
    refine WX.next ?_
    rcases br_some hl10 with ⟨h81, hl10⟩ | ⟨h81, hl10⟩
    ·refine WC.condT2 (fun fb => by kernel_rfl) h81 ?_
     refine WC.seq ?_
     refine WC.region ?_
     refine seg 1 [] [2] [(2, (bv false))] [] (fun fb => by kernel_rfl) rfl trivial ?_
     refine WL.done rfl ?_
     refine WX.next ?_
     refine WC.ret ?_
     injection hl10 with hl10
     subst hl10
     injection hf with hf
     subst hf
     exact WX.blockR (WX.thenR (WX.thenR (WX.blockR (WX.thenR (WX.ret_ [] (bv false) [] (fun fb => by kernel_rfl) trivial ⟨_, rfl, rfl, hS79.keep⟩)))))
    refine WC.condF2 (fun fb => by kernel_rfl) h81 ?_
    refine WC.skip ?_
    refine WX.blockN (WX.next ?_)
    refine WC.region ?_
    refine seg 3 [] [0, 3] [(0, (sv A_p0 p0 c_p0)), (3, (iv (w64 (x4 + 1))))] [] (fun fb => by kernel_rfl) rfl trivial ?_
    refine WL.done rfl ?_
    exact WX.again k7 (Nat.lt_succ_self _) (w64 (x4 + 1)) [0, 3] rfl ⟨(hS79.subR [0]).sub [] (by decide), hl10⟩
   refine WC.condF2 (fun fb => by kernel_rfl) h11 ?_
   refine WC.exit ?_
   injection hl10 with hl10
   exact WX.thenX (WX.thenX (WX.blockHere (WX.to Kx5 () [] rfl ⟨(hS9.subR [0]).sub [] (by decide), hl10.symm⟩)))
 rintro y85 w82 ⟨hS83, hq84⟩
 subst hq84
 have hf := sum_inr hf
 refine WX.next ?_
 refine WC.seq ?_
 refine WC.region ?_
 refine seg 1 [] [2] [(2, (bv true))] [] (fun fb => by kernel_rfl) rfl trivial ?_
 refine WL.done rfl ?_
 refine WX.next ?_
 refine WC.ret ?_
 injection hf with hf
 subst hf
 exact WX.ret_ [] (bv true) [] (fun fb => by kernel_rfl) trivial ⟨_, rfl, rfl, hS83.keep⟩
theorem ref02_Power_calls (k : Nat) (p0 : Int) (p1 : Int)  (r : Int) (w : World)  (hf : ref02_Power k p0 p1 = some r) :
  CallsR Tryd.prog 24 #[(iv p0), (iv p1)] w (fun v w' => v = (iv r) ∧ Keeps NoS w w') := by
 have hS : St NoS w w [] [] := St.init (ro_nil _ _)
 refine enter 17 Tryd.func24 rfl Tryd.ntmps24 rfl ?_
 unfold ref02_Power at hf
 refine WC.seq ?_
 refine WC.region ?_
 refine seg 1 [] [0, 1] [(0, (iv p0)), (1, (iv p1))] [] (fun fb => by kernel_rfl) rfl trivial ?_
 refine WL.done rfl ?_
 refine WX.next ?_
 refine WC.seq ?_
 refine WC.region ?_
 refine seg 1 [] [0, 1, 5] [(0, (iv p0)), (1, (iv p1)), (5, (iv 1))] [] (fun fb => by kernel_rfl) rfl trivial ?_
 refine WL.done rfl ?_
 refine WX.next ?_
 refine WC.seq ?_
 refine WC.seq ?_
 refine WC.region ?_
 refine seg 1 [] [0, 1, 5, 6] [(0, (iv p0)), (1, (iv p1)), (5, (iv 1)), (6, (iv 0))] [] (fun fb => by kernel_rfl) rfl trivial ?_
 refine WL.done rfl ?_
 refine WX.next ?_
 obtain ⟨x5, hx6, hf⟩ := bind_some hf
 refine WC.cutN (T := Int) (fun t => [(5, (iv t))]) (fun t w1 => St NoS w w1 [] [] ∧ x5 = t) (fun Kx5 => ?_) ?_
 ·
  refine WC.block ?_
  refine WC.loop (T := Int × Int) (fun t => [(0, (iv p0)), (1, (iv p1)), (5, (iv t.1)), (6, (iv t.2))]) (fun n t w1 => St NoS w w1 [] [] ∧ ref02_Power.l0 n t.1 t.2 p0 p1 = some x5) k (1, 0) [0, 1, 5, 6] rfl ⟨(hS.subR []).sub [] (by decide), hx6⟩ ?_
  rintro k7 ⟨x3, x4⟩ w8 ⟨hS9, hl10⟩
  cases k7 with
  | zero => rw [ref02_Power.l0] at hl10; cases hl10
  | succ k7 =>
   rw [ref02_Power.l0] at hl10
   refine WC.seq ?_
   refine WC.seq ?_
   refine WC.region ?_
   refine seg 3 [] [0, 1, 5, 6, 9] [(0, (iv p0)), (1, (iv p1)), (5, (iv x3)), (6, (iv x4)), (9, (bv (decide (x4 < p1))))] [] (fun fb => by kernel_rfl) rfl trivial ?_
   refine WL.done rfl ?_
   refine WX.next ?_
   rcases br_some hl10 with ⟨h11, hl10⟩ | ⟨h11, hl10⟩
   ·refine WC.condT2 (fun fb => by kernel_rfl) h11 ?_
    refine WC.skip ?_
    refine WX.next ?_
    refine WC.seq ?_
    refine WC.block ?_
    refine WC.region ?_
    refine seg 5 [] [0, 1, 5, 6] [(0, (iv p0)), (1, (iv p1)), (5, (iv (minI (w64 (x3 * p0)) 1000000))), (6, (iv x4))] [] (fun fb => by kernel_rfl) rfl trivial ?_
    refine WL.done rfl ?_
    refine WX.blockN (WX.next ?_)
    refine WC.region ?_
    refine seg 3 [] [0, 1, 5, 6] [(0, (iv p0)), (1, (iv p1)), (5, (iv (minI (w64 (x3 * p0)) 1000000))), (6, (iv (w64 (x4 + 1))))] [] (fun fb => by kernel_rfl) rfl trivial ?_
    refine WL.done rfl ?_
    exact WX.again k7 (Nat.lt_succ_self _) (minI (w64 (x3 * p0)) 1000000, w64 (x4 + 1)) [0, 1, 5, 6] rfl ⟨(hS9.subR []).sub [] (by decide), hl10⟩
   refine WC.condF2 (fun fb => by kernel_rfl) h11 ?_
   refine WC.exit ?_
   injection hl10 with hl10
   exact WX.thenX (WX.thenX (WX.blockHere (WX.to Kx5 x3 [5] rfl ⟨(hS9.subR []).sub [] (by decide), hl10.symm⟩)))
 rintro y15 w12 ⟨hS13, hq14⟩
 subst hq14
 refine WX.next ?_
 refine WC.seq ?_
 refine WC.region ?_
 refine seg 2 [] [4] [(4, (iv x5))] [] (fun fb => by kernel_rfl) rfl trivial ?_
 refine WL.done rfl ?_
 refine WX.next ?_
 refine WC.ret ?_
 injection hf with hf
 subst hf
 exact WX.ret_ [] (iv x5) [] (fun fb => by kernel_rfl) trivial ⟨_, rfl, rfl, hS13.keep⟩
theorem ref02_Great_calls (k : Nat) (p0 : List Tile) (p1 : Int) (A_p0 : Option Addr) (c_p0 : Nat) (r : Bool) (w : World) (hR0 : RO NoS w (rowR enc_Tile A_p0 c_p0 p0)) (hf : ref02_Great k p0 p1 = some r) :
  CallsR Tryd.prog 19 #[(sv A_p0 p0 c_p0), (iv p1)] w (fun v w' => v = (bv r) ∧ Keeps NoS w w') := by
 have hS : St NoS w w [rowR enc_Tile A_p0 c_p0 p0] [] := St.init (ro_cons hR0 (ro_nil _ _))
 refine enter 10 Tryd.func19 rfl Tryd.ntmps19 rfl ?_
 unfold ref02_Great at hf
 refine WC.seq ?_
 refine WC.region ?_
 refine seg 1 [] [0, 1] [(0, (sv A_p0 p0 c_p0)), (1, (iv p1))] [] (fun fb => by kernel_rfl) rfl trivial ?_
 refine WL.done rfl ?_
 refine WX.next ?_
 refine WC.seq ?_
 refine WC.region ?_
 refine seg 3 [] [6, 7] [(6, (iv (p0.length : Int))), (7, (iv p1))] [] (fun fb => by kernel_rfl) rfl trivial ?_
 obtain ⟨t3, ht4, hf⟩ := bind_some hf
 refine WL.call (some 8) 24 #[(iv (p0.length : Int)), (iv p1)] (fun fb => by kernel_rfl) (ref02_Power_calls _ (p0.length : Int) p1 t3 _ ht4) (fun v w5 hR6 => ?_)
 obtain ⟨rfl, hk_⟩ := hR6
 have hS7 := hS.keepN hk_
 refine ⟨trivial, ?_⟩
 refine seg 6 [] [4] [(4, (bv (decide (t3 > 5000))))] [] (fun fb => by kernel_rfl) rfl trivial ?_
 refine WL.done rfl ?_
 refine WX.next ?_
 refine WC.ret ?_
 injection hf with hf
 subst hf
 exact WX.ret_ [] (bv (decide (t3 > 5000))) [] (fun fb => by kernel_rfl) trivial ⟨_, rfl, rfl, hS7.keep⟩
theorem ref02_at_calls (k : Nat) (p0 : List Int) (p1 : Int) (A_p0 : Option Addr) (c_p0 : Nat) (r : Int) (w : World) (hR0 : RO NoS w (rowR encInt A_p0 c_p0 p0)) (hf : ref02_at k p0 p1 = some r) :
  CallsR Tryd.prog 87 #[(sv A_p0 p0 c_p0), (iv p1)] w (fun v w' => v = (iv r) ∧ Keeps NoS w w') := by
 have hS : St NoS w w [rowR encInt A_p0 c_p0 p0] [] := St.init (ro_cons hR0 (ro_nil _ _))
 refine enter 19 Tryd.func87 rfl Tryd.ntmps87 rfl ?_
 unfold ref02_at at hf
 refine WC.seq ?_
 refine WC.region ?_
 refine seg 1 [] [0, 1] [(0, (sv A_p0 p0 c_p0)), (1, (iv p1))] [] (fun fb => by kernel_rfl) rfl trivial ?_
 refine WL.done rfl ?_
 refine WX.next ?_
 refine WC.seq ?_
 refine WC.seq ?_
 refine WC.region ?_
 refine seg 1 [] [0, 1, 5] [(0, (sv A_p0 p0 c_p0)), (1, (iv p1)), (5, (iv 0))] [] (fun fb => by kernel_rfl) rfl trivial ?_
 refine WL.done rfl ?_
 refine WX.next ?_
 obtain ⟨x4, hx5, hf⟩ := bind_some hf
 refine WC.cutN (T := Unit) (fun t => []) (fun t w1 => St NoS w w1 [rowR encInt A_p0 c_p0 p0] [] ∧ x4 = .inr t) (fun Kx4 => ?_) ?_
 ·
  refine WC.block ?_
  refine WC.loop (T := Int) (fun t => [(0, (sv A_p0 p0 c_p0)), (1, (iv p1)), (5, (iv t))]) (fun n t w1 => St NoS w w1 [rowR encInt A_p0 c_p0 p0] [] ∧ ref02_at.l0 n t p0 p1 = some x4) k 0 [0, 1, 5] rfl ⟨(hS.subR [0]).sub [] (by decide), hx5⟩ ?_
  rintro k6 x3 w7 ⟨hS8, hl9⟩
  cases k6 with
  | zero => rw [ref02_at.l0] at hl9; cases hl9
  | succ k6 =>
   rw [ref02_at.l0] at hl9
   refine WC.seq ?_
   refine WC.seq ?_
   refine WC.region ?_
   refine seg 4 [] [0, 1, 5, 9] [(0, (sv A_p0 p0 c_p0)), (1, (iv p1)), (5, (iv x3)), (9, (bv (decide (x3 < (p0.length : Int)))))] [] (fun fb => by kernel_rfl) rfl trivial ?_
   refine WL.done rfl ?_
   refine WX.next ?_
   rcases br_some hl9 with ⟨h10, hl9⟩ | ⟨h10, hl9⟩
   ·refine WC.condT2 (fun fb => by kernel_rfl) h10 ?_
    refine WC.skip ?_
    refine WX.next ?_
    refine WC.seq ?_
    refine WC.block ?_
    refine WC.seq ?_
    refine WC.region ?_
    refine seg 2 [] [0, 1, 5, 12, 13] [(0, (sv A_p0 p0 c_p0)), (1, (iv p1)), (5, (iv x3)), (12, (sv A_p0 p0 c_p0)), (13, (iv x3))] [] (fun fb => by kernel_rfl) rfl trivial ?_
    obtain ⟨h11, hl9⟩ := as_some hl9
    refine seg 6 [.v (iv (rdD p0 x3 0))] [0, 1, 5, 17] [(0, (sv A_p0 p0 c_p0)), (1, (iv p1)), (5, (iv x3)), (17, (bv ((rdD p0 x3 0) == p1)))] [.idx A_p0 x3 p0.length, .cell ((adr A_p0).add ((x3).toNat * 1)) (iv (rdD p0 x3 0))] (fun fb => by kernel_rfl) rfl ⟨rowR.adr (hS8.rd 0).1 h11.1 h11.2, rowR.cell (hS8.rd 0).1 0 h11.1 h11.2 0 rfl, trivial⟩ ?_
    refine WL.done rfl ?_
    refine WX.next ?_
    rcases br_some hl9 with ⟨h12, hl9⟩ | ⟨h12, hl9⟩
    ·refine WC.condT2 (fun fb => by kernel_rfl) h12 ?_
     refine WC.seq ?_
     refine WC.region ?_
     refine seg 2 [] [4] [(4, (iv x3))] [] (fun fb => by kernel_rfl) rfl trivial ?_
     refine WL.done rfl ?_
     refine WX.next ?_
     refine WC.ret ?_
     injection hl9 with hl9
     subst hl9
     injection hf with hf
     subst hf
     exact WX.blockR (WX.thenR (WX.thenR (WX.blockR (WX.thenR (WX.ret_ [] (iv x3) [] (fun fb => by kernel_rfl) trivial ⟨_, rfl, rfl, hS8.keep⟩)))))
    refine WC.condF2 (fun fb => by kernel_rfl) h12 ?_
    refine WC.skip ?_
    refine WX.blockN (WX.next ?_)
    refine WC.region ?_
    refine seg 3 [] [0, 1, 5] [(0, (sv A_p0 p0 c_p0)), (1, (iv p1)), (5, (iv (w64 (x3 + 1))))] [] (fun fb => by kernel_rfl) rfl trivial ?_
    refine WL.done rfl ?_
    exact WX.again k6 (Nat.lt_succ_self _) (w64 (x3 + 1)) [0, 1, 5] rfl ⟨(hS8.subR [0]).sub [] (by decide), hl9⟩
   refine WC.condF2 (fun fb => by kernel_rfl) h10 ?_
   refine WC.exit ?_
   injection hl9 with hl9
   exact WX.thenX (WX.thenX (WX.blockHere (WX.to Kx4 () [] rfl ⟨(hS8.subR [0]).sub [] (by decide), hl9.symm⟩)))
 rintro y16 w13 ⟨hS14, hq15⟩
 subst hq15
 have hf := sum_inr hf
 refine WX.next ?_
 refine WC.seq ?_
 refine WC.region ?_
 refine seg 1 [] [4] [(4, (iv (-1)))] [] (fun fb => by kernel_rfl) rfl trivial ?_
 refine WL.done rfl ?_
 refine WX.next ?_
 refine WC.ret ?_
 injection hf with hf
 subst hf
 exact WX.ret_ [] (iv (-1)) [] (fun fb => by kernel_rfl) trivial ⟨_, rfl, rfl, hS14.keep⟩
theorem ref02_with_calls (k : Nat) (p0 : List Int) (p1 : Int) (A_p0 : Option Addr) (c_p0 : Nat) (r : (List Int)) (w : World) (hI : IoOK w [rowO 3 encInt A_p0 c_p0 p0]) (hf : ref02_with k p0 p1 = some r) :
  CallsR Tryd.prog 67 #[(sv A_p0 p0 c_p0), (iv p1)] w (fun v w' => ∃ (A1_ : Option Addr), ∃ (c1_ : Nat), v = (sv A1_ r c1_) ∧ St (fpL [rowO 3 encInt A_p0 c_p0 p0]) w w' [] [rowO 3 encInt A1_ c1_ r]) := by
 have hS : St (fpL [rowO 3 encInt A_p0 c_p0 p0]) w w [] [rowO 3 encInt A_p0 c_p0 p0] := St.initIO (ro_nil _ _) hI
 refine enter 14 Tryd.func67 rfl Tryd.ntmps67 rfl ?_
 unfold ref02_with at hf
 refine WC.seq ?_
 refine WC.region ?_
 refine seg 1 [] [0, 1] [(0, (sv A_p0 p0 c_p0)), (1, (iv p1))] [] (fun fb => by kernel_rfl) rfl trivial ?_
 refine WL.done rfl ?_
 refine WX.next ?_
 refine WC.seq ?_
 refine WC.seq ?_
 refine WC.region ?_
 refine seg 2 [] [0, 1, 5, 6] [(0, (sv A_p0 p0 c_p0)), (1, (iv p1)), (5, (sv A_p0 p0 c_p0)), (6, (iv p1))] [] (fun fb => by kernel_rfl) rfl trivial ?_
 obtain ⟨t3, ht4, hf⟩ := bind_some hf
 refine WL.call (some 7) 87 #[(sv A_p0 p0 c_p0), (iv p1)] (fun fb => by kernel_rfl) (ref02_at_calls _ p0 p1 A_p0 c_p0 t3 _ (hS.ow 0).ofO ht4) (fun v w5 hR6 => ?_)
 obtain ⟨rfl, hk_⟩ := hR6
 have hS7 := hS.keepN hk_
 refine ⟨trivial, ?_⟩
 refine seg 4 [] [0, 1, 8] [(0, (sv A_p0 p0 c_p0)), (1, (iv p1)), (8, (bv (decide (t3 < 0))))] [] (fun fb => by kernel_rfl) rfl trivial ?_
 refine WL.done rfl ?_
 refine WX.next ?_
 obtain ⟨x10, hx11, hf⟩ := bind_some hf
 refine WC.cutN (T := (List Int) × (Option Addr) × Nat) (fun t => [(0, (sv t.2.1 t.1 t.2.2))]) (fun t w1 => St (fpL [rowO 3 encInt A_p0 c_p0 p0]) w w1 [] [rowO 3 encInt t.2.1 t.2.2 t.1] ∧ x10 = t.1) (fun Kx10 => ?_) ?_
 ·
  rcases br_some hx11 with ⟨h12, hx11⟩ | ⟨h12, hx11⟩
  ·refine WC.condT2 (fun fb => by kernel_rfl) h12 ?_
   refine WC.region ?_
   refine seg 2 [] [9, 10] [(9, (sv A_p0 p0 c_p0)), (10, (iv p1))] [] (fun fb => by kernel_rfl) rfl trivial ?_
   refine WL.new hS7 11 [] (fun g => (.slice (some ⟨g, 0, none⟩) 1 1)) (.cells #[(iv p1)] 3 (0, 0)) [] (fun fb g => by kernel_rfl) trivial (fun g13 w14 hS15 => ?_)
   refine ⟨trivial, ?_⟩
   have hS16 : St (fpL [rowO 3 encInt A_p0 c_p0 p0]) w w14 [] [rowO 3 encInt (some ⟨g13, 0, none⟩) 1 [p1], rowO 3 encInt A_p0 c_p0 p0] := hS15.map1 0 _ (fun h => rowO.ofBlk h rfl (Nat.le_of_ble_eq_true (by kernel_rfl))) (fun _ h => by obtain ⟨_, h1, h2⟩ := h; injection h1 with h1; subst h1; exact h2) [1] (by decide) (by decide)
   obtain ⟨h17, hx11⟩ := as_some hx11
   refine WL.append hS16 1 (d := 12) (tS := 25) (z := (iv 0)) (bytes := 8) (c2 := 1) rfl (fun fb => by kernel_rfl) (rowO.rd (hS16.own 0).1) (by kernel_rfl) (by kernel_rfl) rfl (by decide) h17 (by decide) [0] (by decide) (by decide) (fun A18 c19 w20 hS21 => ?_)
   refine ⟨trivial, ?_⟩
   refine seg 5 [] [0] [(0, (sv A18 (p0 ++ [p1]) c19))] [] (fun fb => by kernel_rfl) rfl trivial ?_
   refine WL.done rfl ?_
   injection hx11 with hx11
   exact WX.to Kx10 (p0 ++ [p1], A18, c19) [0] rfl ⟨(hS21.subR []).sub [0] (by decide), hx11.symm⟩
  refine WC.condF2 (fun fb => by kernel_rfl) h12 ?_
  refine WC.skip ?_
  injection hx11 with hx11
  exact WX.to Kx10 (p0, A_p0, c_p0) [0] rfl ⟨(hS7.subR []).sub [0] (by decide), hx11.symm⟩
 rintro ⟨y25, A8, c9⟩ w22 ⟨hS23, hq24⟩
 subst hq24
 refine WX.next ?_
 refine WC.seq ?_
 refine WC.region ?_
 refine seg 2 [] [4] [(4, (sv A8 x10 c9))] [] (fun fb => by kernel_rfl) rfl trivial ?_
 refine WL.done rfl ?_
 refine WX.next ?_
 refine WC.ret ?_
 injection hf with hf
 subst hf
 exact WX.ret_ [] (sv A8 x10 c9) [] (fun fb => by kernel_rfl) trivial ⟨_, rfl, A8, c9, rfl, (hS23.sub [0] (by decide)).noR⟩
theorem ref02_Colours_calls (k : Nat) (p0 : List Tile) (A_p0 : Option Addr) (c_p0 : Nat) (r : (List Int)) (w : World) (hR0 : RO NoS w (rowR enc_Tile A_p0 c_p0 p0)) (hf : ref02_Colours k p0 = some r) :
  CallsR Tryd.prog 38 #[(sv A_p0 p0 c_p0)] w (fun v w' => ∃ (A1_ : Option Addr), ∃ (c1_ : Nat), v = (sv A1_ r c1_) ∧ St NoS w w' [] [rowO 3 encInt A1_ c1_ r]) := by
 have hS : St NoS w w [rowR enc_Tile A_p0 c_p0 p0] [] := St.init (ro_cons hR0 (ro_nil _ _))
 refine enter 25 Tryd.func38 rfl Tryd.ntmps38 rfl ?_
 unfold ref02_Colours at hf
 refine WC.seq ?_
 refine WC.region ?_
 refine seg 1 [] [0] [(0, (sv A_p0 p0 c_p0))] [] (fun fb => by kernel_rfl) rfl trivial ?_
 refine WL.done rfl ?_
 refine WX.next ?_
 refine WC.seq ?_
 refine WC.region ?_
 refine seg 1 [] [0, 3] [(0, (sv A_p0 p0 c_p0)), (3, (.slice none 0 0))] [] (fun fb => by kernel_rfl) rfl trivial ?_
 refine WL.done rfl ?_
 refine WX.next ?_
 refine WC.seq ?_
 refine WC.seq ?_
 refine WC.region ?_
 refine seg 1 [] [0, 3, 4] [(0, (sv A_p0 p0 c_p0)), (3, (.slice none 0 0)), (4, (iv 0))] [] (fun fb => by kernel_rfl) rfl trivial ?_
 refine WL.done rfl ?_
 refine WX.next ?_
 have hS3 := hS.nilrow 3 encInt
 obtain ⟨x10, hx11, hf⟩ := bind_some hf
 refine WC.cutN (T := (List Int) × (Option Addr) × Nat) (fun t => [(3, (sv t.2.1 t.1 t.2.2))]) (fun t w1 => St NoS w w1 [rowR enc_Tile A_p0 c_p0 p0] [rowO 3 encInt t.2.1 t.2.2 t.1] ∧ x10 = t.1) (fun Kx10 => ?_) ?_
 ·
  refine WC.block ?_
  refine WC.loop (T := ((List Int) × Int) × (Option Addr) × Nat) (fun t => [(0, (sv A_p0 p0 c_p0)), (3, (sv t.2.1 t.1.1 t.2.2)), (4, (iv t.1.2))]) (fun n t w1 => St NoS w w1 [rowR enc_Tile A_p0 c_p0 p0] [rowO 3 encInt t.2.1 t.2.2 t.1.1] ∧ ref02_Colours.l0 n t.1.1 t.1.2 p0 = some x10) k ((([] : List Int), 0), none, 0) [0, 3, 4] rfl ⟨(hS3.subR [0]).sub [0] (by decide), hx11⟩ ?_
  rintro k12 ⟨⟨l6, x7⟩, A4, c5⟩ w13 ⟨hS14, hl15⟩
  cases k12 with
  | zero => rw [ref02_Colours.l0] at hl15; cases hl15
  | succ k12 =>
   rw [ref02_Colours.l0] at hl15
   refine WC.seq ?_
   refine WC.seq ?_
   refine WC.region ?_
   refine seg 4 [] [0, 3, 4, 8] [(0, (sv A_p0 p0 c_p0)), (3, (sv A4 l6 c5)), (4, (iv x7)), (8, (bv (decide (x7 < (p0.length : Int)))))] [] (fun fb => by kernel_rfl) rfl trivial ?_
   refine WL.done rfl ?_
   refine WX.next ?_
   rcases br_some hl15 with ⟨h16, hl15⟩ | ⟨h16, hl15⟩
   ·refine WC.condT2 (fun fb => by kernel_rfl) h16 ?_
    refine WC.skip ?_
    refine WX.next ?_
    refine WC.seq ?_
    refine WC.block ?_
    obtain ⟨h19, hl15⟩ := as_some hl15
    refine WC.regionD ([(5, ((adr A_p0).add ((x7).toNat * 4)), (iv ((rdD p0 x7 z_Tile).N))), (11, (((adr A_p0).add ((x7).toNat * 4)).add 2), (iv ((rdD p0 x7 z_Tile).S)))], [0, 1, 2, 3, 4, 5, 7, 8, 9, 10, 11, 13], [[], [], [], [1, 2], [1, 2, 3], [1, 2, 3, 4], [0, 1, 2, 3, 4, 5], [], [], [7, 8], [7, 8, 9], [7, 8, 9, 10], [0, 1, 2, 3, 4, 5, 6, 7, 8, 9, 10, 11], [0, 1, 2, 3, 4, 5, 6, 7, 8, 9, 10, 11, 12]]) [[0, 1, 2, 3, 4, 5, 7, 8, 9, 10, 11, 6, 12, 13]] (by kernel_rfl) (by kernel_rfl) (NoPanic.block (NoPanic.seq (NoPanic.seq (NoPanic.block (NoPanic.seq (NoPanic.body)))))) ?_
    have hS18 := hS14.drew
    revert hS18
    generalize World.drew w13 = w17
    intro hS18
    refine ⟨⟨rowR.cell (hS18.rd 0).1 z_Tile h19.1 h19.2 0 rfl, rowR.cell (hS18.rd 0).1 z_Tile h19.1 h19.2 2 rfl, trivial⟩, forallC ?_ (forallN)⟩
    refine segF 11 [.v (iv ((rdD p0 x7 z_Tile).N)), .v (iv ((rdD p0 x7 z_Tile).S))] [0, 4, 11, 16, 22] [(0, (sv A_p0 p0 c_p0)), (4, (iv x7)), (11, (sv A4 l6 c5)), (16, (iv ((rdD p0 x7 z_Tile).N))), (22, (iv ((rdD p0 x7 z_Tile).S)))] [.idx A_p0 x7 p0.length, .idx A_p0 x7 p0.length] [0, 1] [(5, ((adr A_p0).add ((x7).toNat * 4)), (iv ((rdD p0 x7 z_Tile).N))), (11, (((adr A_p0).add ((x7).toNat * 4)).add 2), (iv ((rdD p0 x7 z_Tile).S)))] (fun fb => by kernel_rfl) rfl ⟨rowR.adr (hS18.rd 0).1 h19.1 h19.2, rowR.adr (hS18.rd 0).1 h19.1 h19.2, trivial⟩ rfl ?_
    obtain ⟨t20, ht21, hl15⟩ := bind_some hl15
    refine WL.call (some 17) 67 #[(sv A4 l6 c5), (iv ((rdD p0 x7 z_Tile).N))] (fun fb => by kernel_rfl) (ref02_with_calls _ l6 ((rdD p0 x7 z_Tile).N) A4 c5 t20 _ (hS18.io [0] (by decide)) ht21) (fun v w22 hR23 => ?_)
    obtain ⟨A25, c26, rfl, hk_⟩ := hR23
    have hS24 : St NoS w w22 [rowR enc_Tile A_p0 c_p0 p0] [rowO 3 encInt A25 c26 t20] := hS18.call hk_ [0] [] (fun g hg => fpL_sel g hg) (by decide) (by decide)
    refine ⟨⟨rowR.cell (hS24.rd 0).1 z_Tile h19.1 h19.2 2 rfl, trivial⟩, ?_⟩
    obtain ⟨t27, ht28, hl15⟩ := bind_some hl15
    refine WL.call (some 23) 67 #[(sv A25 t20 c26), (iv ((rdD p0 x7 z_Tile).S))] (fun fb => by kernel_rfl) (ref02_with_calls _ t20 ((rdD p0 x7 z_Tile).S) A25 c26 t27 _ (hS24.io [0] (by decide)) ht28) (fun v w29 hR30 => ?_)
    obtain ⟨A32, c33, rfl, hk_⟩ := hR30
    have hS31 : St NoS w w29 [rowR enc_Tile A_p0 c_p0 p0] [rowO 3 encInt A32 c33 t27] := hS24.call hk_ [0] [] (fun g hg => fpL_sel g hg) (by decide) (by decide)
    refine ⟨trivial, ?_⟩
    refine seg 14 [] [0, 3, 4] [(0, (sv A_p0 p0 c_p0)), (3, (sv A32 t27 c33)), (4, (iv x7))] [] (fun fb => by kernel_rfl) rfl trivial ?_
    refine WL.done rfl ?_
    refine WX.blockN (WX.next ?_)
    refine WC.region ?_
    refine seg 3 [] [0, 3, 4] [(0, (sv A_p0 p0 c_p0)), (3, (sv A32 t27 c33)), (4, (iv (w64 (x7 + 1))))] [] (fun fb => by kernel_rfl) rfl trivial ?_
    refine WL.done rfl ?_
    exact WX.again k12 (Nat.lt_succ_self _) ((t27, w64 (x7 + 1)), A32, c33) [0, 3, 4] rfl ⟨(hS31.subR [0]).sub [0] (by decide), hl15⟩
   refine WC.condF2 (fun fb => by kernel_rfl) h16 ?_
   refine WC.exit ?_
   injection hl15 with hl15
   exact WX.thenX (WX.thenX (WX.blockHere (WX.to Kx10 (l6, A4, c5) [3] rfl ⟨(hS14.subR [0]).sub [0] (by decide), hl15.symm⟩)))
 rintro ⟨y37, A8, c9⟩ w34 ⟨hS35, hq36⟩
 subst hq36
 refine WX.next ?_
 refine WC.seq ?_
 refine WC.region ?_
 refine seg 2 [] [2] [(2, (sv A8 x10 c9))] [] (fun fb => by kernel_rfl) rfl trivial ?_
 refine WL.done rfl ?_
 refine WX.next ?_
 refine WC.ret ?_
 injection hf with hf
 subst hf
 exact WX.ret_ [] (sv A8 x10 c9) [] (fun fb => by kernel_rfl) trivial ⟨_, rfl, A8, c9, rfl, (hS35.sub [0] (by decide)).noR⟩
end Gp
