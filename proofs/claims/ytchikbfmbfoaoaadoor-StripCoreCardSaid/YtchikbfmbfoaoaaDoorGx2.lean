/- Walks: each function of the program computes its plain function. -/
import Derived.Test.YtchikbfmbfoaoaaDoorGx1
set_option linter.unusedVariables false
set_option linter.unusedSimpArgs false
set_option maxHeartbeats 4000000
set_option maxRecDepth 8000
namespace Gp
open Go Gw Go.Proofs
theorem law04_awake_calls (k : Nat)  (mG : Glo) (r : Bool) (w : World) (hR0 : RO NoS w (gloO Tryd.prog 2 5 0 1 mG)) (hf : law04_awake k = some r) :
  CallsR Tryd.prog 9 #[] w (fun v w' => v = (bv r) ∧ Keeps NoS w w') := by
 have hS : St NoS w w [gloO Tryd.prog 2 5 0 1 mG] [] := St.init (ro_cons hR0 (ro_nil _ _))
 refine enter 92 Tryd.func9 rfl Tryd.ntmps9 rfl ?_
 unfold law04_awake at hf
 refine WC.seq (WC.region ?_)
 refine seg 1 [] [] [] [] (fun fb => by kernel_rfl) rfl trivial ?_
 refine WL.done rfl (WX.next (WC.seq (WC.region ?_)))
 obtain ⟨t3, ht5, hf⟩ := bind_some hf
 refine WL.call (some 17) 29 #[(.string (⟨#[48, 46, 49, 46, 48, 46, 48, 32, 48, 46, 50, 46, 48, 46, 49]⟩ : ByteArray))] (fun fb => by kernel_rfl) (tile_Parse_calls _ (⟨#[48, 46, 49, 46, 48, 46, 48, 32, 48, 46, 50, 46, 48, 46, 49]⟩ : ByteArray) mG t3 _ (hS.rd 0) ht5) (fun v w6 hR7 => ?_)
 obtain ⟨A10, c11, rfl, hk_⟩ := hR7
 have hS8 := hS.go w6 [rowO 53 enc_Tile A10 c11 t3.1] (hS.call hk_ [] [] (fun g hg => hg.elim) (by simp) (by decide))
 refine ⟨trivial, ?_⟩
 refine seg 6 [] [1] [(1, (sv A10 t3.1 c11))] [] (fun fb => by kernel_rfl) rfl trivial ?_
 refine WL.done rfl (WX.next (WC.seq (WC.region ?_)))
 obtain ⟨t12, ht13, hf⟩ := bind_some hf
 refine WL.call (some 21) 29 #[(.string (⟨#[48, 46, 49, 46, 49, 46, 48, 32, 49, 46, 48, 46, 48, 46, 49]⟩ : ByteArray))] (fun fb => by kernel_rfl) (tile_Parse_calls _ (⟨#[48, 46, 49, 46, 49, 46, 48, 32, 49, 46, 48, 46, 48, 46, 49]⟩ : ByteArray) mG t12 _ (hS8.rd 0) ht13) (fun v w14 hR15 => ?_)
 obtain ⟨A17, c18, rfl, hk_⟩ := hR15
 have hS16 := hS8.go w14 [rowO 53 enc_Tile A17 c18 t12.1, rowO 53 enc_Tile A10 c11 t3.1] (hS8.call hk_ [] [0] (fun g hg => hg.elim) (by simp) (by decide))
 refine ⟨trivial, ?_⟩
 refine seg 6 [] [1, 3] [(1, (sv A10 t3.1 c11)), (3, (sv A17 t12.1 c18))] [] (fun fb => by kernel_rfl) rfl trivial ?_
 refine WL.done rfl (WX.next (WC.seq (WC.region ?_)))
 refine seg 1 [] [1, 3, 25] [(1, (sv A10 t3.1 c11)), (3, (sv A17 t12.1 c18)), (25, (sv A10 t3.1 c11))] [] (fun fb => by kernel_rfl) rfl trivial ?_
 obtain ⟨t19, ht20, hf⟩ := bind_some hf
 refine WL.call (some 26) 11 #[(sv A10 t3.1 c11)] (fun fb => by kernel_rfl) (strip_Rows_calls _ t3.1 A10 c11 t19 _ (hS16.ow 1).ofO ht20) (fun v w21 hR22 => ?_)
 obtain ⟨rfl, hk_⟩ := hR22
 have hS23 := hS16.keepN hk_
 refine ⟨trivial, ?_⟩
 refine seg 7 [] [1, 3, 5, 6] [(1, (sv A10 t3.1 c11)), (3, (sv A17 t12.1 c18)), (5, (iv t19.1)), (6, (iv t19.2))] [] (fun fb => by kernel_rfl) rfl trivial ?_
 refine WL.done rfl (WX.next (WC.seq (WC.region ?_)))
 refine seg 1 [] [3, 5, 6, 30] [(3, (sv A17 t12.1 c18)), (5, (iv t19.1)), (6, (iv t19.2)), (30, (sv A10 t3.1 c11))] [] (fun fb => by kernel_rfl) rfl trivial ?_
 obtain ⟨t24, ht25, hf⟩ := bind_some hf
 refine WL.call (some 31) 10 #[(sv A10 t3.1 c11)] (fun fb => by kernel_rfl) (strip_Core_calls _ t3.1 A10 c11 t24 _ (hS23.ow 1).ofO ht25) (fun v w26 hR27 => ?_)
 obtain ⟨A29, c30, rfl, hk_⟩ := hR27
 have hS28 := hS16.go w26 [rowO 3 encInt A29 c30 t24.1, rowO 53 enc_Tile A17 c18 t12.1, rowO 53 enc_Tile A10 c11 t3.1] (hS23.call hk_ [] [0, 1] (fun g hg => hg.elim) (by simp) (by decide))
 refine ⟨trivial, ?_⟩
 refine seg 7 [] [3, 5, 6, 7, 8] [(3, (sv A17 t12.1 c18)), (5, (iv t19.1)), (6, (iv t19.2)), (7, (sv A29 t24.1 c30)), (8, (iv t24.2))] [] (fun fb => by kernel_rfl) rfl trivial ?_
 refine WL.done rfl (WX.next (WC.seq (WC.region ?_)))
 refine seg 2 [] [3, 5, 6, 7, 8, 35, 36] [(3, (sv A17 t12.1 c18)), (5, (iv t19.1)), (6, (iv t19.2)), (7, (sv A29 t24.1 c30)), (8, (iv t24.2)), (35, (sv A17 t12.1 c18)), (36, (sv A17 t12.1 c18))] [] (fun fb => by kernel_rfl) rfl trivial ?_
 obtain ⟨t31, ht32, hf⟩ := bind_some hf
 refine WL.call (some 37) 15 #[(sv A17 t12.1 c18), (sv A17 t12.1 c18)] (fun fb => by kernel_rfl) (strip_On_calls _ t12.1 t12.1 A17 c18 A17 c18 t31 _ (hS28.ow 1).ofO (hS28.ow 1).ofO ht32) (fun v w33 hR34 => ?_)
 obtain ⟨A36, c37, A38, c39, rfl, hk_⟩ := hR34
 have hS35 := hS28.go w33 [rowO 53 enc_Tile A36 c37 t31.1, rowO 78 enc_A2_Int A38 c39 t31.2.1, rowO 3 encInt A29 c30 t24.1, rowO 53 enc_Tile A17 c18 t12.1, rowO 53 enc_Tile A10 c11 t3.1] (hS28.call hk_ [] [0, 1, 2] (fun g hg => hg.elim) (by simp) (by decide))
 refine ⟨trivial, ?_⟩
 refine seg 10 [] [3, 5, 6, 7, 8, 9, 10, 11] [(3, (sv A17 t12.1 c18)), (5, (iv t19.1)), (6, (iv t19.2)), (7, (sv A29 t24.1 c30)), (8, (iv t24.2)), (9, (sv A36 t31.1 c37)), (10, (sv A38 t31.2.1 c39)), (11, (iv t31.2.2))] [] (fun fb => by kernel_rfl) rfl trivial ?_
 refine WL.done rfl (WX.next (WC.seq (WC.region ?_)))
 refine seg 1 [] [3, 5, 6, 7, 8, 10, 11, 42] [(3, (sv A17 t12.1 c18)), (5, (iv t19.1)), (6, (iv t19.2)), (7, (sv A29 t24.1 c30)), (8, (iv t24.2)), (10, (sv A38 t31.2.1 c39)), (11, (iv t31.2.2)), (42, (sv A36 t31.1 c37))] [] (fun fb => by kernel_rfl) rfl trivial ?_
 obtain ⟨t40, ht41, hf⟩ := bind_some hf
 refine WL.call (some 43) 30 #[(sv A36 t31.1 c37)] (fun fb => by kernel_rfl) (tile_Text_calls _ t31.1 A36 c37 mG t40 _ (hS35.ow 0).ofO (hS35.rd 0) ht41) (fun v w42 hR43 => ?_)
 obtain ⟨rfl, hk_⟩ := hR43
 have hS44 := hS35.keepN hk_
 refine ⟨trivial, ?_⟩
 refine seg 7 [] [3, 5, 6, 7, 8, 10, 11, 12, 13] [(3, (sv A17 t12.1 c18)), (5, (iv t19.1)), (6, (iv t19.2)), (7, (sv A29 t24.1 c30)), (8, (iv t24.2)), (10, (sv A38 t31.2.1 c39)), (11, (iv t31.2.2)), (12, (.string t40.1)), (13, (iv t40.2))] [] (fun fb => by kernel_rfl) rfl trivial ?_
 refine WL.done rfl (WX.next (WC.seq (WC.region ?_)))
 refine seg 1 [] [5, 6, 7, 8, 10, 11, 12, 13, 47] [(5, (iv t19.1)), (6, (iv t19.2)), (7, (sv A29 t24.1 c30)), (8, (iv t24.2)), (10, (sv A38 t31.2.1 c39)), (11, (iv t31.2.2)), (12, (.string t40.1)), (13, (iv t40.2)), (47, (sv A17 t12.1 c18))] [] (fun fb => by kernel_rfl) rfl trivial ?_
 obtain ⟨t45, ht46, hf⟩ := bind_some hf
 refine WL.call (some 48) 19 #[(sv A17 t12.1 c18), (iv 0), (iv 1), (iv 3)] (fun fb => by kernel_rfl) (strip_Path_calls _ t12.1 0 1 3 A17 c18 t45 _ (hS44.ow 3).ofO ht46) (fun v w47 hR48 => ?_)
 obtain ⟨A50, c51, rfl, hk_⟩ := hR48
 have hS49 := hS35.go w47 [rowO 3 encInt A50 c51 t45.1, rowO 53 enc_Tile A36 c37 t31.1, rowO 78 enc_A2_Int A38 c39 t31.2.1, rowO 3 encInt A29 c30 t24.1, rowO 53 enc_Tile A17 c18 t12.1, rowO 53 enc_Tile A10 c11 t3.1] (hS44.call hk_ [] [0, 1, 2, 3, 4] (fun g hg => hg.elim) (by simp) (by decide))
 refine ⟨trivial, ?_⟩
 refine seg 7 [] [5, 6, 7, 8, 10, 11, 12, 13, 14, 15] [(5, (iv t19.1)), (6, (iv t19.2)), (7, (sv A29 t24.1 c30)), (8, (iv t24.2)), (10, (sv A38 t31.2.1 c39)), (11, (iv t31.2.2)), (12, (.string t40.1)), (13, (iv t40.2)), (14, (sv A50 t45.1 c51)), (15, (iv t45.2))] [] (fun fb => by kernel_rfl) rfl trivial ?_
 refine WL.done rfl (WX.next (WC.seq (WC.region ?_)))
 refine seg 3 [] [5, 7, 8, 10, 11, 12, 13, 14, 15, 53] [(5, (iv t19.1)), (7, (sv A29 t24.1 c30)), (8, (iv t24.2)), (10, (sv A38 t31.2.1 c39)), (11, (iv t31.2.2)), (12, (.string t40.1)), (13, (iv t40.2)), (14, (sv A50 t45.1 c51)), (15, (iv t45.2)), (53, (bv (t19.2 == 0)))] [] (fun fb => by kernel_rfl) rfl trivial ?_
 refine WL.cutV (T := Bool) 6 (fun t => [(56, (bv t)), (5, (iv t19.1)), (7, (sv A29 t24.1 c30)), (10, (sv A38 t31.2.1 c39)), (11, (iv t31.2.2)), (12, (.string t40.1)), (13, (iv t40.2)), (14, (sv A50 t45.1 c51)), (15, (iv t45.2))]) (fun t => ((t19.2 == 0) && (t24.2 == 0)) = t) (fun K => ?_) ?_
 ·
  rcases Bool.eq_false_or_eq_true (t19.2 == 0) with h52 | h52
  ·
   refine WL.setB 53 h52 rfl ?_
   refine seg 6 [] [5, 7, 10, 11, 12, 13, 14, 15, 56] [(5, (iv t19.1)), (7, (sv A29 t24.1 c30)), (10, (sv A38 t31.2.1 c39)), (11, (iv t31.2.2)), (12, (.string t40.1)), (13, (iv t40.2)), (14, (sv A50 t45.1 c51)), (15, (iv t45.2)), (56, (bv (t24.2 == 0)))] [] (fun fb => by kernel_rfl) rfl trivial ?_
   exact WL.toV K (t24.2 == 0) [56, 5, 7, 10, 11, 12, 13, 14, 15] rfl (by first | (rw [h52]; done) | (rw [h52]; rfl))
  refine WL.setB 53 h52 rfl ?_
  refine seg 6 [] [5, 7, 10, 11, 12, 13, 14, 15, 56] [(5, (iv t19.1)), (7, (sv A29 t24.1 c30)), (10, (sv A38 t31.2.1 c39)), (11, (iv t31.2.2)), (12, (.string t40.1)), (13, (iv t40.2)), (14, (sv A50 t45.1 c51)), (15, (iv t45.2)), (56, (bv false))] [] (fun fb => by kernel_rfl) rfl trivial ?_
  exact WL.toV K false [56, 5, 7, 10, 11, 12, 13, 14, 15] rfl (by first | (rw [h52]; done) | (rw [h52]; rfl))
 rintro b53 rfl
 refine seg 7 [] [5, 7, 10, 11, 12, 13, 14, 15, 57] [(5, (iv t19.1)), (7, (sv A29 t24.1 c30)), (10, (sv A38 t31.2.1 c39)), (11, (iv t31.2.2)), (12, (.string t40.1)), (13, (iv t40.2)), (14, (sv A50 t45.1 c51)), (15, (iv t45.2)), (57, (bv ((t19.2 == 0) && (t24.2 == 0))))] [] (fun fb => by kernel_rfl) rfl trivial ?_
 refine WL.cutV (T := Bool) 10 (fun t => [(60, (bv t)), (5, (iv t19.1)), (7, (sv A29 t24.1 c30)), (10, (sv A38 t31.2.1 c39)), (12, (.string t40.1)), (13, (iv t40.2)), (14, (sv A50 t45.1 c51)), (15, (iv t45.2))]) (fun t => (((t19.2 == 0) && (t24.2 == 0)) && (t31.2.2 == 0)) = t) (fun K => ?_) ?_
 ·
  rcases Bool.eq_false_or_eq_true ((t19.2 == 0) && (t24.2 == 0)) with h54 | h54
  ·
   refine WL.setB 57 h54 rfl ?_
   refine seg 10 [] [5, 7, 10, 12, 13, 14, 15, 60] [(5, (iv t19.1)), (7, (sv A29 t24.1 c30)), (10, (sv A38 t31.2.1 c39)), (12, (.string t40.1)), (13, (iv t40.2)), (14, (sv A50 t45.1 c51)), (15, (iv t45.2)), (60, (bv (t31.2.2 == 0)))] [] (fun fb => by kernel_rfl) rfl trivial ?_
   exact WL.toV K (t31.2.2 == 0) [60, 5, 7, 10, 12, 13, 14, 15] rfl (by first | (rw [h54]; done) | (rw [h54]; rfl))
  refine WL.setB 57 h54 rfl ?_
  refine seg 10 [] [5, 7, 10, 12, 13, 14, 15, 60] [(5, (iv t19.1)), (7, (sv A29 t24.1 c30)), (10, (sv A38 t31.2.1 c39)), (12, (.string t40.1)), (13, (iv t40.2)), (14, (sv A50 t45.1 c51)), (15, (iv t45.2)), (60, (bv false))] [] (fun fb => by kernel_rfl) rfl trivial ?_
  exact WL.toV K false [60, 5, 7, 10, 12, 13, 14, 15] rfl (by first | (rw [h54]; done) | (rw [h54]; rfl))
 rintro b55 rfl
 refine seg 11 [] [5, 7, 10, 12, 13, 14, 15, 61] [(5, (iv t19.1)), (7, (sv A29 t24.1 c30)), (10, (sv A38 t31.2.1 c39)), (12, (.string t40.1)), (13, (iv t40.2)), (14, (sv A50 t45.1 c51)), (15, (iv t45.2)), (61, (bv (((t19.2 == 0) && (t24.2 == 0)) && (t31.2.2 == 0))))] [] (fun fb => by kernel_rfl) rfl trivial ?_
 refine WL.cutV (T := Bool) 14 (fun t => [(64, (bv t)), (5, (iv t19.1)), (7, (sv A29 t24.1 c30)), (10, (sv A38 t31.2.1 c39)), (12, (.string t40.1)), (14, (sv A50 t45.1 c51)), (15, (iv t45.2))]) (fun t => ((((t19.2 == 0) && (t24.2 == 0)) && (t31.2.2 == 0)) && (t40.2 == 0)) = t) (fun K => ?_) ?_
 ·
  rcases Bool.eq_false_or_eq_true (((t19.2 == 0) && (t24.2 == 0)) && (t31.2.2 == 0)) with h56 | h56
  ·
   refine WL.setB 61 h56 rfl ?_
   refine seg 14 [] [5, 7, 10, 12, 14, 15, 64] [(5, (iv t19.1)), (7, (sv A29 t24.1 c30)), (10, (sv A38 t31.2.1 c39)), (12, (.string t40.1)), (14, (sv A50 t45.1 c51)), (15, (iv t45.2)), (64, (bv (t40.2 == 0)))] [] (fun fb => by kernel_rfl) rfl trivial ?_
   exact WL.toV K (t40.2 == 0) [64, 5, 7, 10, 12, 14, 15] rfl (by first | (rw [h56]; done) | (rw [h56]; rfl))
  refine WL.setB 61 h56 rfl ?_
  refine seg 14 [] [5, 7, 10, 12, 14, 15, 64] [(5, (iv t19.1)), (7, (sv A29 t24.1 c30)), (10, (sv A38 t31.2.1 c39)), (12, (.string t40.1)), (14, (sv A50 t45.1 c51)), (15, (iv t45.2)), (64, (bv false))] [] (fun fb => by kernel_rfl) rfl trivial ?_
  exact WL.toV K false [64, 5, 7, 10, 12, 14, 15] rfl (by first | (rw [h56]; done) | (rw [h56]; rfl))
 rintro b57 rfl
 refine seg 15 [] [5, 7, 10, 12, 14, 15, 65] [(5, (iv t19.1)), (7, (sv A29 t24.1 c30)), (10, (sv A38 t31.2.1 c39)), (12, (.string t40.1)), (14, (sv A50 t45.1 c51)), (15, (iv t45.2)), (65, (bv ((((t19.2 == 0) && (t24.2 == 0)) && (t31.2.2 == 0)) && (t40.2 == 0))))] [] (fun fb => by kernel_rfl) rfl trivial ?_
 refine WL.cutV (T := Bool) 18 (fun t => [(68, (bv t)), (5, (iv t19.1)), (7, (sv A29 t24.1 c30)), (10, (sv A38 t31.2.1 c39)), (12, (.string t40.1)), (14, (sv A50 t45.1 c51))]) (fun t => (((((t19.2 == 0) && (t24.2 == 0)) && (t31.2.2 == 0)) && (t40.2 == 0)) && (t45.2 == 0)) = t) (fun K => ?_) ?_
 ·
  rcases Bool.eq_false_or_eq_true ((((t19.2 == 0) && (t24.2 == 0)) && (t31.2.2 == 0)) && (t40.2 == 0)) with h58 | h58
  ·
   refine WL.setB 65 h58 rfl ?_
   refine seg 18 [] [5, 7, 10, 12, 14, 68] [(5, (iv t19.1)), (7, (sv A29 t24.1 c30)), (10, (sv A38 t31.2.1 c39)), (12, (.string t40.1)), (14, (sv A50 t45.1 c51)), (68, (bv (t45.2 == 0)))] [] (fun fb => by kernel_rfl) rfl trivial ?_
   exact WL.toV K (t45.2 == 0) [68, 5, 7, 10, 12, 14] rfl (by first | (rw [h58]; done) | (rw [h58]; rfl))
  refine WL.setB 65 h58 rfl ?_
  refine seg 18 [] [5, 7, 10, 12, 14, 68] [(5, (iv t19.1)), (7, (sv A29 t24.1 c30)), (10, (sv A38 t31.2.1 c39)), (12, (.string t40.1)), (14, (sv A50 t45.1 c51)), (68, (bv false))] [] (fun fb => by kernel_rfl) rfl trivial ?_
  exact WL.toV K false [68, 5, 7, 10, 12, 14] rfl (by first | (rw [h58]; done) | (rw [h58]; rfl))
 rintro b59 rfl
 refine seg 19 [] [5, 7, 10, 12, 14, 69] [(5, (iv t19.1)), (7, (sv A29 t24.1 c30)), (10, (sv A38 t31.2.1 c39)), (12, (.string t40.1)), (14, (sv A50 t45.1 c51)), (69, (bv (((((t19.2 == 0) && (t24.2 == 0)) && (t31.2.2 == 0)) && (t40.2 == 0)) && (t45.2 == 0))))] [] (fun fb => by kernel_rfl) rfl trivial ?_
 refine WL.cutV (T := Bool) 22 (fun t => [(72, (bv t)), (7, (sv A29 t24.1 c30)), (10, (sv A38 t31.2.1 c39)), (12, (.string t40.1)), (14, (sv A50 t45.1 c51))]) (fun t => ((((((t19.2 == 0) && (t24.2 == 0)) && (t31.2.2 == 0)) && (t40.2 == 0)) && (t45.2 == 0)) && (t19.1 == 2)) = t) (fun K => ?_) ?_
 ·
  rcases Bool.eq_false_or_eq_true (((((t19.2 == 0) && (t24.2 == 0)) && (t31.2.2 == 0)) && (t40.2 == 0)) && (t45.2 == 0)) with h60 | h60
  ·
   refine WL.setB 69 h60 rfl ?_
   refine seg 22 [] [7, 10, 12, 14, 72] [(7, (sv A29 t24.1 c30)), (10, (sv A38 t31.2.1 c39)), (12, (.string t40.1)), (14, (sv A50 t45.1 c51)), (72, (bv (t19.1 == 2)))] [] (fun fb => by kernel_rfl) rfl trivial ?_
   exact WL.toV K (t19.1 == 2) [72, 7, 10, 12, 14] rfl (by first | (rw [h60]; done) | (rw [h60]; rfl))
  refine WL.setB 69 h60 rfl ?_
  refine seg 22 [] [7, 10, 12, 14, 72] [(7, (sv A29 t24.1 c30)), (10, (sv A38 t31.2.1 c39)), (12, (.string t40.1)), (14, (sv A50 t45.1 c51)), (72, (bv false))] [] (fun fb => by kernel_rfl) rfl trivial ?_
  exact WL.toV K false [72, 7, 10, 12, 14] rfl (by first | (rw [h60]; done) | (rw [h60]; rfl))
 rintro b61 rfl
 refine seg 23 [] [7, 10, 12, 14, 73] [(7, (sv A29 t24.1 c30)), (10, (sv A38 t31.2.1 c39)), (12, (.string t40.1)), (14, (sv A50 t45.1 c51)), (73, (bv ((((((t19.2 == 0) && (t24.2 == 0)) && (t31.2.2 == 0)) && (t40.2 == 0)) && (t45.2 == 0)) && (t19.1 == 2))))] [] (fun fb => by kernel_rfl) rfl trivial ?_
 refine WL.cutV (T := Bool) 27 (fun t => [(77, (bv t)), (10, (sv A38 t31.2.1 c39)), (12, (.string t40.1)), (14, (sv A50 t45.1 c51))]) (fun t => (((((((t19.2 == 0) && (t24.2 == 0)) && (t31.2.2 == 0)) && (t40.2 == 0)) && (t45.2 == 0)) && (t19.1 == 2)) && ((t24.1.length : Int) == 0)) = t) (fun K => ?_) ?_
 ·
  rcases Bool.eq_false_or_eq_true ((((((t19.2 == 0) && (t24.2 == 0)) && (t31.2.2 == 0)) && (t40.2 == 0)) && (t45.2 == 0)) && (t19.1 == 2)) with h62 | h62
  ·
   refine WL.setB 73 h62 rfl ?_
   refine seg 27 [] [10, 12, 14, 77] [(10, (sv A38 t31.2.1 c39)), (12, (.string t40.1)), (14, (sv A50 t45.1 c51)), (77, (bv ((t24.1.length : Int) == 0)))] [] (fun fb => by kernel_rfl) rfl trivial ?_
   exact WL.toV K ((t24.1.length : Int) == 0) [77, 10, 12, 14] rfl (by first | (rw [h62]; done) | (rw [h62]; rfl))
  refine WL.setB 73 h62 rfl ?_
  refine seg 27 [] [10, 12, 14, 77] [(10, (sv A38 t31.2.1 c39)), (12, (.string t40.1)), (14, (sv A50 t45.1 c51)), (77, (bv false))] [] (fun fb => by kernel_rfl) rfl trivial ?_
  exact WL.toV K false [77, 10, 12, 14] rfl (by first | (rw [h62]; done) | (rw [h62]; rfl))
 rintro b63 rfl
 refine seg 28 [] [10, 12, 14, 78] [(10, (sv A38 t31.2.1 c39)), (12, (.string t40.1)), (14, (sv A50 t45.1 c51)), (78, (bv (((((((t19.2 == 0) && (t24.2 == 0)) && (t31.2.2 == 0)) && (t40.2 == 0)) && (t45.2 == 0)) && (t19.1 == 2)) && ((t24.1.length : Int) == 0))))] [] (fun fb => by kernel_rfl) rfl trivial ?_
 refine WL.cutV (T := Bool) 32 (fun t => [(82, (bv t)), (12, (.string t40.1)), (14, (sv A50 t45.1 c51))]) (fun t => ((((((((t19.2 == 0) && (t24.2 == 0)) && (t31.2.2 == 0)) && (t40.2 == 0)) && (t45.2 == 0)) && (t19.1 == 2)) && ((t24.1.length : Int) == 0)) && ((t31.2.1.length : Int) == 2)) = t) (fun K => ?_) ?_
 ·
  rcases Bool.eq_false_or_eq_true (((((((t19.2 == 0) && (t24.2 == 0)) && (t31.2.2 == 0)) && (t40.2 == 0)) && (t45.2 == 0)) && (t19.1 == 2)) && ((t24.1.length : Int) == 0)) with h65 | h65
  ·
   refine WL.setB 78 h65 rfl ?_
   refine seg 32 [] [12, 14, 82] [(12, (.string t40.1)), (14, (sv A50 t45.1 c51)), (82, (bv ((t31.2.1.length : Int) == 2)))] [] (fun fb => by kernel_rfl) rfl trivial ?_
   exact WL.toV K ((t31.2.1.length : Int) == 2) [82, 12, 14] rfl (by first | (rw [h65]; done) | (rw [h65]; rfl))
  refine WL.setB 78 h65 rfl ?_
  refine seg 32 [] [12, 14, 82] [(12, (.string t40.1)), (14, (sv A50 t45.1 c51)), (82, (bv false))] [] (fun fb => by kernel_rfl) rfl trivial ?_
  exact WL.toV K false [82, 12, 14] rfl (by first | (rw [h65]; done) | (rw [h65]; rfl))
 rintro b66 rfl
 refine seg 33 [] [12, 14, 83] [(12, (.string t40.1)), (14, (sv A50 t45.1 c51)), (83, (bv ((((((((t19.2 == 0) && (t24.2 == 0)) && (t31.2.2 == 0)) && (t40.2 == 0)) && (t45.2 == 0)) && (t19.1 == 2)) && ((t24.1.length : Int) == 0)) && ((t31.2.1.length : Int) == 2))))] [] (fun fb => by kernel_rfl) rfl trivial ?_
 refine WL.cutV (T := Bool) 36 (fun t => [(86, (bv t)), (14, (sv A50 t45.1 c51))]) (fun t => (((((((((t19.2 == 0) && (t24.2 == 0)) && (t31.2.2 == 0)) && (t40.2 == 0)) && (t45.2 == 0)) && (t19.1 == 2)) && ((t24.1.length : Int) == 0)) && ((t31.2.1.length : Int) == 2)) && (strEq t40.1 (⟨#[49, 46, 48, 46, 49, 46, 49, 32, 48, 46, 49, 46, 48, 46, 48]⟩ : ByteArray))) = t) (fun K => ?_) ?_
 ·
  rcases Bool.eq_false_or_eq_true ((((((((t19.2 == 0) && (t24.2 == 0)) && (t31.2.2 == 0)) && (t40.2 == 0)) && (t45.2 == 0)) && (t19.1 == 2)) && ((t24.1.length : Int) == 0)) && ((t31.2.1.length : Int) == 2)) with h67 | h67
  ·
   refine WL.setB 83 h67 rfl ?_
   refine seg 34 [] [14, 83, 84] [(14, (sv A50 t45.1 c51)), (83, (bv true)), (84, (.string t40.1))] [] (fun fb => by kernel_rfl) rfl trivial ?_
   refine seg 35 [] [14, 83, 85] [(14, (sv A50 t45.1 c51)), (83, (bv true)), (85, (bv (t40.1.toList == (⟨#[49, 46, 48, 46, 49, 46, 49, 32, 48, 46, 49, 46, 48, 46, 48]⟩ : ByteArray).toList)))] [] (fun fb => by kernel_rfl) rfl trivial ?_
   refine WL.setB 85 (strEq_raw t40.1 (⟨#[49, 46, 48, 46, 49, 46, 49, 32, 48, 46, 49, 46, 48, 46, 48]⟩ : ByteArray)) rfl ?_
   refine seg 36 [] [14, 86] [(14, (sv A50 t45.1 c51)), (86, (bv (strEq t40.1 (⟨#[49, 46, 48, 46, 49, 46, 49, 32, 48, 46, 49, 46, 48, 46, 48]⟩ : ByteArray))))] [] (fun fb => by kernel_rfl) rfl trivial ?_
   exact WL.toV K (strEq t40.1 (⟨#[49, 46, 48, 46, 49, 46, 49, 32, 48, 46, 49, 46, 48, 46, 48]⟩ : ByteArray)) [86, 14] rfl (by first | (rw [h67]; done) | (rw [h67]; rfl))
  refine WL.setB 83 h67 rfl ?_
  refine seg 36 [] [14, 86] [(14, (sv A50 t45.1 c51)), (86, (bv false))] [] (fun fb => by kernel_rfl) rfl trivial ?_
  exact WL.toV K false [86, 14] rfl (by first | (rw [h67]; done) | (rw [h67]; rfl))
 rintro b68 rfl
 refine seg 37 [] [14, 87] [(14, (sv A50 t45.1 c51)), (87, (bv (((((((((t19.2 == 0) && (t24.2 == 0)) && (t31.2.2 == 0)) && (t40.2 == 0)) && (t45.2 == 0)) && (t19.1 == 2)) && ((t24.1.length : Int) == 0)) && ((t31.2.1.length : Int) == 2)) && (strEq t40.1 (⟨#[49, 46, 48, 46, 49, 46, 49, 32, 48, 46, 49, 46, 48, 46, 48]⟩ : ByteArray)))))] [] (fun fb => by kernel_rfl) rfl trivial ?_
 obtain ⟨x69, hx70, hf⟩ := bind_some hf
 refine WL.cutW (T := Bool) 41 (fun t => [(91, (bv t))]) (fun t w1 => (St NoS w w1 [gloO Tryd.prog 2 5 0 1 mG] [] ∧ x69 = t) ∧ CellsOK [] w1) (fun K => ?_) ?_
 ·
  rcases br_some hx70 with ⟨h71, hx70⟩ | ⟨h71, hx70⟩
  ·
   refine WL.setB 87 h71 rfl ?_
   refine seg 38 [] [87, 88] [(87, (bv true)), (88, (sv A50 t45.1 c51))] [] (fun fb => by kernel_rfl) rfl trivial ?_
   refine WL.new hS49 89 [] (fun g => (.slice (some ⟨g, 0, none⟩) 3 3)) (.cells #[(iv 0), (iv 1), (iv 0)] 3 (0, 0)) [] (fun fb g => by kernel_rfl) trivial (fun g72 w73 hS74 => ?_)
   refine ⟨trivial, ?_⟩
   have hS75 := hS49.go w73 [rowO 3 encInt (some ⟨g72, 0, none⟩) 3 [0, 1, 0], rowO 3 encInt A50 c51 t45.1, rowO 53 enc_Tile A36 c37 t31.1, rowO 78 enc_A2_Int A38 c39 t31.2.1, rowO 3 encInt A29 c30 t24.1, rowO 53 enc_Tile A17 c18 t12.1, rowO 53 enc_Tile A10 c11 t3.1] (hS74.map1 0 _ (fun h => rowO.ofBlk h rfl (Nat.le_of_ble_eq_true (by kernel_rfl))) (fun _ h => by obtain ⟨_, h1, h2⟩ := h; injection h1 with h1; subst h1; exact h2) [1, 2, 3, 4, 5, 6] (by decide) (by decide))
   obtain ⟨t76, ht77, hx70⟩ := bind_some hx70
   refine WL.call (some 90) 12 #[(sv A50 t45.1 c51), (sv (some ⟨g72, 0, none⟩) [0, 1, 0] 3)] (fun fb => by kernel_rfl) (ref01_Same_calls _ t45.1 [0, 1, 0] A50 c51 (some ⟨g72, 0, none⟩) 3 t76 _ (hS75.ow 1).ofO (hS75.ow 0).ofO ht77) (fun v w78 hR79 => ?_)
   obtain ⟨rfl, hk_⟩ := hR79
   have hS80 := hS75.keepN hk_
   refine ⟨trivial, ?_⟩
   refine seg 41 [] [91] [(91, (bv t76))] [] (fun fb => by kernel_rfl) rfl trivial ?_
   injection hx70 with hx70
   exact WL.to K t76 [91] rfl ⟨⟨(hS80.subR [0]).sub [] (by decide), hx70.symm⟩, trivial⟩
  refine WL.setB 87 h71 rfl ?_
  refine seg 41 [] [91] [(91, (bv false))] [] (fun fb => by kernel_rfl) rfl trivial ?_
  injection hx70 with hx70
  exact WL.to K false [91] rfl ⟨⟨(hS49.subR [0]).sub [] (by decide), hx70.symm⟩, trivial⟩
 rintro y81 w83 ⟨⟨hS84, hq82⟩, hF85⟩
 subst hq82
 refine seg 42 [] [0] [(0, (bv x69))] [] (fun fb => by kernel_rfl) rfl trivial ?_
 refine WL.done rfl (WX.next ?_)
 refine WC.ret ?_
 injection hf with hf
 subst hf
 exact WX.ret_ [] (bv x69) [] (fun fb => by kernel_rfl) trivial ⟨_, rfl, rfl, hS84.keep⟩
theorem law04_part_calls (k : Nat) (p0 : List Tile) (p1 : List Int) (Aa : Option Addr) (ca : Nat) (Ab : Option Addr) (cb : Nat) (r : (List Tile) × Bool) (w : World) (hR0 : RO NoS w (rowR enc_Tile Aa ca p0)) (hR1 : RO NoS w (rowR encInt Ab cb p1)) (hf : law04_part k p0 p1 = some r) :
  CallsR Tryd.prog 21 #[(sv Aa p0 ca), (sv Ab p1 cb)] w (fun v w' => ∃ (A1_ : Option Addr), ∃ (c1_ : Nat), v = (.tuple #[(sv A1_ r.1 c1_), (bv r.2)]) ∧ St NoS w w' [] [rowO 53 enc_Tile A1_ c1_ r.1]) := by
 have hS : St NoS w w [rowR enc_Tile Aa ca p0, rowR encInt Ab cb p1] [] := St.init (ro_cons hR0 (ro_cons hR1 (ro_nil _ _)))
 refine enter 39 Tryd.func21 rfl Tryd.ntmps21 rfl ?_
 unfold law04_part at hf
 refine WC.seq (WC.region ?_)
 refine seg 2 [] [0, 1] [(0, (sv Aa p0 ca)), (1, (sv Ab p1 cb))] [] (fun fb => by kernel_rfl) rfl trivial ?_
 refine WL.done rfl (WX.next (WC.seq (WC.region ?_)))
 refine seg 1 [] [0, 1, 6] [(0, (sv Aa p0 ca)), (1, (sv Ab p1 cb)), (6, (.slice none 0 0))] [] (fun fb => by kernel_rfl) rfl trivial ?_
 refine WL.done rfl (WX.next (WC.seq (WC.seq (WC.region ?_))))
 refine seg 1 [] [0, 1, 6, 7] [(0, (sv Aa p0 ca)), (1, (sv Ab p1 cb)), (6, (.slice none 0 0)), (7, (iv 0))] [] (fun fb => by kernel_rfl) rfl trivial ?_
 refine WL.done rfl (WX.next ?_)
 have hS3 := hS.nilrow 53 enc_Tile
 obtain ⟨x11, hx12, hf⟩ := bind_some hf
 let e2 : Nat × Value := (0, (sv Aa p0 ca))
 let e3 : Nat × Value := (1, (sv Ab p1 cb))
 refine WC.cutN (T := (List Tile) × (Option Addr) × Nat) (fun t => [(6, (sv t.2.1 t.1 t.2.2))]) (fun t w1 => St NoS w w1 [rowR enc_Tile Aa ca p0, rowR encInt Ab cb p1] [rowO 53 enc_Tile t.2.1 t.2.2 t.1] ∧ x11 = .inr t.1) (fun Kx11 => ?_) ?_
 ·
  refine WC.block ?_
  refine WC.loop (T := ((List Tile) × Int) × (Option Addr) × Nat) (fun t => [e2, e3, (6, (sv t.2.1 t.1.1 t.2.2)), (7, (iv t.1.2))]) (fun n t w1 => St NoS w w1 [rowR enc_Tile Aa ca p0, rowR encInt Ab cb p1] [rowO 53 enc_Tile t.2.1 t.2.2 t.1.1] ∧ law04_part.l0 n t.1.1 t.1.2 p0 p1 = some x11) k ((([] : List Tile), 0), none, 0) [0, 1, 6, 7] rfl ⟨(hS3.subR [0, 1]).sub [0] (by decide), hx12⟩ ?_
  rintro k13 ⟨⟨l7, x8⟩, A5, c6⟩ w14 ⟨hS15, hl16⟩
  let e5 : Nat × Value := (6, (sv A5 l7 c6))
  let e6 : Nat × Value := (7, (iv x8))
  let e7 := (adr Ab).add ((x8).toNat * 1)
  cases k13 with
  | zero => rw [law04_part.l0] at hl16; cases hl16
  | succ k13 =>
   rw [law04_part.l0] at hl16
   refine WC.seq (WC.seq (WC.region ?_))
   refine seg 4 [] [0, 1, 6, 7, 11] [e2, e3, e5, e6, (11, (bv (decide (x8 < (p1.length : Int)))))] [] (fun fb => by kernel_rfl) rfl trivial ?_
   refine WL.done rfl (WX.next ?_)
   rcases br_some hl16 with ⟨h17, hl16⟩ | ⟨h17, hl16⟩
   ·refine WC.condT2 (fun fb => by kernel_rfl) h17 ?_
    refine WC.skip (WX.next (WC.seq (WC.block (WC.seq (WC.seq (WC.region ?_))))))
    refine seg 2 [] [0, 1, 6, 7, 14, 15] [e2, e3, e5, e6, (14, (sv Ab p1 cb)), (15, (iv x8))] [] (fun fb => by kernel_rfl) rfl trivial ?_
    obtain ⟨h18, hl16⟩ := as_some hl16
    refine seg 6 [.v (iv (rdD p1 x8 0))] [0, 1, 6, 7, 19] [e2, e3, e5, e6, (19, (bv (decide ((rdD p1 x8 0) < 0))))] [.idx Ab x8 p1.length, .cell e7 (iv (rdD p1 x8 0))] (fun fb => by kernel_rfl) rfl ⟨rowR.adr (hS15.rd 1).1 h18.1 h18.2, rowR.cell (hS15.rd 1).1 0 h18.1 h18.2 0 rfl, trivial⟩ ?_
    refine WL.cutV (T := Bool) 14 (fun t => [(27, (bv t)), e2, e3, e5, e6]) (fun t => ((decide ((rdD p1 x8 0) < 0)) || (decide ((rdD p1 x8 0) ≥ (p0.length : Int)))) = t) (fun K => ?_) ?_
    ·
     rcases Bool.eq_false_or_eq_true (decide ((rdD p1 x8 0) < 0)) with h19 | h19
     ·
      refine WL.setB 19 h19 rfl ?_
      refine seg 14 [] [0, 1, 6, 7, 27] [e2, e3, e5, e6, (27, (bv true))] [] (fun fb => by kernel_rfl) rfl trivial ?_
      exact WL.toV K true [27, 0, 1, 6, 7] rfl (by first | (rw [h19]; done) | (rw [h19]; rfl))
     refine WL.setB 19 h19 rfl ?_
     refine seg 14 [.v (iv (rdD p1 x8 0))] [0, 1, 6, 7, 27] [e2, e3, e5, e6, (27, (bv (decide ((rdD p1 x8 0) ≥ (p0.length : Int)))))] [.idx Ab x8 p1.length, .cell e7 (iv (rdD p1 x8 0))] (fun fb => by kernel_rfl) rfl ⟨rowR.adr (hS15.rd 1).1 h18.1 h18.2, rowR.cell (hS15.rd 1).1 0 h18.1 h18.2 0 rfl, trivial⟩ ?_
     exact WL.toV K (decide ((rdD p1 x8 0) ≥ (p0.length : Int))) [27, 0, 1, 6, 7] rfl (by first | (rw [h19]; done) | (rw [h19]; rfl))
    rintro b20 rfl
    refine WL.done rfl (WX.next ?_)
    rcases br_some hl16 with ⟨h22, hl16⟩ | ⟨h22, hl16⟩
    ·refine WC.condT2 (fun fb => by kernel_rfl) h22 ?_
     refine WC.seq (WC.region ?_)
     refine seg 2 [] [4, 5] [(4, (.slice none 0 0)), (5, (bv false))] [] (fun fb => by kernel_rfl) rfl trivial ?_
     refine WL.done rfl (WX.next ?_)
     refine WC.ret ?_
     have hS23 := hS15.nilrow 53 enc_Tile
     injection hl16 with hl16
     subst hl16
     injection hf with hf
     subst hf
     exact WX.thenR (WX.blockR (WX.thenR (WX.thenR (WX.blockR (WX.thenR (WX.ret_ [] (.tuple #[(sv none ([] : List Tile) 0), (bv false)]) [] (fun fb => by kernel_rfl) trivial ⟨_, rfl, none, 0, rfl, (hS23.sub [0] (by decide)).noR⟩))))))
    refine WC.condF2 (fun fb => by kernel_rfl) h22 ?_
    refine WC.skip (WX.next (WC.region ?_))
    refine seg 6 [.v (iv (rdD p1 x8 0))] [0, 1, 7, 28, 29, 33] [e2, e3, e6, (28, (sv A5 l7 c6)), (29, (sv Aa p0 ca)), (33, (iv (rdD p1 x8 0)))] [.idx Ab x8 p1.length, .cell e7 (iv (rdD p1 x8 0))] (fun fb => by kernel_rfl) rfl ⟨rowR.adr (hS15.rd 1).1 h18.1 h18.2, rowR.cell (hS15.rd 1).1 0 h18.1 h18.2 0 rfl, trivial⟩ ?_
    obtain ⟨h24, hl16⟩ := as_some hl16
    let e1 := rdD p0 (rdD p1 x8 0) z_Tile
    let e4 := (adr Aa).add (((rdD p1 x8 0)).toNat * 4)
    refine seg 8 [.v (iv (e1.N)), .v (iv (e1.E)), .v (iv (e1.S)), .v (iv (e1.W))] [0, 1, 7, 28, 35] [e2, e3, e6, (28, (sv A5 l7 c6)), (35, (.agg #[(iv (e1.N)), (iv (e1.E)), (iv (e1.S)), (iv (e1.W))]))] [.idx Aa (rdD p1 x8 0) p0.length, .cell e4 (iv (e1.N)), .cell (e4.add 1) (iv (e1.E)), .cell (e4.add 2) (iv (e1.S)), .cell (e4.add 3) (iv (e1.W))] (fun fb => by kernel_rfl) rfl ⟨rowR.adr (hS15.rd 0).1 h24.1 h24.2, rowR.cell (hS15.rd 0).1 z_Tile h24.1 h24.2 0 rfl, rowR.cell (hS15.rd 0).1 z_Tile h24.1 h24.2 1 rfl, rowR.cell (hS15.rd 0).1 z_Tile h24.1 h24.2 2 rfl, rowR.cell (hS15.rd 0).1 z_Tile h24.1 h24.2 3 rfl, trivial⟩ ?_
    refine WL.new hS15 36 [] (fun g => (.slice (some ⟨g, 0, none⟩) 1 1)) (.cells #[(iv (e1.N)), (iv (e1.E)), (iv (e1.S)), (iv (e1.W))] 53 (0, 0)) [] (fun fb g => by kernel_rfl) trivial (fun g25 w26 hS27 => ?_)
    refine ⟨trivial, ?_⟩
    have hS28 := hS.go w26 [rowO 53 enc_Tile (some ⟨g25, 0, none⟩) 1 [e1], rowO 53 enc_Tile A5 c6 l7] (hS27.map1 0 _ (fun h => rowO.ofBlk h rfl (Nat.le_of_ble_eq_true (by kernel_rfl))) (fun _ h => by obtain ⟨_, h1, h2⟩ := h; injection h1 with h1; subst h1; exact h2) [1] (by decide) (by decide))
    obtain ⟨h29, hl16⟩ := as_some hl16
    refine WL.append hS28 1 (d := 37) (tS := 22) (z := (.agg #[(iv 0), (iv 0), (iv 0), (iv 0)])) (bytes := 32) (c2 := 1) rfl (fun fb => by kernel_rfl) (rowO.rd (hS28.own 0).1) (by kernel_rfl) (by kernel_rfl) rfl (by decide) h29 (by decide) [0] (by decide) (by decide) (fun A30 c31 w32 hS33 => ?_)
    refine ⟨trivial, ?_⟩
    refine seg 11 [] [0, 1, 6, 7] [e2, e3, (6, (sv A30 (l7 ++ [e1]) c31)), e6] [] (fun fb => by kernel_rfl) rfl trivial ?_
    refine WL.done rfl ?_
    refine WX.blockN (WX.next ?_)
    refine WC.region ?_
    refine seg 3 [] [0, 1, 6, 7] [e2, e3, (6, (sv A30 (l7 ++ [e1]) c31)), (7, (iv (w64 (x8 + 1))))] [] (fun fb => by kernel_rfl) rfl trivial ?_
    refine WL.done rfl ?_
    exact WX.again k13 (Nat.lt_succ_self _) ((l7 ++ [e1], w64 (x8 + 1)), A30, c31) [0, 1, 6, 7] rfl ⟨(hS33.subR [0, 1]).sub [0] (by decide), hl16⟩
   refine WC.condF2 (fun fb => by kernel_rfl) h17 ?_
   refine WC.exit ?_
   injection hl16 with hl16
   exact WX.thenX (WX.thenX (WX.blockHere (WX.to Kx11 (l7, A5, c6) [6] rfl ⟨(hS15.subR [0, 1]).sub [0] (by decide), hl16.symm⟩)))
 rintro ⟨y37, A9, c10⟩ w34 ⟨hS35, hq36⟩
 subst hq36
 have hf := sum_inr hf
 refine WX.next (WC.seq (WC.region ?_))
 refine seg 3 [] [4, 5] [(4, (sv A9 y37 c10)), (5, (bv true))] [] (fun fb => by kernel_rfl) rfl trivial ?_
 refine WL.done rfl (WX.next ?_)
 refine WC.ret ?_
 injection hf with hf
 subst hf
 exact WX.ret_ [] (.tuple #[(sv A9 y37 c10), (bv true)]) [] (fun fb => by kernel_rfl) trivial ⟨_, rfl, A9, c10, rfl, (hS35.sub [0] (by decide)).noR⟩
theorem ref04_Leads_calls (p0 : Tile) (p1 : Tile) (p2 : Bool)  (r : Bool) (w : World)  (hf : ref04_Leads p0 p1 p2 = some r) :
  CallsR Tryd.prog 22 #[(.agg #[(iv p0.N), (iv p0.E), (iv p0.S), (iv p0.W)]), (.agg #[(iv p1.N), (iv p1.E), (iv p1.S), (iv p1.W)]), (bv p2)] w (fun v w' => v = (bv r) ∧ Keeps NoS w w') := by
 have hS : St NoS w w [] [] := St.init (ro_nil _ _)
 refine enter 18 Tryd.func22 rfl Tryd.ntmps22 rfl ?_
 unfold ref04_Leads at hf
 refine WC.seq (WC.region ?_)
 refine WL.new hS 3 [] (fun g => (pt g)) (.cells #[(iv p0.N), (iv p0.E), (iv p0.S), (iv p0.W)] 53 (0, 0)) [] (fun fb g => by kernel_rfl) trivial (fun g3 w5 hS6 => ?_)
 refine ⟨trivial, ?_⟩
 refine WL.new hS6 4 [] (fun g => (pt g)) (.cells #[(iv p1.N), (iv p1.E), (iv p1.S), (iv p1.W)] 53 (0, 0)) [] (fun fb g => by kernel_rfl) trivial (fun g7 w8 hS9 => ?_)
 refine ⟨trivial, ?_⟩
 refine seg 3 [] [2, 3, 4] [(2, (bv p2)), (3, (pt g3)), (4, (pt g7))] [] (fun fb => by kernel_rfl) rfl trivial ?_
 refine WL.done rfl (WX.next (WC.seq (WC.seq (WC.region ?_))))
 refine seg 1 [] [3, 4, 7] [(3, (pt g3)), (4, (pt g7)), (7, (bv p2))] [] (fun fb => by kernel_rfl) rfl trivial ?_
 refine WL.done rfl (WX.next ?_)
 rcases br_some hf with ⟨h10, hf⟩ | ⟨h10, hf⟩
 ·refine WC.condT2 (fun fb => by kernel_rfl) h10 ?_
  refine WC.seq (WC.region ?_)
  refine seg 6 [.v (iv p0.N), .v (iv p1.S)] [6] [(6, (bv (p0.N == p1.S)))] [.cell ⟨g3, 0, none⟩ (iv p0.N), .cell ⟨g7, 2, none⟩ (iv p1.S)] (fun fb => by kernel_rfl) rfl ⟨hS9.cell 1 rfl 0 rfl, hS9.cell 0 rfl 2 rfl, trivial⟩ ?_
  refine WL.done rfl (WX.next ?_)
  refine WC.ret ?_
  injection hf with hf
  subst hf
  exact WX.thenR (WX.ret_ [] (bv (p0.N == p1.S)) [] (fun fb => by kernel_rfl) trivial ⟨_, rfl, rfl, hS9.keep⟩)
 refine WC.condF2 (fun fb => by kernel_rfl) h10 ?_
 refine WC.skip (WX.next (WC.seq (WC.region ?_)))
 refine seg 6 [.v (iv p0.E), .v (iv p1.W)] [6] [(6, (bv (p0.E == p1.W)))] [.cell ⟨g3, 1, none⟩ (iv p0.E), .cell ⟨g7, 3, none⟩ (iv p1.W)] (fun fb => by kernel_rfl) rfl ⟨hS9.cell 1 rfl 1 rfl, hS9.cell 0 rfl 3 rfl, trivial⟩ ?_
 refine WL.done rfl (WX.next ?_)
 refine WC.ret ?_
 injection hf with hf
 subst hf
 exact WX.ret_ [] (bv (p0.E == p1.W)) [] (fun fb => by kernel_rfl) trivial ⟨_, rfl, rfl, hS9.keep⟩
theorem tile_Form_calls (p0 : Pattern) (Aa : Option Addr) (ca : Nat) (r : Bool) (w : World) (hR0 : RO NoS w (rowR encInt Aa ca p0.Cells)) (hf : tile_Form p0 = some r) :
  CallsR Tryd.prog 55 #[(.agg #[(iv p0.Width), (iv p0.Height), (sv Aa p0.Cells ca)])] w (fun v w' => v = (bv r) ∧ Keeps NoS w w') := by
 have hS : St NoS w w [rowR encInt Aa ca p0.Cells] [] := St.init (ro_cons hR0 (ro_nil _ _))
 refine enter 40 Tryd.func55 rfl Tryd.ntmps55 rfl ?_
 unfold tile_Form at hf
 refine WC.seq (WC.region ?_)
 refine WL.new hS 1 [] (fun g => (pt g)) (.cells #[(iv p0.Width), (iv p0.Height), (sv Aa p0.Cells ca)] 47 (0, 0)) [] (fun fb g => by kernel_rfl) trivial (fun g1 w2 hS3 => ?_)
 refine ⟨trivial, ?_⟩
 refine seg 2 [] [1] [(1, (pt g1))] [] (fun fb => by kernel_rfl) rfl trivial ?_
 refine WL.done rfl (WX.next (WC.seq (WC.region ?_)))
 refine seg 4 [.v (iv p0.Width)] [1, 6] [(1, (pt g1)), (6, (bv (decide (p0.Width ≥ 1))))] [.cell ⟨g1, 0, none⟩ (iv p0.Width)] (fun fb => by kernel_rfl) rfl ⟨hS3.cell 0 rfl 0 rfl, trivial⟩ ?_
 refine WL.cutV (T := Bool) 8 (fun t => [(10, (bv t)), (1, (pt g1))]) (fun t => ((decide (p0.Width ≥ 1)) && (decide (p0.Height ≥ 1))) = t) (fun K => ?_) ?_
 ·
  rcases Bool.eq_false_or_eq_true (decide (p0.Width ≥ 1)) with h4 | h4
  ·
   refine WL.setB 6 h4 rfl ?_
   refine seg 8 [.v (iv p0.Height)] [1, 10] [(1, (pt g1)), (10, (bv (decide (p0.Height ≥ 1))))] [.cell ⟨g1, 1, none⟩ (iv p0.Height)] (fun fb => by kernel_rfl) rfl ⟨hS3.cell 0 rfl 1 rfl, trivial⟩ ?_
   exact WL.toV K (decide (p0.Height ≥ 1)) [10, 1] rfl (by first | (rw [h4]; done) | (rw [h4]; rfl))
  refine WL.setB 6 h4 rfl ?_
  refine seg 8 [] [1, 10] [(1, (pt g1)), (10, (bv false))] [] (fun fb => by kernel_rfl) rfl trivial ?_
  exact WL.toV K false [10, 1] rfl (by first | (rw [h4]; done) | (rw [h4]; rfl))
 rintro b5 rfl
 refine seg 9 [] [1, 11] [(1, (pt g1)), (11, (bv ((decide (p0.Width ≥ 1)) && (decide (p0.Height ≥ 1)))))] [] (fun fb => by kernel_rfl) rfl trivial ?_
 let e4 := (decide (p0.Width ≥ 1)) && (decide (p0.Height ≥ 1))
 refine WL.cutV (T := Bool) 13 (fun t => [(15, (bv t)), (1, (pt g1))]) (fun t => (e4 && (decide (p0.Width ≤ 40000))) = t) (fun K => ?_) ?_
 ·
  rcases Bool.eq_false_or_eq_true e4 with h6 | h6
  ·
   refine WL.setB 11 h6 rfl ?_
   refine seg 13 [.v (iv p0.Width)] [1, 15] [(1, (pt g1)), (15, (bv (decide (p0.Width ≤ 40000))))] [.cell ⟨g1, 0, none⟩ (iv p0.Width)] (fun fb => by kernel_rfl) rfl ⟨hS3.cell 0 rfl 0 rfl, trivial⟩ ?_
   exact WL.toV K (decide (p0.Width ≤ 40000)) [15, 1] rfl (by first | (rw [h6]; done) | (rw [h6]; rfl))
  refine WL.setB 11 h6 rfl ?_
  refine seg 13 [] [1, 15] [(1, (pt g1)), (15, (bv false))] [] (fun fb => by kernel_rfl) rfl trivial ?_
  exact WL.toV K false [15, 1] rfl (by first | (rw [h6]; done) | (rw [h6]; rfl))
 rintro b7 rfl
 refine seg 14 [] [1, 16] [(1, (pt g1)), (16, (bv (e4 && (decide (p0.Width ≤ 40000)))))] [] (fun fb => by kernel_rfl) rfl trivial ?_
 let e3 := e4 && (decide (p0.Width ≤ 40000))
 refine WL.cutV (T := Bool) 18 (fun t => [(20, (bv t)), (1, (pt g1))]) (fun t => (e3 && (decide (p0.Height ≤ 40000))) = t) (fun K => ?_) ?_
 ·
  rcases Bool.eq_false_or_eq_true e3 with h8 | h8
  ·
   refine WL.setB 16 h8 rfl ?_
   refine seg 18 [.v (iv p0.Height)] [1, 20] [(1, (pt g1)), (20, (bv (decide (p0.Height ≤ 40000))))] [.cell ⟨g1, 1, none⟩ (iv p0.Height)] (fun fb => by kernel_rfl) rfl ⟨hS3.cell 0 rfl 1 rfl, trivial⟩ ?_
   exact WL.toV K (decide (p0.Height ≤ 40000)) [20, 1] rfl (by first | (rw [h8]; done) | (rw [h8]; rfl))
  refine WL.setB 16 h8 rfl ?_
  refine seg 18 [] [1, 20] [(1, (pt g1)), (20, (bv false))] [] (fun fb => by kernel_rfl) rfl trivial ?_
  exact WL.toV K false [20, 1] rfl (by first | (rw [h8]; done) | (rw [h8]; rfl))
 rintro b9 rfl
 refine seg 19 [] [1, 21] [(1, (pt g1)), (21, (bv (e3 && (decide (p0.Height ≤ 40000)))))] [] (fun fb => by kernel_rfl) rfl trivial ?_
 let e2 := e3 && (decide (p0.Height ≤ 40000))
 refine WL.cutV (T := Bool) 26 (fun t => [(28, (bv t)), (1, (pt g1))]) (fun t => (e2 && (decide (w64 (p0.Width * p0.Height) ≤ 40000))) = t) (fun K => ?_) ?_
 ·
  rcases Bool.eq_false_or_eq_true e2 with h10 | h10
  ·
   refine WL.setB 21 h10 rfl ?_
   refine seg 26 [.v (iv p0.Width), .v (iv p0.Height)] [1, 28] [(1, (pt g1)), (28, (bv (decide (w64 (p0.Width * p0.Height) ≤ 40000))))] [.cell ⟨g1, 0, none⟩ (iv p0.Width), .cell ⟨g1, 1, none⟩ (iv p0.Height)] (fun fb => by kernel_rfl) rfl ⟨hS3.cell 0 rfl 0 rfl, hS3.cell 0 rfl 1 rfl, trivial⟩ ?_
   exact WL.toV K (decide (w64 (p0.Width * p0.Height) ≤ 40000)) [28, 1] rfl (by first | (rw [h10]; done) | (rw [h10]; rfl))
  refine WL.setB 21 h10 rfl ?_
  refine seg 26 [] [1, 28] [(1, (pt g1)), (28, (bv false))] [] (fun fb => by kernel_rfl) rfl trivial ?_
  exact WL.toV K false [28, 1] rfl (by first | (rw [h10]; done) | (rw [h10]; rfl))
 rintro b11 rfl
 refine seg 27 [] [1, 29] [(1, (pt g1)), (29, (bv (e2 && (decide (w64 (p0.Width * p0.Height) ≤ 40000)))))] [] (fun fb => by kernel_rfl) rfl trivial ?_
 let e1 := e2 && (decide (w64 (p0.Width * p0.Height) ≤ 40000))
 let e5 := ((p0.Cells.length : Int) == (w64 (p0.Width * p0.Height)))
 refine WL.cutV (T := Bool) 37 (fun t => [(39, (bv t))]) (fun t => (e1 && e5) = t) (fun K => ?_) ?_
 ·
  rcases Bool.eq_false_or_eq_true e1 with h12 | h12
  ·
   refine WL.setB 29 h12 rfl ?_
   refine seg 37 [.v (sv Aa p0.Cells ca), .v (iv p0.Width), .v (iv p0.Height)] [39] [(39, (bv e5))] [.cell ⟨g1, 2, none⟩ (sv Aa p0.Cells ca), .cell ⟨g1, 0, none⟩ (iv p0.Width), .cell ⟨g1, 1, none⟩ (iv p0.Height)] (fun fb => by kernel_rfl) rfl ⟨hS3.cell 0 rfl 2 rfl, hS3.cell 0 rfl 0 rfl, hS3.cell 0 rfl 1 rfl, trivial⟩ ?_
   exact WL.toV K ((p0.Cells.length : Int) == (w64 (p0.Width * p0.Height))) [39] rfl (by first | (rw [h12]; done) | (rw [h12]; rfl))
  refine WL.setB 29 h12 rfl ?_
  refine seg 37 [] [39] [(39, (bv false))] [] (fun fb => by kernel_rfl) rfl trivial ?_
  exact WL.toV K false [39] rfl (by first | (rw [h12]; done) | (rw [h12]; rfl))
 rintro b13 rfl
 refine seg 38 [] [2] [(2, (bv (e1 && e5)))] [] (fun fb => by kernel_rfl) rfl trivial ?_
 refine WL.done rfl (WX.next ?_)
 refine WC.ret ?_
 injection hf with hf
 subst hf
 exact WX.ret_ [] (bv (e1 && e5)) [] (fun fb => by kernel_rfl) trivial ⟨_, rfl, rfl, hS3.keep⟩
theorem tile_of_1_calls (p0 : Int) (f0 : List Tile) (ga : Nat) (Aa : Option Addr) (ca : Nat) (r : Bool) (w : World) (hR0 : RO NoS w (blk ga (.cells #[(sv Aa f0 ca)] 22 (0, 0)))) (hR1 : RO NoS w (rowR enc_Tile Aa ca f0)) (hf : tile_of_1 p0 f0 = some r) :
  CallsR Tryd.prog 57 #[(iv p0), (pt ga)] w (fun v w' => v = (bv r) ∧ Keeps NoS w w') := by
 have hS : St NoS w w [blk ga (.cells #[(sv Aa f0 ca)] 22 (0, 0)), rowR enc_Tile Aa ca f0] [] := St.init (ro_cons hR0 (ro_cons hR1 (ro_nil _ _)))
 refine enter 12 Tryd.func57 rfl Tryd.ntmps57 rfl ?_
 unfold tile_of_1 at hf
 refine WC.seq (WC.region ?_)
 refine seg 1 [] [0, 1] [(0, (iv p0)), (1, (pt ga))] [] (fun fb => by kernel_rfl) rfl trivial ?_
 refine WL.done rfl (WX.next (WC.seq (WC.region ?_)))
 refine seg 3 [] [0, 1, 6] [(0, (iv p0)), (1, (pt ga)), (6, (bv (decide (p0 < 0))))] [] (fun fb => by kernel_rfl) rfl trivial ?_
 refine WL.cutV (T := Bool) 8 (fun t => [(11, (bv t))]) (fun t => ((decide (p0 < 0)) || (decide (p0 ≥ (f0.length : Int)))) = t) (fun K => ?_) ?_
 ·
  rcases Bool.eq_false_or_eq_true (decide (p0 < 0)) with h2 | h2
  ·
   refine WL.setB 6 h2 rfl ?_
   refine seg 8 [] [11] [(11, (bv true))] [] (fun fb => by kernel_rfl) rfl trivial ?_
   exact WL.toV K true [11] rfl (by first | (rw [h2]; done) | (rw [h2]; rfl))
  refine WL.setB 6 h2 rfl ?_
  refine seg 8 [.v (sv Aa f0 ca)] [11] [(11, (bv (decide (p0 ≥ (f0.length : Int)))))] [.cell ⟨ga, 0, none⟩ (sv Aa f0 ca)] (fun fb => by kernel_rfl) rfl ⟨blk_cell (hS.rd 0).1 0 rfl, trivial⟩ ?_
  exact WL.toV K (decide (p0 ≥ (f0.length : Int))) [11] rfl (by first | (rw [h2]; done) | (rw [h2]; rfl))
 rintro b3 rfl
 refine seg 9 [] [3] [(3, (bv ((decide (p0 < 0)) || (decide (p0 ≥ (f0.length : Int))))))] [] (fun fb => by kernel_rfl) rfl trivial ?_
 refine WL.done rfl (WX.next ?_)
 refine WC.ret ?_
 injection hf with hf
 subst hf
 exact WX.ret_ [] (bv ((decide (p0 < 0)) || (decide (p0 ≥ (f0.length : Int))))) [] (fun fb => by kernel_rfl) trivial ⟨_, rfl, rfl, hS.keep⟩
theorem slices_IndexFunc_int_int_with_tile_of_1_calls (k : Nat) (p0 : List Int) (p1_0 : List Tile) (Aa : Option Addr) (ca : Nat) (ga : Nat) (Ab : Option Addr) (cb : Nat) (r : Int) (w : World) (hR0 : RO NoS w (rowR encInt Aa ca p0)) (hR1 : RO NoS w (blk ga (.cells #[(sv Ab p1_0 cb)] 22 (0, 0)))) (hR2 : RO NoS w (rowR enc_Tile Ab cb p1_0)) (hf : slices_IndexFunc_int_int_with_tile_of_1 k p0 p1_0 = some r) :
  CallsR Tryd.prog 67 #[(sv Aa p0 ca), (.func (.func 57) #[] #[(pt ga)])] w (fun v w' => v = (iv r) ∧ Keeps NoS w w') := by
 have hS : St NoS w w [rowR encInt Aa ca p0, blk ga (.cells #[(sv Ab p1_0 cb)] 22 (0, 0)), rowR enc_Tile Ab cb p1_0] [] := St.init (ro_cons hR0 (ro_cons hR1 (ro_cons hR2 (ro_nil _ _))))
 refine enter 19 Tryd.func67 rfl Tryd.ntmps67 rfl ?_
 unfold slices_IndexFunc_int_int_with_tile_of_1 at hf
 refine WC.seq (WC.region ?_)
 refine seg 1 [] [0, 1] [(0, (sv Aa p0 ca)), (1, (.func (.func 57) #[] #[(pt ga)]))] [] (fun fb => by kernel_rfl) rfl trivial ?_
 refine WL.done rfl (WX.next (WC.seq (WC.seq (WC.region ?_))))
 refine seg 3 [] [0, 1, 7, 8] [(0, (sv Aa p0 ca)), (1, (.func (.func 57) #[] #[(pt ga)])), (7, (iv (p0.length : Int))), (8, (iv 0))] [] (fun fb => by kernel_rfl) rfl trivial ?_
 refine WL.done rfl (WX.next ?_)
 obtain ⟨x4, hx5, hf⟩ := bind_some hf
 let e1 : Nat × Value := (7, (iv (p0.length : Int)))
 let e2 : Nat × Value := (0, (sv Aa p0 ca))
 refine WC.cutN (T := Unit) (fun t => []) (fun t w1 => St NoS w w1 [rowR encInt Aa ca p0, blk ga (.cells #[(sv Ab p1_0 cb)] 22 (0, 0)), rowR enc_Tile Ab cb p1_0] [] ∧ x4 = .inr t) (fun Kx4 => ?_) ?_
 ·
  refine WC.block ?_
  refine WC.loop (T := Int) (fun t => [e2, (1, (.func (.func 57) #[] #[(pt ga)])), e1, (8, (iv t))]) (fun n t w1 => St NoS w w1 [rowR encInt Aa ca p0, blk ga (.cells #[(sv Ab p1_0 cb)] 22 (0, 0)), rowR enc_Tile Ab cb p1_0] [] ∧ slices_IndexFunc_int_int_with_tile_of_1.l0 n t p0 p1_0 = some x4) k 0 [0, 1, 7, 8] rfl ⟨(hS.subR [0, 1, 2]).sub [] (by decide), hx5⟩ ?_
  rintro k6 x3 w7 ⟨hS8, hl9⟩
  cases k6 with
  | zero => rw [slices_IndexFunc_int_int_with_tile_of_1.l0] at hl9; cases hl9
  | succ k6 =>
   rw [slices_IndexFunc_int_int_with_tile_of_1.l0] at hl9
   refine WC.seq (WC.region ?_)
   refine seg 1 [] [0, 1, 7, 8, 9] [e2, (1, (.func (.func 57) #[] #[(pt ga)])), e1, (8, (iv x3)), (9, (bv (decide (x3 < (p0.length : Int)))))] [] (fun fb => by kernel_rfl) rfl trivial ?_
   refine WL.done rfl (WX.next (WC.seq ?_))
   rcases br_some hl9 with ⟨h10, hl9⟩ | ⟨h10, hl9⟩
   ·refine WC.condT2 (fun fb => by kernel_rfl) h10 ?_
    refine WC.skip (WX.next (WC.seq (WC.block (WC.seq (WC.region ?_)))))
    refine seg 2 [] [0, 1, 5, 7, 8] [e2, (1, (.func (.func 57) #[] #[(pt ga)])), (5, (iv x3)), e1, (8, (iv x3))] [] (fun fb => by kernel_rfl) rfl trivial ?_
    refine WL.done rfl (WX.next (WC.seq (WC.region ?_)))
    refine seg 3 [] [0, 1, 5, 7, 8, 11, 12, 13] [e2, (1, (.func (.func 57) #[] #[(pt ga)])), (5, (iv x3)), e1, (8, (iv x3)), (11, (.func (.func 57) #[] #[(pt ga)])), (12, (sv Aa p0 ca)), (13, (iv x3))] [] (fun fb => by kernel_rfl) rfl trivial ?_
    obtain ⟨h11, hl9⟩ := as_some hl9
    refine seg 5 [.v (iv (rdD p0 x3 0))] [0, 1, 5, 7, 8, 11, 15] [e2, (1, (.func (.func 57) #[] #[(pt ga)])), (5, (iv x3)), e1, (8, (iv x3)), (11, (.func (.func 57) #[] #[(pt ga)])), (15, (iv (rdD p0 x3 0)))] [.idx Aa x3 p0.length, .cell ((adr Aa).add ((x3).toNat * 1)) (iv (rdD p0 x3 0))] (fun fb => by kernel_rfl) rfl ⟨rowR.adr (hS8.rd 0).1 h11.1 h11.2, rowR.cell (hS8.rd 0).1 0 h11.1 h11.2 0 rfl, trivial⟩ ?_
    obtain ⟨t12, ht13, hl9⟩ := bind_some hl9
    refine WL.call (some 16) 57 #[(iv (rdD p0 x3 0)), (pt ga)] (fun fb => by kernel_rfl) (tile_of_1_calls (rdD p0 x3 0) p1_0 ga Ab cb t12 _ (hS8.rd 1) (hS8.rd 2) ht13) (fun v w14 hR15 => ?_)
    obtain ⟨rfl, hk_⟩ := hR15
    have hS16 := hS8.keepN hk_
    refine ⟨trivial, ?_⟩
    refine WL.done rfl (WX.next ?_)
    rcases br_some hl9 with ⟨h17, hl9⟩ | ⟨h17, hl9⟩
    ·refine WC.condT2 (fun fb => by kernel_rfl) h17 ?_
     refine WC.seq (WC.region ?_)
     refine seg 2 [] [4] [(4, (iv x3))] [] (fun fb => by kernel_rfl) rfl trivial ?_
     refine WL.done rfl (WX.next ?_)
     refine WC.ret ?_
     injection hl9 with hl9
     subst hl9
     injection hf with hf
     subst hf
     exact WX.blockR (WX.thenR (WX.thenR (WX.blockR (WX.thenR (WX.ret_ [] (iv x3) [] (fun fb => by kernel_rfl) trivial ⟨_, rfl, rfl, hS16.keep⟩)))))
    refine WC.condF2 (fun fb => by kernel_rfl) h17 ?_
    refine WC.skip ?_
    refine WX.blockN (WX.next ?_)
    refine WC.region ?_
    refine seg 2 [] [0, 1, 7, 8] [e2, (1, (.func (.func 57) #[] #[(pt ga)])), e1, (8, (iv (w64 (x3 + 1))))] [] (fun fb => by kernel_rfl) rfl trivial ?_
    refine WL.done rfl ?_
    exact WX.again k6 (Nat.lt_succ_self _) (w64 (x3 + 1)) [0, 1, 7, 8] rfl ⟨(hS16.subR [0, 1, 2]).sub [] (by decide), hl9⟩
   refine WC.condF2 (fun fb => by kernel_rfl) h10 ?_
   refine WC.exit ?_
   injection hl9 with hl9
   exact WX.thenX (WX.thenX (WX.blockHere (WX.to Kx4 () [] rfl ⟨(hS8.subR [0, 1, 2]).sub [] (by decide), hl9.symm⟩)))
 rintro y21 w18 ⟨hS19, hq20⟩
 subst hq20
 have hf := sum_inr hf
 refine WX.next (WC.seq (WC.region ?_))
 refine seg 1 [] [4] [(4, (iv (-1)))] [] (fun fb => by kernel_rfl) rfl trivial ?_
 refine WL.done rfl (WX.next ?_)
 refine WC.ret ?_
 injection hf with hf
 subst hf
 exact WX.ret_ [] (iv (-1)) [] (fun fb => by kernel_rfl) trivial ⟨_, rfl, rfl, hS19.keep⟩
theorem slices_ContainsFunc_int_int_with_tile_of_1_calls (k : Nat) (p0 : List Int) (p1_0 : List Tile) (Aa : Option Addr) (ca : Nat) (ga : Nat) (Ab : Option Addr) (cb : Nat) (r : Bool) (w : World) (hR0 : RO NoS w (rowR encInt Aa ca p0)) (hR1 : RO NoS w (blk ga (.cells #[(sv Ab p1_0 cb)] 22 (0, 0)))) (hR2 : RO NoS w (rowR enc_Tile Ab cb p1_0)) (hf : slices_ContainsFunc_int_int_with_tile_of_1 k p0 p1_0 = some r) :
  CallsR Tryd.prog 56 #[(sv Aa p0 ca), (.func (.func 57) #[] #[(pt ga)])] w (fun v w' => v = (bv r) ∧ Keeps NoS w w') := by
 have hS : St NoS w w [rowR encInt Aa ca p0, blk ga (.cells #[(sv Ab p1_0 cb)] 22 (0, 0)), rowR enc_Tile Ab cb p1_0] [] := St.init (ro_cons hR0 (ro_cons hR1 (ro_cons hR2 (ro_nil _ _))))
 refine enter 9 Tryd.func56 rfl Tryd.ntmps56 rfl ?_
 unfold slices_ContainsFunc_int_int_with_tile_of_1 at hf
 refine WC.seq (WC.region ?_)
 refine seg 1 [] [0, 1] [(0, (sv Aa p0 ca)), (1, (.func (.func 57) #[] #[(pt ga)]))] [] (fun fb => by kernel_rfl) rfl trivial ?_
 refine WL.done rfl (WX.next (WC.seq (WC.region ?_)))
 refine seg 2 [] [5, 6] [(5, (sv Aa p0 ca)), (6, (.func (.func 57) #[] #[(pt ga)]))] [] (fun fb => by kernel_rfl) rfl trivial ?_
 obtain ⟨t3, ht4, hf⟩ := bind_some hf
 refine WL.call (some 7) 67 #[(sv Aa p0 ca), (.func (.func 57) #[] #[(pt ga)])] (fun fb => by kernel_rfl) (slices_IndexFunc_int_int_with_tile_of_1_calls _ p0 p1_0 Aa ca ga Ab cb t3 _ (hS.rd 0) (hS.rd 1) (hS.rd 2) ht4) (fun v w5 hR6 => ?_)
 obtain ⟨rfl, hk_⟩ := hR6
 have hS7 := hS.keepN hk_
 refine ⟨trivial, ?_⟩
 refine seg 5 [] [4] [(4, (bv (decide (t3 ≥ 0))))] [] (fun fb => by kernel_rfl) rfl trivial ?_
 refine WL.done rfl (WX.next ?_)
 refine WC.ret ?_
 injection hf with hf
 subst hf
 exact WX.ret_ [] (bv (decide (t3 ≥ 0))) [] (fun fb => by kernel_rfl) trivial ⟨_, rfl, rfl, hS7.keep⟩
theorem tile_of_calls (k : Nat) (p0 : List Tile) (p1 : Pattern) (Aa : Option Addr) (ca : Nat) (Ab : Option Addr) (cb : Nat) (r : Bool) (w : World) (hR0 : RO NoS w (rowR enc_Tile Aa ca p0)) (hR1 : RO NoS w (rowR encInt Ab cb p1.Cells)) (hf : tile_of k p0 p1 = some r) :
  CallsR Tryd.prog 39 #[(sv Aa p0 ca), (.agg #[(iv p1.Width), (iv p1.Height), (sv Ab p1.Cells cb)])] w (fun v w' => v = (bv r) ∧ Keeps NoS w w') := by
 have hS : St NoS w w [rowR enc_Tile Aa ca p0, rowR encInt Ab cb p1.Cells] [] := St.init (ro_cons hR0 (ro_cons hR1 (ro_nil _ _)))
 refine enter 18 Tryd.func39 rfl Tryd.ntmps39 rfl ?_
 unfold tile_of at hf
 refine WC.seq (WC.region ?_)
 refine WL.new hS 2 [] (fun g => (pt g)) (.cells #[(sv Aa p0 ca)] 22 (0, 0)) [] (fun fb g => by kernel_rfl) trivial (fun g2 w3 hS4 => ?_)
 refine ⟨trivial, ?_⟩
 refine WL.new hS4 3 [] (fun g => (pt g)) (.cells #[(iv p1.Width), (iv p1.Height), (sv Ab p1.Cells cb)] 47 (0, 0)) [] (fun fb g => by kernel_rfl) trivial (fun g5 w6 hS7 => ?_)
 refine ⟨trivial, ?_⟩
 refine seg 3 [] [2, 3] [(2, (pt g2)), (3, (pt g5))] [] (fun fb => by kernel_rfl) rfl trivial ?_
 refine WL.done rfl (WX.next (WC.seq (WC.region ?_)))
 refine seg 1 [.v (sv Aa p0 ca)] [2, 3, 5] [(2, (pt g2)), (3, (pt g5)), (5, (sv Aa p0 ca))] [.cell ⟨g2, 0, none⟩ (sv Aa p0 ca)] (fun fb => by kernel_rfl) rfl ⟨hS7.cell 1 rfl 0 rfl, trivial⟩ ?_
 obtain ⟨t8, ht9, hf⟩ := bind_some hf
 refine WL.call (some 6) 31 #[(sv Aa p0 ca)] (fun fb => by kernel_rfl) (tile_Valid_calls _ p0 Aa ca t8 _ (hS7.rd 0) ht9) (fun v w10 hR11 => ?_)
 obtain ⟨rfl, hk_⟩ := hR11
 have hS12 := hS7.keepN hk_
 refine ⟨trivial, ?_⟩
 refine seg 3 [] [2, 3, 7] [(2, (pt g2)), (3, (pt g5)), (7, (bv t8))] [] (fun fb => by kernel_rfl) rfl trivial ?_
 obtain ⟨x13, hx14, hf⟩ := bind_some hf
 let e1 : Array Value := #[(iv p1.Width), (iv p1.Height), (sv Ab p1.Cells cb)]
 refine WL.cutW (T := Bool) 6 (fun t => [(2, (pt g2)), (3, (pt g5)), (10, (bv t))]) (fun t w1 => (St NoS w w1 [rowR enc_Tile Aa ca p0, rowR encInt Ab cb p1.Cells] [blk g2 (.cells #[(sv Aa p0 ca)] 22 (0, 0)), blk g5 (.cells e1 47 (0, 0))] ∧ x13 = t) ∧ CellsOK [] w1) (fun K => ?_) ?_
 ·
  rcases br_some hx14 with ⟨h15, hx14⟩ | ⟨h15, hx14⟩
  ·
   refine WL.setB 7 h15 rfl ?_
   refine seg 4 [.v (iv p1.Width), .v (iv p1.Height), .v (sv Ab p1.Cells cb)] [2, 3, 7, 8] [(2, (pt g2)), (3, (pt g5)), (7, (bv true)), (8, (.agg e1))] [.cell ⟨g5, 0, none⟩ (iv p1.Width), .cell ⟨g5, 1, none⟩ (iv p1.Height), .cell ⟨g5, 2, none⟩ (sv Ab p1.Cells cb)] (fun fb => by kernel_rfl) rfl ⟨hS12.cell 0 rfl 0 rfl, hS12.cell 0 rfl 1 rfl, hS12.cell 0 rfl 2 rfl, trivial⟩ ?_
   obtain ⟨t16, ht17, hx14⟩ := bind_some hx14
   refine WL.call (some 9) 55 #[(.agg e1)] (fun fb => by kernel_rfl) (tile_Form_calls p1 Ab cb t16 _ (hS12.rd 1) ht17) (fun v w18 hR19 => ?_)
   obtain ⟨rfl, hk_⟩ := hR19
   have hS20 := hS12.keepN hk_
   refine ⟨trivial, ?_⟩
   refine seg 6 [] [2, 3, 10] [(2, (pt g2)), (3, (pt g5)), (10, (bv t16))] [] (fun fb => by kernel_rfl) rfl trivial ?_
   injection hx14 with hx14
   exact WL.to K t16 [2, 3, 10] rfl ⟨⟨(hS20.subR [0, 1]).sub [1, 0] (by decide), hx14.symm⟩, trivial⟩
  refine WL.setB 7 h15 rfl ?_
  refine seg 6 [] [2, 3, 10] [(2, (pt g2)), (3, (pt g5)), (10, (bv false))] [] (fun fb => by kernel_rfl) rfl trivial ?_
  injection hx14 with hx14
  exact WL.to K false [2, 3, 10] rfl ⟨⟨(hS12.subR [0, 1]).sub [1, 0] (by decide), hx14.symm⟩, trivial⟩
 rintro y21 w23 ⟨⟨hS24, hq22⟩, hF25⟩
 subst hq22
 refine seg 7 [] [2, 3, 11] [(2, (pt g2)), (3, (pt g5)), (11, (bv x13))] [] (fun fb => by kernel_rfl) rfl trivial ?_
 obtain ⟨x26, hx27, hf⟩ := bind_some hf
 refine WL.cutW (T := Bool) 13 (fun t => [(17, (bv t))]) (fun t w1 => (St NoS w w1 [rowR enc_Tile Aa ca p0, rowR encInt Ab cb p1.Cells] [] ∧ x26 = t) ∧ CellsOK [] w1) (fun K => ?_) ?_
 ·
  rcases br_some hx27 with ⟨h28, hx27⟩ | ⟨h28, hx27⟩
  ·
   refine WL.setB 11 h28 rfl ?_
   refine seg 10 [.v (sv Ab p1.Cells cb)] [11, 13, 14] [(11, (bv true)), (13, (sv Ab p1.Cells cb)), (14, (.func (.func 57) #[] #[(pt g2)]))] [.cell ⟨g5, 2, none⟩ (sv Ab p1.Cells cb)] (fun fb => by kernel_rfl) rfl ⟨hS24.cell 1 rfl 2 rfl, trivial⟩ ?_
   obtain ⟨t29, ht30, hx27⟩ := bind_some hx27
   refine WL.call (some 15) 56 #[(sv Ab p1.Cells cb), (.func (.func 57) #[] #[(pt g2)])] (fun fb => by kernel_rfl) (slices_ContainsFunc_int_int_with_tile_of_1_calls _ p1.Cells p0 Ab cb g2 Aa ca t29 _ (hS24.rd 1) (hS24.ow 0) (hS24.rd 0) ht30) (fun v w31 hR32 => ?_)
   obtain ⟨rfl, hk_⟩ := hR32
   have hS33 := hS24.keepN hk_
   refine ⟨trivial, ?_⟩
   refine seg 13 [] [17] [(17, (bv (!t29)))] [] (fun fb => by kernel_rfl) rfl trivial ?_
   injection hx27 with hx27
   exact WL.to K (!t29) [17] rfl ⟨⟨(hS33.subR [0, 1]).sub [] (by decide), hx27.symm⟩, trivial⟩
  refine WL.setB 11 h28 rfl ?_
  refine seg 13 [] [17] [(17, (bv false))] [] (fun fb => by kernel_rfl) rfl trivial ?_
  injection hx27 with hx27
  exact WL.to K false [17] rfl ⟨⟨(hS24.subR [0, 1]).sub [] (by decide), hx27.symm⟩, trivial⟩
 rintro y34 w36 ⟨⟨hS37, hq35⟩, hF38⟩
 subst hq35
 refine seg 14 [] [4] [(4, (bv x26))] [] (fun fb => by kernel_rfl) rfl trivial ?_
 refine WL.done rfl (WX.next ?_)
 refine WC.ret ?_
 injection hf with hf
 subst hf
 exact WX.ret_ [] (bv x26) [] (fun fb => by kernel_rfl) trivial ⟨_, rfl, rfl, hS37.keep⟩
theorem tile_joins_calls (k : Nat) (p0 : List Tile) (p1 : Pattern) (p2 : Bool) (Aa : Option Addr) (ca : Nat) (Ab : Option Addr) (cb : Nat) (r : Bool) (w : World) (hR0 : RO NoS w (rowR enc_Tile Aa ca p0)) (hR1 : RO NoS w (rowR encInt Ab cb p1.Cells)) (hf : tile_joins k p0 p1 p2 = some r) :
  CallsR Tryd.prog 40 #[(sv Aa p0 ca), (.agg #[(iv p1.Width), (iv p1.Height), (sv Ab p1.Cells cb)]), (bv p2)] w (fun v w' => v = (bv r) ∧ Keeps NoS w w') := by
 have hS : St NoS w w [rowR enc_Tile Aa ca p0, rowR encInt Ab cb p1.Cells] [] := St.init (ro_cons hR0 (ro_cons hR1 (ro_nil _ _)))
 refine enter 92 Tryd.func40 rfl Tryd.ntmps40 rfl ?_
 unfold tile_joins at hf
 refine WC.seq (WC.region ?_)
 refine WL.new hS 4 [] (fun g => (pt g)) (.cells #[(iv p1.Width), (iv p1.Height), (sv Ab p1.Cells cb)] 47 (0, 0)) [] (fun fb g => by kernel_rfl) trivial (fun g3 w4 hS5 => ?_)
 refine ⟨trivial, ?_⟩
 refine seg 2 [] [0, 2, 4] [(0, (sv Aa p0 ca)), (2, (bv p2)), (4, (pt g3))] [] (fun fb => by kernel_rfl) rfl trivial ?_
 refine WL.done rfl (WX.next (WC.seq (WC.seq (WC.region ?_))))
 refine seg 4 [.v (sv Ab p1.Cells cb)] [0, 2, 4, 12, 13, 14] [(0, (sv Aa p0 ca)), (2, (bv p2)), (4, (pt g3)), (12, (sv Ab p1.Cells cb)), (13, (iv (p1.Cells.length : Int))), (14, (iv 0))] [.cell ⟨g3, 2, none⟩ (sv Ab p1.Cells cb)] (fun fb => by kernel_rfl) rfl ⟨hS5.cell 0 rfl 2 rfl, trivial⟩ ?_
 refine WL.done rfl (WX.next ?_)
 obtain ⟨x7, hx8, hf⟩ := bind_some hf
 let e3 : Nat × Value := (13, (iv (p1.Cells.length : Int)))
 let e5 := sv Ab p1.Cells cb
 let e10 : Nat × Value := (0, (sv Aa p0 ca))
 let e11 : List Nat := [0, 1, 2, 3, 4, 5, 6, 7, 8, 9, 10, 11, 12, 13, 14, 15, 16, 17, 18, 19, 20, 21, 22, 23]
 let e12 := iv p1.Width
 let e13 : Nat × Value := (2, (bv p2))
 let e14 : Nat × Value := (4, (pt g3))
 let e16 : List Own := [rowR enc_Tile Aa ca p0, rowR encInt Ab cb p1.Cells]
 let e18 : List Nat := [0, 1, 2, 3, 4, 5, 6, 7, 8, 9, 10, 11, 12, 13, 14, 15, 16, 17, 18, 19, 20, 21, 22]
 let e21 : List Nat := [0, 2, 4, 12, 13, 14]
 let e22 := iv p1.Height
 let e23 : List Nat := [5, 6, 7, 8, 9, 10, 11, 12, 13, 14, 15, 16, 17, 18, 19, 20, 21]
 let e24 : List Nat := [0, 2, 4, 8, 9, 10, 12, 13, 14]
 let e25 : List Nat := [5, 6, 7, 8, 9, 10, 11, 12, 13, 14, 15, 16, 17, 18, 19, 20]
 let e26 : List (Nat × Addr × Value) := [(2, ⟨g3, 0, none⟩, e12), (6, ⟨g3, 0, none⟩, e12)]
 let e27 : List Nat := [5, 6, 7, 8, 9, 10, 11, 12, 13, 14, 15, 16, 17, 18, 19]
 refine WC.cutN (T := Unit) (fun t => []) (fun t w1 => St NoS w w1 e16 [] ∧ x7 = .inr t) (fun Kx7 => ?_) ?_
 ·
  refine WC.block ?_
  refine WC.loop (T := Int) (fun t => [e10, e13, e14, (12, e5), e3, (14, (iv t))]) (fun n t w1 => St NoS w w1 e16 [blk g3 (.cells #[e12, e22, e5] 47 (0, 0))] ∧ tile_joins.l0 n t p0 p1 p2 = some x7) k 0 e21 rfl ⟨(hS5.subR [0, 1]).sub [0] (by decide), hx8⟩ ?_
  rintro k9 x6 w10 ⟨hS11, hl12⟩
  let e4 := rdD p1.Cells x6 0
  let e8 : Nat × Value := (9, (iv (Int.tmod x6 p1.Width)))
  let e9 := Int.tdiv x6 p1.Width
  let e15 : Nat × Value := (14, (iv x6))
  let e17 : Nat × Value := (8, (iv e4))
  let e19 := Int.tmod x6 p1.Width
  let e20 := rdD p0 e4 z_Tile
  cases k9 with
  | zero => rw [tile_joins.l0] at hl12; cases hl12
  | succ k9 =>
   rw [tile_joins.l0] at hl12
   refine WC.seq (WC.region ?_)
   refine seg 1 [] [0, 2, 4, 12, 13, 14, 15] [e10, e13, e14, (12, e5), e3, e15, (15, (bv (decide (x6 < (p1.Cells.length : Int)))))] [] (fun fb => by kernel_rfl) rfl trivial ?_
   refine WL.done rfl (WX.next (WC.seq ?_))
   rcases br_some hl12 with ⟨h13, hl12⟩ | ⟨h13, hl12⟩
   ·refine WC.condT2 (fun fb => by kernel_rfl) h13 ?_
    refine WC.skip (WX.next (WC.seq (WC.block (WC.seq (WC.region ?_)))))
    refine seg 1 [] [0, 2, 4, 12, 13, 14, 16] [e10, e13, e14, (12, e5), e3, e15, (16, (iv x6))] [] (fun fb => by kernel_rfl) rfl trivial ?_
    obtain ⟨h14, hl12⟩ := as_some hl12
    refine seg 5 [.v (iv e4)] [0, 2, 4, 7, 8, 12, 13, 14] [e10, e13, e14, (7, (iv x6)), e17, (12, e5), e3, e15] [.idx Ab x6 p1.Cells.length, .cell ((adr Ab).add ((x6).toNat * 1)) (iv e4)] (fun fb => by kernel_rfl) rfl ⟨rowR.adr (hS11.rd 1).1 h14.1 h14.2, rowR.cell (hS11.rd 1).1 0 h14.1 h14.2 0 rfl, trivial⟩ ?_
    refine WL.done rfl (WX.next (WC.seq ?_))
    obtain ⟨h17, hl12⟩ := as_some hl12
    refine WC.regionD (e26, [0, 1, 2, 3, 4, 5, 6, 7, 8, 9], [[], [], [1], [0, 1, 2], [], [], [5], [4, 5, 6], [0, 1, 2, 3], [0, 1, 2, 3, 4, 5, 6, 7, 8]]) [[0, 1, 2, 3, 4, 5, 6, 7, 8, 9]] (by kernel_rfl) (by kernel_rfl) (NoPanic.seq (NoPanic.block (NoPanic.seq (NoPanic.seq (NoPanic.block (NoPanic.seq (NoPanic.body))))))) ?_
    have hS16 := hS11.drew
    revert hS16
    generalize World.drew w10 = w15
    intro hS16
    refine ⟨⟨hS16.cell 0 rfl 0 rfl, hS16.cell 0 rfl 0 rfl, trivial⟩, forallC ?_ (forallN)⟩
    refine segF 10 [.v e12, .v e12] e24 [e10, e13, e14, e17, e8, (10, (iv (w64 e9))), (12, e5), e3, e15] [.ne p1.Width, .ne p1.Width] [0, 1] e26 (fun fb => by kernel_rfl) rfl ⟨h17, h17, trivial⟩ rfl ?_
    refine WL.done rfl (WX.next (WC.seq (WC.seq (WC.region ?_))))
    refine seg 6 [.v e12] [0, 2, 4, 8, 9, 10, 12, 13, 14, 32] [e10, e13, e14, e17, e8, (10, (iv (w64 e9))), (12, e5), e3, e15, (32, (bv (decide (w64 (e19 + 1) < p1.Width))))] [.cell ⟨g3, 0, none⟩ e12] (fun fb => by kernel_rfl) rfl ⟨hS16.cell 0 rfl 0 rfl, trivial⟩ ?_
    refine WL.cutV (T := Bool) 8 (fun t => [(34, (bv t)), e10, e13, e14, e17, e8, (10, (iv (w64 e9))), (12, e5), e3, e15]) (fun t => ((decide (w64 (e19 + 1) < p1.Width)) || p2) = t) (fun K => ?_) ?_
    ·
     rcases Bool.eq_false_or_eq_true (decide (w64 (e19 + 1) < p1.Width)) with h18 | h18
     ·
      refine WL.setB 32 h18 rfl ?_
      refine seg 8 [] [0, 2, 4, 8, 9, 10, 12, 13, 14, 34] [e10, e13, e14, e17, e8, (10, (iv (w64 e9))), (12, e5), e3, e15, (34, (bv true))] [] (fun fb => by kernel_rfl) rfl trivial ?_
      exact WL.toV K true [34, 0, 2, 4, 8, 9, 10, 12, 13, 14] rfl (by first | (rw [h18]; done) | (rw [h18]; rfl))
     refine WL.setB 32 h18 rfl ?_
     refine seg 8 [] [0, 2, 4, 8, 9, 10, 12, 13, 14, 34] [e10, e13, e14, e17, e8, (10, (iv (w64 e9))), (12, e5), e3, e15, (34, (bv p2))] [] (fun fb => by kernel_rfl) rfl trivial ?_
     exact WL.toV K p2 [34, 0, 2, 4, 8, 9, 10, 12, 13, 14] rfl (by first | (rw [h18]; done) | (rw [h18]; rfl))
    rintro b19 rfl
    refine WL.done rfl (WX.next ?_)
    obtain ⟨x20, hx21, hl12⟩ := bind_some hl12
    let e2 := w64 ((w64 ((w64 e9) * p1.Width)) + (Int.tmod (w64 (e19 + 1)) p1.Width))
    let e6 : List (Nat × Addr × Value) := [(4, (((adr Aa).add ((e4).toNat * 4)).add 1), (iv (e20.E))), (7, ⟨g3, 2, none⟩, e5), (10, ⟨g3, 0, none⟩, e12), (15, ⟨g3, 0, none⟩, e12), (19, ((adr Ab).add (e2.toNat * 1)), (iv (rdD p1.Cells e2 0))), (22, (((adr Aa).add (((rdD p1.Cells e2 0)).toNat * 4)).add 3), (iv ((rdD p0 (rdD p1.Cells e2 0) z_Tile).W)))]
    refine WC.cutN (T := Unit) (fun t => [e10, e13, e14, e17, e8, (10, (iv (w64 e9))), (12, e5), e3, e15]) (fun t w1 => St NoS w w1 e16 [blk g3 (.cells #[e12, e22, e5] 47 (0, 0))] ∧ x20 = .inr t) (fun Kx20 => ?_) ?_
    ·
     rcases br_some hx21 with ⟨h22, hx21⟩ | ⟨h22, hx21⟩
     ·refine WC.condT2 (fun fb => by kernel_rfl) h22 ?_
      refine WC.seq ?_
      obtain ⟨h25, hx21⟩ := as_some hx21
      obtain ⟨h26, hx21⟩ := as_some hx21
      obtain ⟨h27, hx21⟩ := as_some hx21
      refine WC.regionD (e6, e11, [[], [], [0, 1], [0, 1, 2], [0, 1, 2, 3], [], [], [6], [], [], [9], [8, 9, 10], [], [12], [], [14], [12, 13, 14, 15], [8, 9, 10, 11, 12, 13, 14, 15, 16], [6, 7, 8, 9, 10, 11, 12, 13, 14, 15, 16, 17], [6, 7, 8, 9, 10, 11, 12, 13, 14, 15, 16, 17, 18], e27, e25, e23, e18]) [e11] (by kernel_rfl) (by kernel_rfl) (NoPanic.seq (NoPanic.seq (NoPanic.block (NoPanic.seq (NoPanic.seq (NoPanic.block (NoPanic.seq (NoPanic.body)))))))) ?_
      have hS24 := hS16.drew
      revert hS24
      generalize World.drew w15 = w23
      intro hS24
      refine ⟨⟨rowR.cell (hS24.rd 0).1 z_Tile h25.1 h25.2 1 rfl, hS24.cell 0 rfl 2 rfl, hS24.cell 0 rfl 0 rfl, hS24.cell 0 rfl 0 rfl, rowR.cell (hS24.rd 1).1 0 h26.1 h26.2 0 rfl, rowR.cell (hS24.rd 0).1 z_Tile h27.1 h27.2 3 rfl, trivial⟩, forallC ?_ (forallN)⟩
      refine segF 24 [.v (iv (e20.E)), .v e5, .v e12, .v e12, .v (iv (rdD p1.Cells e2 0)), .v (iv ((rdD p0 (rdD p1.Cells e2 0) z_Tile).W))] [0, 2, 4, 8, 9, 10, 12, 13, 14, 58] [e10, e13, e14, e17, e8, (10, (iv (w64 e9))), (12, e5), e3, e15, (58, (bv ((e20.E) != ((rdD p0 (rdD p1.Cells e2 0) z_Tile).W))))] [.idx Aa e4 p0.length, .ne p1.Width, .idx Ab e2 p1.Cells.length, .idx Aa (rdD p1.Cells e2 0) p0.length] [0, 1, 2, 3, 4, 5] e6 (fun fb => by kernel_rfl) rfl ⟨rowR.adr (hS24.rd 0).1 h25.1 h25.2, h17, rowR.adr (hS24.rd 1).1 h26.1 h26.2, rowR.adr (hS24.rd 0).1 h27.1 h27.2, trivial⟩ rfl ?_
      refine WL.done rfl (WX.next ?_)
      rcases br_some hx21 with ⟨h28, hx21⟩ | ⟨h28, hx21⟩
      ·refine WC.condT2 (fun fb => by kernel_rfl) h28 ?_
       refine WC.seq (WC.region ?_)
       refine seg 1 [] [6] [(6, (bv false))] [] (fun fb => by kernel_rfl) rfl trivial ?_
       refine WL.done rfl (WX.next ?_)
       refine WC.ret ?_
       injection hx21 with hx21
       subst hx21
       injection hl12 with hl12
       subst hl12
       injection hf with hf
       subst hf
       exact WX.thenR (WX.blockR (WX.thenR (WX.thenR (WX.blockR (WX.thenR (WX.ret_ [] (bv false) [] (fun fb => by kernel_rfl) trivial ⟨_, rfl, rfl, hS24.keep⟩))))))
      refine WC.condF2 (fun fb => by kernel_rfl) h28 ?_
      refine WC.skip ?_
      injection hx21 with hx21
      exact WX.to Kx20 () e24 rfl ⟨(hS24.subR [0, 1]).sub [0] (by decide), hx21.symm⟩
     refine WC.condF2 (fun fb => by kernel_rfl) h22 ?_
     refine WC.skip ?_
     injection hx21 with hx21
     exact WX.to Kx20 () e24 rfl ⟨(hS16.subR [0, 1]).sub [0] (by decide), hx21.symm⟩
    rintro y32 w29 ⟨hS30, hq31⟩
    subst hq31
    have hl12 := sum_inr hl12
    refine WX.next (WC.seq (WC.region ?_))
    refine seg 6 [.v e22] [0, 2, 4, 8, 9, 10, 12, 13, 14, 64] [e10, e13, e14, e17, e8, (10, (iv (w64 e9))), (12, e5), e3, e15, (64, (bv (decide (w64 ((w64 e9) + 1) < p1.Height))))] [.cell ⟨g3, 1, none⟩ e22] (fun fb => by kernel_rfl) rfl ⟨hS30.cell 0 rfl 1 rfl, trivial⟩ ?_
    refine WL.cutV (T := Bool) 8 (fun t => [(66, (bv t)), e10, e13, e14, e17, e8, (10, (iv (w64 e9))), (12, e5), e3, e15]) (fun t => ((decide (w64 ((w64 e9) + 1) < p1.Height)) || p2) = t) (fun K => ?_) ?_
    ·
     rcases Bool.eq_false_or_eq_true (decide (w64 ((w64 e9) + 1) < p1.Height)) with h33 | h33
     ·
      refine WL.setB 64 h33 rfl ?_
      refine seg 8 [] [0, 2, 4, 8, 9, 10, 12, 13, 14, 66] [e10, e13, e14, e17, e8, (10, (iv (w64 e9))), (12, e5), e3, e15, (66, (bv true))] [] (fun fb => by kernel_rfl) rfl trivial ?_
      exact WL.toV K true [66, 0, 2, 4, 8, 9, 10, 12, 13, 14] rfl (by first | (rw [h33]; done) | (rw [h33]; rfl))
     refine WL.setB 64 h33 rfl ?_
     refine seg 8 [] [0, 2, 4, 8, 9, 10, 12, 13, 14, 66] [e10, e13, e14, e17, e8, (10, (iv (w64 e9))), (12, e5), e3, e15, (66, (bv p2))] [] (fun fb => by kernel_rfl) rfl trivial ?_
     exact WL.toV K p2 [66, 0, 2, 4, 8, 9, 10, 12, 13, 14] rfl (by first | (rw [h33]; done) | (rw [h33]; rfl))
    rintro b34 rfl
    refine WL.done rfl (WX.next ?_)
    obtain ⟨x35, hx36, hl12⟩ := bind_some hl12
    let e1 := w64 ((w64 ((Int.tmod (w64 ((w64 e9) + 1)) p1.Height) * p1.Width)) + e19)
    let e7 : List (Nat × Addr × Value) := [(4, ((adr Aa).add ((e4).toNat * 4)), (iv (e20.N))), (7, ⟨g3, 2, none⟩, e5), (11, ⟨g3, 1, none⟩, e22), (14, ⟨g3, 0, none⟩, e12), (19, ((adr Ab).add (e1.toNat * 1)), (iv (rdD p1.Cells e1 0))), (22, (((adr Aa).add (((rdD p1.Cells e1 0)).toNat * 4)).add 2), (iv ((rdD p0 (rdD p1.Cells e1 0) z_Tile).S)))]
    refine WC.cutN (T := Unit) (fun t => [e10, e13, e14, (12, e5), e3, e15]) (fun t w1 => St NoS w w1 e16 [blk g3 (.cells #[e12, e22, e5] 47 (0, 0))] ∧ x35 = .inr t) (fun Kx35 => ?_) ?_
    ·
     rcases br_some hx36 with ⟨h37, hx36⟩ | ⟨h37, hx36⟩
     ·refine WC.condT2 (fun fb => by kernel_rfl) h37 ?_
      refine WC.seq ?_
      obtain ⟨h41, hx36⟩ := as_some hx36
      obtain ⟨h42, hx36⟩ := as_some hx36
      obtain ⟨h43, hx36⟩ := as_some hx36
      obtain ⟨h44, hx36⟩ := as_some hx36
      refine WC.regionD (e7, e11, [[], [], [0, 1], [0, 1, 2], [0, 1, 2, 3], [], [], [6], [], [8], [], [10], [8, 9, 10, 11], [], [13], [8, 9, 10, 11, 12, 13, 14], [], [8, 9, 10, 11, 12, 13, 14, 15, 16], [6, 7, 8, 9, 10, 11, 12, 13, 14, 15, 16, 17], [6, 7, 8, 9, 10, 11, 12, 13, 14, 15, 16, 17, 18], e27, e25, e23, e18]) [e11] (by kernel_rfl) (by kernel_rfl) (NoPanic.seq (NoPanic.block (NoPanic.seq (NoPanic.seq (NoPanic.block (NoPanic.seq (NoPanic.body))))))) ?_
      have hS39 := hS30.drew
      revert hS39
      generalize World.drew w29 = w38
      intro hS39
      refine ⟨⟨rowR.cell (hS39.rd 0).1 z_Tile h41.1 h41.2 0 rfl, hS39.cell 0 rfl 2 rfl, hS39.cell 0 rfl 1 rfl, hS39.cell 0 rfl 0 rfl, rowR.cell (hS39.rd 1).1 0 h43.1 h43.2 0 rfl, rowR.cell (hS39.rd 0).1 z_Tile h44.1 h44.2 2 rfl, trivial⟩, forallC ?_ (forallN)⟩
      refine segF 24 [.v (iv (e20.N)), .v e5, .v e22, .v e12, .v (iv (rdD p1.Cells e1 0)), .v (iv ((rdD p0 (rdD p1.Cells e1 0) z_Tile).S))] [0, 2, 4, 12, 13, 14, 90] [e10, e13, e14, (12, e5), e3, e15, (90, (bv ((e20.N) != ((rdD p0 (rdD p1.Cells e1 0) z_Tile).S))))] [.idx Aa e4 p0.length, .ne p1.Height, .idx Ab e1 p1.Cells.length, .idx Aa (rdD p1.Cells e1 0) p0.length] [0, 1, 2, 3, 4, 5] e7 (fun fb => by kernel_rfl) rfl ⟨rowR.adr (hS39.rd 0).1 h41.1 h41.2, h42, rowR.adr (hS39.rd 1).1 h43.1 h43.2, rowR.adr (hS39.rd 0).1 h44.1 h44.2, trivial⟩ rfl ?_
      refine WL.done rfl (WX.next ?_)
      rcases br_some hx36 with ⟨h45, hx36⟩ | ⟨h45, hx36⟩
      ·refine WC.condT2 (fun fb => by kernel_rfl) h45 ?_
       refine WC.seq (WC.region ?_)
       refine seg 1 [] [6] [(6, (bv false))] [] (fun fb => by kernel_rfl) rfl trivial ?_
       refine WL.done rfl (WX.next ?_)
       refine WC.ret ?_
       injection hx36 with hx36
       subst hx36
       injection hl12 with hl12
       subst hl12
       injection hf with hf
       subst hf
       exact WX.blockR (WX.thenR (WX.thenR (WX.blockR (WX.thenR (WX.ret_ [] (bv false) [] (fun fb => by kernel_rfl) trivial ⟨_, rfl, rfl, hS39.keep⟩)))))
      refine WC.condF2 (fun fb => by kernel_rfl) h45 ?_
      refine WC.skip ?_
      injection hx36 with hx36
      exact WX.to Kx35 () e21 rfl ⟨(hS39.subR [0, 1]).sub [0] (by decide), hx36.symm⟩
     refine WC.condF2 (fun fb => by kernel_rfl) h37 ?_
     refine WC.skip ?_
     injection hx36 with hx36
     exact WX.to Kx35 () e21 rfl ⟨(hS30.subR [0, 1]).sub [0] (by decide), hx36.symm⟩
    rintro y49 w46 ⟨hS47, hq48⟩
    subst hq48
    have hl12 := sum_inr hl12
    refine WX.blockN (WX.next ?_)
    refine WC.region ?_
    refine seg 2 [] e21 [e10, e13, e14, (12, e5), e3, (14, (iv (w64 (x6 + 1))))] [] (fun fb => by kernel_rfl) rfl trivial ?_
    refine WL.done rfl ?_
    exact WX.again k9 (Nat.lt_succ_self _) (w64 (x6 + 1)) e21 rfl ⟨(hS47.subR [0, 1]).sub [0] (by decide), hl12⟩
   refine WC.condF2 (fun fb => by kernel_rfl) h13 ?_
   refine WC.exit ?_
   injection hl12 with hl12
   exact WX.thenX (WX.thenX (WX.blockHere (WX.to Kx7 () [] rfl ⟨(hS11.subR [0, 1]).sub [] (by decide), hl12.symm⟩)))
 rintro y53 w50 ⟨hS51, hq52⟩
 subst hq52
 have hf := sum_inr hf
 refine WX.next (WC.seq (WC.region ?_))
 refine seg 1 [] [6] [(6, (bv true))] [] (fun fb => by kernel_rfl) rfl trivial ?_
 refine WL.done rfl (WX.next ?_)
 refine WC.ret ?_
 injection hf with hf
 subst hf
 exact WX.ret_ [] (bv true) [] (fun fb => by kernel_rfl) trivial ⟨_, rfl, rfl, hS51.keep⟩
theorem tile_Repeats_calls (k : Nat) (p0 : List Tile) (p1 : Pattern) (Aa : Option Addr) (ca : Nat) (Ab : Option Addr) (cb : Nat) (r : Bool) (w : World) (hR0 : RO NoS w (rowR enc_Tile Aa ca p0)) (hR1 : RO NoS w (rowR encInt Ab cb p1.Cells)) (hf : tile_Repeats k p0 p1 = some r) :
  CallsR Tryd.prog 23 #[(sv Aa p0 ca), (.agg #[(iv p1.Width), (iv p1.Height), (sv Ab p1.Cells cb)])] w (fun v w' => v = (bv r) ∧ Keeps NoS w w') := by
 have hS : St NoS w w [rowR enc_Tile Aa ca p0, rowR encInt Ab cb p1.Cells] [] := St.init (ro_cons hR0 (ro_cons hR1 (ro_nil _ _)))
 refine enter 13 Tryd.func23 rfl Tryd.ntmps23 rfl ?_
 unfold tile_Repeats at hf
 refine WC.seq (WC.region ?_)
 refine WL.new hS 3 [] (fun g => (pt g)) (.cells #[(iv p1.Width), (iv p1.Height), (sv Ab p1.Cells cb)] 47 (0, 0)) [] (fun fb g => by kernel_rfl) trivial (fun g2 w3 hS4 => ?_)
 refine ⟨trivial, ?_⟩
 refine seg 2 [] [0, 3] [(0, (sv Aa p0 ca)), (3, (pt g2))] [] (fun fb => by kernel_rfl) rfl trivial ?_
 refine WL.done rfl (WX.next (WC.seq (WC.region ?_)))
 refine seg 2 [.v (iv p1.Width), .v (iv p1.Height), .v (sv Ab p1.Cells cb)] [0, 3, 5, 6] [(0, (sv Aa p0 ca)), (3, (pt g2)), (5, (sv Aa p0 ca)), (6, (.agg #[(iv p1.Width), (iv p1.Height), (sv Ab p1.Cells cb)]))] [.cell ⟨g2, 0, none⟩ (iv p1.Width), .cell ⟨g2, 1, none⟩ (iv p1.Height), .cell ⟨g2, 2, none⟩ (sv Ab p1.Cells cb)] (fun fb => by kernel_rfl) rfl ⟨hS4.cell 0 rfl 0 rfl, hS4.cell 0 rfl 1 rfl, hS4.cell 0 rfl 2 rfl, trivial⟩ ?_
 obtain ⟨t5, ht6, hf⟩ := bind_some hf
 refine WL.call (some 7) 39 #[(sv Aa p0 ca), (.agg #[(iv p1.Width), (iv p1.Height), (sv Ab p1.Cells cb)])] (fun fb => by kernel_rfl) (tile_of_calls _ p0 p1 Aa ca Ab cb t5 _ (hS4.rd 0) (hS4.rd 1) ht6) (fun v w7 hR8 => ?_)
 obtain ⟨rfl, hk_⟩ := hR8
 have hS9 := hS4.keepN hk_
 refine ⟨trivial, ?_⟩
 refine seg 4 [] [0, 3, 8] [(0, (sv Aa p0 ca)), (3, (pt g2)), (8, (bv t5))] [] (fun fb => by kernel_rfl) rfl trivial ?_
 obtain ⟨x10, hx11, hf⟩ := bind_some hf
 let e1 : Array Value := #[(iv p1.Width), (iv p1.Height), (sv Ab p1.Cells cb)]
 refine WL.cutW (T := Bool) 8 (fun t => [(12, (bv t))]) (fun t w1 => (St NoS w w1 [rowR enc_Tile Aa ca p0, rowR encInt Ab cb p1.Cells] [] ∧ x10 = t) ∧ CellsOK [] w1) (fun K => ?_) ?_
 ·
  rcases br_some hx11 with ⟨h12, hx11⟩ | ⟨h12, hx11⟩
  ·
   refine WL.setB 8 h12 rfl ?_
   refine seg 6 [.v (iv p1.Width), .v (iv p1.Height), .v (sv Ab p1.Cells cb)] [8, 9, 10] [(8, (bv true)), (9, (sv Aa p0 ca)), (10, (.agg e1))] [.cell ⟨g2, 0, none⟩ (iv p1.Width), .cell ⟨g2, 1, none⟩ (iv p1.Height), .cell ⟨g2, 2, none⟩ (sv Ab p1.Cells cb)] (fun fb => by kernel_rfl) rfl ⟨hS9.cell 0 rfl 0 rfl, hS9.cell 0 rfl 1 rfl, hS9.cell 0 rfl 2 rfl, trivial⟩ ?_
   obtain ⟨t13, ht14, hx11⟩ := bind_some hx11
   refine WL.call (some 11) 40 #[(sv Aa p0 ca), (.agg e1), (bv true)] (fun fb => by kernel_rfl) (tile_joins_calls _ p0 p1 true Aa ca Ab cb t13 _ (hS9.rd 0) (hS9.rd 1) ht14) (fun v w15 hR16 => ?_)
   obtain ⟨rfl, hk_⟩ := hR16
   have hS17 := hS9.keepN hk_
   refine ⟨trivial, ?_⟩
   refine seg 8 [] [12] [(12, (bv t13))] [] (fun fb => by kernel_rfl) rfl trivial ?_
   injection hx11 with hx11
   exact WL.to K t13 [12] rfl ⟨⟨(hS17.subR [0, 1]).sub [] (by decide), hx11.symm⟩, trivial⟩
  refine WL.setB 8 h12 rfl ?_
  refine seg 8 [] [12] [(12, (bv false))] [] (fun fb => by kernel_rfl) rfl trivial ?_
  injection hx11 with hx11
  exact WL.to K false [12] rfl ⟨⟨(hS9.subR [0, 1]).sub [] (by decide), hx11.symm⟩, trivial⟩
 rintro y18 w20 ⟨⟨hS21, hq19⟩, hF22⟩
 subst hq19
 refine seg 9 [] [4] [(4, (bv x10))] [] (fun fb => by kernel_rfl) rfl trivial ?_
 refine WL.done rfl (WX.next ?_)
 refine WC.ret ?_
 injection hf with hf
 subst hf
 exact WX.ret_ [] (bv x10) [] (fun fb => by kernel_rfl) trivial ⟨_, rfl, rfl, hS21.keep⟩
end Gp
