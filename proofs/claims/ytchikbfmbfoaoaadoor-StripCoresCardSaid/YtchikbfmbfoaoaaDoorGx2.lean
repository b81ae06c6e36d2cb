/- Walks: each function of the program computes its plain function. -/
import Derived.Test.YtchikbfmbfoaoaaDoorGx1
set_option linter.unusedVariables false
set_option linter.unusedSimpArgs false
set_option maxHeartbeats 4000000
set_option maxRecDepth 8000
namespace Gp
open Go Gw Go.Proofs
theorem law04_awake_calls (k : Nat)  (mG : Glo) (r : Bool) (w : World) (hR0 : RO NoS w (gloO Tryd.prog 2 5 0 1 mG)) (hf : law04_awake k = some r) :
  CallsR Tryd.prog 9 #[] w (fun v w' => v = (bv r) ∧ Keeps NoS w w') := by
 have hS : St NoS w w [gloO Tryd.prog 2 5 0 1 mG] [] := St.init (ro_cons hR0 (ro_nil _ _))
 refine enter 92 Tryd.func9 rfl Tryd.ntmps9 rfl ?_
 unfold law04_awake at hf
 refine WC.seq (WC.region ?_)
 refine seg 1 [] [] [] [] (fun fb => by kernel_rfl) rfl trivial ?_
 refine WL.done rfl (WX.next (WC.seq (WC.region ?_)))
 obtain ⟨t3, ht5, hf⟩ := bind_some hf
 refine WL.call (some 17) 29 #[(.string (⟨#[48, 46, 49, 46, 48, 46, 48, 32, 48, 46, 50, 46, 48, 46, 49]⟩ : ByteArray))] (fun fb => by kernel_rfl) (tile_Parse_calls _ (⟨#[48, 46, 49, 46, 48, 46, 48, 32, 48, 46, 50, 46, 48, 46, 49]⟩ : ByteArray) mG t3 _ (hS.rd 0) ht5) (fun v w6 hR7 => ?_)
 obtain ⟨A10, c11, rfl, hk_⟩ := hR7
 have hS8 := hS.go w6 [rowO 53 enc_Tile A10 c11 t3.1] (hS.call hk_ [] [] (fun g hg => hg.elim) (by simp) (by decide))
 refine ⟨trivial, ?_⟩
 refine seg 6 [] [1] [(1, (sv A10 t3.1 c11))] [] (fun fb => by kernel_rfl) rfl trivial ?_
 refine WL.done rfl (WX.next (WC.seq (WC.region ?_)))
 obtain ⟨t12, ht13, hf⟩ := bind_some hf
 refine WL.call (some 21) 29 #[(.string (⟨#[48, 46, 49, 46, 49, 46, 48, 32, 49, 46, 48, 46, 48, 46, 49]⟩ : ByteArray))] (fun fb => by kernel_rfl) (tile_Parse_calls _ (⟨#[48, 46, 49, 46, 49, 46, 48, 32, 49, 46, 48, 46, 48, 46, 49]⟩ : ByteArray) mG t12 _ (hS8.rd 0) ht13) (fun v w14 hR15 => ?_)
 obtain ⟨A17, c18, rfl, hk_⟩ := hR15
 have hS16 := hS8.go w14 [rowO 53 enc_Tile A17 c18 t12.1, rowO 53 enc_Tile A10 c11 t3.1] (hS8.call hk_ [] [0] (fun g hg => hg.elim) (by simp) (by decide))
 refine ⟨trivial, ?_⟩
 refine seg 6 [] [1, 3] [(1, (sv A10 t3.1 c11)), (3, (sv A17 t12.1 c18))] [] (fun fb => by kernel_rfl) rfl trivial ?_
 refine WL.done rfl (WX.next (WC.seq (WC.region ?_)))
 refine seg 1 [] [1, 3, 25] [(1, (sv A10 t3.1 c11)), (3, (sv A17 t12.1 c18)), (25, (sv A10 t3.1 c11))] [] (fun fb => by kernel_rfl) rfl trivial ?_
 obtain ⟨t19, ht20, hf⟩ := bind_some hf
 refine WL.call (some 26) 11 #[(sv A10 t3.1 c11)] (fun fb => by kernel_rfl) (strip_Rows_calls _ t3.1 A10 c11 t19 _ (hS16.ow 1).ofO ht20) (fun v w21 hR22 => ?_)
 obtain ⟨rfl, hk_⟩ := hR22
 have hS23 := hS16.keepN hk_
 refine ⟨trivial, ?_⟩
 refine seg 7 [] [1, 3, 5, 6] [(1, (sv A10 t3.1 c11)), (3, (sv A17 t12.1 c18)), (5, (iv t19.1)), (6, (iv t19.2))] [] (fun fb => by kernel_rfl) rfl trivial ?_
 refine WL.done rfl (WX.next (WC.seq (WC.region ?_)))
 refine seg 1 [] [3, 5, 6, 30] [(3, (sv A17 t12.1 c18)), (5, (iv t19.1)), (6, (iv t19.2)), (30, (sv A10 t3.1 c11))] [] (fun fb => by kernel_rfl) rfl trivial ?_
 obtain ⟨t24, ht25, hf⟩ := bind_some hf
 refine WL.call (some 31) 10 #[(sv A10 t3.1 c11)] (fun fb => by kernel_rfl) (strip_Core_calls _ t3.1 A10 c11 t24 _ (hS23.ow 1).ofO ht25) (fun v w26 hR27 => ?_)
 obtain ⟨A29, c30, rfl, hk_⟩ := hR27
 have hS28 := hS16.go w26 [rowO 3 encInt A29 c30 t24.1, rowO 53 enc_Tile A17 c18 t12.1, rowO 53 enc_Tile A10 c11 t3.1] (hS23.call hk_ [] [0, 1] (fun g hg => hg.elim) (by simp) (by decide))
 refine ⟨trivial, ?_⟩
 refine seg 7 [] [3, 5, 6, 7, 8] [(3, (sv A17 t12.1 c18)), (5, (iv t19.1)), (6, (iv t19.2)), (7, (sv A29 t24.1 c30)), (8, (iv t24.2))] [] (fun fb => by kernel_rfl) rfl trivial ?_
 refine WL.done rfl (WX.next (WC.seq (WC.region ?_)))
 refine seg 2 [] [3, 5, 6, 7, 8, 35, 36] [(3, (sv A17 t12.1 c18)), (5, (iv t19.1)), (6, (iv t19.2)), (7, (sv A29 t24.1 c30)), (8, (iv t24.2)), (35, (sv A17 t12.1 c18)), (36, (sv A17 t12.1 c18))] [] (fun fb => by kernel_rfl) rfl trivial ?_
 obtain ⟨t31, ht32, hf⟩ := bind_some hf
 refine WL.call (some 37) 15 #[(sv A17 t12.1 c18), (sv A17 t12.1 c18)] (fun fb => by kernel_rfl) (strip_On_calls _ t12.1 t12.1 A17 c18 A17 c18 t31 _ (hS28.ow 1).ofO (hS28.ow 1).ofO ht32) (fun v w33 hR34 => ?_)
 obtain ⟨A36, c37, A38, c39, rfl, hk_⟩ := hR34
 have hS35 := hS28.go w33 [rowO 53 enc_Tile A36 c37 t31.1, rowO 78 enc_A2_Int A38 c39 t31.2.1, rowO 3 encInt A29 c30 t24.1, rowO 53 enc_Tile A17 c18 t12.1, rowO 53 enc_Tile A10 c11 t3.1] (hS28.call hk_ [] [0, 1, 2] (fun g hg => hg.elim) (by simp) (by decide))
 refine ⟨trivial, ?_⟩
 refine seg 10 [] [3, 5, 6, 7, 8, 9, 10, 11] [(3, (sv A17 t12.1 c18)), (5, (iv t19.1)), (6, (iv t19.2)), (7, (sv A29 t24.1 c30)), (8, (iv t24.2)), (9, (sv A36 t31.1 c37)), (10, (sv A38 t31.2.1 c39)), (11, (iv t31.2.2))] [] (fun fb => by kernel_rfl) rfl trivial ?_
 refine WL.done rfl (WX.next (WC.seq (WC.region ?_)))
 refine seg 1 [] [3, 5, 6, 7, 8, 10, 11, 42] [(3, (sv A17 t12.1 c18)), (5, (iv t19.1)), (6, (iv t19.2)), (7, (sv A29 t24.1 c30)), (8, (iv t24.2)), (10, (sv A38 t31.2.1 c39)), (11, (iv t31.2.2)), (42, (sv A36 t31.1 c37))] [] (fun fb => by kernel_rfl) rfl trivial ?_
 obtain ⟨t40, ht41, hf⟩ := bind_some hf
 refine WL.call (some 43) 30 #[(sv A36 t31.1 c37)] (fun fb => by kernel_rfl) (tile_Text_calls _ t31.1 A36 c37 mG t40 _ (hS35.ow 0).ofO (hS35.rd 0) ht41) (fun v w42 hR43 => ?_)
 obtain ⟨rfl, hk_⟩ := hR43
 have hS44 := hS35.keepN hk_
 refine ⟨trivial, ?_⟩
 refine seg 7 [] [3, 5, 6, 7, 8, 10, 11, 12, 13] [(3, (sv A17 t12.1 c18)), (5, (iv t19.1)), (6, (iv t19.2)), (7, (sv A29 t24.1 c30)), (8, (iv t24.2)), (10, (sv A38 t31.2.1 c39)), (11, (iv t31.2.2)), (12, (.string t40.1)), (13, (iv t40.2))] [] (fun fb => by kernel_rfl) rfl trivial ?_
 refine WL.done rfl (WX.next (WC.seq (WC.region ?_)))
 refine seg 1 [] [5, 6, 7, 8, 10, 11, 12, 13, 47] [(5, (iv t19.1)), (6, (iv t19.2)), (7, (sv A29 t24.1 c30)), (8, (iv t24.2)), (10, (sv A38 t31.2.1 c39)), (11, (iv t31.2.2)), (12, (.string t40.1)), (13, (iv t40.2)), (47, (sv A17 t12.1 c18))] [] (fun fb => by kernel_rfl) rfl trivial ?_
 obtain ⟨t45, ht46, hf⟩ := bind_some hf
 refine WL.call (some 48) 19 #[(sv A17 t12.1 c18), (iv 0), (iv 1), (iv 3)] (fun fb => by kernel_rfl) (strip_Path_calls _ t12.1 0 1 3 A17 c18 t45 _ (hS44.ow 3).ofO ht46) (fun v w47 hR48 => ?_)
 obtain ⟨A50, c51, rfl, hk_⟩ := hR48
 have hS49 := hS35.go w47 [rowO 3 encInt A50 c51 t45.1, rowO 53 enc_Tile A36 c37 t31.1, rowO 78 enc_A2_Int A38 c39 t31.2.1, rowO 3 encInt A29 c30 t24.1, rowO 53 enc_Tile A17 c18 t12.1, rowO 53 enc_Tile A10 c11 t3.1] (hS44.call hk_ [] [0, 1, 2, 3, 4] (fun g hg => hg.elim) (by simp) (by decide))
 refine ⟨trivial, ?_⟩
 refine seg 7 [] [5, 6, 7, 8, 10, 11, 12, 13, 14, 15] [(5, (iv t19.1)), (6, (iv t19.2)), (7, (sv A29 t24.1 c30)), (8, (iv t24.2)), (10, (sv A38 t31.2.1 c39)), (11, (iv t31.2.2)), (12, (.string t40.1)), (13, (iv t40.2)), (14, (sv A50 t45.1 c51)), (15, (iv t45.2))] [] (fun fb => by kernel_rfl) rfl trivial ?_
 refine WL.done rfl (WX.next (WC.seq (WC.region ?_)))
 refine seg 3 [] [5, 7, 8, 10, 11, 12, 13, 14, 15, 53] [(5, (iv t19.1)), (7, (sv A29 t24.1 c30)), (8, (iv t24.2)), (10, (sv A38 t31.2.1 c39)), (11, (iv t31.2.2)), (12, (.string t40.1)), (13, (iv t40.2)), (14, (sv A50 t45.1 c51)), (15, (iv t45.2)), (53, (bv (t19.2 == 0)))] [] (fun fb => by kernel_rfl) rfl trivial ?_
 refine WL.cutV (T := Bool) 6 (fun t => [(56, (bv t)), (5, (iv t19.1)), (7, (sv A29 t24.1 c30)), (10, (sv A38 t31.2.1 c39)), (11, (iv t31.2.2)), (12, (.string t40.1)), (13, (iv t40.2)), (14, (sv A50 t45.1 c51)), (15, (iv t45.2))]) (fun t => ((t19.2 == 0) && (t24.2 == 0)) = t) (fun K => ?_) ?_
 ·
  rcases Bool.eq_false_or_eq_true (t19.2 == 0) with h52 | h52
  ·
   refine WL.setB 53 h52 rfl ?_
   refine seg 6 [] [5, 7, 10, 11, 12, 13, 14, 15, 56] [(5, (iv t19.1)), (7, (sv A29 t24.1 c30)), (10, (sv A38 t31.2.1 c39)), (11, (iv t31.2.2)), (12, (.string t40.1)), (13, (iv t40.2)), (14, (sv A50 t45.1 c51)), (15, (iv t45.2)), (56, (bv (t24.2 == 0)))] [] (fun fb => by kernel_rfl) rfl trivial ?_
   exact WL.toV K (t24.2 == 0) [56, 5, 7, 10, 11, 12, 13, 14, 15] rfl (by first | (rw [h52]; done) | (rw [h52]; rfl))
  refine WL.setB 53 h52 rfl ?_
  refine seg 6 [] [5, 7, 10, 11, 12, 13, 14, 15, 56] [(5, (iv t19.1)), (7, (sv A29 t24.1 c30)), (10, (sv A38 t31.2.1 c39)), (11, (iv t31.2.2)), (12, (.string t40.1)), (13, (iv t40.2)), (14, (sv A50 t45.1 c51)), (15, (iv t45.2)), (56, (bv false))] [] (fun fb => by kernel_rfl) rfl trivial ?_
  exact WL.toV K false [56, 5, 7, 10, 11, 12, 13, 14, 15] rfl (by first | (rw [h52]; done) | (rw [h52]; rfl))
 rintro b53 rfl
 refine seg 7 [] [5, 7, 10, 11, 12, 13, 14, 15, 57] [(5, (iv t19.1)), (7, (sv A29 t24.1 c30)), (10, (sv A38 t31.2.1 c39)), (11, (iv t31.2.2)), (12, (.string t40.1)), (13, (iv t40.2)), (14, (sv A50 t45.1 c51)), (15, (iv t45.2)), (57, (bv ((t19.2 == 0) && (t24.2 == 0))))] [] (fun fb => by kernel_rfl) rfl trivial ?_
 refine WL.cutV (T := Bool) 10 (fun t => [(60, (bv t)), (5, (iv t19.1)), (7, (sv A29 t24.1 c30)), (10, (sv A38 t31.2.1 c39)), (12, (.string t40.1)), (13, (iv t40.2)), (14, (sv A50 t45.1 c51)), (15, (iv t45.2))]) (fun t => (((t19.2 == 0) && (t24.2 == 0)) && (t31.2.2 == 0)) = t) (fun K => ?_) ?_
 ·
  rcases Bool.eq_false_or_eq_true ((t19.2 == 0) && (t24.2 == 0)) with h54 | h54
  ·
   refine WL.setB 57 h54 rfl ?_
   refine seg 10 [] [5, 7, 10, 12, 13, 14, 15, 60] [(5, (iv t19.1)), (7, (sv A29 t24.1 c30)), (10, (sv A38 t31.2.1 c39)), (12, (.string t40.1)), (13, (iv t40.2)), (14, (sv A50 t45.1 c51)), (15, (iv t45.2)), (60, (bv (t31.2.2 == 0)))] [] (fun fb => by kernel_rfl) rfl trivial ?_
   exact WL.toV K (t31.2.2 == 0) [60, 5, 7, 10, 12, 13, 14, 15] rfl (by first | (rw [h54]; done) | (rw [h54]; rfl))
  refine WL.setB 57 h54 rfl ?_
  refine seg 10 [] [5, 7, 10, 12, 13, 14, 15, 60] [(5, (iv t19.1)), (7, (sv A29 t24.1 c30)), (10, (sv A38 t31.2.1 c39)), (12, (.string t40.1)), (13, (iv t40.2)), (14, (sv A50 t45.1 c51)), (15, (iv t45.2)), (60, (bv false))] [] (fun fb => by kernel_rfl) rfl trivial ?_
  exact WL.toV K false [60, 5, 7, 10, 12, 13, 14, 15] rfl (by first | (rw [h54]; done) | (rw [h54]; rfl))
 rintro b55 rfl
 refine seg 11 [] [5, 7, 10, 12, 13, 14, 15, 61] [(5, (iv t19.1)), (7, (sv A29 t24.1 c30)), (10, (sv A38 t31.2.1 c39)), (12, (.string t40.1)), (13, (iv t40.2)), (14, (sv A50 t45.1 c51)), (15, (iv t45.2)), (61, (bv (((t19.2 == 0) && (t24.2 == 0)) && (t31.2.2 == 0))))] [] (fun fb => by kernel_rfl) rfl trivial ?_
 refine WL.cutV (T := Bool) 14 (fun t => [(64, (bv t)), (5, (iv t19.1)), (7, (sv A29 t24.1 c30)), (10, (sv A38 t31.2.1 c39)), (12, (.string t40.1)), (14, (sv A50 t45.1 c51)), (15, (iv t45.2))]) (fun t => ((((t19.2 == 0) && (t24.2 == 0)) && (t31.2.2 == 0)) && (t40.2 == 0)) = t) (fun K => ?_) ?_
 ·
  rcases Bool.eq_false_or_eq_true (((t19.2 == 0) && (t24.2 == 0)) && (t31.2.2 == 0)) with h56 | h56
  ·
   refine WL.setB 61 h56 rfl ?_
   refine seg 14 [] [5, 7, 10, 12, 14, 15, 64] [(5, (iv t19.1)), (7, (sv A29 t24.1 c30)), (10, (sv A38 t31.2.1 c39)), (12, (.string t40.1)), (14, (sv A50 t45.1 c51)), (15, (iv t45.2)), (64, (bv (t40.2 == 0)))] [] (fun fb => by kernel_rfl) rfl trivial ?_
   exact WL.toV K (t40.2 == 0) [64, 5, 7, 10, 12, 14, 15] rfl (by first | (rw [h56]; done) | (rw [h56]; rfl))
  refine WL.setB 61 h56 rfl ?_
  refine seg 14 [] [5, 7, 10, 12, 14, 15, 64] [(5, (iv t19.1)), (7, (sv A29 t24.1 c30)), (10, (sv A38 t31.2.1 c39)), (12, (.string t40.1)), (14, (sv A50 t45.1 c51)), (15, (iv t45.2)), (64, (bv false))] [] (fun fb => by kernel_rfl) rfl trivial ?_
  exact WL.toV K false [64, 5, 7, 10, 12, 14, 15] rfl (by first | (rw [h56]; done) | (rw [h56]; rfl))
 rintro b57 rfl
 refine seg 15 [] [5, 7, 10, 12, 14, 15, 65] [(5, (iv t19.1)), (7, (sv A29 t24.1 c30)), (10, (sv A38 t31.2.1 c39)), (12, (.string t40.1)), (14, (sv A50 t45.1 c51)), (15, (iv t45.2)), (65, (bv ((((t19.2 == 0) && (t24.2 == 0)) && (t31.2.2 == 0)) && (t40.2 == 0))))] [] (fun fb => by kernel_rfl) rfl trivial ?_
 refine WL.cutV (T := Bool) 18 (fun t => [(68, (bv t)), (5, (iv t19.1)), (7, (sv A29 t24.1 c30)), (10, (sv A38 t31.2.1 c39)), (12, (.string t40.1)), (14, (sv A50 t45.1 c51))]) (fun t => (((((t19.2 == 0) && (t24.2 == 0)) && (t31.2.2 == 0)) && (t40.2 == 0)) && (t45.2 == 0)) = t) (fun K => ?_) ?_
 ·
  rcases Bool.eq_false_or_eq_true ((((t19.2 == 0) && (t24.2 == 0)) && (t31.2.2 == 0)) && (t40.2 == 0)) with h58 | h58
  ·
   refine WL.setB 65 h58 rfl ?_
   refine seg 18 [] [5, 7, 10, 12, 14, 68] [(5, (iv t19.1)), (7, (sv A29 t24.1 c30)), (10, (sv A38 t31.2.1 c39)), (12, (.string t40.1)), (14, (sv A50 t45.1 c51)), (68, (bv (t45.2 == 0)))] [] (fun fb => by kernel_rfl) rfl trivial ?_
   exact WL.toV K (t45.2 == 0) [68, 5, 7, 10, 12, 14] rfl (by first | (rw [h58]; done) | (rw [h58]; rfl))
  refine WL.setB 65 h58 rfl ?_
  refine seg 18 [] [5, 7, 10, 12, 14, 68] [(5, (iv t19.1)), (7, (sv A29 t24.1 c30)), (10, (sv A38 t31.2.1 c39)), (12, (.string t40.1)), (14, (sv A50 t45.1 c51)), (68, (bv false))] [] (fun fb => by kernel_rfl) rfl trivial ?_
  exact WL.toV K false [68, 5, 7, 10, 12, 14] rfl (by first | (rw [h58]; done) | (rw [h58]; rfl))
 rintro b59 rfl
 refine seg 19 [] [5, 7, 10, 12, 14, 69] [(5, (iv t19.1)), (7, (sv A29 t24.1 c30)), (10, (sv A38 t31.2.1 c39)), (12, (.string t40.1)), (14, (sv A50 t45.1 c51)), (69, (bv (((((t19.2 == 0) && (t24.2 == 0)) && (t31.2.2 == 0)) && (t40.2 == 0)) && (t45.2 == 0))))] [] (fun fb => by kernel_rfl) rfl trivial ?_
 refine WL.cutV (T := Bool) 22 (fun t => [(72, (bv t)), (7, (sv A29 t24.1 c30)), (10, (sv A38 t31.2.1 c39)), (12, (.string t40.1)), (14, (sv A50 t45.1 c51))]) (fun t => ((((((t19.2 == 0) && (t24.2 == 0)) && (t31.2.2 == 0)) && (t40.2 == 0)) && (t45.2 == 0)) && (t19.1 == 2)) = t) (fun K => ?_) ?_
 ·
  rcases Bool.eq_false_or_eq_true (((((t19.2 == 0) && (t24.2 == 0)) && (t31.2.2 == 0)) && (t40.2 == 0)) && (t45.2 == 0)) with h60 | h60
  ·
   refine WL.setB 69 h60 rfl ?_
   refine seg 22 [] [7, 10, 12, 14, 72] [(7, (sv A29 t24.1 c30)), (10, (sv A38 t31.2.1 c39)), (12, (.string t40.1)), (14, (sv A50 t45.1 c51)), (72, (bv (t19.1 == 2)))] [] (fun fb => by kernel_rfl) rfl trivial ?_
   exact WL.toV K (t19.1 == 2) [72, 7, 10, 12, 14] rfl (by first | (rw [h60]; done) | (rw [h60]; rfl))
  refine WL.setB 69 h60 rfl ?_
  refine seg 22 [] [7, 10, 12, 14, 72] [(7, (sv A29 t24.1 c30)), (10, (sv A38 t31.2.1 c39)), (12, (.string t40.1)), (14, (sv A50 t45.1 c51)), (72, (bv false))] [] (fun fb => by kernel_rfl) rfl trivial ?_
  exact WL.toV K false [72, 7, 10, 12, 14] rfl (by first | (rw [h60]; done) | (rw [h60]; rfl))
 rintro b61 rfl
 refine seg 23 [] [7, 10, 12, 14, 73] [(7, (sv A29 t24.1 c30)), (10, (sv A38 t31.2.1 c39)), (12, (.string t40.1)), (14, (sv A50 t45.1 c51)), (73, (bv ((((((t19.2 == 0) && (t24.2 == 0)) && (t31.2.2 == 0)) && (t40.2 == 0)) && (t45.2 == 0)) && (t19.1 == 2))))] [] (fun fb => by kernel_rfl) rfl trivial ?_
 refine WL.cutV (T := Bool) 27 (fun t => [(77, (bv t)), (10, (sv A38 t31.2.1 c39)), (12, (.string t40.1)), (14, (sv A50 t45.1 c51))]) (fun t => (((((((t19.2 == 0) && (t24.2 == 0)) && (t31.2.2 == 0)) && (t40.2 == 0)) && (t45.2 == 0)) && (t19.1 == 2)) && ((t24.1.length : Int) == 0)) = t) (fun K => ?_) ?_
 ·
  rcases Bool.eq_false_or_eq_true ((((((t19.2 == 0) && (t24.2 == 0)) && (t31.2.2 == 0)) && (t40.2 == 0)) && (t45.2 == 0)) && (t19.1 == 2)) with h62 | h62
  ·
   refine WL.setB 73 h62 rfl ?_
   refine seg 27 [] [10, 12, 14, 77] [(10, (sv A38 t31.2.1 c39)), (12, (.string t40.1)), (14, (sv A50 t45.1 c51)), (77, (bv ((t24.1.length : Int) == 0)))] [] (fun fb => by kernel_rfl) rfl trivial ?_
   exact WL.toV K ((t24.1.length : Int) == 0) [77, 10, 12, 14] rfl (by first | (rw [h62]; done) | (rw [h62]; rfl))
  refine WL.setB 73 h62 rfl ?_
  refine seg 27 [] [10, 12, 14, 77] [(10, (sv A38 t31.2.1 c39)), (12, (.string t40.1)), (14, (sv A50 t45.1 c51)), (77, (bv false))] [] (fun fb => by kernel_rfl) rfl trivial ?_
  exact WL.toV K false [77, 10, 12, 14] rfl (by first | (rw [h62]; done) | (rw [h62]; rfl))
 rintro b63 rfl
 refine seg 28 [] [10, 12, 14, 78] [(10, (sv A38 t31.2.1 c39)), (12, (.string t40.1)), (14, (sv A50 t45.1 c51)), (78, (bv (((((((t19.2 == 0) && (t24.2 == 0)) && (t31.2.2 == 0)) && (t40.2 == 0)) && (t45.2 == 0)) && (t19.1 == 2)) && ((t24.1.length : Int) == 0))))] [] (fun fb => by kernel_rfl) rfl trivial ?_
 refine WL.cutV (T := Bool) 32 (fun t => [(82, (bv t)), (12, (.string t40.1)), (14, (sv A50 t45.1 c51))]) (fun t => ((((((((t19.2 == 0) && (t24.2 == 0)) && (t31.2.2 == 0)) && (t40.2 == 0)) && (t45.2 == 0)) && (t19.1 == 2)) && ((t24.1.length : Int) == 0)) && ((t31.2.1.length : Int) == 2)) = t) (fun K => ?_) ?_
 ·
  rcases Bool.eq_false_or_eq_true (((((((t19.2 == 0) && (t24.2 == 0)) && (t31.2.2 == 0)) && (t40.2 == 0)) && (t45.2 == 0)) && (t19.1 == 2)) && ((t24.1.length : Int) == 0)) with h65 | h65
  ·
   refine WL.setB 78 h65 rfl ?_
   refine seg 32 [] [12, 14, 82] [(12, (.string t40.1)), (14, (sv A50 t45.1 c51)), (82, (bv ((t31.2.1.length : Int) == 2)))] [] (fun fb => by kernel_rfl) rfl trivial ?_
   exact WL.toV K ((t31.2.1.length : Int) == 2) [82, 12, 14] rfl (by first | (rw [h65]; done) | (rw [h65]; rfl))
  refine WL.setB 78 h65 rfl ?_
  refine seg 32 [] [12, 14, 82] [(12, (.string t40.1)), (14, (sv A50 t45.1 c51)), (82, (bv false))] [] (fun fb => by kernel_rfl) rfl trivial ?_
  exact WL.toV K false [82, 12, 14] rfl (by first | (rw [h65]; done) | (rw [h65]; rfl))
 rintro b66 rfl
 refine seg 33 [] [12, 14, 83] [(12, (.string t40.1)), (14, (sv A50 t45.1 c51)), (83, (bv ((((((((t19.2 == 0) && (t24.2 == 0)) && (t31.2.2 == 0)) && (t40.2 == 0)) && (t45.2 == 0)) && (t19.1 == 2)) && ((t24.1.length : Int) == 0)) && ((t31.2.1.length : Int) == 2))))] [] (fun fb => by kernel_rfl) rfl trivial ?_
 refine WL.cutV (T := Bool) 36 (fun t => [(86, (bv t)), (14, (sv A50 t45.1 c51))]) (fun t => (((((((((t19.2 == 0) && (t24.2 == 0)) && (t31.2.2 == 0)) && (t40.2 == 0)) && (t45.2 == 0)) && (t19.1 == 2)) && ((t24.1.length : Int) == 0)) && ((t31.2.1.length : Int) == 2)) && (strEq t40.1 (⟨#[49, 46, 48, 46, 49, 46, 49, 32, 48, 46, 49, 46, 48, 46, 48]⟩ : ByteArray))) = t) (fun K => ?_) ?_
 ·
  rcases Bool.eq_false_or_eq_true ((((((((t19.2 == 0) && (t24.2 == 0)) && (t31.2.2 == 0)) && (t40.2 == 0)) && (t45.2 == 0)) && (t19.1 == 2)) && ((t24.1.length : Int) == 0)) && ((t31.2.1.length : Int) == 2)) with h67 | h67
  ·
   refine WL.setB 83 h67 rfl ?_
   refine seg 34 [] [14, 83, 84] [(14, (sv A50 t45.1 c51)), (83, (bv true)), (84, (.string t40.1))] [] (fun fb => by kernel_rfl) rfl trivial ?_
   refine seg 35 [] [14, 83, 85] [(14, (sv A50 t45.1 c51)), (83, (bv true)), (85, (bv (t40.1.toList == (⟨#[49, 46, 48, 46, 49, 46, 49, 32, 48, 46, 49, 46, 48, 46, 48]⟩ : ByteArray).toList)))] [] (fun fb => by kernel_rfl) rfl trivial ?_
   refine WL.setB 85 (strEq_raw t40.1 (⟨#[49, 46, 48, 46, 49, 46, 49, 32, 48, 46, 49, 46, 48, 46, 48]⟩ : ByteArray)) rfl ?_
   refine seg 36 [] [14, 86] [(14, (sv A50 t45.1 c51)), (86, (bv (strEq t40.1 (⟨#[49, 46, 48, 46, 49, 46, 49, 32, 48, 46, 49, 46, 48, 46, 48]⟩ : ByteArray))))] [] (fun fb => by kernel_rfl) rfl trivial ?_
   exact WL.toV K (strEq t40.1 (⟨#[49, 46, 48, 46, 49, 46, 49, 32, 48, 46, 49, 46, 48, 46, 48]⟩ : ByteArray)) [86, 14] rfl (by first | (rw [h67]; done) | (rw [h67]; rfl))
  refine WL.setB 83 h67 rfl ?_
  refine seg 36 [] [14, 86] [(14, (sv A50 t45.1 c51)), (86, (bv false))] [] (fun fb => by kernel_rfl) rfl trivial ?_
  exact WL.toV K false [86, 14] rfl (by first | (rw [h67]; done) | (rw [h67]; rfl))
 rintro b68 rfl
 refine seg 37 [] [14, 87] [(14, (sv A50 t45.1 c51)), (87, (bv (((((((((t19.2 == 0) && (t24.2 == 0)) && (t31.2.2 == 0)) && (t40.2 == 0)) && (t45.2 == 0)) && (t19.1 == 2)) && ((t24.1.length : Int) == 0)) && ((t31.2.1.length : Int) == 2)) && (strEq t40.1 (⟨#[49, 46, 48, 46, 49, 46, 49, 32, 48, 46, 49, 46, 48, 46, 48]⟩ : ByteArray)))))] [] (fun fb => by kernel_rfl) rfl trivial ?_
 obtain ⟨x69, hx70, hf⟩ := bind_some hf
 refine WL.cutW (T := Bool) 41 (fun t => [(91, (bv t))]) (fun t w1 => (St NoS w w1 [gloO Tryd.prog 2 5 0 1 mG] [] ∧ x69 = t) ∧ CellsOK [] w1) (fun K => ?_) ?_
 ·
  rcases br_some hx70 with ⟨h71, hx70⟩ | ⟨h71, hx70⟩
  ·
   refine WL.setB 87 h71 rfl ?_
   refine seg 38 [] [87, 88] [(87, (bv true)), (88, (sv A50 t45.1 c51))] [] (fun fb => by kernel_rfl) rfl trivial ?_
   refine WL.new hS49 89 [] (fun g => (.slice (some ⟨g, 0, none⟩) 3 3)) (.cells #[(iv 0), (iv 1), (iv 0)] 3 (0, 0)) [] (fun fb g => by kernel_rfl) trivial (fun g72 w73 hS74 => ?_)
   refine ⟨trivial, ?_⟩
   have hS75 := hS49.go w73 [rowO 3 encInt (some ⟨g72, 0, none⟩) 3 [0, 1, 0], rowO 3 encInt A50 c51 t45.1, rowO 53 enc_Tile A36 c37 t31.1, rowO 78 enc_A2_Int A38 c39 t31.2.1, rowO 3 encInt A29 c30 t24.1, rowO 53 enc_Tile A17 c18 t12.1, rowO 53 enc_Tile A10 c11 t3.1] (hS74.map1 0 _ (fun h => rowO.ofBlk h rfl (Nat.le_of_ble_eq_true (by kernel_rfl))) (fun _ h => by obtain ⟨_, h1, h2⟩ := h; injection h1 with h1; subst h1; exact h2) [1, 2, 3, 4, 5, 6] (by decide) (by decide))
   obtain ⟨t76, ht77, hx70⟩ := bind_some hx70
   refine WL.call (some 90) 12 #[(sv A50 t45.1 c51), (sv (some ⟨g72, 0, none⟩) [0, 1, 0] 3)] (fun fb => by kernel_rfl) (ref01_Same_calls _ t45.1 [0, 1, 0] A50 c51 (some ⟨g72, 0, none⟩) 3 t76 _ (hS75.ow 1).ofO (hS75.ow 0).ofO ht77) (fun v w78 hR79 => ?_)
   obtain ⟨rfl, hk_⟩ := hR79
   have hS80 := hS75.keepN hk_
   refine ⟨trivial, ?_⟩
   refine seg 41 [] [91] [(91, (bv t76))] [] (fun fb => by kernel_rfl) rfl trivial ?_
   injection hx70 with hx70
   exact WL.to K t76 [91] rfl ⟨⟨(hS80.subR [0]).sub [] (by decide), hx70.symm⟩, trivial⟩
  refine WL.setB 87 h71 rfl ?_
  refine seg 41 [] [91] [(91, (bv false))] [] (fun fb => by kernel_rfl) rfl trivial ?_
  injection hx70 with hx70
  exact WL.to K false [91] rfl ⟨⟨(hS49.subR [0]).sub [] (by decide), hx70.symm⟩, trivial⟩
 rintro y81 w83 ⟨⟨hS84, hq82⟩, hF85⟩
 subst hq82
 refine seg 42 [] [0] [(0, (bv x69))] [] (fun fb => by kernel_rfl) rfl trivial ?_
 refine WL.done rfl (WX.next ?_)
 refine WC.ret ?_
 injection hf with hf
 subst hf
 exact WX.ret_ [] (bv x69) [] (fun fb => by kernel_rfl) trivial ⟨_, rfl, rfl, hS84.keep⟩
theorem ref04_Leads_calls (p0 : Tile) (p1 : Tile) (p2 : Bool)  (r : Bool) (w : World)  (hf : ref04_Leads p0 p1 p2 = some r) :
  CallsR Tryd.prog 22 #[(.agg #[(iv p0.N), (iv p0.E), (iv p0.S), (iv p0.W)]), (.agg #[(iv p1.N), (iv p1.E), (iv p1.S), (iv p1.W)]), (bv p2)] w (fun v w' => v = (bv r) ∧ Keeps NoS w w') := by
 have hS : St NoS w w [] [] := St.init (ro_nil _ _)
 refine enter 18 Tryd.func22 rfl Tryd.ntmps22 rfl ?_
 unfold ref04_Leads at hf
 refine WC.seq (WC.region ?_)
 refine WL.new hS 3 [] (fun g => (pt g)) (.cells #[(iv p0.N), (iv p0.E), (iv p0.S), (iv p0.W)] 53 (0, 0)) [] (fun fb g => by kernel_rfl) trivial (fun g3 w5 hS6 => ?_)
 refine ⟨trivial, ?_⟩
 refine WL.new hS6 4 [] (fun g => (pt g)) (.cells #[(iv p1.N), (iv p1.E), (iv p1.S), (iv p1.W)] 53 (0, 0)) [] (fun fb g => by kernel_rfl) trivial (fun g7 w8 hS9 => ?_)
 refine ⟨trivial, ?_⟩
 refine seg 3 [] [2, 3, 4] [(2, (bv p2)), (3, (pt g3)), (4, (pt g7))] [] (fun fb => by kernel_rfl) rfl trivial ?_
 refine WL.done rfl (WX.next (WC.seq (WC.seq (WC.region ?_))))
 refine seg 1 [] [3, 4, 7] [(3, (pt g3)), (4, (pt g7)), (7, (bv p2))] [] (fun fb => by kernel_rfl) rfl trivial ?_
 refine WL.done rfl (WX.next ?_)
 rcases br_some hf with ⟨h10, hf⟩ | ⟨h10, hf⟩
 ·refine WC.condT2 (fun fb => by kernel_rfl) h10 ?_
  refine WC.seq (WC.region ?_)
  refine seg 6 [.v (iv p0.N), .v (iv p1.S)] [6] [(6, (bv (p0.N == p1.S)))] [.cell ⟨g3, 0, none⟩ (iv p0.N), .cell ⟨g7, 2, none⟩ (iv p1.S)] (fun fb => by kernel_rfl) rfl ⟨hS9.cell 1 rfl 0 rfl, hS9.cell 0 rfl 2 rfl, trivial⟩ ?_
  refine WL.done rfl (WX.next ?_)
  refine WC.ret ?_
  injection hf with hf
  subst hf
  exact WX.thenR (WX.ret_ [] (bv (p0.N == p1.S)) [] (fun fb => by kernel_rfl) trivial ⟨_, rfl, rfl, hS9.keep⟩)
 refine WC.condF2 (fun fb => by kernel_rfl) h10 ?_
 refine WC.skip (WX.next (WC.seq (WC.region ?_)))
 refine seg 6 [.v (iv p0.E), .v (iv p1.W)] [6] [(6, (bv (p0.E == p1.W)))] [.cell ⟨g3, 1, none⟩ (iv p0.E), .cell ⟨g7, 3, none⟩ (iv p1.W)] (fun fb => by kernel_rfl) rfl ⟨hS9.cell 1 rfl 1 rfl, hS9.cell 0 rfl 3 rfl, trivial⟩ ?_
 refine WL.done rfl (WX.next ?_)
 refine WC.ret ?_
 injection hf with hf
 subst hf
 exact WX.ret_ [] (bv (p0.E == p1.W)) [] (fun fb => by kernel_rfl) trivial ⟨_, rfl, rfl, hS9.keep⟩
theorem ref04_endless_calls (k : Nat) (p0 : List Tile) (p1 : List Bool) (p2 : Bool) (p3 : Bool) (Aa : Option Addr) (ca : Nat) (Ab : Option Addr) (cb : Nat) (r : (List Bool)) (w : World) (hR0 : RO NoS w (rowR enc_Tile Aa ca p0)) (hR1 : RO NoS w (rowR encBool Ab cb p1)) (hf : ref04_endless k p0 p1 p2 p3 = some r) :
  CallsR Tryd.prog 36 #[(sv Aa p0 ca), (sv Ab p1 cb), (bv p2), (bv p3)] w (fun v w' => ∃ (A1_ : Option Addr), ∃ (c1_ : Nat), v = (sv A1_ r c1_) ∧ St NoS w w' [] [rowO 4 encBool A1_ c1_ r]) := by
 have hS : St NoS w w [rowR enc_Tile Aa ca p0, rowR encBool Ab cb p1] [] := St.init (ro_cons hR0 (ro_cons hR1 (ro_nil _ _)))
 refine enter 91 Tryd.func36 rfl Tryd.ntmps36 rfl ?_
 unfold ref04_endless at hf
 refine WC.seq (WC.region ?_)
 refine seg 1 [] [0, 1, 2, 3] [(0, (sv Aa p0 ca)), (1, (sv Ab p1 cb)), (2, (bv p2)), (3, (bv p3))] [] (fun fb => by kernel_rfl) rfl trivial ?_
 refine WL.done rfl (WX.next (WC.seq (WC.region ?_)))
 refine WL.new hS 14 [] (fun g => (.slice (some ⟨g, 0, none⟩) 0 0)) (.cells #[] 4 (0, 0)) [] (fun fb g => by kernel_rfl) trivial (fun g5 w6 hS7 => ?_)
 refine ⟨trivial, ?_⟩
 have hS8 := hS.go w6 [rowO 4 encBool (some ⟨g5, 0, none⟩) 0 ([] : List Bool)] (hS7.map1 0 _ (fun h => rowO.ofBlk h rfl (Nat.le_of_ble_eq_true (by kernel_rfl))) (fun _ h => by obtain ⟨_, h1, h2⟩ := h; injection h1 with h1; subst h1; exact h2) [] (by decide) (by decide))
 refine seg 2 [] [0, 1, 2, 3, 14, 15] [(0, (sv Aa p0 ca)), (1, (sv Ab p1 cb)), (2, (bv p2)), (3, (bv p3)), (14, (sv (some ⟨g5, 0, none⟩) ([] : List Bool) 0)), (15, (sv Ab p1 cb))] [] (fun fb => by kernel_rfl) rfl trivial ?_
 obtain ⟨h9, hf⟩ := as_some hf
 refine WL.append hS8 0 (d := 16) (tS := 74) (z := (bv false)) (bytes := 1) (c2 := cb) rfl (fun fb => by kernel_rfl) (hS8.rd 1).1 (by kernel_rfl) (by kernel_rfl) rfl (by decide) h9 (by decide) [] (by decide) (by decide) (fun A10 c11 w12 hS13 => ?_)
 refine ⟨trivial, ?_⟩
 refine seg 4 [] [0, 1, 2, 3, 9] [(0, (sv Aa p0 ca)), (1, (sv Ab p1 cb)), (2, (bv p2)), (3, (bv p3)), (9, (sv A10 (([] : List Bool) ++ p1) c11))] [] (fun fb => by kernel_rfl) rfl trivial ?_
 refine WL.done rfl (WX.next (WC.seq (WC.seq (WC.region ?_))))
 refine seg 1 [] [0, 1, 2, 3, 9, 10] [(0, (sv Aa p0 ca)), (1, (sv Ab p1 cb)), (2, (bv p2)), (3, (bv p3)), (9, (sv A10 (([] : List Bool) ++ p1) c11)), (10, (iv 0))] [] (fun fb => by kernel_rfl) rfl trivial ?_
 refine WL.done rfl (WX.next ?_)
 obtain ⟨x20, hx21, hf⟩ := bind_some hf
 let e34 : List Nat := [2, 3, 4, 5, 6, 7, 8, 9, 10, 11, 12, 13, 14, 15, 16, 17, 18, 19, 20, 21, 22, 23]
 let e49 : List Nat := [2, 3, 4, 5, 6, 7, 8, 9]
 let e1 := [[], [], [], [], [2, 3], [2, 3, 4], [2, 3, 4, 5], [2, 3, 4, 5, 6], [2, 3, 4, 5, 6, 7], [2, 3, 4, 5, 6, 7, 8], e49, e49, [2, 3, 4, 5, 6, 7, 8, 9, 10, 11], [2, 3, 4, 5, 6, 7, 8, 9, 10, 11, 12], e49, e49, [2, 3, 4, 5, 6, 7, 8, 9, 14, 15], [2, 3, 4, 5, 6, 7, 8, 9, 14, 15, 16], e49, [2, 3, 4, 5, 6, 7, 8, 9, 10, 11, 12, 13, 14, 15, 16, 17, 18], [2, 3, 4, 5, 6, 7, 8, 9, 10, 11, 12, 13, 14, 15, 16, 17, 18, 19], [2, 3, 4, 5, 6, 7, 8, 9, 10, 11, 12, 13, 14, 15, 16, 17, 18, 19, 20], [2, 3, 4, 5, 6, 7, 8, 9, 10, 11, 12, 13, 14, 15, 16, 17, 18, 19, 20, 21], [2, 3, 4, 5, 6, 7, 8, 9, 10, 11, 12, 13, 14, 15, 16, 17, 18, 19, 20, 21, 22], e34, e34, [2, 3, 4, 5, 6, 7, 8, 9, 10, 11, 12, 13, 14, 15, 16, 17, 18, 19, 20, 21, 22, 23, 24, 25], [2, 3, 4, 5, 6, 7, 8, 9, 10, 11, 12, 13, 14, 15, 16, 17, 18, 19, 20, 21, 22, 23, 24, 25, 26], e34, e34, [2, 3, 4, 5, 6, 7, 8, 9, 10, 11, 12, 13, 14, 15, 16, 17, 18, 19, 20, 21, 22, 23, 28, 29], [2, 3, 4, 5, 6, 7, 8, 9, 10, 11, 12, 13, 14, 15, 16, 17, 18, 19, 20, 21, 22, 23, 28, 29, 30], e34, [2, 3, 4, 5, 6, 7, 8, 9, 10, 11, 12, 13, 14, 15, 16, 17, 18, 19, 20, 21, 22, 23, 24, 25, 26, 27, 28, 29, 30, 31, 32], [2, 3, 4, 5, 6, 7, 8, 9, 10, 11, 12, 13, 14, 15, 16, 17, 18, 19, 20, 21, 22, 23, 24, 25, 26, 27, 28, 29, 30, 31, 32, 33], [2, 3, 4, 5, 6, 7, 8, 9, 10, 11, 12, 13, 14, 15, 16, 17, 18, 19, 20, 21, 22, 23, 24, 25, 26, 27, 28, 29, 30, 31, 32, 33, 34], [2, 3, 4, 5, 6, 7, 8, 9, 10, 11, 12, 13, 14, 15, 16, 17, 18, 19, 20, 21, 22, 23, 24, 25, 26, 27, 28, 29, 30, 31, 32, 33, 34, 35], [0, 1, 2, 3, 4, 5, 6, 7, 8, 9, 10, 11, 12, 13, 14, 15, 16, 17, 18, 19, 20, 21, 22, 23, 24, 25, 26, 27, 28, 29, 30, 31, 32, 33, 34, 35, 36], [0, 1, 2, 3, 4, 5, 6, 7, 8, 9, 10, 11, 12, 13, 14, 15, 16, 17, 18, 19, 20, 21, 22, 23, 24, 25, 26, 27, 28, 29, 30, 31, 32, 33, 34, 35, 36, 37]]
 let e10 := [[0, 1, 2, 3, 4, 5, 6, 7, 8, 9, 10, 11, 12, 13, 14, 15, 16, 17, 18, 19, 20, 21, 22, 23, 24, 25, 26, 28, 29, 30, 32, 27, 31, 33, 34, 35, 36, 37, 38], [0, 1, 2, 3, 4, 5, 6, 7, 8, 9, 10, 11, 12, 13, 14, 15, 16, 17, 18, 19, 20, 21, 22, 23, 24, 25, 26, 28, 29, 30, 32, 31, 27, 33, 34, 35, 36, 37, 38]]
 let e11 : Nat × Value := (0, (sv Aa p0 ca))
 let e12 : Nat × Value := (1, (sv Ab p1 cb))
 let e20 : Nat × Value := (2, (bv p2))
 let e21 : Nat × Value := (3, (bv p3))
 let e23 : List Nat := [0, 1, 2, 3, 4, 5, 6, 7, 8, 9, 10, 11, 12, 13, 14, 15, 16, 17, 18, 20, 21, 22, 23, 24, 25, 26, 28, 29, 30, 32, 34, 35, 36, 37]
 let e24 : List Nat := [0, 1, 2, 3, 9, 10, 11, 12, 13, 51, 52, 57, 86]
 let e26 : List Nat := [0, 1, 2, 3, 9, 10, 11, 12, 13]
 let e27 : List Nat := [0, 1, 2, 3, 9, 10, 11, 12, 13, 51, 52, 57]
 let e28 : List Nat := [0, 1, 2, 3, 9, 10, 11, 12, 13, 51, 52, 87]
 let e29 : List Own := [rowR enc_Tile Aa ca p0, rowR encBool Ab cb p1]
 let e30 : Nat × Value := (57, (bv true))
 let e31 : List Nat := [0, 1, 2, 3, 9, 10, 11, 12, 13, 51, 52, 57, 72, 74]
 let e33 : List Nat := [0, 1, 2, 3, 9, 10, 11, 12, 13, 87, 88]
 let e35 : List Nat := [0, 1, 2, 3, 9, 10, 11, 12, 13, 51, 52, 57, 60]
 let e38 : List Nat := [0, 1, 2, 3, 9, 10, 11, 12, 13, 51, 52, 57, 72, 74, 78, 82, 83]
 let e39 := bv false
 let e40 : List Nat := [0, 1, 2, 3, 9, 10, 11, 12, 13, 51, 52, 57, 60, 64, 68, 69]
 let e41 := (p0.length : Int)
 let e42 : List Nat := [0, 1, 2, 3, 9, 10, 11, 12, 13, 51, 52, 57, 72]
 let e47 : List Nat := [0, 1, 2, 3, 9, 10, 11, 12]
 let e50 : Nat × Value := (74, (bv true))
 let e56 := (List.replicate e41.toNat (false : Bool))
 let e57 : List Nat := [1, 2, 3, 4, 5, 6, 7, 8]
 let e58 := Option Addr
 let e59 : List Nat := [0, 1, 2, 3, 9, 10, 11, 12, 13, 51, 52, 57, 72, 74, 77, 79, 80]
 let e60 : List Nat := [0, 1, 2, 3, 9, 10, 11, 12, 13, 51, 52, 57, 72, 74, 75, 76]
 refine WC.cutN (T := (List Bool) × e58 × Nat) (fun t => [(9, (sv t.2.1 t.1 t.2.2))]) (fun t w1 => St NoS w w1 e29 [rowO 4 encBool t.2.1 t.2.2 t.1] ∧ x20 = t.1) (fun Kx20 => ?_) ?_
 ·
  refine WC.block ?_
  refine WC.loop (T := ((List Bool) × Int) × e58 × Nat) (fun t => [e11, e12, e20, e21, (9, (sv t.2.1 t.1.1 t.2.2)), (10, (iv t.1.2))]) (fun n t w1 => St NoS w w1 e29 [rowO 4 encBool t.2.1 t.2.2 t.1.1] ∧ ref04_endless.l0 n t.1.1 t.1.2 p0 p1 p2 p3 = some x20) k ((([] : List Bool) ++ p1, 0), A10, c11) [0, 1, 2, 3, 9, 10] rfl ⟨(hS13.subR [0, 1]).sub [0] (by decide), hx21⟩ ?_
  rintro k22 ⟨⟨l16, x17⟩, A14, c15⟩ w23 ⟨hS24, hl25⟩
  let e8 : Nat × Value := (9, (sv A14 l16 c15))
  let e14 : Nat × Value := (10, (iv x17))
  cases k22 with
  | zero => rw [ref04_endless.l0] at hl25; cases hl25
  | succ k22 =>
   rw [ref04_endless.l0] at hl25
   refine WC.seq (WC.seq (WC.region ?_))
   refine seg 4 [] [0, 1, 2, 3, 9, 10, 20] [e11, e12, e20, e21, e8, e14, (20, (bv (decide (x17 < e41))))] [] (fun fb => by kernel_rfl) rfl trivial ?_
   refine WL.done rfl (WX.next ?_)
   rcases br_some hl25 with ⟨h26, hl25⟩ | ⟨h26, hl25⟩
   ·refine WC.condT2 (fun fb => by kernel_rfl) h26 ?_
    refine WC.skip (WX.next (WC.seq (WC.block (WC.seq (WC.region ?_)))))
    refine seg 2 [] [0, 1, 2, 3, 9, 10, 24] [e11, e12, e20, e21, e8, e14, (24, (iv e41))] [] (fun fb => by kernel_rfl) rfl trivial ?_
    obtain ⟨h27, hl25⟩ := as_some hl25
    refine WL.make hS24 (e := encBool) (T := 4) (tS := 74) (z := e39) (bytes := 1) (d := 25) (false : Bool) e41 (fun fb => by kernel_rfl) (by kernel_rfl) (by kernel_rfl) rfl (by decide) h27 (by decide) (fun g28 w29 hS30 => ?_)
    refine ⟨trivial, ?_⟩
    refine seg 4 [] [0, 1, 2, 3, 9, 10, 11] [e11, e12, e20, e21, e8, e14, (11, (sv (some ⟨g28, 0, none⟩) e56 (e41.toNat)))] [] (fun fb => by kernel_rfl) rfl trivial ?_
    refine WL.done rfl (WX.next (WC.seq (WC.seq (WC.region ?_))))
    refine seg 1 [] e47 [e11, e12, e20, e21, e8, e14, (11, (sv (some ⟨g28, 0, none⟩) e56 (e41.toNat))), (12, (iv 0))] [] (fun fb => by kernel_rfl) rfl trivial ?_
    refine WL.done rfl (WX.next ?_)
    obtain ⟨x38, hx39, hl25⟩ := bind_some hl25
    refine WC.cutN (T := (List Bool) × e58 × Nat) (fun t => [e11, e12, e20, e21, e14, (11, (sv t.2.1 t.1 t.2.2))]) (fun t w1 => St NoS w w1 e29 [rowO 4 encBool t.2.1 t.2.2 t.1] ∧ x38 = t.1) (fun Kx38 => ?_) ?_
    ·
     refine WC.block ?_
     refine WC.loop (T := ((List Bool) × Int) × e58 × Nat) (fun t => [e11, e12, e20, e21, e8, e14, (11, (sv t.2.1 t.1.1 t.2.2)), (12, (iv t.1.2))]) (fun n t w1 => St NoS w w1 e29 [rowO 4 encBool A14 c15 l16, rowO 4 encBool t.2.1 t.2.2 t.1.1] ∧ ref04_endless.l1 n t.1.1 t.1.2 p0 p1 p2 p3 l16 = some x38) k22 ((e56, 0), (some ⟨g28, 0, none⟩), e41.toNat) e47 rfl ⟨(hS30.subR [0, 1]).sub [1, 0] (by decide), hx39⟩ ?_
     rintro k40 ⟨⟨l33, x34⟩, A31, c32⟩ w41 ⟨hS42, hl43⟩
     let e2 := rdD p0 x34 z_Tile
     let e15 := (adr Aa).add ((x34).toNat * 4)
     let e16 : Array Value := #[(iv (e2.N)), (iv (e2.E)), (iv (e2.S)), (iv (e2.W))]
     let e18 : Nat × Value := (12, (iv x34))
     let e25 : Nat × Value := (52, (iv x34))
     let e43 := iv (e2.N)
     let e44 := iv (e2.E)
     let e45 := iv (e2.S)
     let e46 := iv (e2.W)
     cases k40 with
     | zero => rw [ref04_endless.l1] at hl43; cases hl43
     | succ k40 =>
      rw [ref04_endless.l1] at hl43
      refine WC.seq (WC.seq (WC.region ?_))
      refine seg 4 [] [0, 1, 2, 3, 9, 10, 11, 12, 29] [e11, e12, e20, e21, e8, e14, (11, (sv A31 l33 c32)), e18, (29, (bv (decide (x34 < e41))))] [] (fun fb => by kernel_rfl) rfl trivial ?_
      refine WL.done rfl (WX.next ?_)
      rcases br_some hl43 with ⟨h44, hl43⟩ | ⟨h44, hl43⟩
      ·refine WC.condT2 (fun fb => by kernel_rfl) h44 ?_
       refine WC.skip (WX.next (WC.seq (WC.block (WC.seq (WC.region ?_)))))
       refine seg 1 [] e26 [e11, e12, e20, e21, e8, e14, (11, (sv A31 l33 c32)), e18, (13, (iv 0))] [] (fun fb => by kernel_rfl) rfl trivial ?_
       refine WL.done rfl (WX.next ?_)
       obtain ⟨x51, hx52, hl43⟩ := bind_some hl43
       refine WC.cutN (T := (List Bool) × e58 × Nat) (fun t => [e11, e12, e20, e21, e8, e14, (11, (sv t.2.1 t.1 t.2.2)), e18]) (fun t w1 => St NoS w w1 e29 [rowO 4 encBool A14 c15 l16, rowO 4 encBool t.2.1 t.2.2 t.1] ∧ x51 = t.1) (fun Kx51 => ?_) ?_
       ·
        refine WC.block ?_
        refine WC.loop (T := ((List Bool) × Int) × e58 × Nat) (fun t => [e11, e12, e20, e21, e8, e14, (11, (sv t.2.1 t.1.1 t.2.2)), e18, (13, (iv t.1.2))]) (fun n t w1 => St NoS w w1 e29 [rowO 4 encBool A14 c15 l16, rowO 4 encBool t.2.1 t.2.2 t.1.1] ∧ ref04_endless.l2 n t.1.1 t.1.2 p0 p1 p2 p3 l16 x34 = some x51) k40 ((l33, 0), A31, c32) e26 rfl ⟨(hS42.subR [0, 1]).sub [0, 1] (by decide), hx52⟩ ?_
        rintro k53 ⟨⟨l47, x48⟩, A45, c46⟩ w54 ⟨hS55, hl56⟩
        let e3 := rdD p0 x48 z_Tile
        let e4 : List (Nat × Value) := [e11, e12, e20, e21, e8, e14, (11, (sv A45 l47 c46)), e18, (13, (iv x48)), (51, (sv A45 l47 c46)), e25, (57, (bv (rdD l16 x48 false)))]
        let e5 : List (Nat × Value) := [e11, e12, e20, e21, e8, e14, (11, (sv A45 l47 c46)), e18, (13, (iv x48)), (51, (sv A45 l47 c46)), e25, e30, (72, e39), (74, (bv p3))]
        let e6 : List (Nat × Value) := [e11, e12, e20, e21, e8, e14, (11, (sv A45 l47 c46)), e18, (13, (iv x48)), (51, (sv A45 l47 c46)), e25, e30, (60, (bv (!p3)))]
        let e55 := (adr Aa).add ((x48).toNat * 4)
        let e7 : List (Nat × Addr × Value) := [(13, e15, e43), (13, (e15.add 1), e44), (13, (e15.add 2), e45), (13, (e15.add 3), e46), (17, e55, (iv (e3.N))), (17, (e55.add 1), (iv (e3.E))), (17, (e55.add 2), (iv (e3.S))), (17, (e55.add 3), (iv (e3.W)))]
        let e9 := sv A45 l47 c46
        let e13 : Nat × Addr × Value := (5, ((adr A14).add ((x48).toNat * 1)), (bv (rdD l16 x48 false)))
        let e17 : Array Value := #[(iv (e3.N)), (iv (e3.E)), (iv (e3.S)), (iv (e3.W))]
        let e19 := (adr Aa).add ((x48).toNat * 4)
        let e22 : Nat × Value := (13, (iv x48))
        let e32 := some ((adr A45).add ((x34).toNat * 1))
        let e36 := ([e13, (13, e15, e43), (13, (e15.add 1), e44), (13, (e15.add 2), e45), (13, (e15.add 3), e46), (17, e19, (iv (e3.N))), (17, (e19.add 1), (iv (e3.E))), (17, (e19.add 2), (iv (e3.S))), (17, (e19.add 3), (iv (e3.W)))], e23, e1)
        let e37 := bv (rdD l16 x48 false)
        let e48 := (l47.set (x34).toNat false, A45, c46)
        let e51 := iv (e3.N)
        let e52 := iv (e3.E)
        let e53 := iv (e3.S)
        let e54 := iv (e3.W)
        cases k53 with
        | zero => rw [ref04_endless.l2] at hl56; cases hl56
        | succ k53 =>
         rw [ref04_endless.l2] at hl56
         refine WC.seq (WC.seq (WC.region ?_))
         refine seg 5 [] [0, 1, 2, 3, 9, 10, 11, 12, 13, 36] [e11, e12, e20, e21, e8, e14, (11, e9), e18, e22, (36, (bv (decide (x48 < e41))))] [] (fun fb => by kernel_rfl) rfl trivial ?_
         obtain ⟨b57, hv58, hl56⟩ := bind_some hl56
         refine WL.cutV (T := Unit) 10 (fun t => [(41, (bv b57)), e11, e12, e20, e21, e8, e14, (11, e9), e18, e22]) (fun t => True) (fun K => ?_) ?_
         ·
          rcases br_some hv58 with ⟨h59, hv58⟩ | ⟨h59, hv58⟩
          ·
           refine WL.setB 36 h59 rfl ?_
           refine seg 7 [] [0, 1, 2, 3, 9, 10, 11, 12, 13, 36, 37, 38] [e11, e12, e20, e21, e8, e14, (11, e9), e18, e22, (36, (bv true)), (37, (sv Ab p1 cb)), (38, (iv x34))] [] (fun fb => by kernel_rfl) rfl trivial ?_
           obtain ⟨h60, hv58⟩ := as_some hv58
           refine seg 10 [.v (bv (rdD p1 x34 false))] [0, 1, 2, 3, 9, 10, 11, 12, 13, 41] [e11, e12, e20, e21, e8, e14, (11, e9), e18, e22, (41, (bv (rdD p1 x34 false)))] [.idx Ab x34 p1.length, .cell ((adr Ab).add ((x34).toNat * 1)) (bv (rdD p1 x34 false))] (fun fb => by kernel_rfl) rfl ⟨rowR.adr (hS55.rd 1).1 h60.1 h60.2, rowR.cell (hS55.rd 1).1 false h60.1 h60.2 0 rfl, trivial⟩ ?_
           injection hv58 with hv58
           subst hv58
           exact WL.toV K () [41, 0, 1, 2, 3, 9, 10, 11, 12, 13] rfl trivial
          refine WL.setB 36 h59 rfl ?_
          refine seg 10 [] [0, 1, 2, 3, 9, 10, 11, 12, 13, 41] [e11, e12, e20, e21, e8, e14, (11, e9), e18, e22, (41, e39)] [] (fun fb => by kernel_rfl) rfl trivial ?_
          injection hv58 with hv58
          subst hv58
          exact WL.toV K () [41, 0, 1, 2, 3, 9, 10, 11, 12, 13] rfl trivial
         rintro _ _
         refine seg 11 [] [0, 1, 2, 3, 9, 10, 11, 12, 13, 42] [e11, e12, e20, e21, e8, e14, (11, e9), e18, e22, (42, (bv b57))] [] (fun fb => by kernel_rfl) rfl trivial ?_
         obtain ⟨b61, hv62, hl56⟩ := bind_some hl56
         refine WL.cutV (T := Unit) 17 (fun t => [(48, (bv b61)), e11, e12, e20, e21, e8, e14, (11, e9), e18, e22]) (fun t => True) (fun K => ?_) ?_
         ·
          rcases br_some hv62 with ⟨h63, hv62⟩ | ⟨h63, hv62⟩
          ·
           refine WL.setB 42 h63 rfl ?_
           refine seg 13 [] [0, 1, 2, 3, 9, 10, 11, 12, 13, 42, 43, 44] [e11, e12, e20, e21, e8, e14, (11, e9), e18, e22, (42, (bv true)), (43, e9), (44, (iv x34))] [] (fun fb => by kernel_rfl) rfl trivial ?_
           obtain ⟨h65, hv62⟩ := as_some hv62
           refine seg 17 [.v (bv (rdD l47 x34 false))] [0, 1, 2, 3, 9, 10, 11, 12, 13, 48] [e11, e12, e20, e21, e8, e14, (11, e9), e18, e22, (48, (bv (!(rdD l47 x34 false))))] [.idx A45 x34 l47.length, .cell ((adr A45).add ((x34).toNat * 1)) (bv (rdD l47 x34 false))] (fun fb => by kernel_rfl) rfl ⟨rowR.adr (rowO.rd (hS55.own 1).1) h65.1 h65.2, rowR.cell (rowO.rd (hS55.own 1).1) false h65.1 h65.2 0 rfl, trivial⟩ ?_
           injection hv62 with hv62
           subst hv62
           exact WL.toV K () [48, 0, 1, 2, 3, 9, 10, 11, 12, 13] rfl trivial
          refine WL.setB 42 h63 rfl ?_
          refine seg 17 [] [0, 1, 2, 3, 9, 10, 11, 12, 13, 48] [e11, e12, e20, e21, e8, e14, (11, e9), e18, e22, (48, e39)] [] (fun fb => by kernel_rfl) rfl trivial ?_
          injection hv62 with hv62
          subst hv62
          exact WL.toV K () [48, 0, 1, 2, 3, 9, 10, 11, 12, 13] rfl trivial
         rintro _ _
         refine WL.done rfl (WX.next ?_)
         rcases br_some hl56 with ⟨h66, hl56⟩ | ⟨h66, hl56⟩
         ·refine WC.condT2 (fun fb => by kernel_rfl) h66 ?_
          refine WC.skip (WX.next (WC.seq (WC.block ?_)))
          obtain ⟨x69, hx70, hl56⟩ := bind_some hl56
          refine WC.cutN (T := (List Bool) × e58 × Nat) (fun t => [e11, e12, e20, e21, e8, e14, (11, (sv t.2.1 t.1 t.2.2)), e18, e22]) (fun t w1 => St NoS w w1 e29 [rowO 4 encBool A14 c15 l16, rowO 4 encBool t.2.1 t.2.2 t.1] ∧ x69 = t.1) (fun Kx69 => ?_) ?_
          ·
           rcases br_some hx70 with ⟨h71, hx70⟩ | ⟨h71, hx70⟩
           ·
            rcases br_some hx70 with ⟨h72, hx70⟩ | ⟨h72, hx70⟩
            ·
             rcases br_some hx70 with ⟨h73, hx70⟩ | ⟨h73, hx70⟩
             ·
              obtain ⟨h76, hx70⟩ := as_some hx70
              obtain ⟨h77, hx70⟩ := as_some hx70
              obtain ⟨h78, hx70⟩ := as_some hx70
              refine WC.regionD e36 e10 (by kernel_rfl) (by kernel_rfl) (NoPanic.block (NoPanic.seq (NoPanic.seq (NoPanic.block (NoPanic.block (NoPanic.seq (NoPanic.seq (NoPanic.block (NoPanic.seq (NoPanic.block (NoPanic.seq (NoPanic.seq (NoPanic.block (NoPanic.seq (NoPanic.body))))))))))))))) ?_
              have hS75 := hS55.drew
              revert hS75
              generalize World.drew w54 = w74
              intro hS75
              refine ⟨⟨rowR.cell (rowO.rd (hS75.own 0).1) false h76.1 h76.2 0 rfl, rowR.cell (hS75.rd 0).1 z_Tile h77.1 h77.2 0 rfl, rowR.cell (hS75.rd 0).1 z_Tile h77.1 h77.2 1 rfl, rowR.cell (hS75.rd 0).1 z_Tile h77.1 h77.2 2 rfl, rowR.cell (hS75.rd 0).1 z_Tile h77.1 h77.2 3 rfl, rowR.cell (hS75.rd 0).1 z_Tile h78.1 h78.2 0 rfl, rowR.cell (hS75.rd 0).1 z_Tile h78.1 h78.2 1 rfl, rowR.cell (hS75.rd 0).1 z_Tile h78.1 h78.2 2 rfl, rowR.cell (hS75.rd 0).1 z_Tile h78.1 h78.2 3 rfl, trivial⟩, forallC ?_ (forallC ?_ (forallN))⟩
              ·
               refine segF 7 [.v e37] e27 e4 [.idx A14 x48 l16.length] [0] [e13] (fun fb => by kernel_rfl) rfl ⟨rowR.adr (rowO.rd (hS75.own 0).1) h76.1 h76.2, trivial⟩ rfl ?_
               refine WL.setB 57 h71 rfl ?_
               refine seg 10 [] e35 e6 [] (fun fb => by kernel_rfl) rfl trivial ?_
               refine WL.setB 60 h72 rfl ?_
               refine segF 19 [.v e43, .v e44, .v e45, .v e46, .v e51, .v e52, .v e53, .v e54] e40 [e11, e12, e20, e21, e8, e14, (11, e9), e18, e22, (51, e9), e25, e30, (60, (bv true)), (64, (.agg e16)), (68, (.agg e17)), (69, (bv p2))] [.idx Aa x34 p0.length, .idx Aa x48 p0.length] e57 e7 (fun fb => by kernel_rfl) rfl ⟨rowR.adr (hS75.rd 0).1 h77.1 h77.2, rowR.adr (hS75.rd 0).1 h78.1 h78.2, trivial⟩ rfl ?_
               obtain ⟨t79, ht80, hx70⟩ := bind_some hx70
               refine WL.call (some 70) 22 #[(.agg e16), (.agg e17), (bv p2)] (fun fb => by kernel_rfl) (ref04_Leads_calls e2 e3 p2 t79 _ ht80) (fun v w81 hR82 => ?_)
               obtain ⟨rfl, hk_⟩ := hR82
               have hS83 := hS75.keepN hk_
               refine ⟨trivial, ?_⟩
               refine seg 22 [] e42 [e11, e12, e20, e21, e8, e14, (11, e9), e18, e22, (51, e9), e25, e30, (72, (bv t79))] [] (fun fb => by kernel_rfl) rfl trivial ?_
               obtain ⟨x84, hx85, hx70⟩ := bind_some hx70
               refine WL.cutW (T := Bool) 36 (fun t => [e11, e12, e20, e21, e8, e14, (11, e9), e18, e22, (51, e9), e25, e30, (86, (bv t))]) (fun t w1 => (St NoS w w1 e29 [rowO 4 encBool A14 c15 l16, rowO 4 encBool A45 c46 l47] ∧ x84 = t) ∧ CellsOK [] w1) (fun K => ?_) ?_
               ·
                rcases br_some hx85 with ⟨h86, hx85⟩ | ⟨h86, hx85⟩
                ·
                 refine WL.setB 72 h86 rfl ?_
                 refine seg 36 [] e24 [e11, e12, e20, e21, e8, e14, (11, e9), e18, e22, (51, e9), e25, e30, (86, (bv true))] [] (fun fb => by kernel_rfl) rfl trivial ?_
                 injection hx85 with hx85
                 exact WL.to K true e24 rfl ⟨⟨(hS83.subR [0, 1]).sub [0, 1] (by decide), hx85.symm⟩, trivial⟩
                refine WL.setB 72 h86 rfl ?_
                refine seg 24 [] e31 e5 [] (fun fb => by kernel_rfl) rfl trivial ?_
                refine WL.setB 74 h73 rfl ?_
                refine seg 33 [.v e51, .v e52, .v e53, .v e54, .v e43, .v e44, .v e45, .v e46] e38 [e11, e12, e20, e21, e8, e14, (11, e9), e18, e22, (51, e9), e25, e30, (72, e39), e50, (78, (.agg e17)), (82, (.agg e16)), (83, (bv p2))] [.idx Aa x48 p0.length, .idx Aa x34 p0.length, .cell e19 e51, .cell (e19.add 1) e52, .cell (e19.add 2) e53, .cell (e19.add 3) e54, .cell e15 e43, .cell (e15.add 1) e44, .cell (e15.add 2) e45, .cell (e15.add 3) e46] (fun fb => by kernel_rfl) rfl ⟨rowR.adr (hS83.rd 0).1 h78.1 h78.2, rowR.adr (hS83.rd 0).1 h77.1 h77.2, rowR.cell (hS83.rd 0).1 z_Tile h78.1 h78.2 0 rfl, rowR.cell (hS83.rd 0).1 z_Tile h78.1 h78.2 1 rfl, rowR.cell (hS83.rd 0).1 z_Tile h78.1 h78.2 2 rfl, rowR.cell (hS83.rd 0).1 z_Tile h78.1 h78.2 3 rfl, rowR.cell (hS83.rd 0).1 z_Tile h77.1 h77.2 0 rfl, rowR.cell (hS83.rd 0).1 z_Tile h77.1 h77.2 1 rfl, rowR.cell (hS83.rd 0).1 z_Tile h77.1 h77.2 2 rfl, rowR.cell (hS83.rd 0).1 z_Tile h77.1 h77.2 3 rfl, trivial⟩ ?_
                obtain ⟨t87, ht88, hx85⟩ := bind_some hx85
                refine WL.call (some 84) 22 #[(.agg e17), (.agg e16), (bv p2)] (fun fb => by kernel_rfl) (ref04_Leads_calls e3 e2 p2 t87 _ ht88) (fun v w89 hR90 => ?_)
                obtain ⟨rfl, hk_⟩ := hR90
                have hS91 := hS83.keepN hk_
                refine ⟨trivial, ?_⟩
                refine seg 36 [] e24 [e11, e12, e20, e21, e8, e14, (11, e9), e18, e22, (51, e9), e25, e30, (86, (bv t87))] [] (fun fb => by kernel_rfl) rfl trivial ?_
                injection hx85 with hx85
                exact WL.to K t87 e24 rfl ⟨⟨(hS91.subR [0, 1]).sub [0, 1] (by decide), hx85.symm⟩, trivial⟩
               rintro y92 w94 ⟨⟨hS95, hq93⟩, hF96⟩
               subst hq93
               refine seg 37 [] e28 [e11, e12, e20, e21, e8, e14, (11, e9), e18, e22, (51, e9), e25, (87, (bv x84))] [] (fun fb => by kernel_rfl) rfl trivial ?_
               obtain ⟨h97, hx70⟩ := as_some hx70
               refine seg 38 [] e33 [e11, e12, e20, e21, e8, e14, (11, e9), e18, e22, (87, (bv x84)), (88, (.pointer e32))] [.idx A45 x34 l47.length] (fun fb => by kernel_rfl) rfl ⟨rowR.adr (rowO.rd (hS95.own 1).1) h97.1 h97.2, trivial⟩ ?_
               refine WL.storeRow hS95 1 rfl (x34) (x84) (false) [(0, (bv x84))] (fun fb => by kernel_rfl) h97.1 h97.2 (by kernel_rfl) rfl [0] (by decide) (by decide) (fun w98 hS99 => ?_)
               refine ⟨trivial, ?_⟩
               refine WL.reE [0, 1, 2, 3, 9, 10, 11, 12, 13] [(0, (.slice Aa p0.length ca)), (1, (.slice Ab p1.length cb)), (2, (.bool p2)), (3, (.bool p3)), (9, (.slice A14 l16.length c15)), (10, (iv x17)), (11, (.slice A45 l47.length c46)), (12, (iv x34)), (13, (iv x48))] [(0, (.slice Aa p0.length ca)), (1, (.slice Ab p1.length cb)), (2, (.bool p2)), (3, (.bool p3)), (9, (.slice A14 l16.length c15)), (10, (iv x17)), (11, (.slice A45 (l47.set (x34).toNat x84).length c46)), (12, (iv x34)), (13, (iv x48))] rfl (by simp only [List.length_set]) ?_
               refine WL.done rfl ?_
               injection hx70 with hx70
               exact WX.to Kx69 (l47.set (x34).toNat x84, A45, c46) e26 rfl ⟨(hS99.subR [0, 1]).sub [1, 0] (by decide), hx70.symm⟩
              refine segF 7 [.v e37] e27 e4 [.idx A14 x48 l16.length] [0] [e13] (fun fb => by kernel_rfl) rfl ⟨rowR.adr (rowO.rd (hS75.own 0).1) h76.1 h76.2, trivial⟩ rfl ?_
              refine WL.setB 57 h71 rfl ?_
              refine seg 10 [] e35 e6 [] (fun fb => by kernel_rfl) rfl trivial ?_
              refine WL.setB 60 h72 rfl ?_
              refine segF 19 [.v e43, .v e44, .v e45, .v e46, .v e51, .v e52, .v e53, .v e54] e40 [e11, e12, e20, e21, e8, e14, (11, e9), e18, e22, (51, e9), e25, e30, (60, (bv true)), (64, (.agg e16)), (68, (.agg e17)), (69, (bv p2))] [.idx Aa x34 p0.length, .idx Aa x48 p0.length] e57 e7 (fun fb => by kernel_rfl) rfl ⟨rowR.adr (hS75.rd 0).1 h77.1 h77.2, rowR.adr (hS75.rd 0).1 h78.1 h78.2, trivial⟩ rfl ?_
              obtain ⟨t100, ht101, hx70⟩ := bind_some hx70
              refine WL.call (some 70) 22 #[(.agg e16), (.agg e17), (bv p2)] (fun fb => by kernel_rfl) (ref04_Leads_calls e2 e3 p2 t100 _ ht101) (fun v w102 hR103 => ?_)
              obtain ⟨rfl, hk_⟩ := hR103
              have hS104 := hS75.keepN hk_
              refine ⟨trivial, ?_⟩
              refine seg 22 [] e42 [e11, e12, e20, e21, e8, e14, (11, e9), e18, e22, (51, e9), e25, e30, (72, (bv t100))] [] (fun fb => by kernel_rfl) rfl trivial ?_
              obtain ⟨x105, hx106, hx70⟩ := bind_some hx70
              refine WL.cutW (T := Bool) 36 (fun t => [e11, e12, e20, e21, e8, e14, (11, e9), e18, e22, (51, e9), e25, e30, (86, (bv t))]) (fun t w1 => (St NoS w w1 e29 [rowO 4 encBool A14 c15 l16, rowO 4 encBool A45 c46 l47] ∧ x105 = t) ∧ CellsOK [] w1) (fun K => ?_) ?_
              ·
               rcases br_some hx106 with ⟨h107, hx106⟩ | ⟨h107, hx106⟩
               ·
                refine WL.setB 72 h107 rfl ?_
                refine seg 36 [] e24 [e11, e12, e20, e21, e8, e14, (11, e9), e18, e22, (51, e9), e25, e30, (86, (bv true))] [] (fun fb => by kernel_rfl) rfl trivial ?_
                injection hx106 with hx106
                exact WL.to K true e24 rfl ⟨⟨(hS104.subR [0, 1]).sub [0, 1] (by decide), hx106.symm⟩, trivial⟩
               refine WL.setB 72 h107 rfl ?_
               refine seg 24 [] e31 e5 [] (fun fb => by kernel_rfl) rfl trivial ?_
               refine WL.setB 74 h73 rfl ?_
               refine seg 33 [.v e43, .v e44, .v e45, .v e46, .v e51, .v e52, .v e53, .v e54] e38 [e11, e12, e20, e21, e8, e14, (11, e9), e18, e22, (51, e9), e25, e30, (72, e39), e50, (78, (.agg e17)), (82, (.agg e16)), (83, (bv p2))] [.idx Aa x48 p0.length, .idx Aa x34 p0.length, .cell e15 e43, .cell (e15.add 1) e44, .cell (e15.add 2) e45, .cell (e15.add 3) e46, .cell e19 e51, .cell (e19.add 1) e52, .cell (e19.add 2) e53, .cell (e19.add 3) e54] (fun fb => by kernel_rfl) rfl ⟨rowR.adr (hS104.rd 0).1 h78.1 h78.2, rowR.adr (hS104.rd 0).1 h77.1 h77.2, rowR.cell (hS104.rd 0).1 z_Tile h77.1 h77.2 0 rfl, rowR.cell (hS104.rd 0).1 z_Tile h77.1 h77.2 1 rfl, rowR.cell (hS104.rd 0).1 z_Tile h77.1 h77.2 2 rfl, rowR.cell (hS104.rd 0).1 z_Tile h77.1 h77.2 3 rfl, rowR.cell (hS104.rd 0).1 z_Tile h78.1 h78.2 0 rfl, rowR.cell (hS104.rd 0).1 z_Tile h78.1 h78.2 1 rfl, rowR.cell (hS104.rd 0).1 z_Tile h78.1 h78.2 2 rfl, rowR.cell (hS104.rd 0).1 z_Tile h78.1 h78.2 3 rfl, trivial⟩ ?_
               obtain ⟨t108, ht109, hx106⟩ := bind_some hx106
               refine WL.call (some 84) 22 #[(.agg e17), (.agg e16), (bv p2)] (fun fb => by kernel_rfl) (ref04_Leads_calls e3 e2 p2 t108 _ ht109) (fun v w110 hR111 => ?_)
               obtain ⟨rfl, hk_⟩ := hR111
               have hS112 := hS104.keepN hk_
               refine ⟨trivial, ?_⟩
               refine seg 36 [] e24 [e11, e12, e20, e21, e8, e14, (11, e9), e18, e22, (51, e9), e25, e30, (86, (bv t108))] [] (fun fb => by kernel_rfl) rfl trivial ?_
               injection hx106 with hx106
               exact WL.to K t108 e24 rfl ⟨⟨(hS112.subR [0, 1]).sub [0, 1] (by decide), hx106.symm⟩, trivial⟩
              rintro y113 w115 ⟨⟨hS116, hq114⟩, hF117⟩
              subst hq114
              refine seg 37 [] e28 [e11, e12, e20, e21, e8, e14, (11, e9), e18, e22, (51, e9), e25, (87, (bv x105))] [] (fun fb => by kernel_rfl) rfl trivial ?_
              obtain ⟨h118, hx70⟩ := as_some hx70
              refine seg 38 [] e33 [e11, e12, e20, e21, e8, e14, (11, e9), e18, e22, (87, (bv x105)), (88, (.pointer e32))] [.idx A45 x34 l47.length] (fun fb => by kernel_rfl) rfl ⟨rowR.adr (rowO.rd (hS116.own 1).1) h118.1 h118.2, trivial⟩ ?_
              refine WL.storeRow hS116 1 rfl (x34) (x105) (false) [(0, (bv x105))] (fun fb => by kernel_rfl) h118.1 h118.2 (by kernel_rfl) rfl [0] (by decide) (by decide) (fun w119 hS120 => ?_)
              refine ⟨trivial, ?_⟩
              refine WL.reE [0, 1, 2, 3, 9, 10, 11, 12, 13] [(0, (.slice Aa p0.length ca)), (1, (.slice Ab p1.length cb)), (2, (.bool p2)), (3, (.bool p3)), (9, (.slice A14 l16.length c15)), (10, (iv x17)), (11, (.slice A45 l47.length c46)), (12, (iv x34)), (13, (iv x48))] [(0, (.slice Aa p0.length ca)), (1, (.slice Ab p1.length cb)), (2, (.bool p2)), (3, (.bool p3)), (9, (.slice A14 l16.length c15)), (10, (iv x17)), (11, (.slice A45 (l47.set (x34).toNat x105).length c46)), (12, (iv x34)), (13, (iv x48))] rfl (by simp only [List.length_set]) ?_
              refine WL.done rfl ?_
              injection hx70 with hx70
              exact WX.to Kx69 (l47.set (x34).toNat x105, A45, c46) e26 rfl ⟨(hS120.subR [0, 1]).sub [1, 0] (by decide), hx70.symm⟩
             obtain ⟨h123, hx70⟩ := as_some hx70
             obtain ⟨h124, hx70⟩ := as_some hx70
             obtain ⟨h125, hx70⟩ := as_some hx70
             refine WC.regionD e36 e10 (by kernel_rfl) (by kernel_rfl) (NoPanic.block (NoPanic.seq (NoPanic.seq (NoPanic.block (NoPanic.block (NoPanic.seq (NoPanic.seq (NoPanic.block (NoPanic.seq (NoPanic.block (NoPanic.seq (NoPanic.seq (NoPanic.block (NoPanic.seq (NoPanic.body))))))))))))))) ?_
             have hS122 := hS55.drew
             revert hS122
             generalize World.drew w54 = w121
             intro hS122
             refine ⟨⟨rowR.cell (rowO.rd (hS122.own 0).1) false h123.1 h123.2 0 rfl, rowR.cell (hS122.rd 0).1 z_Tile h124.1 h124.2 0 rfl, rowR.cell (hS122.rd 0).1 z_Tile h124.1 h124.2 1 rfl, rowR.cell (hS122.rd 0).1 z_Tile h124.1 h124.2 2 rfl, rowR.cell (hS122.rd 0).1 z_Tile h124.1 h124.2 3 rfl, rowR.cell (hS122.rd 0).1 z_Tile h125.1 h125.2 0 rfl, rowR.cell (hS122.rd 0).1 z_Tile h125.1 h125.2 1 rfl, rowR.cell (hS122.rd 0).1 z_Tile h125.1 h125.2 2 rfl, rowR.cell (hS122.rd 0).1 z_Tile h125.1 h125.2 3 rfl, trivial⟩, forallC ?_ (forallC ?_ (forallN))⟩
             ·
              refine segF 7 [.v e37] e27 e4 [.idx A14 x48 l16.length] [0] [e13] (fun fb => by kernel_rfl) rfl ⟨rowR.adr (rowO.rd (hS122.own 0).1) h123.1 h123.2, trivial⟩ rfl ?_
              refine WL.setB 57 h71 rfl ?_
              refine seg 10 [] e35 e6 [] (fun fb => by kernel_rfl) rfl trivial ?_
              refine WL.setB 60 h72 rfl ?_
              refine segF 19 [.v e43, .v e44, .v e45, .v e46, .v e51, .v e52, .v e53, .v e54] e40 [e11, e12, e20, e21, e8, e14, (11, e9), e18, e22, (51, e9), e25, e30, (60, (bv true)), (64, (.agg e16)), (68, (.agg e17)), (69, (bv p2))] [.idx Aa x34 p0.length, .idx Aa x48 p0.length] e57 e7 (fun fb => by kernel_rfl) rfl ⟨rowR.adr (hS122.rd 0).1 h124.1 h124.2, rowR.adr (hS122.rd 0).1 h125.1 h125.2, trivial⟩ rfl ?_
              obtain ⟨t126, ht127, hx70⟩ := bind_some hx70
              refine WL.call (some 70) 22 #[(.agg e16), (.agg e17), (bv p2)] (fun fb => by kernel_rfl) (ref04_Leads_calls e2 e3 p2 t126 _ ht127) (fun v w128 hR129 => ?_)
              obtain ⟨rfl, hk_⟩ := hR129
              have hS130 := hS122.keepN hk_
              refine ⟨trivial, ?_⟩
              refine seg 22 [] e42 [e11, e12, e20, e21, e8, e14, (11, e9), e18, e22, (51, e9), e25, e30, (72, (bv t126))] [] (fun fb => by kernel_rfl) rfl trivial ?_
              refine WL.cutV (T := Bool) 36 (fun t => [(86, (bv t)), e11, e12, e20, e21, e8, e14, (11, e9), e18, e22, (51, e9), e25, e30]) (fun t => t126 = t) (fun K => ?_) ?_
              ·
               rcases Bool.eq_false_or_eq_true t126 with h131 | h131
               ·
                refine WL.setB 72 h131 rfl ?_
                refine seg 36 [] e24 [e11, e12, e20, e21, e8, e14, (11, e9), e18, e22, (51, e9), e25, e30, (86, (bv true))] [] (fun fb => by kernel_rfl) rfl trivial ?_
                exact WL.toV K true [86, 0, 1, 2, 3, 9, 10, 11, 12, 13, 51, 52, 57] rfl (by first | (rw [h131]; done) | (rw [h131]; rfl))
               refine WL.setB 72 h131 rfl ?_
               refine seg 24 [] e31 e5 [] (fun fb => by kernel_rfl) rfl trivial ?_
               refine WL.setB 74 h73 rfl ?_
               refine seg 36 [] e24 [e11, e12, e20, e21, e8, e14, (11, e9), e18, e22, (51, e9), e25, e30, (86, e39)] [] (fun fb => by kernel_rfl) rfl trivial ?_
               exact WL.toV K false [86, 0, 1, 2, 3, 9, 10, 11, 12, 13, 51, 52, 57] rfl (by first | (rw [h131]; done) | (rw [h131]; rfl))
              rintro b132 rfl
              refine seg 37 [] e28 [e11, e12, e20, e21, e8, e14, (11, e9), e18, e22, (51, e9), e25, (87, (bv t126))] [] (fun fb => by kernel_rfl) rfl trivial ?_
              obtain ⟨h133, hx70⟩ := as_some hx70
              refine seg 38 [] e33 [e11, e12, e20, e21, e8, e14, (11, e9), e18, e22, (87, (bv t126)), (88, (.pointer e32))] [.idx A45 x34 l47.length] (fun fb => by kernel_rfl) rfl ⟨rowR.adr (rowO.rd (hS130.own 1).1) h133.1 h133.2, trivial⟩ ?_
              refine WL.storeRow hS130 1 rfl (x34) (t126) (false) [(0, (bv t126))] (fun fb => by kernel_rfl) h133.1 h133.2 (by kernel_rfl) rfl [0] (by decide) (by decide) (fun w134 hS135 => ?_)
              refine ⟨trivial, ?_⟩
              refine WL.reE [0, 1, 2, 3, 9, 10, 11, 12, 13] [(0, (.slice Aa p0.length ca)), (1, (.slice Ab p1.length cb)), (2, (.bool p2)), (3, (.bool p3)), (9, (.slice A14 l16.length c15)), (10, (iv x17)), (11, (.slice A45 l47.length c46)), (12, (iv x34)), (13, (iv x48))] [(0, (.slice Aa p0.length ca)), (1, (.slice Ab p1.length cb)), (2, (.bool p2)), (3, (.bool p3)), (9, (.slice A14 l16.length c15)), (10, (iv x17)), (11, (.slice A45 (l47.set (x34).toNat t126).length c46)), (12, (iv x34)), (13, (iv x48))] rfl (by simp only [List.length_set]) ?_
              refine WL.done rfl ?_
              injection hx70 with hx70
              exact WX.to Kx69 (l47.set (x34).toNat t126, A45, c46) e26 rfl ⟨(hS135.subR [0, 1]).sub [1, 0] (by decide), hx70.symm⟩
             refine segF 7 [.v e37] e27 e4 [.idx A14 x48 l16.length] [0] [e13] (fun fb => by kernel_rfl) rfl ⟨rowR.adr (rowO.rd (hS122.own 0).1) h123.1 h123.2, trivial⟩ rfl ?_
             refine WL.setB 57 h71 rfl ?_
             refine seg 10 [] e35 e6 [] (fun fb => by kernel_rfl) rfl trivial ?_
             refine WL.setB 60 h72 rfl ?_
             refine segF 19 [.v e43, .v e44, .v e45, .v e46, .v e51, .v e52, .v e53, .v e54] e40 [e11, e12, e20, e21, e8, e14, (11, e9), e18, e22, (51, e9), e25, e30, (60, (bv true)), (64, (.agg e16)), (68, (.agg e17)), (69, (bv p2))] [.idx Aa x34 p0.length, .idx Aa x48 p0.length] e57 e7 (fun fb => by kernel_rfl) rfl ⟨rowR.adr (hS122.rd 0).1 h124.1 h124.2, rowR.adr (hS122.rd 0).1 h125.1 h125.2, trivial⟩ rfl ?_
             obtain ⟨t136, ht137, hx70⟩ := bind_some hx70
             refine WL.call (some 70) 22 #[(.agg e16), (.agg e17), (bv p2)] (fun fb => by kernel_rfl) (ref04_Leads_calls e2 e3 p2 t136 _ ht137) (fun v w138 hR139 => ?_)
             obtain ⟨rfl, hk_⟩ := hR139
             have hS140 := hS122.keepN hk_
             refine ⟨trivial, ?_⟩
             refine seg 22 [] e42 [e11, e12, e20, e21, e8, e14, (11, e9), e18, e22, (51, e9), e25, e30, (72, (bv t136))] [] (fun fb => by kernel_rfl) rfl trivial ?_
             refine WL.cutV (T := Bool) 36 (fun t => [(86, (bv t)), e11, e12, e20, e21, e8, e14, (11, e9), e18, e22, (51, e9), e25, e30]) (fun t => t136 = t) (fun K => ?_) ?_
             ·
              rcases Bool.eq_false_or_eq_true t136 with h141 | h141
              ·
               refine WL.setB 72 h141 rfl ?_
               refine seg 36 [] e24 [e11, e12, e20, e21, e8, e14, (11, e9), e18, e22, (51, e9), e25, e30, (86, (bv true))] [] (fun fb => by kernel_rfl) rfl trivial ?_
               exact WL.toV K true [86, 0, 1, 2, 3, 9, 10, 11, 12, 13, 51, 52, 57] rfl (by first | (rw [h141]; done) | (rw [h141]; rfl))
              refine WL.setB 72 h141 rfl ?_
              refine seg 24 [] e31 e5 [] (fun fb => by kernel_rfl) rfl trivial ?_
              refine WL.setB 74 h73 rfl ?_
              refine seg 36 [] e24 [e11, e12, e20, e21, e8, e14, (11, e9), e18, e22, (51, e9), e25, e30, (86, e39)] [] (fun fb => by kernel_rfl) rfl trivial ?_
              exact WL.toV K false [86, 0, 1, 2, 3, 9, 10, 11, 12, 13, 51, 52, 57] rfl (by first | (rw [h141]; done) | (rw [h141]; rfl))
             rintro b142 rfl
             refine seg 37 [] e28 [e11, e12, e20, e21, e8, e14, (11, e9), e18, e22, (51, e9), e25, (87, (bv t136))] [] (fun fb => by kernel_rfl) rfl trivial ?_
             obtain ⟨h143, hx70⟩ := as_some hx70
             refine seg 38 [] e33 [e11, e12, e20, e21, e8, e14, (11, e9), e18, e22, (87, (bv t136)), (88, (.pointer e32))] [.idx A45 x34 l47.length] (fun fb => by kernel_rfl) rfl ⟨rowR.adr (rowO.rd (hS140.own 1).1) h143.1 h143.2, trivial⟩ ?_
             refine WL.storeRow hS140 1 rfl (x34) (t136) (false) [(0, (bv t136))] (fun fb => by kernel_rfl) h143.1 h143.2 (by kernel_rfl) rfl [0] (by decide) (by decide) (fun w144 hS145 => ?_)
             refine ⟨trivial, ?_⟩
             refine WL.reE [0, 1, 2, 3, 9, 10, 11, 12, 13] [(0, (.slice Aa p0.length ca)), (1, (.slice Ab p1.length cb)), (2, (.bool p2)), (3, (.bool p3)), (9, (.slice A14 l16.length c15)), (10, (iv x17)), (11, (.slice A45 l47.length c46)), (12, (iv x34)), (13, (iv x48))] [(0, (.slice Aa p0.length ca)), (1, (.slice Ab p1.length cb)), (2, (.bool p2)), (3, (.bool p3)), (9, (.slice A14 l16.length c15)), (10, (iv x17)), (11, (.slice A45 (l47.set (x34).toNat t136).length c46)), (12, (iv x34)), (13, (iv x48))] rfl (by simp only [List.length_set]) ?_
             refine WL.done rfl ?_
             injection hx70 with hx70
             exact WX.to Kx69 (l47.set (x34).toNat t136, A45, c46) e26 rfl ⟨(hS145.subR [0, 1]).sub [1, 0] (by decide), hx70.symm⟩
            rcases br_some hx70 with ⟨h146, hx70⟩ | ⟨h146, hx70⟩
            ·
             obtain ⟨h149, hx70⟩ := as_some hx70
             refine WC.regionD ([e13], e23, e1) e10 (by kernel_rfl) (by kernel_rfl) (NoPanic.block (NoPanic.seq (NoPanic.seq (NoPanic.block (NoPanic.block (NoPanic.seq (NoPanic.seq (NoPanic.block (NoPanic.seq (NoPanic.block (NoPanic.seq (NoPanic.seq (NoPanic.block (NoPanic.seq (NoPanic.body))))))))))))))) ?_
             have hS148 := hS55.drew
             revert hS148
             generalize World.drew w54 = w147
             intro hS148
             refine ⟨⟨rowR.cell (rowO.rd (hS148.own 0).1) false h149.1 h149.2 0 rfl, trivial⟩, forallC ?_ (forallC ?_ (forallN))⟩
             ·
              refine segF 7 [.v e37] e27 e4 [.idx A14 x48 l16.length] [0] [e13] (fun fb => by kernel_rfl) rfl ⟨rowR.adr (rowO.rd (hS148.own 0).1) h149.1 h149.2, trivial⟩ rfl ?_
              refine WL.setB 57 h71 rfl ?_
              refine seg 10 [] e35 e6 [] (fun fb => by kernel_rfl) rfl trivial ?_
              refine WL.setB 60 h72 rfl ?_
              refine seg 24 [] e31 e5 [] (fun fb => by kernel_rfl) rfl trivial ?_
              refine WL.setB 74 h146 rfl ?_
              refine seg 26 [] e60 [e11, e12, e20, e21, e8, e14, (11, e9), e18, e22, (51, e9), e25, e30, (72, e39), e50, (75, (sv Aa p0 ca)), (76, (iv x48))] [] (fun fb => by kernel_rfl) rfl trivial ?_
              obtain ⟨h150, hx70⟩ := as_some hx70
              refine seg 29 [] e59 [e11, e12, e20, e21, e8, e14, (11, e9), e18, e22, (51, e9), e25, e30, (72, e39), e50, (77, (.pointer (some e19))), (79, (sv Aa p0 ca)), (80, (iv x34))] [.idx Aa x48 p0.length] (fun fb => by kernel_rfl) rfl ⟨rowR.adr (hS148.rd 0).1 h150.1 h150.2, trivial⟩ ?_
              obtain ⟨h151, hx70⟩ := as_some hx70
              refine seg 33 [.v e51, .v e52, .v e53, .v e54, .v e43, .v e44, .v e45, .v e46] e38 [e11, e12, e20, e21, e8, e14, (11, e9), e18, e22, (51, e9), e25, e30, (72, e39), e50, (78, (.agg e17)), (82, (.agg e16)), (83, (bv p2))] [.idx Aa x34 p0.length, .cell e19 e51, .cell (e19.add 1) e52, .cell (e19.add 2) e53, .cell (e19.add 3) e54, .cell e15 e43, .cell (e15.add 1) e44, .cell (e15.add 2) e45, .cell (e15.add 3) e46] (fun fb => by kernel_rfl) rfl ⟨rowR.adr (hS148.rd 0).1 h151.1 h151.2, rowR.cell (hS148.rd 0).1 z_Tile h150.1 h150.2 0 rfl, rowR.cell (hS148.rd 0).1 z_Tile h150.1 h150.2 1 rfl, rowR.cell (hS148.rd 0).1 z_Tile h150.1 h150.2 2 rfl, rowR.cell (hS148.rd 0).1 z_Tile h150.1 h150.2 3 rfl, rowR.cell (hS148.rd 0).1 z_Tile h151.1 h151.2 0 rfl, rowR.cell (hS148.rd 0).1 z_Tile h151.1 h151.2 1 rfl, rowR.cell (hS148.rd 0).1 z_Tile h151.1 h151.2 2 rfl, rowR.cell (hS148.rd 0).1 z_Tile h151.1 h151.2 3 rfl, trivial⟩ ?_
              obtain ⟨t152, ht153, hx70⟩ := bind_some hx70
              refine WL.call (some 84) 22 #[(.agg e17), (.agg e16), (bv p2)] (fun fb => by kernel_rfl) (ref04_Leads_calls e3 e2 p2 t152 _ ht153) (fun v w154 hR155 => ?_)
              obtain ⟨rfl, hk_⟩ := hR155
              have hS156 := hS148.keepN hk_
              refine ⟨trivial, ?_⟩
              refine seg 37 [] e28 [e11, e12, e20, e21, e8, e14, (11, e9), e18, e22, (51, e9), e25, (87, (bv t152))] [] (fun fb => by kernel_rfl) rfl trivial ?_
              obtain ⟨h157, hx70⟩ := as_some hx70
              refine seg 38 [] e33 [e11, e12, e20, e21, e8, e14, (11, e9), e18, e22, (87, (bv t152)), (88, (.pointer e32))] [.idx A45 x34 l47.length] (fun fb => by kernel_rfl) rfl ⟨rowR.adr (rowO.rd (hS156.own 1).1) h157.1 h157.2, trivial⟩ ?_
              refine WL.storeRow hS156 1 rfl (x34) (t152) (false) [(0, (bv t152))] (fun fb => by kernel_rfl) h157.1 h157.2 (by kernel_rfl) rfl [0] (by decide) (by decide) (fun w158 hS159 => ?_)
              refine ⟨trivial, ?_⟩
              refine WL.reE [0, 1, 2, 3, 9, 10, 11, 12, 13] [(0, (.slice Aa p0.length ca)), (1, (.slice Ab p1.length cb)), (2, (.bool p2)), (3, (.bool p3)), (9, (.slice A14 l16.length c15)), (10, (iv x17)), (11, (.slice A45 l47.length c46)), (12, (iv x34)), (13, (iv x48))] [(0, (.slice Aa p0.length ca)), (1, (.slice Ab p1.length cb)), (2, (.bool p2)), (3, (.bool p3)), (9, (.slice A14 l16.length c15)), (10, (iv x17)), (11, (.slice A45 (l47.set (x34).toNat t152).length c46)), (12, (iv x34)), (13, (iv x48))] rfl (by simp only [List.length_set]) ?_
              refine WL.done rfl ?_
              injection hx70 with hx70
              exact WX.to Kx69 (l47.set (x34).toNat t152, A45, c46) e26 rfl ⟨(hS159.subR [0, 1]).sub [1, 0] (by decide), hx70.symm⟩
             refine segF 7 [.v e37] e27 e4 [.idx A14 x48 l16.length] [0] [e13] (fun fb => by kernel_rfl) rfl ⟨rowR.adr (rowO.rd (hS148.own 0).1) h149.1 h149.2, trivial⟩ rfl ?_
             refine WL.setB 57 h71 rfl ?_
             refine seg 10 [] e35 e6 [] (fun fb => by kernel_rfl) rfl trivial ?_
             refine WL.setB 60 h72 rfl ?_
             refine seg 24 [] e31 e5 [] (fun fb => by kernel_rfl) rfl trivial ?_
             refine WL.setB 74 h146 rfl ?_
             refine seg 26 [] e60 [e11, e12, e20, e21, e8, e14, (11, e9), e18, e22, (51, e9), e25, e30, (72, e39), e50, (75, (sv Aa p0 ca)), (76, (iv x48))] [] (fun fb => by kernel_rfl) rfl trivial ?_
             obtain ⟨h160, hx70⟩ := as_some hx70
             refine seg 29 [] e59 [e11, e12, e20, e21, e8, e14, (11, e9), e18, e22, (51, e9), e25, e30, (72, e39), e50, (77, (.pointer (some e19))), (79, (sv Aa p0 ca)), (80, (iv x34))] [.idx Aa x48 p0.length] (fun fb => by kernel_rfl) rfl ⟨rowR.adr (hS148.rd 0).1 h160.1 h160.2, trivial⟩ ?_
             obtain ⟨h161, hx70⟩ := as_some hx70
             refine seg 33 [.v e43, .v e44, .v e45, .v e46, .v e51, .v e52, .v e53, .v e54] e38 [e11, e12, e20, e21, e8, e14, (11, e9), e18, e22, (51, e9), e25, e30, (72, e39), e50, (78, (.agg e17)), (82, (.agg e16)), (83, (bv p2))] [.idx Aa x34 p0.length, .cell e15 e43, .cell (e15.add 1) e44, .cell (e15.add 2) e45, .cell (e15.add 3) e46, .cell e19 e51, .cell (e19.add 1) e52, .cell (e19.add 2) e53, .cell (e19.add 3) e54] (fun fb => by kernel_rfl) rfl ⟨rowR.adr (hS148.rd 0).1 h161.1 h161.2, rowR.cell (hS148.rd 0).1 z_Tile h161.1 h161.2 0 rfl, rowR.cell (hS148.rd 0).1 z_Tile h161.1 h161.2 1 rfl, rowR.cell (hS148.rd 0).1 z_Tile h161.1 h161.2 2 rfl, rowR.cell (hS148.rd 0).1 z_Tile h161.1 h161.2 3 rfl, rowR.cell (hS148.rd 0).1 z_Tile h160.1 h160.2 0 rfl, rowR.cell (hS148.rd 0).1 z_Tile h160.1 h160.2 1 rfl, rowR.cell (hS148.rd 0).1 z_Tile h160.1 h160.2 2 rfl, rowR.cell (hS148.rd 0).1 z_Tile h160.1 h160.2 3 rfl, trivial⟩ ?_
             obtain ⟨t162, ht163, hx70⟩ := bind_some hx70
             refine WL.call (some 84) 22 #[(.agg e17), (.agg e16), (bv p2)] (fun fb => by kernel_rfl) (ref04_Leads_calls e3 e2 p2 t162 _ ht163) (fun v w164 hR165 => ?_)
             obtain ⟨rfl, hk_⟩ := hR165
             have hS166 := hS148.keepN hk_
             refine ⟨trivial, ?_⟩
             refine seg 37 [] e28 [e11, e12, e20, e21, e8, e14, (11, e9), e18, e22, (51, e9), e25, (87, (bv t162))] [] (fun fb => by kernel_rfl) rfl trivial ?_
             obtain ⟨h167, hx70⟩ := as_some hx70
             refine seg 38 [] e33 [e11, e12, e20, e21, e8, e14, (11, e9), e18, e22, (87, (bv t162)), (88, (.pointer e32))] [.idx A45 x34 l47.length] (fun fb => by kernel_rfl) rfl ⟨rowR.adr (rowO.rd (hS166.own 1).1) h167.1 h167.2, trivial⟩ ?_
             refine WL.storeRow hS166 1 rfl (x34) (t162) (false) [(0, (bv t162))] (fun fb => by kernel_rfl) h167.1 h167.2 (by kernel_rfl) rfl [0] (by decide) (by decide) (fun w168 hS169 => ?_)
             refine ⟨trivial, ?_⟩
             refine WL.reE [0, 1, 2, 3, 9, 10, 11, 12, 13] [(0, (.slice Aa p0.length ca)), (1, (.slice Ab p1.length cb)), (2, (.bool p2)), (3, (.bool p3)), (9, (.slice A14 l16.length c15)), (10, (iv x17)), (11, (.slice A45 l47.length c46)), (12, (iv x34)), (13, (iv x48))] [(0, (.slice Aa p0.length ca)), (1, (.slice Ab p1.length cb)), (2, (.bool p2)), (3, (.bool p3)), (9, (.slice A14 l16.length c15)), (10, (iv x17)), (11, (.slice A45 (l47.set (x34).toNat t162).length c46)), (12, (iv x34)), (13, (iv x48))] rfl (by simp only [List.length_set]) ?_
             refine WL.done rfl ?_
             injection hx70 with hx70
             exact WX.to Kx69 (l47.set (x34).toNat t162, A45, c46) e26 rfl ⟨(hS169.subR [0, 1]).sub [1, 0] (by decide), hx70.symm⟩
            obtain ⟨h172, hx70⟩ := as_some hx70
            refine WC.regionD ([e13], e23, e1) e10 (by kernel_rfl) (by kernel_rfl) (NoPanic.block (NoPanic.seq (NoPanic.seq (NoPanic.block (NoPanic.block (NoPanic.seq (NoPanic.seq (NoPanic.block (NoPanic.seq (NoPanic.block (NoPanic.seq (NoPanic.seq (NoPanic.block (NoPanic.seq (NoPanic.body))))))))))))))) ?_
            have hS171 := hS55.drew
            revert hS171
            generalize World.drew w54 = w170
            intro hS171
            refine ⟨⟨rowR.cell (rowO.rd (hS171.own 0).1) false h172.1 h172.2 0 rfl, trivial⟩, forallC ?_ (forallC ?_ (forallN))⟩
            ·
             refine segF 7 [.v e37] e27 e4 [.idx A14 x48 l16.length] [0] [e13] (fun fb => by kernel_rfl) rfl ⟨rowR.adr (rowO.rd (hS171.own 0).1) h172.1 h172.2, trivial⟩ rfl ?_
             refine WL.setB 57 h71 rfl ?_
             refine seg 10 [] e35 e6 [] (fun fb => by kernel_rfl) rfl trivial ?_
             refine WL.setB 60 h72 rfl ?_
             refine seg 24 [] e31 e5 [] (fun fb => by kernel_rfl) rfl trivial ?_
             refine WL.setB 74 h146 rfl ?_
             refine seg 37 [] e28 [e11, e12, e20, e21, e8, e14, (11, e9), e18, e22, (51, e9), e25, (87, e39)] [] (fun fb => by kernel_rfl) rfl trivial ?_
             obtain ⟨h173, hx70⟩ := as_some hx70
             refine seg 38 [] e33 [e11, e12, e20, e21, e8, e14, (11, e9), e18, e22, (87, e39), (88, (.pointer e32))] [.idx A45 x34 l47.length] (fun fb => by kernel_rfl) rfl ⟨rowR.adr (rowO.rd (hS171.own 1).1) h173.1 h173.2, trivial⟩ ?_
             refine WL.storeRow hS171 1 rfl (x34) (false) (false) [(0, e39)] (fun fb => by kernel_rfl) h173.1 h173.2 (by kernel_rfl) rfl [0] (by decide) (by decide) (fun w174 hS175 => ?_)
             refine ⟨trivial, ?_⟩
             refine WL.reE [0, 1, 2, 3, 9, 10, 11, 12, 13] [(0, (.slice Aa p0.length ca)), (1, (.slice Ab p1.length cb)), (2, (.bool p2)), (3, (.bool p3)), (9, (.slice A14 l16.length c15)), (10, (iv x17)), (11, (.slice A45 l47.length c46)), (12, (iv x34)), (13, (iv x48))] [(0, (.slice Aa p0.length ca)), (1, (.slice Ab p1.length cb)), (2, (.bool p2)), (3, (.bool p3)), (9, (.slice A14 l16.length c15)), (10, (iv x17)), (11, (.slice A45 (l47.set (x34).toNat false).length c46)), (12, (iv x34)), (13, (iv x48))] rfl (by simp only [List.length_set]) ?_
             refine WL.done rfl ?_
             injection hx70 with hx70
             exact WX.to Kx69 e48 e26 rfl ⟨(hS175.subR [0, 1]).sub [1, 0] (by decide), hx70.symm⟩
            refine segF 7 [.v e37] e27 e4 [.idx A14 x48 l16.length] [0] [e13] (fun fb => by kernel_rfl) rfl ⟨rowR.adr (rowO.rd (hS171.own 0).1) h172.1 h172.2, trivial⟩ rfl ?_
            refine WL.setB 57 h71 rfl ?_
            refine seg 10 [] e35 e6 [] (fun fb => by kernel_rfl) rfl trivial ?_
            refine WL.setB 60 h72 rfl ?_
            refine seg 24 [] e31 e5 [] (fun fb => by kernel_rfl) rfl trivial ?_
            refine WL.setB 74 h146 rfl ?_
            refine seg 37 [] e28 [e11, e12, e20, e21, e8, e14, (11, e9), e18, e22, (51, e9), e25, (87, e39)] [] (fun fb => by kernel_rfl) rfl trivial ?_
            obtain ⟨h176, hx70⟩ := as_some hx70
            refine seg 38 [] e33 [e11, e12, e20, e21, e8, e14, (11, e9), e18, e22, (87, e39), (88, (.pointer e32))] [.idx A45 x34 l47.length] (fun fb => by kernel_rfl) rfl ⟨rowR.adr (rowO.rd (hS171.own 1).1) h176.1 h176.2, trivial⟩ ?_
            refine WL.storeRow hS171 1 rfl (x34) (false) (false) [(0, e39)] (fun fb => by kernel_rfl) h176.1 h176.2 (by kernel_rfl) rfl [0] (by decide) (by decide) (fun w177 hS178 => ?_)
            refine ⟨trivial, ?_⟩
            refine WL.reE [0, 1, 2, 3, 9, 10, 11, 12, 13] [(0, (.slice Aa p0.length ca)), (1, (.slice Ab p1.length cb)), (2, (.bool p2)), (3, (.bool p3)), (9, (.slice A14 l16.length c15)), (10, (iv x17)), (11, (.slice A45 l47.length c46)), (12, (iv x34)), (13, (iv x48))] [(0, (.slice Aa p0.length ca)), (1, (.slice Ab p1.length cb)), (2, (.bool p2)), (3, (.bool p3)), (9, (.slice A14 l16.length c15)), (10, (iv x17)), (11, (.slice A45 (l47.set (x34).toNat false).length c46)), (12, (iv x34)), (13, (iv x48))] rfl (by simp only [List.length_set]) ?_
            refine WL.done rfl ?_
            injection hx70 with hx70
            exact WX.to Kx69 e48 e26 rfl ⟨(hS178.subR [0, 1]).sub [1, 0] (by decide), hx70.symm⟩
           obtain ⟨h181, hx70⟩ := as_some hx70
           refine WC.regionD ([e13], e23, e1) e10 (by kernel_rfl) (by kernel_rfl) (NoPanic.block (NoPanic.seq (NoPanic.seq (NoPanic.block (NoPanic.block (NoPanic.seq (NoPanic.seq (NoPanic.block (NoPanic.seq (NoPanic.block (NoPanic.seq (NoPanic.seq (NoPanic.block (NoPanic.seq (NoPanic.body))))))))))))))) ?_
           have hS180 := hS55.drew
           revert hS180
           generalize World.drew w54 = w179
           intro hS180
           refine ⟨⟨rowR.cell (rowO.rd (hS180.own 0).1) false h181.1 h181.2 0 rfl, trivial⟩, forallC ?_ (forallC ?_ (forallN))⟩
           ·
            refine segF 7 [.v e37] e27 e4 [.idx A14 x48 l16.length] [0] [e13] (fun fb => by kernel_rfl) rfl ⟨rowR.adr (rowO.rd (hS180.own 0).1) h181.1 h181.2, trivial⟩ rfl ?_
            refine WL.setB 57 h71 rfl ?_
            refine seg 37 [] e28 [e11, e12, e20, e21, e8, e14, (11, e9), e18, e22, (51, e9), e25, (87, e39)] [] (fun fb => by kernel_rfl) rfl trivial ?_
            obtain ⟨h182, hx70⟩ := as_some hx70
            refine seg 38 [] e33 [e11, e12, e20, e21, e8, e14, (11, e9), e18, e22, (87, e39), (88, (.pointer e32))] [.idx A45 x34 l47.length] (fun fb => by kernel_rfl) rfl ⟨rowR.adr (rowO.rd (hS180.own 1).1) h182.1 h182.2, trivial⟩ ?_
            refine WL.storeRow hS180 1 rfl (x34) (false) (false) [(0, e39)] (fun fb => by kernel_rfl) h182.1 h182.2 (by kernel_rfl) rfl [0] (by decide) (by decide) (fun w183 hS184 => ?_)
            refine ⟨trivial, ?_⟩
            refine WL.reE [0, 1, 2, 3, 9, 10, 11, 12, 13] [(0, (.slice Aa p0.length ca)), (1, (.slice Ab p1.length cb)), (2, (.bool p2)), (3, (.bool p3)), (9, (.slice A14 l16.length c15)), (10, (iv x17)), (11, (.slice A45 l47.length c46)), (12, (iv x34)), (13, (iv x48))] [(0, (.slice Aa p0.length ca)), (1, (.slice Ab p1.length cb)), (2, (.bool p2)), (3, (.bool p3)), (9, (.slice A14 l16.length c15)), (10, (iv x17)), (11, (.slice A45 (l47.set (x34).toNat false).length c46)), (12, (iv x34)), (13, (iv x48))] rfl (by simp only [List.length_set]) ?_
            refine WL.done rfl ?_
            injection hx70 with hx70
            exact WX.to Kx69 e48 e26 rfl ⟨(hS184.subR [0, 1]).sub [1, 0] (by decide), hx70.symm⟩
           refine segF 7 [.v e37] e27 e4 [.idx A14 x48 l16.length] [0] [e13] (fun fb => by kernel_rfl) rfl ⟨rowR.adr (rowO.rd (hS180.own 0).1) h181.1 h181.2, trivial⟩ rfl ?_
           refine WL.setB 57 h71 rfl ?_
           refine seg 37 [] e28 [e11, e12, e20, e21, e8, e14, (11, e9), e18, e22, (51, e9), e25, (87, e39)] [] (fun fb => by kernel_rfl) rfl trivial ?_
           obtain ⟨h185, hx70⟩ := as_some hx70
           refine seg 38 [] e33 [e11, e12, e20, e21, e8, e14, (11, e9), e18, e22, (87, e39), (88, (.pointer e32))] [.idx A45 x34 l47.length] (fun fb => by kernel_rfl) rfl ⟨rowR.adr (rowO.rd (hS180.own 1).1) h185.1 h185.2, trivial⟩ ?_
           refine WL.storeRow hS180 1 rfl (x34) (false) (false) [(0, e39)] (fun fb => by kernel_rfl) h185.1 h185.2 (by kernel_rfl) rfl [0] (by decide) (by decide) (fun w186 hS187 => ?_)
           refine ⟨trivial, ?_⟩
           refine WL.reE [0, 1, 2, 3, 9, 10, 11, 12, 13] [(0, (.slice Aa p0.length ca)), (1, (.slice Ab p1.length cb)), (2, (.bool p2)), (3, (.bool p3)), (9, (.slice A14 l16.length c15)), (10, (iv x17)), (11, (.slice A45 l47.length c46)), (12, (iv x34)), (13, (iv x48))] [(0, (.slice Aa p0.length ca)), (1, (.slice Ab p1.length cb)), (2, (.bool p2)), (3, (.bool p3)), (9, (.slice A14 l16.length c15)), (10, (iv x17)), (11, (.slice A45 (l47.set (x34).toNat false).length c46)), (12, (iv x34)), (13, (iv x48))] rfl (by simp only [List.length_set]) ?_
           refine WL.done rfl ?_
           injection hx70 with hx70
           exact WX.to Kx69 e48 e26 rfl ⟨(hS187.subR [0, 1]).sub [1, 0] (by decide), hx70.symm⟩
          rintro ⟨y191, A67, c68⟩ w188 ⟨hS189, hq190⟩
          subst hq190
          refine WX.blockN (WX.next ?_)
          refine WC.region ?_
          refine seg 3 [] e26 [e11, e12, e20, e21, e8, e14, (11, (sv A67 x69 c68)), e18, (13, (iv (w64 (x48 + 1))))] [] (fun fb => by kernel_rfl) rfl trivial ?_
          refine WL.done rfl ?_
          exact WX.again k53 (Nat.lt_succ_self _) ((x69, w64 (x48 + 1)), A67, c68) e26 rfl ⟨(hS189.subR [0, 1]).sub [0, 1] (by decide), hl56⟩
         refine WC.condF2 (fun fb => by kernel_rfl) h66 ?_
         refine WC.exit ?_
         injection hl56 with hl56
         exact WX.thenX (WX.thenX (WX.blockHere (WX.to Kx51 (l47, A45, c46) e47 rfl ⟨(hS55.subR [0, 1]).sub [0, 1] (by decide), hl56.symm⟩)))
       rintro ⟨y195, A49, c50⟩ w192 ⟨hS193, hq194⟩
       subst hq194
       refine WX.blockN (WX.next ?_)
       refine WC.region ?_
       refine seg 3 [] e47 [e11, e12, e20, e21, e8, e14, (11, (sv A49 x51 c50)), (12, (iv (w64 (x34 + 1))))] [] (fun fb => by kernel_rfl) rfl trivial ?_
       refine WL.done rfl ?_
       exact WX.again k40 (Nat.lt_succ_self _) ((x51, w64 (x34 + 1)), A49, c50) e47 rfl ⟨(hS193.subR [0, 1]).sub [0, 1] (by decide), hl43⟩
      refine WC.condF2 (fun fb => by kernel_rfl) h44 ?_
      refine WC.exit ?_
      injection hl43 with hl43
      exact WX.thenX (WX.thenX (WX.blockHere (WX.to Kx38 (l33, A31, c32) [0, 1, 2, 3, 10, 11] rfl ⟨(hS42.subR [0, 1]).sub [1] (by decide), hl43.symm⟩)))
    rintro ⟨y199, A35, c37⟩ w196 ⟨hS197, hq198⟩
    subst hq198
    refine WX.next (WC.region ?_)
    refine seg 2 [] [0, 1, 2, 3, 9, 10] [e11, e12, e20, e21, (9, (sv A35 x38 c37)), e14] [] (fun fb => by kernel_rfl) rfl trivial ?_
    refine WL.done rfl ?_
    refine WX.blockN (WX.next ?_)
    refine WC.region ?_
    refine seg 3 [] [0, 1, 2, 3, 9, 10] [e11, e12, e20, e21, (9, (sv A35 x38 c37)), (10, (iv (w64 (x17 + 1))))] [] (fun fb => by kernel_rfl) rfl trivial ?_
    refine WL.done rfl ?_
    exact WX.again k22 (Nat.lt_succ_self _) ((x38, w64 (x17 + 1)), A35, c37) [0, 1, 2, 3, 9, 10] rfl ⟨(hS197.subR [0, 1]).sub [0] (by decide), hl25⟩
   refine WC.condF2 (fun fb => by kernel_rfl) h26 ?_
   refine WC.exit ?_
   injection hl25 with hl25
   exact WX.thenX (WX.thenX (WX.blockHere (WX.to Kx20 (l16, A14, c15) [9] rfl ⟨(hS24.subR [0, 1]).sub [0] (by decide), hl25.symm⟩)))
 rintro ⟨y203, A18, c19⟩ w200 ⟨hS201, hq202⟩
 subst hq202
 refine WX.next (WC.seq (WC.region ?_))
 refine seg 2 [] [8] [(8, (sv A18 x20 c19))] [] (fun fb => by kernel_rfl) rfl trivial ?_
 refine WL.done rfl (WX.next ?_)
 refine WC.ret ?_
 injection hf with hf
 subst hf
 exact WX.ret_ [] (sv A18 x20 c19) [] (fun fb => by kernel_rfl) trivial ⟨_, rfl, A18, c19, rfl, (hS201.sub [0] (by decide)).noR⟩
theorem ref04_Core_calls (k : Nat) (p0 : List Tile) (Aa : Option Addr) (ca : Nat) (r : (List Int)) (w : World) (hR0 : RO NoS w (rowR enc_Tile Aa ca p0)) (hf : ref04_Core k p0 = some r) :
  CallsR Tryd.prog 13 #[(sv Aa p0 ca)] w (fun v w' => ∃ (A1_ : Option Addr), ∃ (c1_ : Nat), v = (sv A1_ r c1_) ∧ St NoS w w' [] [rowO 3 encInt A1_ c1_ r]) := by
 have hS : St NoS w w [rowR enc_Tile Aa ca p0] [] := St.init (ro_cons hR0 (ro_nil _ _))
 refine enter 95 Tryd.func13 rfl Tryd.ntmps13 rfl ?_
 unfold ref04_Core at hf
 refine WC.seq (WC.region ?_)
 refine seg 1 [] [0] [(0, (sv Aa p0 ca))] [] (fun fb => by kernel_rfl) rfl trivial ?_
 refine WL.done rfl (WX.next (WC.seq (WC.region ?_)))
 refine seg 2 [] [0, 12] [(0, (sv Aa p0 ca)), (12, (iv (p0.length : Int)))] [] (fun fb => by kernel_rfl) rfl trivial ?_
 obtain ⟨h5, hf⟩ := as_some hf
 refine WL.make hS (e := encBool) (T := 4) (tS := 74) (z := (bv false)) (bytes := 1) (d := 13) (false : Bool) (p0.length : Int) (fun fb => by kernel_rfl) (by kernel_rfl) (by kernel_rfl) rfl (by decide) h5 (by decide) (fun g6 w7 hS8 => ?_)
 refine ⟨trivial, ?_⟩
 refine seg 4 [] [0, 3] [(0, (sv Aa p0 ca)), (3, (sv (some ⟨g6, 0, none⟩) (List.replicate (p0.length : Int).toNat (false : Bool)) ((p0.length : Int).toNat)))] [] (fun fb => by kernel_rfl) rfl trivial ?_
 refine WL.done rfl (WX.next (WC.seq (WC.seq (WC.region ?_))))
 refine seg 1 [] [0, 3, 4] [(0, (sv Aa p0 ca)), (3, (sv (some ⟨g6, 0, none⟩) (List.replicate (p0.length : Int).toNat (false : Bool)) ((p0.length : Int).toNat))), (4, (iv 0))] [] (fun fb => by kernel_rfl) rfl trivial ?_
 refine WL.done rfl (WX.next ?_)
 obtain ⟨x16, hx17, hf⟩ := bind_some hf
 let e16 : Nat × Value := (0, (sv Aa p0 ca))
 refine WC.cutN (T := (List Bool) × (Option Addr) × Nat) (fun t => [e16, (3, (sv t.2.1 t.1 t.2.2))]) (fun t w1 => St NoS w w1 [rowR enc_Tile Aa ca p0] [rowO 4 encBool t.2.1 t.2.2 t.1] ∧ x16 = t.1) (fun Kx16 => ?_) ?_
 ·
  refine WC.block ?_
  refine WC.loop (T := ((List Bool) × Int) × (Option Addr) × Nat) (fun t => [e16, (3, (sv t.2.1 t.1.1 t.2.2)), (4, (iv t.1.2))]) (fun n t w1 => St NoS w w1 [rowR enc_Tile Aa ca p0] [rowO 4 encBool t.2.1 t.2.2 t.1.1] ∧ ref04_Core.l0 n t.1.1 t.1.2 p0 = some x16) k (((List.replicate (p0.length : Int).toNat (false : Bool)), 0), (some ⟨g6, 0, none⟩), (p0.length : Int).toNat) [0, 3, 4] rfl ⟨(hS8.subR [0]).sub [0] (by decide), hx17⟩ ?_
  rintro k18 ⟨⟨l11, x12⟩, A9, c10⟩ w19 ⟨hS20, hl21⟩
  cases k18 with
  | zero => rw [ref04_Core.l0] at hl21; cases hl21
  | succ k18 =>
   rw [ref04_Core.l0] at hl21
   refine WC.seq (WC.seq (WC.region ?_))
   refine seg 4 [] [0, 3, 4, 17] [e16, (3, (sv A9 l11 c10)), (4, (iv x12)), (17, (bv (decide (x12 < (p0.length : Int)))))] [] (fun fb => by kernel_rfl) rfl trivial ?_
   refine WL.done rfl (WX.next ?_)
   rcases br_some hl21 with ⟨h22, hl21⟩ | ⟨h22, hl21⟩
   ·refine WC.condT2 (fun fb => by kernel_rfl) h22 ?_
    refine WC.skip (WX.next (WC.seq (WC.block (WC.region ?_))))
    refine seg 2 [] [0, 3, 4, 20, 21] [e16, (3, (sv A9 l11 c10)), (4, (iv x12)), (20, (sv A9 l11 c10)), (21, (iv x12))] [] (fun fb => by kernel_rfl) rfl trivial ?_
    obtain ⟨h23, hl21⟩ := as_some hl21
    refine seg 3 [] [0, 3, 4, 22] [e16, (3, (sv A9 l11 c10)), (4, (iv x12)), (22, (.pointer (some ((adr A9).add ((x12).toNat * 1)))))] [.idx A9 x12 l11.length] (fun fb => by kernel_rfl) rfl ⟨rowR.adr (rowO.rd (hS20.own 0).1) h23.1 h23.2, trivial⟩ ?_
    refine WL.storeRow hS20 0 rfl (x12) (true) (false) [(0, (bv true))] (fun fb => by kernel_rfl) h23.1 h23.2 (by kernel_rfl) rfl [] (by decide) (by decide) (fun w24 hS25 => ?_)
    refine ⟨trivial, ?_⟩
    refine WL.reE [0, 3, 4] [(0, (.slice Aa p0.length ca)), (3, (.slice A9 l11.length c10)), (4, (iv x12))] [(0, (.slice Aa p0.length ca)), (3, (.slice A9 (l11.set (x12).toNat true).length c10)), (4, (iv x12))] rfl (by simp only [List.length_set]) ?_
    refine WL.done rfl ?_
    refine WX.blockN (WX.next ?_)
    refine WC.region ?_
    refine seg 3 [] [0, 3, 4] [e16, (3, (sv A9 (l11.set (x12).toNat true) c10)), (4, (iv (w64 (x12 + 1))))] [] (fun fb => by kernel_rfl) rfl trivial ?_
    refine WL.done rfl ?_
    exact WX.again k18 (Nat.lt_succ_self _) ((l11.set (x12).toNat true, w64 (x12 + 1)), A9, c10) [0, 3, 4] rfl ⟨(hS25.subR [0]).sub [0] (by decide), hl21⟩
   refine WC.condF2 (fun fb => by kernel_rfl) h22 ?_
   refine WC.exit ?_
   injection hl21 with hl21
   exact WX.thenX (WX.thenX (WX.blockHere (WX.to Kx16 (l11, A9, c10) [0, 3] rfl ⟨(hS20.subR [0]).sub [0] (by decide), hl21.symm⟩)))
 rintro ⟨y29, A14, c15⟩ w26 ⟨hS27, hq28⟩
 subst hq28
 refine WX.next (WC.seq (WC.seq (WC.region ?_)))
 refine seg 1 [] [0, 3, 5] [e16, (3, (sv A14 x16 c15)), (5, (bv true))] [] (fun fb => by kernel_rfl) rfl trivial ?_
 refine WL.done rfl (WX.next ?_)
 obtain ⟨x36, hx37, hf⟩ := bind_some hf
 let e1 : Nat × Value := e16
 let e7 : Nat × Value := (48, (bv true))
 let e8 : Nat × Value := (5, (bv false))
 let e9 : List Own := [rowR enc_Tile Aa ca p0]
 let e11 := Option Addr
 let e12 : List Nat := [0, 3, 5, 6, 7]
 let e14 := List Bool
 let e17 : List Nat := [0, 3, 5, 6, 8]
 let e20 : List Nat := [0, 3, 5, 6, 7, 36, 37]
 let e21 : List Nat := [0, 1, 2, 3, 4, 5]
 refine WC.cutN (T := e14 × e11 × Nat) (fun t => [e1, (3, (sv t.2.1 t.1 t.2.2))]) (fun t w1 => St NoS w w1 e9 [rowO 4 encBool t.2.1 t.2.2 t.1] ∧ x36 = t.1) (fun Kx36 => ?_) ?_
 ·
  refine WC.block ?_
  refine WC.loop (T := (e14 × Bool) × e11 × Nat) (fun t => [e1, (3, (sv t.2.1 t.1.1 t.2.2)), (5, (bv t.1.2))]) (fun n t w1 => St NoS w w1 e9 [rowO 4 encBool t.2.1 t.2.2 t.1.1] ∧ ref04_Core.l1 n t.1.1 t.1.2 p0 = some x36) k ((x16, true), A14, c15) [0, 3, 5] rfl ⟨(hS27.subR [0]).sub [0] (by decide), hx37⟩ ?_
  rintro k38 ⟨⟨l32, b33⟩, A30, c31⟩ w39 ⟨hS40, hl41⟩
  let e3 : Nat × Value := (3, (sv A30 l32 c31))
  cases k38 with
  | zero => rw [ref04_Core.l1] at hl41; cases hl41
  | succ k38 =>
   rw [ref04_Core.l1] at hl41
   refine WC.seq (WC.seq (WC.region ?_))
   refine seg 1 [] [0, 3, 23] [e1, e3, (23, (bv b33))] [] (fun fb => by kernel_rfl) rfl trivial ?_
   refine WL.done rfl (WX.next ?_)
   rcases br_some hl41 with ⟨h42, hl41⟩ | ⟨h42, hl41⟩
   ·refine WC.condT2 (fun fb => by kernel_rfl) h42 ?_
    refine WC.skip (WX.next (WC.block (WC.seq (WC.region ?_))))
    refine seg 1 [] [0, 3, 5] [e1, e3, e8] [] (fun fb => by kernel_rfl) rfl trivial ?_
    refine WL.done rfl (WX.next (WC.seq (WC.region ?_)))
    refine WL.new hS40 6 [] (fun g => (pt g)) (.cells #[(.slice none 0 0), (.slice none 0 0), (.slice none 0 0), (.slice none 0 0)] 75 (0, 0)) [] (fun fb g => by kernel_rfl) trivial (fun g43 w44 hS45 => ?_)
    refine ⟨trivial, ?_⟩
    refine WL.done rfl (WX.next (WC.seq (WC.seq (WC.region ?_))))
    refine seg 1 [] e12 [e1, e3, e8, (6, (pt g43)), (7, (iv 0))] [] (fun fb => by kernel_rfl) rfl trivial ?_
    refine WL.done rfl (WX.next ?_)
    have hS46 := hS45.nilrow 4 encBool
    have hS47 := hS46.nilrow 4 encBool
    have hS48 := hS47.nilrow 4 encBool
    have hS49 := hS48.nilrow 4 encBool
    obtain ⟨x72, hx73, hl41⟩ := bind_some hl41
    let e13 : Nat × Value := (6, (pt g43))
    refine WC.cutN (T := (e14 × e14 × e14 × e14) × e11 × Nat × e11 × Nat × e11 × Nat × e11 × Nat) (fun t => [e1, e3, e8, e13]) (fun t w1 => St NoS w w1 e9 [rowO 4 encBool A30 c31 l32, blk g43 (.cells #[(sv t.2.1 t.1.1 t.2.2.1), (sv t.2.2.2.1 t.1.2.1 t.2.2.2.2.1), (sv t.2.2.2.2.2.1 t.1.2.2.1 t.2.2.2.2.2.2.1), (sv t.2.2.2.2.2.2.2.1 t.1.2.2.2 t.2.2.2.2.2.2.2.2)] 75 (0, 0)), rowO 4 encBool t.2.1 t.2.2.1 t.1.1, rowO 4 encBool t.2.2.2.1 t.2.2.2.2.1 t.1.2.1, rowO 4 encBool t.2.2.2.2.2.1 t.2.2.2.2.2.2.1 t.1.2.2.1, rowO 4 encBool t.2.2.2.2.2.2.2.1 t.2.2.2.2.2.2.2.2 t.1.2.2.2] ∧ x72 = t.1) (fun Kx72 => ?_) ?_
    ·
     refine WC.block ?_
     refine WC.loop (T := (e14 × e14 × e14 × e14 × Int) × e11 × Nat × e11 × Nat × e11 × Nat × e11 × Nat) (fun t => [e1, e3, e8, e13, (7, (iv t.1.2.2.2.2))]) (fun n t w1 => St NoS w w1 e9 [rowO 4 encBool A30 c31 l32, blk g43 (.cells #[(sv t.2.1 t.1.1 t.2.2.1), (sv t.2.2.2.1 t.1.2.1 t.2.2.2.2.1), (sv t.2.2.2.2.2.1 t.1.2.2.1 t.2.2.2.2.2.2.1), (sv t.2.2.2.2.2.2.2.1 t.1.2.2.2.1 t.2.2.2.2.2.2.2.2)] 75 (0, 0)), rowO 4 encBool t.2.1 t.2.2.1 t.1.1, rowO 4 encBool t.2.2.2.1 t.2.2.2.2.1 t.1.2.1, rowO 4 encBool t.2.2.2.2.2.1 t.2.2.2.2.2.2.1 t.1.2.2.1, rowO 4 encBool t.2.2.2.2.2.2.2.1 t.2.2.2.2.2.2.2.2 t.1.2.2.2.1] ∧ ref04_Core.l2 n t.1.1 t.1.2.1 t.1.2.2.1 t.1.2.2.2.1 t.1.2.2.2.2 p0 l32 = some x72) k38 ((([] : List Bool), ([] : List Bool), ([] : List Bool), ([] : List Bool), 0), none, 0, none, 0, none, 0, none, 0) e12 rfl ⟨(hS49.subR [0]).sub [5, 4, 3, 2, 1, 0] (by decide), hx73⟩ ?_
     rintro k74 ⟨⟨l52, l55, l58, l61, x62⟩, A50, c51, A53, c54, A56, c57, A59, c60⟩ w75 ⟨hS76, hl77⟩
     let e19 : Nat × Value := (7, (iv (w64 (x62 + 1))))
     cases k74 with
     | zero => rw [ref04_Core.l2] at hl77; cases hl77
     | succ k74 =>
      rw [ref04_Core.l2] at hl77
      refine WC.seq (WC.seq (WC.region ?_))
      refine seg 2 [] [0, 3, 5, 6, 7, 25] [e1, e3, e8, e13, (7, (iv x62)), (25, (bv (decide (x62 < 4))))] [] (fun fb => by kernel_rfl) rfl trivial ?_
      refine WL.done rfl (WX.next ?_)
      rcases br_some hl77 with ⟨h78, hl77⟩ | ⟨h78, hl77⟩
      ·refine WC.condT2 (fun fb => by kernel_rfl) h78 ?_
       refine WC.skip (WX.next (WC.seq (WC.block (WC.region ?_))))
       refine seg 8 [] [0, 3, 5, 6, 7, 28, 29, 30, 32, 35] [e1, e3, e8, e13, (7, (iv x62)), (28, (iv x62)), (29, (sv Aa p0 ca)), (30, (sv A30 l32 c31)), (32, (bv (decide (x62 ≥ 2)))), (35, (bv ((Int.tmod x62 2) == 1)))] [.ne 2] (fun fb => by kernel_rfl) rfl ⟨(by decide), trivial⟩ ?_
       obtain ⟨t79, ht80, hl77⟩ := bind_some hl77
       refine WL.call (some 36) 36 #[(sv Aa p0 ca), (sv A30 l32 c31), (bv (decide (x62 ≥ 2))), (bv ((Int.tmod x62 2) == 1))] (fun fb => by kernel_rfl) (ref04_endless_calls _ p0 l32 (decide (x62 ≥ 2)) ((Int.tmod x62 2) == 1) Aa ca A30 c31 t79 _ (hS76.rd 0) (hS76.ow 0).ofO ht80) (fun v w81 hR82 => ?_)
       obtain ⟨A84, c85, rfl, hk_⟩ := hR82
       have hS83 := hS.go w81 [rowO 4 encBool A84 c85 t79, rowO 4 encBool A30 c31 l32, blk g43 (.cells #[(.slice A50 l52.length c51), (.slice A53 l55.length c54), (.slice A56 l58.length c57), (.slice A59 l61.length c60)] 75 (0, 0)), rowO 4 encBool A50 c51 l52, rowO 4 encBool A53 c54 l55, rowO 4 encBool A56 c57 l58, rowO 4 encBool A59 c60 l61] (hS76.call hk_ [] [0, 1, 2, 3, 4, 5] (fun g hg => hg.elim) (by simp) (by decide))
       refine ⟨trivial, ?_⟩
       rcases br_some hl77 with ⟨h86, hl77⟩ | ⟨h86, hl77⟩
       ·
        refine WL.setI 28 (eq_of_beq h86) rfl ?_
        refine seg 10 [] e20 [e1, e3, e8, e13, (7, (iv x62)), (36, (sv A84 t79 c85)), (37, (pt g43))] [] (fun fb => by kernel_rfl) rfl trivial ?_
        refine WL.store hS83 2 rfl [(0, (sv A84 t79 c85))] #[(sv A84 t79 c85), (sv A53 l55 c54), (sv A56 l58 c57), (sv A59 l61 c60)] (fun fb => by kernel_rfl) (by kernel_rfl) rfl [0, 1, 3, 4, 5, 6] (by decide) (by decide) (fun w87 hS88 => ?_)
        refine ⟨trivial, ?_⟩
        refine WL.done rfl ?_
        refine WX.blockN (WX.next ?_)
        refine WC.region ?_
        refine seg 3 [] e12 [e1, e3, e8, e13, e19] [] (fun fb => by kernel_rfl) rfl trivial ?_
        refine WL.done rfl ?_
        exact WX.again k74 (Nat.lt_succ_self _) ((t79, l55, l58, l61, w64 (x62 + 1)), A84, c85, A53, c54, A56, c57, A59, c60) e12 rfl ⟨(hS88.subR [0]).sub [2, 0, 1, 4, 5, 6] (by decide), hl77⟩
       rcases br_some hl77 with ⟨h89, hl77⟩ | ⟨h89, hl77⟩
       ·
        refine WL.setI 28 (eq_of_beq h89) rfl ?_
        refine seg 10 [] e20 [e1, e3, e8, e13, (7, (iv x62)), (36, (sv A84 t79 c85)), (37, (.pointer (some ⟨g43, 1, none⟩)))] [] (fun fb => by kernel_rfl) rfl trivial ?_
        refine WL.store hS83 2 rfl [(1, (sv A84 t79 c85))] #[(sv A50 l52 c51), (sv A84 t79 c85), (sv A56 l58 c57), (sv A59 l61 c60)] (fun fb => by kernel_rfl) (by kernel_rfl) rfl [0, 1, 3, 4, 5, 6] (by decide) (by decide) (fun w90 hS91 => ?_)
        refine ⟨trivial, ?_⟩
        refine WL.done rfl ?_
        refine WX.blockN (WX.next ?_)
        refine WC.region ?_
        refine seg 3 [] e12 [e1, e3, e8, e13, e19] [] (fun fb => by kernel_rfl) rfl trivial ?_
        refine WL.done rfl ?_
        exact WX.again k74 (Nat.lt_succ_self _) ((l52, t79, l58, l61, w64 (x62 + 1)), A50, c51, A84, c85, A56, c57, A59, c60) e12 rfl ⟨(hS91.subR [0]).sub [2, 0, 3, 1, 5, 6] (by decide), hl77⟩
       rcases br_some hl77 with ⟨h92, hl77⟩ | ⟨h92, hl77⟩
       ·
        refine WL.setI 28 (eq_of_beq h92) rfl ?_
        refine seg 10 [] e20 [e1, e3, e8, e13, (7, (iv x62)), (36, (sv A84 t79 c85)), (37, (.pointer (some ⟨g43, 2, none⟩)))] [] (fun fb => by kernel_rfl) rfl trivial ?_
        refine WL.store hS83 2 rfl [(2, (sv A84 t79 c85))] #[(sv A50 l52 c51), (sv A53 l55 c54), (sv A84 t79 c85), (sv A59 l61 c60)] (fun fb => by kernel_rfl) (by kernel_rfl) rfl [0, 1, 3, 4, 5, 6] (by decide) (by decide) (fun w93 hS94 => ?_)
        refine ⟨trivial, ?_⟩
        refine WL.done rfl ?_
        refine WX.blockN (WX.next ?_)
        refine WC.region ?_
        refine seg 3 [] e12 [e1, e3, e8, e13, e19] [] (fun fb => by kernel_rfl) rfl trivial ?_
        refine WL.done rfl ?_
        exact WX.again k74 (Nat.lt_succ_self _) ((l52, l55, t79, l61, w64 (x62 + 1)), A50, c51, A53, c54, A84, c85, A59, c60) e12 rfl ⟨(hS94.subR [0]).sub [2, 0, 3, 4, 1, 6] (by decide), hl77⟩
       rcases br_some hl77 with ⟨h95, hl77⟩ | ⟨h95, hl77⟩
       ·
        refine WL.setI 28 (eq_of_beq h95) rfl ?_
        refine seg 10 [] e20 [e1, e3, e8, e13, (7, (iv x62)), (36, (sv A84 t79 c85)), (37, (.pointer (some ⟨g43, 3, none⟩)))] [] (fun fb => by kernel_rfl) rfl trivial ?_
        refine WL.store hS83 2 rfl [(3, (sv A84 t79 c85))] #[(sv A50 l52 c51), (sv A53 l55 c54), (sv A56 l58 c57), (sv A84 t79 c85)] (fun fb => by kernel_rfl) (by kernel_rfl) rfl [0, 1, 3, 4, 5, 6] (by decide) (by decide) (fun w96 hS97 => ?_)
        refine ⟨trivial, ?_⟩
        refine WL.done rfl ?_
        refine WX.blockN (WX.next ?_)
        refine WC.region ?_
        refine seg 3 [] e12 [e1, e3, e8, e13, e19] [] (fun fb => by kernel_rfl) rfl trivial ?_
        refine WL.done rfl ?_
        exact WX.again k74 (Nat.lt_succ_self _) ((l52, l55, l58, t79, w64 (x62 + 1)), A50, c51, A53, c54, A56, c57, A84, c85) e12 rfl ⟨(hS97.subR [0]).sub [2, 0, 3, 4, 5, 1] (by decide), hl77⟩
       cases hl77
      refine WC.condF2 (fun fb => by kernel_rfl) h78 ?_
      refine WC.exit ?_
      injection hl77 with hl77
      exact WX.thenX (WX.thenX (WX.blockHere (WX.to Kx72 ((l52, l55, l58, l61), A50, c51, A53, c54, A56, c57, A59, c60) [0, 3, 5, 6] rfl ⟨(hS76.subR [0]).sub e21 (by decide), hl77.symm⟩)))
    rintro ⟨y101, A63, c65, A66, c67, A68, c69, A70, c71⟩ w98 ⟨hS99, hq100⟩
    subst hq100
    refine WX.next (WC.seq (WC.region ?_))
    refine seg 1 [] e17 [e1, e3, e8, e13, (8, (iv 0))] [] (fun fb => by kernel_rfl) rfl trivial ?_
    refine WL.done rfl (WX.next ?_)
    obtain ⟨x109, hx110, hl41⟩ := bind_some hl41
    let e5 : Nat × Value := e13
    let e15 : Array Value := #[(sv A63 x72.1 c65), (sv A66 x72.2.1 c67), (sv A68 x72.2.2.1 c69), (sv A70 x72.2.2.2 c71)]
    refine WC.cutN (T := (e14 × Bool) × e11 × Nat) (fun t => [e1, (3, (sv t.2.1 t.1.1 t.2.2)), (5, (bv t.1.2))]) (fun t w1 => St NoS w w1 e9 [rowO 4 encBool t.2.1 t.2.2 t.1.1] ∧ x109 = t.1) (fun Kx109 => ?_) ?_
    ·
     refine WC.block ?_
     refine WC.loop (T := (e14 × Bool × Int) × e11 × Nat) (fun t => [e1, (3, (sv t.2.1 t.1.1 t.2.2)), (5, (bv t.1.2.1)), e5, (8, (iv t.1.2.2))]) (fun n t w1 => St NoS w w1 e9 [rowO 4 encBool t.2.1 t.2.2 t.1.1, blk g43 (.cells e15 75 (0, 0)), rowO 4 encBool A63 c65 x72.1, rowO 4 encBool A66 c67 x72.2.1, rowO 4 encBool A68 c69 x72.2.2.1, rowO 4 encBool A70 c71 x72.2.2.2] ∧ ref04_Core.l3 n t.1.1 t.1.2.1 t.1.2.2 p0 x72 = some x109) k38 ((l32, false, 0), A30, c31) e17 rfl ⟨(hS99.subR [0]).sub e21 (by decide), hx110⟩ ?_
     rintro k111 ⟨⟨l104, b105, x106⟩, A102, c103⟩ w112 ⟨hS113, hl114⟩
     let e2 : Nat × Value := (3, (sv A102 l104 c103))
     let e4 : Nat × Value := (8, (iv x106))
     let e6 : Nat × Value := (5, (bv b105))
     let e18 := (x106).toNat * 1
     let e23 := bv (rdD x72.2.2.1 x106 false)
     let e24 := bv (rdD x72.2.2.2 x106 false)
     cases k111 with
     | zero => rw [ref04_Core.l3] at hl114; cases hl114
     | succ k111 =>
      rw [ref04_Core.l3] at hl114
      refine WC.seq (WC.seq (WC.region ?_))
      refine seg 4 [] [0, 3, 5, 6, 8, 41] [e1, e2, e6, e5, e4, (41, (bv (decide (x106 < (p0.length : Int)))))] [] (fun fb => by kernel_rfl) rfl trivial ?_
      refine WL.done rfl (WX.next ?_)
      rcases br_some hl114 with ⟨h115, hl114⟩ | ⟨h115, hl114⟩
      ·refine WC.condT2 (fun fb => by kernel_rfl) h115 ?_
       refine WC.skip (WX.next (WC.seq (WC.block (WC.seq (WC.region ?_)))))
       refine seg 2 [] [0, 3, 5, 6, 8, 44, 45] [e1, e2, e6, e5, e4, (44, (sv A102 l104 c103)), (45, (iv x106))] [] (fun fb => by kernel_rfl) rfl trivial ?_
       obtain ⟨h116, hl114⟩ := as_some hl114
       refine seg 5 [.v (bv (rdD l104 x106 false))] [0, 3, 5, 6, 8, 48] [e1, e2, e6, e5, e4, (48, (bv (rdD l104 x106 false)))] [.idx A102 x106 l104.length, .cell ((adr A102).add e18) (bv (rdD l104 x106 false))] (fun fb => by kernel_rfl) rfl ⟨rowR.adr (rowO.rd (hS113.own 0).1) h116.1 h116.2, rowR.cell (rowO.rd (hS113.own 0).1) false h116.1 h116.2 0 rfl, trivial⟩ ?_
       obtain ⟨b117, hv118, hl114⟩ := bind_some hl114
       refine WL.cutV (T := Unit) 33 (fun t => [(76, (bv b117)), e1, e2, e6, e5, e4]) (fun t => True) (fun K => ?_) ?_
       ·
        rcases br_some hv118 with ⟨h119, hv118⟩ | ⟨h119, hv118⟩
        ·
         refine WL.setB 48 h119 rfl ?_
         refine seg 8 [.v (sv A63 x72.1 c65)] [0, 3, 5, 6, 8, 48, 50, 51] [e1, e2, e6, e5, e4, e7, (50, (sv A63 x72.1 c65)), (51, (iv x106))] [.cell ⟨g43, 0, none⟩ (sv A63 x72.1 c65)] (fun fb => by kernel_rfl) rfl ⟨hS113.cell 1 rfl 0 rfl, trivial⟩ ?_
         obtain ⟨h120, hv118⟩ := as_some hv118
         refine seg 11 [.v (bv (rdD x72.1 x106 false))] [0, 3, 5, 6, 8, 48, 54] [e1, e2, e6, e5, e4, e7, (54, (bv (rdD x72.1 x106 false)))] [.idx A63 x106 x72.1.length, .cell ((adr A63).add e18) (bv (rdD x72.1 x106 false))] (fun fb => by kernel_rfl) rfl ⟨rowR.adr (rowO.rd (hS113.own 2).1) h120.1 h120.2, rowR.cell (rowO.rd (hS113.own 2).1) false h120.1 h120.2 0 rfl, trivial⟩ ?_
         obtain ⟨b121, hv122, hv118⟩ := bind_some hv118
         refine WL.cutV (T := Unit) 17 (fun t => [(60, (bv b121)), e1, e2, e6, e5, e4, e7]) (fun t => True) (fun K => ?_) ?_
         ·
          rcases br_some hv122 with ⟨h123, hv122⟩ | ⟨h123, hv122⟩
          ·
           refine WL.setB 54 h123 rfl ?_
           refine seg 14 [.v (sv A66 x72.2.1 c67)] [0, 3, 5, 6, 8, 48, 54, 56, 57] [e1, e2, e6, e5, e4, e7, (54, (bv true)), (56, (sv A66 x72.2.1 c67)), (57, (iv x106))] [.cell ⟨g43, 1, none⟩ (sv A66 x72.2.1 c67)] (fun fb => by kernel_rfl) rfl ⟨hS113.cell 1 rfl 1 rfl, trivial⟩ ?_
           obtain ⟨h124, hv122⟩ := as_some hv122
           refine seg 17 [.v (bv (rdD x72.2.1 x106 false))] [0, 3, 5, 6, 8, 48, 60] [e1, e2, e6, e5, e4, e7, (60, (bv (rdD x72.2.1 x106 false)))] [.idx A66 x106 x72.2.1.length, .cell ((adr A66).add e18) (bv (rdD x72.2.1 x106 false))] (fun fb => by kernel_rfl) rfl ⟨rowR.adr (rowO.rd (hS113.own 3).1) h124.1 h124.2, rowR.cell (rowO.rd (hS113.own 3).1) false h124.1 h124.2 0 rfl, trivial⟩ ?_
           injection hv122 with hv122
           subst hv122
           exact WL.toV K () [60, 0, 3, 5, 6, 8, 48] rfl trivial
          refine WL.setB 54 h123 rfl ?_
          refine seg 17 [] [0, 3, 5, 6, 8, 48, 60] [e1, e2, e6, e5, e4, e7, (60, (bv false))] [] (fun fb => by kernel_rfl) rfl trivial ?_
          injection hv122 with hv122
          subst hv122
          exact WL.toV K () [60, 0, 3, 5, 6, 8, 48] rfl trivial
         rintro _ _
         refine seg 18 [] [0, 3, 5, 6, 8, 48, 61] [e1, e2, e6, e5, e4, e7, (61, (bv b121))] [] (fun fb => by kernel_rfl) rfl trivial ?_
         obtain ⟨b125, hv126, hv118⟩ := bind_some hv118
         refine WL.cutV (T := Unit) 24 (fun t => [(67, (bv b125)), e1, e2, e6, e5, e4, e7]) (fun t => True) (fun K => ?_) ?_
         ·
          rcases br_some hv126 with ⟨h127, hv126⟩ | ⟨h127, hv126⟩
          ·
           refine WL.setB 61 h127 rfl ?_
           refine seg 21 [.v (sv A68 x72.2.2.1 c69)] [0, 3, 5, 6, 8, 48, 61, 63, 64] [e1, e2, e6, e5, e4, e7, (61, (bv true)), (63, (sv A68 x72.2.2.1 c69)), (64, (iv x106))] [.cell ⟨g43, 2, none⟩ (sv A68 x72.2.2.1 c69)] (fun fb => by kernel_rfl) rfl ⟨hS113.cell 1 rfl 2 rfl, trivial⟩ ?_
           obtain ⟨h128, hv126⟩ := as_some hv126
           refine seg 24 [.v e23] [0, 3, 5, 6, 8, 48, 67] [e1, e2, e6, e5, e4, e7, (67, e23)] [.idx A68 x106 x72.2.2.1.length, .cell ((adr A68).add e18) e23] (fun fb => by kernel_rfl) rfl ⟨rowR.adr (rowO.rd (hS113.own 4).1) h128.1 h128.2, rowR.cell (rowO.rd (hS113.own 4).1) false h128.1 h128.2 0 rfl, trivial⟩ ?_
           injection hv126 with hv126
           subst hv126
           exact WL.toV K () [67, 0, 3, 5, 6, 8, 48] rfl trivial
          refine WL.setB 61 h127 rfl ?_
          refine seg 24 [] [0, 3, 5, 6, 8, 48, 67] [e1, e2, e6, e5, e4, e7, (67, (bv false))] [] (fun fb => by kernel_rfl) rfl trivial ?_
          injection hv126 with hv126
          subst hv126
          exact WL.toV K () [67, 0, 3, 5, 6, 8, 48] rfl trivial
         rintro _ _
         refine seg 25 [] [0, 3, 5, 6, 8, 48, 68] [e1, e2, e6, e5, e4, e7, (68, (bv b125))] [] (fun fb => by kernel_rfl) rfl trivial ?_
         obtain ⟨b129, hv130, hv118⟩ := bind_some hv118
         refine WL.cutV (T := Unit) 31 (fun t => [(74, (bv b129)), e1, e2, e6, e5, e4, e7]) (fun t => True) (fun K => ?_) ?_
         ·
          rcases br_some hv130 with ⟨h131, hv130⟩ | ⟨h131, hv130⟩
          ·
           refine WL.setB 68 h131 rfl ?_
           refine seg 28 [.v (sv A70 x72.2.2.2 c71)] [0, 3, 5, 6, 8, 48, 68, 70, 71] [e1, e2, e6, e5, e4, e7, (68, (bv true)), (70, (sv A70 x72.2.2.2 c71)), (71, (iv x106))] [.cell ⟨g43, 3, none⟩ (sv A70 x72.2.2.2 c71)] (fun fb => by kernel_rfl) rfl ⟨hS113.cell 1 rfl 3 rfl, trivial⟩ ?_
           obtain ⟨h132, hv130⟩ := as_some hv130
           refine seg 31 [.v e24] [0, 3, 5, 6, 8, 48, 74] [e1, e2, e6, e5, e4, e7, (74, e24)] [.idx A70 x106 x72.2.2.2.length, .cell ((adr A70).add e18) e24] (fun fb => by kernel_rfl) rfl ⟨rowR.adr (rowO.rd (hS113.own 5).1) h132.1 h132.2, rowR.cell (rowO.rd (hS113.own 5).1) false h132.1 h132.2 0 rfl, trivial⟩ ?_
           injection hv130 with hv130
           subst hv130
           exact WL.toV K () [74, 0, 3, 5, 6, 8, 48] rfl trivial
          refine WL.setB 68 h131 rfl ?_
          refine seg 31 [] [0, 3, 5, 6, 8, 48, 74] [e1, e2, e6, e5, e4, e7, (74, (bv false))] [] (fun fb => by kernel_rfl) rfl trivial ?_
          injection hv130 with hv130
          subst hv130
          exact WL.toV K () [74, 0, 3, 5, 6, 8, 48] rfl trivial
         rintro _ _
         refine seg 33 [] [0, 3, 5, 6, 8, 76] [e1, e2, e6, e5, e4, (76, (bv (!b129)))] [] (fun fb => by kernel_rfl) rfl trivial ?_
         injection hv118 with hv118
         subst hv118
         exact WL.toV K () [76, 0, 3, 5, 6, 8] rfl trivial
        refine WL.setB 48 h119 rfl ?_
        refine seg 33 [] [0, 3, 5, 6, 8, 76] [e1, e2, e6, e5, e4, (76, (bv false))] [] (fun fb => by kernel_rfl) rfl trivial ?_
        injection hv118 with hv118
        subst hv118
        exact WL.toV K () [76, 0, 3, 5, 6, 8] rfl trivial
       rintro _ _
       refine WL.done rfl (WX.next ?_)
       obtain ⟨x135, hx136, hl114⟩ := bind_some hl114
       refine WC.cutN (T := (e14 × Bool) × e11 × Nat) (fun t => [e1, (3, (sv t.2.1 t.1.1 t.2.2)), (5, (bv t.1.2)), e5, e4]) (fun t w1 => St NoS w w1 e9 [rowO 4 encBool t.2.1 t.2.2 t.1.1, blk g43 (.cells e15 75 (0, 0)), rowO 4 encBool A63 c65 x72.1, rowO 4 encBool A66 c67 x72.2.1, rowO 4 encBool A68 c69 x72.2.2.1, rowO 4 encBool A70 c71 x72.2.2.2] ∧ x135 = t.1) (fun Kx135 => ?_) ?_
       ·
        rcases br_some hx136 with ⟨h137, hx136⟩ | ⟨h137, hx136⟩
        ·refine WC.condT2 (fun fb => by kernel_rfl) h137 ?_
         refine WC.region ?_
         refine seg 3 [] [0, 3, 6, 8, 79] [e1, e2, e5, e4, (79, (.pointer (some ((adr A102).add e18))))] [.idx A102 x106 l104.length] (fun fb => by kernel_rfl) rfl ⟨rowR.adr (rowO.rd (hS113.own 0).1) h116.1 h116.2, trivial⟩ ?_
         refine WL.storeRow hS113 0 rfl (x106) (false) (false) [(0, (bv false))] (fun fb => by kernel_rfl) h116.1 h116.2 (by kernel_rfl) rfl [1, 2, 3, 4, 5] (by decide) (by decide) (fun w138 hS139 => ?_)
         refine ⟨trivial, ?_⟩
         refine WL.reE [0, 3, 6, 8] [(0, (.slice Aa p0.length ca)), (3, (.slice A102 l104.length c103)), (6, (pt g43)), (8, (iv x106))] [(0, (.slice Aa p0.length ca)), (3, (.slice A102 (l104.set (x106).toNat false).length c103)), (6, (pt g43)), (8, (iv x106))] rfl (by simp only [List.length_set]) ?_
         refine seg 5 [] e17 [e1, (3, (sv A102 (l104.set (x106).toNat false) c103)), (5, (bv true)), e5, e4] [] (fun fb => by kernel_rfl) rfl trivial ?_
         refine WL.done rfl ?_
         injection hx136 with hx136
         exact WX.to Kx135 ((l104.set (x106).toNat false, true), A102, c103) e17 rfl ⟨(hS139.subR [0]).sub e21 (by decide), hx136.symm⟩
        refine WC.condF2 (fun fb => by kernel_rfl) h137 ?_
        refine WC.skip ?_
        injection hx136 with hx136
        exact WX.to Kx135 ((l104, b105), A102, c103) e17 rfl ⟨(hS113.subR [0]).sub e21 (by decide), hx136.symm⟩
       rintro ⟨y143, A133, c134⟩ w140 ⟨hS141, hq142⟩
       subst hq142
       refine WX.blockN (WX.next ?_)
       refine WC.region ?_
       refine seg 3 [] e17 [e1, (3, (sv A133 x135.1 c134)), (5, (bv x135.2)), e5, (8, (iv (w64 (x106 + 1))))] [] (fun fb => by kernel_rfl) rfl trivial ?_
       refine WL.done rfl ?_
       exact WX.again k111 (Nat.lt_succ_self _) ((x135.1, x135.2, w64 (x106 + 1)), A133, c134) e17 rfl ⟨(hS141.subR [0]).sub e21 (by decide), hl114⟩
      refine WC.condF2 (fun fb => by kernel_rfl) h115 ?_
      refine WC.exit ?_
      injection hl114 with hl114
      exact WX.thenX (WX.thenX (WX.blockHere (WX.to Kx109 ((l104, b105), A102, c103) [0, 3, 5] rfl ⟨(hS113.subR [0]).sub [0] (by decide), hl114.symm⟩)))
    rintro ⟨y147, A107, c108⟩ w144 ⟨hS145, hq146⟩
    subst hq146
    exact WX.blockN (WX.again k38 (Nat.lt_succ_self _) ((x109.1, x109.2), A107, c108) [0, 3, 5] rfl ⟨(hS145.subR [0]).sub [0] (by decide), hl41⟩)
   refine WC.condF2 (fun fb => by kernel_rfl) h42 ?_
   refine WC.exit ?_
   injection hl41 with hl41
   exact WX.thenX (WX.thenX (WX.blockHere (WX.to Kx36 (l32, A30, c31) [0, 3] rfl ⟨(hS40.subR [0]).sub [0] (by decide), hl41.symm⟩)))
 rintro ⟨y151, A34, c35⟩ w148 ⟨hS149, hq150⟩
 subst hq150
 refine WX.next (WC.seq (WC.region ?_))
 refine seg 1 [] [0, 3, 9] [e1, (3, (sv A34 x36 c35)), (9, (.slice none 0 0))] [] (fun fb => by kernel_rfl) rfl trivial ?_
 refine WL.done rfl (WX.next (WC.seq (WC.seq (WC.region ?_))))
 refine seg 1 [] [0, 3, 9, 10] [e1, (3, (sv A34 x36 c35)), (9, (.slice none 0 0)), (10, (iv 0))] [] (fun fb => by kernel_rfl) rfl trivial ?_
 refine WL.done rfl (WX.next ?_)
 have hS152 := hS149.nilrow 3 encInt
 obtain ⟨x159, hx160, hf⟩ := bind_some hf
 let e10 : Nat × Value := (3, (sv A34 x36 c35))
 let e25 : List Nat := [0, 3, 9, 10]
 refine WC.cutN (T := (List Int) × e11 × Nat) (fun t => [(9, (sv t.2.1 t.1 t.2.2))]) (fun t w1 => St NoS w w1 e9 [rowO 3 encInt t.2.1 t.2.2 t.1] ∧ x159 = t.1) (fun Kx159 => ?_) ?_
 ·
  refine WC.block ?_
  refine WC.loop (T := ((List Int) × Int) × e11 × Nat) (fun t => [e1, e10, (9, (sv t.2.1 t.1.1 t.2.2)), (10, (iv t.1.2))]) (fun n t w1 => St NoS w w1 e9 [rowO 4 encBool A34 c35 x36, rowO 3 encInt t.2.1 t.2.2 t.1.1] ∧ ref04_Core.l4 n t.1.1 t.1.2 p0 x36 = some x159) k ((([] : List Int), 0), none, 0) e25 rfl ⟨(hS152.subR [0]).sub [1, 0] (by decide), hx160⟩ ?_
  rintro k161 ⟨⟨l155, x156⟩, A153, c154⟩ w162 ⟨hS163, hl164⟩
  let e22 : Nat × Value := (10, (iv x156))
  cases k161 with
  | zero => rw [ref04_Core.l4] at hl164; cases hl164
  | succ k161 =>
   rw [ref04_Core.l4] at hl164
   refine WC.seq (WC.seq (WC.region ?_))
   refine seg 4 [] [0, 3, 9, 10, 83] [e1, e10, (9, (sv A153 l155 c154)), e22, (83, (bv (decide (x156 < (p0.length : Int)))))] [] (fun fb => by kernel_rfl) rfl trivial ?_
   refine WL.done rfl (WX.next ?_)
   rcases br_some hl164 with ⟨h165, hl164⟩ | ⟨h165, hl164⟩
   ·refine WC.condT2 (fun fb => by kernel_rfl) h165 ?_
    refine WC.skip (WX.next (WC.seq (WC.block (WC.seq (WC.region ?_)))))
    refine seg 2 [] [0, 3, 9, 10, 86, 87] [e1, e10, (9, (sv A153 l155 c154)), e22, (86, (sv A34 x36 c35)), (87, (iv x156))] [] (fun fb => by kernel_rfl) rfl trivial ?_
    obtain ⟨h166, hl164⟩ := as_some hl164
    refine seg 4 [.v (bv (rdD x36 x156 false))] [0, 3, 9, 10, 89] [e1, e10, (9, (sv A153 l155 c154)), e22, (89, (bv (rdD x36 x156 false)))] [.idx A34 x156 x36.length, .cell ((adr A34).add ((x156).toNat * 1)) (bv (rdD x36 x156 false))] (fun fb => by kernel_rfl) rfl ⟨rowR.adr (rowO.rd (hS163.own 0).1) h166.1 h166.2, rowR.cell (rowO.rd (hS163.own 0).1) false h166.1 h166.2 0 rfl, trivial⟩ ?_
    refine WL.done rfl (WX.next ?_)
    obtain ⟨x169, hx170, hl164⟩ := bind_some hl164
    refine WC.cutN (T := (List Int) × e11 × Nat) (fun t => [e1, e10, (9, (sv t.2.1 t.1 t.2.2)), e22]) (fun t w1 => St NoS w w1 e9 [rowO 4 encBool A34 c35 x36, rowO 3 encInt t.2.1 t.2.2 t.1] ∧ x169 = t.1) (fun Kx169 => ?_) ?_
    ·
     rcases br_some hx170 with ⟨h171, hx170⟩ | ⟨h171, hx170⟩
     ·refine WC.condT2 (fun fb => by kernel_rfl) h171 ?_
      refine WC.region ?_
      refine seg 2 [] [0, 3, 10, 90, 91] [e1, e10, e22, (90, (sv A153 l155 c154)), (91, (iv x156))] [] (fun fb => by kernel_rfl) rfl trivial ?_
      refine WL.new hS163 92 [] (fun g => (.slice (some ⟨g, 0, none⟩) 1 1)) (.cells #[(iv x156)] 3 (0, 0)) [] (fun fb g => by kernel_rfl) trivial (fun g172 w173 hS174 => ?_)
      refine ⟨trivial, ?_⟩
      have hS175 := hS.go w173 [rowO 3 encInt (some ⟨g172, 0, none⟩) 1 [x156], rowO 4 encBool A34 c35 x36, rowO 3 encInt A153 c154 l155] (hS174.map1 0 _ (fun h => rowO.ofBlk h rfl (Nat.le_of_ble_eq_true (by kernel_rfl))) (fun _ h => by obtain ⟨_, h1, h2⟩ := h; injection h1 with h1; subst h1; exact h2) [1, 2] (by decide) (by decide))
      obtain ⟨h176, hx170⟩ := as_some hx170
      refine WL.append hS175 2 (d := 93) (tS := 25) (z := (iv 0)) (bytes := 8) (c2 := 1) rfl (fun fb => by kernel_rfl) (rowO.rd (hS175.own 0).1) (by kernel_rfl) (by kernel_rfl) rfl (by decide) h176 (by decide) [0, 1] (by decide) (by decide) (fun A177 c178 w179 hS180 => ?_)
      refine ⟨trivial, ?_⟩
      refine seg 5 [] e25 [e1, e10, (9, (sv A177 (l155 ++ [x156]) c178)), e22] [] (fun fb => by kernel_rfl) rfl trivial ?_
      refine WL.done rfl ?_
      injection hx170 with hx170
      exact WX.to Kx169 (l155 ++ [x156], A177, c178) e25 rfl ⟨(hS180.subR [0]).sub [2, 0] (by decide), hx170.symm⟩
     refine WC.condF2 (fun fb => by kernel_rfl) h171 ?_
     refine WC.skip ?_
     injection hx170 with hx170
     exact WX.to Kx169 (l155, A153, c154) e25 rfl ⟨(hS163.subR [0]).sub [0, 1] (by decide), hx170.symm⟩
    rintro ⟨y184, A167, c168⟩ w181 ⟨hS182, hq183⟩
    subst hq183
    refine WX.blockN (WX.next ?_)
    refine WC.region ?_
    refine seg 3 [] e25 [e1, e10, (9, (sv A167 x169 c168)), (10, (iv (w64 (x156 + 1))))] [] (fun fb => by kernel_rfl) rfl trivial ?_
    refine WL.done rfl ?_
    exact WX.again k161 (Nat.lt_succ_self _) ((x169, w64 (x156 + 1)), A167, c168) e25 rfl ⟨(hS182.subR [0]).sub [0, 1] (by decide), hl164⟩
   refine WC.condF2 (fun fb => by kernel_rfl) h165 ?_
   refine WC.exit ?_
   injection hl164 with hl164
   exact WX.thenX (WX.thenX (WX.blockHere (WX.to Kx159 (l155, A153, c154) [9] rfl ⟨(hS163.subR [0]).sub [1] (by decide), hl164.symm⟩)))
 rintro ⟨y188, A157, c158⟩ w185 ⟨hS186, hq187⟩
 subst hq187
 refine WX.next (WC.seq (WC.region ?_))
 refine seg 2 [] [2] [(2, (sv A157 x159 c158))] [] (fun fb => by kernel_rfl) rfl trivial ?_
 refine WL.done rfl (WX.next ?_)
 refine WC.ret ?_
 injection hf with hf
 subst hf
 exact WX.ret_ [] (sv A157 x159 c158) [] (fun fb => by kernel_rfl) trivial ⟨_, rfl, A157, c158, rfl, (hS186.sub [0] (by decide)).noR⟩
theorem ref04_Rows_calls (k : Nat) (p0 : List Tile) (Aa : Option Addr) (ca : Nat) (r : Int × Bool) (w : World) (hR0 : RO NoS w (rowR enc_Tile Aa ca p0)) (hf : ref04_Rows k p0 = some r) :
  CallsR Tryd.prog 14 #[(sv Aa p0 ca)] w (fun v w' => v = (.tuple #[(iv r.1), (bv r.2)]) ∧ Keeps NoS w w') := by
 have hS : St NoS w w [rowR enc_Tile Aa ca p0] [] := St.init (ro_cons hR0 (ro_nil _ _))
 refine enter 82 Tryd.func14 rfl Tryd.ntmps14 rfl ?_
 unfold ref04_Rows at hf
 refine WC.seq (WC.region ?_)
 refine seg 2 [] [0] [(0, (sv Aa p0 ca))] [] (fun fb => by kernel_rfl) rfl trivial ?_
 refine WL.done rfl (WX.next (WC.seq (WC.region ?_)))
 refine seg 2 [] [0, 12] [(0, (sv Aa p0 ca)), (12, (iv (p0.length : Int)))] [] (fun fb => by kernel_rfl) rfl trivial ?_
 obtain ⟨h5, hf⟩ := as_some hf
 refine WL.make hS (e := encBool) (T := 4) (tS := 74) (z := (bv false)) (bytes := 1) (d := 13) (false : Bool) (p0.length : Int) (fun fb => by kernel_rfl) (by kernel_rfl) (by kernel_rfl) rfl (by decide) h5 (by decide) (fun g6 w7 hS8 => ?_)
 refine ⟨trivial, ?_⟩
 refine seg 4 [] [0, 4] [(0, (sv Aa p0 ca)), (4, (sv (some ⟨g6, 0, none⟩) (List.replicate (p0.length : Int).toNat (false : Bool)) ((p0.length : Int).toNat)))] [] (fun fb => by kernel_rfl) rfl trivial ?_
 refine WL.done rfl (WX.next (WC.seq (WC.seq (WC.region ?_))))
 refine seg 1 [] [0, 4, 5] [(0, (sv Aa p0 ca)), (4, (sv (some ⟨g6, 0, none⟩) (List.replicate (p0.length : Int).toNat (false : Bool)) ((p0.length : Int).toNat))), (5, (iv 0))] [] (fun fb => by kernel_rfl) rfl trivial ?_
 refine WL.done rfl (WX.next ?_)
 obtain ⟨x16, hx17, hf⟩ := bind_some hf
 let e15 : Nat × Value := (0, (sv Aa p0 ca))
 refine WC.cutN (T := (List Bool) × (Option Addr) × Nat) (fun t => [e15, (4, (sv t.2.1 t.1 t.2.2))]) (fun t w1 => St NoS w w1 [rowR enc_Tile Aa ca p0] [rowO 4 encBool t.2.1 t.2.2 t.1] ∧ x16 = t.1) (fun Kx16 => ?_) ?_
 ·
  refine WC.block ?_
  refine WC.loop (T := ((List Bool) × Int) × (Option Addr) × Nat) (fun t => [e15, (4, (sv t.2.1 t.1.1 t.2.2)), (5, (iv t.1.2))]) (fun n t w1 => St NoS w w1 [rowR enc_Tile Aa ca p0] [rowO 4 encBool t.2.1 t.2.2 t.1.1] ∧ ref04_Rows.l0 n t.1.1 t.1.2 p0 = some x16) k (((List.replicate (p0.length : Int).toNat (false : Bool)), 0), (some ⟨g6, 0, none⟩), (p0.length : Int).toNat) [0, 4, 5] rfl ⟨(hS8.subR [0]).sub [0] (by decide), hx17⟩ ?_
  rintro k18 ⟨⟨l11, x12⟩, A9, c10⟩ w19 ⟨hS20, hl21⟩
  cases k18 with
  | zero => rw [ref04_Rows.l0] at hl21; cases hl21
  | succ k18 =>
   rw [ref04_Rows.l0] at hl21
   refine WC.seq (WC.seq (WC.region ?_))
   refine seg 4 [] [0, 4, 5, 17] [e15, (4, (sv A9 l11 c10)), (5, (iv x12)), (17, (bv (decide (x12 < (p0.length : Int)))))] [] (fun fb => by kernel_rfl) rfl trivial ?_
   refine WL.done rfl (WX.next ?_)
   rcases br_some hl21 with ⟨h22, hl21⟩ | ⟨h22, hl21⟩
   ·refine WC.condT2 (fun fb => by kernel_rfl) h22 ?_
    refine WC.skip (WX.next (WC.seq (WC.block (WC.region ?_))))
    refine seg 2 [] [0, 4, 5, 20, 21] [e15, (4, (sv A9 l11 c10)), (5, (iv x12)), (20, (sv A9 l11 c10)), (21, (iv x12))] [] (fun fb => by kernel_rfl) rfl trivial ?_
    obtain ⟨h23, hl21⟩ := as_some hl21
    refine seg 3 [] [0, 4, 5, 22] [e15, (4, (sv A9 l11 c10)), (5, (iv x12)), (22, (.pointer (some ((adr A9).add ((x12).toNat * 1)))))] [.idx A9 x12 l11.length] (fun fb => by kernel_rfl) rfl ⟨rowR.adr (rowO.rd (hS20.own 0).1) h23.1 h23.2, trivial⟩ ?_
    refine WL.storeRow hS20 0 rfl (x12) (true) (false) [(0, (bv true))] (fun fb => by kernel_rfl) h23.1 h23.2 (by kernel_rfl) rfl [] (by decide) (by decide) (fun w24 hS25 => ?_)
    refine ⟨trivial, ?_⟩
    refine WL.reE [0, 4, 5] [(0, (.slice Aa p0.length ca)), (4, (.slice A9 l11.length c10)), (5, (iv x12))] [(0, (.slice Aa p0.length ca)), (4, (.slice A9 (l11.set (x12).toNat true).length c10)), (5, (iv x12))] rfl (by simp only [List.length_set]) ?_
    refine WL.done rfl ?_
    refine WX.blockN (WX.next ?_)
    refine WC.region ?_
    refine seg 3 [] [0, 4, 5] [e15, (4, (sv A9 (l11.set (x12).toNat true) c10)), (5, (iv (w64 (x12 + 1))))] [] (fun fb => by kernel_rfl) rfl trivial ?_
    refine WL.done rfl ?_
    exact WX.again k18 (Nat.lt_succ_self _) ((l11.set (x12).toNat true, w64 (x12 + 1)), A9, c10) [0, 4, 5] rfl ⟨(hS25.subR [0]).sub [0] (by decide), hl21⟩
   refine WC.condF2 (fun fb => by kernel_rfl) h22 ?_
   refine WC.exit ?_
   injection hl21 with hl21
   exact WX.thenX (WX.thenX (WX.blockHere (WX.to Kx16 (l11, A9, c10) [0, 4] rfl ⟨(hS20.subR [0]).sub [0] (by decide), hl21.symm⟩)))
 rintro ⟨y29, A13, c15⟩ w26 ⟨hS27, hq28⟩
 subst hq28
 refine WX.next (WC.seq (WC.seq (WC.region ?_)))
 refine seg 1 [] [0, 4, 6] [e15, (4, (sv A13 x16 c15)), (6, (iv 0))] [] (fun fb => by kernel_rfl) rfl trivial ?_
 refine WL.done rfl (WX.next ?_)
 obtain ⟨x34, hx35, hf⟩ := bind_some hf
 let e1 := [[], [], [], [], [2, 3], [2, 3, 4], [2, 3, 4, 5], [2, 3, 4, 5, 6], [2, 3, 4, 5, 6], [2, 3, 4, 5, 6, 7, 8], [2, 3, 4, 5, 6, 7, 8, 9], [2, 3, 4, 5, 6, 7, 8, 9, 10], [2, 3, 4, 5, 6], [2, 3, 4, 5, 6], [2, 3, 4, 5, 6, 12, 13], [2, 3, 4, 5, 6, 12, 13, 14], [2, 3, 4, 5, 6, 12, 13, 14, 15], [2, 3, 4, 5, 6, 7, 8, 9, 10, 11, 12, 13, 14, 15, 16], [2, 3, 4, 5, 6, 7, 8, 9, 10, 11, 12, 13, 14, 15, 16, 17], [0, 1, 2, 3, 4, 5, 6, 7, 8, 9, 10, 11, 12, 13, 14, 15, 16, 17, 18], [0, 1, 2, 3, 4, 5, 6, 7, 8, 9, 10, 11, 12, 13, 14, 15, 16, 17, 18, 19]]
 let e3 : Nat × Value := e15
 let e7 := (p0.length : Int)
 let e10 : List Own := [rowR enc_Tile Aa ca p0]
 let e13 : List Nat := [0, 4, 6, 7, 8, 9, 10]
 let e16 : List Nat := [0, 4, 6, 7, 8, 9]
 let e17 := (List.replicate e7.toNat (false : Bool))
 let e18 := [[0, 1, 2, 3, 4, 5, 6, 7, 8, 9, 10, 11, 12, 13, 14, 15, 16, 17, 18, 19, 20]]
 let e20 : List Nat := [0, 1, 2, 3, 4, 5, 6, 7, 8, 9, 10, 11, 12, 13, 14, 15, 16, 17, 18, 19]
 let e22 := bv false
 let e25 := Option Addr
 refine WC.cutN (T := Unit) (fun t => []) (fun t w1 => St NoS w w1 e10 [] ∧ x34 = .inr t) (fun Kx34 => ?_) ?_
 ·
  refine WC.block ?_
  refine WC.loop (T := ((List Bool) × Int) × e25 × Nat) (fun t => [e3, (4, (sv t.2.1 t.1.1 t.2.2)), (6, (iv t.1.2))]) (fun n t w1 => St NoS w w1 e10 [rowO 4 encBool t.2.1 t.2.2 t.1.1] ∧ ref04_Rows.l1 n t.1.1 t.1.2 p0 = some x34) k ((x16, 0), A13, c15) [0, 4, 6] rfl ⟨(hS27.subR [0]).sub [0] (by decide), hx35⟩ ?_
  rintro k36 ⟨⟨l32, x33⟩, A30, c31⟩ w37 ⟨hS38, hl39⟩
  let e2 : Nat × Value := (4, (sv A30 l32 c31))
  let e4 : Nat × Value := (6, (iv x33))
  cases k36 with
  | zero => rw [ref04_Rows.l1] at hl39; cases hl39
  | succ k36 =>
   rw [ref04_Rows.l1] at hl39
   refine WC.seq (WC.seq (WC.region ?_))
   refine seg 4 [] [0, 4, 6, 26] [e3, e2, e4, (26, (bv (decide (x33 ≤ e7))))] [] (fun fb => by kernel_rfl) rfl trivial ?_
   refine WL.done rfl (WX.next ?_)
   rcases br_some hl39 with ⟨h40, hl39⟩ | ⟨h40, hl39⟩
   ·refine WC.condT2 (fun fb => by kernel_rfl) h40 ?_
    refine WC.skip (WX.next (WC.seq (WC.block (WC.seq (WC.region ?_)))))
    refine seg 1 [] [0, 4, 6, 7] [e3, e2, e4, (7, e22)] [] (fun fb => by kernel_rfl) rfl trivial ?_
    refine WL.done rfl (WX.next (WC.seq (WC.region ?_)))
    refine seg 2 [] [0, 4, 6, 7, 30] [e3, e2, e4, (7, e22), (30, (iv e7))] [] (fun fb => by kernel_rfl) rfl trivial ?_
    obtain ⟨h41, hl39⟩ := as_some hl39
    refine WL.make hS38 (e := encBool) (T := 4) (tS := 74) (z := e22) (bytes := 1) (d := 31) (false : Bool) e7 (fun fb => by kernel_rfl) (by kernel_rfl) (by kernel_rfl) rfl (by decide) h41 (by decide) (fun g42 w43 hS44 => ?_)
    refine ⟨trivial, ?_⟩
    refine seg 4 [] [0, 4, 6, 7, 8] [e3, e2, e4, (7, e22), (8, (sv (some ⟨g42, 0, none⟩) e17 (e7.toNat)))] [] (fun fb => by kernel_rfl) rfl trivial ?_
    refine WL.done rfl (WX.next (WC.seq (WC.seq (WC.region ?_))))
    refine seg 1 [] e16 [e3, e2, e4, (7, e22), (8, (sv (some ⟨g42, 0, none⟩) e17 (e7.toNat))), (9, (iv 0))] [] (fun fb => by kernel_rfl) rfl trivial ?_
    refine WL.done rfl (WX.next ?_)
    obtain ⟨x52, hx53, hl39⟩ := bind_some hl39
    refine WC.cutN (T := (Bool × (List Bool)) × e25 × Nat) (fun t => [e3, e4, (7, (bv t.1.1)), (8, (sv t.2.1 t.1.2 t.2.2))]) (fun t w1 => St NoS w w1 e10 [rowO 4 encBool t.2.1 t.2.2 t.1.2] ∧ x52 = t.1) (fun Kx52 => ?_) ?_
    ·
     refine WC.block ?_
     refine WC.loop (T := (Bool × (List Bool) × Int) × e25 × Nat) (fun t => [e3, e2, e4, (7, (bv t.1.1)), (8, (sv t.2.1 t.1.2.1 t.2.2)), (9, (iv t.1.2.2))]) (fun n t w1 => St NoS w w1 e10 [rowO 4 encBool A30 c31 l32, rowO 4 encBool t.2.1 t.2.2 t.1.2.1] ∧ ref04_Rows.l2 n t.1.1 t.1.2.1 t.1.2.2 p0 l32 = some x52) k36 ((false, e17, 0), (some ⟨g42, 0, none⟩), e7.toNat) e16 rfl ⟨(hS44.subR [0]).sub [1, 0] (by decide), hx53⟩ ?_
     rintro k54 ⟨⟨b45, l48, x49⟩, A46, c47⟩ w55 ⟨hS56, hl57⟩
     let e5 : Nat × Value := (9, (iv x49))
     let e11 : Nat × Value := (8, (sv A46 l48 c47))
     let e19 : Nat × Addr × Value := (11, (((adr Aa).add ((x49).toNat * 4)).add 1), (iv ((rdD p0 x49 z_Tile).E)))
     cases k54 with
     | zero => rw [ref04_Rows.l2] at hl57; cases hl57
     | succ k54 =>
      rw [ref04_Rows.l2] at hl57
      refine WC.seq (WC.seq (WC.region ?_))
      refine seg 4 [] [0, 4, 6, 7, 8, 9, 35] [e3, e2, e4, (7, (bv b45)), e11, e5, (35, (bv (decide (x49 < e7))))] [] (fun fb => by kernel_rfl) rfl trivial ?_
      refine WL.done rfl (WX.next ?_)
      rcases br_some hl57 with ⟨h58, hl57⟩ | ⟨h58, hl57⟩
      ·refine WC.condT2 (fun fb => by kernel_rfl) h58 ?_
       refine WC.skip (WX.next (WC.seq (WC.block (WC.seq (WC.region ?_)))))
       refine seg 2 [] [0, 4, 6, 8, 9, 39] [e3, e2, e4, e11, e5, (39, (bv b45))] [] (fun fb => by kernel_rfl) rfl trivial ?_
       obtain ⟨b59, hv60, hl57⟩ := bind_some hl57
       refine WL.cutV (T := Unit) 7 (fun t => [(44, (bv b59)), e3, e2, e4, e11, e5]) (fun t => True) (fun K => ?_) ?_
       ·
        rcases br_some hv60 with ⟨h61, hv60⟩ | ⟨h61, hv60⟩
        ·
         refine WL.setB 39 h61 rfl ?_
         refine seg 7 [] [0, 4, 6, 8, 9, 44] [e3, e2, e4, e11, e5, (44, (bv true))] [] (fun fb => by kernel_rfl) rfl trivial ?_
         injection hv60 with hv60
         subst hv60
         exact WL.toV K () [44, 0, 4, 6, 8, 9] rfl trivial
        refine WL.setB 39 h61 rfl ?_
        refine seg 4 [] [0, 4, 6, 8, 9, 39, 40, 41] [e3, e2, e4, e11, e5, (39, e22), (40, (sv A30 l32 c31)), (41, (iv x49))] [] (fun fb => by kernel_rfl) rfl trivial ?_
        obtain ⟨h62, hv60⟩ := as_some hv60
        refine seg 7 [.v (bv (rdD l32 x49 false))] [0, 4, 6, 8, 9, 44] [e3, e2, e4, e11, e5, (44, (bv (rdD l32 x49 false)))] [.idx A30 x49 l32.length, .cell ((adr A30).add ((x49).toNat * 1)) (bv (rdD l32 x49 false))] (fun fb => by kernel_rfl) rfl ⟨rowR.adr (rowO.rd (hS56.own 0).1) h62.1 h62.2, rowR.cell (rowO.rd (hS56.own 0).1) false h62.1 h62.2 0 rfl, trivial⟩ ?_
        injection hv60 with hv60
        subst hv60
        exact WL.toV K () [44, 0, 4, 6, 8, 9] rfl trivial
       rintro _ _
       refine seg 8 [] e16 [e3, e2, e4, (7, (bv b59)), e11, e5] [] (fun fb => by kernel_rfl) rfl trivial ?_
       refine WL.done rfl (WX.next (WC.seq (WC.region ?_)))
       refine seg 1 [] e13 [e3, e2, e4, (7, (bv b59)), e11, e5, (10, (iv 0))] [] (fun fb => by kernel_rfl) rfl trivial ?_
       refine WL.done rfl (WX.next ?_)
       obtain ⟨x70, hx71, hl57⟩ := bind_some hl57
       let e12 : Nat × Value := (7, (bv b59))
       refine WC.cutN (T := (List Bool) × e25 × Nat) (fun t => [e3, e2, e4, e12, (8, (sv t.2.1 t.1 t.2.2)), e5]) (fun t w1 => St NoS w w1 e10 [rowO 4 encBool A30 c31 l32, rowO 4 encBool t.2.1 t.2.2 t.1] ∧ x70 = t.1) (fun Kx70 => ?_) ?_
       ·
        refine WC.block ?_
        refine WC.loop (T := ((List Bool) × Int) × e25 × Nat) (fun t => [e3, e2, e4, e12, (8, (sv t.2.1 t.1.1 t.2.2)), e5, (10, (iv t.1.2))]) (fun n t w1 => St NoS w w1 e10 [rowO 4 encBool A30 c31 l32, rowO 4 encBool t.2.1 t.2.2 t.1.1] ∧ ref04_Rows.l3 n t.1.1 t.1.2 p0 l32 x49 = some x70) k54 ((l48, 0), A46, c47) e13 rfl ⟨(hS56.subR [0]).sub [0, 1] (by decide), hx71⟩ ?_
        rintro k72 ⟨⟨l66, x67⟩, A63, c65⟩ w73 ⟨hS74, hl75⟩
        let e6 : Nat × Addr × Value := (5, ((adr A30).add ((x67).toNat * 1)), (bv (rdD l32 x67 false)))
        let e8 := ((rdD p0 x49 z_Tile).E) == ((rdD p0 x67 z_Tile).W)
        let e9 : Nat × Value := (8, (sv A63 l66 c65))
        let e14 : Nat × Value := (10, (iv x67))
        let e21 : Nat × Addr × Value := (16, (((adr Aa).add ((x67).toNat * 4)).add 3), (iv ((rdD p0 x67 z_Tile).W)))
        let e23 := bv (rdD l32 x67 false)
        let e24 := (adr A63).add ((x49).toNat * 1)
        cases k72 with
        | zero => rw [ref04_Rows.l3] at hl75; cases hl75
        | succ k72 =>
         rw [ref04_Rows.l3] at hl75
         refine WC.seq (WC.seq (WC.region ?_))
         refine seg 5 [] [0, 4, 6, 7, 8, 9, 10, 49] [e3, e2, e4, e12, e9, e5, e14, (49, (bv (decide (x67 < e7))))] [] (fun fb => by kernel_rfl) rfl trivial ?_
         obtain ⟨b76, hv77, hl75⟩ := bind_some hl75
         refine WL.cutV (T := Unit) 11 (fun t => [(55, (bv b76)), e3, e2, e4, e12, e9, e5, e14]) (fun t => True) (fun K => ?_) ?_
         ·
          rcases br_some hv77 with ⟨h78, hv77⟩ | ⟨h78, hv77⟩
          ·
           refine WL.setB 49 h78 rfl ?_
           refine seg 7 [] [0, 4, 6, 7, 8, 9, 10, 49, 50, 51] [e3, e2, e4, e12, e9, e5, e14, (49, (bv true)), (50, (sv A63 l66 c65)), (51, (iv x49))] [] (fun fb => by kernel_rfl) rfl trivial ?_
           obtain ⟨h79, hv77⟩ := as_some hv77
           refine seg 11 [.v (bv (rdD l66 x49 false))] [0, 4, 6, 7, 8, 9, 10, 55] [e3, e2, e4, e12, e9, e5, e14, (55, (bv (!(rdD l66 x49 false))))] [.idx A63 x49 l66.length, .cell e24 (bv (rdD l66 x49 false))] (fun fb => by kernel_rfl) rfl ⟨rowR.adr (rowO.rd (hS74.own 1).1) h79.1 h79.2, rowR.cell (rowO.rd (hS74.own 1).1) false h79.1 h79.2 0 rfl, trivial⟩ ?_
           injection hv77 with hv77
           subst hv77
           exact WL.toV K () [55, 0, 4, 6, 7, 8, 9, 10] rfl trivial
          refine WL.setB 49 h78 rfl ?_
          refine seg 11 [] [0, 4, 6, 7, 8, 9, 10, 55] [e3, e2, e4, e12, e9, e5, e14, (55, e22)] [] (fun fb => by kernel_rfl) rfl trivial ?_
          injection hv77 with hv77
          subst hv77
          exact WL.toV K () [55, 0, 4, 6, 7, 8, 9, 10] rfl trivial
         rintro _ _
         refine WL.done rfl (WX.next ?_)
         rcases br_some hl75 with ⟨h80, hl75⟩ | ⟨h80, hl75⟩
         ·refine WC.condT2 (fun fb => by kernel_rfl) h80 ?_
          refine WC.skip (WX.next (WC.seq (WC.block ?_)))
          obtain ⟨x83, hx84, hl75⟩ := bind_some hl75
          refine WC.cutN (T := (List Bool) × e25 × Nat) (fun t => [e3, e2, e4, e12, (8, (sv t.2.1 t.1 t.2.2)), e5, e14]) (fun t w1 => St NoS w w1 e10 [rowO 4 encBool A30 c31 l32, rowO 4 encBool t.2.1 t.2.2 t.1] ∧ x83 = t.1) (fun Kx83 => ?_) ?_
          ·
           rcases br_some hx84 with ⟨h85, hx84⟩ | ⟨h85, hx84⟩
           ·
            obtain ⟨h88, hx84⟩ := as_some hx84
            obtain ⟨h89, hx84⟩ := as_some hx84
            obtain ⟨h90, hx84⟩ := as_some hx84
            obtain ⟨h91, hx84⟩ := as_some hx84
            refine WC.regionD ([e6, e19, e21], e20, e1) e18 (by kernel_rfl) (by kernel_rfl) (NoPanic.block (NoPanic.seq (NoPanic.seq (NoPanic.block (NoPanic.block (NoPanic.seq (NoPanic.seq (NoPanic.block (NoPanic.seq (NoPanic.block (NoPanic.seq (NoPanic.seq (NoPanic.block (NoPanic.seq (NoPanic.body))))))))))))))) ?_
            have hS87 := hS74.drew
            revert hS87
            generalize World.drew w73 = w86
            intro hS87
            refine ⟨⟨rowR.cell (rowO.rd (hS87.own 0).1) false h88.1 h88.2 0 rfl, rowR.cell (hS87.rd 0).1 z_Tile h89.1 h89.2 1 rfl, rowR.cell (hS87.rd 0).1 z_Tile h90.1 h90.2 3 rfl, trivial⟩, forallC ?_ (forallN)⟩
            refine segF 7 [.v e23] [0, 4, 6, 7, 8, 9, 10, 58, 59, 64] [e3, e2, e4, e12, e9, e5, e14, (58, (sv A63 l66 c65)), (59, (iv x49)), (64, e23)] [.idx A30 x67 l32.length] [0] [e6] (fun fb => by kernel_rfl) rfl ⟨rowR.adr (rowO.rd (hS87.own 0).1) h88.1 h88.2, trivial⟩ rfl ?_
            refine WL.setB 64 h85 rfl ?_
            refine segF 20 [.v (iv ((rdD p0 x49 z_Tile).E)), .v (iv ((rdD p0 x67 z_Tile).W))] [0, 4, 6, 7, 8, 9, 10, 76, 77] [e3, e2, e4, e12, e9, e5, e14, (76, (bv e8)), (77, (.pointer (some e24)))] [.idx Aa x49 p0.length, .idx Aa x67 p0.length, .idx A63 x49 l66.length] [1, 2] [e19, e21] (fun fb => by kernel_rfl) rfl ⟨rowR.adr (hS87.rd 0).1 h89.1 h89.2, rowR.adr (hS87.rd 0).1 h90.1 h90.2, rowR.adr (rowO.rd (hS87.own 1).1) h91.1 h91.2, trivial⟩ rfl ?_
            refine WL.storeRow hS87 1 rfl (x49) e8 (false) [(0, (bv e8))] (fun fb => by kernel_rfl) h91.1 h91.2 (by kernel_rfl) rfl [0] (by decide) (by decide) (fun w92 hS93 => ?_)
            refine ⟨trivial, ?_⟩
            refine WL.reE [0, 4, 6, 7, 8, 9, 10] [(0, (.slice Aa p0.length ca)), (4, (.slice A30 l32.length c31)), (6, (iv x33)), (7, (.bool b59)), (8, (.slice A63 l66.length c65)), (9, (iv x49)), (10, (iv x67))] [(0, (.slice Aa p0.length ca)), (4, (.slice A30 l32.length c31)), (6, (iv x33)), (7, (.bool b59)), (8, (.slice A63 (l66.set (x49).toNat (((rdD p0 x49 z_Tile).E) == ((rdD p0 x67 z_Tile).W))).length c65)), (9, (iv x49)), (10, (iv x67))] rfl (by simp only [List.length_set]) ?_
            refine WL.done rfl ?_
            injection hx84 with hx84
            exact WX.to Kx83 (l66.set (x49).toNat e8, A63, c65) e13 rfl ⟨(hS93.subR [0]).sub [1, 0] (by decide), hx84.symm⟩
           obtain ⟨h96, hx84⟩ := as_some hx84
           obtain ⟨h97, hx84⟩ := as_some hx84
           refine WC.regionD ([e6], e20, e1) e18 (by kernel_rfl) (by kernel_rfl) (NoPanic.block (NoPanic.seq (NoPanic.seq (NoPanic.block (NoPanic.block (NoPanic.seq (NoPanic.seq (NoPanic.block (NoPanic.seq (NoPanic.block (NoPanic.seq (NoPanic.seq (NoPanic.block (NoPanic.seq (NoPanic.body))))))))))))))) ?_
           have hS95 := hS74.drew
           revert hS95
           generalize World.drew w73 = w94
           intro hS95
           refine ⟨⟨rowR.cell (rowO.rd (hS95.own 0).1) false h96.1 h96.2 0 rfl, trivial⟩, forallC ?_ (forallN)⟩
           refine segF 7 [.v e23] [0, 4, 6, 7, 8, 9, 10, 58, 59, 64] [e3, e2, e4, e12, e9, e5, e14, (58, (sv A63 l66 c65)), (59, (iv x49)), (64, e23)] [.idx A30 x67 l32.length] [0] [e6] (fun fb => by kernel_rfl) rfl ⟨rowR.adr (rowO.rd (hS95.own 0).1) h96.1 h96.2, trivial⟩ rfl ?_
           refine WL.setB 64 h85 rfl ?_
           refine seg 20 [] [0, 4, 6, 7, 8, 9, 10, 76, 77] [e3, e2, e4, e12, e9, e5, e14, (76, e22), (77, (.pointer (some e24)))] [.idx A63 x49 l66.length] (fun fb => by kernel_rfl) rfl ⟨rowR.adr (rowO.rd (hS95.own 1).1) h97.1 h97.2, trivial⟩ ?_
           refine WL.storeRow hS95 1 rfl (x49) (false) (false) [(0, e22)] (fun fb => by kernel_rfl) h97.1 h97.2 (by kernel_rfl) rfl [0] (by decide) (by decide) (fun w98 hS99 => ?_)
           refine ⟨trivial, ?_⟩
           refine WL.reE [0, 4, 6, 7, 8, 9, 10] [(0, (.slice Aa p0.length ca)), (4, (.slice A30 l32.length c31)), (6, (iv x33)), (7, (.bool b59)), (8, (.slice A63 l66.length c65)), (9, (iv x49)), (10, (iv x67))] [(0, (.slice Aa p0.length ca)), (4, (.slice A30 l32.length c31)), (6, (iv x33)), (7, (.bool b59)), (8, (.slice A63 (l66.set (x49).toNat false).length c65)), (9, (iv x49)), (10, (iv x67))] rfl (by simp only [List.length_set]) ?_
           refine WL.done rfl ?_
           injection hx84 with hx84
           exact WX.to Kx83 (l66.set (x49).toNat false, A63, c65) e13 rfl ⟨(hS99.subR [0]).sub [1, 0] (by decide), hx84.symm⟩
          rintro ⟨y103, A81, c82⟩ w100 ⟨hS101, hq102⟩
          subst hq102
          refine WX.blockN (WX.next ?_)
          refine WC.region ?_
          refine seg 3 [] e13 [e3, e2, e4, e12, (8, (sv A81 x83 c82)), e5, (10, (iv (w64 (x67 + 1))))] [] (fun fb => by kernel_rfl) rfl trivial ?_
          refine WL.done rfl ?_
          exact WX.again k72 (Nat.lt_succ_self _) ((x83, w64 (x67 + 1)), A81, c82) e13 rfl ⟨(hS101.subR [0]).sub [0, 1] (by decide), hl75⟩
         refine WC.condF2 (fun fb => by kernel_rfl) h80 ?_
         refine WC.exit ?_
         injection hl75 with hl75
         exact WX.thenX (WX.thenX (WX.blockHere (WX.to Kx70 (l66, A63, c65) e16 rfl ⟨(hS74.subR [0]).sub [0, 1] (by decide), hl75.symm⟩)))
       rintro ⟨y107, A68, c69⟩ w104 ⟨hS105, hq106⟩
       subst hq106
       refine WX.blockN (WX.next ?_)
       refine WC.region ?_
       refine seg 3 [] e16 [e3, e2, e4, e12, (8, (sv A68 x70 c69)), (9, (iv (w64 (x49 + 1))))] [] (fun fb => by kernel_rfl) rfl trivial ?_
       refine WL.done rfl ?_
       exact WX.again k54 (Nat.lt_succ_self _) ((b59, x70, w64 (x49 + 1)), A68, c69) e16 rfl ⟨(hS105.subR [0]).sub [0, 1] (by decide), hl57⟩
      refine WC.condF2 (fun fb => by kernel_rfl) h58 ?_
      refine WC.exit ?_
      injection hl57 with hl57
      exact WX.thenX (WX.thenX (WX.blockHere (WX.to Kx52 ((b45, l48), A46, c47) [0, 6, 7, 8] rfl ⟨(hS56.subR [0]).sub [1] (by decide), hl57.symm⟩)))
    rintro ⟨y111, A50, c51⟩ w108 ⟨hS109, hq110⟩
    subst hq110
    refine WX.next (WC.seq (WC.seq (WC.region ?_)))
    refine seg 2 [] [0, 6, 8, 79] [e3, e4, (8, (sv A50 x52.2 c51)), (79, (bv (!x52.1)))] [] (fun fb => by kernel_rfl) rfl trivial ?_
    refine WL.done rfl (WX.next ?_)
    rcases br_some hl39 with ⟨h112, hl39⟩ | ⟨h112, hl39⟩
    ·refine WC.condT2 (fun fb => by kernel_rfl) h112 ?_
     refine WC.seq (WC.region ?_)
     refine seg 3 [] [2, 3] [(2, (iv x33)), (3, (bv true))] [] (fun fb => by kernel_rfl) rfl trivial ?_
     refine WL.done rfl (WX.next ?_)
     refine WC.ret ?_
     injection hl39 with hl39
     subst hl39
     injection hf with hf
     subst hf
     exact WX.thenR (WX.blockR (WX.thenR (WX.thenR (WX.blockR (WX.thenR (WX.ret_ [] (.tuple #[(iv x33), (bv true)]) [] (fun fb => by kernel_rfl) trivial ⟨_, rfl, rfl, hS109.keep⟩))))))
    refine WC.condF2 (fun fb => by kernel_rfl) h112 ?_
    refine WC.skip (WX.next (WC.region ?_))
    refine seg 2 [] [0, 4, 6] [e3, (4, (sv A50 x52.2 c51)), e4] [] (fun fb => by kernel_rfl) rfl trivial ?_
    refine WL.done rfl ?_
    refine WX.blockN (WX.next ?_)
    refine WC.region ?_
    refine seg 3 [] [0, 4, 6] [e3, (4, (sv A50 x52.2 c51)), (6, (iv (w64 (x33 + 1))))] [] (fun fb => by kernel_rfl) rfl trivial ?_
    refine WL.done rfl ?_
    exact WX.again k36 (Nat.lt_succ_self _) ((x52.2, w64 (x33 + 1)), A50, c51) [0, 4, 6] rfl ⟨(hS109.subR [0]).sub [0] (by decide), hl39⟩
   refine WC.condF2 (fun fb => by kernel_rfl) h40 ?_
   refine WC.exit ?_
   injection hl39 with hl39
   exact WX.thenX (WX.thenX (WX.blockHere (WX.to Kx34 () [] rfl ⟨(hS38.subR [0]).sub [] (by decide), hl39.symm⟩)))
 rintro y116 w113 ⟨hS114, hq115⟩
 subst hq115
 have hf := sum_inr hf
 refine WX.next (WC.seq (WC.region ?_))
 refine seg 2 [] [2, 3] [(2, (iv 0)), (3, e22)] [] (fun fb => by kernel_rfl) rfl trivial ?_
 refine WL.done rfl (WX.next ?_)
 refine WC.ret ?_
 injection hf with hf
 subst hf
 exact WX.ret_ [] (.tuple #[(iv 0), e22]) [] (fun fb => by kernel_rfl) trivial ⟨_, rfl, rfl, hS114.keep⟩
end Gp
