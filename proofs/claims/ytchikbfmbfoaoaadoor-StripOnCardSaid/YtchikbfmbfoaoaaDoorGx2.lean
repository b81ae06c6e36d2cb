/- Walks: each function of the program computes its plain function. -/
import Derived.Test.YtchikbfmbfoaoaaDoorGx1
set_option linter.unusedVariables false
set_option linter.unusedSimpArgs false
set_option maxHeartbeats 4000000
set_option maxRecDepth 8000
namespace Gp
open Go Gw Go.Proofs
theorem law04_awake_calls (k : Nat)  (mG : Glo) (r : Bool) (w : World) (hR0 : RO NoS w (gloO Tryd.prog 2 5 0 1 mG)) (hf : law04_awake k = some r) :
  CallsR Tryd.prog 9 #[] w (fun v w' => v = (bv r) ∧ Keeps NoS w w') := by
 have hS : St NoS w w [gloO Tryd.prog 2 5 0 1 mG] [] := St.init (ro_cons hR0 (ro_nil _ _))
 refine enter 92 Tryd.func9 rfl Tryd.ntmps9 rfl ?_
 unfold law04_awake at hf
 refine WC.seq (WC.region ?_)
 refine seg 1 [] [] [] [] (fun fb => by kernel_rfl) rfl trivial ?_
 refine WL.done rfl (WX.next (WC.seq (WC.region ?_)))
 obtain ⟨t3, ht5, hf⟩ := bind_some hf
 refine WL.call (some 17) 29 #[(.string (⟨#[48, 46, 49, 46, 48, 46, 48, 32, 48, 46, 50, 46, 48, 46, 49]⟩ : ByteArray))] (fun fb => by kernel_rfl) (tile_Parse_calls _ (⟨#[48, 46, 49, 46, 48, 46, 48, 32, 48, 46, 50, 46, 48, 46, 49]⟩ : ByteArray) mG t3 _ (hS.rd 0) ht5) (fun v w6 hR7 => ?_)
 obtain ⟨A10, c11, rfl, hk_⟩ := hR7
 have hS8 := hS.go w6 [rowO 53 enc_Tile A10 c11 t3.1] (hS.call hk_ [] [] (fun g hg => hg.elim) (by simp) (by decide))
 refine ⟨trivial, ?_⟩
 refine seg 6 [] [1] [(1, (sv A10 t3.1 c11))] [] (fun fb => by kernel_rfl) rfl trivial ?_
 refine WL.done rfl (WX.next (WC.seq (WC.region ?_)))
 obtain ⟨t12, ht13, hf⟩ := bind_some hf
 refine WL.call (some 21) 29 #[(.string (⟨#[48, 46, 49, 46, 49, 46, 48, 32, 49, 46, 48, 46, 48, 46, 49]⟩ : ByteArray))] (fun fb => by kernel_rfl) (tile_Parse_calls _ (⟨#[48, 46, 49, 46, 49, 46, 48, 32, 49, 46, 48, 46, 48, 46, 49]⟩ : ByteArray) mG t12 _ (hS8.rd 0) ht13) (fun v w14 hR15 => ?_)
 obtain ⟨A17, c18, rfl, hk_⟩ := hR15
 have hS16 := hS8.go w14 [rowO 53 enc_Tile A17 c18 t12.1, rowO 53 enc_Tile A10 c11 t3.1] (hS8.call hk_ [] [0] (fun g hg => hg.elim) (by simp) (by decide))
 refine ⟨trivial, ?_⟩
 refine seg 6 [] [1, 3] [(1, (sv A10 t3.1 c11)), (3, (sv A17 t12.1 c18))] [] (fun fb => by kernel_rfl) rfl trivial ?_
 refine WL.done rfl (WX.next (WC.seq (WC.region ?_)))
 refine seg 1 [] [1, 3, 25] [(1, (sv A10 t3.1 c11)), (3, (sv A17 t12.1 c18)), (25, (sv A10 t3.1 c11))] [] (fun fb => by kernel_rfl) rfl trivial ?_
 obtain ⟨t19, ht20, hf⟩ := bind_some hf
 refine WL.call (some 26) 11 #[(sv A10 t3.1 c11)] (fun fb => by kernel_rfl) (strip_Rows_calls _ t3.1 A10 c11 t19 _ (hS16.ow 1).ofO ht20) (fun v w21 hR22 => ?_)
 obtain ⟨rfl, hk_⟩ := hR22
 have hS23 := hS16.keepN hk_
 refine ⟨trivial, ?_⟩
 refine seg 7 [] [1, 3, 5, 6] [(1, (sv A10 t3.1 c11)), (3, (sv A17 t12.1 c18)), (5, (iv t19.1)), (6, (iv t19.2))] [] (fun fb => by kernel_rfl) rfl trivial ?_
 refine WL.done rfl (WX.next (WC.seq (WC.region ?_)))
 refine seg 1 [] [3, 5, 6, 30] [(3, (sv A17 t12.1 c18)), (5, (iv t19.1)), (6, (iv t19.2)), (30, (sv A10 t3.1 c11))] [] (fun fb => by kernel_rfl) rfl trivial ?_
 obtain ⟨t24, ht25, hf⟩ := bind_some hf
 refine WL.call (some 31) 10 #[(sv A10 t3.1 c11)] (fun fb => by kernel_rfl) (strip_Core_calls _ t3.1 A10 c11 t24 _ (hS23.ow 1).ofO ht25) (fun v w26 hR27 => ?_)
 obtain ⟨A29, c30, rfl, hk_⟩ := hR27
 have hS28 := hS16.go w26 [rowO 3 encInt A29 c30 t24.1, rowO 53 enc_Tile A17 c18 t12.1, rowO 53 enc_Tile A10 c11 t3.1] (hS23.call hk_ [] [0, 1] (fun g hg => hg.elim) (by simp) (by decide))
 refine ⟨trivial, ?_⟩
 refine seg 7 [] [3, 5, 6, 7, 8] [(3, (sv A17 t12.1 c18)), (5, (iv t19.1)), (6, (iv t19.2)), (7, (sv A29 t24.1 c30)), (8, (iv t24.2))] [] (fun fb => by kernel_rfl) rfl trivial ?_
 refine WL.done rfl (WX.next (WC.seq (WC.region ?_)))
 refine seg 2 [] [3, 5, 6, 7, 8, 35, 36] [(3, (sv A17 t12.1 c18)), (5, (iv t19.1)), (6, (iv t19.2)), (7, (sv A29 t24.1 c30)), (8, (iv t24.2)), (35, (sv A17 t12.1 c18)), (36, (sv A17 t12.1 c18))] [] (fun fb => by kernel_rfl) rfl trivial ?_
 obtain ⟨t31, ht32, hf⟩ := bind_some hf
 refine WL.call (some 37) 15 #[(sv A17 t12.1 c18), (sv A17 t12.1 c18)] (fun fb => by kernel_rfl) (strip_On_calls _ t12.1 t12.1 A17 c18 A17 c18 t31 _ (hS28.ow 1).ofO (hS28.ow 1).ofO ht32) (fun v w33 hR34 => ?_)
 obtain ⟨A36, c37, A38, c39, rfl, hk_⟩ := hR34
 have hS35 := hS28.go w33 [rowO 53 enc_Tile A36 c37 t31.1, rowO 78 enc_A2_Int A38 c39 t31.2.1, rowO 3 encInt A29 c30 t24.1, rowO 53 enc_Tile A17 c18 t12.1, rowO 53 enc_Tile A10 c11 t3.1] (hS28.call hk_ [] [0, 1, 2] (fun g hg => hg.elim) (by simp) (by decide))
 refine ⟨trivial, ?_⟩
 refine seg 10 [] [3, 5, 6, 7, 8, 9, 10, 11] [(3, (sv A17 t12.1 c18)), (5, (iv t19.1)), (6, (iv t19.2)), (7, (sv A29 t24.1 c30)), (8, (iv t24.2)), (9, (sv A36 t31.1 c37)), (10, (sv A38 t31.2.1 c39)), (11, (iv t31.2.2))] [] (fun fb => by kernel_rfl) rfl trivial ?_
 refine WL.done rfl (WX.next (WC.seq (WC.region ?_)))
 refine seg 1 [] [3, 5, 6, 7, 8, 10, 11, 42] [(3, (sv A17 t12.1 c18)), (5, (iv t19.1)), (6, (iv t19.2)), (7, (sv A29 t24.1 c30)), (8, (iv t24.2)), (10, (sv A38 t31.2.1 c39)), (11, (iv t31.2.2)), (42, (sv A36 t31.1 c37))] [] (fun fb => by kernel_rfl) rfl trivial ?_
 obtain ⟨t40, ht41, hf⟩ := bind_some hf
 refine WL.call (some 43) 30 #[(sv A36 t31.1 c37)] (fun fb => by kernel_rfl) (tile_Text_calls _ t31.1 A36 c37 mG t40 _ (hS35.ow 0).ofO (hS35.rd 0) ht41) (fun v w42 hR43 => ?_)
 obtain ⟨rfl, hk_⟩ := hR43
 have hS44 := hS35.keepN hk_
 refine ⟨trivial, ?_⟩
 refine seg 7 [] [3, 5, 6, 7, 8, 10, 11, 12, 13] [(3, (sv A17 t12.1 c18)), (5, (iv t19.1)), (6, (iv t19.2)), (7, (sv A29 t24.1 c30)), (8, (iv t24.2)), (10, (sv A38 t31.2.1 c39)), (11, (iv t31.2.2)), (12, (.string t40.1)), (13, (iv t40.2))] [] (fun fb => by kernel_rfl) rfl trivial ?_
 refine WL.done rfl (WX.next (WC.seq (WC.region ?_)))
 refine seg 1 [] [5, 6, 7, 8, 10, 11, 12, 13, 47] [(5, (iv t19.1)), (6, (iv t19.2)), (7, (sv A29 t24.1 c30)), (8, (iv t24.2)), (10, (sv A38 t31.2.1 c39)), (11, (iv t31.2.2)), (12, (.string t40.1)), (13, (iv t40.2)), (47, (sv A17 t12.1 c18))] [] (fun fb => by kernel_rfl) rfl trivial ?_
 obtain ⟨t45, ht46, hf⟩ := bind_some hf
 refine WL.call (some 48) 19 #[(sv A17 t12.1 c18), (iv 0), (iv 1), (iv 3)] (fun fb => by kernel_rfl) (strip_Path_calls _ t12.1 0 1 3 A17 c18 t45 _ (hS44.ow 3).ofO ht46) (fun v w47 hR48 => ?_)
 obtain ⟨A50, c51, rfl, hk_⟩ := hR48
 have hS49 := hS35.go w47 [rowO 3 encInt A50 c51 t45.1, rowO 53 enc_Tile A36 c37 t31.1, rowO 78 enc_A2_Int A38 c39 t31.2.1, rowO 3 encInt A29 c30 t24.1, rowO 53 enc_Tile A17 c18 t12.1, rowO 53 enc_Tile A10 c11 t3.1] (hS44.call hk_ [] [0, 1, 2, 3, 4] (fun g hg => hg.elim) (by simp) (by decide))
 refine ⟨trivial, ?_⟩
 refine seg 7 [] [5, 6, 7, 8, 10, 11, 12, 13, 14, 15] [(5, (iv t19.1)), (6, (iv t19.2)), (7, (sv A29 t24.1 c30)), (8, (iv t24.2)), (10, (sv A38 t31.2.1 c39)), (11, (iv t31.2.2)), (12, (.string t40.1)), (13, (iv t40.2)), (14, (sv A50 t45.1 c51)), (15, (iv t45.2))] [] (fun fb => by kernel_rfl) rfl trivial ?_
 refine WL.done rfl (WX.next (WC.seq (WC.region ?_)))
 refine seg 3 [] [5, 7, 8, 10, 11, 12, 13, 14, 15, 53] [(5, (iv t19.1)), (7, (sv A29 t24.1 c30)), (8, (iv t24.2)), (10, (sv A38 t31.2.1 c39)), (11, (iv t31.2.2)), (12, (.string t40.1)), (13, (iv t40.2)), (14, (sv A50 t45.1 c51)), (15, (iv t45.2)), (53, (bv (t19.2 == 0)))] [] (fun fb => by kernel_rfl) rfl trivial ?_
 refine WL.cutV (T := Bool) 6 (fun t => [(56, (bv t)), (5, (iv t19.1)), (7, (sv A29 t24.1 c30)), (10, (sv A38 t31.2.1 c39)), (11, (iv t31.2.2)), (12, (.string t40.1)), (13, (iv t40.2)), (14, (sv A50 t45.1 c51)), (15, (iv t45.2))]) (fun t => ((t19.2 == 0) && (t24.2 == 0)) = t) (fun K => ?_) ?_
 ·
  rcases Bool.eq_false_or_eq_true (t19.2 == 0) with h52 | h52
  ·
   refine WL.setB 53 h52 rfl ?_
   refine seg 6 [] [5, 7, 10, 11, 12, 13, 14, 15, 56] [(5, (iv t19.1)), (7, (sv A29 t24.1 c30)), (10, (sv A38 t31.2.1 c39)), (11, (iv t31.2.2)), (12, (.string t40.1)), (13, (iv t40.2)), (14, (sv A50 t45.1 c51)), (15, (iv t45.2)), (56, (bv (t24.2 == 0)))] [] (fun fb => by kernel_rfl) rfl trivial ?_
   exact WL.toV K (t24.2 == 0) [56, 5, 7, 10, 11, 12, 13, 14, 15] rfl (by first | (rw [h52]; done) | (rw [h52]; rfl))
  refine WL.setB 53 h52 rfl ?_
  refine seg 6 [] [5, 7, 10, 11, 12, 13, 14, 15, 56] [(5, (iv t19.1)), (7, (sv A29 t24.1 c30)), (10, (sv A38 t31.2.1 c39)), (11, (iv t31.2.2)), (12, (.string t40.1)), (13, (iv t40.2)), (14, (sv A50 t45.1 c51)), (15, (iv t45.2)), (56, (bv false))] [] (fun fb => by kernel_rfl) rfl trivial ?_
  exact WL.toV K false [56, 5, 7, 10, 11, 12, 13, 14, 15] rfl (by first | (rw [h52]; done) | (rw [h52]; rfl))
 rintro b53 rfl
 refine seg 7 [] [5, 7, 10, 11, 12, 13, 14, 15, 57] [(5, (iv t19.1)), (7, (sv A29 t24.1 c30)), (10, (sv A38 t31.2.1 c39)), (11, (iv t31.2.2)), (12, (.string t40.1)), (13, (iv t40.2)), (14, (sv A50 t45.1 c51)), (15, (iv t45.2)), (57, (bv ((t19.2 == 0) && (t24.2 == 0))))] [] (fun fb => by kernel_rfl) rfl trivial ?_
 refine WL.cutV (T := Bool) 10 (fun t => [(60, (bv t)), (5, (iv t19.1)), (7, (sv A29 t24.1 c30)), (10, (sv A38 t31.2.1 c39)), (12, (.string t40.1)), (13, (iv t40.2)), (14, (sv A50 t45.1 c51)), (15, (iv t45.2))]) (fun t => (((t19.2 == 0) && (t24.2 == 0)) && (t31.2.2 == 0)) = t) (fun K => ?_) ?_
 ·
  rcases Bool.eq_false_or_eq_true ((t19.2 == 0) && (t24.2 == 0)) with h54 | h54
  ·
   refine WL.setB 57 h54 rfl ?_
   refine seg 10 [] [5, 7, 10, 12, 13, 14, 15, 60] [(5, (iv t19.1)), (7, (sv A29 t24.1 c30)), (10, (sv A38 t31.2.1 c39)), (12, (.string t40.1)), (13, (iv t40.2)), (14, (sv A50 t45.1 c51)), (15, (iv t45.2)), (60, (bv (t31.2.2 == 0)))] [] (fun fb => by kernel_rfl) rfl trivial ?_
   exact WL.toV K (t31.2.2 == 0) [60, 5, 7, 10, 12, 13, 14, 15] rfl (by first | (rw [h54]; done) | (rw [h54]; rfl))
  refine WL.setB 57 h54 rfl ?_
  refine seg 10 [] [5, 7, 10, 12, 13, 14, 15, 60] [(5, (iv t19.1)), (7, (sv A29 t24.1 c30)), (10, (sv A38 t31.2.1 c39)), (12, (.string t40.1)), (13, (iv t40.2)), (14, (sv A50 t45.1 c51)), (15, (iv t45.2)), (60, (bv false))] [] (fun fb => by kernel_rfl) rfl trivial ?_
  exact WL.toV K false [60, 5, 7, 10, 12, 13, 14, 15] rfl (by first | (rw [h54]; done) | (rw [h54]; rfl))
 rintro b55 rfl
 refine seg 11 [] [5, 7, 10, 12, 13, 14, 15, 61] [(5, (iv t19.1)), (7, (sv A29 t24.1 c30)), (10, (sv A38 t31.2.1 c39)), (12, (.string t40.1)), (13, (iv t40.2)), (14, (sv A50 t45.1 c51)), (15, (iv t45.2)), (61, (bv (((t19.2 == 0) && (t24.2 == 0)) && (t31.2.2 == 0))))] [] (fun fb => by kernel_rfl) rfl trivial ?_
 refine WL.cutV (T := Bool) 14 (fun t => [(64, (bv t)), (5, (iv t19.1)), (7, (sv A29 t24.1 c30)), (10, (sv A38 t31.2.1 c39)), (12, (.string t40.1)), (14, (sv A50 t45.1 c51)), (15, (iv t45.2))]) (fun t => ((((t19.2 == 0) && (t24.2 == 0)) && (t31.2.2 == 0)) && (t40.2 == 0)) = t) (fun K => ?_) ?_
 ·
  rcases Bool.eq_false_or_eq_true (((t19.2 == 0) && (t24.2 == 0)) && (t31.2.2 == 0)) with h56 | h56
  ·
   refine WL.setB 61 h56 rfl ?_
   refine seg 14 [] [5, 7, 10, 12, 14, 15, 64] [(5, (iv t19.1)), (7, (sv A29 t24.1 c30)), (10, (sv A38 t31.2.1 c39)), (12, (.string t40.1)), (14, (sv A50 t45.1 c51)), (15, (iv t45.2)), (64, (bv (t40.2 == 0)))] [] (fun fb => by kernel_rfl) rfl trivial ?_
   exact WL.toV K (t40.2 == 0) [64, 5, 7, 10, 12, 14, 15] rfl (by first | (rw [h56]; done) | (rw [h56]; rfl))
  refine WL.setB 61 h56 rfl ?_
  refine seg 14 [] [5, 7, 10, 12, 14, 15, 64] [(5, (iv t19.1)), (7, (sv A29 t24.1 c30)), (10, (sv A38 t31.2.1 c39)), (12, (.string t40.1)), (14, (sv A50 t45.1 c51)), (15, (iv t45.2)), (64, (bv false))] [] (fun fb => by kernel_rfl) rfl trivial ?_
  exact WL.toV K false [64, 5, 7, 10, 12, 14, 15] rfl (by first | (rw [h56]; done) | (rw [h56]; rfl))
 rintro b57 rfl
 refine seg 15 [] [5, 7, 10, 12, 14, 15, 65] [(5, (iv t19.1)), (7, (sv A29 t24.1 c30)), (10, (sv A38 t31.2.1 c39)), (12, (.string t40.1)), (14, (sv A50 t45.1 c51)), (15, (iv t45.2)), (65, (bv ((((t19.2 == 0) && (t24.2 == 0)) && (t31.2.2 == 0)) && (t40.2 == 0))))] [] (fun fb => by kernel_rfl) rfl trivial ?_
 refine WL.cutV (T := Bool) 18 (fun t => [(68, (bv t)), (5, (iv t19.1)), (7, (sv A29 t24.1 c30)), (10, (sv A38 t31.2.1 c39)), (12, (.string t40.1)), (14, (sv A50 t45.1 c51))]) (fun t => (((((t19.2 == 0) && (t24.2 == 0)) && (t31.2.2 == 0)) && (t40.2 == 0)) && (t45.2 == 0)) = t) (fun K => ?_) ?_
 ·
  rcases Bool.eq_false_or_eq_true ((((t19.2 == 0) && (t24.2 == 0)) && (t31.2.2 == 0)) && (t40.2 == 0)) with h58 | h58
  ·
   refine WL.setB 65 h58 rfl ?_
   refine seg 18 [] [5, 7, 10, 12, 14, 68] [(5, (iv t19.1)), (7, (sv A29 t24.1 c30)), (10, (sv A38 t31.2.1 c39)), (12, (.string t40.1)), (14, (sv A50 t45.1 c51)), (68, (bv (t45.2 == 0)))] [] (fun fb => by kernel_rfl) rfl trivial ?_
   exact WL.toV K (t45.2 == 0) [68, 5, 7, 10, 12, 14] rfl (by first | (rw [h58]; done) | (rw [h58]; rfl))
  refine WL.setB 65 h58 rfl ?_
  refine seg 18 [] [5, 7, 10, 12, 14, 68] [(5, (iv t19.1)), (7, (sv A29 t24.1 c30)), (10, (sv A38 t31.2.1 c39)), (12, (.string t40.1)), (14, (sv A50 t45.1 c51)), (68, (bv false))] [] (fun fb => by kernel_rfl) rfl trivial ?_
  exact WL.toV K false [68, 5, 7, 10, 12, 14] rfl (by first | (rw [h58]; done) | (rw [h58]; rfl))
 rintro b59 rfl
 refine seg 19 [] [5, 7, 10, 12, 14, 69] [(5, (iv t19.1)), (7, (sv A29 t24.1 c30)), (10, (sv A38 t31.2.1 c39)), (12, (.string t40.1)), (14, (sv A50 t45.1 c51)), (69, (bv (((((t19.2 == 0) && (t24.2 == 0)) && (t31.2.2 == 0)) && (t40.2 == 0)) && (t45.2 == 0))))] [] (fun fb => by kernel_rfl) rfl trivial ?_
 refine WL.cutV (T := Bool) 22 (fun t => [(72, (bv t)), (7, (sv A29 t24.1 c30)), (10, (sv A38 t31.2.1 c39)), (12, (.string t40.1)), (14, (sv A50 t45.1 c51))]) (fun t => ((((((t19.2 == 0) && (t24.2 == 0)) && (t31.2.2 == 0)) && (t40.2 == 0)) && (t45.2 == 0)) && (t19.1 == 2)) = t) (fun K => ?_) ?_
 ·
  rcases Bool.eq_false_or_eq_true (((((t19.2 == 0) && (t24.2 == 0)) && (t31.2.2 == 0)) && (t40.2 == 0)) && (t45.2 == 0)) with h60 | h60
  ·
   refine WL.setB 69 h60 rfl ?_
   refine seg 22 [] [7, 10, 12, 14, 72] [(7, (sv A29 t24.1 c30)), (10, (sv A38 t31.2.1 c39)), (12, (.string t40.1)), (14, (sv A50 t45.1 c51)), (72, (bv (t19.1 == 2)))] [] (fun fb => by kernel_rfl) rfl trivial ?_
   exact WL.toV K (t19.1 == 2) [72, 7, 10, 12, 14] rfl (by first | (rw [h60]; done) | (rw [h60]; rfl))
  refine WL.setB 69 h60 rfl ?_
  refine seg 22 [] [7, 10, 12, 14, 72] [(7, (sv A29 t24.1 c30)), (10, (sv A38 t31.2.1 c39)), (12, (.string t40.1)), (14, (sv A50 t45.1 c51)), (72, (bv false))] [] (fun fb => by kernel_rfl) rfl trivial ?_
  exact WL.toV K false [72, 7, 10, 12, 14] rfl (by first | (rw [h60]; done) | (rw [h60]; rfl))
 rintro b61 rfl
 refine seg 23 [] [7, 10, 12, 14, 73] [(7, (sv A29 t24.1 c30)), (10, (sv A38 t31.2.1 c39)), (12, (.string t40.1)), (14, (sv A50 t45.1 c51)), (73, (bv ((((((t19.2 == 0) && (t24.2 == 0)) && (t31.2.2 == 0)) && (t40.2 == 0)) && (t45.2 == 0)) && (t19.1 == 2))))] [] (fun fb => by kernel_rfl) rfl trivial ?_
 refine WL.cutV (T := Bool) 27 (fun t => [(77, (bv t)), (10, (sv A38 t31.2.1 c39)), (12, (.string t40.1)), (14, (sv A50 t45.1 c51))]) (fun t => (((((((t19.2 == 0) && (t24.2 == 0)) && (t31.2.2 == 0)) && (t40.2 == 0)) && (t45.2 == 0)) && (t19.1 == 2)) && ((t24.1.length : Int) == 0)) = t) (fun K => ?_) ?_
 ·
  rcases Bool.eq_false_or_eq_true ((((((t19.2 == 0) && (t24.2 == 0)) && (t31.2.2 == 0)) && (t40.2 == 0)) && (t45.2 == 0)) && (t19.1 == 2)) with h62 | h62
  ·
   refine WL.setB 73 h62 rfl ?_
   refine seg 27 [] [10, 12, 14, 77] [(10, (sv A38 t31.2.1 c39)), (12, (.string t40.1)), (14, (sv A50 t45.1 c51)), (77, (bv ((t24.1.length : Int) == 0)))] [] (fun fb => by kernel_rfl) rfl trivial ?_
   exact WL.toV K ((t24.1.length : Int) == 0) [77, 10, 12, 14] rfl (by first | (rw [h62]; done) | (rw [h62]; rfl))
  refine WL.setB 73 h62 rfl ?_
  refine seg 27 [] [10, 12, 14, 77] [(10, (sv A38 t31.2.1 c39)), (12, (.string t40.1)), (14, (sv A50 t45.1 c51)), (77, (bv false))] [] (fun fb => by kernel_rfl) rfl trivial ?_
  exact WL.toV K false [77, 10, 12, 14] rfl (by first | (rw [h62]; done) | (rw [h62]; rfl))
 rintro b63 rfl
 refine seg 28 [] [10, 12, 14, 78] [(10, (sv A38 t31.2.1 c39)), (12, (.string t40.1)), (14, (sv A50 t45.1 c51)), (78, (bv (((((((t19.2 == 0) && (t24.2 == 0)) && (t31.2.2 == 0)) && (t40.2 == 0)) && (t45.2 == 0)) && (t19.1 == 2)) && ((t24.1.length : Int) == 0))))] [] (fun fb => by kernel_rfl) rfl trivial ?_
 refine WL.cutV (T := Bool) 32 (fun t => [(82, (bv t)), (12, (.string t40.1)), (14, (sv A50 t45.1 c51))]) (fun t => ((((((((t19.2 == 0) && (t24.2 == 0)) && (t31.2.2 == 0)) && (t40.2 == 0)) && (t45.2 == 0)) && (t19.1 == 2)) && ((t24.1.length : Int) == 0)) && ((t31.2.1.length : Int) == 2)) = t) (fun K => ?_) ?_
 ·
  rcases Bool.eq_false_or_eq_true (((((((t19.2 == 0) && (t24.2 == 0)) && (t31.2.2 == 0)) && (t40.2 == 0)) && (t45.2 == 0)) && (t19.1 == 2)) && ((t24.1.length : Int) == 0)) with h65 | h65
  ·
   refine WL.setB 78 h65 rfl ?_
   refine seg 32 [] [12, 14, 82] [(12, (.string t40.1)), (14, (sv A50 t45.1 c51)), (82, (bv ((t31.2.1.length : Int) == 2)))] [] (fun fb => by kernel_rfl) rfl trivial ?_
   exact WL.toV K ((t31.2.1.length : Int) == 2) [82, 12, 14] rfl (by first | (rw [h65]; done) | (rw [h65]; rfl))
  refine WL.setB 78 h65 rfl ?_
  refine seg 32 [] [12, 14, 82] [(12, (.string t40.1)), (14, (sv A50 t45.1 c51)), (82, (bv false))] [] (fun fb => by kernel_rfl) rfl trivial ?_
  exact WL.toV K false [82, 12, 14] rfl (by first | (rw [h65]; done) | (rw [h65]; rfl))
 rintro b66 rfl
 refine seg 33 [] [12, 14, 83] [(12, (.string t40.1)), (14, (sv A50 t45.1 c51)), (83, (bv ((((((((t19.2 == 0) && (t24.2 == 0)) && (t31.2.2 == 0)) && (t40.2 == 0)) && (t45.2 == 0)) && (t19.1 == 2)) && ((t24.1.length : Int) == 0)) && ((t31.2.1.length : Int) == 2))))] [] (fun fb => by kernel_rfl) rfl trivial ?_
 refine WL.cutV (T := Bool) 36 (fun t => [(86, (bv t)), (14, (sv A50 t45.1 c51))]) (fun t => (((((((((t19.2 == 0) && (t24.2 == 0)) && (t31.2.2 == 0)) && (t40.2 == 0)) && (t45.2 == 0)) && (t19.1 == 2)) && ((t24.1.length : Int) == 0)) && ((t31.2.1.length : Int) == 2)) && (strEq t40.1 (⟨#[49, 46, 48, 46, 49, 46, 49, 32, 48, 46, 49, 46, 48, 46, 48]⟩ : ByteArray))) = t) (fun K => ?_) ?_
 ·
  rcases Bool.eq_false_or_eq_true ((((((((t19.2 == 0) && (t24.2 == 0)) && (t31.2.2 == 0)) && (t40.2 == 0)) && (t45.2 == 0)) && (t19.1 == 2)) && ((t24.1.length : Int) == 0)) && ((t31.2.1.length : Int) == 2)) with h67 | h67
  ·
   refine WL.setB 83 h67 rfl ?_
   refine seg 34 [] [14, 83, 84] [(14, (sv A50 t45.1 c51)), (83, (bv true)), (84, (.string t40.1))] [] (fun fb => by kernel_rfl) rfl trivial ?_
   refine seg 35 [] [14, 83, 85] [(14, (sv A50 t45.1 c51)), (83, (bv true)), (85, (bv (t40.1.toList == (⟨#[49, 46, 48, 46, 49, 46, 49, 32, 48, 46, 49, 46, 48, 46, 48]⟩ : ByteArray).toList)))] [] (fun fb => by kernel_rfl) rfl trivial ?_
   refine WL.setB 85 (strEq_raw t40.1 (⟨#[49, 46, 48, 46, 49, 46, 49, 32, 48, 46, 49, 46, 48, 46, 48]⟩ : ByteArray)) rfl ?_
   refine seg 36 [] [14, 86] [(14, (sv A50 t45.1 c51)), (86, (bv (strEq t40.1 (⟨#[49, 46, 48, 46, 49, 46, 49, 32, 48, 46, 49, 46, 48, 46, 48]⟩ : ByteArray))))] [] (fun fb => by kernel_rfl) rfl trivial ?_
   exact WL.toV K (strEq t40.1 (⟨#[49, 46, 48, 46, 49, 46, 49, 32, 48, 46, 49, 46, 48, 46, 48]⟩ : ByteArray)) [86, 14] rfl (by first | (rw [h67]; done) | (rw [h67]; rfl))
  refine WL.setB 83 h67 rfl ?_
  refine seg 36 [] [14, 86] [(14, (sv A50 t45.1 c51)), (86, (bv false))] [] (fun fb => by kernel_rfl) rfl trivial ?_
  exact WL.toV K false [86, 14] rfl (by first | (rw [h67]; done) | (rw [h67]; rfl))
 rintro b68 rfl
 refine seg 37 [] [14, 87] [(14, (sv A50 t45.1 c51)), (87, (bv (((((((((t19.2 == 0) && (t24.2 == 0)) && (t31.2.2 == 0)) && (t40.2 == 0)) && (t45.2 == 0)) && (t19.1 == 2)) && ((t24.1.length : Int) == 0)) && ((t31.2.1.length : Int) == 2)) && (strEq t40.1 (⟨#[49, 46, 48, 46, 49, 46, 49, 32, 48, 46, 49, 46, 48, 46, 48]⟩ : ByteArray)))))] [] (fun fb => by kernel_rfl) rfl trivial ?_
 obtain ⟨x69, hx70, hf⟩ := bind_some hf
 refine WL.cutW (T := Bool) 41 (fun t => [(91, (bv t))]) (fun t w1 => (St NoS w w1 [gloO Tryd.prog 2 5 0 1 mG] [] ∧ x69 = t) ∧ CellsOK [] w1) (fun K => ?_) ?_
 ·
  rcases br_some hx70 with ⟨h71, hx70⟩ | ⟨h71, hx70⟩
  ·
   refine WL.setB 87 h71 rfl ?_
   refine seg 38 [] [87, 88] [(87, (bv true)), (88, (sv A50 t45.1 c51))] [] (fun fb => by kernel_rfl) rfl trivial ?_
   refine WL.new hS49 89 [] (fun g => (.slice (some ⟨g, 0, none⟩) 3 3)) (.cells #[(iv 0), (iv 1), (iv 0)] 3 (0, 0)) [] (fun fb g => by kernel_rfl) trivial (fun g72 w73 hS74 => ?_)
   refine ⟨trivial, ?_⟩
   have hS75 := hS49.go w73 [rowO 3 encInt (some ⟨g72, 0, none⟩) 3 [0, 1, 0], rowO 3 encInt A50 c51 t45.1, rowO 53 enc_Tile A36 c37 t31.1, rowO 78 enc_A2_Int A38 c39 t31.2.1, rowO 3 encInt A29 c30 t24.1, rowO 53 enc_Tile A17 c18 t12.1, rowO 53 enc_Tile A10 c11 t3.1] (hS74.map1 0 _ (fun h => rowO.ofBlk h rfl (Nat.le_of_ble_eq_true (by kernel_rfl))) (fun _ h => by obtain ⟨_, h1, h2⟩ := h; injection h1 with h1; subst h1; exact h2) [1, 2, 3, 4, 5, 6] (by decide) (by decide))
   obtain ⟨t76, ht77, hx70⟩ := bind_some hx70
   refine WL.call (some 90) 12 #[(sv A50 t45.1 c51), (sv (some ⟨g72, 0, none⟩) [0, 1, 0] 3)] (fun fb => by kernel_rfl) (ref01_Same_calls _ t45.1 [0, 1, 0] A50 c51 (some ⟨g72, 0, none⟩) 3 t76 _ (hS75.ow 1).ofO (hS75.ow 0).ofO ht77) (fun v w78 hR79 => ?_)
   obtain ⟨rfl, hk_⟩ := hR79
   have hS80 := hS75.keepN hk_
   refine ⟨trivial, ?_⟩
   refine seg 41 [] [91] [(91, (bv t76))] [] (fun fb => by kernel_rfl) rfl trivial ?_
   injection hx70 with hx70
   exact WL.to K t76 [91] rfl ⟨⟨(hS80.subR [0]).sub [] (by decide), hx70.symm⟩, trivial⟩
  refine WL.setB 87 h71 rfl ?_
  refine seg 41 [] [91] [(91, (bv false))] [] (fun fb => by kernel_rfl) rfl trivial ?_
  injection hx70 with hx70
  exact WL.to K false [91] rfl ⟨⟨(hS49.subR [0]).sub [] (by decide), hx70.symm⟩, trivial⟩
 rintro y81 w83 ⟨⟨hS84, hq82⟩, hF85⟩
 subst hq82
 refine seg 42 [] [0] [(0, (bv x69))] [] (fun fb => by kernel_rfl) rfl trivial ?_
 refine WL.done rfl (WX.next ?_)
 refine WC.ret ?_
 injection hf with hf
 subst hf
 exact WX.ret_ [] (bv x69) [] (fun fb => by kernel_rfl) trivial ⟨_, rfl, rfl, hS84.keep⟩
theorem ref04_number_calls (k : Nat) (p0 : List A2_Int) (p1 : A2_Int) (Aa : Option Addr) (ca : Nat) (r : Int × (List A2_Int)) (w : World) (hI : IoOK w [rowO 78 enc_A2_Int Aa ca p0]) (hf : ref04_number k p0 p1 = some r) :
  CallsR Tryd.prog 38 #[(sv Aa p0 ca), (.agg #[(iv p1.e0), (iv p1.e1)])] w (fun v w' => ∃ (A1_ : Option Addr), ∃ (c1_ : Nat), v = (.tuple #[(iv r.1), (sv A1_ r.2 c1_)]) ∧ St (fpL [rowO 78 enc_A2_Int Aa ca p0]) w w' [] [rowO 78 enc_A2_Int A1_ c1_ r.2]) := by
 have hS : St (fpL [rowO 78 enc_A2_Int Aa ca p0]) w w [] [rowO 78 enc_A2_Int Aa ca p0] := St.initIO (ro_nil _ _) hI
 refine enter 27 Tryd.func38 rfl Tryd.ntmps38 rfl ?_
 unfold ref04_number at hf
 refine WC.seq (WC.region ?_)
 refine WL.new hS 3 [] (fun g => (pt g)) (.cells #[(iv p1.e0), (iv p1.e1)] 78 (0, 0)) [] (fun fb g => by kernel_rfl) trivial (fun g3 w5 hS6 => ?_)
 refine ⟨trivial, ?_⟩
 refine seg 3 [] [0, 3] [(0, (sv Aa p0 ca)), (3, (pt g3))] [] (fun fb => by kernel_rfl) rfl trivial ?_
 refine WL.done rfl (WX.next (WC.seq (WC.seq (WC.region ?_))))
 refine seg 1 [] [0, 3, 6] [(0, (sv Aa p0 ca)), (3, (pt g3)), (6, (iv 0))] [] (fun fb => by kernel_rfl) rfl trivial ?_
 refine WL.done rfl (WX.next ?_)
 obtain ⟨x8, hx9, hf⟩ := bind_some hf
 let e3 := sv Aa p0 ca
 refine WC.cutN (T := Unit) (fun t => [(0, e3), (3, (pt g3))]) (fun t w1 => St (fpL [rowO 78 enc_A2_Int Aa ca p0]) w w1 [] [rowO 78 enc_A2_Int Aa ca p0, blk g3 (.cells #[(iv p1.e0), (iv p1.e1)] 78 (0, 0))] ∧ x8 = .inr t) (fun Kx8 => ?_) ?_
 ·
  refine WC.block ?_
  refine WC.loop (T := Int) (fun t => [(0, e3), (3, (pt g3)), (6, (iv t))]) (fun n t w1 => St (fpL [rowO 78 enc_A2_Int Aa ca p0]) w w1 [] [rowO 78 enc_A2_Int Aa ca p0, blk g3 (.cells #[(iv p1.e0), (iv p1.e1)] 78 (0, 0))] ∧ ref04_number.l0 n t p0 p1 = some x8) k 0 [0, 3, 6] rfl ⟨(hS6.subR []).sub [1, 0] (by decide), hx9⟩ ?_
  rintro k10 x7 w11 ⟨hS12, hl13⟩
  let e2 : List (Nat × Addr × Value) := [(3, ((adr Aa).add ((x7).toNat * 2)), (iv ((rdD p0 x7 z_A2_Int).e0))), (3, (((adr Aa).add ((x7).toNat * 2)).add 1), (iv ((rdD p0 x7 z_A2_Int).e1))), (4, ⟨g3, 0, none⟩, (iv p1.e0)), (4, ⟨g3, 1, none⟩, (iv p1.e1))]
  let e4 := rdD p0 x7 z_A2_Int
  cases k10 with
  | zero => rw [ref04_number.l0] at hl13; cases hl13
  | succ k10 =>
   rw [ref04_number.l0] at hl13
   refine WC.seq (WC.seq (WC.region ?_))
   refine seg 4 [] [0, 3, 6, 10] [(0, e3), (3, (pt g3)), (6, (iv x7)), (10, (bv (decide (x7 < (p0.length : Int)))))] [] (fun fb => by kernel_rfl) rfl trivial ?_
   refine WL.done rfl (WX.next ?_)
   rcases br_some hl13 with ⟨h14, hl13⟩ | ⟨h14, hl13⟩
   ·refine WC.condT2 (fun fb => by kernel_rfl) h14 ?_
    refine WC.skip (WX.next (WC.seq (WC.block (WC.seq ?_))))
    obtain ⟨h17, hl13⟩ := as_some hl13
    refine WC.regionD (e2, [0, 1, 2, 3, 4, 5], [[], [], [0, 1], [0, 1, 2], [], [0, 1, 2, 3, 4]]) [[0, 1, 2, 3, 4, 5]] (by kernel_rfl) (by kernel_rfl) (NoPanic.seq (NoPanic.block (NoPanic.seq (NoPanic.seq (NoPanic.block (NoPanic.seq (NoPanic.body))))))) ?_
    have hS16 := hS12.drew
    revert hS16
    generalize World.drew w11 = w15
    intro hS16
    refine ⟨⟨rowR.cell (rowO.rd (hS16.own 0).1) z_A2_Int h17.1 h17.2 0 rfl, rowR.cell (rowO.rd (hS16.own 0).1) z_A2_Int h17.1 h17.2 1 rfl, hS16.cell 1 rfl 0 rfl, hS16.cell 1 rfl 1 rfl, trivial⟩, forallC ?_ (forallN)⟩
    refine segF 6 [.v (iv (e4.e0)), .v (iv (e4.e1)), .v (iv p1.e0), .v (iv p1.e1)] [0, 3, 6, 18] [(0, e3), (3, (pt g3)), (6, (iv x7)), (18, (bv ((e4.e0) == p1.e0 && ((e4.e1) == p1.e1))))] [.idx Aa x7 p0.length] [0, 1, 2, 3] e2 (fun fb => by kernel_rfl) rfl ⟨rowR.adr (rowO.rd (hS16.own 0).1) h17.1 h17.2, trivial⟩ rfl ?_
    refine WL.done rfl (WX.next ?_)
    rcases br_some hl13 with ⟨h18, hl13⟩ | ⟨h18, hl13⟩
    ·refine WC.condT2 (fun fb => by kernel_rfl) h18 ?_
     refine WC.seq (WC.region ?_)
     refine seg 4 [] [4, 5] [(4, (iv x7)), (5, e3)] [] (fun fb => by kernel_rfl) rfl trivial ?_
     refine WL.done rfl (WX.next ?_)
     refine WC.ret ?_
     injection hl13 with hl13
     subst hl13
     injection hf with hf
     subst hf
     exact WX.blockR (WX.thenR (WX.thenR (WX.blockR (WX.thenR (WX.ret_ [] (.tuple #[(iv x7), e3]) [] (fun fb => by kernel_rfl) trivial ⟨_, rfl, Aa, ca, rfl, (hS16.sub [0] (by decide)).noR⟩)))))
    refine WC.condF2 (fun fb => by kernel_rfl) h18 ?_
    refine WC.skip ?_
    refine WX.blockN (WX.next ?_)
    refine WC.region ?_
    refine seg 3 [] [0, 3, 6] [(0, e3), (3, (pt g3)), (6, (iv (w64 (x7 + 1))))] [] (fun fb => by kernel_rfl) rfl trivial ?_
    refine WL.done rfl ?_
    exact WX.again k10 (Nat.lt_succ_self _) (w64 (x7 + 1)) [0, 3, 6] rfl ⟨(hS16.subR []).sub [0, 1] (by decide), hl13⟩
   refine WC.condF2 (fun fb => by kernel_rfl) h14 ?_
   refine WC.exit ?_
   injection hl13 with hl13
   exact WX.thenX (WX.thenX (WX.blockHere (WX.to Kx8 () [0, 3] rfl ⟨(hS12.subR []).sub [0, 1] (by decide), hl13.symm⟩)))
 rintro y22 w19 ⟨hS20, hq21⟩
 subst hq21
 have hf := sum_inr hf
 refine WX.next (WC.seq (WC.region ?_))
 refine seg 4 [.v (iv p1.e0), .v (iv p1.e1)] [22, 23, 24] [(22, (iv (p0.length : Int))), (23, e3), (24, (.agg #[(iv p1.e0), (iv p1.e1)]))] [.cell ⟨g3, 0, none⟩ (iv p1.e0), .cell ⟨g3, 1, none⟩ (iv p1.e1)] (fun fb => by kernel_rfl) rfl ⟨hS20.cell 1 rfl 0 rfl, hS20.cell 1 rfl 1 rfl, trivial⟩ ?_
 refine WL.new hS20 25 [] (fun g => (.slice (some ⟨g, 0, none⟩) 1 1)) (.cells #[(iv p1.e0), (iv p1.e1)] 78 (0, 0)) [] (fun fb g => by kernel_rfl) trivial (fun g23 w24 hS25 => ?_)
 refine ⟨trivial, ?_⟩
 have hS26 := hS.go w24 [rowO 78 enc_A2_Int (some ⟨g23, 0, none⟩) 1 [p1], rowO 78 enc_A2_Int Aa ca p0, blk g3 (.cells #[(iv p1.e0), (iv p1.e1)] 78 (0, 0))] (hS25.map1 0 _ (fun h => rowO.ofBlk h rfl (Nat.le_of_ble_eq_true (by kernel_rfl))) (fun _ h => by obtain ⟨_, h1, h2⟩ := h; injection h1 with h1; subst h1; exact h2) [1, 2] (by decide) (by decide))
 obtain ⟨h27, hf⟩ := as_some hf
 refine WL.append hS26 1 (d := 26) (tS := 35) (z := (.agg #[(iv 0), (iv 0)])) (bytes := 16) (c2 := 1) rfl (fun fb => by kernel_rfl) (rowO.rd (hS26.own 0).1) (by kernel_rfl) (by kernel_rfl) rfl (by decide) h27 (by decide) [0, 2] (by decide) (by decide) (fun A28 c29 w30 hS31 => ?_)
 refine ⟨trivial, ?_⟩
 refine seg 8 [] [4, 5] [(4, (iv (p0.length : Int))), (5, (sv A28 (p0 ++ [p1]) c29))] [] (fun fb => by kernel_rfl) rfl trivial ?_
 refine WL.done rfl (WX.next ?_)
 refine WC.ret ?_
 injection hf with hf
 subst hf
 exact WX.ret_ [] (.tuple #[(iv (p0.length : Int)), (sv A28 (p0 ++ [p1]) c29)]) [] (fun fb => by kernel_rfl) trivial ⟨_, rfl, A28, c29, rfl, (hS31.sub [0] (by decide)).noR⟩
theorem ref04_On_calls (k : Nat) (p0 : List Tile) (p1 : List Tile) (Aa : Option Addr) (ca : Nat) (Ab : Option Addr) (cb : Nat) (r : (List Tile) × (List A2_Int) × Bool) (w : World) (hR0 : RO NoS w (rowR enc_Tile Aa ca p0)) (hR1 : RO NoS w (rowR enc_Tile Ab cb p1)) (hf : ref04_On k p0 p1 = some r) :
  CallsR Tryd.prog 16 #[(sv Aa p0 ca), (sv Ab p1 cb)] w (fun v w' => ∃ (A1_ : Option Addr), ∃ (c1_ : Nat), ∃ (A2_ : Option Addr), ∃ (c2_ : Nat), v = (.tuple #[(sv A1_ r.1 c1_), (sv A2_ r.2.1 c2_), (bv r.2.2)]) ∧ St NoS w w' [] [rowO 53 enc_Tile A1_ c1_ r.1, rowO 78 enc_A2_Int A2_ c2_ r.2.1]) := by
 have hS : St NoS w w [rowR enc_Tile Aa ca p0, rowR enc_Tile Ab cb p1] [] := St.init (ro_cons hR0 (ro_cons hR1 (ro_nil _ _)))
 refine enter 119 Tryd.func16 rfl Tryd.ntmps16 rfl ?_
 unfold ref04_On at hf
 refine WC.seq (WC.region ?_)
 refine seg 3 [] [0, 1] [(0, (sv Aa p0 ca)), (1, (sv Ab p1 cb))] [] (fun fb => by kernel_rfl) rfl trivial ?_
 refine WL.done rfl (WX.next (WC.seq (WC.region ?_)))
 refine seg 1 [] [0, 1, 7] [(0, (sv Aa p0 ca)), (1, (sv Ab p1 cb)), (7, (.slice none 0 0))] [] (fun fb => by kernel_rfl) rfl trivial ?_
 refine WL.done rfl (WX.next (WC.seq (WC.region ?_)))
 refine seg 2 [] [0, 1, 7, 8, 9] [(0, (sv Aa p0 ca)), (1, (sv Ab p1 cb)), (7, (.slice none 0 0)), (8, (.slice none 0 0)), (9, (.slice none 0 0))] [] (fun fb => by kernel_rfl) rfl trivial ?_
 refine WL.done rfl (WX.next (WC.seq (WC.seq (WC.region ?_))))
 refine seg 1 [] [0, 1, 7, 8, 9, 10] [(0, (sv Aa p0 ca)), (1, (sv Ab p1 cb)), (7, (.slice none 0 0)), (8, (.slice none 0 0)), (9, (.slice none 0 0)), (10, (iv 0))] [] (fun fb => by kernel_rfl) rfl trivial ?_
 refine WL.done rfl (WX.next ?_)
 have hS3 := hS.nilrow 53 enc_Tile
 have hS5 := hS3.nilrow 78 enc_A2_Int
 have hS6 := hS5.nilrow 78 enc_A2_Int
 obtain ⟨x22, hx23, hf⟩ := bind_some hf
 let e1 : Nat × Value := (0, (sv Aa p0 ca))
 let e2 : Nat × Value := (1, (sv Ab p1 cb))
 let e4 := [[], [], [], [1, 2], [1, 2, 3], [1, 2, 3, 4], [], [], [6, 7], [6, 7, 8], [6, 7, 8, 9], [1, 2, 3, 4, 5, 6, 7, 8, 9, 10], [0, 1, 2, 3, 4, 5, 6, 7, 8, 9, 10, 11], [0, 1, 2, 3, 4, 5, 6, 7, 8, 9, 10, 11, 12], [0, 1, 2, 3, 4, 5, 6, 7, 8, 9, 10, 11, 12, 13], [0, 1, 2, 3, 4, 5, 6, 7, 8, 9, 10, 11, 12, 13], [0, 1, 2, 3, 4, 5, 6, 7, 8, 9, 10, 11, 12, 13, 14], [0, 1, 2, 3, 4, 5, 6, 7, 8, 9, 10, 11, 12, 13, 14, 16], [0, 1, 2, 3, 4, 5, 6, 7, 8, 9, 10, 11, 12, 13, 14, 15, 16, 17]]
 let e8 : List Own := [rowR enc_Tile Aa ca p0, rowR enc_Tile Ab cb p1]
 let e11 : List Nat := [0, 1, 7, 8, 9, 10, 11, 12, 13, 14]
 let e17 : List Nat := [0, 1, 7, 8, 9, 10, 11]
 let e18 := [[], [0], [0, 1], [0, 1], [0, 1, 2, 3], [0, 1, 2, 3, 4], [0, 1], [0, 1, 2, 3, 4, 5, 6], [0, 1, 2, 3, 4, 5, 6, 7], [0, 1, 2, 3, 4, 5, 6, 7, 8]]
 let e19 : List Nat := [0, 1, 2, 3, 4, 5, 6, 7, 8, 9]
 let e20 := Option Addr
 let e25 := List A2_Int
 let e27 := [[0, 1, 2, 3, 4, 5, 6, 7, 8, 9, 10, 11, 12, 13, 14, 15, 16, 17, 18]]
 let e28 : List Nat := [0, 1, 2, 3, 4, 5, 6, 7, 8, 9, 10]
 let e30 : List Nat := [0, 1, 2, 3, 4, 5, 6, 7, 8, 9, 10, 11, 13, 14, 15, 16, 18]
 refine WC.cutN (T := ((List Tile) × e25) × e20 × Nat × e20 × Nat) (fun t => [(7, (sv t.2.1 t.1.1 t.2.2.1)), (8, (sv t.2.2.2.1 t.1.2 t.2.2.2.2))]) (fun t w1 => St NoS w w1 e8 [rowO 53 enc_Tile t.2.1 t.2.2.1 t.1.1, rowO 78 enc_A2_Int t.2.2.2.1 t.2.2.2.2 t.1.2] ∧ x22 = .inr t.1) (fun Kx22 => ?_) ?_
 ·
  refine WC.block ?_
  refine WC.loop (T := ((List Tile) × e25 × e25 × Int) × e20 × Nat × e20 × Nat × e20 × Nat) (fun t => [e1, e2, (7, (sv t.2.1 t.1.1 t.2.2.1)), (8, (sv t.2.2.2.1 t.1.2.1 t.2.2.2.2.1)), (9, (sv t.2.2.2.2.2.1 t.1.2.2.1 t.2.2.2.2.2.2)), (10, (iv t.1.2.2.2))]) (fun n t w1 => St NoS w w1 e8 [rowO 53 enc_Tile t.2.1 t.2.2.1 t.1.1, rowO 78 enc_A2_Int t.2.2.2.1 t.2.2.2.2.1 t.1.2.1, rowO 78 enc_A2_Int t.2.2.2.2.2.1 t.2.2.2.2.2.2 t.1.2.2.1] ∧ ref04_On.l0 n t.1.1 t.1.2.1 t.1.2.2.1 t.1.2.2.2 p0 p1 = some x22) k ((([] : List Tile), ([] : List A2_Int), ([] : List A2_Int), 0), none, 0, none, 0, none, 0) [0, 1, 7, 8, 9, 10] rfl ⟨(hS6.subR [0, 1]).sub [2, 1, 0] (by decide), hx23⟩ ?_
  rintro k24 ⟨⟨l9, l12, l15, x17⟩, A7, c8, A10, c11, A13, c14⟩ w25 ⟨hS26, hl27⟩
  let e6 : Nat × Value := (10, (iv x17))
  let e12 := (adr Aa).add ((x17).toNat * 4)
  cases k24 with
  | zero => rw [ref04_On.l0] at hl27; cases hl27
  | succ k24 =>
   rw [ref04_On.l0] at hl27
   refine WC.seq (WC.seq (WC.region ?_))
   refine seg 4 [] [0, 1, 7, 8, 9, 10, 18] [e1, e2, (7, (sv A7 l9 c8)), (8, (sv A10 l12 c11)), (9, (sv A13 l15 c14)), e6, (18, (bv (decide (x17 < (p0.length : Int)))))] [] (fun fb => by kernel_rfl) rfl trivial ?_
   refine WL.done rfl (WX.next ?_)
   rcases br_some hl27 with ⟨h28, hl27⟩ | ⟨h28, hl27⟩
   ·refine WC.condT2 (fun fb => by kernel_rfl) h28 ?_
    refine WC.skip (WX.next (WC.seq (WC.block (WC.seq (WC.region ?_)))))
    refine seg 1 [] e17 [e1, e2, (7, (sv A7 l9 c8)), (8, (sv A10 l12 c11)), (9, (sv A13 l15 c14)), e6, (11, (iv 0))] [] (fun fb => by kernel_rfl) rfl trivial ?_
    refine WL.done rfl (WX.next ?_)
    obtain ⟨x45, hx46, hl27⟩ := bind_some hl27
    refine WC.cutN (T := ((List Tile) × e25 × e25) × e20 × Nat × e20 × Nat × e20 × Nat) (fun t => [e1, e2, (7, (sv t.2.1 t.1.1 t.2.2.1)), (8, (sv t.2.2.2.1 t.1.2.1 t.2.2.2.2.1)), (9, (sv t.2.2.2.2.2.1 t.1.2.2 t.2.2.2.2.2.2)), e6]) (fun t w1 => St NoS w w1 e8 [rowO 53 enc_Tile t.2.1 t.2.2.1 t.1.1, rowO 78 enc_A2_Int t.2.2.2.1 t.2.2.2.2.1 t.1.2.1, rowO 78 enc_A2_Int t.2.2.2.2.2.1 t.2.2.2.2.2.2 t.1.2.2] ∧ x45 = .inr t.1) (fun Kx45 => ?_) ?_
    ·
     refine WC.block ?_
     refine WC.loop (T := ((List Tile) × e25 × e25 × Int) × e20 × Nat × e20 × Nat × e20 × Nat) (fun t => [e1, e2, (7, (sv t.2.1 t.1.1 t.2.2.1)), (8, (sv t.2.2.2.1 t.1.2.1 t.2.2.2.2.1)), (9, (sv t.2.2.2.2.2.1 t.1.2.2.1 t.2.2.2.2.2.2)), e6, (11, (iv t.1.2.2.2))]) (fun n t w1 => St NoS w w1 e8 [rowO 53 enc_Tile t.2.1 t.2.2.1 t.1.1, rowO 78 enc_A2_Int t.2.2.2.1 t.2.2.2.2.1 t.1.2.1, rowO 78 enc_A2_Int t.2.2.2.2.2.1 t.2.2.2.2.2.2 t.1.2.2.1] ∧ ref04_On.l1 n t.1.1 t.1.2.1 t.1.2.2.1 t.1.2.2.2 p0 p1 x17 = some x45) k24 ((l9, l12, l15, 0), A7, c8, A10, c11, A13, c14) e17 rfl ⟨(hS26.subR [0, 1]).sub [0, 1, 2] (by decide), hx46⟩ ?_
     rintro k47 ⟨⟨l31, l34, l37, x38⟩, A29, c30, A32, c33, A35, c36⟩ w48 ⟨hS49, hl50⟩
     let e5 : Nat × Value := (8, (sv A32 l34 c33))
     let e7 : Nat × Value := (7, (sv A29 l31 c30))
     let e9 : Nat × Value := (11, (iv x38))
     let e13 := (adr Ab).add ((x38).toNat * 4)
     let e22 := [(A2_Int.mk x17 x38)]
     cases k47 with
     | zero => rw [ref04_On.l1] at hl50; cases hl50
     | succ k47 =>
      rw [ref04_On.l1] at hl50
      refine WC.seq (WC.seq (WC.region ?_))
      refine seg 4 [] [0, 1, 7, 8, 9, 10, 11, 24] [e1, e2, e7, e5, (9, (sv A35 l37 c36)), e6, e9, (24, (bv (decide (x38 < (p1.length : Int)))))] [] (fun fb => by kernel_rfl) rfl trivial ?_
      refine WL.done rfl (WX.next ?_)
      rcases br_some hl50 with ⟨h51, hl50⟩ | ⟨h51, hl50⟩
      ·refine WC.condT2 (fun fb => by kernel_rfl) h51 ?_
       refine WC.skip (WX.next (WC.seq ?_))
       obtain ⟨x58, hx59, hl50⟩ := bind_some hl50
       refine WC.cutN (T := ((List Tile) × e25 × e25) × e20 × Nat × e20 × Nat × e20 × Nat) (fun t => [e1, e2, (7, (sv t.2.1 t.1.1 t.2.2.1)), (8, (sv t.2.2.2.1 t.1.2.1 t.2.2.2.2.1)), (9, (sv t.2.2.2.2.2.1 t.1.2.2 t.2.2.2.2.2.2)), e6, e9]) (fun t w1 => St NoS w w1 e8 [rowO 53 enc_Tile t.2.1 t.2.2.1 t.1.1, rowO 78 enc_A2_Int t.2.2.2.1 t.2.2.2.2.1 t.1.2.1, rowO 78 enc_A2_Int t.2.2.2.2.2.1 t.2.2.2.2.2.2 t.1.2.2] ∧ x58 = .inr t.1) (fun Kx58 => ?_) ?_
       ·
        refine WC.block (WC.seq (WC.seq ?_))
        obtain ⟨h62, hx59⟩ := as_some hx59
        obtain ⟨h63, hx59⟩ := as_some hx59
        refine WC.regionD ([(4, e12, (iv ((rdD p0 x17 z_Tile).N))), (9, (e13.add 2), (iv ((rdD p1 x38 z_Tile).S)))], e28, [[], [], [0, 1], [0, 1, 2], [0, 1, 2, 3], [], [], [5, 6], [5, 6, 7], [5, 6, 7, 8], e19]) [e28] (by kernel_rfl) (by kernel_rfl) (NoPanic.seq (NoPanic.seq (NoPanic.block (NoPanic.seq (NoPanic.seq (NoPanic.block (NoPanic.block (NoPanic.seq (NoPanic.seq (NoPanic.block (NoPanic.seq (NoPanic.body)))))))))))) ?_
        have hS61 := hS49.drew
        revert hS61
        generalize World.drew w48 = w60
        intro hS61
        refine ⟨⟨rowR.cell (hS61.rd 0).1 z_Tile h62.1 h62.2 0 rfl, rowR.cell (hS61.rd 1).1 z_Tile h63.1 h63.2 2 rfl, trivial⟩, forallC ?_ (forallN)⟩
        refine segF 11 [.v (iv ((rdD p0 x17 z_Tile).N)), .v (iv ((rdD p1 x38 z_Tile).S))] [0, 1, 7, 8, 9, 10, 11, 37] [e1, e2, e7, e5, (9, (sv A35 l37 c36)), e6, e9, (37, (bv (((rdD p0 x17 z_Tile).N) != ((rdD p1 x38 z_Tile).S))))] [.idx Aa x17 p0.length, .idx Ab x38 p1.length] [0, 1] [(4, e12, (iv ((rdD p0 x17 z_Tile).N))), (9, (e13.add 2), (iv ((rdD p1 x38 z_Tile).S)))] (fun fb => by kernel_rfl) rfl ⟨rowR.adr (hS61.rd 0).1 h62.1 h62.2, rowR.adr (hS61.rd 1).1 h63.1 h63.2, trivial⟩ rfl ?_
        refine WL.done rfl (WX.next ?_)
        rcases br_some hx59 with ⟨h65, hx59⟩ | ⟨h65, hx59⟩
        ·refine WC.condT2 (fun fb => by kernel_rfl) h65 ?_
         refine WC.exit ?_
         injection hx59 with hx59
         exact WX.thenX (WX.blockHere (WX.to Kx58 ((l31, l34, l37), A29, c30, A32, c33, A35, c36) e17 rfl ⟨(hS61.subR [0, 1]).sub [0, 1, 2] (by decide), hx59.symm⟩))
        refine WC.condF2 (fun fb => by kernel_rfl) h65 ?_
        refine WC.skip (WX.next (WC.seq ?_))
        refine WC.regionD ([(4, e13, (iv ((rdD p1 x38 z_Tile).N))), (9, (e12.add 2), (iv ((rdD p0 x17 z_Tile).S)))], e28, [[], [], [0, 1], [0, 1, 2], [0, 1, 2, 3], [], [], [5, 6], [5, 6, 7], [5, 6, 7, 8], e19, [], [0, 1, 2, 3, 4, 5, 6, 7, 8, 9, 10, 11]]) [[0, 1, 2, 3, 4, 5, 6, 7, 8, 9, 10, 11, 12]] (by kernel_rfl) (by kernel_rfl) (NoPanic.seq (NoPanic.block (NoPanic.seq (NoPanic.seq (NoPanic.block (NoPanic.block (NoPanic.seq (NoPanic.seq (NoPanic.block (NoPanic.seq (NoPanic.body))))))))))) ?_
        have hS67 := hS61.drew
        revert hS67
        generalize World.drew w60 = w66
        intro hS67
        refine ⟨⟨rowR.cell (hS67.rd 1).1 z_Tile h63.1 h63.2 0 rfl, rowR.cell (hS67.rd 0).1 z_Tile h62.1 h62.2 2 rfl, trivial⟩, forallC ?_ (forallN)⟩
        refine segF 11 [.v (iv ((rdD p1 x38 z_Tile).N)), .v (iv ((rdD p0 x17 z_Tile).S))] [0, 1, 7, 8, 9, 10, 11, 48] [e1, e2, e7, e5, (9, (sv A35 l37 c36)), e6, e9, (48, (.agg #[(iv ((rdD p1 x38 z_Tile).N)), (iv 0), (iv ((rdD p0 x17 z_Tile).S)), (iv 0)]))] [.idx Ab x38 p1.length, .idx Aa x17 p0.length] [0, 1] [(4, e13, (iv ((rdD p1 x38 z_Tile).N))), (9, (e12.add 2), (iv ((rdD p0 x17 z_Tile).S)))] (fun fb => by kernel_rfl) rfl ⟨rowR.adr (hS67.rd 1).1 h63.1 h63.2, rowR.adr (hS67.rd 0).1 h62.1 h62.2, trivial⟩ rfl ?_
        refine WL.new hS67 12 [] (fun g => (pt g)) (.cells #[(iv 0), (iv 0), (iv 0), (iv 0)] 53 (0, 0)) [] (fun fb g => by kernel_rfl) trivial (fun g68 w69 hS70 => ?_)
        refine ⟨⟨rowR.cell (hS70.rd 1).1 z_Tile h63.1 h63.2 0 rfl, rowR.cell (hS70.rd 0).1 z_Tile h62.1 h62.2 2 rfl, trivial⟩, ?_⟩
        refine WL.store hS70 0 rfl [(0, (iv ((rdD p1 x38 z_Tile).N))), (1, (iv 0)), (2, (iv ((rdD p0 x17 z_Tile).S))), (3, (iv 0))] #[(iv ((rdD p1 x38 z_Tile).N)), (iv 0), (iv ((rdD p0 x17 z_Tile).S)), (iv 0)] (fun fb => by kernel_rfl) (by kernel_rfl) rfl [1, 2, 3] (by decide) (by decide) (fun w71 hS72 => ?_)
        refine ⟨trivial, ?_⟩
        refine WL.done rfl (WX.next (WC.seq ?_))
        refine WC.regionD ([(5, (e12.add 1), (iv ((rdD p0 x17 z_Tile).E))), (10, (e13.add 1), (iv ((rdD p1 x38 z_Tile).E)))], e30, e4) e27 (by kernel_rfl) (by kernel_rfl) (NoPanic.seq (NoPanic.block (NoPanic.seq (NoPanic.seq (NoPanic.block (NoPanic.block (NoPanic.seq (NoPanic.seq (NoPanic.block (NoPanic.seq (NoPanic.body))))))))))) ?_
        have hS74 := hS72.drew
        revert hS74
        generalize World.drew w71 = w73
        intro hS74
        refine ⟨⟨rowR.cell (hS74.rd 0).1 z_Tile h62.1 h62.2 1 rfl, rowR.cell (hS74.rd 1).1 z_Tile h63.1 h63.2 1 rfl, trivial⟩, forallC ?_ (forallN)⟩
        refine segF 12 [.v (iv ((rdD p0 x17 z_Tile).E)), .v (iv ((rdD p1 x38 z_Tile).E))] [0, 1, 7, 8, 10, 11, 12, 50, 61] [e1, e2, e7, e5, e6, e9, (12, (pt g68)), (50, (sv A35 l37 c36)), (61, (.agg #[(iv ((rdD p0 x17 z_Tile).E)), (iv ((rdD p1 x38 z_Tile).E))]))] [.idx Aa x17 p0.length, .idx Ab x38 p1.length] [0, 1] [(5, (e12.add 1), (iv ((rdD p0 x17 z_Tile).E))), (10, (e13.add 1), (iv ((rdD p1 x38 z_Tile).E)))] (fun fb => by kernel_rfl) rfl ⟨rowR.adr (hS74.rd 0).1 h62.1 h62.2, rowR.adr (hS74.rd 1).1 h63.1 h63.2, trivial⟩ rfl ?_
        obtain ⟨t75, ht76, hx59⟩ := bind_some hx59
        refine WL.call (some 62) 38 #[(sv A35 l37 c36), (.agg #[(iv ((rdD p0 x17 z_Tile).E)), (iv ((rdD p1 x38 z_Tile).E))])] (fun fb => by kernel_rfl) (ref04_number_calls _ l37 (A2_Int.mk ((rdD p0 x17 z_Tile).E) ((rdD p1 x38 z_Tile).E)) A35 c36 t75 _ (hS74.io [3] (by decide)) ht76) (fun v w77 hR78 => ?_)
        obtain ⟨A80, c81, rfl, hk_⟩ := hR78
        have hS79 := hS.go w77 [rowO 78 enc_A2_Int A80 c81 t75.2, blk g68 (.cells #[(iv ((rdD p1 x38 z_Tile).N)), (iv 0), (iv ((rdD p0 x17 z_Tile).S)), (iv 0)] 53 (0, 0)), rowO 53 enc_Tile A29 c30 l31, rowO 78 enc_A2_Int A32 c33 l34] (hS74.call hk_ [3] [0, 1, 2] (fun g hg => fpL_sel g hg) (by decide) (by decide))
        refine ⟨trivial, ?_⟩
        refine seg 17 [] [0, 1, 7, 8, 10, 11, 12, 63, 64, 65] [e1, e2, e7, e5, e6, e9, (12, (pt g68)), (63, (iv t75.1)), (64, (sv A80 t75.2 c81)), (65, (.pointer (some ⟨g68, 1, none⟩)))] [] (fun fb => by kernel_rfl) rfl trivial ?_
        refine WL.store hS79 1 rfl [(1, (iv t75.1))] #[(iv ((rdD p1 x38 z_Tile).N)), (iv t75.1), (iv ((rdD p0 x17 z_Tile).S)), (iv 0)] (fun fb => by kernel_rfl) (by kernel_rfl) rfl [0, 2, 3] (by decide) (by decide) (fun w82 hS83 => ?_)
        refine ⟨trivial, ?_⟩
        refine seg 19 [] [0, 1, 7, 8, 9, 10, 11, 12] [e1, e2, e7, e5, (9, (sv A80 t75.2 c81)), e6, e9, (12, (pt g68))] [] (fun fb => by kernel_rfl) rfl trivial ?_
        refine WL.done rfl (WX.next (WC.seq ?_))
        refine WC.regionD ([(5, (e12.add 3), (iv ((rdD p0 x17 z_Tile).W))), (10, (e13.add 3), (iv ((rdD p1 x38 z_Tile).W)))], e30, e4) e27 (by kernel_rfl) (by kernel_rfl) (NoPanic.seq (NoPanic.block (NoPanic.seq (NoPanic.seq (NoPanic.block (NoPanic.block (NoPanic.seq (NoPanic.seq (NoPanic.block (NoPanic.seq (NoPanic.body))))))))))) ?_
        have hS85 := hS83.drew
        revert hS85
        generalize World.drew w82 = w84
        intro hS85
        refine ⟨⟨rowR.cell (hS85.rd 0).1 z_Tile h62.1 h62.2 3 rfl, rowR.cell (hS85.rd 1).1 z_Tile h63.1 h63.2 3 rfl, trivial⟩, forallC ?_ (forallN)⟩
        refine segF 12 [.v (iv ((rdD p0 x17 z_Tile).W)), .v (iv ((rdD p1 x38 z_Tile).W))] [0, 1, 7, 8, 10, 11, 12, 67, 78] [e1, e2, e7, e5, e6, e9, (12, (pt g68)), (67, (sv A80 t75.2 c81)), (78, (.agg #[(iv ((rdD p0 x17 z_Tile).W)), (iv ((rdD p1 x38 z_Tile).W))]))] [.idx Aa x17 p0.length, .idx Ab x38 p1.length] [0, 1] [(5, (e12.add 3), (iv ((rdD p0 x17 z_Tile).W))), (10, (e13.add 3), (iv ((rdD p1 x38 z_Tile).W)))] (fun fb => by kernel_rfl) rfl ⟨rowR.adr (hS85.rd 0).1 h62.1 h62.2, rowR.adr (hS85.rd 1).1 h63.1 h63.2, trivial⟩ rfl ?_
        obtain ⟨t86, ht87, hx59⟩ := bind_some hx59
        refine WL.call (some 79) 38 #[(sv A80 t75.2 c81), (.agg #[(iv ((rdD p0 x17 z_Tile).W)), (iv ((rdD p1 x38 z_Tile).W))])] (fun fb => by kernel_rfl) (ref04_number_calls _ t75.2 (A2_Int.mk ((rdD p0 x17 z_Tile).W) ((rdD p1 x38 z_Tile).W)) A80 c81 t86 _ (hS85.io [1] (by decide)) ht87) (fun v w88 hR89 => ?_)
        obtain ⟨A91, c92, rfl, hk_⟩ := hR89
        have hS90 := hS79.go w88 [rowO 78 enc_A2_Int A91 c92 t86.2, blk g68 (.cells #[(iv ((rdD p1 x38 z_Tile).N)), (iv t75.1), (iv ((rdD p0 x17 z_Tile).S)), (iv 0)] 53 (0, 0)), rowO 53 enc_Tile A29 c30 l31, rowO 78 enc_A2_Int A32 c33 l34] (hS85.call hk_ [1] [0, 2, 3] (fun g hg => fpL_sel g hg) (by decide) (by decide))
        refine ⟨trivial, ?_⟩
        refine seg 17 [] [0, 1, 7, 8, 10, 11, 12, 80, 81, 82] [e1, e2, e7, e5, e6, e9, (12, (pt g68)), (80, (iv t86.1)), (81, (sv A91 t86.2 c92)), (82, (.pointer (some ⟨g68, 3, none⟩)))] [] (fun fb => by kernel_rfl) rfl trivial ?_
        refine WL.store hS90 1 rfl [(3, (iv t86.1))] #[(iv ((rdD p1 x38 z_Tile).N)), (iv t75.1), (iv ((rdD p0 x17 z_Tile).S)), (iv t86.1)] (fun fb => by kernel_rfl) (by kernel_rfl) rfl [0, 2, 3] (by decide) (by decide) (fun w93 hS94 => ?_)
        refine ⟨trivial, ?_⟩
        refine seg 19 [] [0, 1, 7, 8, 9, 10, 11, 12] [e1, e2, e7, e5, (9, (sv A91 t86.2 c92)), e6, e9, (12, (pt g68))] [] (fun fb => by kernel_rfl) rfl trivial ?_
        refine WL.done rfl (WX.next (WC.seq (WC.region ?_)))
        refine seg 1 [] [0, 1, 7, 8, 9, 10, 11, 12, 13] [e1, e2, e7, e5, (9, (sv A91 t86.2 c92)), e6, e9, (12, (pt g68)), (13, (bv false))] [] (fun fb => by kernel_rfl) rfl trivial ?_
        refine WL.done rfl (WX.next (WC.seq (WC.seq (WC.region ?_))))
        refine seg 1 [] e11 [e1, e2, e7, e5, (9, (sv A91 t86.2 c92)), e6, e9, (12, (pt g68)), (13, (bv false)), (14, (iv 0))] [] (fun fb => by kernel_rfl) rfl trivial ?_
        refine WL.done rfl (WX.next ?_)
        obtain ⟨x97, hx98, hx59⟩ := bind_some hx59
        let e15 : Array Value := #[(iv ((rdD p1 x38 z_Tile).N)), (iv t75.1), (iv ((rdD p0 x17 z_Tile).S)), (iv t86.1)]
        let e16 : Nat × Value := (9, (sv A91 t86.2 c92))
        let e24 : Nat × Value := (12, (pt g68))
        refine WC.cutN (T := Bool) (fun t => [e1, e2, e7, e5, e16, e6, e9, e24, (13, (bv t))]) (fun t w1 => St NoS w w1 e8 [rowO 53 enc_Tile A29 c30 l31, rowO 78 enc_A2_Int A32 c33 l34, rowO 78 enc_A2_Int A91 c92 t86.2, blk g68 (.cells e15 53 (0, 0))] ∧ x97 = t) (fun Kx97 => ?_) ?_
        ·
         refine WC.block ?_
         refine WC.loop (T := Bool × Int) (fun t => [e1, e2, e7, e5, e16, e6, e9, e24, (13, (bv t.1)), (14, (iv t.2))]) (fun n t w1 => St NoS w w1 e8 [rowO 53 enc_Tile A29 c30 l31, rowO 78 enc_A2_Int A32 c33 l34, rowO 78 enc_A2_Int A91 c92 t86.2, blk g68 (.cells e15 53 (0, 0))] ∧ ref04_On.l2 n t.1 t.2 p0 p1 x17 l31 x38 t75 t86 = some x97) k47 (false, 0) e11 rfl ⟨(hS94.subR [0, 1]).sub [2, 3, 1, 0] (by decide), hx98⟩ ?_
         rintro k99 ⟨b95, x96⟩ w100 ⟨hS101, hl102⟩
         let e23 := (adr A29).add ((x96).toNat * 4)
         let e3 : List (Nat × Addr × Value) := [(5, e23, (iv ((rdD l31 x96 z_Tile).N))), (5, (e23.add 1), (iv ((rdD l31 x96 z_Tile).E))), (5, (e23.add 2), (iv ((rdD l31 x96 z_Tile).S))), (5, (e23.add 3), (iv ((rdD l31 x96 z_Tile).W))), (6, ⟨g68, 0, none⟩, (iv ((rdD p1 x38 z_Tile).N))), (6, ⟨g68, 1, none⟩, (iv t75.1)), (6, ⟨g68, 2, none⟩, (iv ((rdD p0 x17 z_Tile).S))), (6, ⟨g68, 3, none⟩, (iv t86.1))]
         let e14 := rdD l31 x96 z_Tile
         let e21 := (e14.N) == ((rdD p1 x38 z_Tile).N) && ((e14.E) == t75.1 && ((e14.S) == ((rdD p0 x17 z_Tile).S) && ((e14.W) == t86.1)))
         cases k99 with
         | zero => rw [ref04_On.l2] at hl102; cases hl102
         | succ k99 =>
          rw [ref04_On.l2] at hl102
          refine WC.seq (WC.seq (WC.region ?_))
          refine seg 4 [] [0, 1, 7, 8, 9, 10, 11, 12, 13, 14, 86] [e1, e2, e7, e5, e16, e6, e9, e24, (13, (bv b95)), (14, (iv x96)), (86, (bv (decide (x96 < (l31.length : Int)))))] [] (fun fb => by kernel_rfl) rfl trivial ?_
          refine WL.done rfl (WX.next ?_)
          rcases br_some hl102 with ⟨h103, hl102⟩ | ⟨h103, hl102⟩
          ·refine WC.condT2 (fun fb => by kernel_rfl) h103 ?_
           refine WC.skip (WX.next (WC.seq (WC.block ?_)))
           obtain ⟨x104, hx105, hl102⟩ := bind_some hl102
           refine WC.cutN (T := Bool) (fun t => [e1, e2, e7, e5, e16, e6, e9, e24, (13, (bv t)), (14, (iv x96))]) (fun t w1 => St NoS w w1 e8 [rowO 53 enc_Tile A29 c30 l31, rowO 78 enc_A2_Int A32 c33 l34, rowO 78 enc_A2_Int A91 c92 t86.2, blk g68 (.cells e15 53 (0, 0))] ∧ x104 = t) (fun Kx104 => ?_) ?_
           ·
            rcases br_some hx105 with ⟨h106, hx105⟩ | ⟨h106, hx105⟩
            ·
             refine WC.regionD ([], e19, e18) [e19] (by kernel_rfl) (by kernel_rfl) (NoPanic.block (NoPanic.seq (NoPanic.seq (NoPanic.block (NoPanic.seq (NoPanic.block (NoPanic.seq (NoPanic.seq (NoPanic.block (NoPanic.block (NoPanic.seq (NoPanic.seq (NoPanic.block (NoPanic.seq (NoPanic.body))))))))))))))) ?_
             have hS108 := hS101.drew
             revert hS108
             generalize World.drew w100 = w107
             intro hS108
             refine ⟨trivial, forallC ?_ (forallN)⟩
             refine seg 2 [] [0, 1, 7, 8, 9, 10, 11, 12, 14, 90] [e1, e2, e7, e5, e16, e6, e9, e24, (14, (iv x96)), (90, (bv b95))] [] (fun fb => by kernel_rfl) rfl trivial ?_
             refine WL.setB 90 h106 rfl ?_
             refine seg 10 [] e11 [e1, e2, e7, e5, e16, e6, e9, e24, (13, (bv true)), (14, (iv x96))] [] (fun fb => by kernel_rfl) rfl trivial ?_
             refine WL.done rfl ?_
             injection hx105 with hx105
             exact WX.to Kx104 true e11 rfl ⟨(hS108.subR [0, 1]).sub [0, 1, 2, 3] (by decide), hx105.symm⟩
            obtain ⟨h111, hx105⟩ := as_some hx105
            refine WC.regionD (e3, e19, e18) [e19] (by kernel_rfl) (by kernel_rfl) (NoPanic.block (NoPanic.seq (NoPanic.seq (NoPanic.block (NoPanic.seq (NoPanic.block (NoPanic.seq (NoPanic.seq (NoPanic.block (NoPanic.block (NoPanic.seq (NoPanic.seq (NoPanic.block (NoPanic.seq (NoPanic.body))))))))))))))) ?_
            have hS110 := hS101.drew
            revert hS110
            generalize World.drew w100 = w109
            intro hS110
            refine ⟨⟨rowR.cell (rowO.rd (hS110.own 0).1) z_Tile h111.1 h111.2 0 rfl, rowR.cell (rowO.rd (hS110.own 0).1) z_Tile h111.1 h111.2 1 rfl, rowR.cell (rowO.rd (hS110.own 0).1) z_Tile h111.1 h111.2 2 rfl, rowR.cell (rowO.rd (hS110.own 0).1) z_Tile h111.1 h111.2 3 rfl, hS110.cell 3 rfl 0 rfl, hS110.cell 3 rfl 1 rfl, hS110.cell 3 rfl 2 rfl, hS110.cell 3 rfl 3 rfl, trivial⟩, forallC ?_ (forallN)⟩
            refine seg 2 [] [0, 1, 7, 8, 9, 10, 11, 12, 14, 90] [e1, e2, e7, e5, e16, e6, e9, e24, (14, (iv x96)), (90, (bv b95))] [] (fun fb => by kernel_rfl) rfl trivial ?_
            refine WL.setB 90 h106 rfl ?_
            refine segF 10 [.v (iv (e14.N)), .v (iv (e14.E)), .v (iv (e14.S)), .v (iv (e14.W)), .v (iv ((rdD p1 x38 z_Tile).N)), .v (iv t75.1), .v (iv ((rdD p0 x17 z_Tile).S)), .v (iv t86.1)] e11 [e1, e2, e7, e5, e16, e6, e9, e24, (13, (bv e21)), (14, (iv x96))] [.idx A29 x96 l31.length] [0, 1, 2, 3, 4, 5, 6, 7] e3 (fun fb => by kernel_rfl) rfl ⟨rowR.adr (rowO.rd (hS110.own 0).1) h111.1 h111.2, trivial⟩ rfl ?_
            refine WL.done rfl ?_
            injection hx105 with hx105
            exact WX.to Kx104 e21 e11 rfl ⟨(hS110.subR [0, 1]).sub [0, 1, 2, 3] (by decide), hx105.symm⟩
           rintro y115 w112 ⟨hS113, hq114⟩
           subst hq114
           refine WX.blockN (WX.next ?_)
           refine WC.region ?_
           refine seg 3 [] e11 [e1, e2, e7, e5, e16, e6, e9, e24, (13, (bv x104)), (14, (iv (w64 (x96 + 1))))] [] (fun fb => by kernel_rfl) rfl trivial ?_
           refine WL.done rfl ?_
           exact WX.again k99 (Nat.lt_succ_self _) (x104, w64 (x96 + 1)) e11 rfl ⟨(hS113.subR [0, 1]).sub [0, 1, 2, 3] (by decide), hl102⟩
          refine WC.condF2 (fun fb => by kernel_rfl) h103 ?_
          refine WC.exit ?_
          injection hl102 with hl102
          exact WX.thenX (WX.thenX (WX.blockHere (WX.to Kx97 b95 [0, 1, 7, 8, 9, 10, 11, 12, 13] rfl ⟨(hS101.subR [0, 1]).sub [0, 1, 2, 3] (by decide), hl102.symm⟩)))
        rintro y119 w116 ⟨hS117, hq118⟩
        subst hq118
        refine WX.next (WC.seq (WC.seq (WC.region ?_)))
        refine seg 1 [] [0, 1, 7, 8, 9, 10, 11, 12, 98] [e1, e2, e7, e5, e16, e6, e9, e24, (98, (bv x97))] [] (fun fb => by kernel_rfl) rfl trivial ?_
        refine WL.done rfl (WX.next ?_)
        rcases br_some hx59 with ⟨h120, hx59⟩ | ⟨h120, hx59⟩
        ·refine WC.condT2 (fun fb => by kernel_rfl) h120 ?_
         refine WC.exit ?_
         injection hx59 with hx59
         exact WX.thenX (WX.blockHere (WX.to Kx58 ((l31, l34, t86.2), A29, c30, A32, c33, A91, c92) e17 rfl ⟨(hS117.subR [0, 1]).sub [0, 1, 2] (by decide), hx59.symm⟩))
        refine WC.condF2 (fun fb => by kernel_rfl) h120 ?_
        refine WC.skip (WX.next (WC.seq (WC.region ?_)))
        refine seg 2 [.v (iv ((rdD p1 x38 z_Tile).N)), .v (iv t75.1), .v (iv ((rdD p0 x17 z_Tile).S)), .v (iv t86.1)] [0, 1, 8, 9, 10, 11, 99, 100] [e1, e2, e5, e16, e6, e9, (99, (sv A29 l31 c30)), (100, (.agg e15))] [.cell ⟨g68, 0, none⟩ (iv ((rdD p1 x38 z_Tile).N)), .cell ⟨g68, 1, none⟩ (iv t75.1), .cell ⟨g68, 2, none⟩ (iv ((rdD p0 x17 z_Tile).S)), .cell ⟨g68, 3, none⟩ (iv t86.1)] (fun fb => by kernel_rfl) rfl ⟨hS117.cell 3 rfl 0 rfl, hS117.cell 3 rfl 1 rfl, hS117.cell 3 rfl 2 rfl, hS117.cell 3 rfl 3 rfl, trivial⟩ ?_
        refine WL.new hS117 101 [] (fun g => (.slice (some ⟨g, 0, none⟩) 1 1)) (.cells e15 53 (0, 0)) [] (fun fb g => by kernel_rfl) trivial (fun g121 w122 hS123 => ?_)
        refine ⟨trivial, ?_⟩
        have hS124 := hS90.go w122 [rowO 53 enc_Tile (some ⟨g121, 0, none⟩) 1 [(Tile.mk ((rdD p1 x38 z_Tile).N) t75.1 ((rdD p0 x17 z_Tile).S) t86.1)], rowO 53 enc_Tile A29 c30 l31, rowO 78 enc_A2_Int A32 c33 l34, rowO 78 enc_A2_Int A91 c92 t86.2, blk g68 (.cells e15 53 (0, 0))] (hS123.map1 0 _ (fun h => rowO.ofBlk h rfl (Nat.le_of_ble_eq_true (by kernel_rfl))) (fun _ h => by obtain ⟨_, h1, h2⟩ := h; injection h1 with h1; subst h1; exact h2) [1, 2, 3, 4] (by decide) (by decide))
        obtain ⟨h125, hx59⟩ := as_some hx59
        refine WL.append hS124 1 (d := 102) (tS := 22) (z := (.agg #[(iv 0), (iv 0), (iv 0), (iv 0)])) (bytes := 32) (c2 := 1) rfl (fun fb => by kernel_rfl) (rowO.rd (hS124.own 0).1) (by kernel_rfl) (by kernel_rfl) rfl (by decide) h125 (by decide) [0, 2, 3, 4] (by decide) (by decide) (fun A126 c127 w128 hS129 => ?_)
        refine ⟨trivial, ?_⟩
        refine seg 8 [] [0, 1, 9, 10, 11, 102, 103, 106] [e1, e2, e16, e6, e9, (102, (sv A126 (l31 ++ [(Tile.mk ((rdD p1 x38 z_Tile).N) t75.1 ((rdD p0 x17 z_Tile).S) t86.1)]) c127)), (103, (sv A32 l34 c33)), (106, (.agg #[(iv x17), (iv x38)]))] [] (fun fb => by kernel_rfl) rfl trivial ?_
        refine WL.new hS129 107 [] (fun g => (.slice (some ⟨g, 0, none⟩) 1 1)) (.cells #[(iv x17), (iv x38)] 78 (0, 0)) [] (fun fb g => by kernel_rfl) trivial (fun g130 w131 hS132 => ?_)
        refine ⟨trivial, ?_⟩
        let e29 := [(Tile.mk ((rdD p1 x38 z_Tile).N) t75.1 ((rdD p0 x17 z_Tile).S) t86.1)]
        have hS133 := hS124.go w131 [rowO 78 enc_A2_Int (some ⟨g130, 0, none⟩) 1 e22, rowO 53 enc_Tile A126 c127 (l31 ++ e29), rowO 53 enc_Tile (some ⟨g121, 0, none⟩) 1 e29, rowO 78 enc_A2_Int A32 c33 l34, rowO 78 enc_A2_Int A91 c92 t86.2, blk g68 (.cells e15 53 (0, 0))] (hS132.map1 0 _ (fun h => rowO.ofBlk h rfl (Nat.le_of_ble_eq_true (by kernel_rfl))) (fun _ h => by obtain ⟨_, h1, h2⟩ := h; injection h1 with h1; subst h1; exact h2) [1, 2, 3, 4, 5] (by decide) (by decide))
        obtain ⟨h134, hx59⟩ := as_some hx59
        refine WL.append hS133 3 (d := 108) (tS := 35) (z := (.agg #[(iv 0), (iv 0)])) (bytes := 16) (c2 := 1) rfl (fun fb => by kernel_rfl) (rowO.rd (hS133.own 0).1) (by kernel_rfl) (by kernel_rfl) rfl (by decide) h134 (by decide) [0, 1, 2, 4, 5] (by decide) (by decide) (fun A135 c136 w137 hS138 => ?_)
        refine ⟨trivial, ?_⟩
        refine seg 12 [] e17 [e1, e2, (7, (sv A126 (l31 ++ e29) c127)), (8, (sv A135 (l34 ++ e22) c136)), e16, e6, e9] [] (fun fb => by kernel_rfl) rfl trivial ?_
        refine WL.done rfl (WX.next (WC.seq (WC.region ?_)))
        let e26 := l31 ++ e29
        refine seg 4 [] [0, 1, 7, 8, 9, 10, 11, 112] [e1, e2, (7, (sv A126 e26 c127)), (8, (sv A135 (l34 ++ e22) c136)), e16, e6, e9, (112, (bv (decide ((e26.length : Int) > 1000))))] [] (fun fb => by kernel_rfl) rfl trivial ?_
        let e10 := l31 ++ e29
        let e31 : Nat × Value := (8, (sv A135 (l34 ++ e22) c136))
        refine WL.cutV (T := Bool) 8 (fun t => [(116, (bv t)), e1, e2, (7, (sv A126 e10 c127)), e31, e16, e6, e9]) (fun t => ((decide ((e10.length : Int) > 1000)) || (decide ((t86.2.length : Int) > 1000))) = t) (fun K => ?_) ?_
        ·
         rcases Bool.eq_false_or_eq_true (decide ((e10.length : Int) > 1000)) with h139 | h139
         ·
          refine WL.setB 112 h139 rfl ?_
          refine seg 8 [] [0, 1, 7, 8, 9, 10, 11, 116] [e1, e2, (7, (sv A126 e10 c127)), e31, e16, e6, e9, (116, (bv true))] [] (fun fb => by kernel_rfl) rfl trivial ?_
          exact WL.toV K true [116, 0, 1, 7, 8, 9, 10, 11] rfl (by first | (rw [h139]; done) | (rw [h139]; rfl))
         refine WL.setB 112 h139 rfl ?_
         refine seg 8 [] [0, 1, 7, 8, 9, 10, 11, 116] [e1, e2, (7, (sv A126 e10 c127)), e31, e16, e6, e9, (116, (bv (decide ((t86.2.length : Int) > 1000))))] [] (fun fb => by kernel_rfl) rfl trivial ?_
         exact WL.toV K (decide ((t86.2.length : Int) > 1000)) [116, 0, 1, 7, 8, 9, 10, 11] rfl (by first | (rw [h139]; done) | (rw [h139]; rfl))
        rintro b140 rfl
        refine WL.done rfl (WX.next ?_)
        rcases br_some hx59 with ⟨h141, hx59⟩ | ⟨h141, hx59⟩
        ·refine WC.condT2 (fun fb => by kernel_rfl) h141 ?_
         refine WC.seq (WC.region ?_)
         refine seg 3 [] [4, 5, 6] [(4, (.slice none 0 0)), (5, (.slice none 0 0)), (6, (bv false))] [] (fun fb => by kernel_rfl) rfl trivial ?_
         refine WL.done rfl (WX.next ?_)
         refine WC.ret ?_
         have hS142 := hS138.nilrow 53 enc_Tile
         have hS143 := hS142.nilrow 78 enc_A2_Int
         injection hx59 with hx59
         subst hx59
         injection hl50 with hl50
         subst hl50
         injection hl27 with hl27
         subst hl27
         injection hf with hf
         subst hf
         exact WX.blockR (WX.thenR (WX.thenR (WX.blockR (WX.blockR (WX.thenR (WX.thenR (WX.blockR (WX.thenR (WX.ret_ [] (.tuple #[(sv none ([] : List Tile) 0), (sv none ([] : List A2_Int) 0), (bv false)]) [] (fun fb => by kernel_rfl) trivial ⟨_, rfl, none, 0, none, 0, rfl, (hS143.sub [1, 0] (by decide)).noR⟩)))))))))
        refine WC.condF2 (fun fb => by kernel_rfl) h141 ?_
        refine WC.skip ?_
        injection hx59 with hx59
        exact WX.blockN (WX.to Kx58 ((l31 ++ e29, l34 ++ e22, t86.2), A126, c127, A135, c136, A91, c92) e17 rfl ⟨(hS138.subR [0, 1]).sub [2, 0, 4] (by decide), hx59.symm⟩)
       rintro ⟨y147, A52, c53, A54, c55, A56, c57⟩ w144 ⟨hS145, hq146⟩
       subst hq146
       have hl50 := sum_inr hl50
       refine WX.next (WC.region ?_)
       refine seg 3 [] e17 [e1, e2, (7, (sv A52 y147.1 c53)), (8, (sv A54 y147.2.1 c55)), (9, (sv A56 y147.2.2 c57)), e6, (11, (iv (w64 (x38 + 1))))] [] (fun fb => by kernel_rfl) rfl trivial ?_
       refine WL.done rfl ?_
       exact WX.again k47 (Nat.lt_succ_self _) ((y147.1, y147.2.1, y147.2.2, w64 (x38 + 1)), A52, c53, A54, c55, A56, c57) e17 rfl ⟨(hS145.subR [0, 1]).sub [0, 1, 2] (by decide), hl50⟩
      refine WC.condF2 (fun fb => by kernel_rfl) h51 ?_
      refine WC.exit ?_
      injection hl50 with hl50
      exact WX.thenX (WX.thenX (WX.blockHere (WX.to Kx45 ((l31, l34, l37), A29, c30, A32, c33, A35, c36) [0, 1, 7, 8, 9, 10] rfl ⟨(hS49.subR [0, 1]).sub [0, 1, 2] (by decide), hl50.symm⟩)))
    rintro ⟨y151, A39, c40, A41, c42, A43, c44⟩ w148 ⟨hS149, hq150⟩
    subst hq150
    have hl27 := sum_inr hl27
    refine WX.blockN (WX.next ?_)
    refine WC.region ?_
    refine seg 3 [] [0, 1, 7, 8, 9, 10] [e1, e2, (7, (sv A39 y151.1 c40)), (8, (sv A41 y151.2.1 c42)), (9, (sv A43 y151.2.2 c44)), (10, (iv (w64 (x17 + 1))))] [] (fun fb => by kernel_rfl) rfl trivial ?_
    refine WL.done rfl ?_
    exact WX.again k24 (Nat.lt_succ_self _) ((y151.1, y151.2.1, y151.2.2, w64 (x17 + 1)), A39, c40, A41, c42, A43, c44) [0, 1, 7, 8, 9, 10] rfl ⟨(hS149.subR [0, 1]).sub [0, 1, 2] (by decide), hl27⟩
   refine WC.condF2 (fun fb => by kernel_rfl) h28 ?_
   refine WC.exit ?_
   injection hl27 with hl27
   exact WX.thenX (WX.thenX (WX.blockHere (WX.to Kx22 ((l9, l12), A7, c8, A10, c11) [7, 8] rfl ⟨(hS26.subR [0, 1]).sub [0, 1] (by decide), hl27.symm⟩)))
 rintro ⟨y155, A18, c19, A20, c21⟩ w152 ⟨hS153, hq154⟩
 subst hq154
 have hf := sum_inr hf
 refine WX.next (WC.seq (WC.region ?_))
 refine seg 5 [] [4, 5, 6] [(4, (sv A18 y155.1 c19)), (5, (sv A20 y155.2 c21)), (6, (bv true))] [] (fun fb => by kernel_rfl) rfl trivial ?_
 refine WL.done rfl (WX.next ?_)
 refine WC.ret ?_
 injection hf with hf
 subst hf
 exact WX.ret_ [] (.tuple #[(sv A18 y155.1 c19), (sv A20 y155.2 c21), (bv true)]) [] (fun fb => by kernel_rfl) trivial ⟨_, rfl, A18, c19, A20, c21, rfl, (hS153.sub [0, 1] (by decide)).noR⟩
theorem ref01_SameSet_calls (k : Nat) (p0 : List Tile) (p1 : List Tile) (Aa : Option Addr) (ca : Nat) (Ab : Option Addr) (cb : Nat) (r : Bool) (w : World) (hR0 : RO NoS w (rowR enc_Tile Aa ca p0)) (hR1 : RO NoS w (rowR enc_Tile Ab cb p1)) (hf : ref01_SameSet k p0 p1 = some r) :
  CallsR Tryd.prog 17 #[(sv Aa p0 ca), (sv Ab p1 cb)] w (fun v w' => v = (bv r) ∧ Keeps NoS w w') := by
 have hS : St NoS w w [rowR enc_Tile Aa ca p0, rowR enc_Tile Ab cb p1] [] := St.init (ro_cons hR0 (ro_cons hR1 (ro_nil _ _)))
 refine enter 26 Tryd.func17 rfl Tryd.ntmps17 rfl ?_
 unfold ref01_SameSet at hf
 refine WC.seq (WC.region ?_)
 refine seg 1 [] [0, 1] [(0, (sv Aa p0 ca)), (1, (sv Ab p1 cb))] [] (fun fb => by kernel_rfl) rfl trivial ?_
 refine WL.done rfl (WX.next (WC.seq (WC.seq (WC.region ?_))))
 refine seg 5 [] [0, 1, 10] [(0, (sv Aa p0 ca)), (1, (sv Ab p1 cb)), (10, (bv ((p0.length : Int) != (p1.length : Int))))] [] (fun fb => by kernel_rfl) rfl trivial ?_
 refine WL.done rfl (WX.next ?_)
 rcases br_some hf with ⟨h3, hf⟩ | ⟨h3, hf⟩
 ·refine WC.condT2 (fun fb => by kernel_rfl) h3 ?_
  refine WC.seq (WC.region ?_)
  refine seg 1 [] [4] [(4, (bv false))] [] (fun fb => by kernel_rfl) rfl trivial ?_
  refine WL.done rfl (WX.next ?_)
  refine WC.ret ?_
  injection hf with hf
  subst hf
  exact WX.thenR (WX.ret_ [] (bv false) [] (fun fb => by kernel_rfl) trivial ⟨_, rfl, rfl, hS.keep⟩)
 refine WC.condF2 (fun fb => by kernel_rfl) h3 ?_
 refine WC.skip (WX.next (WC.seq (WC.seq (WC.region ?_))))
 refine seg 1 [] [0, 1, 5] [(0, (sv Aa p0 ca)), (1, (sv Ab p1 cb)), (5, (iv 0))] [] (fun fb => by kernel_rfl) rfl trivial ?_
 refine WL.done rfl (WX.next ?_)
 obtain ⟨x5, hx6, hf⟩ := bind_some hf
 refine WC.cutN (T := Unit) (fun t => []) (fun t w1 => St NoS w w1 [rowR enc_Tile Aa ca p0, rowR enc_Tile Ab cb p1] [] ∧ x5 = .inr t) (fun Kx5 => ?_) ?_
 ·
  refine WC.block ?_
  refine WC.loop (T := Int) (fun t => [(0, (sv Aa p0 ca)), (1, (sv Ab p1 cb)), (5, (iv t))]) (fun n t w1 => St NoS w w1 [rowR enc_Tile Aa ca p0, rowR enc_Tile Ab cb p1] [] ∧ ref01_SameSet.l0 n t p0 p1 = some x5) k 0 [0, 1, 5] rfl ⟨(hS.subR [0, 1]).sub [] (by decide), hx6⟩ ?_
  rintro k7 x4 w8 ⟨hS9, hl10⟩
  let e4 := (x4).toNat * 4
  let e1 : List (Nat × Addr × Value) := [(3, ((adr Aa).add e4), (iv ((rdD p0 x4 z_Tile).N))), (3, (((adr Aa).add e4).add 1), (iv ((rdD p0 x4 z_Tile).E))), (3, (((adr Aa).add e4).add 2), (iv ((rdD p0 x4 z_Tile).S))), (3, (((adr Aa).add e4).add 3), (iv ((rdD p0 x4 z_Tile).W))), (7, ((adr Ab).add e4), (iv ((rdD p1 x4 z_Tile).N))), (7, (((adr Ab).add e4).add 1), (iv ((rdD p1 x4 z_Tile).E))), (7, (((adr Ab).add e4).add 2), (iv ((rdD p1 x4 z_Tile).S))), (7, (((adr Ab).add e4).add 3), (iv ((rdD p1 x4 z_Tile).W)))]
  let e2 := rdD p0 x4 z_Tile
  let e3 := rdD p1 x4 z_Tile
  cases k7 with
  | zero => rw [ref01_SameSet.l0] at hl10; cases hl10
  | succ k7 =>
   rw [ref01_SameSet.l0] at hl10
   refine WC.seq (WC.seq (WC.region ?_))
   refine seg 4 [] [0, 1, 5, 14] [(0, (sv Aa p0 ca)), (1, (sv Ab p1 cb)), (5, (iv x4)), (14, (bv (decide (x4 < (p0.length : Int)))))] [] (fun fb => by kernel_rfl) rfl trivial ?_
   refine WL.done rfl (WX.next ?_)
   rcases br_some hl10 with ⟨h11, hl10⟩ | ⟨h11, hl10⟩
   ·refine WC.condT2 (fun fb => by kernel_rfl) h11 ?_
    refine WC.skip (WX.next (WC.seq (WC.block (WC.seq ?_))))
    obtain ⟨h14, hl10⟩ := as_some hl10
    obtain ⟨h15, hl10⟩ := as_some hl10
    refine WC.regionD (e1, [0, 1, 2, 3, 4, 5, 6, 7, 8], [[], [], [0, 1], [0, 1, 2], [], [], [4, 5], [4, 5, 6], [0, 1, 2, 3, 4, 5, 6, 7]]) [[0, 1, 2, 3, 4, 5, 6, 7, 8]] (by kernel_rfl) (by kernel_rfl) (NoPanic.seq (NoPanic.block (NoPanic.seq (NoPanic.seq (NoPanic.block (NoPanic.seq (NoPanic.body))))))) ?_
    have hS13 := hS9.drew
    revert hS13
    generalize World.drew w8 = w12
    intro hS13
    refine ⟨⟨rowR.cell (hS13.rd 0).1 z_Tile h14.1 h14.2 0 rfl, rowR.cell (hS13.rd 0).1 z_Tile h14.1 h14.2 1 rfl, rowR.cell (hS13.rd 0).1 z_Tile h14.1 h14.2 2 rfl, rowR.cell (hS13.rd 0).1 z_Tile h14.1 h14.2 3 rfl, rowR.cell (hS13.rd 1).1 z_Tile h15.1 h15.2 0 rfl, rowR.cell (hS13.rd 1).1 z_Tile h15.1 h15.2 1 rfl, rowR.cell (hS13.rd 1).1 z_Tile h15.1 h15.2 2 rfl, rowR.cell (hS13.rd 1).1 z_Tile h15.1 h15.2 3 rfl, trivial⟩, forallC ?_ (forallN)⟩
    refine segF 9 [.v (iv (e2.N)), .v (iv (e2.E)), .v (iv (e2.S)), .v (iv (e2.W)), .v (iv (e3.N)), .v (iv (e3.E)), .v (iv (e3.S)), .v (iv (e3.W))] [0, 1, 5, 25] [(0, (sv Aa p0 ca)), (1, (sv Ab p1 cb)), (5, (iv x4)), (25, (bv (!((e2.N) == (e3.N) && ((e2.E) == (e3.E) && ((e2.S) == (e3.S) && ((e2.W) == (e3.W))))))))] [.idx Aa x4 p0.length, .idx Ab x4 p1.length] [0, 1, 2, 3, 4, 5, 6, 7] e1 (fun fb => by kernel_rfl) rfl ⟨rowR.adr (hS13.rd 0).1 h14.1 h14.2, rowR.adr (hS13.rd 1).1 h15.1 h15.2, trivial⟩ rfl ?_
    refine WL.done rfl (WX.next ?_)
    rcases br_some hl10 with ⟨h16, hl10⟩ | ⟨h16, hl10⟩
    ·refine WC.condT2 (fun fb => by kernel_rfl) h16 ?_
     refine WC.seq (WC.region ?_)
     refine seg 1 [] [4] [(4, (bv false))] [] (fun fb => by kernel_rfl) rfl trivial ?_
     refine WL.done rfl (WX.next ?_)
     refine WC.ret ?_
     injection hl10 with hl10
     subst hl10
     injection hf with hf
     subst hf
     exact WX.blockR (WX.thenR (WX.thenR (WX.blockR (WX.thenR (WX.ret_ [] (bv false) [] (fun fb => by kernel_rfl) trivial ⟨_, rfl, rfl, hS13.keep⟩)))))
    refine WC.condF2 (fun fb => by kernel_rfl) h16 ?_
    refine WC.skip ?_
    refine WX.blockN (WX.next ?_)
    refine WC.region ?_
    refine seg 3 [] [0, 1, 5] [(0, (sv Aa p0 ca)), (1, (sv Ab p1 cb)), (5, (iv (w64 (x4 + 1))))] [] (fun fb => by kernel_rfl) rfl trivial ?_
    refine WL.done rfl ?_
    exact WX.again k7 (Nat.lt_succ_self _) (w64 (x4 + 1)) [0, 1, 5] rfl ⟨(hS13.subR [0, 1]).sub [] (by decide), hl10⟩
   refine WC.condF2 (fun fb => by kernel_rfl) h11 ?_
   refine WC.exit ?_
   injection hl10 with hl10
   exact WX.thenX (WX.thenX (WX.blockHere (WX.to Kx5 () [] rfl ⟨(hS9.subR [0, 1]).sub [] (by decide), hl10.symm⟩)))
 rintro y21 w18 ⟨hS19, hq20⟩
 subst hq20
 have hf := sum_inr hf
 refine WX.next (WC.seq (WC.region ?_))
 refine seg 1 [] [4] [(4, (bv true))] [] (fun fb => by kernel_rfl) rfl trivial ?_
 refine WL.done rfl (WX.next ?_)
 refine WC.ret ?_
 injection hf with hf
 subst hf
 exact WX.ret_ [] (bv true) [] (fun fb => by kernel_rfl) trivial ⟨_, rfl, rfl, hS19.keep⟩
theorem law04_pairs_calls (k : Nat) (p0 : List A2_Int) (p1 : List A2_Int) (Aa : Option Addr) (ca : Nat) (Ab : Option Addr) (cb : Nat) (r : Bool) (w : World) (hR0 : RO NoS w (rowR enc_A2_Int Aa ca p0)) (hR1 : RO NoS w (rowR enc_A2_Int Ab cb p1)) (hf : law04_pairs k p0 p1 = some r) :
  CallsR Tryd.prog 18 #[(sv Aa p0 ca), (sv Ab p1 cb)] w (fun v w' => v = (bv r) ∧ Keeps NoS w w') := by
 have hS : St NoS w w [rowR enc_A2_Int Aa ca p0, rowR enc_A2_Int Ab cb p1] [] := St.init (ro_cons hR0 (ro_cons hR1 (ro_nil _ _)))
 refine enter 26 Tryd.func18 rfl Tryd.ntmps18 rfl ?_
 unfold law04_pairs at hf
 refine WC.seq (WC.region ?_)
 refine seg 1 [] [0, 1] [(0, (sv Aa p0 ca)), (1, (sv Ab p1 cb))] [] (fun fb => by kernel_rfl) rfl trivial ?_
 refine WL.done rfl (WX.next (WC.seq (WC.seq (WC.region ?_))))
 refine seg 5 [] [0, 1, 10] [(0, (sv Aa p0 ca)), (1, (sv Ab p1 cb)), (10, (bv ((p0.length : Int) != (p1.length : Int))))] [] (fun fb => by kernel_rfl) rfl trivial ?_
 refine WL.done rfl (WX.next ?_)
 rcases br_some hf with ⟨h3, hf⟩ | ⟨h3, hf⟩
 ·refine WC.condT2 (fun fb => by kernel_rfl) h3 ?_
  refine WC.seq (WC.region ?_)
  refine seg 1 [] [4] [(4, (bv false))] [] (fun fb => by kernel_rfl) rfl trivial ?_
  refine WL.done rfl (WX.next ?_)
  refine WC.ret ?_
  injection hf with hf
  subst hf
  exact WX.thenR (WX.ret_ [] (bv false) [] (fun fb => by kernel_rfl) trivial ⟨_, rfl, rfl, hS.keep⟩)
 refine WC.condF2 (fun fb => by kernel_rfl) h3 ?_
 refine WC.skip (WX.next (WC.seq (WC.seq (WC.region ?_))))
 refine seg 1 [] [0, 1, 5] [(0, (sv Aa p0 ca)), (1, (sv Ab p1 cb)), (5, (iv 0))] [] (fun fb => by kernel_rfl) rfl trivial ?_
 refine WL.done rfl (WX.next ?_)
 obtain ⟨x6, hx7, hf⟩ := bind_some hf
 refine WC.cutN (T := Unit) (fun t => []) (fun t w1 => St NoS w w1 [rowR enc_A2_Int Aa ca p0, rowR enc_A2_Int Ab cb p1] [] ∧ x6 = .inr t) (fun Kx6 => ?_) ?_
 ·
  refine WC.block ?_
  refine WC.loop (T := Int) (fun t => [(0, (sv Aa p0 ca)), (1, (sv Ab p1 cb)), (5, (iv t))]) (fun n t w1 => St NoS w w1 [rowR enc_A2_Int Aa ca p0, rowR enc_A2_Int Ab cb p1] [] ∧ law04_pairs.l0 n t p0 p1 = some x6) k 0 [0, 1, 5] rfl ⟨(hS.subR [0, 1]).sub [] (by decide), hx7⟩ ?_
  rintro k8 x5 w9 ⟨hS10, hl11⟩
  let e2 : List (Nat × Addr × Value) := [(3, ((adr Aa).add ((x5).toNat * 2)), (iv ((rdD p0 x5 z_A2_Int).e0))), (3, (((adr Aa).add ((x5).toNat * 2)).add 1), (iv ((rdD p0 x5 z_A2_Int).e1))), (7, ((adr Ab).add ((x5).toNat * 2)), (iv ((rdD p1 x5 z_A2_Int).e0))), (7, (((adr Ab).add ((x5).toNat * 2)).add 1), (iv ((rdD p1 x5 z_A2_Int).e1)))]
  let e3 := rdD p0 x5 z_A2_Int
  let e4 := rdD p1 x5 z_A2_Int
  cases k8 with
  | zero => rw [law04_pairs.l0] at hl11; cases hl11
  | succ k8 =>
   rw [law04_pairs.l0] at hl11
   refine WC.seq (WC.seq (WC.region ?_))
   refine seg 4 [] [0, 1, 5, 14] [(0, (sv Aa p0 ca)), (1, (sv Ab p1 cb)), (5, (iv x5)), (14, (bv (decide (x5 < (p0.length : Int)))))] [] (fun fb => by kernel_rfl) rfl trivial ?_
   refine WL.done rfl (WX.next ?_)
   rcases br_some hl11 with ⟨h12, hl11⟩ | ⟨h12, hl11⟩
   ·refine WC.condT2 (fun fb => by kernel_rfl) h12 ?_
    refine WC.skip (WX.next (WC.seq (WC.block (WC.seq ?_))))
    obtain ⟨h15, hl11⟩ := as_some hl11
    obtain ⟨h16, hl11⟩ := as_some hl11
    refine WC.regionD (e2, [0, 1, 2, 3, 4, 5, 6, 7, 8], [[], [], [0, 1], [0, 1, 2], [], [], [4, 5], [4, 5, 6], [0, 1, 2, 3, 4, 5, 6, 7]]) [[0, 1, 2, 3, 4, 5, 6, 7, 8]] (by kernel_rfl) (by kernel_rfl) (NoPanic.seq (NoPanic.block (NoPanic.seq (NoPanic.seq (NoPanic.block (NoPanic.seq (NoPanic.body))))))) ?_
    have hS14 := hS10.drew
    revert hS14
    generalize World.drew w9 = w13
    intro hS14
    refine ⟨⟨rowR.cell (hS14.rd 0).1 z_A2_Int h15.1 h15.2 0 rfl, rowR.cell (hS14.rd 0).1 z_A2_Int h15.1 h15.2 1 rfl, rowR.cell (hS14.rd 1).1 z_A2_Int h16.1 h16.2 0 rfl, rowR.cell (hS14.rd 1).1 z_A2_Int h16.1 h16.2 1 rfl, trivial⟩, forallC ?_ (forallN)⟩
    refine segF 9 [.v (iv (e3.e0)), .v (iv (e3.e1)), .v (iv (e4.e0)), .v (iv (e4.e1))] [0, 1, 5, 25] [(0, (sv Aa p0 ca)), (1, (sv Ab p1 cb)), (5, (iv x5)), (25, (bv (!((e3.e0) == (e4.e0) && ((e3.e1) == (e4.e1))))))] [.idx Aa x5 p0.length, .idx Ab x5 p1.length] [0, 1, 2, 3] e2 (fun fb => by kernel_rfl) rfl ⟨rowR.adr (hS14.rd 0).1 h15.1 h15.2, rowR.adr (hS14.rd 1).1 h16.1 h16.2, trivial⟩ rfl ?_
    refine WL.done rfl (WX.next ?_)
    rcases br_some hl11 with ⟨h17, hl11⟩ | ⟨h17, hl11⟩
    ·refine WC.condT2 (fun fb => by kernel_rfl) h17 ?_
     refine WC.seq (WC.region ?_)
     refine seg 1 [] [4] [(4, (bv false))] [] (fun fb => by kernel_rfl) rfl trivial ?_
     refine WL.done rfl (WX.next ?_)
     refine WC.ret ?_
     injection hl11 with hl11
     subst hl11
     injection hf with hf
     subst hf
     exact WX.blockR (WX.thenR (WX.thenR (WX.blockR (WX.thenR (WX.ret_ [] (bv false) [] (fun fb => by kernel_rfl) trivial ⟨_, rfl, rfl, hS14.keep⟩)))))
    refine WC.condF2 (fun fb => by kernel_rfl) h17 ?_
    refine WC.skip ?_
    refine WX.blockN (WX.next ?_)
    refine WC.region ?_
    refine seg 3 [] [0, 1, 5] [(0, (sv Aa p0 ca)), (1, (sv Ab p1 cb)), (5, (iv (w64 (x5 + 1))))] [] (fun fb => by kernel_rfl) rfl trivial ?_
    refine WL.done rfl ?_
    exact WX.again k8 (Nat.lt_succ_self _) (w64 (x5 + 1)) [0, 1, 5] rfl ⟨(hS14.subR [0, 1]).sub [] (by decide), hl11⟩
   refine WC.condF2 (fun fb => by kernel_rfl) h12 ?_
   refine WC.exit ?_
   injection hl11 with hl11
   exact WX.thenX (WX.thenX (WX.blockHere (WX.to Kx6 () [] rfl ⟨(hS10.subR [0, 1]).sub [] (by decide), hl11.symm⟩)))
 rintro y22 w19 ⟨hS20, hq21⟩
 subst hq21
 have hf := sum_inr hf
 refine WX.next (WC.seq (WC.region ?_))
 refine seg 1 [] [4] [(4, (bv true))] [] (fun fb => by kernel_rfl) rfl trivial ?_
 refine WL.done rfl (WX.next ?_)
 refine WC.ret ?_
 injection hf with hf
 subst hf
 exact WX.ret_ [] (bv true) [] (fun fb => by kernel_rfl) trivial ⟨_, rfl, rfl, hS20.keep⟩
theorem law04_StripOn_calls (k : Nat) (p0 : List Tile) (p1 : List Tile) (Aa : Option Addr) (ca : Nat) (Ab : Option Addr) (cb : Nat) (mG : Glo) (r : Bool) (w : World) (hR0 : RO NoS w (rowR enc_Tile Aa ca p0)) (hR1 : RO NoS w (rowR enc_Tile Ab cb p1)) (hR2 : RO NoS w (gloO Tryd.prog 2 5 0 1 mG)) (hf : law04_StripOn k p0 p1 = some r) :
  CallsR Tryd.prog 4 #[(sv Aa p0 ca), (sv Ab p1 cb)] w (fun v w' => v = (bv r) ∧ Keeps NoS w w') := by
 have hS : St NoS w w [rowR enc_Tile Aa ca p0, rowR enc_Tile Ab cb p1, gloO Tryd.prog 2 5 0 1 mG] [] := St.init (ro_cons hR0 (ro_cons hR1 (ro_cons hR2 (ro_nil _ _))))
 refine enter 101 Tryd.func4 rfl Tryd.ntmps4 rfl ?_
 unfold law04_StripOn at hf
 refine WC.seq (WC.region ?_)
 refine seg 1 [] [0, 1] [(0, (sv Aa p0 ca)), (1, (sv Ab p1 cb))] [] (fun fb => by kernel_rfl) rfl trivial ?_
 refine WL.done rfl (WX.next (WC.seq (WC.seq (WC.region ?_))))
 refine seg 4 [] [0, 1, 14] [(0, (sv Aa p0 ca)), (1, (sv Ab p1 cb)), (14, (bv (decide ((p0.length : Int) > 1100))))] [] (fun fb => by kernel_rfl) rfl trivial ?_
 refine WL.cutV (T := Bool) 8 (fun t => [(18, (bv t)), (0, (sv Aa p0 ca)), (1, (sv Ab p1 cb))]) (fun t => ((decide ((p0.length : Int) > 1100)) || (decide ((p1.length : Int) > 1100))) = t) (fun K => ?_) ?_
 ·
  rcases Bool.eq_false_or_eq_true (decide ((p0.length : Int) > 1100)) with h1 | h1
  ·
   refine WL.setB 14 h1 rfl ?_
   refine seg 8 [] [0, 1, 18] [(0, (sv Aa p0 ca)), (1, (sv Ab p1 cb)), (18, (bv true))] [] (fun fb => by kernel_rfl) rfl trivial ?_
   exact WL.toV K true [18, 0, 1] rfl (by first | (rw [h1]; done) | (rw [h1]; rfl))
  refine WL.setB 14 h1 rfl ?_
  refine seg 8 [] [0, 1, 18] [(0, (sv Aa p0 ca)), (1, (sv Ab p1 cb)), (18, (bv (decide ((p1.length : Int) > 1100))))] [] (fun fb => by kernel_rfl) rfl trivial ?_
  exact WL.toV K (decide ((p1.length : Int) > 1100)) [18, 0, 1] rfl (by first | (rw [h1]; done) | (rw [h1]; rfl))
 rintro b2 rfl
 refine seg 9 [] [0, 1, 19] [(0, (sv Aa p0 ca)), (1, (sv Ab p1 cb)), (19, (bv ((decide ((p0.length : Int) > 1100)) || (decide ((p1.length : Int) > 1100)))))] [] (fun fb => by kernel_rfl) rfl trivial ?_
 obtain ⟨x3, hx5, hf⟩ := bind_some hf
 let e1 : Nat × Value := (0, (sv Aa p0 ca))
 let e2 : Nat × Value := (1, (sv Ab p1 cb))
 let e3 := (decide (w64 ((p0.length : Int) * (p1.length : Int)) > 100000))
 let e4 : Nat × Value := (19, (bv false))
 let e6 : List Own := [rowR enc_Tile Aa ca p0, rowR enc_Tile Ab cb p1, gloO Tryd.prog 2 5 0 1 mG]
 refine WL.cutW (T := Bool) 24 (fun t => [e1, e2, (34, (bv t))]) (fun t w1 => (St NoS w w1 e6 [] ∧ x3 = t) ∧ CellsOK [] w1) (fun K => ?_) ?_
 ·
  rcases br_some hx5 with ⟨h6, hx5⟩ | ⟨h6, hx5⟩
  ·
   refine WL.setB 19 h6 rfl ?_
   refine seg 24 [] [0, 1, 34] [e1, e2, (34, (bv true))] [] (fun fb => by kernel_rfl) rfl trivial ?_
   injection hx5 with hx5
   exact WL.to K true [0, 1, 34] rfl ⟨⟨(hS.subR [0, 1, 2]).sub [] (by decide), hx5.symm⟩, trivial⟩
  refine WL.setB 19 h6 rfl ?_
  refine seg 10 [] [0, 1, 19, 20] [e1, e2, e4, (20, (sv Aa p0 ca))] [] (fun fb => by kernel_rfl) rfl trivial ?_
  obtain ⟨t7, ht8, hx5⟩ := bind_some hx5
  refine WL.call (some 21) 8 #[(sv Aa p0 ca)] (fun fb => by kernel_rfl) (ref01_Valid_calls _ p0 Aa ca t7 _ (hS.rd 0) ht8) (fun v w9 hR10 => ?_)
  obtain ⟨rfl, hk_⟩ := hR10
  have hS11 := hS.keepN hk_
  refine ⟨trivial, ?_⟩
  refine seg 12 [] [0, 1, 19, 22] [e1, e2, e4, (22, (bv t7))] [] (fun fb => by kernel_rfl) rfl trivial ?_
  obtain ⟨x12, hx13, hx5⟩ := bind_some hx5
  refine WL.cutW (T := Bool) 15 (fun t => [e1, e2, e4, (25, (bv t))]) (fun t w1 => (St NoS w w1 e6 [] ∧ x12 = t) ∧ CellsOK [] w1) (fun K => ?_) ?_
  ·
   rcases br_some hx13 with ⟨h14, hx13⟩ | ⟨h14, hx13⟩
   ·
    refine WL.setB 22 h14 rfl ?_
    refine seg 13 [] [0, 1, 19, 22, 23] [e1, e2, e4, (22, (bv true)), (23, (sv Ab p1 cb))] [] (fun fb => by kernel_rfl) rfl trivial ?_
    obtain ⟨t15, ht16, hx13⟩ := bind_some hx13
    refine WL.call (some 24) 8 #[(sv Ab p1 cb)] (fun fb => by kernel_rfl) (ref01_Valid_calls _ p1 Ab cb t15 _ (hS11.rd 1) ht16) (fun v w17 hR18 => ?_)
    obtain ⟨rfl, hk_⟩ := hR18
    have hS19 := hS11.keepN hk_
    refine ⟨trivial, ?_⟩
    refine seg 15 [] [0, 1, 19, 25] [e1, e2, e4, (25, (bv t15))] [] (fun fb => by kernel_rfl) rfl trivial ?_
    injection hx13 with hx13
    exact WL.to K t15 [0, 1, 19, 25] rfl ⟨⟨(hS19.subR [0, 1, 2]).sub [] (by decide), hx13.symm⟩, trivial⟩
   refine WL.setB 22 h14 rfl ?_
   refine seg 15 [] [0, 1, 19, 25] [e1, e2, e4, (25, (bv false))] [] (fun fb => by kernel_rfl) rfl trivial ?_
   injection hx13 with hx13
   exact WL.to K false [0, 1, 19, 25] rfl ⟨⟨(hS11.subR [0, 1, 2]).sub [] (by decide), hx13.symm⟩, trivial⟩
  rintro y20 w22 ⟨⟨hS23, hq21⟩, hF24⟩
  subst hq21
  refine seg 16 [] [0, 1, 19, 26] [e1, e2, e4, (26, (bv x12))] [] (fun fb => by kernel_rfl) rfl trivial ?_
  refine WL.cutV (T := Bool) 23 (fun t => [(33, (bv t)), e1, e2, e4]) (fun t => (x12 && e3) = t) (fun K => ?_) ?_
  ·
   rcases Bool.eq_false_or_eq_true x12 with h25 | h25
   ·
    refine WL.setB 26 h25 rfl ?_
    refine seg 23 [] [0, 1, 19, 33] [e1, e2, e4, (33, (bv e3))] [] (fun fb => by kernel_rfl) rfl trivial ?_
    exact WL.toV K (decide (w64 ((p0.length : Int) * (p1.length : Int)) > 100000)) [33, 0, 1, 19] rfl (by first | (rw [h25]; done) | (rw [h25]; rfl))
   refine WL.setB 26 h25 rfl ?_
   refine seg 23 [] [0, 1, 19, 33] [e1, e2, e4, (33, (bv false))] [] (fun fb => by kernel_rfl) rfl trivial ?_
   exact WL.toV K false [33, 0, 1, 19] rfl (by first | (rw [h25]; done) | (rw [h25]; rfl))
  rintro b26 rfl
  refine seg 24 [] [0, 1, 34] [e1, e2, (34, (bv (x12 && e3)))] [] (fun fb => by kernel_rfl) rfl trivial ?_
  injection hx5 with hx5
  exact WL.to K (x12 && e3) [0, 1, 34] rfl ⟨⟨(hS23.subR [0, 1, 2]).sub [] (by decide), hx5.symm⟩, trivial⟩
 rintro y27 w29 ⟨⟨hS30, hq28⟩, hF31⟩
 subst hq28
 refine WL.done rfl (WX.next ?_)
 rcases br_some hf with ⟨h32, hf⟩ | ⟨h32, hf⟩
 ·refine WC.condT2 (fun fb => by kernel_rfl) h32 ?_
  refine WC.seq (WC.region ?_)
  obtain ⟨t33, ht34, hf⟩ := bind_some hf
  refine WL.call (some 35) 9 #[] (fun fb => by kernel_rfl) (law04_awake_calls _ mG t33 _ (hS30.rd 2) ht34) (fun v w35 hR36 => ?_)
  obtain ⟨rfl, hk_⟩ := hR36
  have hS37 := hS30.keepN hk_
  refine ⟨trivial, ?_⟩
  refine seg 2 [] [4] [(4, (bv t33))] [] (fun fb => by kernel_rfl) rfl trivial ?_
  refine WL.done rfl (WX.next ?_)
  refine WC.ret ?_
  injection hf with hf
  subst hf
  exact WX.thenR (WX.ret_ [] (bv t33) [] (fun fb => by kernel_rfl) trivial ⟨_, rfl, rfl, hS37.keep⟩)
 refine WC.condF2 (fun fb => by kernel_rfl) h32 ?_
 refine WC.skip (WX.next (WC.seq (WC.region ?_)))
 refine seg 2 [] [0, 1, 37, 38] [e1, e2, (37, (sv Aa p0 ca)), (38, (sv Ab p1 cb))] [] (fun fb => by kernel_rfl) rfl trivial ?_
 obtain ⟨t38, ht39, hf⟩ := bind_some hf
 refine WL.call (some 39) 15 #[(sv Aa p0 ca), (sv Ab p1 cb)] (fun fb => by kernel_rfl) (strip_On_calls _ p0 p1 Aa ca Ab cb t38 _ (hS30.rd 0) (hS30.rd 1) ht39) (fun v w40 hR41 => ?_)
 obtain ⟨A43, c44, A45, c46, rfl, hk_⟩ := hR41
 have hS42 := hS.go w40 [rowO 53 enc_Tile A43 c44 t38.1, rowO 78 enc_A2_Int A45 c46 t38.2.1] (hS30.call hk_ [] [] (fun g hg => hg.elim) (by simp) (by decide))
 refine ⟨trivial, ?_⟩
 refine seg 10 [] [0, 1, 5, 6, 7] [e1, e2, (5, (sv A43 t38.1 c44)), (6, (sv A45 t38.2.1 c46)), (7, (iv t38.2.2))] [] (fun fb => by kernel_rfl) rfl trivial ?_
 refine WL.done rfl (WX.next (WC.seq (WC.seq (WC.region ?_))))
 refine seg 1 [] [0, 1, 5, 6, 7, 43] [e1, e2, (5, (sv A43 t38.1 c44)), (6, (sv A45 t38.2.1 c46)), (7, (iv t38.2.2)), (43, (sv Aa p0 ca))] [] (fun fb => by kernel_rfl) rfl trivial ?_
 obtain ⟨t47, ht48, hf⟩ := bind_some hf
 refine WL.call (some 44) 8 #[(sv Aa p0 ca)] (fun fb => by kernel_rfl) (ref01_Valid_calls _ p0 Aa ca t47 _ (hS42.rd 0) ht48) (fun v w49 hR50 => ?_)
 obtain ⟨rfl, hk_⟩ := hR50
 have hS51 := hS42.keepN hk_
 refine ⟨trivial, ?_⟩
 refine seg 4 [] [0, 1, 5, 6, 7, 46] [e1, e2, (5, (sv A43 t38.1 c44)), (6, (sv A45 t38.2.1 c46)), (7, (iv t38.2.2)), (46, (bv (!t47)))] [] (fun fb => by kernel_rfl) rfl trivial ?_
 obtain ⟨x52, hx53, hf⟩ := bind_some hf
 let e7 : Nat × Value := (6, (sv A45 t38.2.1 c46))
 let e9 : Nat × Value := (5, (sv A43 t38.1 c44))
 refine WL.cutW (T := Bool) 8 (fun t => [e1, e2, e9, e7, (7, (iv t38.2.2)), (50, (bv t))]) (fun t w1 => (St NoS w w1 e6 [rowO 53 enc_Tile A43 c44 t38.1, rowO 78 enc_A2_Int A45 c46 t38.2.1] ∧ x52 = t) ∧ CellsOK [] w1) (fun K => ?_) ?_
 ·
  rcases br_some hx53 with ⟨h54, hx53⟩ | ⟨h54, hx53⟩
  ·
   refine WL.setB 46 h54 rfl ?_
   refine seg 8 [] [0, 1, 5, 6, 7, 50] [e1, e2, e9, e7, (7, (iv t38.2.2)), (50, (bv true))] [] (fun fb => by kernel_rfl) rfl trivial ?_
   injection hx53 with hx53
   exact WL.to K true [0, 1, 5, 6, 7, 50] rfl ⟨⟨(hS51.subR [0, 1, 2]).sub [0, 1] (by decide), hx53.symm⟩, trivial⟩
  refine WL.setB 46 h54 rfl ?_
  refine seg 5 [] [0, 1, 5, 6, 7, 46, 47] [e1, e2, e9, e7, (7, (iv t38.2.2)), (46, (bv false)), (47, (sv Ab p1 cb))] [] (fun fb => by kernel_rfl) rfl trivial ?_
  obtain ⟨t55, ht56, hx53⟩ := bind_some hx53
  refine WL.call (some 48) 8 #[(sv Ab p1 cb)] (fun fb => by kernel_rfl) (ref01_Valid_calls _ p1 Ab cb t55 _ (hS51.rd 1) ht56) (fun v w57 hR58 => ?_)
  obtain ⟨rfl, hk_⟩ := hR58
  have hS59 := hS51.keepN hk_
  refine ⟨trivial, ?_⟩
  refine seg 8 [] [0, 1, 5, 6, 7, 50] [e1, e2, e9, e7, (7, (iv t38.2.2)), (50, (bv (!t55)))] [] (fun fb => by kernel_rfl) rfl trivial ?_
  injection hx53 with hx53
  exact WL.to K (!t55) [0, 1, 5, 6, 7, 50] rfl ⟨⟨(hS59.subR [0, 1, 2]).sub [0, 1] (by decide), hx53.symm⟩, trivial⟩
 rintro y60 w62 ⟨⟨hS63, hq61⟩, hF65⟩
 subst hq61
 refine WL.done rfl (WX.next ?_)
 let e5 := ((w64 ((t38.1.length : Int) + (t38.2.1.length : Int))) == 0)
 rcases br_some hf with ⟨h66, hf⟩ | ⟨h66, hf⟩
 ·refine WC.condT2 (fun fb => by kernel_rfl) h66 ?_
  refine WC.seq (WC.region ?_)
  refine seg 3 [] [5, 6, 53] [e9, e7, (53, (bv (t38.2.2 == 1)))] [] (fun fb => by kernel_rfl) rfl trivial ?_
  refine WL.cutV (T := Bool) 10 (fun t => [(60, (bv t))]) (fun t => ((t38.2.2 == 1) && e5) = t) (fun K => ?_) ?_
  ·
   rcases Bool.eq_false_or_eq_true (t38.2.2 == 1) with h67 | h67
   ·
    refine WL.setB 53 h67 rfl ?_
    refine seg 10 [] [60] [(60, (bv e5))] [] (fun fb => by kernel_rfl) rfl trivial ?_
    exact WL.toV K ((w64 ((t38.1.length : Int) + (t38.2.1.length : Int))) == 0) [60] rfl (by first | (rw [h67]; done) | (rw [h67]; rfl))
   refine WL.setB 53 h67 rfl ?_
   refine seg 10 [] [60] [(60, (bv false))] [] (fun fb => by kernel_rfl) rfl trivial ?_
   exact WL.toV K false [60] rfl (by first | (rw [h67]; done) | (rw [h67]; rfl))
  rintro b68 rfl
  refine seg 11 [] [61] [(61, (bv ((t38.2.2 == 1) && e5)))] [] (fun fb => by kernel_rfl) rfl trivial ?_
  obtain ⟨x69, hx70, hf⟩ := bind_some hf
  refine WL.cutW (T := Bool) 13 (fun t => [(63, (bv t))]) (fun t w1 => (St NoS w w1 e6 [] ∧ x69 = t) ∧ CellsOK [] w1) (fun K => ?_) ?_
  ·
   rcases br_some hx70 with ⟨h71, hx70⟩ | ⟨h71, hx70⟩
   ·
    refine WL.setB 61 h71 rfl ?_
    obtain ⟨t72, ht73, hx70⟩ := bind_some hx70
    refine WL.call (some 62) 9 #[] (fun fb => by kernel_rfl) (law04_awake_calls _ mG t72 _ (hS63.rd 2) ht73) (fun v w74 hR75 => ?_)
    obtain ⟨rfl, hk_⟩ := hR75
    have hS76 := hS63.keepN hk_
    refine ⟨trivial, ?_⟩
    refine seg 13 [] [63] [(63, (bv t72))] [] (fun fb => by kernel_rfl) rfl trivial ?_
    injection hx70 with hx70
    exact WL.to K t72 [63] rfl ⟨⟨(hS76.subR [0, 1, 2]).sub [] (by decide), hx70.symm⟩, trivial⟩
   refine WL.setB 61 h71 rfl ?_
   refine seg 13 [] [63] [(63, (bv false))] [] (fun fb => by kernel_rfl) rfl trivial ?_
   injection hx70 with hx70
   exact WL.to K false [63] rfl ⟨⟨(hS63.subR [0, 1, 2]).sub [] (by decide), hx70.symm⟩, trivial⟩
  rintro y77 w79 ⟨⟨hS80, hq78⟩, hF81⟩
  subst hq78
  refine seg 14 [] [4] [(4, (bv x69))] [] (fun fb => by kernel_rfl) rfl trivial ?_
  refine WL.done rfl (WX.next ?_)
  refine WC.ret ?_
  injection hf with hf
  subst hf
  exact WX.thenR (WX.ret_ [] (bv x69) [] (fun fb => by kernel_rfl) trivial ⟨_, rfl, rfl, hS80.keep⟩)
 refine WC.condF2 (fun fb => by kernel_rfl) h66 ?_
 refine WC.skip (WX.next (WC.seq (WC.region ?_)))
 refine seg 2 [] [5, 6, 7, 65, 66] [e9, e7, (7, (iv t38.2.2)), (65, (sv Aa p0 ca)), (66, (sv Ab p1 cb))] [] (fun fb => by kernel_rfl) rfl trivial ?_
 obtain ⟨t82, ht83, hf⟩ := bind_some hf
 refine WL.call (some 67) 16 #[(sv Aa p0 ca), (sv Ab p1 cb)] (fun fb => by kernel_rfl) (ref04_On_calls _ p0 p1 Aa ca Ab cb t82 _ (hS63.rd 0) (hS63.rd 1) ht83) (fun v w84 hR85 => ?_)
 obtain ⟨A87, c88, A89, c90, rfl, hk_⟩ := hR85
 have hS86 := hS42.go w84 [rowO 53 enc_Tile A87 c88 t82.1, rowO 78 enc_A2_Int A89 c90 t82.2.1, rowO 53 enc_Tile A43 c44 t38.1, rowO 78 enc_A2_Int A45 c46 t38.2.1] (hS63.call hk_ [] [0, 1] (fun g hg => hg.elim) (by simp) (by decide))
 refine ⟨trivial, ?_⟩
 refine seg 10 [] [5, 6, 7, 8, 9, 10] [e9, e7, (7, (iv t38.2.2)), (8, (sv A87 t82.1 c88)), (9, (sv A89 t82.2.1 c90)), (10, (bv t82.2.2))] [] (fun fb => by kernel_rfl) rfl trivial ?_
 refine WL.done rfl (WX.next (WC.seq (WC.seq (WC.region ?_))))
 refine seg 2 [] [5, 6, 7, 8, 9, 72] [e9, e7, (7, (iv t38.2.2)), (8, (sv A87 t82.1 c88)), (9, (sv A89 t82.2.1 c90)), (72, (bv (!t82.2.2)))] [] (fun fb => by kernel_rfl) rfl trivial ?_
 refine WL.done rfl (WX.next ?_)
 rcases br_some hf with ⟨h91, hf⟩ | ⟨h91, hf⟩
 ·refine WC.condT2 (fun fb => by kernel_rfl) h91 ?_
  refine WC.seq (WC.region ?_)
  refine seg 3 [] [5, 6, 75] [e9, e7, (75, (bv (t38.2.2 == 4)))] [] (fun fb => by kernel_rfl) rfl trivial ?_
  refine WL.cutV (T := Bool) 10 (fun t => [(82, (bv t))]) (fun t => ((t38.2.2 == 4) && e5) = t) (fun K => ?_) ?_
  ·
   rcases Bool.eq_false_or_eq_true (t38.2.2 == 4) with h92 | h92
   ·
    refine WL.setB 75 h92 rfl ?_
    refine seg 10 [] [82] [(82, (bv e5))] [] (fun fb => by kernel_rfl) rfl trivial ?_
    exact WL.toV K ((w64 ((t38.1.length : Int) + (t38.2.1.length : Int))) == 0) [82] rfl (by first | (rw [h92]; done) | (rw [h92]; rfl))
   refine WL.setB 75 h92 rfl ?_
   refine seg 10 [] [82] [(82, (bv false))] [] (fun fb => by kernel_rfl) rfl trivial ?_
   exact WL.toV K false [82] rfl (by first | (rw [h92]; done) | (rw [h92]; rfl))
  rintro b93 rfl
  refine seg 11 [] [83] [(83, (bv ((t38.2.2 == 4) && e5)))] [] (fun fb => by kernel_rfl) rfl trivial ?_
  obtain ⟨x94, hx95, hf⟩ := bind_some hf
  refine WL.cutW (T := Bool) 13 (fun t => [(85, (bv t))]) (fun t w1 => (St NoS w w1 e6 [] ∧ x94 = t) ∧ CellsOK [] w1) (fun K => ?_) ?_
  ·
   rcases br_some hx95 with ⟨h96, hx95⟩ | ⟨h96, hx95⟩
   ·
    refine WL.setB 83 h96 rfl ?_
    obtain ⟨t97, ht98, hx95⟩ := bind_some hx95
    refine WL.call (some 84) 9 #[] (fun fb => by kernel_rfl) (law04_awake_calls _ mG t97 _ (hS86.rd 2) ht98) (fun v w99 hR100 => ?_)
    obtain ⟨rfl, hk_⟩ := hR100
    have hS101 := hS86.keepN hk_
    refine ⟨trivial, ?_⟩
    refine seg 13 [] [85] [(85, (bv t97))] [] (fun fb => by kernel_rfl) rfl trivial ?_
    injection hx95 with hx95
    exact WL.to K t97 [85] rfl ⟨⟨(hS101.subR [0, 1, 2]).sub [] (by decide), hx95.symm⟩, trivial⟩
   refine WL.setB 83 h96 rfl ?_
   refine seg 13 [] [85] [(85, (bv false))] [] (fun fb => by kernel_rfl) rfl trivial ?_
   injection hx95 with hx95
   exact WL.to K false [85] rfl ⟨⟨(hS86.subR [0, 1, 2]).sub [] (by decide), hx95.symm⟩, trivial⟩
  rintro y102 w104 ⟨⟨hS105, hq103⟩, hF106⟩
  subst hq103
  refine seg 14 [] [4] [(4, (bv x94))] [] (fun fb => by kernel_rfl) rfl trivial ?_
  refine WL.done rfl (WX.next ?_)
  refine WC.ret ?_
  injection hf with hf
  subst hf
  exact WX.thenR (WX.ret_ [] (bv x94) [] (fun fb => by kernel_rfl) trivial ⟨_, rfl, rfl, hS105.keep⟩)
 refine WC.condF2 (fun fb => by kernel_rfl) h91 ?_
 refine WC.skip (WX.next (WC.seq (WC.region ?_)))
 refine seg 3 [] [5, 6, 8, 9, 88] [e9, e7, (8, (sv A87 t82.1 c88)), (9, (sv A89 t82.2.1 c90)), (88, (bv (t38.2.2 == 0)))] [] (fun fb => by kernel_rfl) rfl trivial ?_
 obtain ⟨x107, hx108, hf⟩ := bind_some hf
 let e8 : Nat × Value := (9, (sv A89 t82.2.1 c90))
 refine WL.cutW (T := Bool) 7 (fun t => [e7, e8, (92, (bv t))]) (fun t w1 => (St NoS w w1 e6 [rowO 78 enc_A2_Int A45 c46 t38.2.1, rowO 78 enc_A2_Int A89 c90 t82.2.1] ∧ x107 = t) ∧ CellsOK [] w1) (fun K => ?_) ?_
 ·
  rcases br_some hx108 with ⟨h109, hx108⟩ | ⟨h109, hx108⟩
  ·
   refine WL.setB 88 h109 rfl ?_
   refine seg 5 [] [6, 9, 88, 89, 90] [e7, e8, (88, (bv true)), (89, (sv A43 t38.1 c44)), (90, (sv A87 t82.1 c88))] [] (fun fb => by kernel_rfl) rfl trivial ?_
   obtain ⟨t110, ht111, hx108⟩ := bind_some hx108
   refine WL.call (some 91) 17 #[(sv A43 t38.1 c44), (sv A87 t82.1 c88)] (fun fb => by kernel_rfl) (ref01_SameSet_calls _ t38.1 t82.1 A43 c44 A87 c88 t110 _ (hS86.ow 2).ofO (hS86.ow 0).ofO ht111) (fun v w112 hR113 => ?_)
   obtain ⟨rfl, hk_⟩ := hR113
   have hS114 := hS86.keepN hk_
   refine ⟨trivial, ?_⟩
   refine seg 7 [] [6, 9, 92] [e7, e8, (92, (bv t110))] [] (fun fb => by kernel_rfl) rfl trivial ?_
   injection hx108 with hx108
   exact WL.to K t110 [6, 9, 92] rfl ⟨⟨(hS114.subR [0, 1, 2]).sub [3, 1] (by decide), hx108.symm⟩, trivial⟩
  refine WL.setB 88 h109 rfl ?_
  refine seg 7 [] [6, 9, 92] [e7, e8, (92, (bv false))] [] (fun fb => by kernel_rfl) rfl trivial ?_
  injection hx108 with hx108
  exact WL.to K false [6, 9, 92] rfl ⟨⟨(hS86.subR [0, 1, 2]).sub [3, 1] (by decide), hx108.symm⟩, trivial⟩
 rintro y115 w117 ⟨⟨hS118, hq116⟩, hF119⟩
 subst hq116
 refine seg 8 [] [6, 9, 93] [e7, e8, (93, (bv x107))] [] (fun fb => by kernel_rfl) rfl trivial ?_
 obtain ⟨x120, hx121, hf⟩ := bind_some hf
 refine WL.cutW (T := Bool) 12 (fun t => [(97, (bv t))]) (fun t w1 => (St NoS w w1 e6 [] ∧ x120 = t) ∧ CellsOK [] w1) (fun K => ?_) ?_
 ·
  rcases br_some hx121 with ⟨h122, hx121⟩ | ⟨h122, hx121⟩
  ·
   refine WL.setB 93 h122 rfl ?_
   refine seg 10 [] [93, 94, 95] [(93, (bv true)), (94, (sv A45 t38.2.1 c46)), (95, (sv A89 t82.2.1 c90))] [] (fun fb => by kernel_rfl) rfl trivial ?_
   obtain ⟨t123, ht124, hx121⟩ := bind_some hx121
   refine WL.call (some 96) 18 #[(sv A45 t38.2.1 c46), (sv A89 t82.2.1 c90)] (fun fb => by kernel_rfl) (law04_pairs_calls _ t38.2.1 t82.2.1 A45 c46 A89 c90 t123 _ (hS118.ow 0).ofO (hS118.ow 1).ofO ht124) (fun v w125 hR126 => ?_)
   obtain ⟨rfl, hk_⟩ := hR126
   have hS127 := hS118.keepN hk_
   refine ⟨trivial, ?_⟩
   refine seg 12 [] [97] [(97, (bv t123))] [] (fun fb => by kernel_rfl) rfl trivial ?_
   injection hx121 with hx121
   exact WL.to K t123 [97] rfl ⟨⟨(hS127.subR [0, 1, 2]).sub [] (by decide), hx121.symm⟩, trivial⟩
  refine WL.setB 93 h122 rfl ?_
  refine seg 12 [] [97] [(97, (bv false))] [] (fun fb => by kernel_rfl) rfl trivial ?_
  injection hx121 with hx121
  exact WL.to K false [97] rfl ⟨⟨(hS118.subR [0, 1, 2]).sub [] (by decide), hx121.symm⟩, trivial⟩
 rintro y128 w130 ⟨⟨hS131, hq129⟩, hF132⟩
 subst hq129
 refine seg 13 [] [98] [(98, (bv x120))] [] (fun fb => by kernel_rfl) rfl trivial ?_
 obtain ⟨x133, hx134, hf⟩ := bind_some hf
 refine WL.cutW (T := Bool) 15 (fun t => [(100, (bv t))]) (fun t w1 => (St NoS w w1 e6 [] ∧ x133 = t) ∧ CellsOK [] w1) (fun K => ?_) ?_
 ·
  rcases br_some hx134 with ⟨h135, hx134⟩ | ⟨h135, hx134⟩
  ·
   refine WL.setB 98 h135 rfl ?_
   obtain ⟨t136, ht137, hx134⟩ := bind_some hx134
   refine WL.call (some 99) 9 #[] (fun fb => by kernel_rfl) (law04_awake_calls _ mG t136 _ (hS131.rd 2) ht137) (fun v w138 hR139 => ?_)
   obtain ⟨rfl, hk_⟩ := hR139
   have hS140 := hS131.keepN hk_
   refine ⟨trivial, ?_⟩
   refine seg 15 [] [100] [(100, (bv t136))] [] (fun fb => by kernel_rfl) rfl trivial ?_
   injection hx134 with hx134
   exact WL.to K t136 [100] rfl ⟨⟨(hS140.subR [0, 1, 2]).sub [] (by decide), hx134.symm⟩, trivial⟩
  refine WL.setB 98 h135 rfl ?_
  refine seg 15 [] [100] [(100, (bv false))] [] (fun fb => by kernel_rfl) rfl trivial ?_
  injection hx134 with hx134
  exact WL.to K false [100] rfl ⟨⟨(hS131.subR [0, 1, 2]).sub [] (by decide), hx134.symm⟩, trivial⟩
 rintro y141 w143 ⟨⟨hS144, hq142⟩, hF145⟩
 subst hq142
 refine seg 16 [] [4] [(4, (bv x133))] [] (fun fb => by kernel_rfl) rfl trivial ?_
 refine WL.done rfl (WX.next ?_)
 refine WC.ret ?_
 injection hf with hf
 subst hf
 exact WX.ret_ [] (bv x133) [] (fun fb => by kernel_rfl) trivial ⟨_, rfl, rfl, hS144.keep⟩
end Gp
