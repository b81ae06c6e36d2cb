/- Walks: each function of the program computes its plain function. -/
import Derived.Test.YtpbnoldflfcllaaGx5
set_option linter.unusedVariables false
set_option linter.unusedSimpArgs false
set_option maxHeartbeats 4000000
set_option maxRecDepth 8000
namespace Gp
open Go Gw Go.Proofs
theorem law10_CensusAll_calls (k : Nat) (p0 : Int)  (r : Bool) (w : World)  (hf : law10_CensusAll k p0 = some r) :
  CallsR Try.prog 3 #[(iv p0)] w (fun v w' => v = (bv r) ∧ Keeps NoS w w') := by
 have hS : St NoS w w [] [] := St.init (ro_nil _ _)
 refine enter 102 Try.func3 rfl Try.ntmps3 rfl ?_
 unfold law10_CensusAll at hf
 refine WC.seq (WC.region ?_)
 refine sg 1 [] [0] [(0, (iv p0))] (by kernel_rfl) ?_
 refine WL.done rfl (WX.next (WC.seq (WC.region ?_)))
 refine sg 1 [] [0, 7] [(0, (iv p0)), (7, (iv p0))] (by kernel_rfl) ?_
 obtain ⟨t4, ht5, hf⟩ := bind_some hf
 refine WL.call (some 8) 8 #[(iv p0)] (fun fb => by kernel_rfl) (census_All_calls _ p0 t4 _ ht5) (fun v w6 hR7 => ?_)
 obtain ⟨A9, c11, H12, rfl, hk_⟩ := hR7
 have hS8 := hS.go w6 [rowO 28 (encSl Tile) A9 c11 (tag H12 t4.1), rowsO 48 enc_Tile H12 t4.1] (hS.call hk_ [] [] (fun g hg => hg.elim) (by simp) (by decide))
 refine ⟨trivial, ?_⟩
 refine sg 7 [] [0, 3, 4] [(0, (iv p0)), (3, (sv A9 t4.1 c11)), (4, (iv t4.2))] (by kernel_rfl) ?_
 refine WL.done rfl (WX.next (WC.seq (WC.seq (WC.region ?_))))
 refine sg 3 [] [0, 3, 4, 13] [(0, (iv p0)), (3, (sv A9 t4.1 c11)), (4, (iv t4.2)), (13, (bv (decide (p0 < 0))))] (by kernel_rfl) ?_
 refine WL.cutV (T := Bool) 6 (fun t => [(16, (bv t)), (0, (iv p0)), (3, (sv A9 t4.1 c11)), (4, (iv t4.2))]) (fun t => ((decide (p0 < 0)) || (decide (p0 > 3))) = t) (fun K => ?_) ?_
 ·
  rcases Bool.eq_false_or_eq_true (decide (p0 < 0)) with h13 | h13
  ·
   refine WL.setB 13 h13 rfl ?_
   refine sg 6 [] [0, 3, 4, 16] [(0, (iv p0)), (3, (sv A9 t4.1 c11)), (4, (iv t4.2)), (16, (bv true))] (by kernel_rfl) ?_
   exact WL.toV K true [16, 0, 3, 4] rfl (by first | (rw [h13]; done) | (rw [h13]; rfl))
  refine WL.setB 13 h13 rfl ?_
  refine sg 6 [] [0, 3, 4, 16] [(0, (iv p0)), (3, (sv A9 t4.1 c11)), (4, (iv t4.2)), (16, (bv (decide (p0 > 3))))] (by kernel_rfl) ?_
  exact WL.toV K (decide (p0 > 3)) [16, 0, 3, 4] rfl (by first | (rw [h13]; done) | (rw [h13]; rfl))
 rintro b14 rfl
 refine WL.done rfl (WX.next ?_)
 rcases br_some hf with ⟨h15, hf⟩ | ⟨h15, hf⟩
 ·refine WC.condT2 (fun fb => by kernel_rfl) h15 ?_
  refine WC.seq (WC.region ?_)
  refine sg 3 [] [3, 19] [(3, (sv A9 t4.1 c11)), (19, (bv (t4.2 == 2)))] (by kernel_rfl) ?_
  refine WL.cutV (T := Bool) 7 (fun t => [(23, (bv t))]) (fun t => ((t4.2 == 2) && ((t4.1.length : Int) == 0)) = t) (fun K => ?_) ?_
  ·
   rcases Bool.eq_false_or_eq_true (t4.2 == 2) with h16 | h16
   ·
    refine WL.setB 19 h16 rfl ?_
    refine sg 7 [] [23] [(23, (bv ((t4.1.length : Int) == 0)))] (by kernel_rfl) ?_
    exact WL.toV K ((t4.1.length : Int) == 0) [23] rfl (by first | (rw [h16]; done) | (rw [h16]; rfl))
   refine WL.setB 19 h16 rfl ?_
   refine sg 7 [] [23] [(23, (bv false))] (by kernel_rfl) ?_
   exact WL.toV K false [23] rfl (by first | (rw [h16]; done) | (rw [h16]; rfl))
  rintro b17 rfl
  refine sg 8 [] [24] [(24, (bv ((t4.2 == 2) && ((t4.1.length : Int) == 0))))] (by kernel_rfl) ?_
  obtain ⟨x18, hx19, hf⟩ := bind_some hf
  refine WL.cutW (T := Bool) 10 (fun t => [(26, (bv t))]) (fun t w1 => (St NoS w w1 [] [] ∧ x18 = t) ∧ CellsOK [] w1) (fun K => ?_) ?_
  ·
   rcases br_some hx19 with ⟨h20, hx19⟩ | ⟨h20, hx19⟩
   ·
    refine WL.setB 24 h20 rfl ?_
    obtain ⟨t21, ht22, hx19⟩ := bind_some hx19
    refine WL.call (some 25) 9 #[] (fun fb => by kernel_rfl) (law10_awake_calls _ t21 _ ht22) (fun v w23 hR24 => ?_)
    obtain ⟨rfl, hk_⟩ := hR24
    have hS25 := hS8.keepN hk_
    refine ⟨trivial, ?_⟩
    refine sg 10 [] [26] [(26, (bv t21))] (by kernel_rfl) ?_
    injection hx19 with hx19
    exact WL.to K t21 [26] rfl ⟨⟨(hS25.subR []).sub [] (by decide), hx19.symm⟩, trivial⟩
   refine WL.setB 24 h20 rfl ?_
   refine sg 10 [] [26] [(26, (bv false))] (by kernel_rfl) ?_
   injection hx19 with hx19
   exact WL.to K false [26] rfl ⟨⟨(hS8.subR []).sub [] (by decide), hx19.symm⟩, trivial⟩
  rintro y26 w28 ⟨⟨hS29, hq27⟩, hF30⟩
  subst hq27
  refine sg 11 [] [2] [(2, (bv x18))] (by kernel_rfl) ?_
  refine WL.done rfl (WX.next ?_)
  refine WC.ret ?_
  injection hf with hf
  subst hf
  exact WX.thenR (WX.ret_ [] (bv x18) [] (fun fb => by kernel_rfl) trivial ⟨_, rfl, rfl, hS29.keep⟩)
 refine WC.condF2 (fun fb => by kernel_rfl) h15 ?_
 refine WC.skip (WX.next (WC.seq (WC.seq (WC.region ?_))))
 refine sg 3 [] [0, 3, 29] [(0, (iv p0)), (3, (sv A9 t4.1 c11)), (29, (bv (t4.2 != 0)))] (by kernel_rfl) ?_
 obtain ⟨x31, hx32, hf⟩ := bind_some hf
 let e50 : Nat × Value := (3, (sv A9 t4.1 c11))
 refine WL.cutW (T := Bool) 10 (fun t => [(0, (iv p0)), e50, (36, (bv t))]) (fun t w1 => (St NoS w w1 [] [rowO 28 (encSl Tile) A9 c11 (tag H12 t4.1), rowsO 48 enc_Tile H12 t4.1] ∧ x31 = t) ∧ CellsOK [] w1) (fun K => ?_) ?_
 ·
  rcases br_some hx32 with ⟨h33, hx32⟩ | ⟨h33, hx32⟩
  ·
   refine WL.setB 29 h33 rfl ?_
   refine sg 10 [] [0, 3, 36] [(0, (iv p0)), e50, (36, (bv true))] (by kernel_rfl) ?_
   injection hx32 with hx32
   exact WL.to K true [0, 3, 36] rfl ⟨⟨(hS8.subR []).sub [0, 1] (by decide), hx32.symm⟩, trivial⟩
  refine WL.setB 29 h33 rfl ?_
  refine sg 6 [] [0, 3, 29, 31, 32] [(0, (iv p0)), e50, (29, (bv false)), (31, (iv (t4.1.length : Int))), (32, (iv p0))] (by kernel_rfl) ?_
  obtain ⟨t34, ht35, hx32⟩ := bind_some hx32
  refine WL.call (some 33) 10 #[(iv p0)] (fun fb => by kernel_rfl) (ref10_All_calls _ p0 t34 _ ht35) (fun v w36 hR37 => ?_)
  obtain ⟨A39, c40, H41, rfl, hk_⟩ := hR37
  have hS38 := hS8.go w36 [rowO 28 (encSl Tile) A39 c40 (tag H41 t34), rowsO 48 enc_Tile H41 t34, rowO 28 (encSl Tile) A9 c11 (tag H12 t4.1), rowsO 48 enc_Tile H12 t4.1] (hS8.call hk_ [] [0, 1] (fun g hg => hg.elim) (by simp) (by decide))
  refine ⟨trivial, ?_⟩
  refine sg 10 [] [0, 3, 36] [(0, (iv p0)), e50, (36, (bv ((t4.1.length : Int) != (t34.length : Int))))] (by kernel_rfl) ?_
  injection hx32 with hx32
  exact WL.to K ((t4.1.length : Int) != (t34.length : Int)) [0, 3, 36] rfl ⟨⟨(hS38.subR []).sub [2, 3] (by decide), hx32.symm⟩, trivial⟩
 rintro y42 w44 ⟨⟨hS45, hq43⟩, hF46⟩
 subst hq43
 refine WL.done rfl (WX.next ?_)
 rcases br_some hf with ⟨h47, hf⟩ | ⟨h47, hf⟩
 ·refine WC.condT2 (fun fb => by kernel_rfl) h47 ?_
  refine WC.seq (WC.region ?_)
  refine sg 1 [] [2] [(2, (bv false))] (by kernel_rfl) ?_
  refine WL.done rfl (WX.next ?_)
  refine WC.ret ?_
  injection hf with hf
  subst hf
  exact WX.thenR (WX.ret_ [] (bv false) [] (fun fb => by kernel_rfl) trivial ⟨_, rfl, rfl, hS45.keep⟩)
 refine WC.condF2 (fun fb => by kernel_rfl) h47 ?_
 refine WC.skip (WX.next (WC.seq (WC.seq (WC.region ?_))))
 refine sg 1 [] [0, 3, 5] [(0, (iv p0)), e50, (5, (iv 0))] (by kernel_rfl) ?_
 refine WL.done rfl (WX.next ?_)
 obtain ⟨x49, hx50, hf⟩ := bind_some hf
 let e21 : List Nat := [0, 1, 2, 3, 4, 5, 6, 7, 8, 9, 10, 11, 12, 13, 14, 15, 16, 17, 18, 19, 20, 21, 22, 23, 24, 25, 26, 27, 28, 29, 30, 31, 32, 33, 34, 35, 36, 37, 38, 39, 40, 41, 42, 43, 44]
 let e28 : List Nat := [0, 1, 2, 3, 4, 5, 6, 7, 8, 9, 10, 11, 12, 13, 14, 15, 16, 17, 18, 19, 20, 21, 22, 23, 24, 25, 26, 27]
 let e51 : List Nat := [0, 1, 2, 3, 4, 5, 6, 7, 8, 9, 10, 11, 12, 13, 14, 15]
 let e1 := [[], [], [0, 1], [0, 1, 2], [0, 1, 2, 3], [], [0, 1, 2, 3, 4, 5], [0, 1, 2, 3, 4, 5, 6], [0, 1, 2, 3, 4, 5, 6, 7], [0, 1, 2, 3, 4, 5, 6, 7], [0, 1, 2, 3, 4, 5, 6, 7, 8, 9], [0, 1, 2, 3, 4, 5, 6, 7, 8, 9, 10], [0, 1, 2, 3, 4, 5, 6, 7, 8, 9, 10, 11], [0, 1, 2, 3, 4, 5, 6, 7, 8, 9, 10, 11, 12], [0, 1, 2, 3, 4, 5, 6, 7, 8, 9, 10, 11, 12, 13], [0, 1, 2, 3, 4, 5, 6, 7, 8, 9, 10, 11, 12, 13, 14], e51, e51, [0, 1, 2, 3, 4, 5, 6, 7, 8, 9, 10, 11, 12, 13, 14, 15, 16, 17], [0, 1, 2, 3, 4, 5, 6, 7, 8, 9, 10, 11, 12, 13, 14, 15, 16, 17, 18], [0, 1, 2, 3, 4, 5, 6, 7, 8, 9, 10, 11, 12, 13, 14, 15, 16, 17, 18, 19], [0, 1, 2, 3, 4, 5, 6, 7, 8, 9, 10, 11, 12, 13, 14, 15, 16, 17, 18, 19, 20], [0, 1, 2, 3, 4, 5, 6, 7, 8, 9, 10, 11, 12, 13, 14, 15, 16, 17, 18, 19, 20, 21], [0, 1, 2, 3, 4, 5, 6, 7, 8, 9, 10, 11, 12, 13, 14, 15, 16, 17, 18, 19, 20, 21, 22], [0, 1, 2, 3, 4, 5, 6, 7, 8, 9, 10, 11, 12, 13, 14, 15, 16, 17, 18, 19, 20, 21, 22, 23], [0, 1, 2, 3, 4, 5, 6, 7, 8, 9, 10, 11, 12, 13, 14, 15, 16, 17, 18, 19, 20, 21, 22, 23, 24], [0, 1, 2, 3, 4, 5, 6, 7, 8, 9, 10, 11, 12, 13, 14, 15, 16, 17, 18, 19, 20, 21, 22, 23, 24, 25], [0, 1, 2, 3, 4, 5, 6, 7, 8, 9, 10, 11, 12, 13, 14, 15, 16, 17, 18, 19, 20, 21, 22, 23, 24, 25, 26], e28, e28, [0, 1, 2, 3, 4, 5, 6, 7, 8, 9, 10, 11, 12, 13, 14, 15, 16, 17, 18, 19, 20, 21, 22, 23, 24, 25, 26, 27, 28, 29], [0, 1, 2, 3, 4, 5, 6, 7, 8, 9, 10, 11, 12, 13, 14, 15, 16, 17, 18, 19, 20, 21, 22, 23, 24, 25, 26, 27, 28, 29, 30], [0, 1, 2, 3, 4, 5, 6, 7, 8, 9, 10, 11, 12, 13, 14, 15, 16, 17, 18, 19, 20, 21, 22, 23, 24, 25, 26, 27, 28, 29, 30, 31], e28, e28, [0, 1, 2, 3, 4, 5, 6, 7, 8, 9, 10, 11, 12, 13, 14, 15, 16, 17, 18, 19, 20, 21, 22, 23, 24, 25, 26, 27, 33, 34], [0, 1, 2, 3, 4, 5, 6, 7, 8, 9, 10, 11, 12, 13, 14, 15, 16, 17, 18, 19, 20, 21, 22, 23, 24, 25, 26, 27, 33, 34, 35], [0, 1, 2, 3, 4, 5, 6, 7, 8, 9, 10, 11, 12, 13, 14, 15, 16, 17, 18, 19, 20, 21, 22, 23, 24, 25, 26, 27, 28, 29, 30, 31, 32, 33, 34, 35, 36], [0, 1, 2, 3, 4, 5, 6, 7, 8, 9, 10, 11, 12, 13, 14, 15, 16, 17, 18, 19, 20, 21, 22, 23, 24, 25, 26, 27, 28, 29, 30, 31, 32, 33, 34, 35, 36, 37], [0, 1, 2, 3, 4, 5, 6, 7, 8, 9, 10, 11, 12, 13, 14, 15, 16, 17, 18, 19, 20, 21, 22, 23, 24, 25, 26, 27, 28, 29, 30, 31, 32, 33, 34, 35, 36, 37, 38], [0, 1, 2, 3, 4, 5, 6, 7, 8, 9, 10, 11, 12, 13, 14, 15, 16, 17, 18, 19, 20, 21, 22, 23, 24, 25, 26, 27, 28, 29, 30, 31, 32, 33, 34, 35, 36, 37, 38, 39], [0, 1, 2, 3, 4, 5, 6, 7, 8, 9, 10, 11, 12, 13, 14, 15, 16, 17, 18, 19, 20, 21, 22, 23, 24, 25, 26, 27, 28, 29, 30, 31, 32, 33, 34, 35, 36, 37, 38, 39, 40], [0, 1, 2, 3, 4, 5, 6, 7, 8, 9, 10, 11, 12, 13, 14, 15, 16, 17, 18, 19, 20, 21, 22, 23, 24, 25, 26, 27, 28, 29, 30, 31, 32, 33, 34, 35, 36, 37, 38, 39, 40, 41], [0, 1, 2, 3, 4, 5, 6, 7, 8, 9, 10, 11, 12, 13, 14, 15, 16, 17, 18, 19, 20, 21, 22, 23, 24, 25, 26, 27, 28, 29, 30, 31, 32, 33, 34, 35, 36, 37, 38, 39, 40, 41, 42], [0, 1, 2, 3, 4, 5, 6, 7, 8, 9, 10, 11, 12, 13, 14, 15, 16, 17, 18, 19, 20, 21, 22, 23, 24, 25, 26, 27, 28, 29, 30, 31, 32, 33, 34, 35, 36, 37, 38, 39, 40, 41, 42, 43], e21, e21, [0, 1, 2, 3, 4, 5, 6, 7, 8, 9, 10, 11, 12, 13, 14, 15, 16, 17, 18, 19, 20, 21, 22, 23, 24, 25, 26, 27, 28, 29, 30, 31, 32, 33, 34, 35, 36, 37, 38, 39, 40, 41, 42, 43, 44, 46], [0, 1, 2, 3, 4, 5, 6, 7, 8, 9, 10, 11, 12, 13, 14, 15, 16, 17, 18, 19, 20, 21, 22, 23, 24, 25, 26, 27, 28, 29, 30, 31, 32, 33, 34, 35, 36, 37, 38, 39, 40, 41, 42, 43, 44, 45, 46, 47], [0, 1, 2, 3, 4, 5, 6, 7, 8, 9, 10, 11, 12, 13, 14, 15, 16, 17, 18, 19, 20, 21, 22, 23, 24, 25, 26, 27, 28, 29, 30, 31, 32, 33, 34, 35, 36, 37, 38, 39, 40, 41, 42, 43, 44, 45, 46, 47, 48], e21, e21, [0, 1, 2, 3, 4, 5, 6, 7, 8, 9, 10, 11, 12, 13, 14, 15, 16, 17, 18, 19, 20, 21, 22, 23, 24, 25, 26, 27, 28, 29, 30, 31, 32, 33, 34, 35, 36, 37, 38, 39, 40, 41, 42, 43, 44, 50, 51], [0, 1, 2, 3, 4, 5, 6, 7, 8, 9, 10, 11, 12, 13, 14, 15, 16, 17, 18, 19, 20, 21, 22, 23, 24, 25, 26, 27, 28, 29, 30, 31, 32, 33, 34, 35, 36, 37, 38, 39, 40, 41, 42, 43, 44, 50, 51, 52], [0, 1, 2, 3, 4, 5, 6, 7, 8, 9, 10, 11, 12, 13, 14, 15, 16, 17, 18, 19, 20, 21, 22, 23, 24, 25, 26, 27, 28, 29, 30, 31, 32, 33, 34, 35, 36, 37, 38, 39, 40, 41, 42, 43, 44, 45, 46, 47, 48, 49, 50, 51, 52, 53], [0, 1, 2, 3, 4, 5, 6, 7, 8, 9, 10, 11, 12, 13, 14, 15, 16, 17, 18, 19, 20, 21, 22, 23, 24, 25, 26, 27, 28, 29, 30, 31, 32, 33, 34, 35, 36, 37, 38, 39, 40, 41, 42, 43, 44, 45, 46, 47, 48, 49, 50, 51, 52, 53, 54], [0, 1, 2, 3, 4, 5, 6, 7, 8, 9, 10, 11, 12, 13, 14, 15, 16, 17, 18, 19, 20, 21, 22, 23, 24, 25, 26, 27, 28, 29, 30, 31, 32, 33, 34, 35, 36, 37, 38, 39, 40, 41, 42, 43, 44, 45, 46, 47, 48, 49, 50, 51, 52, 53, 54, 55], [0, 1, 2, 3, 4, 5, 6, 7, 8, 9, 10, 11, 12, 13, 14, 15, 16, 17, 18, 19, 20, 21, 22, 23, 24, 25, 26, 27, 28, 29, 30, 31, 32, 33, 34, 35, 36, 37, 38, 39, 40, 41, 42, 43, 44, 45, 46, 47, 48, 49, 50, 51, 52, 53, 54, 55, 56]]
 let e3 : Nat × Value := e50
 let e4 := [[0, 1, 2, 3, 4, 5, 6, 7, 8, 9, 10, 11, 12, 13, 14, 15, 16, 17, 18, 19, 20, 21, 22, 23, 24, 25, 26, 27, 28, 29, 30, 33, 34, 35, 31, 32, 36, 37, 38, 39, 40, 41, 42, 43, 44, 45, 46, 47, 48, 50, 51, 52, 49, 53, 54, 55, 56, 57], [0, 1, 2, 3, 4, 5, 6, 7, 8, 9, 10, 11, 12, 13, 14, 15, 16, 17, 18, 19, 20, 21, 22, 23, 24, 25, 26, 27, 28, 29, 30, 33, 34, 35, 31, 32, 36, 37, 38, 39, 40, 41, 42, 43, 44, 45, 46, 47, 48, 50, 51, 52, 53, 49, 54, 55, 56, 57], [0, 1, 2, 3, 4, 5, 6, 7, 8, 9, 10, 11, 12, 13, 14, 15, 16, 17, 18, 19, 20, 21, 22, 23, 24, 25, 26, 27, 28, 29, 30, 33, 34, 35, 31, 36, 32, 37, 38, 39, 40, 41, 42, 43, 44, 45, 46, 47, 48, 50, 51, 52, 49, 53, 54, 55, 56, 57], [0, 1, 2, 3, 4, 5, 6, 7, 8, 9, 10, 11, 12, 13, 14, 15, 16, 17, 18, 19, 20, 21, 22, 23, 24, 25, 26, 27, 28, 29, 30, 33, 34, 35, 31, 36, 32, 37, 38, 39, 40, 41, 42, 43, 44, 45, 46, 47, 48, 50, 51, 52, 53, 49, 54, 55, 56, 57], [0, 1, 2, 3, 4, 5, 6, 7, 8, 9, 10, 11, 12, 13, 14, 15, 16, 17, 18, 19, 20, 21, 22, 23, 24, 25, 26, 27, 28, 29, 30, 33, 34, 35, 36, 31, 32, 37, 38, 39, 40, 41, 42, 43, 44, 45, 46, 47, 48, 50, 51, 52, 49, 53, 54, 55, 56, 57], [0, 1, 2, 3, 4, 5, 6, 7, 8, 9, 10, 11, 12, 13, 14, 15, 16, 17, 18, 19, 20, 21, 22, 23, 24, 25, 26, 27, 28, 29, 30, 33, 34, 35, 36, 31, 32, 37, 38, 39, 40, 41, 42, 43, 44, 45, 46, 47, 48, 50, 51, 52, 53, 49, 54, 55, 56, 57]]
 let e7 : Nat × Value := (0, (iv p0))
 let e9 : List Own := [rowO 28 (encSl Tile) A9 c11 (tag H12 t4.1), rowsO 48 enc_Tile H12 t4.1]
 let e12 : List Nat := [0, 3, 5, 100]
 let e13 := bv false
 let e15 : List Nat := [0, 3, 5, 65]
 let e18 : List Nat := [0, 1, 2, 3, 4, 5, 6, 7, 8, 9, 10, 11, 13, 14, 15, 16, 17, 18, 21, 22, 23, 24, 25, 26, 27, 28, 29, 30, 33, 34, 35, 38, 39, 40, 41, 42, 43, 44, 45, 46, 47, 48, 50, 51, 52, 55, 56, 57]
 let e19 : List Nat := [0, 3, 5, 83]
 let e22 : Nat × Value := (100, (bv true))
 let e23 : List Nat := [0, 3, 5, 50, 54]
 let e24 : List Nat := [0, 3, 5, 58, 62]
 let e25 : List Nat := [0, 3, 5, 66, 70]
 let e26 : List Nat := [0, 3, 5, 84, 87]
 let e30 : List Nat := [0, 3, 5, 50]
 let e31 : Nat × Value := (65, (bv true))
 let e32 : Nat × Value := (83, (bv true))
 let e33 : Nat × Value := (87, (bv true))
 let e36 : List Nat := [0, 3, 5, 84, 87, 88, 90]
 let e37 : List Nat := [0, 3, 5, 84, 87, 92, 96]
 let e38 : List Nat := [0, 3, 5, 58]
 let e39 : List Nat := [0, 3, 5, 66]
 let e40 : List Nat := [0, 3, 5, 84]
 let e41 : Nat × Value := (88, (sv A9 t4.1 c11))
 let e42 : Nat × Value := (70, (bv true))
 let e43 : List Nat := [0, 3, 5, 66, 70, 74, 79]
 let e47 : Nat × Value := (100, e13)
 let e48 : List Nat := [0, 3, 5, 66, 70, 74, 78]
 let e49 : List Nat := [0, 3, 5, 66, 70, 75, 79]
 refine WC.cutN (T := Unit) (fun t => []) (fun t w1 => St NoS w w1 [] [] ∧ x49 = .inr t) (fun Kx49 => ?_) ?_
 ·
  refine WC.block ?_
  refine WC.loop (T := Int) (fun t => [e7, e3, (5, (iv t))]) (fun n t w1 => St NoS w w1 [] e9 ∧ law10_CensusAll.l0 n t p0 t4 = some x49) k 0 [0, 3, 5] rfl ⟨(hS45.subR []).sub [0, 1] (by decide), hx50⟩ ?_
  rintro k51 x48 w52 ⟨hS53, hl54⟩
  let e2 := sv ((H12 x48.toNat).1) (rdD t4.1 x48 []) ((H12 x48.toNat).2)
  let e5 : Nat × Value := (5, (iv x48))
  let e6 := sv ((H12 (w64 (x48 - 1)).toNat).1) (rdD t4.1 (w64 (x48 - 1)) []) ((H12 (w64 (x48 - 1)).toNat).2)
  let e8 := (adr A9).add ((x48).toNat * 1)
  let e10 := H12 x48.toNat
  let e11 := rdD t4.1 x48 []
  let e14 : Nat × Value := (50, (bv ((e11.length : Int) != p0)))
  let e16 := w64 (x48 - 1)
  let e17 : Nat × Value := (70, (bv ((Int.tmod x48 50) == 0)))
  let e20 : Nat × Value := (87, (bv (decide (x48 > 0))))
  let e27 : List (Nat × Addr × Value) := [(3, e8, e2)]
  let e29 := (adr A9).add (e16.toNat * 1)
  let e34 := H12 e16.toNat
  let e35 : List (Nat × Addr × Value) := [(11, e8, e2)]
  let e44 := rdD t4.1 e16 []
  let e45 : Nat × Value := (90, (iv e16))
  let e46 := ([(3, e8, e2), (11, e8, e2)], e18, e1)
  cases k51 with
  | zero => rw [law10_CensusAll.l0] at hl54; cases hl54
  | succ k51 =>
   rw [law10_CensusAll.l0] at hl54
   refine WC.seq (WC.seq (WC.region ?_))
   refine sg 4 [] [0, 3, 5, 40] [e7, e3, e5, (40, (bv (decide (x48 < (t4.1.length : Int)))))] (by kernel_rfl) ?_
   refine WL.done rfl (WX.next ?_)
   rcases br_some hl54 with ⟨h55, hl54⟩ | ⟨h55, hl54⟩
   ·refine WC.condT2 (fun fb => by kernel_rfl) h55 ?_
    refine WC.skip (WX.next (WC.seq (WC.block (WC.seq ?_))))
    obtain ⟨x56, hx57, hl54⟩ := bind_some hl54
    refine WC.cutN (T := Bool) (fun t => [e7, e3, e5, (100, (bv t))]) (fun t w1 => St NoS w w1 [] e9 ∧ x56 = t) (fun Kx56 => ?_) ?_
    ·
     rcases br_some hx57 with ⟨h58, hx57⟩ | ⟨h58, hx57⟩
     ·
      obtain ⟨h61, hx57⟩ := as_some hx57
      refine WC.regionD (e27, e18, e1) e4 (by kernel_rfl) (by kernel_rfl) (NoPanic.seq (NoPanic.block (NoPanic.seq (NoPanic.seq (NoPanic.block (NoPanic.seq (NoPanic.body))))))) ?_
      have hS60 := hS53.drew
      revert hS60
      generalize World.drew w52 = w59
      intro hS60
      refine ⟨⟨nrow_cell (rowO.rd (hS60.own 0).1) [] h61.1 h61.2 0 rfl, trivial⟩, forallC ?_ (forallC ?_ (forallC ?_ (forallC ?_ (forallC ?_ (forallC ?_ (forallN))))))⟩
      ·
       refine segF 8 [.v e2] e30 [e7, e3, e5, e14] [.idx A9 x48 t4.1.length] [0] e27 (fun fb => by kernel_rfl) rfl ⟨nrow_adr (rowO.rd (hS60.own 0).1) h61.1 h61.2, trivial⟩ rfl ?_
       refine WL.setB 50 h58 rfl ?_
       refine sg 58 [] e12 [e7, e3, e5, e22] (by kernel_rfl) ?_
       refine WL.done rfl ?_
       injection hx57 with hx57
       exact WX.to Kx56 true e12 rfl ⟨(hS60.subR []).sub [0, 1] (by decide), hx57.symm⟩
      ·
       refine segF 8 [.v e2] e30 [e7, e3, e5, e14] [.idx A9 x48 t4.1.length] [0] e27 (fun fb => by kernel_rfl) rfl ⟨nrow_adr (rowO.rd (hS60.own 0).1) h61.1 h61.2, trivial⟩ rfl ?_
       refine WL.setB 50 h58 rfl ?_
       refine sg 58 [] e12 [e7, e3, e5, e22] (by kernel_rfl) ?_
       refine WL.done rfl ?_
       injection hx57 with hx57
       exact WX.to Kx56 true e12 rfl ⟨(hS60.subR []).sub [0, 1] (by decide), hx57.symm⟩
      ·
       refine segF 8 [.v e2] e30 [e7, e3, e5, e14] [.idx A9 x48 t4.1.length] [0] e27 (fun fb => by kernel_rfl) rfl ⟨nrow_adr (rowO.rd (hS60.own 0).1) h61.1 h61.2, trivial⟩ rfl ?_
       refine WL.setB 50 h58 rfl ?_
       refine sg 58 [] e12 [e7, e3, e5, e22] (by kernel_rfl) ?_
       refine WL.done rfl ?_
       injection hx57 with hx57
       exact WX.to Kx56 true e12 rfl ⟨(hS60.subR []).sub [0, 1] (by decide), hx57.symm⟩
      ·
       refine segF 8 [.v e2] e30 [e7, e3, e5, e14] [.idx A9 x48 t4.1.length] [0] e27 (fun fb => by kernel_rfl) rfl ⟨nrow_adr (rowO.rd (hS60.own 0).1) h61.1 h61.2, trivial⟩ rfl ?_
       refine WL.setB 50 h58 rfl ?_
       refine sg 58 [] e12 [e7, e3, e5, e22] (by kernel_rfl) ?_
       refine WL.done rfl ?_
       injection hx57 with hx57
       exact WX.to Kx56 true e12 rfl ⟨(hS60.subR []).sub [0, 1] (by decide), hx57.symm⟩
      ·
       refine segF 8 [.v e2] e30 [e7, e3, e5, e14] [.idx A9 x48 t4.1.length] [0] e27 (fun fb => by kernel_rfl) rfl ⟨nrow_adr (rowO.rd (hS60.own 0).1) h61.1 h61.2, trivial⟩ rfl ?_
       refine WL.setB 50 h58 rfl ?_
       refine sg 58 [] e12 [e7, e3, e5, e22] (by kernel_rfl) ?_
       refine WL.done rfl ?_
       injection hx57 with hx57
       exact WX.to Kx56 true e12 rfl ⟨(hS60.subR []).sub [0, 1] (by decide), hx57.symm⟩
      refine segF 8 [.v e2] e30 [e7, e3, e5, e14] [.idx A9 x48 t4.1.length] [0] e27 (fun fb => by kernel_rfl) rfl ⟨nrow_adr (rowO.rd (hS60.own 0).1) h61.1 h61.2, trivial⟩ rfl ?_
      refine WL.setB 50 h58 rfl ?_
      refine sg 58 [] e12 [e7, e3, e5, e22] (by kernel_rfl) ?_
      refine WL.done rfl ?_
      injection hx57 with hx57
      exact WX.to Kx56 true e12 rfl ⟨(hS60.subR []).sub [0, 1] (by decide), hx57.symm⟩
     rcases br_some hx57 with ⟨h62, hx57⟩ | ⟨h62, hx57⟩
     ·
      rcases br_some hx57 with ⟨h63, hx57⟩ | ⟨h63, hx57⟩
      ·
       obtain ⟨h67, hx57⟩ := as_some hx57
       refine WC.regionD e46 e4 (by kernel_rfl) (by kernel_rfl) (NoPanic.seq (NoPanic.block (NoPanic.seq (NoPanic.seq (NoPanic.block (NoPanic.seq (NoPanic.body))))))) ?_
       have hS66 := hS53.drew
       revert hS66
       generalize World.drew w52 = w65
       intro hS66
       refine ⟨⟨nrow_cell (rowO.rd (hS66.own 0).1) [] h67.1 h67.2 0 rfl, nrow_cell (rowO.rd (hS66.own 0).1) [] h67.1 h67.2 0 rfl, trivial⟩, forallC ?_ (forallC ?_ (forallC ?_ (forallC ?_ (forallC ?_ (forallC ?_ (forallN))))))⟩
       ·
        refine segF 8 [.v e2] e30 [e7, e3, e5, e14] [.idx A9 x48 t4.1.length] [0] e27 (fun fb => by kernel_rfl) rfl ⟨nrow_adr (rowO.rd (hS66.own 0).1) h67.1 h67.2, trivial⟩ rfl ?_
        refine WL.setB 50 h58 rfl ?_
        refine segF 12 [.v e2] e23 [e7, e3, e5, (50, e13), (54, e2)] [.idx A9 x48 t4.1.length] [1] e35 (fun fb => by kernel_rfl) rfl ⟨nrow_adr (rowO.rd (hS66.own 0).1) h67.1 h67.2, trivial⟩ rfl ?_
        obtain ⟨t68, ht69, hx57⟩ := bind_some hx57
        refine WL.call (some 55) 11 #[e2] (fun fb => by kernel_rfl) (ref01_Valid_calls _ e11 (e10.1) (e10.2) t68 _ (rowsO.ro (hS66.ow 1) h67.1 h67.2).ofO ht69) (fun v w70 hR71 => ?_)
        obtain ⟨rfl, hk_⟩ := hR71
        have hS72 := hS66.keepN hk_
        refine ⟨trivial, ?_⟩
        refine sg 16 [] e38 [e7, e3, e5, (58, (bv (!t68)))] (by kernel_rfl) ?_
        obtain ⟨x73, hx74, hx57⟩ := bind_some hx57
        refine WL.cutW (T := Bool) 23 (fun t => [e7, e3, e5, (65, (bv t))]) (fun t w1 => (St NoS w w1 [] e9 ∧ x73 = t) ∧ CellsOK [] w1) (fun K => ?_) ?_
        ·
         rcases br_some hx74 with ⟨h75, hx74⟩ | ⟨h75, hx74⟩
         ·
          refine WL.setB 58 h75 rfl ?_
          refine sg 23 [] e15 [e7, e3, e5, e31] (by kernel_rfl) ?_
          injection hx74 with hx74
          exact WL.to K true e15 rfl ⟨⟨(hS72.subR []).sub [0, 1] (by decide), hx74.symm⟩, trivial⟩
         refine WL.setB 58 h75 rfl ?_
         refine seg 20 [.v e2] e24 [e7, e3, e5, (58, e13), (62, e2)] [.idx A9 x48 t4.1.length, .cell e8 e2] (fun fb => by kernel_rfl) rfl ⟨nrow_adr (rowO.rd (hS72.own 0).1) h67.1 h67.2, nrow_cell (rowO.rd (hS72.own 0).1) [] h67.1 h67.2 0 rfl, trivial⟩ ?_
         obtain ⟨t76, ht77, hx74⟩ := bind_some hx74
         refine WL.call (some 63) 12 #[e2] (fun fb => by kernel_rfl) (ref10_Least_calls _ e11 (e10.1) (e10.2) t76 _ (rowsO.ro (hS72.ow 1) h67.1 h67.2).ofO ht77) (fun v w78 hR79 => ?_)
         obtain ⟨rfl, hk_⟩ := hR79
         have hS80 := hS72.keepN hk_
         refine ⟨trivial, ?_⟩
         refine sg 23 [] e15 [e7, e3, e5, (65, (bv (!t76)))] (by kernel_rfl) ?_
         injection hx74 with hx74
         exact WL.to K (!t76) e15 rfl ⟨⟨(hS80.subR []).sub [0, 1] (by decide), hx74.symm⟩, trivial⟩
        rintro y81 w83 ⟨⟨hS84, hq82⟩, hF85⟩
        subst hq82
        refine sg 24 [] e39 [e7, e3, e5, (66, (bv x73))] (by kernel_rfl) ?_
        obtain ⟨x86, hx87, hx57⟩ := bind_some hx57
        refine WL.cutW (T := Bool) 41 (fun t => [e7, e3, e5, (83, (bv t))]) (fun t w1 => (St NoS w w1 [] e9 ∧ x86 = t) ∧ CellsOK [] w1) (fun K => ?_) ?_
        ·
         rcases br_some hx87 with ⟨h88, hx87⟩ | ⟨h88, hx87⟩
         ·
          refine WL.setB 66 h88 rfl ?_
          refine sg 41 [] e19 [e7, e3, e5, e32] (by kernel_rfl) ?_
          injection hx87 with hx87
          exact WL.to K true e19 rfl ⟨⟨(hS84.subR []).sub [0, 1] (by decide), hx87.symm⟩, trivial⟩
         refine WL.setB 66 h88 rfl ?_
         refine seg 28 [] e25 [e7, e3, e5, (66, e13), e17] [.ne 50] (fun fb => by kernel_rfl) rfl ⟨(by decide), trivial⟩ ?_
         refine WL.setB 70 h62 rfl ?_
         refine seg 35 [.v e2] e48 [e7, e3, e5, (66, e13), e42, (74, e2), (78, (.pointer (some e8)))] [.idx A9 x48 t4.1.length, .idx A9 x48 t4.1.length, .cell e8 e2] (fun fb => by kernel_rfl) rfl ⟨nrow_adr (rowO.rd (hS84.own 0).1) h67.1 h67.2, nrow_adr (rowO.rd (hS84.own 0).1) h67.1 h67.2, nrow_cell (rowO.rd (hS84.own 0).1) [] h67.1 h67.2 0 rfl, trivial⟩ ?_
         obtain ⟨t89, ht90, hx87⟩ := bind_some hx87
         refine WL.call (some 75) 14 #[e2] (fun fb => by kernel_rfl) (ref10_Canon_calls _ e11 (e10.1) (e10.2) t89 _ (rowsO.ro (hS84.ow 1) h67.1 h67.2).ofO ht90) (fun v w91 hR92 => ?_)
         obtain ⟨A94, c95, rfl, hk_⟩ := hR92
         have hS93 := hS8.go w91 [rowO 48 enc_Tile A94 c95 t89, rowO 28 (encSl Tile) A9 c11 (tag H12 t4.1), rowsO 48 enc_Tile H12 t4.1] (hS84.call hk_ [] [0, 1] (fun g hg => hg.elim) (by simp) (by decide))
         refine ⟨trivial, ?_⟩
         refine seg 37 [.v e2] e49 [e7, e3, e5, (66, e13), e42, (75, (sv A94 t89 c95)), (79, e2)] [.cell e8 e2] (fun fb => by kernel_rfl) rfl ⟨nrow_cell (rowO.rd (hS93.own 1).1) [] h67.1 h67.2 0 rfl, trivial⟩ ?_
         obtain ⟨t96, ht97, hx87⟩ := bind_some hx87
         refine WL.call (some 80) 13 #[(sv A94 t89 c95), e2] (fun fb => by kernel_rfl) (ref01_SameSet_calls _ t89 e11 A94 c95 (e10.1) (e10.2) t96 _ (hS93.ow 0).ofO (rowsO.ro (hS93.ow 2) h67.1 h67.2).ofO ht97) (fun v w98 hR99 => ?_)
         obtain ⟨rfl, hk_⟩ := hR99
         have hS100 := hS93.keepN hk_
         refine ⟨trivial, ?_⟩
         refine sg 41 [] e19 [e7, e3, e5, (83, (bv (!t96)))] (by kernel_rfl) ?_
         injection hx87 with hx87
         exact WL.to K (!t96) e19 rfl ⟨⟨(hS100.subR []).sub [1, 2] (by decide), hx87.symm⟩, trivial⟩
        rintro y101 w103 ⟨⟨hS104, hq102⟩, hF105⟩
        subst hq102
        refine sg 42 [] e40 [e7, e3, e5, (84, (bv x86))] (by kernel_rfl) ?_
        obtain ⟨x106, hx107, hx57⟩ := bind_some hx57
        refine WL.cutW (T := Bool) 58 (fun t => [e7, e3, e5, (100, (bv t))]) (fun t w1 => (St NoS w w1 [] e9 ∧ x106 = t) ∧ CellsOK [] w1) (fun K => ?_) ?_
        ·
         rcases br_some hx107 with ⟨h108, hx107⟩ | ⟨h108, hx107⟩
         ·
          refine WL.setB 84 h108 rfl ?_
          refine sg 58 [] e12 [e7, e3, e5, e22] (by kernel_rfl) ?_
          injection hx107 with hx107
          exact WL.to K true e12 rfl ⟨⟨(hS104.subR []).sub [0, 1] (by decide), hx107.symm⟩, trivial⟩
         refine WL.setB 84 h108 rfl ?_
         refine sg 45 [] e26 [e7, e3, e5, (84, e13), e20] (by kernel_rfl) ?_
         refine WL.setB 87 h63 rfl ?_
         refine sg 48 [] e36 [e7, e3, e5, (84, e13), e33, e41, e45] (by kernel_rfl) ?_
         obtain ⟨h109, hx107⟩ := as_some hx107
         refine seg 54 [.v e6, .v e2] e37 [e7, e3, e5, (84, e13), e33, (92, e6), (96, e2)] [.idx A9 e16 t4.1.length, .idx A9 x48 t4.1.length, .cell e29 e6, .cell e8 e2] (fun fb => by kernel_rfl) rfl ⟨nrow_adr (rowO.rd (hS104.own 0).1) h109.1 h109.2, nrow_adr (rowO.rd (hS104.own 0).1) h67.1 h67.2, nrow_cell (rowO.rd (hS104.own 0).1) [] h109.1 h109.2 0 rfl, nrow_cell (rowO.rd (hS104.own 0).1) [] h67.1 h67.2 0 rfl, trivial⟩ ?_
         obtain ⟨t110, ht111, hx107⟩ := bind_some hx107
         refine WL.call (some 97) 15 #[e6, e2] (fun fb => by kernel_rfl) (ref10_Before_calls _ e44 e11 (e34.1) (e34.2) (e10.1) (e10.2) t110 _ (rowsO.ro (hS104.ow 1) h109.1 h109.2).ofO (rowsO.ro (hS104.ow 1) h67.1 h67.2).ofO ht111) (fun v w112 hR113 => ?_)
         obtain ⟨rfl, hk_⟩ := hR113
         have hS114 := hS104.keepN hk_
         refine ⟨trivial, ?_⟩
         refine sg 58 [] e12 [e7, e3, e5, (100, (bv (!t110)))] (by kernel_rfl) ?_
         injection hx107 with hx107
         exact WL.to K (!t110) e12 rfl ⟨⟨(hS114.subR []).sub [0, 1] (by decide), hx107.symm⟩, trivial⟩
        rintro y115 w117 ⟨⟨hS118, hq116⟩, hF119⟩
        subst hq116
        refine WL.done rfl ?_
        injection hx57 with hx57
        exact WX.to Kx56 x106 e12 rfl ⟨(hS118.subR []).sub [0, 1] (by decide), hx57.symm⟩
       ·
        refine segF 8 [.v e2] e30 [e7, e3, e5, e14] [.idx A9 x48 t4.1.length] [0] e27 (fun fb => by kernel_rfl) rfl ⟨nrow_adr (rowO.rd (hS66.own 0).1) h67.1 h67.2, trivial⟩ rfl ?_
        refine WL.setB 50 h58 rfl ?_
        refine segF 12 [.v e2] e23 [e7, e3, e5, (50, e13), (54, e2)] [.idx A9 x48 t4.1.length] [1] e35 (fun fb => by kernel_rfl) rfl ⟨nrow_adr (rowO.rd (hS66.own 0).1) h67.1 h67.2, trivial⟩ rfl ?_
        obtain ⟨t120, ht121, hx57⟩ := bind_some hx57
        refine WL.call (some 55) 11 #[e2] (fun fb => by kernel_rfl) (ref01_Valid_calls _ e11 (e10.1) (e10.2) t120 _ (rowsO.ro (hS66.ow 1) h67.1 h67.2).ofO ht121) (fun v w122 hR123 => ?_)
        obtain ⟨rfl, hk_⟩ := hR123
        have hS124 := hS66.keepN hk_
        refine ⟨trivial, ?_⟩
        refine sg 16 [] e38 [e7, e3, e5, (58, (bv (!t120)))] (by kernel_rfl) ?_
        obtain ⟨x125, hx126, hx57⟩ := bind_some hx57
        refine WL.cutW (T := Bool) 23 (fun t => [e7, e3, e5, (65, (bv t))]) (fun t w1 => (St NoS w w1 [] e9 ∧ x125 = t) ∧ CellsOK [] w1) (fun K => ?_) ?_
        ·
         rcases br_some hx126 with ⟨h127, hx126⟩ | ⟨h127, hx126⟩
         ·
          refine WL.setB 58 h127 rfl ?_
          refine sg 23 [] e15 [e7, e3, e5, e31] (by kernel_rfl) ?_
          injection hx126 with hx126
          exact WL.to K true e15 rfl ⟨⟨(hS124.subR []).sub [0, 1] (by decide), hx126.symm⟩, trivial⟩
         refine WL.setB 58 h127 rfl ?_
         refine seg 20 [.v e2] e24 [e7, e3, e5, (58, e13), (62, e2)] [.idx A9 x48 t4.1.length, .cell e8 e2] (fun fb => by kernel_rfl) rfl ⟨nrow_adr (rowO.rd (hS124.own 0).1) h67.1 h67.2, nrow_cell (rowO.rd (hS124.own 0).1) [] h67.1 h67.2 0 rfl, trivial⟩ ?_
         obtain ⟨t128, ht129, hx126⟩ := bind_some hx126
         refine WL.call (some 63) 12 #[e2] (fun fb => by kernel_rfl) (ref10_Least_calls _ e11 (e10.1) (e10.2) t128 _ (rowsO.ro (hS124.ow 1) h67.1 h67.2).ofO ht129) (fun v w130 hR131 => ?_)
         obtain ⟨rfl, hk_⟩ := hR131
         have hS132 := hS124.keepN hk_
         refine ⟨trivial, ?_⟩
         refine sg 23 [] e15 [e7, e3, e5, (65, (bv (!t128)))] (by kernel_rfl) ?_
         injection hx126 with hx126
         exact WL.to K (!t128) e15 rfl ⟨⟨(hS132.subR []).sub [0, 1] (by decide), hx126.symm⟩, trivial⟩
        rintro y133 w135 ⟨⟨hS136, hq134⟩, hF137⟩
        subst hq134
        refine sg 24 [] e39 [e7, e3, e5, (66, (bv x125))] (by kernel_rfl) ?_
        obtain ⟨x138, hx139, hx57⟩ := bind_some hx57
        refine WL.cutW (T := Bool) 41 (fun t => [e7, e3, e5, (83, (bv t))]) (fun t w1 => (St NoS w w1 [] e9 ∧ x138 = t) ∧ CellsOK [] w1) (fun K => ?_) ?_
        ·
         rcases br_some hx139 with ⟨h140, hx139⟩ | ⟨h140, hx139⟩
         ·
          refine WL.setB 66 h140 rfl ?_
          refine sg 41 [] e19 [e7, e3, e5, e32] (by kernel_rfl) ?_
          injection hx139 with hx139
          exact WL.to K true e19 rfl ⟨⟨(hS136.subR []).sub [0, 1] (by decide), hx139.symm⟩, trivial⟩
         refine WL.setB 66 h140 rfl ?_
         refine seg 28 [] e25 [e7, e3, e5, (66, e13), e17] [.ne 50] (fun fb => by kernel_rfl) rfl ⟨(by decide), trivial⟩ ?_
         refine WL.setB 70 h62 rfl ?_
         refine seg 35 [.v e2] e48 [e7, e3, e5, (66, e13), e42, (74, e2), (78, (.pointer (some e8)))] [.idx A9 x48 t4.1.length, .idx A9 x48 t4.1.length, .cell e8 e2] (fun fb => by kernel_rfl) rfl ⟨nrow_adr (rowO.rd (hS136.own 0).1) h67.1 h67.2, nrow_adr (rowO.rd (hS136.own 0).1) h67.1 h67.2, nrow_cell (rowO.rd (hS136.own 0).1) [] h67.1 h67.2 0 rfl, trivial⟩ ?_
         obtain ⟨t141, ht142, hx139⟩ := bind_some hx139
         refine WL.call (some 75) 14 #[e2] (fun fb => by kernel_rfl) (ref10_Canon_calls _ e11 (e10.1) (e10.2) t141 _ (rowsO.ro (hS136.ow 1) h67.1 h67.2).ofO ht142) (fun v w143 hR144 => ?_)
         obtain ⟨A146, c147, rfl, hk_⟩ := hR144
         have hS145 := hS8.go w143 [rowO 48 enc_Tile A146 c147 t141, rowO 28 (encSl Tile) A9 c11 (tag H12 t4.1), rowsO 48 enc_Tile H12 t4.1] (hS136.call hk_ [] [0, 1] (fun g hg => hg.elim) (by simp) (by decide))
         refine ⟨trivial, ?_⟩
         refine seg 37 [.v e2] e49 [e7, e3, e5, (66, e13), e42, (75, (sv A146 t141 c147)), (79, e2)] [.cell e8 e2] (fun fb => by kernel_rfl) rfl ⟨nrow_cell (rowO.rd (hS145.own 1).1) [] h67.1 h67.2 0 rfl, trivial⟩ ?_
         obtain ⟨t148, ht149, hx139⟩ := bind_some hx139
         refine WL.call (some 80) 13 #[(sv A146 t141 c147), e2] (fun fb => by kernel_rfl) (ref01_SameSet_calls _ t141 e11 A146 c147 (e10.1) (e10.2) t148 _ (hS145.ow 0).ofO (rowsO.ro (hS145.ow 2) h67.1 h67.2).ofO ht149) (fun v w150 hR151 => ?_)
         obtain ⟨rfl, hk_⟩ := hR151
         have hS152 := hS145.keepN hk_
         refine ⟨trivial, ?_⟩
         refine sg 41 [] e19 [e7, e3, e5, (83, (bv (!t148)))] (by kernel_rfl) ?_
         injection hx139 with hx139
         exact WL.to K (!t148) e19 rfl ⟨⟨(hS152.subR []).sub [1, 2] (by decide), hx139.symm⟩, trivial⟩
        rintro y153 w155 ⟨⟨hS156, hq154⟩, hF157⟩
        subst hq154
        refine sg 42 [] e40 [e7, e3, e5, (84, (bv x138))] (by kernel_rfl) ?_
        obtain ⟨x158, hx159, hx57⟩ := bind_some hx57
        refine WL.cutW (T := Bool) 58 (fun t => [e7, e3, e5, (100, (bv t))]) (fun t w1 => (St NoS w w1 [] e9 ∧ x158 = t) ∧ CellsOK [] w1) (fun K => ?_) ?_
        ·
         rcases br_some hx159 with ⟨h160, hx159⟩ | ⟨h160, hx159⟩
         ·
          refine WL.setB 84 h160 rfl ?_
          refine sg 58 [] e12 [e7, e3, e5, e22] (by kernel_rfl) ?_
          injection hx159 with hx159
          exact WL.to K true e12 rfl ⟨⟨(hS156.subR []).sub [0, 1] (by decide), hx159.symm⟩, trivial⟩
         refine WL.setB 84 h160 rfl ?_
         refine sg 45 [] e26 [e7, e3, e5, (84, e13), e20] (by kernel_rfl) ?_
         refine WL.setB 87 h63 rfl ?_
         refine sg 48 [] e36 [e7, e3, e5, (84, e13), e33, e41, e45] (by kernel_rfl) ?_
         obtain ⟨h161, hx159⟩ := as_some hx159
         refine seg 54 [.v e2, .v e6] e37 [e7, e3, e5, (84, e13), e33, (92, e6), (96, e2)] [.idx A9 e16 t4.1.length, .idx A9 x48 t4.1.length, .cell e8 e2, .cell e29 e6] (fun fb => by kernel_rfl) rfl ⟨nrow_adr (rowO.rd (hS156.own 0).1) h161.1 h161.2, nrow_adr (rowO.rd (hS156.own 0).1) h67.1 h67.2, nrow_cell (rowO.rd (hS156.own 0).1) [] h67.1 h67.2 0 rfl, nrow_cell (rowO.rd (hS156.own 0).1) [] h161.1 h161.2 0 rfl, trivial⟩ ?_
         obtain ⟨t162, ht163, hx159⟩ := bind_some hx159
         refine WL.call (some 97) 15 #[e6, e2] (fun fb => by kernel_rfl) (ref10_Before_calls _ e44 e11 (e34.1) (e34.2) (e10.1) (e10.2) t162 _ (rowsO.ro (hS156.ow 1) h161.1 h161.2).ofO (rowsO.ro (hS156.ow 1) h67.1 h67.2).ofO ht163) (fun v w164 hR165 => ?_)
         obtain ⟨rfl, hk_⟩ := hR165
         have hS166 := hS156.keepN hk_
         refine ⟨trivial, ?_⟩
         refine sg 58 [] e12 [e7, e3, e5, (100, (bv (!t162)))] (by kernel_rfl) ?_
         injection hx159 with hx159
         exact WL.to K (!t162) e12 rfl ⟨⟨(hS166.subR []).sub [0, 1] (by decide), hx159.symm⟩, trivial⟩
        rintro y167 w169 ⟨⟨hS170, hq168⟩, hF171⟩
        subst hq168
        refine WL.done rfl ?_
        injection hx57 with hx57
        exact WX.to Kx56 x158 e12 rfl ⟨(hS170.subR []).sub [0, 1] (by decide), hx57.symm⟩
       ·
        refine segF 8 [.v e2] e30 [e7, e3, e5, e14] [.idx A9 x48 t4.1.length] [0] e27 (fun fb => by kernel_rfl) rfl ⟨nrow_adr (rowO.rd (hS66.own 0).1) h67.1 h67.2, trivial⟩ rfl ?_
        refine WL.setB 50 h58 rfl ?_
        refine segF 12 [.v e2] e23 [e7, e3, e5, (50, e13), (54, e2)] [.idx A9 x48 t4.1.length] [1] e35 (fun fb => by kernel_rfl) rfl ⟨nrow_adr (rowO.rd (hS66.own 0).1) h67.1 h67.2, trivial⟩ rfl ?_
        obtain ⟨t172, ht173, hx57⟩ := bind_some hx57
        refine WL.call (some 55) 11 #[e2] (fun fb => by kernel_rfl) (ref01_Valid_calls _ e11 (e10.1) (e10.2) t172 _ (rowsO.ro (hS66.ow 1) h67.1 h67.2).ofO ht173) (fun v w174 hR175 => ?_)
        obtain ⟨rfl, hk_⟩ := hR175
        have hS176 := hS66.keepN hk_
        refine ⟨trivial, ?_⟩
        refine sg 16 [] e38 [e7, e3, e5, (58, (bv (!t172)))] (by kernel_rfl) ?_
        obtain ⟨x177, hx178, hx57⟩ := bind_some hx57
        refine WL.cutW (T := Bool) 23 (fun t => [e7, e3, e5, (65, (bv t))]) (fun t w1 => (St NoS w w1 [] e9 ∧ x177 = t) ∧ CellsOK [] w1) (fun K => ?_) ?_
        ·
         rcases br_some hx178 with ⟨h179, hx178⟩ | ⟨h179, hx178⟩
         ·
          refine WL.setB 58 h179 rfl ?_
          refine sg 23 [] e15 [e7, e3, e5, e31] (by kernel_rfl) ?_
          injection hx178 with hx178
          exact WL.to K true e15 rfl ⟨⟨(hS176.subR []).sub [0, 1] (by decide), hx178.symm⟩, trivial⟩
         refine WL.setB 58 h179 rfl ?_
         refine seg 20 [.v e2] e24 [e7, e3, e5, (58, e13), (62, e2)] [.idx A9 x48 t4.1.length, .cell e8 e2] (fun fb => by kernel_rfl) rfl ⟨nrow_adr (rowO.rd (hS176.own 0).1) h67.1 h67.2, nrow_cell (rowO.rd (hS176.own 0).1) [] h67.1 h67.2 0 rfl, trivial⟩ ?_
         obtain ⟨t180, ht181, hx178⟩ := bind_some hx178
         refine WL.call (some 63) 12 #[e2] (fun fb => by kernel_rfl) (ref10_Least_calls _ e11 (e10.1) (e10.2) t180 _ (rowsO.ro (hS176.ow 1) h67.1 h67.2).ofO ht181) (fun v w182 hR183 => ?_)
         obtain ⟨rfl, hk_⟩ := hR183
         have hS184 := hS176.keepN hk_
         refine ⟨trivial, ?_⟩
         refine sg 23 [] e15 [e7, e3, e5, (65, (bv (!t180)))] (by kernel_rfl) ?_
         injection hx178 with hx178
         exact WL.to K (!t180) e15 rfl ⟨⟨(hS184.subR []).sub [0, 1] (by decide), hx178.symm⟩, trivial⟩
        rintro y185 w187 ⟨⟨hS188, hq186⟩, hF189⟩
        subst hq186
        refine sg 24 [] e39 [e7, e3, e5, (66, (bv x177))] (by kernel_rfl) ?_
        obtain ⟨x190, hx191, hx57⟩ := bind_some hx57
        refine WL.cutW (T := Bool) 41 (fun t => [e7, e3, e5, (83, (bv t))]) (fun t w1 => (St NoS w w1 [] e9 ∧ x190 = t) ∧ CellsOK [] w1) (fun K => ?_) ?_
        ·
         rcases br_some hx191 with ⟨h192, hx191⟩ | ⟨h192, hx191⟩
         ·
          refine WL.setB 66 h192 rfl ?_
          refine sg 41 [] e19 [e7, e3, e5, e32] (by kernel_rfl) ?_
          injection hx191 with hx191
          exact WL.to K true e19 rfl ⟨⟨(hS188.subR []).sub [0, 1] (by decide), hx191.symm⟩, trivial⟩
         refine WL.setB 66 h192 rfl ?_
         refine seg 28 [] e25 [e7, e3, e5, (66, e13), e17] [.ne 50] (fun fb => by kernel_rfl) rfl ⟨(by decide), trivial⟩ ?_
         refine WL.setB 70 h62 rfl ?_
         refine seg 36 [.v e2, .v e2] e43 [e7, e3, e5, (66, e13), e42, (74, e2), (79, e2)] [.idx A9 x48 t4.1.length, .idx A9 x48 t4.1.length, .cell e8 e2, .cell e8 e2] (fun fb => by kernel_rfl) rfl ⟨nrow_adr (rowO.rd (hS188.own 0).1) h67.1 h67.2, nrow_adr (rowO.rd (hS188.own 0).1) h67.1 h67.2, nrow_cell (rowO.rd (hS188.own 0).1) [] h67.1 h67.2 0 rfl, nrow_cell (rowO.rd (hS188.own 0).1) [] h67.1 h67.2 0 rfl, trivial⟩ ?_
         obtain ⟨t193, ht194, hx191⟩ := bind_some hx191
         refine WL.call (some 75) 14 #[e2] (fun fb => by kernel_rfl) (ref10_Canon_calls _ e11 (e10.1) (e10.2) t193 _ (rowsO.ro (hS188.ow 1) h67.1 h67.2).ofO ht194) (fun v w195 hR196 => ?_)
         obtain ⟨A198, c199, rfl, hk_⟩ := hR196
         have hS197 := hS8.go w195 [rowO 48 enc_Tile A198 c199 t193, rowO 28 (encSl Tile) A9 c11 (tag H12 t4.1), rowsO 48 enc_Tile H12 t4.1] (hS188.call hk_ [] [0, 1] (fun g hg => hg.elim) (by simp) (by decide))
         refine ⟨trivial, ?_⟩
         obtain ⟨t200, ht201, hx191⟩ := bind_some hx191
         refine WL.call (some 80) 13 #[(sv A198 t193 c199), e2] (fun fb => by kernel_rfl) (ref01_SameSet_calls _ t193 e11 A198 c199 (e10.1) (e10.2) t200 _ (hS197.ow 0).ofO (rowsO.ro (hS197.ow 2) h67.1 h67.2).ofO ht201) (fun v w202 hR203 => ?_)
         obtain ⟨rfl, hk_⟩ := hR203
         have hS204 := hS197.keepN hk_
         refine ⟨trivial, ?_⟩
         refine sg 41 [] e19 [e7, e3, e5, (83, (bv (!t200)))] (by kernel_rfl) ?_
         injection hx191 with hx191
         exact WL.to K (!t200) e19 rfl ⟨⟨(hS204.subR []).sub [1, 2] (by decide), hx191.symm⟩, trivial⟩
        rintro y205 w207 ⟨⟨hS208, hq206⟩, hF209⟩
        subst hq206
        refine sg 42 [] e40 [e7, e3, e5, (84, (bv x190))] (by kernel_rfl) ?_
        obtain ⟨x210, hx211, hx57⟩ := bind_some hx57
        refine WL.cutW (T := Bool) 58 (fun t => [e7, e3, e5, (100, (bv t))]) (fun t w1 => (St NoS w w1 [] e9 ∧ x210 = t) ∧ CellsOK [] w1) (fun K => ?_) ?_
        ·
         rcases br_some hx211 with ⟨h212, hx211⟩ | ⟨h212, hx211⟩
         ·
          refine WL.setB 84 h212 rfl ?_
          refine sg 58 [] e12 [e7, e3, e5, e22] (by kernel_rfl) ?_
          injection hx211 with hx211
          exact WL.to K true e12 rfl ⟨⟨(hS208.subR []).sub [0, 1] (by decide), hx211.symm⟩, trivial⟩
         refine WL.setB 84 h212 rfl ?_
         refine sg 45 [] e26 [e7, e3, e5, (84, e13), e20] (by kernel_rfl) ?_
         refine WL.setB 87 h63 rfl ?_
         refine sg 48 [] e36 [e7, e3, e5, (84, e13), e33, e41, e45] (by kernel_rfl) ?_
         obtain ⟨h213, hx211⟩ := as_some hx211
         refine seg 54 [.v e6, .v e2] e37 [e7, e3, e5, (84, e13), e33, (92, e6), (96, e2)] [.idx A9 e16 t4.1.length, .idx A9 x48 t4.1.length, .cell e29 e6, .cell e8 e2] (fun fb => by kernel_rfl) rfl ⟨nrow_adr (rowO.rd (hS208.own 0).1) h213.1 h213.2, nrow_adr (rowO.rd (hS208.own 0).1) h67.1 h67.2, nrow_cell (rowO.rd (hS208.own 0).1) [] h213.1 h213.2 0 rfl, nrow_cell (rowO.rd (hS208.own 0).1) [] h67.1 h67.2 0 rfl, trivial⟩ ?_
         obtain ⟨t214, ht215, hx211⟩ := bind_some hx211
         refine WL.call (some 97) 15 #[e6, e2] (fun fb => by kernel_rfl) (ref10_Before_calls _ e44 e11 (e34.1) (e34.2) (e10.1) (e10.2) t214 _ (rowsO.ro (hS208.ow 1) h213.1 h213.2).ofO (rowsO.ro (hS208.ow 1) h67.1 h67.2).ofO ht215) (fun v w216 hR217 => ?_)
         obtain ⟨rfl, hk_⟩ := hR217
         have hS218 := hS208.keepN hk_
         refine ⟨trivial, ?_⟩
         refine sg 58 [] e12 [e7, e3, e5, (100, (bv (!t214)))] (by kernel_rfl) ?_
         injection hx211 with hx211
         exact WL.to K (!t214) e12 rfl ⟨⟨(hS218.subR []).sub [0, 1] (by decide), hx211.symm⟩, trivial⟩
        rintro y219 w221 ⟨⟨hS222, hq220⟩, hF223⟩
        subst hq220
        refine WL.done rfl ?_
        injection hx57 with hx57
        exact WX.to Kx56 x210 e12 rfl ⟨(hS222.subR []).sub [0, 1] (by decide), hx57.symm⟩
       ·
        refine segF 8 [.v e2] e30 [e7, e3, e5, e14] [.idx A9 x48 t4.1.length] [0] e27 (fun fb => by kernel_rfl) rfl ⟨nrow_adr (rowO.rd (hS66.own 0).1) h67.1 h67.2, trivial⟩ rfl ?_
        refine WL.setB 50 h58 rfl ?_
        refine segF 12 [.v e2] e23 [e7, e3, e5, (50, e13), (54, e2)] [.idx A9 x48 t4.1.length] [1] e35 (fun fb => by kernel_rfl) rfl ⟨nrow_adr (rowO.rd (hS66.own 0).1) h67.1 h67.2, trivial⟩ rfl ?_
        obtain ⟨t224, ht225, hx57⟩ := bind_some hx57
        refine WL.call (some 55) 11 #[e2] (fun fb => by kernel_rfl) (ref01_Valid_calls _ e11 (e10.1) (e10.2) t224 _ (rowsO.ro (hS66.ow 1) h67.1 h67.2).ofO ht225) (fun v w226 hR227 => ?_)
        obtain ⟨rfl, hk_⟩ := hR227
        have hS228 := hS66.keepN hk_
        refine ⟨trivial, ?_⟩
        refine sg 16 [] e38 [e7, e3, e5, (58, (bv (!t224)))] (by kernel_rfl) ?_
        obtain ⟨x229, hx230, hx57⟩ := bind_some hx57
        refine WL.cutW (T := Bool) 23 (fun t => [e7, e3, e5, (65, (bv t))]) (fun t w1 => (St NoS w w1 [] e9 ∧ x229 = t) ∧ CellsOK [] w1) (fun K => ?_) ?_
        ·
         rcases br_some hx230 with ⟨h231, hx230⟩ | ⟨h231, hx230⟩
         ·
          refine WL.setB 58 h231 rfl ?_
          refine sg 23 [] e15 [e7, e3, e5, e31] (by kernel_rfl) ?_
          injection hx230 with hx230
          exact WL.to K true e15 rfl ⟨⟨(hS228.subR []).sub [0, 1] (by decide), hx230.symm⟩, trivial⟩
         refine WL.setB 58 h231 rfl ?_
         refine seg 20 [.v e2] e24 [e7, e3, e5, (58, e13), (62, e2)] [.idx A9 x48 t4.1.length, .cell e8 e2] (fun fb => by kernel_rfl) rfl ⟨nrow_adr (rowO.rd (hS228.own 0).1) h67.1 h67.2, nrow_cell (rowO.rd (hS228.own 0).1) [] h67.1 h67.2 0 rfl, trivial⟩ ?_
         obtain ⟨t232, ht233, hx230⟩ := bind_some hx230
         refine WL.call (some 63) 12 #[e2] (fun fb => by kernel_rfl) (ref10_Least_calls _ e11 (e10.1) (e10.2) t232 _ (rowsO.ro (hS228.ow 1) h67.1 h67.2).ofO ht233) (fun v w234 hR235 => ?_)
         obtain ⟨rfl, hk_⟩ := hR235
         have hS236 := hS228.keepN hk_
         refine ⟨trivial, ?_⟩
         refine sg 23 [] e15 [e7, e3, e5, (65, (bv (!t232)))] (by kernel_rfl) ?_
         injection hx230 with hx230
         exact WL.to K (!t232) e15 rfl ⟨⟨(hS236.subR []).sub [0, 1] (by decide), hx230.symm⟩, trivial⟩
        rintro y237 w239 ⟨⟨hS240, hq238⟩, hF241⟩
        subst hq238
        refine sg 24 [] e39 [e7, e3, e5, (66, (bv x229))] (by kernel_rfl) ?_
        obtain ⟨x242, hx243, hx57⟩ := bind_some hx57
        refine WL.cutW (T := Bool) 41 (fun t => [e7, e3, e5, (83, (bv t))]) (fun t w1 => (St NoS w w1 [] e9 ∧ x242 = t) ∧ CellsOK [] w1) (fun K => ?_) ?_
        ·
         rcases br_some hx243 with ⟨h244, hx243⟩ | ⟨h244, hx243⟩
         ·
          refine WL.setB 66 h244 rfl ?_
          refine sg 41 [] e19 [e7, e3, e5, e32] (by kernel_rfl) ?_
          injection hx243 with hx243
          exact WL.to K true e19 rfl ⟨⟨(hS240.subR []).sub [0, 1] (by decide), hx243.symm⟩, trivial⟩
         refine WL.setB 66 h244 rfl ?_
         refine seg 28 [] e25 [e7, e3, e5, (66, e13), e17] [.ne 50] (fun fb => by kernel_rfl) rfl ⟨(by decide), trivial⟩ ?_
         refine WL.setB 70 h62 rfl ?_
         refine seg 36 [.v e2, .v e2] e43 [e7, e3, e5, (66, e13), e42, (74, e2), (79, e2)] [.idx A9 x48 t4.1.length, .idx A9 x48 t4.1.length, .cell e8 e2, .cell e8 e2] (fun fb => by kernel_rfl) rfl ⟨nrow_adr (rowO.rd (hS240.own 0).1) h67.1 h67.2, nrow_adr (rowO.rd (hS240.own 0).1) h67.1 h67.2, nrow_cell (rowO.rd (hS240.own 0).1) [] h67.1 h67.2 0 rfl, nrow_cell (rowO.rd (hS240.own 0).1) [] h67.1 h67.2 0 rfl, trivial⟩ ?_
         obtain ⟨t245, ht246, hx243⟩ := bind_some hx243
         refine WL.call (some 75) 14 #[e2] (fun fb => by kernel_rfl) (ref10_Canon_calls _ e11 (e10.1) (e10.2) t245 _ (rowsO.ro (hS240.ow 1) h67.1 h67.2).ofO ht246) (fun v w247 hR248 => ?_)
         obtain ⟨A250, c251, rfl, hk_⟩ := hR248
         have hS249 := hS8.go w247 [rowO 48 enc_Tile A250 c251 t245, rowO 28 (encSl Tile) A9 c11 (tag H12 t4.1), rowsO 48 enc_Tile H12 t4.1] (hS240.call hk_ [] [0, 1] (fun g hg => hg.elim) (by simp) (by decide))
         refine ⟨trivial, ?_⟩
         obtain ⟨t252, ht253, hx243⟩ := bind_some hx243
         refine WL.call (some 80) 13 #[(sv A250 t245 c251), e2] (fun fb => by kernel_rfl) (ref01_SameSet_calls _ t245 e11 A250 c251 (e10.1) (e10.2) t252 _ (hS249.ow 0).ofO (rowsO.ro (hS249.ow 2) h67.1 h67.2).ofO ht253) (fun v w254 hR255 => ?_)
         obtain ⟨rfl, hk_⟩ := hR255
         have hS256 := hS249.keepN hk_
         refine ⟨trivial, ?_⟩
         refine sg 41 [] e19 [e7, e3, e5, (83, (bv (!t252)))] (by kernel_rfl) ?_
         injection hx243 with hx243
         exact WL.to K (!t252) e19 rfl ⟨⟨(hS256.subR []).sub [1, 2] (by decide), hx243.symm⟩, trivial⟩
        rintro y257 w259 ⟨⟨hS260, hq258⟩, hF261⟩
        subst hq258
        refine sg 42 [] e40 [e7, e3, e5, (84, (bv x242))] (by kernel_rfl) ?_
        obtain ⟨x262, hx263, hx57⟩ := bind_some hx57
        refine WL.cutW (T := Bool) 58 (fun t => [e7, e3, e5, (100, (bv t))]) (fun t w1 => (St NoS w w1 [] e9 ∧ x262 = t) ∧ CellsOK [] w1) (fun K => ?_) ?_
        ·
         rcases br_some hx263 with ⟨h264, hx263⟩ | ⟨h264, hx263⟩
         ·
          refine WL.setB 84 h264 rfl ?_
          refine sg 58 [] e12 [e7, e3, e5, e22] (by kernel_rfl) ?_
          injection hx263 with hx263
          exact WL.to K true e12 rfl ⟨⟨(hS260.subR []).sub [0, 1] (by decide), hx263.symm⟩, trivial⟩
         refine WL.setB 84 h264 rfl ?_
         refine sg 45 [] e26 [e7, e3, e5, (84, e13), e20] (by kernel_rfl) ?_
         refine WL.setB 87 h63 rfl ?_
         refine sg 48 [] e36 [e7, e3, e5, (84, e13), e33, e41, e45] (by kernel_rfl) ?_
         obtain ⟨h265, hx263⟩ := as_some hx263
         refine seg 54 [.v e2, .v e6] e37 [e7, e3, e5, (84, e13), e33, (92, e6), (96, e2)] [.idx A9 e16 t4.1.length, .idx A9 x48 t4.1.length, .cell e8 e2, .cell e29 e6] (fun fb => by kernel_rfl) rfl ⟨nrow_adr (rowO.rd (hS260.own 0).1) h265.1 h265.2, nrow_adr (rowO.rd (hS260.own 0).1) h67.1 h67.2, nrow_cell (rowO.rd (hS260.own 0).1) [] h67.1 h67.2 0 rfl, nrow_cell (rowO.rd (hS260.own 0).1) [] h265.1 h265.2 0 rfl, trivial⟩ ?_
         obtain ⟨t266, ht267, hx263⟩ := bind_some hx263
         refine WL.call (some 97) 15 #[e6, e2] (fun fb => by kernel_rfl) (ref10_Before_calls _ e44 e11 (e34.1) (e34.2) (e10.1) (e10.2) t266 _ (rowsO.ro (hS260.ow 1) h265.1 h265.2).ofO (rowsO.ro (hS260.ow 1) h67.1 h67.2).ofO ht267) (fun v w268 hR269 => ?_)
         obtain ⟨rfl, hk_⟩ := hR269
         have hS270 := hS260.keepN hk_
         refine ⟨trivial, ?_⟩
         refine sg 58 [] e12 [e7, e3, e5, (100, (bv (!t266)))] (by kernel_rfl) ?_
         injection hx263 with hx263
         exact WL.to K (!t266) e12 rfl ⟨⟨(hS270.subR []).sub [0, 1] (by decide), hx263.symm⟩, trivial⟩
        rintro y271 w273 ⟨⟨hS274, hq272⟩, hF275⟩
        subst hq272
        refine WL.done rfl ?_
        injection hx57 with hx57
        exact WX.to Kx56 x262 e12 rfl ⟨(hS274.subR []).sub [0, 1] (by decide), hx57.symm⟩
       ·
        refine segF 8 [.v e2] e30 [e7, e3, e5, e14] [.idx A9 x48 t4.1.length] [0] e27 (fun fb => by kernel_rfl) rfl ⟨nrow_adr (rowO.rd (hS66.own 0).1) h67.1 h67.2, trivial⟩ rfl ?_
        refine WL.setB 50 h58 rfl ?_
        refine segF 12 [.v e2] e23 [e7, e3, e5, (50, e13), (54, e2)] [.idx A9 x48 t4.1.length] [1] e35 (fun fb => by kernel_rfl) rfl ⟨nrow_adr (rowO.rd (hS66.own 0).1) h67.1 h67.2, trivial⟩ rfl ?_
        obtain ⟨t276, ht277, hx57⟩ := bind_some hx57
        refine WL.call (some 55) 11 #[e2] (fun fb => by kernel_rfl) (ref01_Valid_calls _ e11 (e10.1) (e10.2) t276 _ (rowsO.ro (hS66.ow 1) h67.1 h67.2).ofO ht277) (fun v w278 hR279 => ?_)
        obtain ⟨rfl, hk_⟩ := hR279
        have hS280 := hS66.keepN hk_
        refine ⟨trivial, ?_⟩
        refine sg 16 [] e38 [e7, e3, e5, (58, (bv (!t276)))] (by kernel_rfl) ?_
        obtain ⟨x281, hx282, hx57⟩ := bind_some hx57
        refine WL.cutW (T := Bool) 23 (fun t => [e7, e3, e5, (65, (bv t))]) (fun t w1 => (St NoS w w1 [] e9 ∧ x281 = t) ∧ CellsOK [] w1) (fun K => ?_) ?_
        ·
         rcases br_some hx282 with ⟨h283, hx282⟩ | ⟨h283, hx282⟩
         ·
          refine WL.setB 58 h283 rfl ?_
          refine sg 23 [] e15 [e7, e3, e5, e31] (by kernel_rfl) ?_
          injection hx282 with hx282
          exact WL.to K true e15 rfl ⟨⟨(hS280.subR []).sub [0, 1] (by decide), hx282.symm⟩, trivial⟩
         refine WL.setB 58 h283 rfl ?_
         refine seg 20 [.v e2] e24 [e7, e3, e5, (58, e13), (62, e2)] [.idx A9 x48 t4.1.length, .cell e8 e2] (fun fb => by kernel_rfl) rfl ⟨nrow_adr (rowO.rd (hS280.own 0).1) h67.1 h67.2, nrow_cell (rowO.rd (hS280.own 0).1) [] h67.1 h67.2 0 rfl, trivial⟩ ?_
         obtain ⟨t284, ht285, hx282⟩ := bind_some hx282
         refine WL.call (some 63) 12 #[e2] (fun fb => by kernel_rfl) (ref10_Least_calls _ e11 (e10.1) (e10.2) t284 _ (rowsO.ro (hS280.ow 1) h67.1 h67.2).ofO ht285) (fun v w286 hR287 => ?_)
         obtain ⟨rfl, hk_⟩ := hR287
         have hS288 := hS280.keepN hk_
         refine ⟨trivial, ?_⟩
         refine sg 23 [] e15 [e7, e3, e5, (65, (bv (!t284)))] (by kernel_rfl) ?_
         injection hx282 with hx282
         exact WL.to K (!t284) e15 rfl ⟨⟨(hS288.subR []).sub [0, 1] (by decide), hx282.symm⟩, trivial⟩
        rintro y289 w291 ⟨⟨hS292, hq290⟩, hF293⟩
        subst hq290
        refine sg 24 [] e39 [e7, e3, e5, (66, (bv x281))] (by kernel_rfl) ?_
        obtain ⟨x294, hx295, hx57⟩ := bind_some hx57
        refine WL.cutW (T := Bool) 41 (fun t => [e7, e3, e5, (83, (bv t))]) (fun t w1 => (St NoS w w1 [] e9 ∧ x294 = t) ∧ CellsOK [] w1) (fun K => ?_) ?_
        ·
         rcases br_some hx295 with ⟨h296, hx295⟩ | ⟨h296, hx295⟩
         ·
          refine WL.setB 66 h296 rfl ?_
          refine sg 41 [] e19 [e7, e3, e5, e32] (by kernel_rfl) ?_
          injection hx295 with hx295
          exact WL.to K true e19 rfl ⟨⟨(hS292.subR []).sub [0, 1] (by decide), hx295.symm⟩, trivial⟩
         refine WL.setB 66 h296 rfl ?_
         refine seg 28 [] e25 [e7, e3, e5, (66, e13), e17] [.ne 50] (fun fb => by kernel_rfl) rfl ⟨(by decide), trivial⟩ ?_
         refine WL.setB 70 h62 rfl ?_
         refine seg 36 [.v e2, .v e2] e43 [e7, e3, e5, (66, e13), e42, (74, e2), (79, e2)] [.idx A9 x48 t4.1.length, .idx A9 x48 t4.1.length, .cell e8 e2, .cell e8 e2] (fun fb => by kernel_rfl) rfl ⟨nrow_adr (rowO.rd (hS292.own 0).1) h67.1 h67.2, nrow_adr (rowO.rd (hS292.own 0).1) h67.1 h67.2, nrow_cell (rowO.rd (hS292.own 0).1) [] h67.1 h67.2 0 rfl, nrow_cell (rowO.rd (hS292.own 0).1) [] h67.1 h67.2 0 rfl, trivial⟩ ?_
         obtain ⟨t297, ht298, hx295⟩ := bind_some hx295
         refine WL.call (some 75) 14 #[e2] (fun fb => by kernel_rfl) (ref10_Canon_calls _ e11 (e10.1) (e10.2) t297 _ (rowsO.ro (hS292.ow 1) h67.1 h67.2).ofO ht298) (fun v w299 hR300 => ?_)
         obtain ⟨A302, c303, rfl, hk_⟩ := hR300
         have hS301 := hS8.go w299 [rowO 48 enc_Tile A302 c303 t297, rowO 28 (encSl Tile) A9 c11 (tag H12 t4.1), rowsO 48 enc_Tile H12 t4.1] (hS292.call hk_ [] [0, 1] (fun g hg => hg.elim) (by simp) (by decide))
         refine ⟨trivial, ?_⟩
         obtain ⟨t304, ht305, hx295⟩ := bind_some hx295
         refine WL.call (some 80) 13 #[(sv A302 t297 c303), e2] (fun fb => by kernel_rfl) (ref01_SameSet_calls _ t297 e11 A302 c303 (e10.1) (e10.2) t304 _ (hS301.ow 0).ofO (rowsO.ro (hS301.ow 2) h67.1 h67.2).ofO ht305) (fun v w306 hR307 => ?_)
         obtain ⟨rfl, hk_⟩ := hR307
         have hS308 := hS301.keepN hk_
         refine ⟨trivial, ?_⟩
         refine sg 41 [] e19 [e7, e3, e5, (83, (bv (!t304)))] (by kernel_rfl) ?_
         injection hx295 with hx295
         exact WL.to K (!t304) e19 rfl ⟨⟨(hS308.subR []).sub [1, 2] (by decide), hx295.symm⟩, trivial⟩
        rintro y309 w311 ⟨⟨hS312, hq310⟩, hF313⟩
        subst hq310
        refine sg 42 [] e40 [e7, e3, e5, (84, (bv x294))] (by kernel_rfl) ?_
        obtain ⟨x314, hx315, hx57⟩ := bind_some hx57
        refine WL.cutW (T := Bool) 58 (fun t => [e7, e3, e5, (100, (bv t))]) (fun t w1 => (St NoS w w1 [] e9 ∧ x314 = t) ∧ CellsOK [] w1) (fun K => ?_) ?_
        ·
         rcases br_some hx315 with ⟨h316, hx315⟩ | ⟨h316, hx315⟩
         ·
          refine WL.setB 84 h316 rfl ?_
          refine sg 58 [] e12 [e7, e3, e5, e22] (by kernel_rfl) ?_
          injection hx315 with hx315
          exact WL.to K true e12 rfl ⟨⟨(hS312.subR []).sub [0, 1] (by decide), hx315.symm⟩, trivial⟩
         refine WL.setB 84 h316 rfl ?_
         refine sg 45 [] e26 [e7, e3, e5, (84, e13), e20] (by kernel_rfl) ?_
         refine WL.setB 87 h63 rfl ?_
         refine sg 48 [] e36 [e7, e3, e5, (84, e13), e33, e41, e45] (by kernel_rfl) ?_
         obtain ⟨h317, hx315⟩ := as_some hx315
         refine seg 54 [.v e6, .v e2] e37 [e7, e3, e5, (84, e13), e33, (92, e6), (96, e2)] [.idx A9 e16 t4.1.length, .idx A9 x48 t4.1.length, .cell e29 e6, .cell e8 e2] (fun fb => by kernel_rfl) rfl ⟨nrow_adr (rowO.rd (hS312.own 0).1) h317.1 h317.2, nrow_adr (rowO.rd (hS312.own 0).1) h67.1 h67.2, nrow_cell (rowO.rd (hS312.own 0).1) [] h317.1 h317.2 0 rfl, nrow_cell (rowO.rd (hS312.own 0).1) [] h67.1 h67.2 0 rfl, trivial⟩ ?_
         obtain ⟨t318, ht319, hx315⟩ := bind_some hx315
         refine WL.call (some 97) 15 #[e6, e2] (fun fb => by kernel_rfl) (ref10_Before_calls _ e44 e11 (e34.1) (e34.2) (e10.1) (e10.2) t318 _ (rowsO.ro (hS312.ow 1) h317.1 h317.2).ofO (rowsO.ro (hS312.ow 1) h67.1 h67.2).ofO ht319) (fun v w320 hR321 => ?_)
         obtain ⟨rfl, hk_⟩ := hR321
         have hS322 := hS312.keepN hk_
         refine ⟨trivial, ?_⟩
         refine sg 58 [] e12 [e7, e3, e5, (100, (bv (!t318)))] (by kernel_rfl) ?_
         injection hx315 with hx315
         exact WL.to K (!t318) e12 rfl ⟨⟨(hS322.subR []).sub [0, 1] (by decide), hx315.symm⟩, trivial⟩
        rintro y323 w325 ⟨⟨hS326, hq324⟩, hF327⟩
        subst hq324
        refine WL.done rfl ?_
        injection hx57 with hx57
        exact WX.to Kx56 x314 e12 rfl ⟨(hS326.subR []).sub [0, 1] (by decide), hx57.symm⟩
       refine segF 8 [.v e2] e30 [e7, e3, e5, e14] [.idx A9 x48 t4.1.length] [0] e27 (fun fb => by kernel_rfl) rfl ⟨nrow_adr (rowO.rd (hS66.own 0).1) h67.1 h67.2, trivial⟩ rfl ?_
       refine WL.setB 50 h58 rfl ?_
       refine segF 12 [.v e2] e23 [e7, e3, e5, (50, e13), (54, e2)] [.idx A9 x48 t4.1.length] [1] e35 (fun fb => by kernel_rfl) rfl ⟨nrow_adr (rowO.rd (hS66.own 0).1) h67.1 h67.2, trivial⟩ rfl ?_
       obtain ⟨t328, ht329, hx57⟩ := bind_some hx57
       refine WL.call (some 55) 11 #[e2] (fun fb => by kernel_rfl) (ref01_Valid_calls _ e11 (e10.1) (e10.2) t328 _ (rowsO.ro (hS66.ow 1) h67.1 h67.2).ofO ht329) (fun v w330 hR331 => ?_)
       obtain ⟨rfl, hk_⟩ := hR331
       have hS332 := hS66.keepN hk_
       refine ⟨trivial, ?_⟩
       refine sg 16 [] e38 [e7, e3, e5, (58, (bv (!t328)))] (by kernel_rfl) ?_
       obtain ⟨x333, hx334, hx57⟩ := bind_some hx57
       refine WL.cutW (T := Bool) 23 (fun t => [e7, e3, e5, (65, (bv t))]) (fun t w1 => (St NoS w w1 [] e9 ∧ x333 = t) ∧ CellsOK [] w1) (fun K => ?_) ?_
       ·
        rcases br_some hx334 with ⟨h335, hx334⟩ | ⟨h335, hx334⟩
        ·
         refine WL.setB 58 h335 rfl ?_
         refine sg 23 [] e15 [e7, e3, e5, e31] (by kernel_rfl) ?_
         injection hx334 with hx334
         exact WL.to K true e15 rfl ⟨⟨(hS332.subR []).sub [0, 1] (by decide), hx334.symm⟩, trivial⟩
        refine WL.setB 58 h335 rfl ?_
        refine seg 20 [.v e2] e24 [e7, e3, e5, (58, e13), (62, e2)] [.idx A9 x48 t4.1.length, .cell e8 e2] (fun fb => by kernel_rfl) rfl ⟨nrow_adr (rowO.rd (hS332.own 0).1) h67.1 h67.2, nrow_cell (rowO.rd (hS332.own 0).1) [] h67.1 h67.2 0 rfl, trivial⟩ ?_
        obtain ⟨t336, ht337, hx334⟩ := bind_some hx334
        refine WL.call (some 63) 12 #[e2] (fun fb => by kernel_rfl) (ref10_Least_calls _ e11 (e10.1) (e10.2) t336 _ (rowsO.ro (hS332.ow 1) h67.1 h67.2).ofO ht337) (fun v w338 hR339 => ?_)
        obtain ⟨rfl, hk_⟩ := hR339
        have hS340 := hS332.keepN hk_
        refine ⟨trivial, ?_⟩
        refine sg 23 [] e15 [e7, e3, e5, (65, (bv (!t336)))] (by kernel_rfl) ?_
        injection hx334 with hx334
        exact WL.to K (!t336) e15 rfl ⟨⟨(hS340.subR []).sub [0, 1] (by decide), hx334.symm⟩, trivial⟩
       rintro y341 w343 ⟨⟨hS344, hq342⟩, hF345⟩
       subst hq342
       refine sg 24 [] e39 [e7, e3, e5, (66, (bv x333))] (by kernel_rfl) ?_
       obtain ⟨x346, hx347, hx57⟩ := bind_some hx57
       refine WL.cutW (T := Bool) 41 (fun t => [e7, e3, e5, (83, (bv t))]) (fun t w1 => (St NoS w w1 [] e9 ∧ x346 = t) ∧ CellsOK [] w1) (fun K => ?_) ?_
       ·
        rcases br_some hx347 with ⟨h348, hx347⟩ | ⟨h348, hx347⟩
        ·
         refine WL.setB 66 h348 rfl ?_
         refine sg 41 [] e19 [e7, e3, e5, e32] (by kernel_rfl) ?_
         injection hx347 with hx347
         exact WL.to K true e19 rfl ⟨⟨(hS344.subR []).sub [0, 1] (by decide), hx347.symm⟩, trivial⟩
        refine WL.setB 66 h348 rfl ?_
        refine seg 28 [] e25 [e7, e3, e5, (66, e13), e17] [.ne 50] (fun fb => by kernel_rfl) rfl ⟨(by decide), trivial⟩ ?_
        refine WL.setB 70 h62 rfl ?_
        refine seg 36 [.v e2, .v e2] e43 [e7, e3, e5, (66, e13), e42, (74, e2), (79, e2)] [.idx A9 x48 t4.1.length, .idx A9 x48 t4.1.length, .cell e8 e2, .cell e8 e2] (fun fb => by kernel_rfl) rfl ⟨nrow_adr (rowO.rd (hS344.own 0).1) h67.1 h67.2, nrow_adr (rowO.rd (hS344.own 0).1) h67.1 h67.2, nrow_cell (rowO.rd (hS344.own 0).1) [] h67.1 h67.2 0 rfl, nrow_cell (rowO.rd (hS344.own 0).1) [] h67.1 h67.2 0 rfl, trivial⟩ ?_
        obtain ⟨t349, ht350, hx347⟩ := bind_some hx347
        refine WL.call (some 75) 14 #[e2] (fun fb => by kernel_rfl) (ref10_Canon_calls _ e11 (e10.1) (e10.2) t349 _ (rowsO.ro (hS344.ow 1) h67.1 h67.2).ofO ht350) (fun v w351 hR352 => ?_)
        obtain ⟨A354, c355, rfl, hk_⟩ := hR352
        have hS353 := hS8.go w351 [rowO 48 enc_Tile A354 c355 t349, rowO 28 (encSl Tile) A9 c11 (tag H12 t4.1), rowsO 48 enc_Tile H12 t4.1] (hS344.call hk_ [] [0, 1] (fun g hg => hg.elim) (by simp) (by decide))
        refine ⟨trivial, ?_⟩
        obtain ⟨t356, ht357, hx347⟩ := bind_some hx347
        refine WL.call (some 80) 13 #[(sv A354 t349 c355), e2] (fun fb => by kernel_rfl) (ref01_SameSet_calls _ t349 e11 A354 c355 (e10.1) (e10.2) t356 _ (hS353.ow 0).ofO (rowsO.ro (hS353.ow 2) h67.1 h67.2).ofO ht357) (fun v w358 hR359 => ?_)
        obtain ⟨rfl, hk_⟩ := hR359
        have hS360 := hS353.keepN hk_
        refine ⟨trivial, ?_⟩
        refine sg 41 [] e19 [e7, e3, e5, (83, (bv (!t356)))] (by kernel_rfl) ?_
        injection hx347 with hx347
        exact WL.to K (!t356) e19 rfl ⟨⟨(hS360.subR []).sub [1, 2] (by decide), hx347.symm⟩, trivial⟩
       rintro y361 w363 ⟨⟨hS364, hq362⟩, hF365⟩
       subst hq362
       refine sg 42 [] e40 [e7, e3, e5, (84, (bv x346))] (by kernel_rfl) ?_
       obtain ⟨x366, hx367, hx57⟩ := bind_some hx57
       refine WL.cutW (T := Bool) 58 (fun t => [e7, e3, e5, (100, (bv t))]) (fun t w1 => (St NoS w w1 [] e9 ∧ x366 = t) ∧ CellsOK [] w1) (fun K => ?_) ?_
       ·
        rcases br_some hx367 with ⟨h368, hx367⟩ | ⟨h368, hx367⟩
        ·
         refine WL.setB 84 h368 rfl ?_
         refine sg 58 [] e12 [e7, e3, e5, e22] (by kernel_rfl) ?_
         injection hx367 with hx367
         exact WL.to K true e12 rfl ⟨⟨(hS364.subR []).sub [0, 1] (by decide), hx367.symm⟩, trivial⟩
        refine WL.setB 84 h368 rfl ?_
        refine sg 45 [] e26 [e7, e3, e5, (84, e13), e20] (by kernel_rfl) ?_
        refine WL.setB 87 h63 rfl ?_
        refine sg 48 [] e36 [e7, e3, e5, (84, e13), e33, e41, e45] (by kernel_rfl) ?_
        obtain ⟨h369, hx367⟩ := as_some hx367
        refine seg 54 [.v e2, .v e6] e37 [e7, e3, e5, (84, e13), e33, (92, e6), (96, e2)] [.idx A9 e16 t4.1.length, .idx A9 x48 t4.1.length, .cell e8 e2, .cell e29 e6] (fun fb => by kernel_rfl) rfl ⟨nrow_adr (rowO.rd (hS364.own 0).1) h369.1 h369.2, nrow_adr (rowO.rd (hS364.own 0).1) h67.1 h67.2, nrow_cell (rowO.rd (hS364.own 0).1) [] h67.1 h67.2 0 rfl, nrow_cell (rowO.rd (hS364.own 0).1) [] h369.1 h369.2 0 rfl, trivial⟩ ?_
        obtain ⟨t370, ht371, hx367⟩ := bind_some hx367
        refine WL.call (some 97) 15 #[e6, e2] (fun fb => by kernel_rfl) (ref10_Before_calls _ e44 e11 (e34.1) (e34.2) (e10.1) (e10.2) t370 _ (rowsO.ro (hS364.ow 1) h369.1 h369.2).ofO (rowsO.ro (hS364.ow 1) h67.1 h67.2).ofO ht371) (fun v w372 hR373 => ?_)
        obtain ⟨rfl, hk_⟩ := hR373
        have hS374 := hS364.keepN hk_
        refine ⟨trivial, ?_⟩
        refine sg 58 [] e12 [e7, e3, e5, (100, (bv (!t370)))] (by kernel_rfl) ?_
        injection hx367 with hx367
        exact WL.to K (!t370) e12 rfl ⟨⟨(hS374.subR []).sub [0, 1] (by decide), hx367.symm⟩, trivial⟩
       rintro y375 w377 ⟨⟨hS378, hq376⟩, hF379⟩
       subst hq376
       refine WL.done rfl ?_
       injection hx57 with hx57
       exact WX.to Kx56 x366 e12 rfl ⟨(hS378.subR []).sub [0, 1] (by decide), hx57.symm⟩
      obtain ⟨h382, hx57⟩ := as_some hx57
      refine WC.regionD e46 e4 (by kernel_rfl) (by kernel_rfl) (NoPanic.seq (NoPanic.block (NoPanic.seq (NoPanic.seq (NoPanic.block (NoPanic.seq (NoPanic.body))))))) ?_
      have hS381 := hS53.drew
      revert hS381
      generalize World.drew w52 = w380
      intro hS381
      refine ⟨⟨nrow_cell (rowO.rd (hS381.own 0).1) [] h382.1 h382.2 0 rfl, nrow_cell (rowO.rd (hS381.own 0).1) [] h382.1 h382.2 0 rfl, trivial⟩, forallC ?_ (forallC ?_ (forallC ?_ (forallC ?_ (forallC ?_ (forallC ?_ (forallN))))))⟩
      ·
       refine segF 8 [.v e2] e30 [e7, e3, e5, e14] [.idx A9 x48 t4.1.length] [0] e27 (fun fb => by kernel_rfl) rfl ⟨nrow_adr (rowO.rd (hS381.own 0).1) h382.1 h382.2, trivial⟩ rfl ?_
       refine WL.setB 50 h58 rfl ?_
       refine segF 12 [.v e2] e23 [e7, e3, e5, (50, e13), (54, e2)] [.idx A9 x48 t4.1.length] [1] e35 (fun fb => by kernel_rfl) rfl ⟨nrow_adr (rowO.rd (hS381.own 0).1) h382.1 h382.2, trivial⟩ rfl ?_
       obtain ⟨t383, ht384, hx57⟩ := bind_some hx57
       refine WL.call (some 55) 11 #[e2] (fun fb => by kernel_rfl) (ref01_Valid_calls _ e11 (e10.1) (e10.2) t383 _ (rowsO.ro (hS381.ow 1) h382.1 h382.2).ofO ht384) (fun v w385 hR386 => ?_)
       obtain ⟨rfl, hk_⟩ := hR386
       have hS387 := hS381.keepN hk_
       refine ⟨trivial, ?_⟩
       refine sg 16 [] e38 [e7, e3, e5, (58, (bv (!t383)))] (by kernel_rfl) ?_
       obtain ⟨x388, hx389, hx57⟩ := bind_some hx57
       refine WL.cutW (T := Bool) 23 (fun t => [e7, e3, e5, (65, (bv t))]) (fun t w1 => (St NoS w w1 [] e9 ∧ x388 = t) ∧ CellsOK [] w1) (fun K => ?_) ?_
       ·
        rcases br_some hx389 with ⟨h390, hx389⟩ | ⟨h390, hx389⟩
        ·
         refine WL.setB 58 h390 rfl ?_
         refine sg 23 [] e15 [e7, e3, e5, e31] (by kernel_rfl) ?_
         injection hx389 with hx389
         exact WL.to K true e15 rfl ⟨⟨(hS387.subR []).sub [0, 1] (by decide), hx389.symm⟩, trivial⟩
        refine WL.setB 58 h390 rfl ?_
        refine seg 20 [.v e2] e24 [e7, e3, e5, (58, e13), (62, e2)] [.idx A9 x48 t4.1.length, .cell e8 e2] (fun fb => by kernel_rfl) rfl ⟨nrow_adr (rowO.rd (hS387.own 0).1) h382.1 h382.2, nrow_cell (rowO.rd (hS387.own 0).1) [] h382.1 h382.2 0 rfl, trivial⟩ ?_
        obtain ⟨t391, ht392, hx389⟩ := bind_some hx389
        refine WL.call (some 63) 12 #[e2] (fun fb => by kernel_rfl) (ref10_Least_calls _ e11 (e10.1) (e10.2) t391 _ (rowsO.ro (hS387.ow 1) h382.1 h382.2).ofO ht392) (fun v w393 hR394 => ?_)
        obtain ⟨rfl, hk_⟩ := hR394
        have hS395 := hS387.keepN hk_
        refine ⟨trivial, ?_⟩
        refine sg 23 [] e15 [e7, e3, e5, (65, (bv (!t391)))] (by kernel_rfl) ?_
        injection hx389 with hx389
        exact WL.to K (!t391) e15 rfl ⟨⟨(hS395.subR []).sub [0, 1] (by decide), hx389.symm⟩, trivial⟩
       rintro y396 w398 ⟨⟨hS399, hq397⟩, hF400⟩
       subst hq397
       refine sg 24 [] e39 [e7, e3, e5, (66, (bv x388))] (by kernel_rfl) ?_
       obtain ⟨x401, hx402, hx57⟩ := bind_some hx57
       refine WL.cutW (T := Bool) 41 (fun t => [e7, e3, e5, (83, (bv t))]) (fun t w1 => (St NoS w w1 [] e9 ∧ x401 = t) ∧ CellsOK [] w1) (fun K => ?_) ?_
       ·
        rcases br_some hx402 with ⟨h403, hx402⟩ | ⟨h403, hx402⟩
        ·
         refine WL.setB 66 h403 rfl ?_
         refine sg 41 [] e19 [e7, e3, e5, e32] (by kernel_rfl) ?_
         injection hx402 with hx402
         exact WL.to K true e19 rfl ⟨⟨(hS399.subR []).sub [0, 1] (by decide), hx402.symm⟩, trivial⟩
        refine WL.setB 66 h403 rfl ?_
        refine seg 28 [] e25 [e7, e3, e5, (66, e13), e17] [.ne 50] (fun fb => by kernel_rfl) rfl ⟨(by decide), trivial⟩ ?_
        refine WL.setB 70 h62 rfl ?_
        refine seg 35 [.v e2] e48 [e7, e3, e5, (66, e13), e42, (74, e2), (78, (.pointer (some e8)))] [.idx A9 x48 t4.1.length, .idx A9 x48 t4.1.length, .cell e8 e2] (fun fb => by kernel_rfl) rfl ⟨nrow_adr (rowO.rd (hS399.own 0).1) h382.1 h382.2, nrow_adr (rowO.rd (hS399.own 0).1) h382.1 h382.2, nrow_cell (rowO.rd (hS399.own 0).1) [] h382.1 h382.2 0 rfl, trivial⟩ ?_
        obtain ⟨t404, ht405, hx402⟩ := bind_some hx402
        refine WL.call (some 75) 14 #[e2] (fun fb => by kernel_rfl) (ref10_Canon_calls _ e11 (e10.1) (e10.2) t404 _ (rowsO.ro (hS399.ow 1) h382.1 h382.2).ofO ht405) (fun v w406 hR407 => ?_)
        obtain ⟨A409, c410, rfl, hk_⟩ := hR407
        have hS408 := hS8.go w406 [rowO 48 enc_Tile A409 c410 t404, rowO 28 (encSl Tile) A9 c11 (tag H12 t4.1), rowsO 48 enc_Tile H12 t4.1] (hS399.call hk_ [] [0, 1] (fun g hg => hg.elim) (by simp) (by decide))
        refine ⟨trivial, ?_⟩
        refine seg 37 [.v e2] e49 [e7, e3, e5, (66, e13), e42, (75, (sv A409 t404 c410)), (79, e2)] [.cell e8 e2] (fun fb => by kernel_rfl) rfl ⟨nrow_cell (rowO.rd (hS408.own 1).1) [] h382.1 h382.2 0 rfl, trivial⟩ ?_
        obtain ⟨t411, ht412, hx402⟩ := bind_some hx402
        refine WL.call (some 80) 13 #[(sv A409 t404 c410), e2] (fun fb => by kernel_rfl) (ref01_SameSet_calls _ t404 e11 A409 c410 (e10.1) (e10.2) t411 _ (hS408.ow 0).ofO (rowsO.ro (hS408.ow 2) h382.1 h382.2).ofO ht412) (fun v w413 hR414 => ?_)
        obtain ⟨rfl, hk_⟩ := hR414
        have hS415 := hS408.keepN hk_
        refine ⟨trivial, ?_⟩
        refine sg 41 [] e19 [e7, e3, e5, (83, (bv (!t411)))] (by kernel_rfl) ?_
        injection hx402 with hx402
        exact WL.to K (!t411) e19 rfl ⟨⟨(hS415.subR []).sub [1, 2] (by decide), hx402.symm⟩, trivial⟩
       rintro y416 w418 ⟨⟨hS419, hq417⟩, hF420⟩
       subst hq417
       refine sg 42 [] e40 [e7, e3, e5, (84, (bv x401))] (by kernel_rfl) ?_
       refine WL.cutV (T := Bool) 58 (fun t => [(100, (bv t)), e7, e3, e5]) (fun t => x401 = t) (fun K => ?_) ?_
       ·
        rcases Bool.eq_false_or_eq_true x401 with h421 | h421
        ·
         refine WL.setB 84 h421 rfl ?_
         refine sg 58 [] e12 [e7, e3, e5, e22] (by kernel_rfl) ?_
         exact WL.toV K true [100, 0, 3, 5] rfl (by first | (rw [h421]; done) | (rw [h421]; rfl))
        refine WL.setB 84 h421 rfl ?_
        refine sg 45 [] e26 [e7, e3, e5, (84, e13), e20] (by kernel_rfl) ?_
        refine WL.setB 87 h63 rfl ?_
        refine sg 58 [] e12 [e7, e3, e5, e47] (by kernel_rfl) ?_
        exact WL.toV K false [100, 0, 3, 5] rfl (by first | (rw [h421]; done) | (rw [h421]; rfl))
       rintro b422 rfl
       refine WL.done rfl ?_
       injection hx57 with hx57
       exact WX.to Kx56 x401 e12 rfl ⟨(hS419.subR []).sub [0, 1] (by decide), hx57.symm⟩
      ·
       refine segF 8 [.v e2] e30 [e7, e3, e5, e14] [.idx A9 x48 t4.1.length] [0] e27 (fun fb => by kernel_rfl) rfl ⟨nrow_adr (rowO.rd (hS381.own 0).1) h382.1 h382.2, trivial⟩ rfl ?_
       refine WL.setB 50 h58 rfl ?_
       refine segF 12 [.v e2] e23 [e7, e3, e5, (50, e13), (54, e2)] [.idx A9 x48 t4.1.length] [1] e35 (fun fb => by kernel_rfl) rfl ⟨nrow_adr (rowO.rd (hS381.own 0).1) h382.1 h382.2, trivial⟩ rfl ?_
       obtain ⟨t423, ht424, hx57⟩ := bind_some hx57
       refine WL.call (some 55) 11 #[e2] (fun fb => by kernel_rfl) (ref01_Valid_calls _ e11 (e10.1) (e10.2) t423 _ (rowsO.ro (hS381.ow 1) h382.1 h382.2).ofO ht424) (fun v w425 hR426 => ?_)
       obtain ⟨rfl, hk_⟩ := hR426
       have hS427 := hS381.keepN hk_
       refine ⟨trivial, ?_⟩
       refine sg 16 [] e38 [e7, e3, e5, (58, (bv (!t423)))] (by kernel_rfl) ?_
       obtain ⟨x428, hx429, hx57⟩ := bind_some hx57
       refine WL.cutW (T := Bool) 23 (fun t => [e7, e3, e5, (65, (bv t))]) (fun t w1 => (St NoS w w1 [] e9 ∧ x428 = t) ∧ CellsOK [] w1) (fun K => ?_) ?_
       ·
        rcases br_some hx429 with ⟨h430, hx429⟩ | ⟨h430, hx429⟩
        ·
         refine WL.setB 58 h430 rfl ?_
         refine sg 23 [] e15 [e7, e3, e5, e31] (by kernel_rfl) ?_
         injection hx429 with hx429
         exact WL.to K true e15 rfl ⟨⟨(hS427.subR []).sub [0, 1] (by decide), hx429.symm⟩, trivial⟩
        refine WL.setB 58 h430 rfl ?_
        refine seg 20 [.v e2] e24 [e7, e3, e5, (58, e13), (62, e2)] [.idx A9 x48 t4.1.length, .cell e8 e2] (fun fb => by kernel_rfl) rfl ⟨nrow_adr (rowO.rd (hS427.own 0).1) h382.1 h382.2, nrow_cell (rowO.rd (hS427.own 0).1) [] h382.1 h382.2 0 rfl, trivial⟩ ?_
        obtain ⟨t431, ht432, hx429⟩ := bind_some hx429
        refine WL.call (some 63) 12 #[e2] (fun fb => by kernel_rfl) (ref10_Least_calls _ e11 (e10.1) (e10.2) t431 _ (rowsO.ro (hS427.ow 1) h382.1 h382.2).ofO ht432) (fun v w433 hR434 => ?_)
        obtain ⟨rfl, hk_⟩ := hR434
        have hS435 := hS427.keepN hk_
        refine ⟨trivial, ?_⟩
        refine sg 23 [] e15 [e7, e3, e5, (65, (bv (!t431)))] (by kernel_rfl) ?_
        injection hx429 with hx429
        exact WL.to K (!t431) e15 rfl ⟨⟨(hS435.subR []).sub [0, 1] (by decide), hx429.symm⟩, trivial⟩
       rintro y436 w438 ⟨⟨hS439, hq437⟩, hF440⟩
       subst hq437
       refine sg 24 [] e39 [e7, e3, e5, (66, (bv x428))] (by kernel_rfl) ?_
       obtain ⟨x441, hx442, hx57⟩ := bind_some hx57
       refine WL.cutW (T := Bool) 41 (fun t => [e7, e3, e5, (83, (bv t))]) (fun t w1 => (St NoS w w1 [] e9 ∧ x441 = t) ∧ CellsOK [] w1) (fun K => ?_) ?_
       ·
        rcases br_some hx442 with ⟨h443, hx442⟩ | ⟨h443, hx442⟩
        ·
         refine WL.setB 66 h443 rfl ?_
         refine sg 41 [] e19 [e7, e3, e5, e32] (by kernel_rfl) ?_
         injection hx442 with hx442
         exact WL.to K true e19 rfl ⟨⟨(hS439.subR []).sub [0, 1] (by decide), hx442.symm⟩, trivial⟩
        refine WL.setB 66 h443 rfl ?_
        refine seg 28 [] e25 [e7, e3, e5, (66, e13), e17] [.ne 50] (fun fb => by kernel_rfl) rfl ⟨(by decide), trivial⟩ ?_
        refine WL.setB 70 h62 rfl ?_
        refine seg 35 [.v e2] e48 [e7, e3, e5, (66, e13), e42, (74, e2), (78, (.pointer (some e8)))] [.idx A9 x48 t4.1.length, .idx A9 x48 t4.1.length, .cell e8 e2] (fun fb => by kernel_rfl) rfl ⟨nrow_adr (rowO.rd (hS439.own 0).1) h382.1 h382.2, nrow_adr (rowO.rd (hS439.own 0).1) h382.1 h382.2, nrow_cell (rowO.rd (hS439.own 0).1) [] h382.1 h382.2 0 rfl, trivial⟩ ?_
        obtain ⟨t444, ht445, hx442⟩ := bind_some hx442
        refine WL.call (some 75) 14 #[e2] (fun fb => by kernel_rfl) (ref10_Canon_calls _ e11 (e10.1) (e10.2) t444 _ (rowsO.ro (hS439.ow 1) h382.1 h382.2).ofO ht445) (fun v w446 hR447 => ?_)
        obtain ⟨A449, c450, rfl, hk_⟩ := hR447
        have hS448 := hS8.go w446 [rowO 48 enc_Tile A449 c450 t444, rowO 28 (encSl Tile) A9 c11 (tag H12 t4.1), rowsO 48 enc_Tile H12 t4.1] (hS439.call hk_ [] [0, 1] (fun g hg => hg.elim) (by simp) (by decide))
        refine ⟨trivial, ?_⟩
        refine seg 37 [.v e2] e49 [e7, e3, e5, (66, e13), e42, (75, (sv A449 t444 c450)), (79, e2)] [.cell e8 e2] (fun fb => by kernel_rfl) rfl ⟨nrow_cell (rowO.rd (hS448.own 1).1) [] h382.1 h382.2 0 rfl, trivial⟩ ?_
        obtain ⟨t451, ht452, hx442⟩ := bind_some hx442
        refine WL.call (some 80) 13 #[(sv A449 t444 c450), e2] (fun fb => by kernel_rfl) (ref01_SameSet_calls _ t444 e11 A449 c450 (e10.1) (e10.2) t451 _ (hS448.ow 0).ofO (rowsO.ro (hS448.ow 2) h382.1 h382.2).ofO ht452) (fun v w453 hR454 => ?_)
        obtain ⟨rfl, hk_⟩ := hR454
        have hS455 := hS448.keepN hk_
        refine ⟨trivial, ?_⟩
        refine sg 41 [] e19 [e7, e3, e5, (83, (bv (!t451)))] (by kernel_rfl) ?_
        injection hx442 with hx442
        exact WL.to K (!t451) e19 rfl ⟨⟨(hS455.subR []).sub [1, 2] (by decide), hx442.symm⟩, trivial⟩
       rintro y456 w458 ⟨⟨hS459, hq457⟩, hF460⟩
       subst hq457
       refine sg 42 [] e40 [e7, e3, e5, (84, (bv x441))] (by kernel_rfl) ?_
       refine WL.cutV (T := Bool) 58 (fun t => [(100, (bv t)), e7, e3, e5]) (fun t => x441 = t) (fun K => ?_) ?_
       ·
        rcases Bool.eq_false_or_eq_true x441 with h461 | h461
        ·
         refine WL.setB 84 h461 rfl ?_
         refine sg 58 [] e12 [e7, e3, e5, e22] (by kernel_rfl) ?_
         exact WL.toV K true [100, 0, 3, 5] rfl (by first | (rw [h461]; done) | (rw [h461]; rfl))
        refine WL.setB 84 h461 rfl ?_
        refine sg 45 [] e26 [e7, e3, e5, (84, e13), e20] (by kernel_rfl) ?_
        refine WL.setB 87 h63 rfl ?_
        refine sg 58 [] e12 [e7, e3, e5, e47] (by kernel_rfl) ?_
        exact WL.toV K false [100, 0, 3, 5] rfl (by first | (rw [h461]; done) | (rw [h461]; rfl))
       rintro b462 rfl
       refine WL.done rfl ?_
       injection hx57 with hx57
       exact WX.to Kx56 x441 e12 rfl ⟨(hS459.subR []).sub [0, 1] (by decide), hx57.symm⟩
      ·
       refine segF 8 [.v e2] e30 [e7, e3, e5, e14] [.idx A9 x48 t4.1.length] [0] e27 (fun fb => by kernel_rfl) rfl ⟨nrow_adr (rowO.rd (hS381.own 0).1) h382.1 h382.2, trivial⟩ rfl ?_
       refine WL.setB 50 h58 rfl ?_
       refine segF 12 [.v e2] e23 [e7, e3, e5, (50, e13), (54, e2)] [.idx A9 x48 t4.1.length] [1] e35 (fun fb => by kernel_rfl) rfl ⟨nrow_adr (rowO.rd (hS381.own 0).1) h382.1 h382.2, trivial⟩ rfl ?_
       obtain ⟨t463, ht464, hx57⟩ := bind_some hx57
       refine WL.call (some 55) 11 #[e2] (fun fb => by kernel_rfl) (ref01_Valid_calls _ e11 (e10.1) (e10.2) t463 _ (rowsO.ro (hS381.ow 1) h382.1 h382.2).ofO ht464) (fun v w465 hR466 => ?_)
       obtain ⟨rfl, hk_⟩ := hR466
       have hS467 := hS381.keepN hk_
       refine ⟨trivial, ?_⟩
       refine sg 16 [] e38 [e7, e3, e5, (58, (bv (!t463)))] (by kernel_rfl) ?_
       obtain ⟨x468, hx469, hx57⟩ := bind_some hx57
       refine WL.cutW (T := Bool) 23 (fun t => [e7, e3, e5, (65, (bv t))]) (fun t w1 => (St NoS w w1 [] e9 ∧ x468 = t) ∧ CellsOK [] w1) (fun K => ?_) ?_
       ·
        rcases br_some hx469 with ⟨h470, hx469⟩ | ⟨h470, hx469⟩
        ·
         refine WL.setB 58 h470 rfl ?_
         refine sg 23 [] e15 [e7, e3, e5, e31] (by kernel_rfl) ?_
         injection hx469 with hx469
         exact WL.to K true e15 rfl ⟨⟨(hS467.subR []).sub [0, 1] (by decide), hx469.symm⟩, trivial⟩
        refine WL.setB 58 h470 rfl ?_
        refine seg 20 [.v e2] e24 [e7, e3, e5, (58, e13), (62, e2)] [.idx A9 x48 t4.1.length, .cell e8 e2] (fun fb => by kernel_rfl) rfl ⟨nrow_adr (rowO.rd (hS467.own 0).1) h382.1 h382.2, nrow_cell (rowO.rd (hS467.own 0).1) [] h382.1 h382.2 0 rfl, trivial⟩ ?_
        obtain ⟨t471, ht472, hx469⟩ := bind_some hx469
        refine WL.call (some 63) 12 #[e2] (fun fb => by kernel_rfl) (ref10_Least_calls _ e11 (e10.1) (e10.2) t471 _ (rowsO.ro (hS467.ow 1) h382.1 h382.2).ofO ht472) (fun v w473 hR474 => ?_)
        obtain ⟨rfl, hk_⟩ := hR474
        have hS475 := hS467.keepN hk_
        refine ⟨trivial, ?_⟩
        refine sg 23 [] e15 [e7, e3, e5, (65, (bv (!t471)))] (by kernel_rfl) ?_
        injection hx469 with hx469
        exact WL.to K (!t471) e15 rfl ⟨⟨(hS475.subR []).sub [0, 1] (by decide), hx469.symm⟩, trivial⟩
       rintro y476 w478 ⟨⟨hS479, hq477⟩, hF480⟩
       subst hq477
       refine sg 24 [] e39 [e7, e3, e5, (66, (bv x468))] (by kernel_rfl) ?_
       obtain ⟨x481, hx482, hx57⟩ := bind_some hx57
       refine WL.cutW (T := Bool) 41 (fun t => [e7, e3, e5, (83, (bv t))]) (fun t w1 => (St NoS w w1 [] e9 ∧ x481 = t) ∧ CellsOK [] w1) (fun K => ?_) ?_
       ·
        rcases br_some hx482 with ⟨h483, hx482⟩ | ⟨h483, hx482⟩
        ·
         refine WL.setB 66 h483 rfl ?_
         refine sg 41 [] e19 [e7, e3, e5, e32] (by kernel_rfl) ?_
         injection hx482 with hx482
         exact WL.to K true e19 rfl ⟨⟨(hS479.subR []).sub [0, 1] (by decide), hx482.symm⟩, trivial⟩
        refine WL.setB 66 h483 rfl ?_
        refine seg 28 [] e25 [e7, e3, e5, (66, e13), e17] [.ne 50] (fun fb => by kernel_rfl) rfl ⟨(by decide), trivial⟩ ?_
        refine WL.setB 70 h62 rfl ?_
        refine seg 36 [.v e2, .v e2] e43 [e7, e3, e5, (66, e13), e42, (74, e2), (79, e2)] [.idx A9 x48 t4.1.length, .idx A9 x48 t4.1.length, .cell e8 e2, .cell e8 e2] (fun fb => by kernel_rfl) rfl ⟨nrow_adr (rowO.rd (hS479.own 0).1) h382.1 h382.2, nrow_adr (rowO.rd (hS479.own 0).1) h382.1 h382.2, nrow_cell (rowO.rd (hS479.own 0).1) [] h382.1 h382.2 0 rfl, nrow_cell (rowO.rd (hS479.own 0).1) [] h382.1 h382.2 0 rfl, trivial⟩ ?_
        obtain ⟨t484, ht485, hx482⟩ := bind_some hx482
        refine WL.call (some 75) 14 #[e2] (fun fb => by kernel_rfl) (ref10_Canon_calls _ e11 (e10.1) (e10.2) t484 _ (rowsO.ro (hS479.ow 1) h382.1 h382.2).ofO ht485) (fun v w486 hR487 => ?_)
        obtain ⟨A489, c490, rfl, hk_⟩ := hR487
        have hS488 := hS8.go w486 [rowO 48 enc_Tile A489 c490 t484, rowO 28 (encSl Tile) A9 c11 (tag H12 t4.1), rowsO 48 enc_Tile H12 t4.1] (hS479.call hk_ [] [0, 1] (fun g hg => hg.elim) (by simp) (by decide))
        refine ⟨trivial, ?_⟩
        obtain ⟨t491, ht492, hx482⟩ := bind_some hx482
        refine WL.call (some 80) 13 #[(sv A489 t484 c490), e2] (fun fb => by kernel_rfl) (ref01_SameSet_calls _ t484 e11 A489 c490 (e10.1) (e10.2) t491 _ (hS488.ow 0).ofO (rowsO.ro (hS488.ow 2) h382.1 h382.2).ofO ht492) (fun v w493 hR494 => ?_)
        obtain ⟨rfl, hk_⟩ := hR494
        have hS495 := hS488.keepN hk_
        refine ⟨trivial, ?_⟩
        refine sg 41 [] e19 [e7, e3, e5, (83, (bv (!t491)))] (by kernel_rfl) ?_
        injection hx482 with hx482
        exact WL.to K (!t491) e19 rfl ⟨⟨(hS495.subR []).sub [1, 2] (by decide), hx482.symm⟩, trivial⟩
       rintro y496 w498 ⟨⟨hS499, hq497⟩, hF500⟩
       subst hq497
       refine sg 42 [] e40 [e7, e3, e5, (84, (bv x481))] (by kernel_rfl) ?_
       refine WL.cutV (T := Bool) 58 (fun t => [(100, (bv t)), e7, e3, e5]) (fun t => x481 = t) (fun K => ?_) ?_
       ·
        rcases Bool.eq_false_or_eq_true x481 with h501 | h501
        ·
         refine WL.setB 84 h501 rfl ?_
         refine sg 58 [] e12 [e7, e3, e5, e22] (by kernel_rfl) ?_
         exact WL.toV K true [100, 0, 3, 5] rfl (by first | (rw [h501]; done) | (rw [h501]; rfl))
        refine WL.setB 84 h501 rfl ?_
        refine sg 45 [] e26 [e7, e3, e5, (84, e13), e20] (by kernel_rfl) ?_
        refine WL.setB 87 h63 rfl ?_
        refine sg 58 [] e12 [e7, e3, e5, e47] (by kernel_rfl) ?_
        exact WL.toV K false [100, 0, 3, 5] rfl (by first | (rw [h501]; done) | (rw [h501]; rfl))
       rintro b502 rfl
       refine WL.done rfl ?_
       injection hx57 with hx57
       exact WX.to Kx56 x481 e12 rfl ⟨(hS499.subR []).sub [0, 1] (by decide), hx57.symm⟩
      ·
       refine segF 8 [.v e2] e30 [e7, e3, e5, e14] [.idx A9 x48 t4.1.length] [0] e27 (fun fb => by kernel_rfl) rfl ⟨nrow_adr (rowO.rd (hS381.own 0).1) h382.1 h382.2, trivial⟩ rfl ?_
       refine WL.setB 50 h58 rfl ?_
       refine segF 12 [.v e2] e23 [e7, e3, e5, (50, e13), (54, e2)] [.idx A9 x48 t4.1.length] [1] e35 (fun fb => by kernel_rfl) rfl ⟨nrow_adr (rowO.rd (hS381.own 0).1) h382.1 h382.2, trivial⟩ rfl ?_
       obtain ⟨t503, ht504, hx57⟩ := bind_some hx57
       refine WL.call (some 55) 11 #[e2] (fun fb => by kernel_rfl) (ref01_Valid_calls _ e11 (e10.1) (e10.2) t503 _ (rowsO.ro (hS381.ow 1) h382.1 h382.2).ofO ht504) (fun v w505 hR506 => ?_)
       obtain ⟨rfl, hk_⟩ := hR506
       have hS507 := hS381.keepN hk_
       refine ⟨trivial, ?_⟩
       refine sg 16 [] e38 [e7, e3, e5, (58, (bv (!t503)))] (by kernel_rfl) ?_
       obtain ⟨x508, hx509, hx57⟩ := bind_some hx57
       refine WL.cutW (T := Bool) 23 (fun t => [e7, e3, e5, (65, (bv t))]) (fun t w1 => (St NoS w w1 [] e9 ∧ x508 = t) ∧ CellsOK [] w1) (fun K => ?_) ?_
       ·
        rcases br_some hx509 with ⟨h510, hx509⟩ | ⟨h510, hx509⟩
        ·
         refine WL.setB 58 h510 rfl ?_
         refine sg 23 [] e15 [e7, e3, e5, e31] (by kernel_rfl) ?_
         injection hx509 with hx509
         exact WL.to K true e15 rfl ⟨⟨(hS507.subR []).sub [0, 1] (by decide), hx509.symm⟩, trivial⟩
        refine WL.setB 58 h510 rfl ?_
        refine seg 20 [.v e2] e24 [e7, e3, e5, (58, e13), (62, e2)] [.idx A9 x48 t4.1.length, .cell e8 e2] (fun fb => by kernel_rfl) rfl ⟨nrow_adr (rowO.rd (hS507.own 0).1) h382.1 h382.2, nrow_cell (rowO.rd (hS507.own 0).1) [] h382.1 h382.2 0 rfl, trivial⟩ ?_
        obtain ⟨t511, ht512, hx509⟩ := bind_some hx509
        refine WL.call (some 63) 12 #[e2] (fun fb => by kernel_rfl) (ref10_Least_calls _ e11 (e10.1) (e10.2) t511 _ (rowsO.ro (hS507.ow 1) h382.1 h382.2).ofO ht512) (fun v w513 hR514 => ?_)
        obtain ⟨rfl, hk_⟩ := hR514
        have hS515 := hS507.keepN hk_
        refine ⟨trivial, ?_⟩
        refine sg 23 [] e15 [e7, e3, e5, (65, (bv (!t511)))] (by kernel_rfl) ?_
        injection hx509 with hx509
        exact WL.to K (!t511) e15 rfl ⟨⟨(hS515.subR []).sub [0, 1] (by decide), hx509.symm⟩, trivial⟩
       rintro y516 w518 ⟨⟨hS519, hq517⟩, hF520⟩
       subst hq517
       refine sg 24 [] e39 [e7, e3, e5, (66, (bv x508))] (by kernel_rfl) ?_
       obtain ⟨x521, hx522, hx57⟩ := bind_some hx57
       refine WL.cutW (T := Bool) 41 (fun t => [e7, e3, e5, (83, (bv t))]) (fun t w1 => (St NoS w w1 [] e9 ∧ x521 = t) ∧ CellsOK [] w1) (fun K => ?_) ?_
       ·
        rcases br_some hx522 with ⟨h523, hx522⟩ | ⟨h523, hx522⟩
        ·
         refine WL.setB 66 h523 rfl ?_
         refine sg 41 [] e19 [e7, e3, e5, e32] (by kernel_rfl) ?_
         injection hx522 with hx522
         exact WL.to K true e19 rfl ⟨⟨(hS519.subR []).sub [0, 1] (by decide), hx522.symm⟩, trivial⟩
        refine WL.setB 66 h523 rfl ?_
        refine seg 28 [] e25 [e7, e3, e5, (66, e13), e17] [.ne 50] (fun fb => by kernel_rfl) rfl ⟨(by decide), trivial⟩ ?_
        refine WL.setB 70 h62 rfl ?_
        refine seg 36 [.v e2, .v e2] e43 [e7, e3, e5, (66, e13), e42, (74, e2), (79, e2)] [.idx A9 x48 t4.1.length, .idx A9 x48 t4.1.length, .cell e8 e2, .cell e8 e2] (fun fb => by kernel_rfl) rfl ⟨nrow_adr (rowO.rd (hS519.own 0).1) h382.1 h382.2, nrow_adr (rowO.rd (hS519.own 0).1) h382.1 h382.2, nrow_cell (rowO.rd (hS519.own 0).1) [] h382.1 h382.2 0 rfl, nrow_cell (rowO.rd (hS519.own 0).1) [] h382.1 h382.2 0 rfl, trivial⟩ ?_
        obtain ⟨t524, ht525, hx522⟩ := bind_some hx522
        refine WL.call (some 75) 14 #[e2] (fun fb => by kernel_rfl) (ref10_Canon_calls _ e11 (e10.1) (e10.2) t524 _ (rowsO.ro (hS519.ow 1) h382.1 h382.2).ofO ht525) (fun v w526 hR527 => ?_)
        obtain ⟨A529, c530, rfl, hk_⟩ := hR527
        have hS528 := hS8.go w526 [rowO 48 enc_Tile A529 c530 t524, rowO 28 (encSl Tile) A9 c11 (tag H12 t4.1), rowsO 48 enc_Tile H12 t4.1] (hS519.call hk_ [] [0, 1] (fun g hg => hg.elim) (by simp) (by decide))
        refine ⟨trivial, ?_⟩
        obtain ⟨t531, ht532, hx522⟩ := bind_some hx522
        refine WL.call (some 80) 13 #[(sv A529 t524 c530), e2] (fun fb => by kernel_rfl) (ref01_SameSet_calls _ t524 e11 A529 c530 (e10.1) (e10.2) t531 _ (hS528.ow 0).ofO (rowsO.ro (hS528.ow 2) h382.1 h382.2).ofO ht532) (fun v w533 hR534 => ?_)
        obtain ⟨rfl, hk_⟩ := hR534
        have hS535 := hS528.keepN hk_
        refine ⟨trivial, ?_⟩
        refine sg 41 [] e19 [e7, e3, e5, (83, (bv (!t531)))] (by kernel_rfl) ?_
        injection hx522 with hx522
        exact WL.to K (!t531) e19 rfl ⟨⟨(hS535.subR []).sub [1, 2] (by decide), hx522.symm⟩, trivial⟩
       rintro y536 w538 ⟨⟨hS539, hq537⟩, hF540⟩
       subst hq537
       refine sg 42 [] e40 [e7, e3, e5, (84, (bv x521))] (by kernel_rfl) ?_
       refine WL.cutV (T := Bool) 58 (fun t => [(100, (bv t)), e7, e3, e5]) (fun t => x521 = t) (fun K => ?_) ?_
       ·
        rcases Bool.eq_false_or_eq_true x521 with h541 | h541
        ·
         refine WL.setB 84 h541 rfl ?_
         refine sg 58 [] e12 [e7, e3, e5, e22] (by kernel_rfl) ?_
         exact WL.toV K true [100, 0, 3, 5] rfl (by first | (rw [h541]; done) | (rw [h541]; rfl))
        refine WL.setB 84 h541 rfl ?_
        refine sg 45 [] e26 [e7, e3, e5, (84, e13), e20] (by kernel_rfl) ?_
        refine WL.setB 87 h63 rfl ?_
        refine sg 58 [] e12 [e7, e3, e5, e47] (by kernel_rfl) ?_
        exact WL.toV K false [100, 0, 3, 5] rfl (by first | (rw [h541]; done) | (rw [h541]; rfl))
       rintro b542 rfl
       refine WL.done rfl ?_
       injection hx57 with hx57
       exact WX.to Kx56 x521 e12 rfl ⟨(hS539.subR []).sub [0, 1] (by decide), hx57.symm⟩
      ·
       refine segF 8 [.v e2] e30 [e7, e3, e5, e14] [.idx A9 x48 t4.1.length] [0] e27 (fun fb => by kernel_rfl) rfl ⟨nrow_adr (rowO.rd (hS381.own 0).1) h382.1 h382.2, trivial⟩ rfl ?_
       refine WL.setB 50 h58 rfl ?_
       refine segF 12 [.v e2] e23 [e7, e3, e5, (50, e13), (54, e2)] [.idx A9 x48 t4.1.length] [1] e35 (fun fb => by kernel_rfl) rfl ⟨nrow_adr (rowO.rd (hS381.own 0).1) h382.1 h382.2, trivial⟩ rfl ?_
       obtain ⟨t543, ht544, hx57⟩ := bind_some hx57
       refine WL.call (some 55) 11 #[e2] (fun fb => by kernel_rfl) (ref01_Valid_calls _ e11 (e10.1) (e10.2) t543 _ (rowsO.ro (hS381.ow 1) h382.1 h382.2).ofO ht544) (fun v w545 hR546 => ?_)
       obtain ⟨rfl, hk_⟩ := hR546
       have hS547 := hS381.keepN hk_
       refine ⟨trivial, ?_⟩
       refine sg 16 [] e38 [e7, e3, e5, (58, (bv (!t543)))] (by kernel_rfl) ?_
       obtain ⟨x548, hx549, hx57⟩ := bind_some hx57
       refine WL.cutW (T := Bool) 23 (fun t => [e7, e3, e5, (65, (bv t))]) (fun t w1 => (St NoS w w1 [] e9 ∧ x548 = t) ∧ CellsOK [] w1) (fun K => ?_) ?_
       ·
        rcases br_some hx549 with ⟨h550, hx549⟩ | ⟨h550, hx549⟩
        ·
         refine WL.setB 58 h550 rfl ?_
         refine sg 23 [] e15 [e7, e3, e5, e31] (by kernel_rfl) ?_
         injection hx549 with hx549
         exact WL.to K true e15 rfl ⟨⟨(hS547.subR []).sub [0, 1] (by decide), hx549.symm⟩, trivial⟩
        refine WL.setB 58 h550 rfl ?_
        refine seg 20 [.v e2] e24 [e7, e3, e5, (58, e13), (62, e2)] [.idx A9 x48 t4.1.length, .cell e8 e2] (fun fb => by kernel_rfl) rfl ⟨nrow_adr (rowO.rd (hS547.own 0).1) h382.1 h382.2, nrow_cell (rowO.rd (hS547.own 0).1) [] h382.1 h382.2 0 rfl, trivial⟩ ?_
        obtain ⟨t551, ht552, hx549⟩ := bind_some hx549
        refine WL.call (some 63) 12 #[e2] (fun fb => by kernel_rfl) (ref10_Least_calls _ e11 (e10.1) (e10.2) t551 _ (rowsO.ro (hS547.ow 1) h382.1 h382.2).ofO ht552) (fun v w553 hR554 => ?_)
        obtain ⟨rfl, hk_⟩ := hR554
        have hS555 := hS547.keepN hk_
        refine ⟨trivial, ?_⟩
        refine sg 23 [] e15 [e7, e3, e5, (65, (bv (!t551)))] (by kernel_rfl) ?_
        injection hx549 with hx549
        exact WL.to K (!t551) e15 rfl ⟨⟨(hS555.subR []).sub [0, 1] (by decide), hx549.symm⟩, trivial⟩
       rintro y556 w558 ⟨⟨hS559, hq557⟩, hF560⟩
       subst hq557
       refine sg 24 [] e39 [e7, e3, e5, (66, (bv x548))] (by kernel_rfl) ?_
       obtain ⟨x561, hx562, hx57⟩ := bind_some hx57
       refine WL.cutW (T := Bool) 41 (fun t => [e7, e3, e5, (83, (bv t))]) (fun t w1 => (St NoS w w1 [] e9 ∧ x561 = t) ∧ CellsOK [] w1) (fun K => ?_) ?_
       ·
        rcases br_some hx562 with ⟨h563, hx562⟩ | ⟨h563, hx562⟩
        ·
         refine WL.setB 66 h563 rfl ?_
         refine sg 41 [] e19 [e7, e3, e5, e32] (by kernel_rfl) ?_
         injection hx562 with hx562
         exact WL.to K true e19 rfl ⟨⟨(hS559.subR []).sub [0, 1] (by decide), hx562.symm⟩, trivial⟩
        refine WL.setB 66 h563 rfl ?_
        refine seg 28 [] e25 [e7, e3, e5, (66, e13), e17] [.ne 50] (fun fb => by kernel_rfl) rfl ⟨(by decide), trivial⟩ ?_
        refine WL.setB 70 h62 rfl ?_
        refine seg 36 [.v e2, .v e2] e43 [e7, e3, e5, (66, e13), e42, (74, e2), (79, e2)] [.idx A9 x48 t4.1.length, .idx A9 x48 t4.1.length, .cell e8 e2, .cell e8 e2] (fun fb => by kernel_rfl) rfl ⟨nrow_adr (rowO.rd (hS559.own 0).1) h382.1 h382.2, nrow_adr (rowO.rd (hS559.own 0).1) h382.1 h382.2, nrow_cell (rowO.rd (hS559.own 0).1) [] h382.1 h382.2 0 rfl, nrow_cell (rowO.rd (hS559.own 0).1) [] h382.1 h382.2 0 rfl, trivial⟩ ?_
        obtain ⟨t564, ht565, hx562⟩ := bind_some hx562
        refine WL.call (some 75) 14 #[e2] (fun fb => by kernel_rfl) (ref10_Canon_calls _ e11 (e10.1) (e10.2) t564 _ (rowsO.ro (hS559.ow 1) h382.1 h382.2).ofO ht565) (fun v w566 hR567 => ?_)
        obtain ⟨A569, c570, rfl, hk_⟩ := hR567
        have hS568 := hS8.go w566 [rowO 48 enc_Tile A569 c570 t564, rowO 28 (encSl Tile) A9 c11 (tag H12 t4.1), rowsO 48 enc_Tile H12 t4.1] (hS559.call hk_ [] [0, 1] (fun g hg => hg.elim) (by simp) (by decide))
        refine ⟨trivial, ?_⟩
        obtain ⟨t571, ht572, hx562⟩ := bind_some hx562
        refine WL.call (some 80) 13 #[(sv A569 t564 c570), e2] (fun fb => by kernel_rfl) (ref01_SameSet_calls _ t564 e11 A569 c570 (e10.1) (e10.2) t571 _ (hS568.ow 0).ofO (rowsO.ro (hS568.ow 2) h382.1 h382.2).ofO ht572) (fun v w573 hR574 => ?_)
        obtain ⟨rfl, hk_⟩ := hR574
        have hS575 := hS568.keepN hk_
        refine ⟨trivial, ?_⟩
        refine sg 41 [] e19 [e7, e3, e5, (83, (bv (!t571)))] (by kernel_rfl) ?_
        injection hx562 with hx562
        exact WL.to K (!t571) e19 rfl ⟨⟨(hS575.subR []).sub [1, 2] (by decide), hx562.symm⟩, trivial⟩
       rintro y576 w578 ⟨⟨hS579, hq577⟩, hF580⟩
       subst hq577
       refine sg 42 [] e40 [e7, e3, e5, (84, (bv x561))] (by kernel_rfl) ?_
       refine WL.cutV (T := Bool) 58 (fun t => [(100, (bv t)), e7, e3, e5]) (fun t => x561 = t) (fun K => ?_) ?_
       ·
        rcases Bool.eq_false_or_eq_true x561 with h581 | h581
        ·
         refine WL.setB 84 h581 rfl ?_
         refine sg 58 [] e12 [e7, e3, e5, e22] (by kernel_rfl) ?_
         exact WL.toV K true [100, 0, 3, 5] rfl (by first | (rw [h581]; done) | (rw [h581]; rfl))
        refine WL.setB 84 h581 rfl ?_
        refine sg 45 [] e26 [e7, e3, e5, (84, e13), e20] (by kernel_rfl) ?_
        refine WL.setB 87 h63 rfl ?_
        refine sg 58 [] e12 [e7, e3, e5, e47] (by kernel_rfl) ?_
        exact WL.toV K false [100, 0, 3, 5] rfl (by first | (rw [h581]; done) | (rw [h581]; rfl))
       rintro b582 rfl
       refine WL.done rfl ?_
       injection hx57 with hx57
       exact WX.to Kx56 x561 e12 rfl ⟨(hS579.subR []).sub [0, 1] (by decide), hx57.symm⟩
      refine segF 8 [.v e2] e30 [e7, e3, e5, e14] [.idx A9 x48 t4.1.length] [0] e27 (fun fb => by kernel_rfl) rfl ⟨nrow_adr (rowO.rd (hS381.own 0).1) h382.1 h382.2, trivial⟩ rfl ?_
      refine WL.setB 50 h58 rfl ?_
      refine segF 12 [.v e2] e23 [e7, e3, e5, (50, e13), (54, e2)] [.idx A9 x48 t4.1.length] [1] e35 (fun fb => by kernel_rfl) rfl ⟨nrow_adr (rowO.rd (hS381.own 0).1) h382.1 h382.2, trivial⟩ rfl ?_
      obtain ⟨t583, ht584, hx57⟩ := bind_some hx57
      refine WL.call (some 55) 11 #[e2] (fun fb => by kernel_rfl) (ref01_Valid_calls _ e11 (e10.1) (e10.2) t583 _ (rowsO.ro (hS381.ow 1) h382.1 h382.2).ofO ht584) (fun v w585 hR586 => ?_)
      obtain ⟨rfl, hk_⟩ := hR586
      have hS587 := hS381.keepN hk_
      refine ⟨trivial, ?_⟩
      refine sg 16 [] e38 [e7, e3, e5, (58, (bv (!t583)))] (by kernel_rfl) ?_
      obtain ⟨x588, hx589, hx57⟩ := bind_some hx57
      refine WL.cutW (T := Bool) 23 (fun t => [e7, e3, e5, (65, (bv t))]) (fun t w1 => (St NoS w w1 [] e9 ∧ x588 = t) ∧ CellsOK [] w1) (fun K => ?_) ?_
      ·
       rcases br_some hx589 with ⟨h590, hx589⟩ | ⟨h590, hx589⟩
       ·
        refine WL.setB 58 h590 rfl ?_
        refine sg 23 [] e15 [e7, e3, e5, e31] (by kernel_rfl) ?_
        injection hx589 with hx589
        exact WL.to K true e15 rfl ⟨⟨(hS587.subR []).sub [0, 1] (by decide), hx589.symm⟩, trivial⟩
       refine WL.setB 58 h590 rfl ?_
       refine seg 20 [.v e2] e24 [e7, e3, e5, (58, e13), (62, e2)] [.idx A9 x48 t4.1.length, .cell e8 e2] (fun fb => by kernel_rfl) rfl ⟨nrow_adr (rowO.rd (hS587.own 0).1) h382.1 h382.2, nrow_cell (rowO.rd (hS587.own 0).1) [] h382.1 h382.2 0 rfl, trivial⟩ ?_
       obtain ⟨t591, ht592, hx589⟩ := bind_some hx589
       refine WL.call (some 63) 12 #[e2] (fun fb => by kernel_rfl) (ref10_Least_calls _ e11 (e10.1) (e10.2) t591 _ (rowsO.ro (hS587.ow 1) h382.1 h382.2).ofO ht592) (fun v w593 hR594 => ?_)
       obtain ⟨rfl, hk_⟩ := hR594
       have hS595 := hS587.keepN hk_
       refine ⟨trivial, ?_⟩
       refine sg 23 [] e15 [e7, e3, e5, (65, (bv (!t591)))] (by kernel_rfl) ?_
       injection hx589 with hx589
       exact WL.to K (!t591) e15 rfl ⟨⟨(hS595.subR []).sub [0, 1] (by decide), hx589.symm⟩, trivial⟩
      rintro y596 w598 ⟨⟨hS599, hq597⟩, hF600⟩
      subst hq597
      refine sg 24 [] e39 [e7, e3, e5, (66, (bv x588))] (by kernel_rfl) ?_
      obtain ⟨x601, hx602, hx57⟩ := bind_some hx57
      refine WL.cutW (T := Bool) 41 (fun t => [e7, e3, e5, (83, (bv t))]) (fun t w1 => (St NoS w w1 [] e9 ∧ x601 = t) ∧ CellsOK [] w1) (fun K => ?_) ?_
      ·
       rcases br_some hx602 with ⟨h603, hx602⟩ | ⟨h603, hx602⟩
       ·
        refine WL.setB 66 h603 rfl ?_
        refine sg 41 [] e19 [e7, e3, e5, e32] (by kernel_rfl) ?_
        injection hx602 with hx602
        exact WL.to K true e19 rfl ⟨⟨(hS599.subR []).sub [0, 1] (by decide), hx602.symm⟩, trivial⟩
       refine WL.setB 66 h603 rfl ?_
       refine seg 28 [] e25 [e7, e3, e5, (66, e13), e17] [.ne 50] (fun fb => by kernel_rfl) rfl ⟨(by decide), trivial⟩ ?_
       refine WL.setB 70 h62 rfl ?_
       refine seg 36 [.v e2, .v e2] e43 [e7, e3, e5, (66, e13), e42, (74, e2), (79, e2)] [.idx A9 x48 t4.1.length, .idx A9 x48 t4.1.length, .cell e8 e2, .cell e8 e2] (fun fb => by kernel_rfl) rfl ⟨nrow_adr (rowO.rd (hS599.own 0).1) h382.1 h382.2, nrow_adr (rowO.rd (hS599.own 0).1) h382.1 h382.2, nrow_cell (rowO.rd (hS599.own 0).1) [] h382.1 h382.2 0 rfl, nrow_cell (rowO.rd (hS599.own 0).1) [] h382.1 h382.2 0 rfl, trivial⟩ ?_
       obtain ⟨t604, ht605, hx602⟩ := bind_some hx602
       refine WL.call (some 75) 14 #[e2] (fun fb => by kernel_rfl) (ref10_Canon_calls _ e11 (e10.1) (e10.2) t604 _ (rowsO.ro (hS599.ow 1) h382.1 h382.2).ofO ht605) (fun v w606 hR607 => ?_)
       obtain ⟨A609, c610, rfl, hk_⟩ := hR607
       have hS608 := hS8.go w606 [rowO 48 enc_Tile A609 c610 t604, rowO 28 (encSl Tile) A9 c11 (tag H12 t4.1), rowsO 48 enc_Tile H12 t4.1] (hS599.call hk_ [] [0, 1] (fun g hg => hg.elim) (by simp) (by decide))
       refine ⟨trivial, ?_⟩
       obtain ⟨t611, ht612, hx602⟩ := bind_some hx602
       refine WL.call (some 80) 13 #[(sv A609 t604 c610), e2] (fun fb => by kernel_rfl) (ref01_SameSet_calls _ t604 e11 A609 c610 (e10.1) (e10.2) t611 _ (hS608.ow 0).ofO (rowsO.ro (hS608.ow 2) h382.1 h382.2).ofO ht612) (fun v w613 hR614 => ?_)
       obtain ⟨rfl, hk_⟩ := hR614
       have hS615 := hS608.keepN hk_
       refine ⟨trivial, ?_⟩
       refine sg 41 [] e19 [e7, e3, e5, (83, (bv (!t611)))] (by kernel_rfl) ?_
       injection hx602 with hx602
       exact WL.to K (!t611) e19 rfl ⟨⟨(hS615.subR []).sub [1, 2] (by decide), hx602.symm⟩, trivial⟩
      rintro y616 w618 ⟨⟨hS619, hq617⟩, hF620⟩
      subst hq617
      refine sg 42 [] e40 [e7, e3, e5, (84, (bv x601))] (by kernel_rfl) ?_
      refine WL.cutV (T := Bool) 58 (fun t => [(100, (bv t)), e7, e3, e5]) (fun t => x601 = t) (fun K => ?_) ?_
      ·
       rcases Bool.eq_false_or_eq_true x601 with h621 | h621
       ·
        refine WL.setB 84 h621 rfl ?_
        refine sg 58 [] e12 [e7, e3, e5, e22] (by kernel_rfl) ?_
        exact WL.toV K true [100, 0, 3, 5] rfl (by first | (rw [h621]; done) | (rw [h621]; rfl))
       refine WL.setB 84 h621 rfl ?_
       refine sg 45 [] e26 [e7, e3, e5, (84, e13), e20] (by kernel_rfl) ?_
       refine WL.setB 87 h63 rfl ?_
       refine sg 58 [] e12 [e7, e3, e5, e47] (by kernel_rfl) ?_
       exact WL.toV K false [100, 0, 3, 5] rfl (by first | (rw [h621]; done) | (rw [h621]; rfl))
      rintro b622 rfl
      refine WL.done rfl ?_
      injection hx57 with hx57
      exact WX.to Kx56 x601 e12 rfl ⟨(hS619.subR []).sub [0, 1] (by decide), hx57.symm⟩
     rcases br_some hx57 with ⟨h623, hx57⟩ | ⟨h623, hx57⟩
     ·
      obtain ⟨h626, hx57⟩ := as_some hx57
      refine WC.regionD e46 e4 (by kernel_rfl) (by kernel_rfl) (NoPanic.seq (NoPanic.block (NoPanic.seq (NoPanic.seq (NoPanic.block (NoPanic.seq (NoPanic.body))))))) ?_
      have hS625 := hS53.drew
      revert hS625
      generalize World.drew w52 = w624
      intro hS625
      refine ⟨⟨nrow_cell (rowO.rd (hS625.own 0).1) [] h626.1 h626.2 0 rfl, nrow_cell (rowO.rd (hS625.own 0).1) [] h626.1 h626.2 0 rfl, trivial⟩, forallC ?_ (forallC ?_ (forallC ?_ (forallC ?_ (forallC ?_ (forallC ?_ (forallN))))))⟩
      ·
       refine segF 8 [.v e2] e30 [e7, e3, e5, e14] [.idx A9 x48 t4.1.length] [0] e27 (fun fb => by kernel_rfl) rfl ⟨nrow_adr (rowO.rd (hS625.own 0).1) h626.1 h626.2, trivial⟩ rfl ?_
       refine WL.setB 50 h58 rfl ?_
       refine segF 12 [.v e2] e23 [e7, e3, e5, (50, e13), (54, e2)] [.idx A9 x48 t4.1.length] [1] e35 (fun fb => by kernel_rfl) rfl ⟨nrow_adr (rowO.rd (hS625.own 0).1) h626.1 h626.2, trivial⟩ rfl ?_
       obtain ⟨t627, ht628, hx57⟩ := bind_some hx57
       refine WL.call (some 55) 11 #[e2] (fun fb => by kernel_rfl) (ref01_Valid_calls _ e11 (e10.1) (e10.2) t627 _ (rowsO.ro (hS625.ow 1) h626.1 h626.2).ofO ht628) (fun v w629 hR630 => ?_)
       obtain ⟨rfl, hk_⟩ := hR630
       have hS631 := hS625.keepN hk_
       refine ⟨trivial, ?_⟩
       refine sg 16 [] e38 [e7, e3, e5, (58, (bv (!t627)))] (by kernel_rfl) ?_
       obtain ⟨x632, hx633, hx57⟩ := bind_some hx57
       refine WL.cutW (T := Bool) 23 (fun t => [e7, e3, e5, (65, (bv t))]) (fun t w1 => (St NoS w w1 [] e9 ∧ x632 = t) ∧ CellsOK [] w1) (fun K => ?_) ?_
       ·
        rcases br_some hx633 with ⟨h634, hx633⟩ | ⟨h634, hx633⟩
        ·
         refine WL.setB 58 h634 rfl ?_
         refine sg 23 [] e15 [e7, e3, e5, e31] (by kernel_rfl) ?_
         injection hx633 with hx633
         exact WL.to K true e15 rfl ⟨⟨(hS631.subR []).sub [0, 1] (by decide), hx633.symm⟩, trivial⟩
        refine WL.setB 58 h634 rfl ?_
        refine seg 20 [.v e2] e24 [e7, e3, e5, (58, e13), (62, e2)] [.idx A9 x48 t4.1.length, .cell e8 e2] (fun fb => by kernel_rfl) rfl ⟨nrow_adr (rowO.rd (hS631.own 0).1) h626.1 h626.2, nrow_cell (rowO.rd (hS631.own 0).1) [] h626.1 h626.2 0 rfl, trivial⟩ ?_
        obtain ⟨t635, ht636, hx633⟩ := bind_some hx633
        refine WL.call (some 63) 12 #[e2] (fun fb => by kernel_rfl) (ref10_Least_calls _ e11 (e10.1) (e10.2) t635 _ (rowsO.ro (hS631.ow 1) h626.1 h626.2).ofO ht636) (fun v w637 hR638 => ?_)
        obtain ⟨rfl, hk_⟩ := hR638
        have hS639 := hS631.keepN hk_
        refine ⟨trivial, ?_⟩
        refine sg 23 [] e15 [e7, e3, e5, (65, (bv (!t635)))] (by kernel_rfl) ?_
        injection hx633 with hx633
        exact WL.to K (!t635) e15 rfl ⟨⟨(hS639.subR []).sub [0, 1] (by decide), hx633.symm⟩, trivial⟩
       rintro y640 w642 ⟨⟨hS643, hq641⟩, hF644⟩
       subst hq641
       refine sg 24 [] e39 [e7, e3, e5, (66, (bv x632))] (by kernel_rfl) ?_
       refine WL.cutV (T := Bool) 41 (fun t => [(83, (bv t)), e7, e3, e5]) (fun t => x632 = t) (fun K => ?_) ?_
       ·
        rcases Bool.eq_false_or_eq_true x632 with h645 | h645
        ·
         refine WL.setB 66 h645 rfl ?_
         refine sg 41 [] e19 [e7, e3, e5, e32] (by kernel_rfl) ?_
         exact WL.toV K true [83, 0, 3, 5] rfl (by first | (rw [h645]; done) | (rw [h645]; rfl))
        refine WL.setB 66 h645 rfl ?_
        refine seg 28 [] e25 [e7, e3, e5, (66, e13), e17] [.ne 50] (fun fb => by kernel_rfl) rfl ⟨(by decide), trivial⟩ ?_
        refine WL.setB 70 h62 rfl ?_
        refine sg 41 [] e19 [e7, e3, e5, (83, e13)] (by kernel_rfl) ?_
        exact WL.toV K false [83, 0, 3, 5] rfl (by first | (rw [h645]; done) | (rw [h645]; rfl))
       rintro b646 rfl
       refine sg 42 [] e40 [e7, e3, e5, (84, (bv x632))] (by kernel_rfl) ?_
       obtain ⟨x647, hx648, hx57⟩ := bind_some hx57
       refine WL.cutW (T := Bool) 58 (fun t => [e7, e3, e5, (100, (bv t))]) (fun t w1 => (St NoS w w1 [] e9 ∧ x647 = t) ∧ CellsOK [] w1) (fun K => ?_) ?_
       ·
        rcases br_some hx648 with ⟨h649, hx648⟩ | ⟨h649, hx648⟩
        ·
         refine WL.setB 84 h649 rfl ?_
         refine sg 58 [] e12 [e7, e3, e5, e22] (by kernel_rfl) ?_
         injection hx648 with hx648
         exact WL.to K true e12 rfl ⟨⟨(hS643.subR []).sub [0, 1] (by decide), hx648.symm⟩, trivial⟩
        refine WL.setB 84 h649 rfl ?_
        refine sg 45 [] e26 [e7, e3, e5, (84, e13), e20] (by kernel_rfl) ?_
        refine WL.setB 87 h623 rfl ?_
        refine sg 48 [] e36 [e7, e3, e5, (84, e13), e33, e41, e45] (by kernel_rfl) ?_
        obtain ⟨h650, hx648⟩ := as_some hx648
        refine seg 54 [.v e6, .v e2] e37 [e7, e3, e5, (84, e13), e33, (92, e6), (96, e2)] [.idx A9 e16 t4.1.length, .idx A9 x48 t4.1.length, .cell e29 e6, .cell e8 e2] (fun fb => by kernel_rfl) rfl ⟨nrow_adr (rowO.rd (hS643.own 0).1) h650.1 h650.2, nrow_adr (rowO.rd (hS643.own 0).1) h626.1 h626.2, nrow_cell (rowO.rd (hS643.own 0).1) [] h650.1 h650.2 0 rfl, nrow_cell (rowO.rd (hS643.own 0).1) [] h626.1 h626.2 0 rfl, trivial⟩ ?_
        obtain ⟨t651, ht652, hx648⟩ := bind_some hx648
        refine WL.call (some 97) 15 #[e6, e2] (fun fb => by kernel_rfl) (ref10_Before_calls _ e44 e11 (e34.1) (e34.2) (e10.1) (e10.2) t651 _ (rowsO.ro (hS643.ow 1) h650.1 h650.2).ofO (rowsO.ro (hS643.ow 1) h626.1 h626.2).ofO ht652) (fun v w653 hR654 => ?_)
        obtain ⟨rfl, hk_⟩ := hR654
        have hS655 := hS643.keepN hk_
        refine ⟨trivial, ?_⟩
        refine sg 58 [] e12 [e7, e3, e5, (100, (bv (!t651)))] (by kernel_rfl) ?_
        injection hx648 with hx648
        exact WL.to K (!t651) e12 rfl ⟨⟨(hS655.subR []).sub [0, 1] (by decide), hx648.symm⟩, trivial⟩
       rintro y656 w658 ⟨⟨hS659, hq657⟩, hF660⟩
       subst hq657
       refine WL.done rfl ?_
       injection hx57 with hx57
       exact WX.to Kx56 x647 e12 rfl ⟨(hS659.subR []).sub [0, 1] (by decide), hx57.symm⟩
      ·
       refine segF 8 [.v e2] e30 [e7, e3, e5, e14] [.idx A9 x48 t4.1.length] [0] e27 (fun fb => by kernel_rfl) rfl ⟨nrow_adr (rowO.rd (hS625.own 0).1) h626.1 h626.2, trivial⟩ rfl ?_
       refine WL.setB 50 h58 rfl ?_
       refine segF 12 [.v e2] e23 [e7, e3, e5, (50, e13), (54, e2)] [.idx A9 x48 t4.1.length] [1] e35 (fun fb => by kernel_rfl) rfl ⟨nrow_adr (rowO.rd (hS625.own 0).1) h626.1 h626.2, trivial⟩ rfl ?_
       obtain ⟨t661, ht662, hx57⟩ := bind_some hx57
       refine WL.call (some 55) 11 #[e2] (fun fb => by kernel_rfl) (ref01_Valid_calls _ e11 (e10.1) (e10.2) t661 _ (rowsO.ro (hS625.ow 1) h626.1 h626.2).ofO ht662) (fun v w663 hR664 => ?_)
       obtain ⟨rfl, hk_⟩ := hR664
       have hS665 := hS625.keepN hk_
       refine ⟨trivial, ?_⟩
       refine sg 16 [] e38 [e7, e3, e5, (58, (bv (!t661)))] (by kernel_rfl) ?_
       obtain ⟨x666, hx667, hx57⟩ := bind_some hx57
       refine WL.cutW (T := Bool) 23 (fun t => [e7, e3, e5, (65, (bv t))]) (fun t w1 => (St NoS w w1 [] e9 ∧ x666 = t) ∧ CellsOK [] w1) (fun K => ?_) ?_
       ·
        rcases br_some hx667 with ⟨h668, hx667⟩ | ⟨h668, hx667⟩
        ·
         refine WL.setB 58 h668 rfl ?_
         refine sg 23 [] e15 [e7, e3, e5, e31] (by kernel_rfl) ?_
         injection hx667 with hx667
         exact WL.to K true e15 rfl ⟨⟨(hS665.subR []).sub [0, 1] (by decide), hx667.symm⟩, trivial⟩
        refine WL.setB 58 h668 rfl ?_
        refine seg 20 [.v e2] e24 [e7, e3, e5, (58, e13), (62, e2)] [.idx A9 x48 t4.1.length, .cell e8 e2] (fun fb => by kernel_rfl) rfl ⟨nrow_adr (rowO.rd (hS665.own 0).1) h626.1 h626.2, nrow_cell (rowO.rd (hS665.own 0).1) [] h626.1 h626.2 0 rfl, trivial⟩ ?_
        obtain ⟨t669, ht670, hx667⟩ := bind_some hx667
        refine WL.call (some 63) 12 #[e2] (fun fb => by kernel_rfl) (ref10_Least_calls _ e11 (e10.1) (e10.2) t669 _ (rowsO.ro (hS665.ow 1) h626.1 h626.2).ofO ht670) (fun v w671 hR672 => ?_)
        obtain ⟨rfl, hk_⟩ := hR672
        have hS673 := hS665.keepN hk_
        refine ⟨trivial, ?_⟩
        refine sg 23 [] e15 [e7, e3, e5, (65, (bv (!t669)))] (by kernel_rfl) ?_
        injection hx667 with hx667
        exact WL.to K (!t669) e15 rfl ⟨⟨(hS673.subR []).sub [0, 1] (by decide), hx667.symm⟩, trivial⟩
       rintro y674 w676 ⟨⟨hS677, hq675⟩, hF678⟩
       subst hq675
       refine sg 24 [] e39 [e7, e3, e5, (66, (bv x666))] (by kernel_rfl) ?_
       refine WL.cutV (T := Bool) 41 (fun t => [(83, (bv t)), e7, e3, e5]) (fun t => x666 = t) (fun K => ?_) ?_
       ·
        rcases Bool.eq_false_or_eq_true x666 with h679 | h679
        ·
         refine WL.setB 66 h679 rfl ?_
         refine sg 41 [] e19 [e7, e3, e5, e32] (by kernel_rfl) ?_
         exact WL.toV K true [83, 0, 3, 5] rfl (by first | (rw [h679]; done) | (rw [h679]; rfl))
        refine WL.setB 66 h679 rfl ?_
        refine seg 28 [] e25 [e7, e3, e5, (66, e13), e17] [.ne 50] (fun fb => by kernel_rfl) rfl ⟨(by decide), trivial⟩ ?_
        refine WL.setB 70 h62 rfl ?_
        refine sg 41 [] e19 [e7, e3, e5, (83, e13)] (by kernel_rfl) ?_
        exact WL.toV K false [83, 0, 3, 5] rfl (by first | (rw [h679]; done) | (rw [h679]; rfl))
       rintro b680 rfl
       refine sg 42 [] e40 [e7, e3, e5, (84, (bv x666))] (by kernel_rfl) ?_
       obtain ⟨x681, hx682, hx57⟩ := bind_some hx57
       refine WL.cutW (T := Bool) 58 (fun t => [e7, e3, e5, (100, (bv t))]) (fun t w1 => (St NoS w w1 [] e9 ∧ x681 = t) ∧ CellsOK [] w1) (fun K => ?_) ?_
       ·
        rcases br_some hx682 with ⟨h683, hx682⟩ | ⟨h683, hx682⟩
        ·
         refine WL.setB 84 h683 rfl ?_
         refine sg 58 [] e12 [e7, e3, e5, e22] (by kernel_rfl) ?_
         injection hx682 with hx682
         exact WL.to K true e12 rfl ⟨⟨(hS677.subR []).sub [0, 1] (by decide), hx682.symm⟩, trivial⟩
        refine WL.setB 84 h683 rfl ?_
        refine sg 45 [] e26 [e7, e3, e5, (84, e13), e20] (by kernel_rfl) ?_
        refine WL.setB 87 h623 rfl ?_
        refine sg 48 [] e36 [e7, e3, e5, (84, e13), e33, e41, e45] (by kernel_rfl) ?_
        obtain ⟨h684, hx682⟩ := as_some hx682
        refine seg 54 [.v e2, .v e6] e37 [e7, e3, e5, (84, e13), e33, (92, e6), (96, e2)] [.idx A9 e16 t4.1.length, .idx A9 x48 t4.1.length, .cell e8 e2, .cell e29 e6] (fun fb => by kernel_rfl) rfl ⟨nrow_adr (rowO.rd (hS677.own 0).1) h684.1 h684.2, nrow_adr (rowO.rd (hS677.own 0).1) h626.1 h626.2, nrow_cell (rowO.rd (hS677.own 0).1) [] h626.1 h626.2 0 rfl, nrow_cell (rowO.rd (hS677.own 0).1) [] h684.1 h684.2 0 rfl, trivial⟩ ?_
        obtain ⟨t685, ht686, hx682⟩ := bind_some hx682
        refine WL.call (some 97) 15 #[e6, e2] (fun fb => by kernel_rfl) (ref10_Before_calls _ e44 e11 (e34.1) (e34.2) (e10.1) (e10.2) t685 _ (rowsO.ro (hS677.ow 1) h684.1 h684.2).ofO (rowsO.ro (hS677.ow 1) h626.1 h626.2).ofO ht686) (fun v w687 hR688 => ?_)
        obtain ⟨rfl, hk_⟩ := hR688
        have hS689 := hS677.keepN hk_
        refine ⟨trivial, ?_⟩
        refine sg 58 [] e12 [e7, e3, e5, (100, (bv (!t685)))] (by kernel_rfl) ?_
        injection hx682 with hx682
        exact WL.to K (!t685) e12 rfl ⟨⟨(hS689.subR []).sub [0, 1] (by decide), hx682.symm⟩, trivial⟩
       rintro y690 w692 ⟨⟨hS693, hq691⟩, hF694⟩
       subst hq691
       refine WL.done rfl ?_
       injection hx57 with hx57
       exact WX.to Kx56 x681 e12 rfl ⟨(hS693.subR []).sub [0, 1] (by decide), hx57.symm⟩
      ·
       refine segF 8 [.v e2] e30 [e7, e3, e5, e14] [.idx A9 x48 t4.1.length] [0] e27 (fun fb => by kernel_rfl) rfl ⟨nrow_adr (rowO.rd (hS625.own 0).1) h626.1 h626.2, trivial⟩ rfl ?_
       refine WL.setB 50 h58 rfl ?_
       refine segF 12 [.v e2] e23 [e7, e3, e5, (50, e13), (54, e2)] [.idx A9 x48 t4.1.length] [1] e35 (fun fb => by kernel_rfl) rfl ⟨nrow_adr (rowO.rd (hS625.own 0).1) h626.1 h626.2, trivial⟩ rfl ?_
       obtain ⟨t695, ht696, hx57⟩ := bind_some hx57
       refine WL.call (some 55) 11 #[e2] (fun fb => by kernel_rfl) (ref01_Valid_calls _ e11 (e10.1) (e10.2) t695 _ (rowsO.ro (hS625.ow 1) h626.1 h626.2).ofO ht696) (fun v w697 hR698 => ?_)
       obtain ⟨rfl, hk_⟩ := hR698
       have hS699 := hS625.keepN hk_
       refine ⟨trivial, ?_⟩
       refine sg 16 [] e38 [e7, e3, e5, (58, (bv (!t695)))] (by kernel_rfl) ?_
       obtain ⟨x700, hx701, hx57⟩ := bind_some hx57
       refine WL.cutW (T := Bool) 23 (fun t => [e7, e3, e5, (65, (bv t))]) (fun t w1 => (St NoS w w1 [] e9 ∧ x700 = t) ∧ CellsOK [] w1) (fun K => ?_) ?_
       ·
        rcases br_some hx701 with ⟨h702, hx701⟩ | ⟨h702, hx701⟩
        ·
         refine WL.setB 58 h702 rfl ?_
         refine sg 23 [] e15 [e7, e3, e5, e31] (by kernel_rfl) ?_
         injection hx701 with hx701
         exact WL.to K true e15 rfl ⟨⟨(hS699.subR []).sub [0, 1] (by decide), hx701.symm⟩, trivial⟩
        refine WL.setB 58 h702 rfl ?_
        refine seg 20 [.v e2] e24 [e7, e3, e5, (58, e13), (62, e2)] [.idx A9 x48 t4.1.length, .cell e8 e2] (fun fb => by kernel_rfl) rfl ⟨nrow_adr (rowO.rd (hS699.own 0).1) h626.1 h626.2, nrow_cell (rowO.rd (hS699.own 0).1) [] h626.1 h626.2 0 rfl, trivial⟩ ?_
        obtain ⟨t703, ht704, hx701⟩ := bind_some hx701
        refine WL.call (some 63) 12 #[e2] (fun fb => by kernel_rfl) (ref10_Least_calls _ e11 (e10.1) (e10.2) t703 _ (rowsO.ro (hS699.ow 1) h626.1 h626.2).ofO ht704) (fun v w705 hR706 => ?_)
        obtain ⟨rfl, hk_⟩ := hR706
        have hS707 := hS699.keepN hk_
        refine ⟨trivial, ?_⟩
        refine sg 23 [] e15 [e7, e3, e5, (65, (bv (!t703)))] (by kernel_rfl) ?_
        injection hx701 with hx701
        exact WL.to K (!t703) e15 rfl ⟨⟨(hS707.subR []).sub [0, 1] (by decide), hx701.symm⟩, trivial⟩
       rintro y708 w710 ⟨⟨hS711, hq709⟩, hF712⟩
       subst hq709
       refine sg 24 [] e39 [e7, e3, e5, (66, (bv x700))] (by kernel_rfl) ?_
       refine WL.cutV (T := Bool) 41 (fun t => [(83, (bv t)), e7, e3, e5]) (fun t => x700 = t) (fun K => ?_) ?_
       ·
        rcases Bool.eq_false_or_eq_true x700 with h713 | h713
        ·
         refine WL.setB 66 h713 rfl ?_
         refine sg 41 [] e19 [e7, e3, e5, e32] (by kernel_rfl) ?_
         exact WL.toV K true [83, 0, 3, 5] rfl (by first | (rw [h713]; done) | (rw [h713]; rfl))
        refine WL.setB 66 h713 rfl ?_
        refine seg 28 [] e25 [e7, e3, e5, (66, e13), e17] [.ne 50] (fun fb => by kernel_rfl) rfl ⟨(by decide), trivial⟩ ?_
        refine WL.setB 70 h62 rfl ?_
        refine sg 41 [] e19 [e7, e3, e5, (83, e13)] (by kernel_rfl) ?_
        exact WL.toV K false [83, 0, 3, 5] rfl (by first | (rw [h713]; done) | (rw [h713]; rfl))
       rintro b714 rfl
       refine sg 42 [] e40 [e7, e3, e5, (84, (bv x700))] (by kernel_rfl) ?_
       obtain ⟨x715, hx716, hx57⟩ := bind_some hx57
       refine WL.cutW (T := Bool) 58 (fun t => [e7, e3, e5, (100, (bv t))]) (fun t w1 => (St NoS w w1 [] e9 ∧ x715 = t) ∧ CellsOK [] w1) (fun K => ?_) ?_
       ·
        rcases br_some hx716 with ⟨h717, hx716⟩ | ⟨h717, hx716⟩
        ·
         refine WL.setB 84 h717 rfl ?_
         refine sg 58 [] e12 [e7, e3, e5, e22] (by kernel_rfl) ?_
         injection hx716 with hx716
         exact WL.to K true e12 rfl ⟨⟨(hS711.subR []).sub [0, 1] (by decide), hx716.symm⟩, trivial⟩
        refine WL.setB 84 h717 rfl ?_
        refine sg 45 [] e26 [e7, e3, e5, (84, e13), e20] (by kernel_rfl) ?_
        refine WL.setB 87 h623 rfl ?_
        refine sg 48 [] e36 [e7, e3, e5, (84, e13), e33, e41, e45] (by kernel_rfl) ?_
        obtain ⟨h718, hx716⟩ := as_some hx716
        refine seg 54 [.v e6, .v e2] e37 [e7, e3, e5, (84, e13), e33, (92, e6), (96, e2)] [.idx A9 e16 t4.1.length, .idx A9 x48 t4.1.length, .cell e29 e6, .cell e8 e2] (fun fb => by kernel_rfl) rfl ⟨nrow_adr (rowO.rd (hS711.own 0).1) h718.1 h718.2, nrow_adr (rowO.rd (hS711.own 0).1) h626.1 h626.2, nrow_cell (rowO.rd (hS711.own 0).1) [] h718.1 h718.2 0 rfl, nrow_cell (rowO.rd (hS711.own 0).1) [] h626.1 h626.2 0 rfl, trivial⟩ ?_
        obtain ⟨t719, ht720, hx716⟩ := bind_some hx716
        refine WL.call (some 97) 15 #[e6, e2] (fun fb => by kernel_rfl) (ref10_Before_calls _ e44 e11 (e34.1) (e34.2) (e10.1) (e10.2) t719 _ (rowsO.ro (hS711.ow 1) h718.1 h718.2).ofO (rowsO.ro (hS711.ow 1) h626.1 h626.2).ofO ht720) (fun v w721 hR722 => ?_)
        obtain ⟨rfl, hk_⟩ := hR722
        have hS723 := hS711.keepN hk_
        refine ⟨trivial, ?_⟩
        refine sg 58 [] e12 [e7, e3, e5, (100, (bv (!t719)))] (by kernel_rfl) ?_
        injection hx716 with hx716
        exact WL.to K (!t719) e12 rfl ⟨⟨(hS723.subR []).sub [0, 1] (by decide), hx716.symm⟩, trivial⟩
       rintro y724 w726 ⟨⟨hS727, hq725⟩, hF728⟩
       subst hq725
       refine WL.done rfl ?_
       injection hx57 with hx57
       exact WX.to Kx56 x715 e12 rfl ⟨(hS727.subR []).sub [0, 1] (by decide), hx57.symm⟩
      ·
       refine segF 8 [.v e2] e30 [e7, e3, e5, e14] [.idx A9 x48 t4.1.length] [0] e27 (fun fb => by kernel_rfl) rfl ⟨nrow_adr (rowO.rd (hS625.own 0).1) h626.1 h626.2, trivial⟩ rfl ?_
       refine WL.setB 50 h58 rfl ?_
       refine segF 12 [.v e2] e23 [e7, e3, e5, (50, e13), (54, e2)] [.idx A9 x48 t4.1.length] [1] e35 (fun fb => by kernel_rfl) rfl ⟨nrow_adr (rowO.rd (hS625.own 0).1) h626.1 h626.2, trivial⟩ rfl ?_
       obtain ⟨t729, ht730, hx57⟩ := bind_some hx57
       refine WL.call (some 55) 11 #[e2] (fun fb => by kernel_rfl) (ref01_Valid_calls _ e11 (e10.1) (e10.2) t729 _ (rowsO.ro (hS625.ow 1) h626.1 h626.2).ofO ht730) (fun v w731 hR732 => ?_)
       obtain ⟨rfl, hk_⟩ := hR732
       have hS733 := hS625.keepN hk_
       refine ⟨trivial, ?_⟩
       refine sg 16 [] e38 [e7, e3, e5, (58, (bv (!t729)))] (by kernel_rfl) ?_
       obtain ⟨x734, hx735, hx57⟩ := bind_some hx57
       refine WL.cutW (T := Bool) 23 (fun t => [e7, e3, e5, (65, (bv t))]) (fun t w1 => (St NoS w w1 [] e9 ∧ x734 = t) ∧ CellsOK [] w1) (fun K => ?_) ?_
       ·
        rcases br_some hx735 with ⟨h736, hx735⟩ | ⟨h736, hx735⟩
        ·
         refine WL.setB 58 h736 rfl ?_
         refine sg 23 [] e15 [e7, e3, e5, e31] (by kernel_rfl) ?_
         injection hx735 with hx735
         exact WL.to K true e15 rfl ⟨⟨(hS733.subR []).sub [0, 1] (by decide), hx735.symm⟩, trivial⟩
        refine WL.setB 58 h736 rfl ?_
        refine seg 20 [.v e2] e24 [e7, e3, e5, (58, e13), (62, e2)] [.idx A9 x48 t4.1.length, .cell e8 e2] (fun fb => by kernel_rfl) rfl ⟨nrow_adr (rowO.rd (hS733.own 0).1) h626.1 h626.2, nrow_cell (rowO.rd (hS733.own 0).1) [] h626.1 h626.2 0 rfl, trivial⟩ ?_
        obtain ⟨t737, ht738, hx735⟩ := bind_some hx735
        refine WL.call (some 63) 12 #[e2] (fun fb => by kernel_rfl) (ref10_Least_calls _ e11 (e10.1) (e10.2) t737 _ (rowsO.ro (hS733.ow 1) h626.1 h626.2).ofO ht738) (fun v w739 hR740 => ?_)
        obtain ⟨rfl, hk_⟩ := hR740
        have hS741 := hS733.keepN hk_
        refine ⟨trivial, ?_⟩
        refine sg 23 [] e15 [e7, e3, e5, (65, (bv (!t737)))] (by kernel_rfl) ?_
        injection hx735 with hx735
        exact WL.to K (!t737) e15 rfl ⟨⟨(hS741.subR []).sub [0, 1] (by decide), hx735.symm⟩, trivial⟩
       rintro y742 w744 ⟨⟨hS745, hq743⟩, hF746⟩
       subst hq743
       refine sg 24 [] e39 [e7, e3, e5, (66, (bv x734))] (by kernel_rfl) ?_
       refine WL.cutV (T := Bool) 41 (fun t => [(83, (bv t)), e7, e3, e5]) (fun t => x734 = t) (fun K => ?_) ?_
       ·
        rcases Bool.eq_false_or_eq_true x734 with h747 | h747
        ·
         refine WL.setB 66 h747 rfl ?_
         refine sg 41 [] e19 [e7, e3, e5, e32] (by kernel_rfl) ?_
         exact WL.toV K true [83, 0, 3, 5] rfl (by first | (rw [h747]; done) | (rw [h747]; rfl))
        refine WL.setB 66 h747 rfl ?_
        refine seg 28 [] e25 [e7, e3, e5, (66, e13), e17] [.ne 50] (fun fb => by kernel_rfl) rfl ⟨(by decide), trivial⟩ ?_
        refine WL.setB 70 h62 rfl ?_
        refine sg 41 [] e19 [e7, e3, e5, (83, e13)] (by kernel_rfl) ?_
        exact WL.toV K false [83, 0, 3, 5] rfl (by first | (rw [h747]; done) | (rw [h747]; rfl))
       rintro b748 rfl
       refine sg 42 [] e40 [e7, e3, e5, (84, (bv x734))] (by kernel_rfl) ?_
       obtain ⟨x749, hx750, hx57⟩ := bind_some hx57
       refine WL.cutW (T := Bool) 58 (fun t => [e7, e3, e5, (100, (bv t))]) (fun t w1 => (St NoS w w1 [] e9 ∧ x749 = t) ∧ CellsOK [] w1) (fun K => ?_) ?_
       ·
        rcases br_some hx750 with ⟨h751, hx750⟩ | ⟨h751, hx750⟩
        ·
         refine WL.setB 84 h751 rfl ?_
         refine sg 58 [] e12 [e7, e3, e5, e22] (by kernel_rfl) ?_
         injection hx750 with hx750
         exact WL.to K true e12 rfl ⟨⟨(hS745.subR []).sub [0, 1] (by decide), hx750.symm⟩, trivial⟩
        refine WL.setB 84 h751 rfl ?_
        refine sg 45 [] e26 [e7, e3, e5, (84, e13), e20] (by kernel_rfl) ?_
        refine WL.setB 87 h623 rfl ?_
        refine sg 48 [] e36 [e7, e3, e5, (84, e13), e33, e41, e45] (by kernel_rfl) ?_
        obtain ⟨h752, hx750⟩ := as_some hx750
        refine seg 54 [.v e2, .v e6] e37 [e7, e3, e5, (84, e13), e33, (92, e6), (96, e2)] [.idx A9 e16 t4.1.length, .idx A9 x48 t4.1.length, .cell e8 e2, .cell e29 e6] (fun fb => by kernel_rfl) rfl ⟨nrow_adr (rowO.rd (hS745.own 0).1) h752.1 h752.2, nrow_adr (rowO.rd (hS745.own 0).1) h626.1 h626.2, nrow_cell (rowO.rd (hS745.own 0).1) [] h626.1 h626.2 0 rfl, nrow_cell (rowO.rd (hS745.own 0).1) [] h752.1 h752.2 0 rfl, trivial⟩ ?_
        obtain ⟨t753, ht754, hx750⟩ := bind_some hx750
        refine WL.call (some 97) 15 #[e6, e2] (fun fb => by kernel_rfl) (ref10_Before_calls _ e44 e11 (e34.1) (e34.2) (e10.1) (e10.2) t753 _ (rowsO.ro (hS745.ow 1) h752.1 h752.2).ofO (rowsO.ro (hS745.ow 1) h626.1 h626.2).ofO ht754) (fun v w755 hR756 => ?_)
        obtain ⟨rfl, hk_⟩ := hR756
        have hS757 := hS745.keepN hk_
        refine ⟨trivial, ?_⟩
        refine sg 58 [] e12 [e7, e3, e5, (100, (bv (!t753)))] (by kernel_rfl) ?_
        injection hx750 with hx750
        exact WL.to K (!t753) e12 rfl ⟨⟨(hS757.subR []).sub [0, 1] (by decide), hx750.symm⟩, trivial⟩
       rintro y758 w760 ⟨⟨hS761, hq759⟩, hF762⟩
       subst hq759
       refine WL.done rfl ?_
       injection hx57 with hx57
       exact WX.to Kx56 x749 e12 rfl ⟨(hS761.subR []).sub [0, 1] (by decide), hx57.symm⟩
      ·
       refine segF 8 [.v e2] e30 [e7, e3, e5, e14] [.idx A9 x48 t4.1.length] [0] e27 (fun fb => by kernel_rfl) rfl ⟨nrow_adr (rowO.rd (hS625.own 0).1) h626.1 h626.2, trivial⟩ rfl ?_
       refine WL.setB 50 h58 rfl ?_
       refine segF 12 [.v e2] e23 [e7, e3, e5, (50, e13), (54, e2)] [.idx A9 x48 t4.1.length] [1] e35 (fun fb => by kernel_rfl) rfl ⟨nrow_adr (rowO.rd (hS625.own 0).1) h626.1 h626.2, trivial⟩ rfl ?_
       obtain ⟨t763, ht764, hx57⟩ := bind_some hx57
       refine WL.call (some 55) 11 #[e2] (fun fb => by kernel_rfl) (ref01_Valid_calls _ e11 (e10.1) (e10.2) t763 _ (rowsO.ro (hS625.ow 1) h626.1 h626.2).ofO ht764) (fun v w765 hR766 => ?_)
       obtain ⟨rfl, hk_⟩ := hR766
       have hS767 := hS625.keepN hk_
       refine ⟨trivial, ?_⟩
       refine sg 16 [] e38 [e7, e3, e5, (58, (bv (!t763)))] (by kernel_rfl) ?_
       obtain ⟨x768, hx769, hx57⟩ := bind_some hx57
       refine WL.cutW (T := Bool) 23 (fun t => [e7, e3, e5, (65, (bv t))]) (fun t w1 => (St NoS w w1 [] e9 ∧ x768 = t) ∧ CellsOK [] w1) (fun K => ?_) ?_
       ·
        rcases br_some hx769 with ⟨h770, hx769⟩ | ⟨h770, hx769⟩
        ·
         refine WL.setB 58 h770 rfl ?_
         refine sg 23 [] e15 [e7, e3, e5, e31] (by kernel_rfl) ?_
         injection hx769 with hx769
         exact WL.to K true e15 rfl ⟨⟨(hS767.subR []).sub [0, 1] (by decide), hx769.symm⟩, trivial⟩
        refine WL.setB 58 h770 rfl ?_
        refine seg 20 [.v e2] e24 [e7, e3, e5, (58, e13), (62, e2)] [.idx A9 x48 t4.1.length, .cell e8 e2] (fun fb => by kernel_rfl) rfl ⟨nrow_adr (rowO.rd (hS767.own 0).1) h626.1 h626.2, nrow_cell (rowO.rd (hS767.own 0).1) [] h626.1 h626.2 0 rfl, trivial⟩ ?_
        obtain ⟨t771, ht772, hx769⟩ := bind_some hx769
        refine WL.call (some 63) 12 #[e2] (fun fb => by kernel_rfl) (ref10_Least_calls _ e11 (e10.1) (e10.2) t771 _ (rowsO.ro (hS767.ow 1) h626.1 h626.2).ofO ht772) (fun v w773 hR774 => ?_)
        obtain ⟨rfl, hk_⟩ := hR774
        have hS775 := hS767.keepN hk_
        refine ⟨trivial, ?_⟩
        refine sg 23 [] e15 [e7, e3, e5, (65, (bv (!t771)))] (by kernel_rfl) ?_
        injection hx769 with hx769
        exact WL.to K (!t771) e15 rfl ⟨⟨(hS775.subR []).sub [0, 1] (by decide), hx769.symm⟩, trivial⟩
       rintro y776 w778 ⟨⟨hS779, hq777⟩, hF780⟩
       subst hq777
       refine sg 24 [] e39 [e7, e3, e5, (66, (bv x768))] (by kernel_rfl) ?_
       refine WL.cutV (T := Bool) 41 (fun t => [(83, (bv t)), e7, e3, e5]) (fun t => x768 = t) (fun K => ?_) ?_
       ·
        rcases Bool.eq_false_or_eq_true x768 with h781 | h781
        ·
         refine WL.setB 66 h781 rfl ?_
         refine sg 41 [] e19 [e7, e3, e5, e32] (by kernel_rfl) ?_
         exact WL.toV K true [83, 0, 3, 5] rfl (by first | (rw [h781]; done) | (rw [h781]; rfl))
        refine WL.setB 66 h781 rfl ?_
        refine seg 28 [] e25 [e7, e3, e5, (66, e13), e17] [.ne 50] (fun fb => by kernel_rfl) rfl ⟨(by decide), trivial⟩ ?_
        refine WL.setB 70 h62 rfl ?_
        refine sg 41 [] e19 [e7, e3, e5, (83, e13)] (by kernel_rfl) ?_
        exact WL.toV K false [83, 0, 3, 5] rfl (by first | (rw [h781]; done) | (rw [h781]; rfl))
       rintro b782 rfl
       refine sg 42 [] e40 [e7, e3, e5, (84, (bv x768))] (by kernel_rfl) ?_
       obtain ⟨x783, hx784, hx57⟩ := bind_some hx57
       refine WL.cutW (T := Bool) 58 (fun t => [e7, e3, e5, (100, (bv t))]) (fun t w1 => (St NoS w w1 [] e9 ∧ x783 = t) ∧ CellsOK [] w1) (fun K => ?_) ?_
       ·
        rcases br_some hx784 with ⟨h785, hx784⟩ | ⟨h785, hx784⟩
        ·
         refine WL.setB 84 h785 rfl ?_
         refine sg 58 [] e12 [e7, e3, e5, e22] (by kernel_rfl) ?_
         injection hx784 with hx784
         exact WL.to K true e12 rfl ⟨⟨(hS779.subR []).sub [0, 1] (by decide), hx784.symm⟩, trivial⟩
        refine WL.setB 84 h785 rfl ?_
        refine sg 45 [] e26 [e7, e3, e5, (84, e13), e20] (by kernel_rfl) ?_
        refine WL.setB 87 h623 rfl ?_
        refine sg 48 [] e36 [e7, e3, e5, (84, e13), e33, e41, e45] (by kernel_rfl) ?_
        obtain ⟨h786, hx784⟩ := as_some hx784
        refine seg 54 [.v e6, .v e2] e37 [e7, e3, e5, (84, e13), e33, (92, e6), (96, e2)] [.idx A9 e16 t4.1.length, .idx A9 x48 t4.1.length, .cell e29 e6, .cell e8 e2] (fun fb => by kernel_rfl) rfl ⟨nrow_adr (rowO.rd (hS779.own 0).1) h786.1 h786.2, nrow_adr (rowO.rd (hS779.own 0).1) h626.1 h626.2, nrow_cell (rowO.rd (hS779.own 0).1) [] h786.1 h786.2 0 rfl, nrow_cell (rowO.rd (hS779.own 0).1) [] h626.1 h626.2 0 rfl, trivial⟩ ?_
        obtain ⟨t787, ht788, hx784⟩ := bind_some hx784
        refine WL.call (some 97) 15 #[e6, e2] (fun fb => by kernel_rfl) (ref10_Before_calls _ e44 e11 (e34.1) (e34.2) (e10.1) (e10.2) t787 _ (rowsO.ro (hS779.ow 1) h786.1 h786.2).ofO (rowsO.ro (hS779.ow 1) h626.1 h626.2).ofO ht788) (fun v w789 hR790 => ?_)
        obtain ⟨rfl, hk_⟩ := hR790
        have hS791 := hS779.keepN hk_
        refine ⟨trivial, ?_⟩
        refine sg 58 [] e12 [e7, e3, e5, (100, (bv (!t787)))] (by kernel_rfl) ?_
        injection hx784 with hx784
        exact WL.to K (!t787) e12 rfl ⟨⟨(hS791.subR []).sub [0, 1] (by decide), hx784.symm⟩, trivial⟩
       rintro y792 w794 ⟨⟨hS795, hq793⟩, hF796⟩
       subst hq793
       refine WL.done rfl ?_
       injection hx57 with hx57
       exact WX.to Kx56 x783 e12 rfl ⟨(hS795.subR []).sub [0, 1] (by decide), hx57.symm⟩
      refine segF 8 [.v e2] e30 [e7, e3, e5, e14] [.idx A9 x48 t4.1.length] [0] e27 (fun fb => by kernel_rfl) rfl ⟨nrow_adr (rowO.rd (hS625.own 0).1) h626.1 h626.2, trivial⟩ rfl ?_
      refine WL.setB 50 h58 rfl ?_
      refine segF 12 [.v e2] e23 [e7, e3, e5, (50, e13), (54, e2)] [.idx A9 x48 t4.1.length] [1] e35 (fun fb => by kernel_rfl) rfl ⟨nrow_adr (rowO.rd (hS625.own 0).1) h626.1 h626.2, trivial⟩ rfl ?_
      obtain ⟨t797, ht798, hx57⟩ := bind_some hx57
      refine WL.call (some 55) 11 #[e2] (fun fb => by kernel_rfl) (ref01_Valid_calls _ e11 (e10.1) (e10.2) t797 _ (rowsO.ro (hS625.ow 1) h626.1 h626.2).ofO ht798) (fun v w799 hR800 => ?_)
      obtain ⟨rfl, hk_⟩ := hR800
      have hS801 := hS625.keepN hk_
      refine ⟨trivial, ?_⟩
      refine sg 16 [] e38 [e7, e3, e5, (58, (bv (!t797)))] (by kernel_rfl) ?_
      obtain ⟨x802, hx803, hx57⟩ := bind_some hx57
      refine WL.cutW (T := Bool) 23 (fun t => [e7, e3, e5, (65, (bv t))]) (fun t w1 => (St NoS w w1 [] e9 ∧ x802 = t) ∧ CellsOK [] w1) (fun K => ?_) ?_
      ·
       rcases br_some hx803 with ⟨h804, hx803⟩ | ⟨h804, hx803⟩
       ·
        refine WL.setB 58 h804 rfl ?_
        refine sg 23 [] e15 [e7, e3, e5, e31] (by kernel_rfl) ?_
        injection hx803 with hx803
        exact WL.to K true e15 rfl ⟨⟨(hS801.subR []).sub [0, 1] (by decide), hx803.symm⟩, trivial⟩
       refine WL.setB 58 h804 rfl ?_
       refine seg 20 [.v e2] e24 [e7, e3, e5, (58, e13), (62, e2)] [.idx A9 x48 t4.1.length, .cell e8 e2] (fun fb => by kernel_rfl) rfl ⟨nrow_adr (rowO.rd (hS801.own 0).1) h626.1 h626.2, nrow_cell (rowO.rd (hS801.own 0).1) [] h626.1 h626.2 0 rfl, trivial⟩ ?_
       obtain ⟨t805, ht806, hx803⟩ := bind_some hx803
       refine WL.call (some 63) 12 #[e2] (fun fb => by kernel_rfl) (ref10_Least_calls _ e11 (e10.1) (e10.2) t805 _ (rowsO.ro (hS801.ow 1) h626.1 h626.2).ofO ht806) (fun v w807 hR808 => ?_)
       obtain ⟨rfl, hk_⟩ := hR808
       have hS809 := hS801.keepN hk_
       refine ⟨trivial, ?_⟩
       refine sg 23 [] e15 [e7, e3, e5, (65, (bv (!t805)))] (by kernel_rfl) ?_
       injection hx803 with hx803
       exact WL.to K (!t805) e15 rfl ⟨⟨(hS809.subR []).sub [0, 1] (by decide), hx803.symm⟩, trivial⟩
      rintro y810 w812 ⟨⟨hS813, hq811⟩, hF814⟩
      subst hq811
      refine sg 24 [] e39 [e7, e3, e5, (66, (bv x802))] (by kernel_rfl) ?_
      refine WL.cutV (T := Bool) 41 (fun t => [(83, (bv t)), e7, e3, e5]) (fun t => x802 = t) (fun K => ?_) ?_
      ·
       rcases Bool.eq_false_or_eq_true x802 with h815 | h815
       ·
        refine WL.setB 66 h815 rfl ?_
        refine sg 41 [] e19 [e7, e3, e5, e32] (by kernel_rfl) ?_
        exact WL.toV K true [83, 0, 3, 5] rfl (by first | (rw [h815]; done) | (rw [h815]; rfl))
       refine WL.setB 66 h815 rfl ?_
       refine seg 28 [] e25 [e7, e3, e5, (66, e13), e17] [.ne 50] (fun fb => by kernel_rfl) rfl ⟨(by decide), trivial⟩ ?_
       refine WL.setB 70 h62 rfl ?_
       refine sg 41 [] e19 [e7, e3, e5, (83, e13)] (by kernel_rfl) ?_
       exact WL.toV K false [83, 0, 3, 5] rfl (by first | (rw [h815]; done) | (rw [h815]; rfl))
      rintro b816 rfl
      refine sg 42 [] e40 [e7, e3, e5, (84, (bv x802))] (by kernel_rfl) ?_
      obtain ⟨x817, hx818, hx57⟩ := bind_some hx57
      refine WL.cutW (T := Bool) 58 (fun t => [e7, e3, e5, (100, (bv t))]) (fun t w1 => (St NoS w w1 [] e9 ∧ x817 = t) ∧ CellsOK [] w1) (fun K => ?_) ?_
      ·
       rcases br_some hx818 with ⟨h819, hx818⟩ | ⟨h819, hx818⟩
       ·
        refine WL.setB 84 h819 rfl ?_
        refine sg 58 [] e12 [e7, e3, e5, e22] (by kernel_rfl) ?_
        injection hx818 with hx818
        exact WL.to K true e12 rfl ⟨⟨(hS813.subR []).sub [0, 1] (by decide), hx818.symm⟩, trivial⟩
       refine WL.setB 84 h819 rfl ?_
       refine sg 45 [] e26 [e7, e3, e5, (84, e13), e20] (by kernel_rfl) ?_
       refine WL.setB 87 h623 rfl ?_
       refine sg 48 [] e36 [e7, e3, e5, (84, e13), e33, e41, e45] (by kernel_rfl) ?_
       obtain ⟨h820, hx818⟩ := as_some hx818
       refine seg 54 [.v e2, .v e6] e37 [e7, e3, e5, (84, e13), e33, (92, e6), (96, e2)] [.idx A9 e16 t4.1.length, .idx A9 x48 t4.1.length, .cell e8 e2, .cell e29 e6] (fun fb => by kernel_rfl) rfl ⟨nrow_adr (rowO.rd (hS813.own 0).1) h820.1 h820.2, nrow_adr (rowO.rd (hS813.own 0).1) h626.1 h626.2, nrow_cell (rowO.rd (hS813.own 0).1) [] h626.1 h626.2 0 rfl, nrow_cell (rowO.rd (hS813.own 0).1) [] h820.1 h820.2 0 rfl, trivial⟩ ?_
       obtain ⟨t821, ht822, hx818⟩ := bind_some hx818
       refine WL.call (some 97) 15 #[e6, e2] (fun fb => by kernel_rfl) (ref10_Before_calls _ e44 e11 (e34.1) (e34.2) (e10.1) (e10.2) t821 _ (rowsO.ro (hS813.ow 1) h820.1 h820.2).ofO (rowsO.ro (hS813.ow 1) h626.1 h626.2).ofO ht822) (fun v w823 hR824 => ?_)
       obtain ⟨rfl, hk_⟩ := hR824
       have hS825 := hS813.keepN hk_
       refine ⟨trivial, ?_⟩
       refine sg 58 [] e12 [e7, e3, e5, (100, (bv (!t821)))] (by kernel_rfl) ?_
       injection hx818 with hx818
       exact WL.to K (!t821) e12 rfl ⟨⟨(hS825.subR []).sub [0, 1] (by decide), hx818.symm⟩, trivial⟩
      rintro y826 w828 ⟨⟨hS829, hq827⟩, hF830⟩
      subst hq827
      refine WL.done rfl ?_
      injection hx57 with hx57
      exact WX.to Kx56 x817 e12 rfl ⟨(hS829.subR []).sub [0, 1] (by decide), hx57.symm⟩
     obtain ⟨h833, hx57⟩ := as_some hx57
     refine WC.regionD e46 e4 (by kernel_rfl) (by kernel_rfl) (NoPanic.seq (NoPanic.block (NoPanic.seq (NoPanic.seq (NoPanic.block (NoPanic.seq (NoPanic.body))))))) ?_
     have hS832 := hS53.drew
     revert hS832
     generalize World.drew w52 = w831
     intro hS832
     refine ⟨⟨nrow_cell (rowO.rd (hS832.own 0).1) [] h833.1 h833.2 0 rfl, nrow_cell (rowO.rd (hS832.own 0).1) [] h833.1 h833.2 0 rfl, trivial⟩, forallC ?_ (forallC ?_ (forallC ?_ (forallC ?_ (forallC ?_ (forallC ?_ (forallN))))))⟩
     ·
      refine segF 8 [.v e2] e30 [e7, e3, e5, e14] [.idx A9 x48 t4.1.length] [0] e27 (fun fb => by kernel_rfl) rfl ⟨nrow_adr (rowO.rd (hS832.own 0).1) h833.1 h833.2, trivial⟩ rfl ?_
      refine WL.setB 50 h58 rfl ?_
      refine segF 12 [.v e2] e23 [e7, e3, e5, (50, e13), (54, e2)] [.idx A9 x48 t4.1.length] [1] e35 (fun fb => by kernel_rfl) rfl ⟨nrow_adr (rowO.rd (hS832.own 0).1) h833.1 h833.2, trivial⟩ rfl ?_
      obtain ⟨t834, ht835, hx57⟩ := bind_some hx57
      refine WL.call (some 55) 11 #[e2] (fun fb => by kernel_rfl) (ref01_Valid_calls _ e11 (e10.1) (e10.2) t834 _ (rowsO.ro (hS832.ow 1) h833.1 h833.2).ofO ht835) (fun v w836 hR837 => ?_)
      obtain ⟨rfl, hk_⟩ := hR837
      have hS838 := hS832.keepN hk_
      refine ⟨trivial, ?_⟩
      refine sg 16 [] e38 [e7, e3, e5, (58, (bv (!t834)))] (by kernel_rfl) ?_
      obtain ⟨x839, hx840, hx57⟩ := bind_some hx57
      refine WL.cutW (T := Bool) 23 (fun t => [e7, e3, e5, (65, (bv t))]) (fun t w1 => (St NoS w w1 [] e9 ∧ x839 = t) ∧ CellsOK [] w1) (fun K => ?_) ?_
      ·
       rcases br_some hx840 with ⟨h841, hx840⟩ | ⟨h841, hx840⟩
       ·
        refine WL.setB 58 h841 rfl ?_
        refine sg 23 [] e15 [e7, e3, e5, e31] (by kernel_rfl) ?_
        injection hx840 with hx840
        exact WL.to K true e15 rfl ⟨⟨(hS838.subR []).sub [0, 1] (by decide), hx840.symm⟩, trivial⟩
       refine WL.setB 58 h841 rfl ?_
       refine seg 20 [.v e2] e24 [e7, e3, e5, (58, e13), (62, e2)] [.idx A9 x48 t4.1.length, .cell e8 e2] (fun fb => by kernel_rfl) rfl ⟨nrow_adr (rowO.rd (hS838.own 0).1) h833.1 h833.2, nrow_cell (rowO.rd (hS838.own 0).1) [] h833.1 h833.2 0 rfl, trivial⟩ ?_
       obtain ⟨t842, ht843, hx840⟩ := bind_some hx840
       refine WL.call (some 63) 12 #[e2] (fun fb => by kernel_rfl) (ref10_Least_calls _ e11 (e10.1) (e10.2) t842 _ (rowsO.ro (hS838.ow 1) h833.1 h833.2).ofO ht843) (fun v w844 hR845 => ?_)
       obtain ⟨rfl, hk_⟩ := hR845
       have hS846 := hS838.keepN hk_
       refine ⟨trivial, ?_⟩
       refine sg 23 [] e15 [e7, e3, e5, (65, (bv (!t842)))] (by kernel_rfl) ?_
       injection hx840 with hx840
       exact WL.to K (!t842) e15 rfl ⟨⟨(hS846.subR []).sub [0, 1] (by decide), hx840.symm⟩, trivial⟩
      rintro y847 w849 ⟨⟨hS850, hq848⟩, hF851⟩
      subst hq848
      refine sg 24 [] e39 [e7, e3, e5, (66, (bv x839))] (by kernel_rfl) ?_
      refine WL.cutV (T := Bool) 41 (fun t => [(83, (bv t)), e7, e3, e5]) (fun t => x839 = t) (fun K => ?_) ?_
      ·
       rcases Bool.eq_false_or_eq_true x839 with h852 | h852
       ·
        refine WL.setB 66 h852 rfl ?_
        refine sg 41 [] e19 [e7, e3, e5, e32] (by kernel_rfl) ?_
        exact WL.toV K true [83, 0, 3, 5] rfl (by first | (rw [h852]; done) | (rw [h852]; rfl))
       refine WL.setB 66 h852 rfl ?_
       refine seg 28 [] e25 [e7, e3, e5, (66, e13), e17] [.ne 50] (fun fb => by kernel_rfl) rfl ⟨(by decide), trivial⟩ ?_
       refine WL.setB 70 h62 rfl ?_
       refine sg 41 [] e19 [e7, e3, e5, (83, e13)] (by kernel_rfl) ?_
       exact WL.toV K false [83, 0, 3, 5] rfl (by first | (rw [h852]; done) | (rw [h852]; rfl))
      rintro b853 rfl
      refine sg 42 [] e40 [e7, e3, e5, (84, (bv x839))] (by kernel_rfl) ?_
      refine WL.cutV (T := Bool) 58 (fun t => [(100, (bv t)), e7, e3, e5]) (fun t => x839 = t) (fun K => ?_) ?_
      ·
       rcases Bool.eq_false_or_eq_true x839 with h854 | h854
       ·
        refine WL.setB 84 h854 rfl ?_
        refine sg 58 [] e12 [e7, e3, e5, e22] (by kernel_rfl) ?_
        exact WL.toV K true [100, 0, 3, 5] rfl (by first | (rw [h854]; done) | (rw [h854]; rfl))
       refine WL.setB 84 h854 rfl ?_
       refine sg 45 [] e26 [e7, e3, e5, (84, e13), e20] (by kernel_rfl) ?_
       refine WL.setB 87 h623 rfl ?_
       refine sg 58 [] e12 [e7, e3, e5, e47] (by kernel_rfl) ?_
       exact WL.toV K false [100, 0, 3, 5] rfl (by first | (rw [h854]; done) | (rw [h854]; rfl))
      rintro b855 rfl
      refine WL.done rfl ?_
      injection hx57 with hx57
      exact WX.to Kx56 x839 e12 rfl ⟨(hS850.subR []).sub [0, 1] (by decide), hx57.symm⟩
     ·
      refine segF 8 [.v e2] e30 [e7, e3, e5, e14] [.idx A9 x48 t4.1.length] [0] e27 (fun fb => by kernel_rfl) rfl ⟨nrow_adr (rowO.rd (hS832.own 0).1) h833.1 h833.2, trivial⟩ rfl ?_
      refine WL.setB 50 h58 rfl ?_
      refine segF 12 [.v e2] e23 [e7, e3, e5, (50, e13), (54, e2)] [.idx A9 x48 t4.1.length] [1] e35 (fun fb => by kernel_rfl) rfl ⟨nrow_adr (rowO.rd (hS832.own 0).1) h833.1 h833.2, trivial⟩ rfl ?_
      obtain ⟨t856, ht857, hx57⟩ := bind_some hx57
      refine WL.call (some 55) 11 #[e2] (fun fb => by kernel_rfl) (ref01_Valid_calls _ e11 (e10.1) (e10.2) t856 _ (rowsO.ro (hS832.ow 1) h833.1 h833.2).ofO ht857) (fun v w858 hR859 => ?_)
      obtain ⟨rfl, hk_⟩ := hR859
      have hS860 := hS832.keepN hk_
      refine ⟨trivial, ?_⟩
      refine sg 16 [] e38 [e7, e3, e5, (58, (bv (!t856)))] (by kernel_rfl) ?_
      obtain ⟨x861, hx862, hx57⟩ := bind_some hx57
      refine WL.cutW (T := Bool) 23 (fun t => [e7, e3, e5, (65, (bv t))]) (fun t w1 => (St NoS w w1 [] e9 ∧ x861 = t) ∧ CellsOK [] w1) (fun K => ?_) ?_
      ·
       rcases br_some hx862 with ⟨h863, hx862⟩ | ⟨h863, hx862⟩
       ·
        refine WL.setB 58 h863 rfl ?_
        refine sg 23 [] e15 [e7, e3, e5, e31] (by kernel_rfl) ?_
        injection hx862 with hx862
        exact WL.to K true e15 rfl ⟨⟨(hS860.subR []).sub [0, 1] (by decide), hx862.symm⟩, trivial⟩
       refine WL.setB 58 h863 rfl ?_
       refine seg 20 [.v e2] e24 [e7, e3, e5, (58, e13), (62, e2)] [.idx A9 x48 t4.1.length, .cell e8 e2] (fun fb => by kernel_rfl) rfl ⟨nrow_adr (rowO.rd (hS860.own 0).1) h833.1 h833.2, nrow_cell (rowO.rd (hS860.own 0).1) [] h833.1 h833.2 0 rfl, trivial⟩ ?_
       obtain ⟨t864, ht865, hx862⟩ := bind_some hx862
       refine WL.call (some 63) 12 #[e2] (fun fb => by kernel_rfl) (ref10_Least_calls _ e11 (e10.1) (e10.2) t864 _ (rowsO.ro (hS860.ow 1) h833.1 h833.2).ofO ht865) (fun v w866 hR867 => ?_)
       obtain ⟨rfl, hk_⟩ := hR867
       have hS868 := hS860.keepN hk_
       refine ⟨trivial, ?_⟩
       refine sg 23 [] e15 [e7, e3, e5, (65, (bv (!t864)))] (by kernel_rfl) ?_
       injection hx862 with hx862
       exact WL.to K (!t864) e15 rfl ⟨⟨(hS868.subR []).sub [0, 1] (by decide), hx862.symm⟩, trivial⟩
      rintro y869 w871 ⟨⟨hS872, hq870⟩, hF873⟩
      subst hq870
      refine sg 24 [] e39 [e7, e3, e5, (66, (bv x861))] (by kernel_rfl) ?_
      refine WL.cutV (T := Bool) 41 (fun t => [(83, (bv t)), e7, e3, e5]) (fun t => x861 = t) (fun K => ?_) ?_
      ·
       rcases Bool.eq_false_or_eq_true x861 with h874 | h874
       ·
        refine WL.setB 66 h874 rfl ?_
        refine sg 41 [] e19 [e7, e3, e5, e32] (by kernel_rfl) ?_
        exact WL.toV K true [83, 0, 3, 5] rfl (by first | (rw [h874]; done) | (rw [h874]; rfl))
       refine WL.setB 66 h874 rfl ?_
       refine seg 28 [] e25 [e7, e3, e5, (66, e13), e17] [.ne 50] (fun fb => by kernel_rfl) rfl ⟨(by decide), trivial⟩ ?_
       refine WL.setB 70 h62 rfl ?_
       refine sg 41 [] e19 [e7, e3, e5, (83, e13)] (by kernel_rfl) ?_
       exact WL.toV K false [83, 0, 3, 5] rfl (by first | (rw [h874]; done) | (rw [h874]; rfl))
      rintro b875 rfl
      refine sg 42 [] e40 [e7, e3, e5, (84, (bv x861))] (by kernel_rfl) ?_
      refine WL.cutV (T := Bool) 58 (fun t => [(100, (bv t)), e7, e3, e5]) (fun t => x861 = t) (fun K => ?_) ?_
      ·
       rcases Bool.eq_false_or_eq_true x861 with h876 | h876
       ·
        refine WL.setB 84 h876 rfl ?_
        refine sg 58 [] e12 [e7, e3, e5, e22] (by kernel_rfl) ?_
        exact WL.toV K true [100, 0, 3, 5] rfl (by first | (rw [h876]; done) | (rw [h876]; rfl))
       refine WL.setB 84 h876 rfl ?_
       refine sg 45 [] e26 [e7, e3, e5, (84, e13), e20] (by kernel_rfl) ?_
       refine WL.setB 87 h623 rfl ?_
       refine sg 58 [] e12 [e7, e3, e5, e47] (by kernel_rfl) ?_
       exact WL.toV K false [100, 0, 3, 5] rfl (by first | (rw [h876]; done) | (rw [h876]; rfl))
      rintro b877 rfl
      refine WL.done rfl ?_
      injection hx57 with hx57
      exact WX.to Kx56 x861 e12 rfl ⟨(hS872.subR []).sub [0, 1] (by decide), hx57.symm⟩
     ·
      refine segF 8 [.v e2] e30 [e7, e3, e5, e14] [.idx A9 x48 t4.1.length] [0] e27 (fun fb => by kernel_rfl) rfl ⟨nrow_adr (rowO.rd (hS832.own 0).1) h833.1 h833.2, trivial⟩ rfl ?_
      refine WL.setB 50 h58 rfl ?_
      refine segF 12 [.v e2] e23 [e7, e3, e5, (50, e13), (54, e2)] [.idx A9 x48 t4.1.length] [1] e35 (fun fb => by kernel_rfl) rfl ⟨nrow_adr (rowO.rd (hS832.own 0).1) h833.1 h833.2, trivial⟩ rfl ?_
      obtain ⟨t878, ht879, hx57⟩ := bind_some hx57
      refine WL.call (some 55) 11 #[e2] (fun fb => by kernel_rfl) (ref01_Valid_calls _ e11 (e10.1) (e10.2) t878 _ (rowsO.ro (hS832.ow 1) h833.1 h833.2).ofO ht879) (fun v w880 hR881 => ?_)
      obtain ⟨rfl, hk_⟩ := hR881
      have hS882 := hS832.keepN hk_
      refine ⟨trivial, ?_⟩
      refine sg 16 [] e38 [e7, e3, e5, (58, (bv (!t878)))] (by kernel_rfl) ?_
      obtain ⟨x883, hx884, hx57⟩ := bind_some hx57
      refine WL.cutW (T := Bool) 23 (fun t => [e7, e3, e5, (65, (bv t))]) (fun t w1 => (St NoS w w1 [] e9 ∧ x883 = t) ∧ CellsOK [] w1) (fun K => ?_) ?_
      ·
       rcases br_some hx884 with ⟨h885, hx884⟩ | ⟨h885, hx884⟩
       ·
        refine WL.setB 58 h885 rfl ?_
        refine sg 23 [] e15 [e7, e3, e5, e31] (by kernel_rfl) ?_
        injection hx884 with hx884
        exact WL.to K true e15 rfl ⟨⟨(hS882.subR []).sub [0, 1] (by decide), hx884.symm⟩, trivial⟩
       refine WL.setB 58 h885 rfl ?_
       refine seg 20 [.v e2] e24 [e7, e3, e5, (58, e13), (62, e2)] [.idx A9 x48 t4.1.length, .cell e8 e2] (fun fb => by kernel_rfl) rfl ⟨nrow_adr (rowO.rd (hS882.own 0).1) h833.1 h833.2, nrow_cell (rowO.rd (hS882.own 0).1) [] h833.1 h833.2 0 rfl, trivial⟩ ?_
       obtain ⟨t886, ht887, hx884⟩ := bind_some hx884
       refine WL.call (some 63) 12 #[e2] (fun fb => by kernel_rfl) (ref10_Least_calls _ e11 (e10.1) (e10.2) t886 _ (rowsO.ro (hS882.ow 1) h833.1 h833.2).ofO ht887) (fun v w888 hR889 => ?_)
       obtain ⟨rfl, hk_⟩ := hR889
       have hS890 := hS882.keepN hk_
       refine ⟨trivial, ?_⟩
       refine sg 23 [] e15 [e7, e3, e5, (65, (bv (!t886)))] (by kernel_rfl) ?_
       injection hx884 with hx884
       exact WL.to K (!t886) e15 rfl ⟨⟨(hS890.subR []).sub [0, 1] (by decide), hx884.symm⟩, trivial⟩
      rintro y891 w893 ⟨⟨hS894, hq892⟩, hF895⟩
      subst hq892
      refine sg 24 [] e39 [e7, e3, e5, (66, (bv x883))] (by kernel_rfl) ?_
      refine WL.cutV (T := Bool) 41 (fun t => [(83, (bv t)), e7, e3, e5]) (fun t => x883 = t) (fun K => ?_) ?_
      ·
       rcases Bool.eq_false_or_eq_true x883 with h896 | h896
       ·
        refine WL.setB 66 h896 rfl ?_
        refine sg 41 [] e19 [e7, e3, e5, e32] (by kernel_rfl) ?_
        exact WL.toV K true [83, 0, 3, 5] rfl (by first | (rw [h896]; done) | (rw [h896]; rfl))
       refine WL.setB 66 h896 rfl ?_
       refine seg 28 [] e25 [e7, e3, e5, (66, e13), e17] [.ne 50] (fun fb => by kernel_rfl) rfl ⟨(by decide), trivial⟩ ?_
       refine WL.setB 70 h62 rfl ?_
       refine sg 41 [] e19 [e7, e3, e5, (83, e13)] (by kernel_rfl) ?_
       exact WL.toV K false [83, 0, 3, 5] rfl (by first | (rw [h896]; done) | (rw [h896]; rfl))
      rintro b897 rfl
      refine sg 42 [] e40 [e7, e3, e5, (84, (bv x883))] (by kernel_rfl) ?_
      refine WL.cutV (T := Bool) 58 (fun t => [(100, (bv t)), e7, e3, e5]) (fun t => x883 = t) (fun K => ?_) ?_
      ·
       rcases Bool.eq_false_or_eq_true x883 with h898 | h898
       ·
        refine WL.setB 84 h898 rfl ?_
        refine sg 58 [] e12 [e7, e3, e5, e22] (by kernel_rfl) ?_
        exact WL.toV K true [100, 0, 3, 5] rfl (by first | (rw [h898]; done) | (rw [h898]; rfl))
       refine WL.setB 84 h898 rfl ?_
       refine sg 45 [] e26 [e7, e3, e5, (84, e13), e20] (by kernel_rfl) ?_
       refine WL.setB 87 h623 rfl ?_
       refine sg 58 [] e12 [e7, e3, e5, e47] (by kernel_rfl) ?_
       exact WL.toV K false [100, 0, 3, 5] rfl (by first | (rw [h898]; done) | (rw [h898]; rfl))
      rintro b899 rfl
      refine WL.done rfl ?_
      injection hx57 with hx57
      exact WX.to Kx56 x883 e12 rfl ⟨(hS894.subR []).sub [0, 1] (by decide), hx57.symm⟩
     ·
      refine segF 8 [.v e2] e30 [e7, e3, e5, e14] [.idx A9 x48 t4.1.length] [0] e27 (fun fb => by kernel_rfl) rfl ⟨nrow_adr (rowO.rd (hS832.own 0).1) h833.1 h833.2, trivial⟩ rfl ?_
      refine WL.setB 50 h58 rfl ?_
      refine segF 12 [.v e2] e23 [e7, e3, e5, (50, e13), (54, e2)] [.idx A9 x48 t4.1.length] [1] e35 (fun fb => by kernel_rfl) rfl ⟨nrow_adr (rowO.rd (hS832.own 0).1) h833.1 h833.2, trivial⟩ rfl ?_
      obtain ⟨t900, ht901, hx57⟩ := bind_some hx57
      refine WL.call (some 55) 11 #[e2] (fun fb => by kernel_rfl) (ref01_Valid_calls _ e11 (e10.1) (e10.2) t900 _ (rowsO.ro (hS832.ow 1) h833.1 h833.2).ofO ht901) (fun v w902 hR903 => ?_)
      obtain ⟨rfl, hk_⟩ := hR903
      have hS904 := hS832.keepN hk_
      refine ⟨trivial, ?_⟩
      refine sg 16 [] e38 [e7, e3, e5, (58, (bv (!t900)))] (by kernel_rfl) ?_
      obtain ⟨x905, hx906, hx57⟩ := bind_some hx57
      refine WL.cutW (T := Bool) 23 (fun t => [e7, e3, e5, (65, (bv t))]) (fun t w1 => (St NoS w w1 [] e9 ∧ x905 = t) ∧ CellsOK [] w1) (fun K => ?_) ?_
      ·
       rcases br_some hx906 with ⟨h907, hx906⟩ | ⟨h907, hx906⟩
       ·
        refine WL.setB 58 h907 rfl ?_
        refine sg 23 [] e15 [e7, e3, e5, e31] (by kernel_rfl) ?_
        injection hx906 with hx906
        exact WL.to K true e15 rfl ⟨⟨(hS904.subR []).sub [0, 1] (by decide), hx906.symm⟩, trivial⟩
       refine WL.setB 58 h907 rfl ?_
       refine seg 20 [.v e2] e24 [e7, e3, e5, (58, e13), (62, e2)] [.idx A9 x48 t4.1.length, .cell e8 e2] (fun fb => by kernel_rfl) rfl ⟨nrow_adr (rowO.rd (hS904.own 0).1) h833.1 h833.2, nrow_cell (rowO.rd (hS904.own 0).1) [] h833.1 h833.2 0 rfl, trivial⟩ ?_
       obtain ⟨t908, ht909, hx906⟩ := bind_some hx906
       refine WL.call (some 63) 12 #[e2] (fun fb => by kernel_rfl) (ref10_Least_calls _ e11 (e10.1) (e10.2) t908 _ (rowsO.ro (hS904.ow 1) h833.1 h833.2).ofO ht909) (fun v w910 hR911 => ?_)
       obtain ⟨rfl, hk_⟩ := hR911
       have hS912 := hS904.keepN hk_
       refine ⟨trivial, ?_⟩
       refine sg 23 [] e15 [e7, e3, e5, (65, (bv (!t908)))] (by kernel_rfl) ?_
       injection hx906 with hx906
       exact WL.to K (!t908) e15 rfl ⟨⟨(hS912.subR []).sub [0, 1] (by decide), hx906.symm⟩, trivial⟩
      rintro y913 w915 ⟨⟨hS916, hq914⟩, hF917⟩
      subst hq914
      refine sg 24 [] e39 [e7, e3, e5, (66, (bv x905))] (by kernel_rfl) ?_
      refine WL.cutV (T := Bool) 41 (fun t => [(83, (bv t)), e7, e3, e5]) (fun t => x905 = t) (fun K => ?_) ?_
      ·
       rcases Bool.eq_false_or_eq_true x905 with h918 | h918
       ·
        refine WL.setB 66 h918 rfl ?_
        refine sg 41 [] e19 [e7, e3, e5, e32] (by kernel_rfl) ?_
        exact WL.toV K true [83, 0, 3, 5] rfl (by first | (rw [h918]; done) | (rw [h918]; rfl))
       refine WL.setB 66 h918 rfl ?_
       refine seg 28 [] e25 [e7, e3, e5, (66, e13), e17] [.ne 50] (fun fb => by kernel_rfl) rfl ⟨(by decide), trivial⟩ ?_
       refine WL.setB 70 h62 rfl ?_
       refine sg 41 [] e19 [e7, e3, e5, (83, e13)] (by kernel_rfl) ?_
       exact WL.toV K false [83, 0, 3, 5] rfl (by first | (rw [h918]; done) | (rw [h918]; rfl))
      rintro b919 rfl
      refine sg 42 [] e40 [e7, e3, e5, (84, (bv x905))] (by kernel_rfl) ?_
      refine WL.cutV (T := Bool) 58 (fun t => [(100, (bv t)), e7, e3, e5]) (fun t => x905 = t) (fun K => ?_) ?_
      ·
       rcases Bool.eq_false_or_eq_true x905 with h920 | h920
       ·
        refine WL.setB 84 h920 rfl ?_
        refine sg 58 [] e12 [e7, e3, e5, e22] (by kernel_rfl) ?_
        exact WL.toV K true [100, 0, 3, 5] rfl (by first | (rw [h920]; done) | (rw [h920]; rfl))
       refine WL.setB 84 h920 rfl ?_
       refine sg 45 [] e26 [e7, e3, e5, (84, e13), e20] (by kernel_rfl) ?_
       refine WL.setB 87 h623 rfl ?_
       refine sg 58 [] e12 [e7, e3, e5, e47] (by kernel_rfl) ?_
       exact WL.toV K false [100, 0, 3, 5] rfl (by first | (rw [h920]; done) | (rw [h920]; rfl))
      rintro b921 rfl
      refine WL.done rfl ?_
      injection hx57 with hx57
      exact WX.to Kx56 x905 e12 rfl ⟨(hS916.subR []).sub [0, 1] (by decide), hx57.symm⟩
     ·
      refine segF 8 [.v e2] e30 [e7, e3, e5, e14] [.idx A9 x48 t4.1.length] [0] e27 (fun fb => by kernel_rfl) rfl ⟨nrow_adr (rowO.rd (hS832.own 0).1) h833.1 h833.2, trivial⟩ rfl ?_
      refine WL.setB 50 h58 rfl ?_
      refine segF 12 [.v e2] e23 [e7, e3, e5, (50, e13), (54, e2)] [.idx A9 x48 t4.1.length] [1] e35 (fun fb => by kernel_rfl) rfl ⟨nrow_adr (rowO.rd (hS832.own 0).1) h833.1 h833.2, trivial⟩ rfl ?_
      obtain ⟨t922, ht923, hx57⟩ := bind_some hx57
      refine WL.call (some 55) 11 #[e2] (fun fb => by kernel_rfl) (ref01_Valid_calls _ e11 (e10.1) (e10.2) t922 _ (rowsO.ro (hS832.ow 1) h833.1 h833.2).ofO ht923) (fun v w924 hR925 => ?_)
      obtain ⟨rfl, hk_⟩ := hR925
      have hS926 := hS832.keepN hk_
      refine ⟨trivial, ?_⟩
      refine sg 16 [] e38 [e7, e3, e5, (58, (bv (!t922)))] (by kernel_rfl) ?_
      obtain ⟨x927, hx928, hx57⟩ := bind_some hx57
      refine WL.cutW (T := Bool) 23 (fun t => [e7, e3, e5, (65, (bv t))]) (fun t w1 => (St NoS w w1 [] e9 ∧ x927 = t) ∧ CellsOK [] w1) (fun K => ?_) ?_
      ·
       rcases br_some hx928 with ⟨h929, hx928⟩ | ⟨h929, hx928⟩
       ·
        refine WL.setB 58 h929 rfl ?_
        refine sg 23 [] e15 [e7, e3, e5, e31] (by kernel_rfl) ?_
        injection hx928 with hx928
        exact WL.to K true e15 rfl ⟨⟨(hS926.subR []).sub [0, 1] (by decide), hx928.symm⟩, trivial⟩
       refine WL.setB 58 h929 rfl ?_
       refine seg 20 [.v e2] e24 [e7, e3, e5, (58, e13), (62, e2)] [.idx A9 x48 t4.1.length, .cell e8 e2] (fun fb => by kernel_rfl) rfl ⟨nrow_adr (rowO.rd (hS926.own 0).1) h833.1 h833.2, nrow_cell (rowO.rd (hS926.own 0).1) [] h833.1 h833.2 0 rfl, trivial⟩ ?_
       obtain ⟨t930, ht931, hx928⟩ := bind_some hx928
       refine WL.call (some 63) 12 #[e2] (fun fb => by kernel_rfl) (ref10_Least_calls _ e11 (e10.1) (e10.2) t930 _ (rowsO.ro (hS926.ow 1) h833.1 h833.2).ofO ht931) (fun v w932 hR933 => ?_)
       obtain ⟨rfl, hk_⟩ := hR933
       have hS934 := hS926.keepN hk_
       refine ⟨trivial, ?_⟩
       refine sg 23 [] e15 [e7, e3, e5, (65, (bv (!t930)))] (by kernel_rfl) ?_
       injection hx928 with hx928
       exact WL.to K (!t930) e15 rfl ⟨⟨(hS934.subR []).sub [0, 1] (by decide), hx928.symm⟩, trivial⟩
      rintro y935 w937 ⟨⟨hS938, hq936⟩, hF939⟩
      subst hq936
      refine sg 24 [] e39 [e7, e3, e5, (66, (bv x927))] (by kernel_rfl) ?_
      refine WL.cutV (T := Bool) 41 (fun t => [(83, (bv t)), e7, e3, e5]) (fun t => x927 = t) (fun K => ?_) ?_
      ·
       rcases Bool.eq_false_or_eq_true x927 with h940 | h940
       ·
        refine WL.setB 66 h940 rfl ?_
        refine sg 41 [] e19 [e7, e3, e5, e32] (by kernel_rfl) ?_
        exact WL.toV K true [83, 0, 3, 5] rfl (by first | (rw [h940]; done) | (rw [h940]; rfl))
       refine WL.setB 66 h940 rfl ?_
       refine seg 28 [] e25 [e7, e3, e5, (66, e13), e17] [.ne 50] (fun fb => by kernel_rfl) rfl ⟨(by decide), trivial⟩ ?_
       refine WL.setB 70 h62 rfl ?_
       refine sg 41 [] e19 [e7, e3, e5, (83, e13)] (by kernel_rfl) ?_
       exact WL.toV K false [83, 0, 3, 5] rfl (by first | (rw [h940]; done) | (rw [h940]; rfl))
      rintro b941 rfl
      refine sg 42 [] e40 [e7, e3, e5, (84, (bv x927))] (by kernel_rfl) ?_
      refine WL.cutV (T := Bool) 58 (fun t => [(100, (bv t)), e7, e3, e5]) (fun t => x927 = t) (fun K => ?_) ?_
      ·
       rcases Bool.eq_false_or_eq_true x927 with h942 | h942
       ·
        refine WL.setB 84 h942 rfl ?_
        refine sg 58 [] e12 [e7, e3, e5, e22] (by kernel_rfl) ?_
        exact WL.toV K true [100, 0, 3, 5] rfl (by first | (rw [h942]; done) | (rw [h942]; rfl))
       refine WL.setB 84 h942 rfl ?_
       refine sg 45 [] e26 [e7, e3, e5, (84, e13), e20] (by kernel_rfl) ?_
       refine WL.setB 87 h623 rfl ?_
       refine sg 58 [] e12 [e7, e3, e5, e47] (by kernel_rfl) ?_
       exact WL.toV K false [100, 0, 3, 5] rfl (by first | (rw [h942]; done) | (rw [h942]; rfl))
      rintro b943 rfl
      refine WL.done rfl ?_
      injection hx57 with hx57
      exact WX.to Kx56 x927 e12 rfl ⟨(hS938.subR []).sub [0, 1] (by decide), hx57.symm⟩
     refine segF 8 [.v e2] e30 [e7, e3, e5, e14] [.idx A9 x48 t4.1.length] [0] e27 (fun fb => by kernel_rfl) rfl ⟨nrow_adr (rowO.rd (hS832.own 0).1) h833.1 h833.2, trivial⟩ rfl ?_
     refine WL.setB 50 h58 rfl ?_
     refine segF 12 [.v e2] e23 [e7, e3, e5, (50, e13), (54, e2)] [.idx A9 x48 t4.1.length] [1] e35 (fun fb => by kernel_rfl) rfl ⟨nrow_adr (rowO.rd (hS832.own 0).1) h833.1 h833.2, trivial⟩ rfl ?_
     obtain ⟨t944, ht945, hx57⟩ := bind_some hx57
     refine WL.call (some 55) 11 #[e2] (fun fb => by kernel_rfl) (ref01_Valid_calls _ e11 (e10.1) (e10.2) t944 _ (rowsO.ro (hS832.ow 1) h833.1 h833.2).ofO ht945) (fun v w946 hR947 => ?_)
     obtain ⟨rfl, hk_⟩ := hR947
     have hS948 := hS832.keepN hk_
     refine ⟨trivial, ?_⟩
     refine sg 16 [] e38 [e7, e3, e5, (58, (bv (!t944)))] (by kernel_rfl) ?_
     obtain ⟨x949, hx950, hx57⟩ := bind_some hx57
     refine WL.cutW (T := Bool) 23 (fun t => [e7, e3, e5, (65, (bv t))]) (fun t w1 => (St NoS w w1 [] e9 ∧ x949 = t) ∧ CellsOK [] w1) (fun K => ?_) ?_
     ·
      rcases br_some hx950 with ⟨h951, hx950⟩ | ⟨h951, hx950⟩
      ·
       refine WL.setB 58 h951 rfl ?_
       refine sg 23 [] e15 [e7, e3, e5, e31] (by kernel_rfl) ?_
       injection hx950 with hx950
       exact WL.to K true e15 rfl ⟨⟨(hS948.subR []).sub [0, 1] (by decide), hx950.symm⟩, trivial⟩
      refine WL.setB 58 h951 rfl ?_
      refine seg 20 [.v e2] e24 [e7, e3, e5, (58, e13), (62, e2)] [.idx A9 x48 t4.1.length, .cell e8 e2] (fun fb => by kernel_rfl) rfl ⟨nrow_adr (rowO.rd (hS948.own 0).1) h833.1 h833.2, nrow_cell (rowO.rd (hS948.own 0).1) [] h833.1 h833.2 0 rfl, trivial⟩ ?_
      obtain ⟨t952, ht953, hx950⟩ := bind_some hx950
      refine WL.call (some 63) 12 #[e2] (fun fb => by kernel_rfl) (ref10_Least_calls _ e11 (e10.1) (e10.2) t952 _ (rowsO.ro (hS948.ow 1) h833.1 h833.2).ofO ht953) (fun v w954 hR955 => ?_)
      obtain ⟨rfl, hk_⟩ := hR955
      have hS956 := hS948.keepN hk_
      refine ⟨trivial, ?_⟩
      refine sg 23 [] e15 [e7, e3, e5, (65, (bv (!t952)))] (by kernel_rfl) ?_
      injection hx950 with hx950
      exact WL.to K (!t952) e15 rfl ⟨⟨(hS956.subR []).sub [0, 1] (by decide), hx950.symm⟩, trivial⟩
     rintro y957 w959 ⟨⟨hS960, hq958⟩, hF961⟩
     subst hq958
     refine sg 24 [] e39 [e7, e3, e5, (66, (bv x949))] (by kernel_rfl) ?_
     refine WL.cutV (T := Bool) 41 (fun t => [(83, (bv t)), e7, e3, e5]) (fun t => x949 = t) (fun K => ?_) ?_
     ·
      rcases Bool.eq_false_or_eq_true x949 with h962 | h962
      ·
       refine WL.setB 66 h962 rfl ?_
       refine sg 41 [] e19 [e7, e3, e5, e32] (by kernel_rfl) ?_
       exact WL.toV K true [83, 0, 3, 5] rfl (by first | (rw [h962]; done) | (rw [h962]; rfl))
      refine WL.setB 66 h962 rfl ?_
      refine seg 28 [] e25 [e7, e3, e5, (66, e13), e17] [.ne 50] (fun fb => by kernel_rfl) rfl ⟨(by decide), trivial⟩ ?_
      refine WL.setB 70 h62 rfl ?_
      refine sg 41 [] e19 [e7, e3, e5, (83, e13)] (by kernel_rfl) ?_
      exact WL.toV K false [83, 0, 3, 5] rfl (by first | (rw [h962]; done) | (rw [h962]; rfl))
     rintro b963 rfl
     refine sg 42 [] e40 [e7, e3, e5, (84, (bv x949))] (by kernel_rfl) ?_
     refine WL.cutV (T := Bool) 58 (fun t => [(100, (bv t)), e7, e3, e5]) (fun t => x949 = t) (fun K => ?_) ?_
     ·
      rcases Bool.eq_false_or_eq_true x949 with h964 | h964
      ·
       refine WL.setB 84 h964 rfl ?_
       refine sg 58 [] e12 [e7, e3, e5, e22] (by kernel_rfl) ?_
       exact WL.toV K true [100, 0, 3, 5] rfl (by first | (rw [h964]; done) | (rw [h964]; rfl))
      refine WL.setB 84 h964 rfl ?_
      refine sg 45 [] e26 [e7, e3, e5, (84, e13), e20] (by kernel_rfl) ?_
      refine WL.setB 87 h623 rfl ?_
      refine sg 58 [] e12 [e7, e3, e5, e47] (by kernel_rfl) ?_
      exact WL.toV K false [100, 0, 3, 5] rfl (by first | (rw [h964]; done) | (rw [h964]; rfl))
     rintro b965 rfl
     refine WL.done rfl ?_
     injection hx57 with hx57
     exact WX.to Kx56 x949 e12 rfl ⟨(hS960.subR []).sub [0, 1] (by decide), hx57.symm⟩
    rintro y969 w966 ⟨hS967, hq968⟩
    subst hq968
    refine WX.next ?_
    rcases br_some hl54 with ⟨h970, hl54⟩ | ⟨h970, hl54⟩
    ·refine WC.condT2 (fun fb => by kernel_rfl) h970 ?_
     refine WC.seq (WC.region ?_)
     refine sg 1 [] [2] [(2, e13)] (by kernel_rfl) ?_
     refine WL.done rfl (WX.next ?_)
     refine WC.ret ?_
     injection hl54 with hl54
     subst hl54
     injection hf with hf
     subst hf
     exact WX.blockR (WX.thenR (WX.thenR (WX.blockR (WX.thenR (WX.ret_ [] e13 [] (fun fb => by kernel_rfl) trivial ⟨_, rfl, rfl, hS967.keep⟩)))))
    refine WC.condF2 (fun fb => by kernel_rfl) h970 ?_
    refine WC.skip ?_
    refine WX.blockN (WX.next ?_)
    refine WC.region ?_
    refine sg 3 [] [0, 3, 5] [e7, e3, (5, (iv (w64 (x48 + 1))))] (by kernel_rfl) ?_
    refine WL.done rfl ?_
    exact WX.again k51 (Nat.lt_succ_self _) (w64 (x48 + 1)) [0, 3, 5] rfl ⟨(hS967.subR []).sub [0, 1] (by decide), hl54⟩
   refine WC.condF2 (fun fb => by kernel_rfl) h55 ?_
   refine WC.exit ?_
   injection hl54 with hl54
   exact WX.thenX (WX.thenX (WX.blockHere (WX.to Kx49 () [] rfl ⟨(hS53.subR []).sub [] (by decide), hl54.symm⟩)))
 rintro y974 w971 ⟨hS972, hq973⟩
 subst hq973
 have hf := sum_inr hf
 refine WX.next (WC.seq (WC.region ?_))
 obtain ⟨t975, ht976, hf⟩ := bind_some hf
 refine WL.call (some 101) 9 #[] (fun fb => by kernel_rfl) (law10_awake_calls _ t975 _ ht976) (fun v w977 hR978 => ?_)
 obtain ⟨rfl, hk_⟩ := hR978
 have hS979 := hS972.keepN hk_
 refine ⟨trivial, ?_⟩
 refine sg 2 [] [2] [(2, (bv t975))] (by kernel_rfl) ?_
 refine WL.done rfl (WX.next ?_)
 refine WC.ret ?_
 injection hf with hf
 subst hf
 exact WX.ret_ [] (bv t975) [] (fun fb => by kernel_rfl) trivial ⟨_, rfl, rfl, hS979.keep⟩
end Gp
