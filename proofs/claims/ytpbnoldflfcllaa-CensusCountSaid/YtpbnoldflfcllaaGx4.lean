/- Walks: each function of the program computes its plain function. -/
import Derived.Test.YtpbnoldflfcllaaGx3
set_option linter.unusedVariables false
set_option linter.unusedSimpArgs false
set_option maxHeartbeats 4000000
set_option maxRecDepth 8000
namespace Gp
open Go Gw Go.Proofs
theorem law10_awake_calls (k : Nat)   (r : Bool) (w : World)  (hf : law10_awake k = some r) :
  CallsR Try.prog 9 #[] w (fun v w' => v = (bv r) ∧ Keeps NoS w w') := by
 have hS : St NoS w w [] [] := St.init (ro_nil _ _)
 refine enter 45 Try.func9 rfl Try.ntmps9 rfl ?_
 unfold law10_awake at hf
 refine WC.seq (WC.region ?_)
 refine sg 1 [] [] [] (by kernel_rfl) ?_
 refine WL.done rfl (WX.next (WC.seq (WC.region ?_)))
 obtain ⟨t3, ht4, hf⟩ := bind_some hf
 refine WL.call (some 6) 8 #[(iv 1)] (fun fb => by kernel_rfl) (census_All_calls _ 1 t3 _ ht4) (fun v w5 hR6 => ?_)
 obtain ⟨A8, c11, H12, rfl, hk_⟩ := hR6
 have hS7 := hS.go w5 [rowO 28 (encSl Tile) A8 c11 (tag H12 t3.1), rowsO 48 enc_Tile H12 t3.1] (hS.call hk_ [] [] (fun g hg => hg.elim) (by simp) (by decide))
 refine ⟨trivial, ?_⟩
 refine sg 6 [] [1, 2] [(1, (sv A8 t3.1 c11)), (2, (iv t3.2))] (by kernel_rfl) ?_
 refine WL.done rfl (WX.next (WC.seq (WC.region ?_)))
 obtain ⟨t13, ht14, hf⟩ := bind_some hf
 refine WL.call (some 10) 16 #[(iv 1)] (fun fb => by kernel_rfl) (census_Count_calls _ 1 t13 _ ht14) (fun v w15 hR16 => ?_)
 obtain ⟨rfl, hk_⟩ := hR16
 have hS17 := hS7.keepN hk_
 refine ⟨trivial, ?_⟩
 refine sg 4 [] [1, 2, 11, 12] [(1, (sv A8 t3.1 c11)), (2, (iv t3.2)), (11, (.agg #[(iv t13.1.Sets), (iv t13.1.Fill), (iv t13.1.Cells), (iv t13.1.Side)])), (12, (iv t13.2))] (by kernel_rfl) ?_
 refine WL.new hS17 3 [] (fun g => (pt g)) (.cells #[(iv 0), (iv 0), (iv 0), (iv 0)] 34 (0, 0)) [] (fun fb g => by kernel_rfl) trivial (fun g18 w19 hS20 => ?_)
 refine ⟨trivial, ?_⟩
 refine WL.store hS20 0 rfl [(0, (iv t13.1.Sets)), (1, (iv t13.1.Fill)), (2, (iv t13.1.Cells)), (3, (iv t13.1.Side))] #[(iv t13.1.Sets), (iv t13.1.Fill), (iv t13.1.Cells), (iv t13.1.Side)] (fun fb => by kernel_rfl) (by kernel_rfl) rfl [1, 2] (by decide) (by decide) (fun w21 hS22 => ?_)
 refine ⟨trivial, ?_⟩
 refine sg 7 [] [1, 2, 3, 4] [(1, (sv A8 t3.1 c11)), (2, (iv t3.2)), (3, (pt g18)), (4, (iv t13.2))] (by kernel_rfl) ?_
 refine WL.done rfl (WX.next (WC.seq (WC.region ?_)))
 refine sg 3 [] [1, 3, 4, 15] [(1, (sv A8 t3.1 c11)), (3, (pt g18)), (4, (iv t13.2)), (15, (bv (t3.2 == 0)))] (by kernel_rfl) ?_
 refine WL.cutV (T := Bool) 6 (fun t => [(18, (bv t)), (1, (sv A8 t3.1 c11)), (3, (pt g18))]) (fun t => ((t3.2 == 0) && (t13.2 == 0)) = t) (fun K => ?_) ?_
 ·
  rcases Bool.eq_false_or_eq_true (t3.2 == 0) with h23 | h23
  ·
   refine WL.setB 15 h23 rfl ?_
   refine sg 6 [] [1, 3, 18] [(1, (sv A8 t3.1 c11)), (3, (pt g18)), (18, (bv (t13.2 == 0)))] (by kernel_rfl) ?_
   exact WL.toV K (t13.2 == 0) [18, 1, 3] rfl (by first | (rw [h23]; done) | (rw [h23]; rfl))
  refine WL.setB 15 h23 rfl ?_
  refine sg 6 [] [1, 3, 18] [(1, (sv A8 t3.1 c11)), (3, (pt g18)), (18, (bv false))] (by kernel_rfl) ?_
  exact WL.toV K false [18, 1, 3] rfl (by first | (rw [h23]; done) | (rw [h23]; rfl))
 rintro b24 rfl
 refine sg 7 [] [1, 3, 19] [(1, (sv A8 t3.1 c11)), (3, (pt g18)), (19, (bv ((t3.2 == 0) && (t13.2 == 0))))] (by kernel_rfl) ?_
 refine WL.cutV (T := Bool) 11 (fun t => [(23, (bv t)), (1, (sv A8 t3.1 c11)), (3, (pt g18))]) (fun t => (((t3.2 == 0) && (t13.2 == 0)) && ((t3.1.length : Int) == 4)) = t) (fun K => ?_) ?_
 ·
  rcases Bool.eq_false_or_eq_true ((t3.2 == 0) && (t13.2 == 0)) with h25 | h25
  ·
   refine WL.setB 19 h25 rfl ?_
   refine sg 11 [] [1, 3, 23] [(1, (sv A8 t3.1 c11)), (3, (pt g18)), (23, (bv ((t3.1.length : Int) == 4)))] (by kernel_rfl) ?_
   exact WL.toV K ((t3.1.length : Int) == 4) [23, 1, 3] rfl (by first | (rw [h25]; done) | (rw [h25]; rfl))
  refine WL.setB 19 h25 rfl ?_
  refine sg 11 [] [1, 3, 23] [(1, (sv A8 t3.1 c11)), (3, (pt g18)), (23, (bv false))] (by kernel_rfl) ?_
  exact WL.toV K false [23, 1, 3] rfl (by first | (rw [h25]; done) | (rw [h25]; rfl))
 rintro b26 rfl
 refine sg 12 [] [1, 3, 24] [(1, (sv A8 t3.1 c11)), (3, (pt g18)), (24, (bv (((t3.2 == 0) && (t13.2 == 0)) && ((t3.1.length : Int) == 4))))] (by kernel_rfl) ?_
 obtain ⟨x27, hx28, hf⟩ := bind_some hf
 refine WL.cutW (T := Bool) 19 (fun t => [(1, (sv A8 t3.1 c11)), (3, (pt g18)), (31, (bv t))]) (fun t w1 => (St NoS w w1 [] [rowO 28 (encSl Tile) A8 c11 (tag H12 t3.1), rowsO 48 enc_Tile H12 t3.1, blk g18 (.cells #[(iv t13.1.Sets), (iv t13.1.Fill), (iv t13.1.Cells), (iv t13.1.Side)] 34 (0, 0))] ∧ x27 = t) ∧ CellsOK [] w1) (fun K => ?_) ?_
 ·
  rcases br_some hx28 with ⟨h29, hx28⟩ | ⟨h29, hx28⟩
  ·
   refine WL.setB 24 h29 rfl ?_
   refine sg 13 [] [1, 3, 24, 25] [(1, (sv A8 t3.1 c11)), (3, (pt g18)), (24, (bv true)), (25, (sv A8 t3.1 c11))] (by kernel_rfl) ?_
   obtain ⟨h30, hx28⟩ := as_some hx28
   refine seg 16 [.v (sv ((H12 (1 : Int).toNat).1) (rdD t3.1 (1 : Int) []) ((H12 (1 : Int).toNat).2))] [1, 3, 24, 27, 28] [(1, (sv A8 t3.1 c11)), (3, (pt g18)), (24, (bv true)), (27, (sv ((H12 (1 : Int).toNat).1) (rdD t3.1 (1 : Int) []) ((H12 (1 : Int).toNat).2))), (28, (.agg #[(iv 0), (iv 0), (iv 0), (iv 1)]))] [.idx A8 (1 : Int) t3.1.length, .cell ((adr A8).add (((1 : Int)).toNat * 1)) (sv ((H12 (1 : Int).toNat).1) (rdD t3.1 (1 : Int) []) ((H12 (1 : Int).toNat).2))] (fun fb => by kernel_rfl) rfl ⟨nrow_adr (rowO.rd (hS22.own 1).1) h30.1 h30.2, nrow_cell (rowO.rd (hS22.own 1).1) [] h30.1 h30.2 0 rfl, trivial⟩ ?_
   refine WL.new hS22 29 [] (fun g => (.slice (some ⟨g, 0, none⟩) 1 1)) (.cells #[(iv 0), (iv 0), (iv 0), (iv 1)] 48 (0, 0)) [] (fun fb g => by kernel_rfl) trivial (fun g31 w32 hS33 => ?_)
   refine ⟨trivial, ?_⟩
   have hS34 := hS7.go w32 [rowO 48 enc_Tile (some ⟨g31, 0, none⟩) 1 [(Tile.mk 0 0 0 1)], blk g18 (.cells #[(iv t13.1.Sets), (iv t13.1.Fill), (iv t13.1.Cells), (iv t13.1.Side)] 34 (0, 0)), rowO 28 (encSl Tile) A8 c11 (tag H12 t3.1), rowsO 48 enc_Tile H12 t3.1] (hS33.map1 0 _ (fun h => rowO.ofBlk h rfl (Nat.le_of_ble_eq_true (by kernel_rfl))) (fun _ h => by obtain ⟨_, h1, h2⟩ := h; injection h1 with h1; subst h1; exact h2) [1, 2, 3] (by decide) (by decide))
   obtain ⟨t35, ht36, hx28⟩ := bind_some hx28
   refine WL.call (some 30) 13 #[(sv ((H12 (1 : Int).toNat).1) (rdD t3.1 (1 : Int) []) ((H12 (1 : Int).toNat).2)), (sv (some ⟨g31, 0, none⟩) [(Tile.mk 0 0 0 1)] 1)] (fun fb => by kernel_rfl) (ref01_SameSet_calls _ (rdD t3.1 (1 : Int) []) [(Tile.mk 0 0 0 1)] ((H12 (1 : Int).toNat).1) ((H12 (1 : Int).toNat).2) (some ⟨g31, 0, none⟩) 1 t35 _ (rowsO.ro (hS34.ow 3) h30.1 h30.2).ofO (hS34.ow 0).ofO ht36) (fun v w37 hR38 => ?_)
   obtain ⟨rfl, hk_⟩ := hR38
   have hS39 := hS34.keepN hk_
   refine ⟨trivial, ?_⟩
   refine sg 19 [] [1, 3, 31] [(1, (sv A8 t3.1 c11)), (3, (pt g18)), (31, (bv t35))] (by kernel_rfl) ?_
   injection hx28 with hx28
   exact WL.to K t35 [1, 3, 31] rfl ⟨⟨(hS39.subR []).sub [2, 3, 1] (by decide), hx28.symm⟩, trivial⟩
  refine WL.setB 24 h29 rfl ?_
  refine sg 19 [] [1, 3, 31] [(1, (sv A8 t3.1 c11)), (3, (pt g18)), (31, (bv false))] (by kernel_rfl) ?_
  injection hx28 with hx28
  exact WL.to K false [1, 3, 31] rfl ⟨⟨(hS22.subR []).sub [1, 2, 0] (by decide), hx28.symm⟩, trivial⟩
 rintro y40 w42 ⟨⟨hS43, hq41⟩, hF44⟩
 subst hq41
 refine sg 20 [] [1, 3, 32] [(1, (sv A8 t3.1 c11)), (3, (pt g18)), (32, (bv x27))] (by kernel_rfl) ?_
 obtain ⟨x45, hx46, hf⟩ := bind_some hf
 refine WL.cutW (T := Bool) 27 (fun t => [(3, (pt g18)), (39, (bv t))]) (fun t w1 => (St NoS w w1 [] [blk g18 (.cells #[(iv t13.1.Sets), (iv t13.1.Fill), (iv t13.1.Cells), (iv t13.1.Side)] 34 (0, 0))] ∧ x45 = t) ∧ CellsOK [] w1) (fun K => ?_) ?_
 ·
  rcases br_some hx46 with ⟨h47, hx46⟩ | ⟨h47, hx46⟩
  ·
   refine WL.setB 32 h47 rfl ?_
   refine sg 21 [] [3, 32, 33] [(3, (pt g18)), (32, (bv true)), (33, (sv A8 t3.1 c11))] (by kernel_rfl) ?_
   obtain ⟨h48, hx46⟩ := as_some hx46
   refine seg 24 [.v (sv ((H12 (2 : Int).toNat).1) (rdD t3.1 (2 : Int) []) ((H12 (2 : Int).toNat).2))] [3, 32, 35, 36] [(3, (pt g18)), (32, (bv true)), (35, (sv ((H12 (2 : Int).toNat).1) (rdD t3.1 (2 : Int) []) ((H12 (2 : Int).toNat).2))), (36, (.agg #[(iv 0), (iv 0), (iv 1), (iv 0)]))] [.idx A8 (2 : Int) t3.1.length, .cell ((adr A8).add (((2 : Int)).toNat * 1)) (sv ((H12 (2 : Int).toNat).1) (rdD t3.1 (2 : Int) []) ((H12 (2 : Int).toNat).2))] (fun fb => by kernel_rfl) rfl ⟨nrow_adr (rowO.rd (hS43.own 0).1) h48.1 h48.2, nrow_cell (rowO.rd (hS43.own 0).1) [] h48.1 h48.2 0 rfl, trivial⟩ ?_
   refine WL.new hS43 37 [] (fun g => (.slice (some ⟨g, 0, none⟩) 1 1)) (.cells #[(iv 0), (iv 0), (iv 1), (iv 0)] 48 (0, 0)) [] (fun fb g => by kernel_rfl) trivial (fun g49 w50 hS51 => ?_)
   refine ⟨trivial, ?_⟩
   have hS52 := hS7.go w50 [rowO 48 enc_Tile (some ⟨g49, 0, none⟩) 1 [(Tile.mk 0 0 1 0)], rowO 28 (encSl Tile) A8 c11 (tag H12 t3.1), rowsO 48 enc_Tile H12 t3.1, blk g18 (.cells #[(iv t13.1.Sets), (iv t13.1.Fill), (iv t13.1.Cells), (iv t13.1.Side)] 34 (0, 0))] (hS51.map1 0 _ (fun h => rowO.ofBlk h rfl (Nat.le_of_ble_eq_true (by kernel_rfl))) (fun _ h => by obtain ⟨_, h1, h2⟩ := h; injection h1 with h1; subst h1; exact h2) [1, 2, 3] (by decide) (by decide))
   obtain ⟨t53, ht54, hx46⟩ := bind_some hx46
   refine WL.call (some 38) 13 #[(sv ((H12 (2 : Int).toNat).1) (rdD t3.1 (2 : Int) []) ((H12 (2 : Int).toNat).2)), (sv (some ⟨g49, 0, none⟩) [(Tile.mk 0 0 1 0)] 1)] (fun fb => by kernel_rfl) (ref01_SameSet_calls _ (rdD t3.1 (2 : Int) []) [(Tile.mk 0 0 1 0)] ((H12 (2 : Int).toNat).1) ((H12 (2 : Int).toNat).2) (some ⟨g49, 0, none⟩) 1 t53 _ (rowsO.ro (hS52.ow 2) h48.1 h48.2).ofO (hS52.ow 0).ofO ht54) (fun v w55 hR56 => ?_)
   obtain ⟨rfl, hk_⟩ := hR56
   have hS57 := hS52.keepN hk_
   refine ⟨trivial, ?_⟩
   refine sg 27 [] [3, 39] [(3, (pt g18)), (39, (bv t53))] (by kernel_rfl) ?_
   injection hx46 with hx46
   exact WL.to K t53 [3, 39] rfl ⟨⟨(hS57.subR []).sub [3] (by decide), hx46.symm⟩, trivial⟩
  refine WL.setB 32 h47 rfl ?_
  refine sg 27 [] [3, 39] [(3, (pt g18)), (39, (bv false))] (by kernel_rfl) ?_
  injection hx46 with hx46
  exact WL.to K false [3, 39] rfl ⟨⟨(hS43.subR []).sub [2] (by decide), hx46.symm⟩, trivial⟩
 rintro y58 w60 ⟨⟨hS61, hq59⟩, hF62⟩
 subst hq59
 refine sg 28 [] [3, 40] [(3, (pt g18)), (40, (bv x45))] (by kernel_rfl) ?_
 refine WL.cutV (T := Bool) 32 (fun t => [(44, (bv t))]) (fun t => (x45 && (t13.1.Sets == 4 && (t13.1.Fill == 1 && (t13.1.Cells == 1 && (t13.1.Side == 2))))) = t) (fun K => ?_) ?_
 ·
  rcases Bool.eq_false_or_eq_true x45 with h63 | h63
  ·
   refine WL.setB 40 h63 rfl ?_
   refine seg 32 [.v (iv t13.1.Sets), .v (iv t13.1.Fill), .v (iv t13.1.Cells), .v (iv t13.1.Side)] [44] [(44, (bv (t13.1.Sets == 4 && (t13.1.Fill == 1 && (t13.1.Cells == 1 && (t13.1.Side == 2))))))] [.cell ⟨g18, 0, none⟩ (iv t13.1.Sets), .cell ⟨g18, 1, none⟩ (iv t13.1.Fill), .cell ⟨g18, 2, none⟩ (iv t13.1.Cells), .cell ⟨g18, 3, none⟩ (iv t13.1.Side)] (fun fb => by kernel_rfl) rfl ⟨hS61.cell 0 rfl 0 rfl, hS61.cell 0 rfl 1 rfl, hS61.cell 0 rfl 2 rfl, hS61.cell 0 rfl 3 rfl, trivial⟩ ?_
   exact WL.toV K (t13.1.Sets == 4 && (t13.1.Fill == 1 && (t13.1.Cells == 1 && (t13.1.Side == 2)))) [44] rfl (by first | (rw [h63]; done) | (rw [h63]; rfl))
  refine WL.setB 40 h63 rfl ?_
  refine sg 32 [] [44] [(44, (bv false))] (by kernel_rfl) ?_
  exact WL.toV K false [44] rfl (by first | (rw [h63]; done) | (rw [h63]; rfl))
 rintro b65 rfl
 refine sg 33 [] [0] [(0, (bv (x45 && (t13.1.Sets == 4 && (t13.1.Fill == 1 && (t13.1.Cells == 1 && (t13.1.Side == 2)))))))] (by kernel_rfl) ?_
 refine WL.done rfl (WX.next ?_)
 refine WC.ret ?_
 injection hf with hf
 subst hf
 exact WX.ret_ [] (bv (x45 && (t13.1.Sets == 4 && (t13.1.Fill == 1 && (t13.1.Cells == 1 && (t13.1.Side == 2)))))) [] (fun fb => by kernel_rfl) trivial ⟨_, rfl, rfl, hS61.keep⟩
theorem law10_CensusCount_calls (k : Nat) (p0 : Int)  (r : Bool) (w : World)  (hf : law10_CensusCount k p0 = some r) :
  CallsR Try.prog 4 #[(iv p0)] w (fun v w' => v = (bv r) ∧ Keeps NoS w w') := by
 have hS : St NoS w w [] [] := St.init (ro_nil _ _)
 refine enter 86 Try.func4 rfl Try.ntmps4 rfl ?_
 unfold law10_CensusCount at hf
 refine WC.seq (WC.region ?_)
 refine sg 1 [] [0] [(0, (iv p0))] (by kernel_rfl) ?_
 refine WL.done rfl (WX.next (WC.seq (WC.seq (WC.region ?_))))
 refine sg 2 [] [0, 12] [(0, (iv p0)), (12, (bv (p0 == 3)))] (by kernel_rfl) ?_
 refine WL.done rfl (WX.next ?_)
 rcases br_some hf with ⟨h1, hf⟩ | ⟨h1, hf⟩
 ·refine WC.condT2 (fun fb => by kernel_rfl) h1 ?_
  refine WC.seq (WC.region ?_)
  obtain ⟨t3, ht5, hf⟩ := bind_some hf
  refine WL.call (some 13) 9 #[] (fun fb => by kernel_rfl) (law10_awake_calls _ t3 _ ht5) (fun v w6 hR7 => ?_)
  obtain ⟨rfl, hk_⟩ := hR7
  have hS8 := hS.keepN hk_
  refine ⟨trivial, ?_⟩
  refine sg 2 [] [2] [(2, (bv t3))] (by kernel_rfl) ?_
  refine WL.done rfl (WX.next ?_)
  refine WC.ret ?_
  injection hf with hf
  subst hf
  exact WX.thenR (WX.ret_ [] (bv t3) [] (fun fb => by kernel_rfl) trivial ⟨_, rfl, rfl, hS8.keep⟩)
 refine WC.condF2 (fun fb => by kernel_rfl) h1 ?_
 refine WC.skip (WX.next (WC.seq (WC.region ?_)))
 refine sg 1 [] [0, 15] [(0, (iv p0)), (15, (iv p0))] (by kernel_rfl) ?_
 obtain ⟨t9, ht11, hf⟩ := bind_some hf
 refine WL.call (some 16) 16 #[(iv p0)] (fun fb => by kernel_rfl) (census_Count_calls _ p0 t9 _ ht11) (fun v w12 hR13 => ?_)
 obtain ⟨rfl, hk_⟩ := hR13
 have hS14 := hS.keepN hk_
 refine ⟨trivial, ?_⟩
 refine sg 5 [] [0, 17, 18] [(0, (iv p0)), (17, (.agg #[(iv t9.1.Sets), (iv t9.1.Fill), (iv t9.1.Cells), (iv t9.1.Side)])), (18, (iv t9.2))] (by kernel_rfl) ?_
 refine WL.new hS14 3 [] (fun g => (pt g)) (.cells #[(iv 0), (iv 0), (iv 0), (iv 0)] 34 (0, 0)) [] (fun fb g => by kernel_rfl) trivial (fun g15 w16 hS17 => ?_)
 refine ⟨trivial, ?_⟩
 refine WL.store hS17 0 rfl [(0, (iv t9.1.Sets)), (1, (iv t9.1.Fill)), (2, (iv t9.1.Cells)), (3, (iv t9.1.Side))] #[(iv t9.1.Sets), (iv t9.1.Fill), (iv t9.1.Cells), (iv t9.1.Side)] (fun fb => by kernel_rfl) (by kernel_rfl) rfl [] (by decide) (by decide) (fun w18 hS19 => ?_)
 refine ⟨trivial, ?_⟩
 refine sg 8 [] [0, 3, 4] [(0, (iv p0)), (3, (pt g15)), (4, (iv t9.2))] (by kernel_rfl) ?_
 refine WL.done rfl (WX.next (WC.seq (WC.region ?_)))
 refine sg 1 [] [3, 4, 20] [(3, (pt g15)), (4, (iv t9.2)), (20, (iv p0))] (by kernel_rfl) ?_
 obtain ⟨t20, ht21, hf⟩ := bind_some hf
 refine WL.call (some 21) 8 #[(iv p0)] (fun fb => by kernel_rfl) (census_All_calls _ p0 t20 _ ht21) (fun v w22 hR23 => ?_)
 obtain ⟨A25, c26, H27, rfl, hk_⟩ := hR23
 have hS24 := hS.go w22 [rowO 28 (encSl Tile) A25 c26 (tag H27 t20.1), rowsO 48 enc_Tile H27 t20.1, blk g15 (.cells #[(iv t9.1.Sets), (iv t9.1.Fill), (iv t9.1.Cells), (iv t9.1.Side)] 34 (0, 0))] (hS19.call hk_ [] [0] (fun g hg => hg.elim) (by simp) (by decide))
 refine ⟨trivial, ?_⟩
 refine sg 7 [] [3, 4, 5, 6] [(3, (pt g15)), (4, (iv t9.2)), (5, (sv A25 t20.1 c26)), (6, (iv t20.2))] (by kernel_rfl) ?_
 refine WL.done rfl (WX.next (WC.seq (WC.seq (WC.region ?_))))
 refine sg 2 [] [3, 4, 5, 6, 25] [(3, (pt g15)), (4, (iv t9.2)), (5, (sv A25 t20.1 c26)), (6, (iv t20.2)), (25, (bv (t20.2 != 0)))] (by kernel_rfl) ?_
 refine WL.done rfl (WX.next ?_)
 rcases br_some hf with ⟨h28, hf⟩ | ⟨h28, hf⟩
 ·refine WC.condT2 (fun fb => by kernel_rfl) h28 ?_
  refine WC.seq (WC.region ?_)
  refine sg 4 [] [3, 29] [(3, (pt g15)), (29, (bv (t9.2 == t20.2)))] (by kernel_rfl) ?_
  refine WL.cutV (T := Bool) 8 (fun t => [(33, (bv t))]) (fun t => ((t9.2 == t20.2) && (t9.1.Sets == 0 && (t9.1.Fill == 0 && (t9.1.Cells == 0 && (t9.1.Side == 0))))) = t) (fun K => ?_) ?_
  ·
   rcases Bool.eq_false_or_eq_true (t9.2 == t20.2) with h29 | h29
   ·
    refine WL.setB 29 h29 rfl ?_
    refine seg 8 [.v (iv t9.1.Sets), .v (iv t9.1.Fill), .v (iv t9.1.Cells), .v (iv t9.1.Side)] [33] [(33, (bv (t9.1.Sets == 0 && (t9.1.Fill == 0 && (t9.1.Cells == 0 && (t9.1.Side == 0))))))] [.cell ⟨g15, 0, none⟩ (iv t9.1.Sets), .cell ⟨g15, 1, none⟩ (iv t9.1.Fill), .cell ⟨g15, 2, none⟩ (iv t9.1.Cells), .cell ⟨g15, 3, none⟩ (iv t9.1.Side)] (fun fb => by kernel_rfl) rfl ⟨hS24.cell 2 rfl 0 rfl, hS24.cell 2 rfl 1 rfl, hS24.cell 2 rfl 2 rfl, hS24.cell 2 rfl 3 rfl, trivial⟩ ?_
    exact WL.toV K (t9.1.Sets == 0 && (t9.1.Fill == 0 && (t9.1.Cells == 0 && (t9.1.Side == 0)))) [33] rfl (by first | (rw [h29]; done) | (rw [h29]; rfl))
   refine WL.setB 29 h29 rfl ?_
   refine sg 8 [] [33] [(33, (bv false))] (by kernel_rfl) ?_
   exact WL.toV K false [33] rfl (by first | (rw [h29]; done) | (rw [h29]; rfl))
  rintro b30 rfl
  refine sg 9 [] [34] [(34, (bv ((t9.2 == t20.2) && (t9.1.Sets == 0 && (t9.1.Fill == 0 && (t9.1.Cells == 0 && (t9.1.Side == 0)))))))] (by kernel_rfl) ?_
  obtain ⟨x31, hx32, hf⟩ := bind_some hf
  refine WL.cutW (T := Bool) 11 (fun t => [(36, (bv t))]) (fun t w1 => (St NoS w w1 [] [] ∧ x31 = t) ∧ CellsOK [] w1) (fun K => ?_) ?_
  ·
   rcases br_some hx32 with ⟨h33, hx32⟩ | ⟨h33, hx32⟩
   ·
    refine WL.setB 34 h33 rfl ?_
    obtain ⟨t34, ht35, hx32⟩ := bind_some hx32
    refine WL.call (some 35) 9 #[] (fun fb => by kernel_rfl) (law10_awake_calls _ t34 _ ht35) (fun v w36 hR37 => ?_)
    obtain ⟨rfl, hk_⟩ := hR37
    have hS38 := hS24.keepN hk_
    refine ⟨trivial, ?_⟩
    refine sg 11 [] [36] [(36, (bv t34))] (by kernel_rfl) ?_
    injection hx32 with hx32
    exact WL.to K t34 [36] rfl ⟨⟨(hS38.subR []).sub [] (by decide), hx32.symm⟩, trivial⟩
   refine WL.setB 34 h33 rfl ?_
   refine sg 11 [] [36] [(36, (bv false))] (by kernel_rfl) ?_
   injection hx32 with hx32
   exact WL.to K false [36] rfl ⟨⟨(hS24.subR []).sub [] (by decide), hx32.symm⟩, trivial⟩
  rintro y39 w41 ⟨⟨hS42, hq40⟩, hF43⟩
  subst hq40
  refine sg 12 [] [2] [(2, (bv x31))] (by kernel_rfl) ?_
  refine WL.done rfl (WX.next ?_)
  refine WC.ret ?_
  injection hf with hf
  subst hf
  exact WX.thenR (WX.ret_ [] (bv x31) [] (fun fb => by kernel_rfl) trivial ⟨_, rfl, rfl, hS42.keep⟩)
 refine WC.condF2 (fun fb => by kernel_rfl) h28 ?_
 refine WC.skip (WX.next (WC.seq (WC.region ?_)))
 refine sg 3 [] [3, 4, 5, 39] [(3, (pt g15)), (4, (iv t9.2)), (5, (sv A25 t20.1 c26)), (39, (.agg #[(iv (t20.1.length : Int)), (iv 0), (iv 0), (iv 0)]))] (by kernel_rfl) ?_
 refine WL.new hS24 7 [] (fun g => (pt g)) (.cells #[(iv 0), (iv 0), (iv 0), (iv 0)] 34 (0, 0)) [] (fun fb g => by kernel_rfl) trivial (fun g44 w45 hS46 => ?_)
 refine ⟨trivial, ?_⟩
 refine WL.store hS46 0 rfl [(0, (iv (t20.1.length : Int))), (1, (iv 0)), (2, (iv 0)), (3, (iv 0))] #[(iv (t20.1.length : Int)), (iv 0), (iv 0), (iv 0)] (fun fb => by kernel_rfl) (by kernel_rfl) rfl [1, 2, 3] (by decide) (by decide) (fun w47 hS48 => ?_)
 refine ⟨trivial, ?_⟩
 refine WL.done rfl (WX.next (WC.seq (WC.seq (WC.region ?_))))
 refine sg 1 [] [3, 4, 5, 7, 8] [(3, (pt g15)), (4, (iv t9.2)), (5, (sv A25 t20.1 c26)), (7, (pt g44)), (8, (iv 0))] (by kernel_rfl) ?_
 refine WL.done rfl (WX.next ?_)
 obtain ⟨x53, hx54, hf⟩ := bind_some hf
 refine WC.cutN (T := Int × Int × Int) (fun t => [(3, (pt g15)), (4, (iv t9.2)), (7, (pt g44))]) (fun t w1 => St NoS w w1 [] [blk g15 (.cells #[(iv t9.1.Sets), (iv t9.1.Fill), (iv t9.1.Cells), (iv t9.1.Side)] 34 (0, 0)), blk g44 (.cells #[(iv (t20.1.length : Int)), (iv t.1), (iv t.2.1), (iv t.2.2)] 34 (0, 0))] ∧ x53 = .inr t) (fun Kx53 => ?_) ?_
 ·
  refine WC.block ?_
  refine WC.loop (T := Int × Int × Int × Int) (fun t => [(3, (pt g15)), (4, (iv t9.2)), (5, (sv A25 t20.1 c26)), (7, (pt g44)), (8, (iv t.2.2.2))]) (fun n t w1 => St NoS w w1 [] [blk g15 (.cells #[(iv t9.1.Sets), (iv t9.1.Fill), (iv t9.1.Cells), (iv t9.1.Side)] 34 (0, 0)), rowO 28 (encSl Tile) A25 c26 (tag H27 t20.1), rowsO 48 enc_Tile H27 t20.1, blk g44 (.cells #[(iv (t20.1.length : Int)), (iv t.1), (iv t.2.1), (iv t.2.2.1)] 34 (0, 0))] ∧ law10_CensusCount.l0 n t.1 t.2.1 t.2.2.1 t.2.2.2 t20 = some x53) k (0, 0, 0, 0) [3, 4, 5, 7, 8] rfl ⟨(hS48.subR []).sub [3, 1, 2, 0] (by decide), hx54⟩ ?_
  rintro k55 ⟨x49, x50, x51, x52⟩ w56 ⟨hS57, hl58⟩
  cases k55 with
  | zero => rw [law10_CensusCount.l0] at hl58; cases hl58
  | succ k55 =>
   rw [law10_CensusCount.l0] at hl58
   refine WC.seq (WC.seq (WC.region ?_))
   refine sg 4 [] [3, 4, 5, 7, 8, 43] [(3, (pt g15)), (4, (iv t9.2)), (5, (sv A25 t20.1 c26)), (7, (pt g44)), (8, (iv x52)), (43, (bv (decide (x52 < (t20.1.length : Int)))))] (by kernel_rfl) ?_
   refine WL.done rfl (WX.next ?_)
   rcases br_some hl58 with ⟨h59, hl58⟩ | ⟨h59, hl58⟩
   ·refine WC.condT2 (fun fb => by kernel_rfl) h59 ?_
    refine WC.skip (WX.next (WC.seq (WC.block (WC.seq (WC.region ?_)))))
    refine sg 2 [] [3, 4, 5, 7, 8, 47, 48] [(3, (pt g15)), (4, (iv t9.2)), (5, (sv A25 t20.1 c26)), (7, (pt g44)), (8, (iv x52)), (47, (sv A25 t20.1 c26)), (48, (iv x52))] (by kernel_rfl) ?_
    obtain ⟨h60, hl58⟩ := as_some hl58
    refine seg 4 [.v (sv ((H27 x52.toNat).1) (rdD t20.1 x52 []) ((H27 x52.toNat).2))] [3, 4, 5, 7, 8, 50] [(3, (pt g15)), (4, (iv t9.2)), (5, (sv A25 t20.1 c26)), (7, (pt g44)), (8, (iv x52)), (50, (sv ((H27 x52.toNat).1) (rdD t20.1 x52 []) ((H27 x52.toNat).2)))] [.idx A25 x52 t20.1.length, .cell ((adr A25).add ((x52).toNat * 1)) (sv ((H27 x52.toNat).1) (rdD t20.1 x52 []) ((H27 x52.toNat).2))] (fun fb => by kernel_rfl) rfl ⟨nrow_adr (rowO.rd (hS57.own 1).1) h60.1 h60.2, nrow_cell (rowO.rd (hS57.own 1).1) [] h60.1 h60.2 0 rfl, trivial⟩ ?_
    obtain ⟨t61, ht62, hl58⟩ := bind_some hl58
    refine WL.call (some 51) 17 #[(sv ((H27 x52.toNat).1) (rdD t20.1 x52 []) ((H27 x52.toNat).2))] (fun fb => by kernel_rfl) (decide_Decide_calls _ (rdD t20.1 x52 []) ((H27 x52.toNat).1) ((H27 x52.toNat).2) t61 _ (rowsO.ro (hS57.ow 2) h60.1 h60.2).ofO ht62) (fun v w63 hR65 => ?_)
    obtain ⟨A67, c68, rfl, hk_⟩ := hR65
    have hS66 := hS24.go w63 [rowO 3 encInt A67 c68 t61.1.Torus.Cells, blk g15 (.cells #[(iv t9.1.Sets), (iv t9.1.Fill), (iv t9.1.Cells), (iv t9.1.Side)] 34 (0, 0)), rowO 28 (encSl Tile) A25 c26 (tag H27 t20.1), rowsO 48 enc_Tile H27 t20.1, blk g44 (.cells #[(iv (t20.1.length : Int)), (iv x49), (iv x50), (iv x51)] 34 (0, 0))] (hS57.call hk_ [] [0, 1, 2, 3] (fun g hg => hg.elim) (by simp) (by decide))
    refine ⟨trivial, ?_⟩
    refine sg 8 [] [3, 4, 5, 7, 8, 52, 53] [(3, (pt g15)), (4, (iv t9.2)), (5, (sv A25 t20.1 c26)), (7, (pt g44)), (8, (iv x52)), (52, (.agg #[(bv t61.1.Fills), (iv t61.1.Torus.Width), (iv t61.1.Torus.Height), (sv A67 t61.1.Torus.Cells c68), (iv t61.1.Side)])), (53, (iv t61.2))] (by kernel_rfl) ?_
    refine WL.new hS66 9 [] (fun g => (pt g)) (.cells #[(bv false), (iv 0), (iv 0), (.slice none 0 0), (iv 0)] 41 (0, 0)) [] (fun fb g => by kernel_rfl) trivial (fun g69 w70 hS71 => ?_)
    refine ⟨trivial, ?_⟩
    refine WL.store hS71 0 rfl [(0, (bv t61.1.Fills)), (1, (iv t61.1.Torus.Width)), (2, (iv t61.1.Torus.Height)), (3, (sv A67 t61.1.Torus.Cells c68)), (4, (iv t61.1.Side))] #[(bv t61.1.Fills), (iv t61.1.Torus.Width), (iv t61.1.Torus.Height), (sv A67 t61.1.Torus.Cells c68), (iv t61.1.Side)] (fun fb => by kernel_rfl) (by kernel_rfl) rfl [1, 2, 3, 4, 5] (by decide) (by decide) (fun w72 hS73 => ?_)
    refine ⟨trivial, ?_⟩
    refine sg 11 [] [3, 4, 5, 7, 8, 9, 10] [(3, (pt g15)), (4, (iv t9.2)), (5, (sv A25 t20.1 c26)), (7, (pt g44)), (8, (iv x52)), (9, (pt g69)), (10, (iv t61.2))] (by kernel_rfl) ?_
    refine WL.done rfl (WX.next (WC.seq (WC.seq (WC.region ?_))))
    refine sg 2 [] [3, 4, 5, 7, 8, 9, 55] [(3, (pt g15)), (4, (iv t9.2)), (5, (sv A25 t20.1 c26)), (7, (pt g44)), (8, (iv x52)), (9, (pt g69)), (55, (bv (t61.2 != 0)))] (by kernel_rfl) ?_
    refine WL.done rfl (WX.next ?_)
    rcases br_some hl58 with ⟨h74, hl58⟩ | ⟨h74, hl58⟩
    ·refine WC.condT2 (fun fb => by kernel_rfl) h74 ?_
     refine WC.seq (WC.region ?_)
     refine sg 1 [] [2] [(2, (bv false))] (by kernel_rfl) ?_
     refine WL.done rfl (WX.next ?_)
     refine WC.ret ?_
     injection hl58 with hl58
     subst hl58
     injection hf with hf
     subst hf
     exact WX.thenR (WX.blockR (WX.thenR (WX.thenR (WX.blockR (WX.thenR (WX.ret_ [] (bv false) [] (fun fb => by kernel_rfl) trivial ⟨_, rfl, rfl, hS73.keep⟩))))))
    refine WC.condF2 (fun fb => by kernel_rfl) h74 ?_
    refine WC.skip (WX.next (WC.seq (WC.seq (WC.region ?_))))
    refine seg 2 [.v (bv t61.1.Fills)] [3, 4, 5, 7, 8, 9, 57] [(3, (pt g15)), (4, (iv t9.2)), (5, (sv A25 t20.1 c26)), (7, (pt g44)), (8, (iv x52)), (9, (pt g69)), (57, (bv t61.1.Fills))] [.cell ⟨g69, 0, none⟩ (bv t61.1.Fills)] (fun fb => by kernel_rfl) rfl ⟨hS73.cell 0 rfl 0 rfl, trivial⟩ ?_
    refine WL.done rfl (WX.next ?_)
    obtain ⟨x75, hx76, hl58⟩ := bind_some hl58
    refine WC.cutN (T := Int) (fun t => [(3, (pt g15)), (4, (iv t9.2)), (5, (sv A25 t20.1 c26)), (7, (pt g44)), (8, (iv x52)), (9, (pt g69))]) (fun t w1 => St NoS w w1 [] [blk g15 (.cells #[(iv t9.1.Sets), (iv t9.1.Fill), (iv t9.1.Cells), (iv t9.1.Side)] 34 (0, 0)), rowO 28 (encSl Tile) A25 c26 (tag H27 t20.1), rowsO 48 enc_Tile H27 t20.1, blk g44 (.cells #[(iv (t20.1.length : Int)), (iv t), (iv x50), (iv x51)] 34 (0, 0)), blk g69 (.cells #[(bv t61.1.Fills), (iv t61.1.Torus.Width), (iv t61.1.Torus.Height), (sv A67 t61.1.Torus.Cells c68), (iv t61.1.Side)] 41 (0, 0)), rowO 3 encInt A67 c68 t61.1.Torus.Cells] ∧ x75 = t) (fun Kx75 => ?_) ?_
    ·
     rcases br_some hx76 with ⟨h77, hx76⟩ | ⟨h77, hx76⟩
     ·refine WC.condT2 (fun fb => by kernel_rfl) h77 ?_
      refine WC.region ?_
      refine seg 4 [.v (iv x49)] [3, 4, 5, 7, 8, 9, 60, 61] [(3, (pt g15)), (4, (iv t9.2)), (5, (sv A25 t20.1 c26)), (7, (pt g44)), (8, (iv x52)), (9, (pt g69)), (60, (iv (w64 (x49 + 1)))), (61, (.pointer (some ⟨g44, 1, none⟩)))] [.cell ⟨g44, 1, none⟩ (iv x49)] (fun fb => by kernel_rfl) rfl ⟨hS73.cell 5 rfl 1 rfl, trivial⟩ ?_
      refine WL.store hS73 5 rfl [(1, (iv (w64 (x49 + 1))))] #[(iv (t20.1.length : Int)), (iv (w64 (x49 + 1))), (iv x50), (iv x51)] (fun fb => by kernel_rfl) (by kernel_rfl) rfl [0, 1, 2, 3, 4] (by decide) (by decide) (fun w78 hS79 => ?_)
      refine ⟨trivial, ?_⟩
      refine WL.done rfl ?_
      injection hx76 with hx76
      exact WX.to Kx75 (w64 (x49 + 1)) [3, 4, 5, 7, 8, 9] rfl ⟨(hS79.subR []).sub [3, 4, 5, 0, 1, 2] (by decide), hx76.symm⟩
     refine WC.condF2 (fun fb => by kernel_rfl) h77 ?_
     refine WC.skip ?_
     injection hx76 with hx76
     exact WX.to Kx75 x49 [3, 4, 5, 7, 8, 9] rfl ⟨(hS73.subR []).sub [2, 3, 4, 5, 0, 1] (by decide), hx76.symm⟩
    rintro y83 w80 ⟨hS81, hq82⟩
    subst hq82
    refine WX.next (WC.seq (WC.region ?_))
    refine seg 8 [.v (iv x50), .v (sv A67 t61.1.Torus.Cells c68)] [3, 4, 5, 7, 8, 9, 68, 69] [(3, (pt g15)), (4, (iv t9.2)), (5, (sv A25 t20.1 c26)), (7, (pt g44)), (8, (iv x52)), (9, (pt g69)), (68, (iv (maxI x50 (t61.1.Torus.Cells.length : Int)))), (69, (.pointer (some ⟨g44, 2, none⟩)))] [.cell ⟨g44, 2, none⟩ (iv x50), .cell ⟨g69, 3, none⟩ (sv A67 t61.1.Torus.Cells c68)] (fun fb => by kernel_rfl) rfl ⟨hS81.cell 3 rfl 2 rfl, hS81.cell 4 rfl 3 rfl, trivial⟩ ?_
    refine WL.store hS81 3 rfl [(2, (iv (maxI x50 (t61.1.Torus.Cells.length : Int))))] #[(iv (t20.1.length : Int)), (iv x75), (iv (maxI x50 (t61.1.Torus.Cells.length : Int))), (iv x51)] (fun fb => by kernel_rfl) (by kernel_rfl) rfl [0, 1, 2, 4, 5] (by decide) (by decide) (fun w84 hS85 => ?_)
    refine ⟨trivial, ?_⟩
    refine WL.done rfl (WX.next (WC.region ?_))
    refine seg 6 [.v (iv x51), .v (iv t61.1.Side)] [3, 4, 5, 7, 8, 74, 75] [(3, (pt g15)), (4, (iv t9.2)), (5, (sv A25 t20.1 c26)), (7, (pt g44)), (8, (iv x52)), (74, (iv (maxI x51 t61.1.Side))), (75, (.pointer (some ⟨g44, 3, none⟩)))] [.cell ⟨g44, 3, none⟩ (iv x51), .cell ⟨g69, 4, none⟩ (iv t61.1.Side)] (fun fb => by kernel_rfl) rfl ⟨hS85.cell 0 rfl 3 rfl, hS85.cell 4 rfl 4 rfl, trivial⟩ ?_
    refine WL.store hS85 0 rfl [(3, (iv (maxI x51 t61.1.Side)))] #[(iv (t20.1.length : Int)), (iv x75), (iv (maxI x50 (t61.1.Torus.Cells.length : Int))), (iv (maxI x51 t61.1.Side))] (fun fb => by kernel_rfl) (by kernel_rfl) rfl [1, 2, 3, 4, 5] (by decide) (by decide) (fun w86 hS87 => ?_)
    refine ⟨trivial, ?_⟩
    refine WL.done rfl ?_
    refine WX.blockN (WX.next ?_)
    refine WC.region ?_
    refine sg 3 [] [3, 4, 5, 7, 8] [(3, (pt g15)), (4, (iv t9.2)), (5, (sv A25 t20.1 c26)), (7, (pt g44)), (8, (iv (w64 (x52 + 1))))] (by kernel_rfl) ?_
    refine WL.done rfl ?_
    exact WX.again k55 (Nat.lt_succ_self _) (x75, maxI x50 (t61.1.Torus.Cells.length : Int), maxI x51 t61.1.Side, w64 (x52 + 1)) [3, 4, 5, 7, 8] rfl ⟨(hS87.subR []).sub [1, 2, 3, 0] (by decide), hl58⟩
   refine WC.condF2 (fun fb => by kernel_rfl) h59 ?_
   refine WC.exit ?_
   injection hl58 with hl58
   exact WX.thenX (WX.thenX (WX.blockHere (WX.to Kx53 (x49, x50, x51) [3, 4, 7] rfl ⟨(hS57.subR []).sub [0, 3] (by decide), hl58.symm⟩)))
 rintro y91 w88 ⟨hS89, hq90⟩
 subst hq90
 have hf := sum_inr hf
 refine WX.next (WC.seq (WC.region ?_))
 refine sg 3 [] [3, 7, 78] [(3, (pt g15)), (7, (pt g44)), (78, (bv (t9.2 == 0)))] (by kernel_rfl) ?_
 refine WL.cutV (T := Bool) 7 (fun t => [(82, (bv t))]) (fun t => ((t9.2 == 0) && (t9.1.Sets == (t20.1.length : Int) && (t9.1.Fill == y91.1 && (t9.1.Cells == y91.2.1 && (t9.1.Side == y91.2.2))))) = t) (fun K => ?_) ?_
 ·
  rcases Bool.eq_false_or_eq_true (t9.2 == 0) with h92 | h92
  ·
   refine WL.setB 78 h92 rfl ?_
   refine seg 7 [.v (iv t9.1.Sets), .v (iv t9.1.Fill), .v (iv t9.1.Cells), .v (iv t9.1.Side), .v (iv (t20.1.length : Int)), .v (iv y91.1), .v (iv y91.2.1), .v (iv y91.2.2)] [82] [(82, (bv (t9.1.Sets == (t20.1.length : Int) && (t9.1.Fill == y91.1 && (t9.1.Cells == y91.2.1 && (t9.1.Side == y91.2.2))))))] [.cell ⟨g15, 0, none⟩ (iv t9.1.Sets), .cell ⟨g15, 1, none⟩ (iv t9.1.Fill), .cell ⟨g15, 2, none⟩ (iv t9.1.Cells), .cell ⟨g15, 3, none⟩ (iv t9.1.Side), .cell ⟨g44, 0, none⟩ (iv (t20.1.length : Int)), .cell ⟨g44, 1, none⟩ (iv y91.1), .cell ⟨g44, 2, none⟩ (iv y91.2.1), .cell ⟨g44, 3, none⟩ (iv y91.2.2)] (fun fb => by kernel_rfl) rfl ⟨hS89.cell 0 rfl 0 rfl, hS89.cell 0 rfl 1 rfl, hS89.cell 0 rfl 2 rfl, hS89.cell 0 rfl 3 rfl, hS89.cell 1 rfl 0 rfl, hS89.cell 1 rfl 1 rfl, hS89.cell 1 rfl 2 rfl, hS89.cell 1 rfl 3 rfl, trivial⟩ ?_
   exact WL.toV K (t9.1.Sets == (t20.1.length : Int) && (t9.1.Fill == y91.1 && (t9.1.Cells == y91.2.1 && (t9.1.Side == y91.2.2)))) [82] rfl (by first | (rw [h92]; done) | (rw [h92]; rfl))
  refine WL.setB 78 h92 rfl ?_
  refine sg 7 [] [82] [(82, (bv false))] (by kernel_rfl) ?_
  exact WL.toV K false [82] rfl (by first | (rw [h92]; done) | (rw [h92]; rfl))
 rintro b93 rfl
 refine sg 8 [] [83] [(83, (bv ((t9.2 == 0) && (t9.1.Sets == (t20.1.length : Int) && (t9.1.Fill == y91.1 && (t9.1.Cells == y91.2.1 && (t9.1.Side == y91.2.2)))))))] (by kernel_rfl) ?_
 obtain ⟨x94, hx95, hf⟩ := bind_some hf
 refine WL.cutW (T := Bool) 10 (fun t => [(85, (bv t))]) (fun t w1 => (St NoS w w1 [] [] ∧ x94 = t) ∧ CellsOK [] w1) (fun K => ?_) ?_
 ·
  rcases br_some hx95 with ⟨h96, hx95⟩ | ⟨h96, hx95⟩
  ·
   refine WL.setB 83 h96 rfl ?_
   obtain ⟨t97, ht98, hx95⟩ := bind_some hx95
   refine WL.call (some 84) 9 #[] (fun fb => by kernel_rfl) (law10_awake_calls _ t97 _ ht98) (fun v w99 hR100 => ?_)
   obtain ⟨rfl, hk_⟩ := hR100
   have hS101 := hS89.keepN hk_
   refine ⟨trivial, ?_⟩
   refine sg 10 [] [85] [(85, (bv t97))] (by kernel_rfl) ?_
   injection hx95 with hx95
   exact WL.to K t97 [85] rfl ⟨⟨(hS101.subR []).sub [] (by decide), hx95.symm⟩, trivial⟩
  refine WL.setB 83 h96 rfl ?_
  refine sg 10 [] [85] [(85, (bv false))] (by kernel_rfl) ?_
  injection hx95 with hx95
  exact WL.to K false [85] rfl ⟨⟨(hS89.subR []).sub [] (by decide), hx95.symm⟩, trivial⟩
 rintro y102 w104 ⟨⟨hS105, hq103⟩, hF106⟩
 subst hq103
 refine sg 11 [] [2] [(2, (bv x94))] (by kernel_rfl) ?_
 refine WL.done rfl (WX.next ?_)
 refine WC.ret ?_
 injection hf with hf
 subst hf
 exact WX.ret_ [] (bv x94) [] (fun fb => by kernel_rfl) trivial ⟨_, rfl, rfl, hS105.keep⟩
end Gp
