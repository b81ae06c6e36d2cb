/- Walks: each function of the program computes its plain function. -/
import Derived.Test.YtpbnoldflfcllaaGx3
set_option linter.unusedVariables false
set_option linter.unusedSimpArgs false
set_option maxHeartbeats 4000000
set_option maxRecDepth 8000
namespace Gp
open Go Gw Go.Proofs
theorem law10_awake_calls (k : Nat)   (r : Bool) (w : World)  (hf : law10_awake k = some r) :
  CallsR Try.prog 9 #[] w (fun v w' => v = (bv r) ∧ Keeps NoS w w') := by
 have hS : St NoS w w [] [] := St.init (ro_nil _ _)
 refine enter 45 Try.func9 rfl Try.ntmps9 rfl ?_
 unfold law10_awake at hf
 refine WC.seq (WC.region ?_)
 refine sg 1 [] [] [] (by kernel_rfl) ?_
 refine WL.done rfl (WX.next (WC.seq (WC.region ?_)))
 obtain ⟨t3, ht4, hf⟩ := bind_some hf
 refine WL.call (some 6) 8 #[(iv 1)] (fun fb => by kernel_rfl) (census_All_calls _ 1 t3 _ ht4) (fun v w5 hR6 => ?_)
 obtain ⟨A8, c11, H12, rfl, hk_⟩ := hR6
 have hS7 := hS.go w5 [rowO 28 (encSl Tile) A8 c11 (tag H12 t3.1), rowsO 48 enc_Tile H12 t3.1] (hS.call hk_ [] [] (fun g hg => hg.elim) (by simp) (by decide))
 refine ⟨trivial, ?_⟩
 refine sg 6 [] [1, 2] [(1, (sv A8 t3.1 c11)), (2, (iv t3.2))] (by kernel_rfl) ?_
 refine WL.done rfl (WX.next (WC.seq (WC.region ?_)))
 obtain ⟨t13, ht14, hf⟩ := bind_some hf
 refine WL.call (some 10) 16 #[(iv 1)] (fun fb => by kernel_rfl) (census_Count_calls _ 1 t13 _ ht14) (fun v w15 hR16 => ?_)
 obtain ⟨rfl, hk_⟩ := hR16
 have hS17 := hS7.keepN hk_
 refine ⟨trivial, ?_⟩
 refine sg 4 [] [1, 2, 11, 12] [(1, (sv A8 t3.1 c11)), (2, (iv t3.2)), (11, (.agg #[(iv t13.1.Sets), (iv t13.1.Fill), (iv t13.1.Cells), (iv t13.1.Side)])), (12, (iv t13.2))] (by kernel_rfl) ?_
 refine WL.new hS17 3 [] (fun g => (pt g)) (.cells #[(iv 0), (iv 0), (iv 0), (iv 0)] 34 (0, 0)) [] (fun fb g => by kernel_rfl) trivial (fun g18 w19 hS20 => ?_)
 refine ⟨trivial, ?_⟩
 refine WL.store hS20 0 rfl [(0, (iv t13.1.Sets)), (1, (iv t13.1.Fill)), (2, (iv t13.1.Cells)), (3, (iv t13.1.Side))] #[(iv t13.1.Sets), (iv t13.1.Fill), (iv t13.1.Cells), (iv t13.1.Side)] (fun fb => by kernel_rfl) (by kernel_rfl) rfl [1, 2] (by decide) (by decide) (fun w21 hS22 => ?_)
 refine ⟨trivial, ?_⟩
 refine sg 7 [] [1, 2, 3, 4] [(1, (sv A8 t3.1 c11)), (2, (iv t3.2)), (3, (pt g18)), (4, (iv t13.2))] (by kernel_rfl) ?_
 refine WL.done rfl (WX.next (WC.seq (WC.region ?_)))
 refine sg 3 [] [1, 3, 4, 15] [(1, (sv A8 t3.1 c11)), (3, (pt g18)), (4, (iv t13.2)), (15, (bv (t3.2 == 0)))] (by kernel_rfl) ?_
 refine WL.cutV (T := Bool) 6 (fun t => [(18, (bv t)), (1, (sv A8 t3.1 c11)), (3, (pt g18))]) (fun t => ((t3.2 == 0) && (t13.2 == 0)) = t) (fun K => ?_) ?_
 ·
  rcases Bool.eq_false_or_eq_true (t3.2 == 0) with h23 | h23
  ·
   refine WL.setB 15 h23 rfl ?_
   refine sg 6 [] [1, 3, 18] [(1, (sv A8 t3.1 c11)), (3, (pt g18)), (18, (bv (t13.2 == 0)))] (by kernel_rfl) ?_
   exact WL.toV K (t13.2 == 0) [18, 1, 3] rfl (by first | (rw [h23]; done) | (rw [h23]; rfl))
  refine WL.setB 15 h23 rfl ?_
  refine sg 6 [] [1, 3, 18] [(1, (sv A8 t3.1 c11)), (3, (pt g18)), (18, (bv false))] (by kernel_rfl) ?_
  exact WL.toV K false [18, 1, 3] rfl (by first | (rw [h23]; done) | (rw [h23]; rfl))
 rintro b24 rfl
 refine sg 7 [] [1, 3, 19] [(1, (sv A8 t3.1 c11)), (3, (pt g18)), (19, (bv ((t3.2 == 0) && (t13.2 == 0))))] (by kernel_rfl) ?_
 refine WL.cutV (T := Bool) 11 (fun t => [(23, (bv t)), (1, (sv A8 t3.1 c11)), (3, (pt g18))]) (fun t => (((t3.2 == 0) && (t13.2 == 0)) && ((t3.1.length : Int) == 4)) = t) (fun K => ?_) ?_
 ·
  rcases Bool.eq_false_or_eq_true ((t3.2 == 0) && (t13.2 == 0)) with h25 | h25
  ·
   refine WL.setB 19 h25 rfl ?_
   refine sg 11 [] [1, 3, 23] [(1, (sv A8 t3.1 c11)), (3, (pt g18)), (23, (bv ((t3.1.length : Int) == 4)))] (by kernel_rfl) ?_
   exact WL.toV K ((t3.1.length : Int) == 4) [23, 1, 3] rfl (by first | (rw [h25]; done) | (rw [h25]; rfl))
  refine WL.setB 19 h25 rfl ?_
  refine sg 11 [] [1, 3, 23] [(1, (sv A8 t3.1 c11)), (3, (pt g18)), (23, (bv false))] (by kernel_rfl) ?_
  exact WL.toV K false [23, 1, 3] rfl (by first | (rw [h25]; done) | (rw [h25]; rfl))
 rintro b26 rfl
 refine sg 12 [] [1, 3, 24] [(1, (sv A8 t3.1 c11)), (3, (pt g18)), (24, (bv (((t3.2 == 0) && (t13.2 == 0)) && ((t3.1.length : Int) == 4))))] (by kernel_rfl) ?_
 obtain ⟨x27, hx28, hf⟩ := bind_some hf
 refine WL.cutW (T := Bool) 19 (fun t => [(1, (sv A8 t3.1 c11)), (3, (pt g18)), (31, (bv t))]) (fun t w1 => (St NoS w w1 [] [rowO 28 (encSl Tile) A8 c11 (tag H12 t3.1), rowsO 48 enc_Tile H12 t3.1, blk g18 (.cells #[(iv t13.1.Sets), (iv t13.1.Fill), (iv t13.1.Cells), (iv t13.1.Side)] 34 (0, 0))] ∧ x27 = t) ∧ CellsOK [] w1) (fun K => ?_) ?_
 ·
  rcases br_some hx28 with ⟨h29, hx28⟩ | ⟨h29, hx28⟩
  ·
   refine WL.setB 24 h29 rfl ?_
   refine sg 13 [] [1, 3, 24, 25] [(1, (sv A8 t3.1 c11)), (3, (pt g18)), (24, (bv true)), (25, (sv A8 t3.1 c11))] (by kernel_rfl) ?_
   obtain ⟨h30, hx28⟩ := as_some hx28
   refine seg 16 [.v (sv ((H12 (1 : Int).toNat).1) (rdD t3.1 (1 : Int) []) ((H12 (1 : Int).toNat).2))] [1, 3, 24, 27, 28] [(1, (sv A8 t3.1 c11)), (3, (pt g18)), (24, (bv true)), (27, (sv ((H12 (1 : Int).toNat).1) (rdD t3.1 (1 : Int) []) ((H12 (1 : Int).toNat).2))), (28, (.agg #[(iv 0), (iv 0), (iv 0), (iv 1)]))] [.idx A8 (1 : Int) t3.1.length, .cell ((adr A8).add (((1 : Int)).toNat * 1)) (sv ((H12 (1 : Int).toNat).1) (rdD t3.1 (1 : Int) []) ((H12 (1 : Int).toNat).2))] (fun fb => by kernel_rfl) rfl ⟨nrow_adr (rowO.rd (hS22.own 1).1) h30.1 h30.2, nrow_cell (rowO.rd (hS22.own 1).1) [] h30.1 h30.2 0 rfl, trivial⟩ ?_
   refine WL.new hS22 29 [] (fun g => (.slice (some ⟨g, 0, none⟩) 1 1)) (.cells #[(iv 0), (iv 0), (iv 0), (iv 1)] 48 (0, 0)) [] (fun fb g => by kernel_rfl) trivial (fun g31 w32 hS33 => ?_)
   refine ⟨trivial, ?_⟩
   have hS34 := hS7.go w32 [rowO 48 enc_Tile (some ⟨g31, 0, none⟩) 1 [(Tile.mk 0 0 0 1)], blk g18 (.cells #[(iv t13.1.Sets), (iv t13.1.Fill), (iv t13.1.Cells), (iv t13.1.Side)] 34 (0, 0)), rowO 28 (encSl Tile) A8 c11 (tag H12 t3.1), rowsO 48 enc_Tile H12 t3.1] (hS33.map1 0 _ (fun h => rowO.ofBlk h rfl (Nat.le_of_ble_eq_true (by kernel_rfl))) (fun _ h => by obtain ⟨_, h1, h2⟩ := h; injection h1 with h1; subst h1; exact h2) [1, 2, 3] (by decide) (by decide))
   obtain ⟨t35, ht36, hx28⟩ := bind_some hx28
   refine WL.call (some 30) 13 #[(sv ((H12 (1 : Int).toNat).1) (rdD t3.1 (1 : Int) []) ((H12 (1 : Int).toNat).2)), (sv (some ⟨g31, 0, none⟩) [(Tile.mk 0 0 0 1)] 1)] (fun fb => by kernel_rfl) (ref01_SameSet_calls _ (rdD t3.1 (1 : Int) []) [(Tile.mk 0 0 0 1)] ((H12 (1 : Int).toNat).1) ((H12 (1 : Int).toNat).2) (some ⟨g31, 0, none⟩) 1 t35 _ (rowsO.ro (hS34.ow 3) h30.1 h30.2).ofO (hS34.ow 0).ofO ht36) (fun v w37 hR38 => ?_)
   obtain ⟨rfl, hk_⟩ := hR38
   have hS39 := hS34.keepN hk_
   refine ⟨trivial, ?_⟩
   refine sg 19 [] [1, 3, 31] [(1, (sv A8 t3.1 c11)), (3, (pt g18)), (31, (bv t35))] (by kernel_rfl) ?_
   injection hx28 with hx28
   exact WL.to K t35 [1, 3, 31] rfl ⟨⟨(hS39.subR []).sub [2, 3, 1] (by decide), hx28.symm⟩, trivial⟩
  refine WL.setB 24 h29 rfl ?_
  refine sg 19 [] [1, 3, 31] [(1, (sv A8 t3.1 c11)), (3, (pt g18)), (31, (bv false))] (by kernel_rfl) ?_
  injection hx28 with hx28
  exact WL.to K false [1, 3, 31] rfl ⟨⟨(hS22.subR []).sub [1, 2, 0] (by decide), hx28.symm⟩, trivial⟩
 rintro y40 w42 ⟨⟨hS43, hq41⟩, hF44⟩
 subst hq41
 refine sg 20 [] [1, 3, 32] [(1, (sv A8 t3.1 c11)), (3, (pt g18)), (32, (bv x27))] (by kernel_rfl) ?_
 obtain ⟨x45, hx46, hf⟩ := bind_some hf
 refine WL.cutW (T := Bool) 27 (fun t => [(3, (pt g18)), (39, (bv t))]) (fun t w1 => (St NoS w w1 [] [blk g18 (.cells #[(iv t13.1.Sets), (iv t13.1.Fill), (iv t13.1.Cells), (iv t13.1.Side)] 34 (0, 0))] ∧ x45 = t) ∧ CellsOK [] w1) (fun K => ?_) ?_
 ·
  rcases br_some hx46 with ⟨h47, hx46⟩ | ⟨h47, hx46⟩
  ·
   refine WL.setB 32 h47 rfl ?_
   refine sg 21 [] [3, 32, 33] [(3, (pt g18)), (32, (bv true)), (33, (sv A8 t3.1 c11))] (by kernel_rfl) ?_
   obtain ⟨h48, hx46⟩ := as_some hx46
   refine seg 24 [.v (sv ((H12 (2 : Int).toNat).1) (rdD t3.1 (2 : Int) []) ((H12 (2 : Int).toNat).2))] [3, 32, 35, 36] [(3, (pt g18)), (32, (bv true)), (35, (sv ((H12 (2 : Int).toNat).1) (rdD t3.1 (2 : Int) []) ((H12 (2 : Int).toNat).2))), (36, (.agg #[(iv 0), (iv 0), (iv 1), (iv 0)]))] [.idx A8 (2 : Int) t3.1.length, .cell ((adr A8).add (((2 : Int)).toNat * 1)) (sv ((H12 (2 : Int).toNat).1) (rdD t3.1 (2 : Int) []) ((H12 (2 : Int).toNat).2))] (fun fb => by kernel_rfl) rfl ⟨nrow_adr (rowO.rd (hS43.own 0).1) h48.1 h48.2, nrow_cell (rowO.rd (hS43.own 0).1) [] h48.1 h48.2 0 rfl, trivial⟩ ?_
   refine WL.new hS43 37 [] (fun g => (.slice (some ⟨g, 0, none⟩) 1 1)) (.cells #[(iv 0), (iv 0), (iv 1), (iv 0)] 48 (0, 0)) [] (fun fb g => by kernel_rfl) trivial (fun g49 w50 hS51 => ?_)
   refine ⟨trivial, ?_⟩
   have hS52 := hS7.go w50 [rowO 48 enc_Tile (some ⟨g49, 0, none⟩) 1 [(Tile.mk 0 0 1 0)], rowO 28 (encSl Tile) A8 c11 (tag H12 t3.1), rowsO 48 enc_Tile H12 t3.1, blk g18 (.cells #[(iv t13.1.Sets), (iv t13.1.Fill), (iv t13.1.Cells), (iv t13.1.Side)] 34 (0, 0))] (hS51.map1 0 _ (fun h => rowO.ofBlk h rfl (Nat.le_of_ble_eq_true (by kernel_rfl))) (fun _ h => by obtain ⟨_, h1, h2⟩ := h; injection h1 with h1; subst h1; exact h2) [1, 2, 3] (by decide) (by decide))
   obtain ⟨t53, ht54, hx46⟩ := bind_some hx46
   refine WL.call (some 38) 13 #[(sv ((H12 (2 : Int).toNat).1) (rdD t3.1 (2 : Int) []) ((H12 (2 : Int).toNat).2)), (sv (some ⟨g49, 0, none⟩) [(Tile.mk 0 0 1 0)] 1)] (fun fb => by kernel_rfl) (ref01_SameSet_calls _ (rdD t3.1 (2 : Int) []) [(Tile.mk 0 0 1 0)] ((H12 (2 : Int).toNat).1) ((H12 (2 : Int).toNat).2) (some ⟨g49, 0, none⟩) 1 t53 _ (rowsO.ro (hS52.ow 2) h48.1 h48.2).ofO (hS52.ow 0).ofO ht54) (fun v w55 hR56 => ?_)
   obtain ⟨rfl, hk_⟩ := hR56
   have hS57 := hS52.keepN hk_
   refine ⟨trivial, ?_⟩
   refine sg 27 [] [3, 39] [(3, (pt g18)), (39, (bv t53))] (by kernel_rfl) ?_
   injection hx46 with hx46
   exact WL.to K t53 [3, 39] rfl ⟨⟨(hS57.subR []).sub [3] (by decide), hx46.symm⟩, trivial⟩
  refine WL.setB 32 h47 rfl ?_
  refine sg 27 [] [3, 39] [(3, (pt g18)), (39, (bv false))] (by kernel_rfl) ?_
  injection hx46 with hx46
  exact WL.to K false [3, 39] rfl ⟨⟨(hS43.subR []).sub [2] (by decide), hx46.symm⟩, trivial⟩
 rintro y58 w60 ⟨⟨hS61, hq59⟩, hF62⟩
 subst hq59
 refine sg 28 [] [3, 40] [(3, (pt g18)), (40, (bv x45))] (by kernel_rfl) ?_
 refine WL.cutV (T := Bool) 32 (fun t => [(44, (bv t))]) (fun t => (x45 && (t13.1.Sets == 4 && (t13.1.Fill == 1 && (t13.1.Cells == 1 && (t13.1.Side == 2))))) = t) (fun K => ?_) ?_
 ·
  rcases Bool.eq_false_or_eq_true x45 with h63 | h63
  ·
   refine WL.setB 40 h63 rfl ?_
   refine seg 32 [.v (iv t13.1.Sets), .v (iv t13.1.Fill), .v (iv t13.1.Cells), .v (iv t13.1.Side)] [44] [(44, (bv (t13.1.Sets == 4 && (t13.1.Fill == 1 && (t13.1.Cells == 1 && (t13.1.Side == 2))))))] [.cell ⟨g18, 0, none⟩ (iv t13.1.Sets), .cell ⟨g18, 1, none⟩ (iv t13.1.Fill), .cell ⟨g18, 2, none⟩ (iv t13.1.Cells), .cell ⟨g18, 3, none⟩ (iv t13.1.Side)] (fun fb => by kernel_rfl) rfl ⟨hS61.cell 0 rfl 0 rfl, hS61.cell 0 rfl 1 rfl, hS61.cell 0 rfl 2 rfl, hS61.cell 0 rfl 3 rfl, trivial⟩ ?_
   exact WL.toV K (t13.1.Sets == 4 && (t13.1.Fill == 1 && (t13.1.Cells == 1 && (t13.1.Side == 2)))) [44] rfl (by first | (rw [h63]; done) | (rw [h63]; rfl))
  refine WL.setB 40 h63 rfl ?_
  refine sg 32 [] [44] [(44, (bv false))] (by kernel_rfl) ?_
  exact WL.toV K false [44] rfl (by first | (rw [h63]; done) | (rw [h63]; rfl))
 rintro b65 rfl
 refine sg 33 [] [0] [(0, (bv (x45 && (t13.1.Sets == 4 && (t13.1.Fill == 1 && (t13.1.Cells == 1 && (t13.1.Side == 2)))))))] (by kernel_rfl) ?_
 refine WL.done rfl (WX.next ?_)
 refine WC.ret ?_
 injection hf with hf
 subst hf
 exact WX.ret_ [] (bv (x45 && (t13.1.Sets == 4 && (t13.1.Fill == 1 && (t13.1.Cells == 1 && (t13.1.Side == 2)))))) [] (fun fb => by kernel_rfl) trivial ⟨_, rfl, rfl, hS61.keep⟩
theorem decide_Fills_calls (k : Nat) (p0 : List Tile) (Aa : Option Addr) (ca : Nat) (r : Bool × Int) (w : World) (hR0 : RO NoS w (rowR enc_Tile Aa ca p0)) (hf : decide_Fills k p0 = some r) :
  CallsR Try.prog 19 #[(sv Aa p0 ca)] w (fun v w' => v = (.tuple #[(bv r.1), (iv r.2)]) ∧ Keeps NoS w w') := by
 have hS : St NoS w w [rowR enc_Tile Aa ca p0] [] := St.init (ro_cons hR0 (ro_nil _ _))
 refine enter 14 Try.func19 rfl Try.ntmps19 rfl ?_
 unfold decide_Fills at hf
 refine WC.seq (WC.region ?_)
 refine sg 2 [] [0] [(0, (sv Aa p0 ca))] (by kernel_rfl) ?_
 refine WL.done rfl (WX.next (WC.seq (WC.region ?_)))
 refine sg 1 [] [7] [(7, (sv Aa p0 ca))] (by kernel_rfl) ?_
 obtain ⟨t3, ht4, hf⟩ := bind_some hf
 refine WL.call (some 8) 17 #[(sv Aa p0 ca)] (fun fb => by kernel_rfl) (decide_Decide_calls _ p0 Aa ca t3 _ (hS.rd 0) ht4) (fun v w5 hR6 => ?_)
 obtain ⟨A8, c9, rfl, hk_⟩ := hR6
 have hS7 := hS.go w5 [rowO 3 encInt A8 c9 t3.1.Torus.Cells] (hS.call hk_ [] [] (fun g hg => hg.elim) (by simp) (by decide))
 refine ⟨trivial, ?_⟩
 refine sg 5 [] [9, 10] [(9, (.agg #[(bv t3.1.Fills), (iv t3.1.Torus.Width), (iv t3.1.Torus.Height), (sv A8 t3.1.Torus.Cells c9), (iv t3.1.Side)])), (10, (iv t3.2))] (by kernel_rfl) ?_
 refine WL.new hS7 4 [] (fun g => (pt g)) (.cells #[(bv false), (iv 0), (iv 0), (.slice none 0 0), (iv 0)] 41 (0, 0)) [] (fun fb g => by kernel_rfl) trivial (fun g10 w11 hS12 => ?_)
 refine ⟨trivial, ?_⟩
 refine WL.store hS12 0 rfl [(0, (bv t3.1.Fills)), (1, (iv t3.1.Torus.Width)), (2, (iv t3.1.Torus.Height)), (3, (sv A8 t3.1.Torus.Cells c9)), (4, (iv t3.1.Side))] #[(bv t3.1.Fills), (iv t3.1.Torus.Width), (iv t3.1.Torus.Height), (sv A8 t3.1.Torus.Cells c9), (iv t3.1.Side)] (fun fb => by kernel_rfl) (by kernel_rfl) rfl [1] (by decide) (by decide) (fun w13 hS14 => ?_)
 refine ⟨trivial, ?_⟩
 refine sg 8 [] [4, 5] [(4, (pt g10)), (5, (iv t3.2))] (by kernel_rfl) ?_
 refine WL.done rfl (WX.next (WC.seq (WC.region ?_)))
 refine seg 5 [.v (bv t3.1.Fills)] [2, 3] [(2, (bv t3.1.Fills)), (3, (iv t3.2))] [.cell ⟨g10, 0, none⟩ (bv t3.1.Fills)] (fun fb => by kernel_rfl) rfl ⟨hS14.cell 0 rfl 0 rfl, trivial⟩ ?_
 refine WL.done rfl (WX.next ?_)
 refine WC.ret ?_
 injection hf with hf
 subst hf
 exact WX.ret_ [] (.tuple #[(bv t3.1.Fills), (iv t3.2)]) [] (fun fb => by kernel_rfl) trivial ⟨_, rfl, rfl, hS14.keep⟩
theorem law10_CensusMember_calls (k : Nat) (p0 : List Tile) (Aa : Option Addr) (ca : Nat) (r : Bool) (w : World) (hR0 : RO NoS w (rowR enc_Tile Aa ca p0)) (hf : law10_CensusMember k p0 = some r) :
  CallsR Try.prog 6 #[(sv Aa p0 ca)] w (fun v w' => v = (bv r) ∧ Keeps NoS w w') := by
 have hS : St NoS w w [rowR enc_Tile Aa ca p0] [] := St.init (ro_cons hR0 (ro_nil _ _))
 refine enter 73 Try.func6 rfl Try.ntmps6 rfl ?_
 unfold law10_CensusMember at hf
 refine WC.seq (WC.region ?_)
 refine sg 1 [] [0] [(0, (sv Aa p0 ca))] (by kernel_rfl) ?_
 refine WL.done rfl (WX.next (WC.seq (WC.region ?_)))
 refine sg 1 [] [0, 14] [(0, (sv Aa p0 ca)), (14, (sv Aa p0 ca))] (by kernel_rfl) ?_
 obtain ⟨t3, ht4, hf⟩ := bind_some hf
 refine WL.call (some 15) 18 #[(sv Aa p0 ca)] (fun fb => by kernel_rfl) (census_Canon_calls _ p0 Aa ca t3 _ (hS.rd 0) ht4) (fun v w5 hR7 => ?_)
 obtain ⟨A9, c11, rfl, hk_⟩ := hR7
 have hS8 := hS.go w5 [rowO 48 enc_Tile A9 c11 t3.1] (hS.call hk_ [] [] (fun g hg => hg.elim) (by simp) (by decide))
 refine ⟨trivial, ?_⟩
 refine sg 7 [] [0, 3, 4] [(0, (sv Aa p0 ca)), (3, (sv A9 t3.1 c11)), (4, (iv t3.2))] (by kernel_rfl) ?_
 refine WL.done rfl (WX.next (WC.seq (WC.seq (WC.region ?_))))
 refine sg 2 [] [0, 3, 19] [(0, (sv Aa p0 ca)), (3, (sv A9 t3.1 c11)), (19, (bv (t3.2 != 0)))] (by kernel_rfl) ?_
 refine WL.done rfl (WX.next ?_)
 rcases br_some hf with ⟨h12, hf⟩ | ⟨h12, hf⟩
 ·refine WC.condT2 (fun fb => by kernel_rfl) h12 ?_
  refine WC.seq (WC.region ?_)
  obtain ⟨t13, ht14, hf⟩ := bind_some hf
  refine WL.call (some 20) 9 #[] (fun fb => by kernel_rfl) (law10_awake_calls _ t13 _ ht14) (fun v w15 hR16 => ?_)
  obtain ⟨rfl, hk_⟩ := hR16
  have hS17 := hS8.keepN hk_
  refine ⟨trivial, ?_⟩
  refine sg 2 [] [2] [(2, (bv t13))] (by kernel_rfl) ?_
  refine WL.done rfl (WX.next ?_)
  refine WC.ret ?_
  injection hf with hf
  subst hf
  exact WX.thenR (WX.ret_ [] (bv t13) [] (fun fb => by kernel_rfl) trivial ⟨_, rfl, rfl, hS17.keep⟩)
 refine WC.condF2 (fun fb => by kernel_rfl) h12 ?_
 refine WC.skip (WX.next (WC.seq (WC.region ?_)))
 refine sg 2 [] [0, 3, 23] [(0, (sv Aa p0 ca)), (3, (sv A9 t3.1 c11)), (23, (iv (p0.length : Int)))] (by kernel_rfl) ?_
 obtain ⟨t18, ht19, hf⟩ := bind_some hf
 refine WL.call (some 24) 8 #[(iv (p0.length : Int))] (fun fb => by kernel_rfl) (census_All_calls _ (p0.length : Int) t18 _ ht19) (fun v w20 hR21 => ?_)
 obtain ⟨A23, c24, H25, rfl, hk_⟩ := hR21
 have hS22 := hS8.go w20 [rowO 28 (encSl Tile) A23 c24 (tag H25 t18.1), rowsO 48 enc_Tile H25 t18.1, rowO 48 enc_Tile A9 c11 t3.1] (hS8.call hk_ [] [0] (fun g hg => hg.elim) (by simp) (by decide))
 refine ⟨trivial, ?_⟩
 refine sg 8 [] [0, 3, 5, 6] [(0, (sv Aa p0 ca)), (3, (sv A9 t3.1 c11)), (5, (sv A23 t18.1 c24)), (6, (iv t18.2))] (by kernel_rfl) ?_
 refine WL.done rfl (WX.next (WC.seq (WC.region ?_)))
 refine sg 1 [] [3, 5, 6, 28] [(3, (sv A9 t3.1 c11)), (5, (sv A23 t18.1 c24)), (6, (iv t18.2)), (28, (sv Aa p0 ca))] (by kernel_rfl) ?_
 obtain ⟨t26, ht27, hf⟩ := bind_some hf
 refine WL.call (some 29) 19 #[(sv Aa p0 ca)] (fun fb => by kernel_rfl) (decide_Fills_calls _ p0 Aa ca t26 _ (hS22.rd 0) ht27) (fun v w28 hR29 => ?_)
 obtain ⟨rfl, hk_⟩ := hR29
 have hS30 := hS22.keepN hk_
 refine ⟨trivial, ?_⟩
 refine sg 7 [] [3, 5, 6, 7, 8] [(3, (sv A9 t3.1 c11)), (5, (sv A23 t18.1 c24)), (6, (iv t18.2)), (7, (bv t26.1)), (8, (iv t26.2))] (by kernel_rfl) ?_
 refine WL.done rfl (WX.next (WC.seq (WC.region ?_)))
 refine sg 1 [] [3, 5, 6, 7, 8, 33] [(3, (sv A9 t3.1 c11)), (5, (sv A23 t18.1 c24)), (6, (iv t18.2)), (7, (bv t26.1)), (8, (iv t26.2)), (33, (sv A9 t3.1 c11))] (by kernel_rfl) ?_
 obtain ⟨t31, ht32, hf⟩ := bind_some hf
 refine WL.call (some 34) 19 #[(sv A9 t3.1 c11)] (fun fb => by kernel_rfl) (decide_Fills_calls _ t3.1 A9 c11 t31 _ (hS30.ow 2).ofO ht32) (fun v w33 hR34 => ?_)
 obtain ⟨rfl, hk_⟩ := hR34
 have hS35 := hS30.keepN hk_
 refine ⟨trivial, ?_⟩
 refine sg 7 [] [3, 5, 6, 7, 8, 9, 10] [(3, (sv A9 t3.1 c11)), (5, (sv A23 t18.1 c24)), (6, (iv t18.2)), (7, (bv t26.1)), (8, (iv t26.2)), (9, (bv t31.1)), (10, (iv t31.2))] (by kernel_rfl) ?_
 refine WL.done rfl (WX.next (WC.seq (WC.region ?_)))
 refine sg 1 [] [3, 5, 6, 7, 8, 9, 10, 11] [(3, (sv A9 t3.1 c11)), (5, (sv A23 t18.1 c24)), (6, (iv t18.2)), (7, (bv t26.1)), (8, (iv t26.2)), (9, (bv t31.1)), (10, (iv t31.2)), (11, (iv 0))] (by kernel_rfl) ?_
 refine WL.done rfl (WX.next (WC.seq (WC.seq (WC.region ?_))))
 refine sg 1 [] [3, 5, 6, 7, 8, 9, 10, 11, 12] [(3, (sv A9 t3.1 c11)), (5, (sv A23 t18.1 c24)), (6, (iv t18.2)), (7, (bv t26.1)), (8, (iv t26.2)), (9, (bv t31.1)), (10, (iv t31.2)), (11, (iv 0)), (12, (iv 0))] (by kernel_rfl) ?_
 refine WL.done rfl (WX.next ?_)
 obtain ⟨x38, hx39, hf⟩ := bind_some hf
 refine WC.cutN (T := Int) (fun t => [(6, (iv t18.2)), (7, (bv t26.1)), (8, (iv t26.2)), (9, (bv t31.1)), (10, (iv t31.2)), (11, (iv t))]) (fun t w1 => St NoS w w1 [rowR enc_Tile Aa ca p0] [] ∧ x38 = t) (fun Kx38 => ?_) ?_
 ·
  refine WC.block ?_
  refine WC.loop (T := Int × Int) (fun t => [(3, (sv A9 t3.1 c11)), (5, (sv A23 t18.1 c24)), (6, (iv t18.2)), (7, (bv t26.1)), (8, (iv t26.2)), (9, (bv t31.1)), (10, (iv t31.2)), (11, (iv t.1)), (12, (iv t.2))]) (fun n t w1 => St NoS w w1 [rowR enc_Tile Aa ca p0] [rowO 48 enc_Tile A9 c11 t3.1, rowO 28 (encSl Tile) A23 c24 (tag H25 t18.1), rowsO 48 enc_Tile H25 t18.1] ∧ law10_CensusMember.l0 n t.1 t.2 t3 t18 = some x38) k (0, 0) [3, 5, 6, 7, 8, 9, 10, 11, 12] rfl ⟨(hS35.subR [0]).sub [2, 0, 1] (by decide), hx39⟩ ?_
  rintro k40 ⟨x36, x37⟩ w41 ⟨hS42, hl43⟩
  cases k40 with
  | zero => rw [law10_CensusMember.l0] at hl43; cases hl43
  | succ k40 =>
   rw [law10_CensusMember.l0] at hl43
   refine WC.seq (WC.seq (WC.region ?_))
   refine sg 4 [] [3, 5, 6, 7, 8, 9, 10, 11, 12, 40] [(3, (sv A9 t3.1 c11)), (5, (sv A23 t18.1 c24)), (6, (iv t18.2)), (7, (bv t26.1)), (8, (iv t26.2)), (9, (bv t31.1)), (10, (iv t31.2)), (11, (iv x36)), (12, (iv x37)), (40, (bv (decide (x37 < (t18.1.length : Int)))))] (by kernel_rfl) ?_
   refine WL.done rfl (WX.next ?_)
   rcases br_some hl43 with ⟨h44, hl43⟩ | ⟨h44, hl43⟩
   ·refine WC.condT2 (fun fb => by kernel_rfl) h44 ?_
    refine WC.skip (WX.next (WC.seq (WC.block (WC.seq (WC.region ?_)))))
    refine sg 2 [] [3, 5, 6, 7, 8, 9, 10, 11, 12, 43, 44] [(3, (sv A9 t3.1 c11)), (5, (sv A23 t18.1 c24)), (6, (iv t18.2)), (7, (bv t26.1)), (8, (iv t26.2)), (9, (bv t31.1)), (10, (iv t31.2)), (11, (iv x36)), (12, (iv x37)), (43, (sv A23 t18.1 c24)), (44, (iv x37))] (by kernel_rfl) ?_
    obtain ⟨h45, hl43⟩ := as_some hl43
    refine seg 5 [.v (sv ((H25 x37.toNat).1) (rdD t18.1 x37 []) ((H25 x37.toNat).2))] [3, 5, 6, 7, 8, 9, 10, 11, 12, 46, 47] [(3, (sv A9 t3.1 c11)), (5, (sv A23 t18.1 c24)), (6, (iv t18.2)), (7, (bv t26.1)), (8, (iv t26.2)), (9, (bv t31.1)), (10, (iv t31.2)), (11, (iv x36)), (12, (iv x37)), (46, (sv ((H25 x37.toNat).1) (rdD t18.1 x37 []) ((H25 x37.toNat).2))), (47, (sv A9 t3.1 c11))] [.idx A23 x37 t18.1.length, .cell ((adr A23).add ((x37).toNat * 1)) (sv ((H25 x37.toNat).1) (rdD t18.1 x37 []) ((H25 x37.toNat).2))] (fun fb => by kernel_rfl) rfl ⟨nrow_adr (rowO.rd (hS42.own 1).1) h45.1 h45.2, nrow_cell (rowO.rd (hS42.own 1).1) [] h45.1 h45.2 0 rfl, trivial⟩ ?_
    obtain ⟨t46, ht47, hl43⟩ := bind_some hl43
    refine WL.call (some 48) 13 #[(sv ((H25 x37.toNat).1) (rdD t18.1 x37 []) ((H25 x37.toNat).2)), (sv A9 t3.1 c11)] (fun fb => by kernel_rfl) (ref01_SameSet_calls _ (rdD t18.1 x37 []) t3.1 ((H25 x37.toNat).1) ((H25 x37.toNat).2) A9 c11 t46 _ (rowsO.ro (hS42.ow 2) h45.1 h45.2).ofO (hS42.ow 0).ofO ht47) (fun v w48 hR49 => ?_)
    obtain ⟨rfl, hk_⟩ := hR49
    have hS50 := hS42.keepN hk_
    refine ⟨trivial, ?_⟩
    refine WL.done rfl (WX.next ?_)
    obtain ⟨x51, hx52, hl43⟩ := bind_some hl43
    refine WC.cutN (T := Int) (fun t => [(3, (sv A9 t3.1 c11)), (5, (sv A23 t18.1 c24)), (6, (iv t18.2)), (7, (bv t26.1)), (8, (iv t26.2)), (9, (bv t31.1)), (10, (iv t31.2)), (11, (iv t)), (12, (iv x37))]) (fun t w1 => St NoS w w1 [rowR enc_Tile Aa ca p0] [rowO 48 enc_Tile A9 c11 t3.1, rowO 28 (encSl Tile) A23 c24 (tag H25 t18.1), rowsO 48 enc_Tile H25 t18.1] ∧ x51 = t) (fun Kx51 => ?_) ?_
    ·
     rcases br_some hx52 with ⟨h53, hx52⟩ | ⟨h53, hx52⟩
     ·refine WC.condT2 (fun fb => by kernel_rfl) h53 ?_
      refine WC.region ?_
      refine sg 3 [] [3, 5, 6, 7, 8, 9, 10, 11, 12] [(3, (sv A9 t3.1 c11)), (5, (sv A23 t18.1 c24)), (6, (iv t18.2)), (7, (bv t26.1)), (8, (iv t26.2)), (9, (bv t31.1)), (10, (iv t31.2)), (11, (iv (w64 (x36 + 1)))), (12, (iv x37))] (by kernel_rfl) ?_
      refine WL.done rfl ?_
      injection hx52 with hx52
      exact WX.to Kx51 (w64 (x36 + 1)) [3, 5, 6, 7, 8, 9, 10, 11, 12] rfl ⟨(hS50.subR [0]).sub [0, 1, 2] (by decide), hx52.symm⟩
     refine WC.condF2 (fun fb => by kernel_rfl) h53 ?_
     refine WC.skip ?_
     injection hx52 with hx52
     exact WX.to Kx51 x36 [3, 5, 6, 7, 8, 9, 10, 11, 12] rfl ⟨(hS50.subR [0]).sub [0, 1, 2] (by decide), hx52.symm⟩
    rintro y57 w54 ⟨hS55, hq56⟩
    subst hq56
    refine WX.blockN (WX.next ?_)
    refine WC.region ?_
    refine sg 3 [] [3, 5, 6, 7, 8, 9, 10, 11, 12] [(3, (sv A9 t3.1 c11)), (5, (sv A23 t18.1 c24)), (6, (iv t18.2)), (7, (bv t26.1)), (8, (iv t26.2)), (9, (bv t31.1)), (10, (iv t31.2)), (11, (iv x51)), (12, (iv (w64 (x37 + 1))))] (by kernel_rfl) ?_
    refine WL.done rfl ?_
    exact WX.again k40 (Nat.lt_succ_self _) (x51, w64 (x37 + 1)) [3, 5, 6, 7, 8, 9, 10, 11, 12] rfl ⟨(hS55.subR [0]).sub [0, 1, 2] (by decide), hl43⟩
   refine WC.condF2 (fun fb => by kernel_rfl) h44 ?_
   refine WC.exit ?_
   injection hl43 with hl43
   exact WX.thenX (WX.thenX (WX.blockHere (WX.to Kx38 x36 [6, 7, 8, 9, 10, 11] rfl ⟨(hS42.subR [0]).sub [] (by decide), hl43.symm⟩)))
 rintro y61 w58 ⟨hS59, hq60⟩
 subst hq60
 refine WX.next (WC.seq (WC.region ?_))
 refine sg 3 [] [7, 8, 9, 10, 11, 53] [(7, (bv t26.1)), (8, (iv t26.2)), (9, (bv t31.1)), (10, (iv t31.2)), (11, (iv x38)), (53, (bv (t18.2 == 0)))] (by kernel_rfl) ?_
 refine WL.cutV (T := Bool) 6 (fun t => [(56, (bv t)), (7, (bv t26.1)), (9, (bv t31.1)), (10, (iv t31.2)), (11, (iv x38))]) (fun t => ((t18.2 == 0) && (t26.2 == 0)) = t) (fun K => ?_) ?_
 ·
  rcases Bool.eq_false_or_eq_true (t18.2 == 0) with h62 | h62
  ·
   refine WL.setB 53 h62 rfl ?_
   refine sg 6 [] [7, 9, 10, 11, 56] [(7, (bv t26.1)), (9, (bv t31.1)), (10, (iv t31.2)), (11, (iv x38)), (56, (bv (t26.2 == 0)))] (by kernel_rfl) ?_
   exact WL.toV K (t26.2 == 0) [56, 7, 9, 10, 11] rfl (by first | (rw [h62]; done) | (rw [h62]; rfl))
  refine WL.setB 53 h62 rfl ?_
  refine sg 6 [] [7, 9, 10, 11, 56] [(7, (bv t26.1)), (9, (bv t31.1)), (10, (iv t31.2)), (11, (iv x38)), (56, (bv false))] (by kernel_rfl) ?_
  exact WL.toV K false [56, 7, 9, 10, 11] rfl (by first | (rw [h62]; done) | (rw [h62]; rfl))
 rintro b63 rfl
 refine sg 7 [] [7, 9, 10, 11, 57] [(7, (bv t26.1)), (9, (bv t31.1)), (10, (iv t31.2)), (11, (iv x38)), (57, (bv ((t18.2 == 0) && (t26.2 == 0))))] (by kernel_rfl) ?_
 refine WL.cutV (T := Bool) 10 (fun t => [(60, (bv t)), (7, (bv t26.1)), (9, (bv t31.1)), (11, (iv x38))]) (fun t => (((t18.2 == 0) && (t26.2 == 0)) && (t31.2 == 0)) = t) (fun K => ?_) ?_
 ·
  rcases Bool.eq_false_or_eq_true ((t18.2 == 0) && (t26.2 == 0)) with h65 | h65
  ·
   refine WL.setB 57 h65 rfl ?_
   refine sg 10 [] [7, 9, 11, 60] [(7, (bv t26.1)), (9, (bv t31.1)), (11, (iv x38)), (60, (bv (t31.2 == 0)))] (by kernel_rfl) ?_
   exact WL.toV K (t31.2 == 0) [60, 7, 9, 11] rfl (by first | (rw [h65]; done) | (rw [h65]; rfl))
  refine WL.setB 57 h65 rfl ?_
  refine sg 10 [] [7, 9, 11, 60] [(7, (bv t26.1)), (9, (bv t31.1)), (11, (iv x38)), (60, (bv false))] (by kernel_rfl) ?_
  exact WL.toV K false [60, 7, 9, 11] rfl (by first | (rw [h65]; done) | (rw [h65]; rfl))
 rintro b66 rfl
 refine sg 11 [] [7, 9, 11, 61] [(7, (bv t26.1)), (9, (bv t31.1)), (11, (iv x38)), (61, (bv (((t18.2 == 0) && (t26.2 == 0)) && (t31.2 == 0))))] (by kernel_rfl) ?_
 refine WL.cutV (T := Bool) 14 (fun t => [(64, (bv t)), (7, (bv t26.1)), (9, (bv t31.1))]) (fun t => ((((t18.2 == 0) && (t26.2 == 0)) && (t31.2 == 0)) && (x38 == 1)) = t) (fun K => ?_) ?_
 ·
  rcases Bool.eq_false_or_eq_true (((t18.2 == 0) && (t26.2 == 0)) && (t31.2 == 0)) with h67 | h67
  ·
   refine WL.setB 61 h67 rfl ?_
   refine sg 14 [] [7, 9, 64] [(7, (bv t26.1)), (9, (bv t31.1)), (64, (bv (x38 == 1)))] (by kernel_rfl) ?_
   exact WL.toV K (x38 == 1) [64, 7, 9] rfl (by first | (rw [h67]; done) | (rw [h67]; rfl))
  refine WL.setB 61 h67 rfl ?_
  refine sg 14 [] [7, 9, 64] [(7, (bv t26.1)), (9, (bv t31.1)), (64, (bv false))] (by kernel_rfl) ?_
  exact WL.toV K false [64, 7, 9] rfl (by first | (rw [h67]; done) | (rw [h67]; rfl))
 rintro b68 rfl
 refine sg 15 [] [7, 9, 65] [(7, (bv t26.1)), (9, (bv t31.1)), (65, (bv ((((t18.2 == 0) && (t26.2 == 0)) && (t31.2 == 0)) && (x38 == 1))))] (by kernel_rfl) ?_
 refine WL.cutV (T := Bool) 19 (fun t => [(69, (bv t))]) (fun t => (((((t18.2 == 0) && (t26.2 == 0)) && (t31.2 == 0)) && (x38 == 1)) && (t26.1 == t31.1)) = t) (fun K => ?_) ?_
 ·
  rcases Bool.eq_false_or_eq_true ((((t18.2 == 0) && (t26.2 == 0)) && (t31.2 == 0)) && (x38 == 1)) with h69 | h69
  ·
   refine WL.setB 65 h69 rfl ?_
   refine sg 19 [] [69] [(69, (bv (t26.1 == t31.1)))] (by kernel_rfl) ?_
   exact WL.toV K (t26.1 == t31.1) [69] rfl (by first | (rw [h69]; done) | (rw [h69]; rfl))
  refine WL.setB 65 h69 rfl ?_
  refine sg 19 [] [69] [(69, (bv false))] (by kernel_rfl) ?_
  exact WL.toV K false [69] rfl (by first | (rw [h69]; done) | (rw [h69]; rfl))
 rintro b70 rfl
 refine sg 20 [] [70] [(70, (bv (((((t18.2 == 0) && (t26.2 == 0)) && (t31.2 == 0)) && (x38 == 1)) && (t26.1 == t31.1))))] (by kernel_rfl) ?_
 obtain ⟨x71, hx72, hf⟩ := bind_some hf
 refine WL.cutW (T := Bool) 22 (fun t => [(72, (bv t))]) (fun t w1 => (St NoS w w1 [rowR enc_Tile Aa ca p0] [] ∧ x71 = t) ∧ CellsOK [] w1) (fun K => ?_) ?_
 ·
  rcases br_some hx72 with ⟨h73, hx72⟩ | ⟨h73, hx72⟩
  ·
   refine WL.setB 70 h73 rfl ?_
   obtain ⟨t74, ht75, hx72⟩ := bind_some hx72
   refine WL.call (some 71) 9 #[] (fun fb => by kernel_rfl) (law10_awake_calls _ t74 _ ht75) (fun v w76 hR77 => ?_)
   obtain ⟨rfl, hk_⟩ := hR77
   have hS78 := hS59.keepN hk_
   refine ⟨trivial, ?_⟩
   refine sg 22 [] [72] [(72, (bv t74))] (by kernel_rfl) ?_
   injection hx72 with hx72
   exact WL.to K t74 [72] rfl ⟨⟨(hS78.subR [0]).sub [] (by decide), hx72.symm⟩, trivial⟩
  refine WL.setB 70 h73 rfl ?_
  refine sg 22 [] [72] [(72, (bv false))] (by kernel_rfl) ?_
  injection hx72 with hx72
  exact WL.to K false [72] rfl ⟨⟨(hS59.subR [0]).sub [] (by decide), hx72.symm⟩, trivial⟩
 rintro y79 w81 ⟨⟨hS82, hq80⟩, hF83⟩
 subst hq80
 refine sg 23 [] [2] [(2, (bv x71))] (by kernel_rfl) ?_
 refine WL.done rfl (WX.next ?_)
 refine WC.ret ?_
 injection hf with hf
 subst hf
 exact WX.ret_ [] (bv x71) [] (fun fb => by kernel_rfl) trivial ⟨_, rfl, rfl, hS82.keep⟩
end Gp
