/- Walks: each function of the program computes its plain function. -/
import Derived.Test.YtpbnoldflfcllaaGx3
set_option linter.unusedVariables false
set_option linter.unusedSimpArgs false
set_option maxHeartbeats 4000000
set_option maxRecDepth 8000
namespace Gp
open Go Gw Go.Proofs
theorem law10_awake_calls (k : Nat)   (r : Bool) (w : World)  (hf : law10_awake k = some r) :
  CallsR Try.prog 9 #[] w (fun v w' => v = (bv r) ∧ Keeps NoS w w') := by
 have hS : St NoS w w [] [] := St.init (ro_nil _ _)
 refine enter 45 Try.func9 rfl Try.ntmps9 rfl ?_
 unfold law10_awake at hf
 refine WC.seq (WC.region ?_)
 refine sg 1 [] [] [] (by kernel_rfl) ?_
 refine WL.done rfl (WX.next (WC.seq (WC.region ?_)))
 obtain ⟨t3, ht4, hf⟩ := bind_some hf
 refine WL.call (some 6) 8 #[(iv 1)] (fun fb => by kernel_rfl) (census_All_calls _ 1 t3 _ ht4) (fun v w5 hR6 => ?_)
 obtain ⟨A8, c11, H12, rfl, hk_⟩ := hR6
 have hS7 := hS.go w5 [rowO 28 (encSl Tile) A8 c11 (tag H12 t3.1), rowsO 48 enc_Tile H12 t3.1] (hS.call hk_ [] [] (fun g hg => hg.elim) (by simp) (by decide))
 refine ⟨trivial, ?_⟩
 refine sg 6 [] [1, 2] [(1, (sv A8 t3.1 c11)), (2, (iv t3.2))] (by kernel_rfl) ?_
 refine WL.done rfl (WX.next (WC.seq (WC.region ?_)))
 obtain ⟨t13, ht14, hf⟩ := bind_some hf
 refine WL.call (some 10) 16 #[(iv 1)] (fun fb => by kernel_rfl) (census_Count_calls _ 1 t13 _ ht14) (fun v w15 hR16 => ?_)
 obtain ⟨rfl, hk_⟩ := hR16
 have hS17 := hS7.keepN hk_
 refine ⟨trivial, ?_⟩
 refine sg 4 [] [1, 2, 11, 12] [(1, (sv A8 t3.1 c11)), (2, (iv t3.2)), (11, (.agg #[(iv t13.1.Sets), (iv t13.1.Fill), (iv t13.1.Cells), (iv t13.1.Side)])), (12, (iv t13.2))] (by kernel_rfl) ?_
 refine WL.new hS17 3 [] (fun g => (pt g)) (.cells #[(iv 0), (iv 0), (iv 0), (iv 0)] 34 (0, 0)) [] (fun fb g => by kernel_rfl) trivial (fun g18 w19 hS20 => ?_)
 refine ⟨trivial, ?_⟩
 refine WL.store hS20 0 rfl [(0, (iv t13.1.Sets)), (1, (iv t13.1.Fill)), (2, (iv t13.1.Cells)), (3, (iv t13.1.Side))] #[(iv t13.1.Sets), (iv t13.1.Fill), (iv t13.1.Cells), (iv t13.1.Side)] (fun fb => by kernel_rfl) (by kernel_rfl) rfl [1, 2] (by decide) (by decide) (fun w21 hS22 => ?_)
 refine ⟨trivial, ?_⟩
 refine sg 7 [] [1, 2, 3, 4] [(1, (sv A8 t3.1 c11)), (2, (iv t3.2)), (3, (pt g18)), (4, (iv t13.2))] (by kernel_rfl) ?_
 refine WL.done rfl (WX.next (WC.seq (WC.region ?_)))
 refine sg 3 [] [1, 3, 4, 15] [(1, (sv A8 t3.1 c11)), (3, (pt g18)), (4, (iv t13.2)), (15, (bv (t3.2 == 0)))] (by kernel_rfl) ?_
 refine WL.cutV (T := Bool) 6 (fun t => [(18, (bv t)), (1, (sv A8 t3.1 c11)), (3, (pt g18))]) (fun t => ((t3.2 == 0) && (t13.2 == 0)) = t) (fun K => ?_) ?_
 ·
  rcases Bool.eq_false_or_eq_true (t3.2 == 0) with h23 | h23
  ·
   refine WL.setB 15 h23 rfl ?_
   refine sg 6 [] [1, 3, 18] [(1, (sv A8 t3.1 c11)), (3, (pt g18)), (18, (bv (t13.2 == 0)))] (by kernel_rfl) ?_
   exact WL.toV K (t13.2 == 0) [18, 1, 3] rfl (by first | (rw [h23]; done) | (rw [h23]; rfl))
  refine WL.setB 15 h23 rfl ?_
  refine sg 6 [] [1, 3, 18] [(1, (sv A8 t3.1 c11)), (3, (pt g18)), (18, (bv false))] (by kernel_rfl) ?_
  exact WL.toV K false [18, 1, 3] rfl (by first | (rw [h23]; done) | (rw [h23]; rfl))
 rintro b24 rfl
 refine sg 7 [] [1, 3, 19] [(1, (sv A8 t3.1 c11)), (3, (pt g18)), (19, (bv ((t3.2 == 0) && (t13.2 == 0))))] (by kernel_rfl) ?_
 refine WL.cutV (T := Bool) 11 (fun t => [(23, (bv t)), (1, (sv A8 t3.1 c11)), (3, (pt g18))]) (fun t => (((t3.2 == 0) && (t13.2 == 0)) && ((t3.1.length : Int) == 4)) = t) (fun K => ?_) ?_
 ·
  rcases Bool.eq_false_or_eq_true ((t3.2 == 0) && (t13.2 == 0)) with h25 | h25
  ·
   refine WL.setB 19 h25 rfl ?_
   refine sg 11 [] [1, 3, 23] [(1, (sv A8 t3.1 c11)), (3, (pt g18)), (23, (bv ((t3.1.length : Int) == 4)))] (by kernel_rfl) ?_
   exact WL.toV K ((t3.1.length : Int) == 4) [23, 1, 3] rfl (by first | (rw [h25]; done) | (rw [h25]; rfl))
  refine WL.setB 19 h25 rfl ?_
  refine sg 11 [] [1, 3, 23] [(1, (sv A8 t3.1 c11)), (3, (pt g18)), (23, (bv false))] (by kernel_rfl) ?_
  exact WL.toV K false [23, 1, 3] rfl (by first | (rw [h25]; done) | (rw [h25]; rfl))
 rintro b26 rfl
 refine sg 12 [] [1, 3, 24] [(1, (sv A8 t3.1 c11)), (3, (pt g18)), (24, (bv (((t3.2 == 0) && (t13.2 == 0)) && ((t3.1.length : Int) == 4))))] (by kernel_rfl) ?_
 obtain ⟨x27, hx28, hf⟩ := bind_some hf
 refine WL.cutW (T := Bool) 19 (fun t => [(1, (sv A8 t3.1 c11)), (3, (pt g18)), (31, (bv t))]) (fun t w1 => (St NoS w w1 [] [rowO 28 (encSl Tile) A8 c11 (tag H12 t3.1), rowsO 48 enc_Tile H12 t3.1, blk g18 (.cells #[(iv t13.1.Sets), (iv t13.1.Fill), (iv t13.1.Cells), (iv t13.1.Side)] 34 (0, 0))] ∧ x27 = t) ∧ CellsOK [] w1) (fun K => ?_) ?_
 ·
  rcases br_some hx28 with ⟨h29, hx28⟩ | ⟨h29, hx28⟩
  ·
   refine WL.setB 24 h29 rfl ?_
   refine sg 13 [] [1, 3, 24, 25] [(1, (sv A8 t3.1 c11)), (3, (pt g18)), (24, (bv true)), (25, (sv A8 t3.1 c11))] (by kernel_rfl) ?_
   obtain ⟨h30, hx28⟩ := as_some hx28
   refine seg 16 [.v (sv ((H12 (1 : Int).toNat).1) (rdD t3.1 (1 : Int) []) ((H12 (1 : Int).toNat).2))] [1, 3, 24, 27, 28] [(1, (sv A8 t3.1 c11)), (3, (pt g18)), (24, (bv true)), (27, (sv ((H12 (1 : Int).toNat).1) (rdD t3.1 (1 : Int) []) ((H12 (1 : Int).toNat).2))), (28, (.agg #[(iv 0), (iv 0), (iv 0), (iv 1)]))] [.idx A8 (1 : Int) t3.1.length, .cell ((adr A8).add (((1 : Int)).toNat * 1)) (sv ((H12 (1 : Int).toNat).1) (rdD t3.1 (1 : Int) []) ((H12 (1 : Int).toNat).2))] (fun fb => by kernel_rfl) rfl ⟨nrow_adr (rowO.rd (hS22.own 1).1) h30.1 h30.2, nrow_cell (rowO.rd (hS22.own 1).1) [] h30.1 h30.2 0 rfl, trivial⟩ ?_
   refine WL.new hS22 29 [] (fun g => (.slice (some ⟨g, 0, none⟩) 1 1)) (.cells #[(iv 0), (iv 0), (iv 0), (iv 1)] 48 (0, 0)) [] (fun fb g => by kernel_rfl) trivial (fun g31 w32 hS33 => ?_)
   refine ⟨trivial, ?_⟩
   have hS34 := hS7.go w32 [rowO 48 enc_Tile (some ⟨g31, 0, none⟩) 1 [(Tile.mk 0 0 0 1)], blk g18 (.cells #[(iv t13.1.Sets), (iv t13.1.Fill), (iv t13.1.Cells), (iv t13.1.Side)] 34 (0, 0)), rowO 28 (encSl Tile) A8 c11 (tag H12 t3.1), rowsO 48 enc_Tile H12 t3.1] (hS33.map1 0 _ (fun h => rowO.ofBlk h rfl (Nat.le_of_ble_eq_true (by kernel_rfl))) (fun _ h => by obtain ⟨_, h1, h2⟩ := h; injection h1 with h1; subst h1; exact h2) [1, 2, 3] (by decide) (by decide))
   obtain ⟨t35, ht36, hx28⟩ := bind_some hx28
   refine WL.call (some 30) 13 #[(sv ((H12 (1 : Int).toNat).1) (rdD t3.1 (1 : Int) []) ((H12 (1 : Int).toNat).2)), (sv (some ⟨g31, 0, none⟩) [(Tile.mk 0 0 0 1)] 1)] (fun fb => by kernel_rfl) (ref01_SameSet_calls _ (rdD t3.1 (1 : Int) []) [(Tile.mk 0 0 0 1)] ((H12 (1 : Int).toNat).1) ((H12 (1 : Int).toNat).2) (some ⟨g31, 0, none⟩) 1 t35 _ (rowsO.ro (hS34.ow 3) h30.1 h30.2).ofO (hS34.ow 0).ofO ht36) (fun v w37 hR38 => ?_)
   obtain ⟨rfl, hk_⟩ := hR38
   have hS39 := hS34.keepN hk_
   refine ⟨trivial, ?_⟩
   refine sg 19 [] [1, 3, 31] [(1, (sv A8 t3.1 c11)), (3, (pt g18)), (31, (bv t35))] (by kernel_rfl) ?_
   injection hx28 with hx28
   exact WL.to K t35 [1, 3, 31] rfl ⟨⟨(hS39.subR []).sub [2, 3, 1] (by decide), hx28.symm⟩, trivial⟩
  refine WL.setB 24 h29 rfl ?_
  refine sg 19 [] [1, 3, 31] [(1, (sv A8 t3.1 c11)), (3, (pt g18)), (31, (bv false))] (by kernel_rfl) ?_
  injection hx28 with hx28
  exact WL.to K false [1, 3, 31] rfl ⟨⟨(hS22.subR []).sub [1, 2, 0] (by decide), hx28.symm⟩, trivial⟩
 rintro y40 w42 ⟨⟨hS43, hq41⟩, hF44⟩
 subst hq41
 refine sg 20 [] [1, 3, 32] [(1, (sv A8 t3.1 c11)), (3, (pt g18)), (32, (bv x27))] (by kernel_rfl) ?_
 obtain ⟨x45, hx46, hf⟩ := bind_some hf
 refine WL.cutW (T := Bool) 27 (fun t => [(3, (pt g18)), (39, (bv t))]) (fun t w1 => (St NoS w w1 [] [blk g18 (.cells #[(iv t13.1.Sets), (iv t13.1.Fill), (iv t13.1.Cells), (iv t13.1.Side)] 34 (0, 0))] ∧ x45 = t) ∧ CellsOK [] w1) (fun K => ?_) ?_
 ·
  rcases br_some hx46 with ⟨h47, hx46⟩ | ⟨h47, hx46⟩
  ·
   refine WL.setB 32 h47 rfl ?_
   refine sg 21 [] [3, 32, 33] [(3, (pt g18)), (32, (bv true)), (33, (sv A8 t3.1 c11))] (by kernel_rfl) ?_
   obtain ⟨h48, hx46⟩ := as_some hx46
   refine seg 24 [.v (sv ((H12 (2 : Int).toNat).1) (rdD t3.1 (2 : Int) []) ((H12 (2 : Int).toNat).2))] [3, 32, 35, 36] [(3, (pt g18)), (32, (bv true)), (35, (sv ((H12 (2 : Int).toNat).1) (rdD t3.1 (2 : Int) []) ((H12 (2 : Int).toNat).2))), (36, (.agg #[(iv 0), (iv 0), (iv 1), (iv 0)]))] [.idx A8 (2 : Int) t3.1.length, .cell ((adr A8).add (((2 : Int)).toNat * 1)) (sv ((H12 (2 : Int).toNat).1) (rdD t3.1 (2 : Int) []) ((H12 (2 : Int).toNat).2))] (fun fb => by kernel_rfl) rfl ⟨nrow_adr (rowO.rd (hS43.own 0).1) h48.1 h48.2, nrow_cell (rowO.rd (hS43.own 0).1) [] h48.1 h48.2 0 rfl, trivial⟩ ?_
   refine WL.new hS43 37 [] (fun g => (.slice (some ⟨g, 0, none⟩) 1 1)) (.cells #[(iv 0), (iv 0), (iv 1), (iv 0)] 48 (0, 0)) [] (fun fb g => by kernel_rfl) trivial (fun g49 w50 hS51 => ?_)
   refine ⟨trivial, ?_⟩
   have hS52 := hS7.go w50 [rowO 48 enc_Tile (some ⟨g49, 0, none⟩) 1 [(Tile.mk 0 0 1 0)], rowO 28 (encSl Tile) A8 c11 (tag H12 t3.1), rowsO 48 enc_Tile H12 t3.1, blk g18 (.cells #[(iv t13.1.Sets), (iv t13.1.Fill), (iv t13.1.Cells), (iv t13.1.Side)] 34 (0, 0))] (hS51.map1 0 _ (fun h => rowO.ofBlk h rfl (Nat.le_of_ble_eq_true (by kernel_rfl))) (fun _ h => by obtain ⟨_, h1, h2⟩ := h; injection h1 with h1; subst h1; exact h2) [1, 2, 3] (by decide) (by decide))
   obtain ⟨t53, ht54, hx46⟩ := bind_some hx46
   refine WL.call (some 38) 13 #[(sv ((H12 (2 : Int).toNat).1) (rdD t3.1 (2 : Int) []) ((H12 (2 : Int).toNat).2)), (sv (some ⟨g49, 0, none⟩) [(Tile.mk 0 0 1 0)] 1)] (fun fb => by kernel_rfl) (ref01_SameSet_calls _ (rdD t3.1 (2 : Int) []) [(Tile.mk 0 0 1 0)] ((H12 (2 : Int).toNat).1) ((H12 (2 : Int).toNat).2) (some ⟨g49, 0, none⟩) 1 t53 _ (rowsO.ro (hS52.ow 2) h48.1 h48.2).ofO (hS52.ow 0).ofO ht54) (fun v w55 hR56 => ?_)
   obtain ⟨rfl, hk_⟩ := hR56
   have hS57 := hS52.keepN hk_
   refine ⟨trivial, ?_⟩
   refine sg 27 [] [3, 39] [(3, (pt g18)), (39, (bv t53))] (by kernel_rfl) ?_
   injection hx46 with hx46
   exact WL.to K t53 [3, 39] rfl ⟨⟨(hS57.subR []).sub [3] (by decide), hx46.symm⟩, trivial⟩
  refine WL.setB 32 h47 rfl ?_
  refine sg 27 [] [3, 39] [(3, (pt g18)), (39, (bv false))] (by kernel_rfl) ?_
  injection hx46 with hx46
  exact WL.to K false [3, 39] rfl ⟨⟨(hS43.subR []).sub [2] (by decide), hx46.symm⟩, trivial⟩
 rintro y58 w60 ⟨⟨hS61, hq59⟩, hF62⟩
 subst hq59
 refine sg 28 [] [3, 40] [(3, (pt g18)), (40, (bv x45))] (by kernel_rfl) ?_
 refine WL.cutV (T := Bool) 32 (fun t => [(44, (bv t))]) (fun t => (x45 && (t13.1.Sets == 4 && (t13.1.Fill == 1 && (t13.1.Cells == 1 && (t13.1.Side == 2))))) = t) (fun K => ?_) ?_
 ·
  rcases Bool.eq_false_or_eq_true x45 with h63 | h63
  ·
   refine WL.setB 40 h63 rfl ?_
   refine seg 32 [.v (iv t13.1.Sets), .v (iv t13.1.Fill), .v (iv t13.1.Cells), .v (iv t13.1.Side)] [44] [(44, (bv (t13.1.Sets == 4 && (t13.1.Fill == 1 && (t13.1.Cells == 1 && (t13.1.Side == 2))))))] [.cell ⟨g18, 0, none⟩ (iv t13.1.Sets), .cell ⟨g18, 1, none⟩ (iv t13.1.Fill), .cell ⟨g18, 2, none⟩ (iv t13.1.Cells), .cell ⟨g18, 3, none⟩ (iv t13.1.Side)] (fun fb => by kernel_rfl) rfl ⟨hS61.cell 0 rfl 0 rfl, hS61.cell 0 rfl 1 rfl, hS61.cell 0 rfl 2 rfl, hS61.cell 0 rfl 3 rfl, trivial⟩ ?_
   exact WL.toV K (t13.1.Sets == 4 && (t13.1.Fill == 1 && (t13.1.Cells == 1 && (t13.1.Side == 2)))) [44] rfl (by first | (rw [h63]; done) | (rw [h63]; rfl))
  refine WL.setB 40 h63 rfl ?_
  refine sg 32 [] [44] [(44, (bv false))] (by kernel_rfl) ?_
  exact WL.toV K false [44] rfl (by first | (rw [h63]; done) | (rw [h63]; rfl))
 rintro b65 rfl
 refine sg 33 [] [0] [(0, (bv (x45 && (t13.1.Sets == 4 && (t13.1.Fill == 1 && (t13.1.Cells == 1 && (t13.1.Side == 2)))))))] (by kernel_rfl) ?_
 refine WL.done rfl (WX.next ?_)
 refine WC.ret ?_
 injection hf with hf
 subst hf
 exact WX.ret_ [] (bv (x45 && (t13.1.Sets == 4 && (t13.1.Fill == 1 && (t13.1.Cells == 1 && (t13.1.Side == 2)))))) [] (fun fb => by kernel_rfl) trivial ⟨_, rfl, rfl, hS61.keep⟩
theorem census_Canon_calls (k : Nat) (p0 : List Tile) (Aa : Option Addr) (ca : Nat) (r : (List Tile) × Int) (w : World) (hR0 : RO NoS w (rowR enc_Tile Aa ca p0)) (hf : census_Canon k p0 = some r) :
  CallsR Try.prog 18 #[(sv Aa p0 ca)] w (fun v w' => ∃ (A1_ : Option Addr), ∃ (c1_ : Nat), v = (.tuple #[(sv A1_ r.1 c1_), (iv r.2)]) ∧ St NoS w w' [] [rowO 48 enc_Tile A1_ c1_ r.1]) := by
 have hS : St NoS w w [rowR enc_Tile Aa ca p0] [] := St.init (ro_cons hR0 (ro_nil _ _))
 refine enter 14 Try.func18 rfl Try.ntmps18 rfl ?_
 unfold census_Canon at hf
 refine WC.seq (WC.region ?_)
 refine sg 2 [] [0] [(0, (sv Aa p0 ca))] (by kernel_rfl) ?_
 refine WL.done rfl (WX.next (WC.seq (WC.block (WC.seq (WC.region ?_)))))
 refine sg 1 [] [0, 5] [(0, (sv Aa p0 ca)), (5, (sv Aa p0 ca))] (by kernel_rfl) ?_
 obtain ⟨t3, ht4, hf⟩ := bind_some hf
 refine WL.call (some 6) 33 #[(sv Aa p0 ca)] (fun fb => by kernel_rfl) (tile_Valid_calls _ p0 Aa ca t3 _ (hS.rd 0) ht4) (fun v w5 hR6 => ?_)
 obtain ⟨rfl, hk_⟩ := hR6
 have hS7 := hS.keepN hk_
 refine ⟨trivial, ?_⟩
 refine sg 4 [] [0, 4] [(0, (sv Aa p0 ca)), (4, (bv (!t3)))] (by kernel_rfl) ?_
 refine WL.done rfl (WX.next ?_)
 rcases br_some hf with ⟨h8, hf⟩ | ⟨h8, hf⟩
 ·refine WC.condT2 (fun fb => by kernel_rfl) h8 ?_
  refine WC.seq (WC.region ?_)
  refine sg 2 [] [2, 3] [(2, (.slice none 0 0)), (3, (iv 1))] (by kernel_rfl) ?_
  refine WL.done rfl (WX.next ?_)
  refine WC.ret ?_
  have hS9 := hS7.nilrow 48 enc_Tile
  injection hf with hf
  subst hf
  exact WX.blockR (WX.thenR (WX.ret_ [] (.tuple #[(sv none ([] : List Tile) 0), (iv 1)]) [] (fun fb => by kernel_rfl) trivial ⟨_, rfl, none, 0, rfl, (hS9.sub [0] (by decide)).noR⟩))
 refine WC.condF2 (fun fb => by kernel_rfl) h8 ?_
 refine WC.seq (WC.region ?_)
 refine sg 4 [] [0, 8] [(0, (sv Aa p0 ca)), (8, (bv (decide ((p0.length : Int) > 3))))] (by kernel_rfl) ?_
 refine WL.done rfl (WX.next ?_)
 rcases br_some hf with ⟨h10, hf⟩ | ⟨h10, hf⟩
 ·refine WC.condT2 (fun fb => by kernel_rfl) h10 ?_
  refine WC.seq (WC.region ?_)
  refine sg 2 [] [2, 3] [(2, (.slice none 0 0)), (3, (iv 2))] (by kernel_rfl) ?_
  refine WL.done rfl (WX.next ?_)
  refine WC.ret ?_
  have hS11 := hS7.nilrow 48 enc_Tile
  injection hf with hf
  subst hf
  exact WX.blockR (WX.thenR (WX.ret_ [] (.tuple #[(sv none ([] : List Tile) 0), (iv 2)]) [] (fun fb => by kernel_rfl) trivial ⟨_, rfl, none, 0, rfl, (hS11.sub [0] (by decide)).noR⟩))
 refine WC.condF2 (fun fb => by kernel_rfl) h10 ?_
 refine WC.skip ?_
 refine WX.blockN (WX.next ?_)
 refine WC.seq (WC.region ?_)
 refine sg 1 [] [12] [(12, (sv Aa p0 ca))] (by kernel_rfl) ?_
 obtain ⟨t12, ht13, hf⟩ := bind_some hf
 refine WL.call (some 13) 34 #[(sv Aa p0 ca)] (fun fb => by kernel_rfl) (census_least_calls _ p0 Aa ca t12 _ (hS7.rd 0) ht13) (fun v w14 hR15 => ?_)
 obtain ⟨A17, c19, rfl, hk_⟩ := hR15
 have hS16 := hS.go w14 [rowO 48 enc_Tile A17 c19 t12] (hS7.call hk_ [] [] (fun g hg => hg.elim) (by simp) (by decide))
 refine ⟨trivial, ?_⟩
 refine sg 4 [] [2, 3] [(2, (sv A17 t12 c19)), (3, (iv 0))] (by kernel_rfl) ?_
 refine WL.done rfl (WX.next ?_)
 refine WC.ret ?_
 injection hf with hf
 subst hf
 exact WX.ret_ [] (.tuple #[(sv A17 t12 c19), (iv 0)]) [] (fun fb => by kernel_rfl) trivial ⟨_, rfl, A17, c19, rfl, (hS16.sub [0] (by decide)).noR⟩
theorem ref01_colour_calls (p0 : Int)  (r : Bool) (w : World)  (hf : ref01_colour p0 = some r) :
  CallsR Try.prog 24 #[(iv p0)] w (fun v w' => v = (bv r) ∧ Keeps NoS w w') := by
 have hS : St NoS w w [] [] := St.init (ro_nil _ _)
 refine enter 9 Try.func24 rfl Try.ntmps24 rfl ?_
 unfold ref01_colour at hf
 refine WC.seq (WC.region ?_)
 refine sg 1 [] [0] [(0, (iv p0))] (by kernel_rfl) ?_
 refine WL.done rfl (WX.next (WC.seq (WC.region ?_)))
 refine sg 3 [] [0, 5] [(0, (iv p0)), (5, (bv (decide (p0 ≥ 0))))] (by kernel_rfl) ?_
 refine WL.cutV (T := Bool) 6 (fun t => [(8, (bv t))]) (fun t => ((decide (p0 ≥ 0)) && (decide (p0 < 1000))) = t) (fun K => ?_) ?_
 ·
  rcases Bool.eq_false_or_eq_true (decide (p0 ≥ 0)) with h2 | h2
  ·
   refine WL.setB 5 h2 rfl ?_
   refine sg 6 [] [8] [(8, (bv (decide (p0 < 1000))))] (by kernel_rfl) ?_
   exact WL.toV K (decide (p0 < 1000)) [8] rfl (by first | (rw [h2]; done) | (rw [h2]; rfl))
  refine WL.setB 5 h2 rfl ?_
  refine sg 6 [] [8] [(8, (bv false))] (by kernel_rfl) ?_
  exact WL.toV K false [8] rfl (by first | (rw [h2]; done) | (rw [h2]; rfl))
 rintro b3 rfl
 refine sg 7 [] [2] [(2, (bv ((decide (p0 ≥ 0)) && (decide (p0 < 1000)))))] (by kernel_rfl) ?_
 refine WL.done rfl (WX.next ?_)
 refine WC.ret ?_
 injection hf with hf
 subst hf
 exact WX.ret_ [] (bv ((decide (p0 ≥ 0)) && (decide (p0 < 1000)))) [] (fun fb => by kernel_rfl) trivial ⟨_, rfl, rfl, hS.keep⟩
theorem ref01_Index_calls (k : Nat) (p0 : List Tile) (p1 : Tile) (Aa : Option Addr) (ca : Nat) (r : Int) (w : World) (hR0 : RO NoS w (rowR enc_Tile Aa ca p0)) (hf : ref01_Index k p0 p1 = some r) :
  CallsR Try.prog 25 #[(sv Aa p0 ca), (.agg #[(iv p1.N), (iv p1.E), (iv p1.S), (iv p1.W)])] w (fun v w' => v = (iv r) ∧ Keeps NoS w w') := by
 have hS : St NoS w w [rowR enc_Tile Aa ca p0] [] := St.init (ro_cons hR0 (ro_nil _ _))
 refine enter 19 Try.func25 rfl Try.ntmps25 rfl ?_
 unfold ref01_Index at hf
 refine WC.seq (WC.region ?_)
 refine WL.new hS 3 [] (fun g => (pt g)) (.cells #[(iv p1.N), (iv p1.E), (iv p1.S), (iv p1.W)] 48 (0, 0)) [] (fun fb g => by kernel_rfl) trivial (fun g3 w4 hS5 => ?_)
 refine ⟨trivial, ?_⟩
 refine sg 2 [] [0, 3] [(0, (sv Aa p0 ca)), (3, (pt g3))] (by kernel_rfl) ?_
 refine WL.done rfl (WX.next (WC.seq (WC.seq (WC.region ?_))))
 refine sg 1 [] [0, 3, 5] [(0, (sv Aa p0 ca)), (3, (pt g3)), (5, (iv 0))] (by kernel_rfl) ?_
 refine WL.done rfl (WX.next ?_)
 obtain ⟨x7, hx8, hf⟩ := bind_some hf
 refine WC.cutN (T := Unit) (fun t => []) (fun t w1 => St NoS w w1 [rowR enc_Tile Aa ca p0] [] ∧ x7 = .inr t) (fun Kx7 => ?_) ?_
 ·
  refine WC.block ?_
  refine WC.loop (T := Int) (fun t => [(0, (sv Aa p0 ca)), (3, (pt g3)), (5, (iv t))]) (fun n t w1 => St NoS w w1 [rowR enc_Tile Aa ca p0] [blk g3 (.cells #[(iv p1.N), (iv p1.E), (iv p1.S), (iv p1.W)] 48 (0, 0))] ∧ ref01_Index.l0 n t p0 p1 = some x7) k 0 [0, 3, 5] rfl ⟨(hS5.subR [0]).sub [0] (by decide), hx8⟩ ?_
  rintro k9 x6 w10 ⟨hS11, hl12⟩
  cases k9 with
  | zero => rw [ref01_Index.l0] at hl12; cases hl12
  | succ k9 =>
   rw [ref01_Index.l0] at hl12
   refine WC.seq (WC.seq (WC.region ?_))
   refine sg 4 [] [0, 3, 5, 9] [(0, (sv Aa p0 ca)), (3, (pt g3)), (5, (iv x6)), (9, (bv (decide (x6 < (p0.length : Int)))))] (by kernel_rfl) ?_
   refine WL.done rfl (WX.next ?_)
   rcases br_some hl12 with ⟨h13, hl12⟩ | ⟨h13, hl12⟩
   ·refine WC.condT2 (fun fb => by kernel_rfl) h13 ?_
    refine WC.skip (WX.next (WC.seq (WC.block (WC.seq ?_))))
    obtain ⟨h16, hl12⟩ := as_some hl12
    refine WC.regionD ([(3, ((adr Aa).add ((x6).toNat * 4)), (iv ((rdD p0 x6 z_Tile).N))), (3, (((adr Aa).add ((x6).toNat * 4)).add 1), (iv ((rdD p0 x6 z_Tile).E))), (3, (((adr Aa).add ((x6).toNat * 4)).add 2), (iv ((rdD p0 x6 z_Tile).S))), (3, (((adr Aa).add ((x6).toNat * 4)).add 3), (iv ((rdD p0 x6 z_Tile).W))), (4, ⟨g3, 0, none⟩, (iv p1.N)), (4, ⟨g3, 1, none⟩, (iv p1.E)), (4, ⟨g3, 2, none⟩, (iv p1.S)), (4, ⟨g3, 3, none⟩, (iv p1.W))], [0, 1, 2, 3, 4, 5], [[], [], [0, 1], [0, 1, 2], [], [0, 1, 2, 3, 4]]) [[0, 1, 2, 3, 4, 5]] (by kernel_rfl) (by kernel_rfl) (NoPanic.seq (NoPanic.block (NoPanic.seq (NoPanic.seq (NoPanic.block (NoPanic.seq (NoPanic.body))))))) ?_
    have hS15 := hS11.drew
    revert hS15
    generalize World.drew w10 = w14
    intro hS15
    refine ⟨⟨rowR.cell (hS15.rd 0).1 z_Tile h16.1 h16.2 0 rfl, rowR.cell (hS15.rd 0).1 z_Tile h16.1 h16.2 1 rfl, rowR.cell (hS15.rd 0).1 z_Tile h16.1 h16.2 2 rfl, rowR.cell (hS15.rd 0).1 z_Tile h16.1 h16.2 3 rfl, hS15.cell 0 rfl 0 rfl, hS15.cell 0 rfl 1 rfl, hS15.cell 0 rfl 2 rfl, hS15.cell 0 rfl 3 rfl, trivial⟩, forallC ?_ (forallN)⟩
    refine segF 6 [.v (iv ((rdD p0 x6 z_Tile).N)), .v (iv ((rdD p0 x6 z_Tile).E)), .v (iv ((rdD p0 x6 z_Tile).S)), .v (iv ((rdD p0 x6 z_Tile).W)), .v (iv p1.N), .v (iv p1.E), .v (iv p1.S), .v (iv p1.W)] [0, 3, 5, 17] [(0, (sv Aa p0 ca)), (3, (pt g3)), (5, (iv x6)), (17, (bv (((rdD p0 x6 z_Tile).N) == p1.N && (((rdD p0 x6 z_Tile).E) == p1.E && (((rdD p0 x6 z_Tile).S) == p1.S && (((rdD p0 x6 z_Tile).W) == p1.W))))))] [.idx Aa x6 p0.length] [0, 1, 2, 3, 4, 5, 6, 7] [(3, ((adr Aa).add ((x6).toNat * 4)), (iv ((rdD p0 x6 z_Tile).N))), (3, (((adr Aa).add ((x6).toNat * 4)).add 1), (iv ((rdD p0 x6 z_Tile).E))), (3, (((adr Aa).add ((x6).toNat * 4)).add 2), (iv ((rdD p0 x6 z_Tile).S))), (3, (((adr Aa).add ((x6).toNat * 4)).add 3), (iv ((rdD p0 x6 z_Tile).W))), (4, ⟨g3, 0, none⟩, (iv p1.N)), (4, ⟨g3, 1, none⟩, (iv p1.E)), (4, ⟨g3, 2, none⟩, (iv p1.S)), (4, ⟨g3, 3, none⟩, (iv p1.W))] (fun fb => by kernel_rfl) rfl ⟨rowR.adr (hS15.rd 0).1 h16.1 h16.2, trivial⟩ rfl ?_
    refine WL.done rfl (WX.next ?_)
    rcases br_some hl12 with ⟨h17, hl12⟩ | ⟨h17, hl12⟩
    ·refine WC.condT2 (fun fb => by kernel_rfl) h17 ?_
     refine WC.seq (WC.region ?_)
     refine sg 2 [] [4] [(4, (iv x6))] (by kernel_rfl) ?_
     refine WL.done rfl (WX.next ?_)
     refine WC.ret ?_
     injection hl12 with hl12
     subst hl12
     injection hf with hf
     subst hf
     exact WX.blockR (WX.thenR (WX.thenR (WX.blockR (WX.thenR (WX.ret_ [] (iv x6) [] (fun fb => by kernel_rfl) trivial ⟨_, rfl, rfl, hS15.keep⟩)))))
    refine WC.condF2 (fun fb => by kernel_rfl) h17 ?_
    refine WC.skip ?_
    refine WX.blockN (WX.next ?_)
    refine WC.region ?_
    refine sg 3 [] [0, 3, 5] [(0, (sv Aa p0 ca)), (3, (pt g3)), (5, (iv (w64 (x6 + 1))))] (by kernel_rfl) ?_
    refine WL.done rfl ?_
    exact WX.again k9 (Nat.lt_succ_self _) (w64 (x6 + 1)) [0, 3, 5] rfl ⟨(hS15.subR [0]).sub [0] (by decide), hl12⟩
   refine WC.condF2 (fun fb => by kernel_rfl) h13 ?_
   refine WC.exit ?_
   injection hl12 with hl12
   exact WX.thenX (WX.thenX (WX.blockHere (WX.to Kx7 () [] rfl ⟨(hS11.subR [0]).sub [] (by decide), hl12.symm⟩)))
 rintro y21 w18 ⟨hS19, hq20⟩
 subst hq20
 have hf := sum_inr hf
 refine WX.next (WC.seq (WC.region ?_))
 refine sg 1 [] [4] [(4, (iv (-1)))] (by kernel_rfl) ?_
 refine WL.done rfl (WX.next ?_)
 refine WC.ret ?_
 injection hf with hf
 subst hf
 exact WX.ret_ [] (iv (-1)) [] (fun fb => by kernel_rfl) trivial ⟨_, rfl, rfl, hS19.keep⟩
theorem ref01_Valid_calls (k : Nat) (p0 : List Tile) (Aa : Option Addr) (ca : Nat) (r : Bool) (w : World) (hR0 : RO NoS w (rowR enc_Tile Aa ca p0)) (hf : ref01_Valid k p0 = some r) :
  CallsR Try.prog 11 #[(sv Aa p0 ca)] w (fun v w' => v = (bv r) ∧ Keeps NoS w w') := by
 have hS : St NoS w w [rowR enc_Tile Aa ca p0] [] := St.init (ro_cons hR0 (ro_nil _ _))
 refine enter 48 Try.func11 rfl Try.ntmps11 rfl ?_
 unfold ref01_Valid at hf
 refine WC.seq (WC.region ?_)
 refine sg 1 [] [0] [(0, (sv Aa p0 ca))] (by kernel_rfl) ?_
 refine WL.done rfl (WX.next (WC.seq (WC.seq (WC.region ?_))))
 refine sg 3 [] [0, 7] [(0, (sv Aa p0 ca)), (7, (bv (decide ((p0.length : Int) > 1000))))] (by kernel_rfl) ?_
 refine WL.done rfl (WX.next ?_)
 rcases br_some hf with ⟨h3, hf⟩ | ⟨h3, hf⟩
 ·refine WC.condT2 (fun fb => by kernel_rfl) h3 ?_
  refine WC.seq (WC.region ?_)
  refine sg 1 [] [2] [(2, (bv false))] (by kernel_rfl) ?_
  refine WL.done rfl (WX.next ?_)
  refine WC.ret ?_
  injection hf with hf
  subst hf
  exact WX.thenR (WX.ret_ [] (bv false) [] (fun fb => by kernel_rfl) trivial ⟨_, rfl, rfl, hS.keep⟩)
 refine WC.condF2 (fun fb => by kernel_rfl) h3 ?_
 refine WC.skip (WX.next (WC.seq (WC.seq (WC.region ?_))))
 refine sg 1 [] [0, 3] [(0, (sv Aa p0 ca)), (3, (iv 0))] (by kernel_rfl) ?_
 refine WL.done rfl (WX.next ?_)
 obtain ⟨x5, hx6, hf⟩ := bind_some hf
 refine WC.cutN (T := Unit) (fun t => []) (fun t w1 => St NoS w w1 [rowR enc_Tile Aa ca p0] [] ∧ x5 = .inr t) (fun Kx5 => ?_) ?_
 ·
  refine WC.block ?_
  refine WC.loop (T := Int) (fun t => [(0, (sv Aa p0 ca)), (3, (iv t))]) (fun n t w1 => St NoS w w1 [rowR enc_Tile Aa ca p0] [] ∧ ref01_Valid.l0 n t p0 = some x5) k 0 [0, 3] rfl ⟨(hS.subR [0]).sub [] (by decide), hx6⟩ ?_
  rintro k7 x4 w8 ⟨hS9, hl10⟩
  cases k7 with
  | zero => rw [ref01_Valid.l0] at hl10; cases hl10
  | succ k7 =>
   rw [ref01_Valid.l0] at hl10
   refine WC.seq (WC.seq (WC.region ?_))
   refine sg 4 [] [0, 3, 11] [(0, (sv Aa p0 ca)), (3, (iv x4)), (11, (bv (decide (x4 < (p0.length : Int)))))] (by kernel_rfl) ?_
   refine WL.done rfl (WX.next ?_)
   rcases br_some hl10 with ⟨h12, hl10⟩ | ⟨h12, hl10⟩
   ·refine WC.condT2 (fun fb => by kernel_rfl) h12 ?_
    refine WC.skip (WX.next (WC.seq (WC.block (WC.seq (WC.region ?_)))))
    refine sg 2 [] [0, 3, 14, 15] [(0, (sv Aa p0 ca)), (3, (iv x4)), (14, (sv Aa p0 ca)), (15, (iv x4))] (by kernel_rfl) ?_
    obtain ⟨h13, hl10⟩ := as_some hl10
    refine seg 4 [.v (iv ((rdD p0 x4 z_Tile).N)), .v (iv ((rdD p0 x4 z_Tile).E)), .v (iv ((rdD p0 x4 z_Tile).S)), .v (iv ((rdD p0 x4 z_Tile).W))] [0, 3, 17] [(0, (sv Aa p0 ca)), (3, (iv x4)), (17, (.agg #[(iv ((rdD p0 x4 z_Tile).N)), (iv ((rdD p0 x4 z_Tile).E)), (iv ((rdD p0 x4 z_Tile).S)), (iv ((rdD p0 x4 z_Tile).W))]))] [.idx Aa x4 p0.length, .cell ((adr Aa).add ((x4).toNat * 4)) (iv ((rdD p0 x4 z_Tile).N)), .cell (((adr Aa).add ((x4).toNat * 4)).add 1) (iv ((rdD p0 x4 z_Tile).E)), .cell (((adr Aa).add ((x4).toNat * 4)).add 2) (iv ((rdD p0 x4 z_Tile).S)), .cell (((adr Aa).add ((x4).toNat * 4)).add 3) (iv ((rdD p0 x4 z_Tile).W))] (fun fb => by kernel_rfl) rfl ⟨rowR.adr (hS9.rd 0).1 h13.1 h13.2, rowR.cell (hS9.rd 0).1 z_Tile h13.1 h13.2 0 rfl, rowR.cell (hS9.rd 0).1 z_Tile h13.1 h13.2 1 rfl, rowR.cell (hS9.rd 0).1 z_Tile h13.1 h13.2 2 rfl, rowR.cell (hS9.rd 0).1 z_Tile h13.1 h13.2 3 rfl, trivial⟩ ?_
    refine WL.new hS9 4 [] (fun g => (pt g)) (.cells #[(iv 0), (iv 0), (iv 0), (iv 0)] 48 (0, 0)) [] (fun fb g => by kernel_rfl) trivial (fun g14 w15 hS16 => ?_)
    refine ⟨trivial, ?_⟩
    refine WL.store hS16 0 rfl [(0, (iv ((rdD p0 x4 z_Tile).N))), (1, (iv ((rdD p0 x4 z_Tile).E))), (2, (iv ((rdD p0 x4 z_Tile).S))), (3, (iv ((rdD p0 x4 z_Tile).W)))] #[(iv ((rdD p0 x4 z_Tile).N)), (iv ((rdD p0 x4 z_Tile).E)), (iv ((rdD p0 x4 z_Tile).S)), (iv ((rdD p0 x4 z_Tile).W))] (fun fb => by kernel_rfl) (by kernel_rfl) rfl [] (by decide) (by decide) (fun w17 hS18 => ?_)
    refine ⟨trivial, ?_⟩
    refine WL.done rfl (WX.next (WC.seq ?_))
    refine WC.regionD ([(1, ⟨g14, 0, none⟩, (iv ((rdD p0 x4 z_Tile).N))), (6, ⟨g14, 1, none⟩, (iv ((rdD p0 x4 z_Tile).E))), (12, ⟨g14, 2, none⟩, (iv ((rdD p0 x4 z_Tile).S))), (18, ⟨g14, 3, none⟩, (iv ((rdD p0 x4 z_Tile).W))), (26, ⟨g14, 0, none⟩, (iv ((rdD p0 x4 z_Tile).N))), (26, ⟨g14, 1, none⟩, (iv ((rdD p0 x4 z_Tile).E))), (26, ⟨g14, 2, none⟩, (iv ((rdD p0 x4 z_Tile).S))), (26, ⟨g14, 3, none⟩, (iv ((rdD p0 x4 z_Tile).W)))], [0, 1, 3, 4, 5, 6, 8, 9, 10, 11, 12, 14, 15, 16, 17, 18, 20, 21, 22, 23, 24, 25, 26, 28, 29], [[], [0], [0, 1], [0, 1, 2], [0, 1, 2, 3], [0, 1, 2, 3, 4], [0, 1, 2, 3, 4, 5], [0, 1, 2, 3, 4, 5, 6], [0, 1, 2, 3, 4, 5, 6, 7], [0, 1, 2, 3, 4, 5, 6, 7, 8], [0, 1, 2, 3, 4, 5, 6, 7, 8, 9], [0, 1, 2, 3, 4, 5, 6, 7, 8, 9, 10], [0, 1, 2, 3, 4, 5, 6, 7, 8, 9, 10, 11], [0, 1, 2, 3, 4, 5, 6, 7, 8, 9, 10, 11, 12], [0, 1, 2, 3, 4, 5, 6, 7, 8, 9, 10, 11, 12, 13], [0, 1, 2, 3, 4, 5, 6, 7, 8, 9, 10, 11, 12, 13, 14], [0, 1, 2, 3, 4, 5, 6, 7, 8, 9, 10, 11, 12, 13, 14, 15], [0, 1, 2, 3, 4, 5, 6, 7, 8, 9, 10, 11, 12, 13, 14, 15, 16], [0, 1, 2, 3, 4, 5, 6, 7, 8, 9, 10, 11, 12, 13, 14, 15, 16, 17], [0, 1, 2, 3, 4, 5, 6, 7, 8, 9, 10, 11, 12, 13, 14, 15, 16, 17, 18], [0, 1, 2, 3, 4, 5, 6, 7, 8, 9, 10, 11, 12, 13, 14, 15, 16, 17, 18, 19], [0, 1, 2, 3, 4, 5, 6, 7, 8, 9, 10, 11, 12, 13, 14, 15, 16, 17, 18, 19, 20], [0, 1, 2, 3, 4, 5, 6, 7, 8, 9, 10, 11, 12, 13, 14, 15, 16, 17, 18, 19, 20, 21], [0, 1, 2, 3, 4, 5, 6, 7, 8, 9, 10, 11, 12, 13, 14, 15, 16, 17, 18, 19, 20, 21, 22], [0, 1, 2, 3, 4, 5, 6, 7, 8, 9, 10, 11, 12, 13, 14, 15, 16, 17, 18, 19, 20, 21, 22], [0, 1, 2, 3, 4, 5, 6, 7, 8, 9, 10, 11, 12, 13, 14, 15, 16, 17, 18, 19, 20, 21, 22, 23, 24], [0, 1, 2, 3, 4, 5, 6, 7, 8, 9, 10, 11, 12, 13, 14, 15, 16, 17, 18, 19, 20, 21, 22], [0, 1, 2, 3, 4, 5, 6, 7, 8, 9, 10, 11, 12, 13, 14, 15, 16, 17, 18, 19, 20, 21, 22, 23, 24, 25, 26], [0, 1, 2, 3, 4, 5, 6, 7, 8, 9, 10, 11, 12, 13, 14, 15, 16, 17, 18, 19, 20, 21, 22, 23, 24, 25, 26, 27], [0, 1, 2, 3, 4, 5, 6, 7, 8, 9, 10, 11, 12, 13, 14, 15, 16, 17, 18, 19, 20, 21, 22, 23, 24, 25, 26, 27, 28]]) [[0, 1, 2, 3, 4, 5, 6, 7, 8, 9, 10, 11, 12, 13, 14, 15, 16, 17, 18, 19, 20, 21, 22, 23, 24, 25, 26, 27, 28, 29]] (by kernel_rfl) (by kernel_rfl) (NoPanic.seq (NoPanic.block (NoPanic.seq (NoPanic.seq (NoPanic.block (NoPanic.seq (NoPanic.body))))))) ?_
    have hS20 := hS18.drew
    revert hS20
    generalize World.drew w17 = w19
    intro hS20
    refine ⟨⟨hS20.cell 0 rfl 0 rfl, hS20.cell 0 rfl 1 rfl, hS20.cell 0 rfl 2 rfl, hS20.cell 0 rfl 3 rfl, hS20.cell 0 rfl 0 rfl, hS20.cell 0 rfl 1 rfl, hS20.cell 0 rfl 2 rfl, hS20.cell 0 rfl 3 rfl, trivial⟩, forallC ?_ (forallN)⟩
    refine segF 2 [.v (iv ((rdD p0 x4 z_Tile).N))] [0, 3, 4, 19] [(0, (sv Aa p0 ca)), (3, (iv x4)), (4, (pt g14)), (19, (iv ((rdD p0 x4 z_Tile).N)))] [] [0] [(1, ⟨g14, 0, none⟩, (iv ((rdD p0 x4 z_Tile).N)))] (fun fb => by kernel_rfl) rfl trivial rfl ?_
    obtain ⟨t21, ht22, hl10⟩ := bind_some hl10
    refine WL.call (some 20) 24 #[(iv ((rdD p0 x4 z_Tile).N))] (fun fb => by kernel_rfl) (ref01_colour_calls ((rdD p0 x4 z_Tile).N) t21 _ ht22) (fun v w23 hR24 => ?_)
    obtain ⟨rfl, hk_⟩ := hR24
    have hS25 := hS20.keepN hk_
    refine ⟨⟨hS25.cell 0 rfl 1 rfl, hS25.cell 0 rfl 2 rfl, hS25.cell 0 rfl 3 rfl, hS25.cell 0 rfl 0 rfl, hS25.cell 0 rfl 1 rfl, hS25.cell 0 rfl 2 rfl, hS25.cell 0 rfl 3 rfl, trivial⟩, ?_⟩
    refine sg 5 [] [0, 3, 4, 22] [(0, (sv Aa p0 ca)), (3, (iv x4)), (4, (pt g14)), (22, (bv (!t21)))] (by kernel_rfl) ?_
    obtain ⟨x26, hx27, hl10⟩ := bind_some hl10
    refine WL.cutW (T := Bool) 10 (fun t => [(0, (sv Aa p0 ca)), (3, (iv x4)), (4, (pt g14)), (27, (bv t))]) (fun t w1 => (St NoS w w1 [rowR enc_Tile Aa ca p0] [blk g14 (.cells #[(iv ((rdD p0 x4 z_Tile).N)), (iv ((rdD p0 x4 z_Tile).E)), (iv ((rdD p0 x4 z_Tile).S)), (iv ((rdD p0 x4 z_Tile).W))] 48 (0, 0))] ∧ x26 = t) ∧ CellsOK [] w1) (fun K => ?_) ?_
    ·
     rcases br_some hx27 with ⟨h28, hx27⟩ | ⟨h28, hx27⟩
     ·
      refine WL.setB 22 h28 rfl ?_
      refine sg 10 [] [0, 3, 4, 27] [(0, (sv Aa p0 ca)), (3, (iv x4)), (4, (pt g14)), (27, (bv true))] (by kernel_rfl) ?_
      injection hx27 with hx27
      exact WL.to K true [0, 3, 4, 27] rfl ⟨⟨(hS25.subR [0]).sub [0] (by decide), hx27.symm⟩, trivial⟩
     refine WL.setB 22 h28 rfl ?_
     refine segF 7 [.v (iv ((rdD p0 x4 z_Tile).E))] [0, 3, 4, 22, 24] [(0, (sv Aa p0 ca)), (3, (iv x4)), (4, (pt g14)), (22, (bv false)), (24, (iv ((rdD p0 x4 z_Tile).E)))] [] [1] [(6, ⟨g14, 1, none⟩, (iv ((rdD p0 x4 z_Tile).E)))] (fun fb => by kernel_rfl) rfl trivial rfl ?_
     obtain ⟨t29, ht30, hx27⟩ := bind_some hx27
     refine WL.call (some 25) 24 #[(iv ((rdD p0 x4 z_Tile).E))] (fun fb => by kernel_rfl) (ref01_colour_calls ((rdD p0 x4 z_Tile).E) t29 _ ht30) (fun v w31 hR32 => ?_)
     obtain ⟨rfl, hk_⟩ := hR32
     have hS33 := hS25.keepN hk_
     refine ⟨⟨hS33.cell 0 rfl 2 rfl, hS33.cell 0 rfl 3 rfl, hS33.cell 0 rfl 0 rfl, hS33.cell 0 rfl 1 rfl, hS33.cell 0 rfl 2 rfl, hS33.cell 0 rfl 3 rfl, trivial⟩, ?_⟩
     refine sg 10 [] [0, 3, 4, 27] [(0, (sv Aa p0 ca)), (3, (iv x4)), (4, (pt g14)), (27, (bv (!t29)))] (by kernel_rfl) ?_
     injection hx27 with hx27
     exact WL.to K (!t29) [0, 3, 4, 27] rfl ⟨⟨(hS33.subR [0]).sub [0] (by decide), hx27.symm⟩, trivial⟩
    rintro y34 w36 ⟨⟨hS37, hq35⟩, hF38⟩
    subst hq35
    refine sg 11 [] [0, 3, 4, 28] [(0, (sv Aa p0 ca)), (3, (iv x4)), (4, (pt g14)), (28, (bv x26))] (by kernel_rfl) ?_
    obtain ⟨x39, hx40, hl10⟩ := bind_some hl10
    refine WL.cutW (T := Bool) 16 (fun t => [(0, (sv Aa p0 ca)), (3, (iv x4)), (4, (pt g14)), (33, (bv t))]) (fun t w1 => (St NoS w w1 [rowR enc_Tile Aa ca p0] [blk g14 (.cells #[(iv ((rdD p0 x4 z_Tile).N)), (iv ((rdD p0 x4 z_Tile).E)), (iv ((rdD p0 x4 z_Tile).S)), (iv ((rdD p0 x4 z_Tile).W))] 48 (0, 0))] ∧ x39 = t) ∧ CellsOK [] w1) (fun K => ?_) ?_
    ·
     rcases br_some hx40 with ⟨h41, hx40⟩ | ⟨h41, hx40⟩
     ·
      refine WL.setB 28 h41 rfl ?_
      refine sg 16 [] [0, 3, 4, 33] [(0, (sv Aa p0 ca)), (3, (iv x4)), (4, (pt g14)), (33, (bv true))] (by kernel_rfl) ?_
      injection hx40 with hx40
      exact WL.to K true [0, 3, 4, 33] rfl ⟨⟨(hS37.subR [0]).sub [0] (by decide), hx40.symm⟩, trivial⟩
     refine WL.setB 28 h41 rfl ?_
     refine segF 13 [.v (iv ((rdD p0 x4 z_Tile).S))] [0, 3, 4, 28, 30] [(0, (sv Aa p0 ca)), (3, (iv x4)), (4, (pt g14)), (28, (bv false)), (30, (iv ((rdD p0 x4 z_Tile).S)))] [] [2] [(12, ⟨g14, 2, none⟩, (iv ((rdD p0 x4 z_Tile).S)))] (fun fb => by kernel_rfl) rfl trivial rfl ?_
     obtain ⟨t42, ht43, hx40⟩ := bind_some hx40
     refine WL.call (some 31) 24 #[(iv ((rdD p0 x4 z_Tile).S))] (fun fb => by kernel_rfl) (ref01_colour_calls ((rdD p0 x4 z_Tile).S) t42 _ ht43) (fun v w44 hR45 => ?_)
     obtain ⟨rfl, hk_⟩ := hR45
     have hS46 := hS37.keepN hk_
     refine ⟨⟨hS46.cell 0 rfl 3 rfl, hS46.cell 0 rfl 0 rfl, hS46.cell 0 rfl 1 rfl, hS46.cell 0 rfl 2 rfl, hS46.cell 0 rfl 3 rfl, trivial⟩, ?_⟩
     refine sg 16 [] [0, 3, 4, 33] [(0, (sv Aa p0 ca)), (3, (iv x4)), (4, (pt g14)), (33, (bv (!t42)))] (by kernel_rfl) ?_
     injection hx40 with hx40
     exact WL.to K (!t42) [0, 3, 4, 33] rfl ⟨⟨(hS46.subR [0]).sub [0] (by decide), hx40.symm⟩, trivial⟩
    rintro y47 w49 ⟨⟨hS50, hq48⟩, hF51⟩
    subst hq48
    refine sg 17 [] [0, 3, 4, 34] [(0, (sv Aa p0 ca)), (3, (iv x4)), (4, (pt g14)), (34, (bv x39))] (by kernel_rfl) ?_
    obtain ⟨x52, hx53, hl10⟩ := bind_some hl10
    refine WL.cutW (T := Bool) 22 (fun t => [(0, (sv Aa p0 ca)), (3, (iv x4)), (4, (pt g14)), (39, (bv t))]) (fun t w1 => (St NoS w w1 [rowR enc_Tile Aa ca p0] [blk g14 (.cells #[(iv ((rdD p0 x4 z_Tile).N)), (iv ((rdD p0 x4 z_Tile).E)), (iv ((rdD p0 x4 z_Tile).S)), (iv ((rdD p0 x4 z_Tile).W))] 48 (0, 0))] ∧ x52 = t) ∧ CellsOK [] w1) (fun K => ?_) ?_
    ·
     rcases br_some hx53 with ⟨h54, hx53⟩ | ⟨h54, hx53⟩
     ·
      refine WL.setB 34 h54 rfl ?_
      refine sg 22 [] [0, 3, 4, 39] [(0, (sv Aa p0 ca)), (3, (iv x4)), (4, (pt g14)), (39, (bv true))] (by kernel_rfl) ?_
      injection hx53 with hx53
      exact WL.to K true [0, 3, 4, 39] rfl ⟨⟨(hS50.subR [0]).sub [0] (by decide), hx53.symm⟩, trivial⟩
     refine WL.setB 34 h54 rfl ?_
     refine segF 19 [.v (iv ((rdD p0 x4 z_Tile).W))] [0, 3, 4, 34, 36] [(0, (sv Aa p0 ca)), (3, (iv x4)), (4, (pt g14)), (34, (bv false)), (36, (iv ((rdD p0 x4 z_Tile).W)))] [] [3] [(18, ⟨g14, 3, none⟩, (iv ((rdD p0 x4 z_Tile).W)))] (fun fb => by kernel_rfl) rfl trivial rfl ?_
     obtain ⟨t55, ht56, hx53⟩ := bind_some hx53
     refine WL.call (some 37) 24 #[(iv ((rdD p0 x4 z_Tile).W))] (fun fb => by kernel_rfl) (ref01_colour_calls ((rdD p0 x4 z_Tile).W) t55 _ ht56) (fun v w57 hR58 => ?_)
     obtain ⟨rfl, hk_⟩ := hR58
     have hS59 := hS50.keepN hk_
     refine ⟨⟨hS59.cell 0 rfl 0 rfl, hS59.cell 0 rfl 1 rfl, hS59.cell 0 rfl 2 rfl, hS59.cell 0 rfl 3 rfl, trivial⟩, ?_⟩
     refine sg 22 [] [0, 3, 4, 39] [(0, (sv Aa p0 ca)), (3, (iv x4)), (4, (pt g14)), (39, (bv (!t55)))] (by kernel_rfl) ?_
     injection hx53 with hx53
     exact WL.to K (!t55) [0, 3, 4, 39] rfl ⟨⟨(hS59.subR [0]).sub [0] (by decide), hx53.symm⟩, trivial⟩
    rintro y60 w62 ⟨⟨hS63, hq61⟩, hF65⟩
    subst hq61
    refine sg 23 [] [0, 3, 4, 40] [(0, (sv Aa p0 ca)), (3, (iv x4)), (4, (pt g14)), (40, (bv x52))] (by kernel_rfl) ?_
    obtain ⟨x66, hx67, hl10⟩ := bind_some hl10
    refine WL.cutW (T := Bool) 30 (fun t => [(0, (sv Aa p0 ca)), (3, (iv x4)), (47, (bv t))]) (fun t w1 => (St NoS w w1 [rowR enc_Tile Aa ca p0] [] ∧ x66 = t) ∧ CellsOK [] w1) (fun K => ?_) ?_
    ·
     rcases br_some hx67 with ⟨h68, hx67⟩ | ⟨h68, hx67⟩
     ·
      refine WL.setB 40 h68 rfl ?_
      refine sg 30 [] [0, 3, 47] [(0, (sv Aa p0 ca)), (3, (iv x4)), (47, (bv true))] (by kernel_rfl) ?_
      injection hx67 with hx67
      exact WL.to K true [0, 3, 47] rfl ⟨⟨(hS63.subR [0]).sub [] (by decide), hx67.symm⟩, trivial⟩
     refine WL.setB 40 h68 rfl ?_
     refine sg 25 [] [0, 3, 4, 40, 41, 42] [(0, (sv Aa p0 ca)), (3, (iv x4)), (4, (pt g14)), (40, (bv false)), (41, (sv Aa p0 ca)), (42, (iv x4))] (by kernel_rfl) ?_
     obtain ⟨h69, hx67⟩ := as_some hx67
     refine seg 26 [] [0, 3, 4, 40, 43] [(0, (sv Aa p0 ca)), (3, (iv x4)), (4, (pt g14)), (40, (bv false)), (43, (.slice (subA Aa ca (0 : Int).toNat 4) (x4.toNat - (0 : Int).toNat) (ca - (0 : Int).toNat)))] [.idx (some ⟨0, 0, none⟩) (0 : Int) (x4.toNat + 1), .idx (some ⟨0, 0, none⟩) x4 (ca + 1)] (fun fb => by kernel_rfl) rfl ⟨cut1 h69.1 h69.2.1, cut2 h69.1 h69.2.1 h69.2.2 (hS63.rd 0).1.2, trivial⟩ ?_
     refine WL.reE [0, 3, 4, 40, 43] [(0, (.slice Aa p0.length ca)), (3, (iv x4)), (4, (pt g14)), (40, (.bool false)), (43, (.slice (subA Aa ca (0 : Int).toNat 4) (x4.toNat - (0 : Int).toNat) (ca - (0 : Int).toNat)))] [(0, (.slice Aa p0.length ca)), (3, (iv x4)), (4, (pt g14)), (40, (.bool false)), (43, (.slice (subA Aa ca (0 : Int).toNat 4) (cut p0 (0 : Int) x4).length (ca - (0 : Int).toNat)))] rfl (by rw [cut_length h69.1 h69.2.1 h69.2.2]) ?_
     have hS70 := hS63.cutR 0 rfl h69.1 h69.2.1 h69.2.2
     refine segF 27 [.v (iv ((rdD p0 x4 z_Tile).N)), .v (iv ((rdD p0 x4 z_Tile).E)), .v (iv ((rdD p0 x4 z_Tile).S)), .v (iv ((rdD p0 x4 z_Tile).W))] [0, 3, 40, 43, 44] [(0, (sv Aa p0 ca)), (3, (iv x4)), (40, (bv false)), (43, (sv (subA Aa ca (0 : Int).toNat 4) (cut p0 (0 : Int) x4) (ca - (0 : Int).toNat))), (44, (.agg #[(iv ((rdD p0 x4 z_Tile).N)), (iv ((rdD p0 x4 z_Tile).E)), (iv ((rdD p0 x4 z_Tile).S)), (iv ((rdD p0 x4 z_Tile).W))]))] [] [4, 5, 6, 7] [(26, ⟨g14, 0, none⟩, (iv ((rdD p0 x4 z_Tile).N))), (26, ⟨g14, 1, none⟩, (iv ((rdD p0 x4 z_Tile).E))), (26, ⟨g14, 2, none⟩, (iv ((rdD p0 x4 z_Tile).S))), (26, ⟨g14, 3, none⟩, (iv ((rdD p0 x4 z_Tile).W)))] (fun fb => by kernel_rfl) rfl trivial rfl ?_
     obtain ⟨t71, ht72, hx67⟩ := bind_some hx67
     refine WL.call (some 45) 25 #[(sv (subA Aa ca (0 : Int).toNat 4) (cut p0 (0 : Int) x4) (ca - (0 : Int).toNat)), (.agg #[(iv ((rdD p0 x4 z_Tile).N)), (iv ((rdD p0 x4 z_Tile).E)), (iv ((rdD p0 x4 z_Tile).S)), (iv ((rdD p0 x4 z_Tile).W))])] (fun fb => by kernel_rfl) (ref01_Index_calls _ (cut p0 (0 : Int) x4) (rdD p0 x4 z_Tile) (subA Aa ca (0 : Int).toNat 4) (ca - (0 : Int).toNat) t71 _ (hS70.rd 0) ht72) (fun v w73 hR74 => ?_)
     obtain ⟨rfl, hk_⟩ := hR74
     have hS75 := hS70.keepN hk_
     refine ⟨trivial, ?_⟩
     refine sg 30 [] [0, 3, 47] [(0, (sv Aa p0 ca)), (3, (iv x4)), (47, (bv (decide (t71 ≥ 0))))] (by kernel_rfl) ?_
     injection hx67 with hx67
     exact WL.to K (decide (t71 ≥ 0)) [0, 3, 47] rfl ⟨⟨(hS75.subR [1]).sub [] (by decide), hx67.symm⟩, trivial⟩
    rintro y76 w78 ⟨⟨hS79, hq77⟩, hF80⟩
    subst hq77
    refine WL.done rfl (WX.next ?_)
    rcases br_some hl10 with ⟨h81, hl10⟩ | ⟨h81, hl10⟩
    ·refine WC.condT2 (fun fb => by kernel_rfl) h81 ?_
     refine WC.seq (WC.region ?_)
     refine sg 1 [] [2] [(2, (bv false))] (by kernel_rfl) ?_
     refine WL.done rfl (WX.next ?_)
     refine WC.ret ?_
     injection hl10 with hl10
     subst hl10
     injection hf with hf
     subst hf
     exact WX.blockR (WX.thenR (WX.thenR (WX.blockR (WX.thenR (WX.ret_ [] (bv false) [] (fun fb => by kernel_rfl) trivial ⟨_, rfl, rfl, hS79.keep⟩)))))
    refine WC.condF2 (fun fb => by kernel_rfl) h81 ?_
    refine WC.skip ?_
    refine WX.blockN (WX.next ?_)
    refine WC.region ?_
    refine sg 3 [] [0, 3] [(0, (sv Aa p0 ca)), (3, (iv (w64 (x4 + 1))))] (by kernel_rfl) ?_
    refine WL.done rfl ?_
    exact WX.again k7 (Nat.lt_succ_self _) (w64 (x4 + 1)) [0, 3] rfl ⟨(hS79.subR [0]).sub [] (by decide), hl10⟩
   refine WC.condF2 (fun fb => by kernel_rfl) h12 ?_
   refine WC.exit ?_
   injection hl10 with hl10
   exact WX.thenX (WX.thenX (WX.blockHere (WX.to Kx5 () [] rfl ⟨(hS9.subR [0]).sub [] (by decide), hl10.symm⟩)))
 rintro y85 w82 ⟨hS83, hq84⟩
 subst hq84
 have hf := sum_inr hf
 refine WX.next (WC.seq (WC.region ?_))
 refine sg 1 [] [2] [(2, (bv true))] (by kernel_rfl) ?_
 refine WL.done rfl (WX.next ?_)
 refine WC.ret ?_
 injection hf with hf
 subst hf
 exact WX.ret_ [] (bv true) [] (fun fb => by kernel_rfl) trivial ⟨_, rfl, rfl, hS83.keep⟩
theorem ref10_orders_calls : ∀ (k : Nat) (p0 : List Tile) (Aa : Option Addr) (ca : Nat) (r : (List (List Tile))) (w : World) (hR0 : RO NoS w (rowR enc_Tile Aa ca p0)) (hf : ref10_orders k p0 = some r),
  CallsR Try.prog 28 #[(sv Aa p0 ca)] w (fun v w' => ∃ (A1_ : Option Addr), ∃ (c1_ : Nat), ∃ (z1_ : HF), v = (sv A1_ r c1_) ∧ St NoS w w' [] [rowO 28 (encSl Tile) A1_ c1_ (tag z1_ r), rowsO 48 enc_Tile z1_ r]) := by
 intro k
 induction k with
 | zero => intro p0 Aa ca r w hR0 hf; rw [ref10_orders] at hf; cases hf
 | succ k ih_ =>
 intro p0 Aa ca r w hR0 hf
 have hS : St NoS w w [rowR enc_Tile Aa ca p0] [] := St.init (ro_cons hR0 (ro_nil _ _))
 rw [ref10_orders] at hf
 generalize ref10_orders k = rc_ at hf ih_
 refine enter 50 Try.func28 rfl Try.ntmps28 rfl ?_
 refine WC.seq (WC.region ?_)
 refine sg 1 [] [0] [(0, (sv Aa p0 ca))] (by kernel_rfl) ?_
 refine WL.done rfl (WX.next (WC.seq (WC.seq (WC.region ?_))))
 refine sg 3 [] [0, 10] [(0, (sv Aa p0 ca)), (10, (bv ((p0.length : Int) == 0)))] (by kernel_rfl) ?_
 refine WL.done rfl (WX.next ?_)
 rcases br_some hf with ⟨h3, hf⟩ | ⟨h3, hf⟩
 ·refine WC.condT2 (fun fb => by kernel_rfl) h3 ?_
  refine WC.seq (WC.region ?_)
  have hS4 := hS.nilrow 48 enc_Tile
  refine WL.new hS4 11 [] (fun g => (.slice (some ⟨g, 0, none⟩) 1 1)) (.cells #[(sv none ([] : List Tile) 0)] 28 (0, 0)) [] (fun fb g => by kernel_rfl) trivial (fun g5 w6 hS7 => ?_)
  refine ⟨trivial, ?_⟩
  have hS8 := hS.go w6 [rowO 28 (encSl Tile) (some ⟨g5, 0, none⟩) 1 (tag (fun _ => (none, 0)) [([] : List Tile)]), rowO 48 enc_Tile none 0 ([] : List Tile)] (hS7.map1 0 _ (fun h => rowO.ofBlk h rfl (Nat.le_of_ble_eq_true (by kernel_rfl))) (fun _ h => by obtain ⟨_, h1, h2⟩ := h; injection h1 with h1; subst h1; exact h2) [1] (by decide) (by decide))
  have hS9 := hS8.go w6 [rowsO 48 enc_Tile (fun _ => (none, 0)) [([] : List Tile)], rowO 28 (encSl Tile) (some ⟨g5, 0, none⟩) 1 (tag (fun _ => (none, 0)) [([] : List Tile)])] (hS8.rowsOne 1 rfl [0] (by decide) (by decide))
  refine sg 2 [] [2] [(2, (sv (some ⟨g5, 0, none⟩) [([] : List Tile)] 1))] (by kernel_rfl) ?_
  refine WL.done rfl (WX.next ?_)
  refine WC.ret ?_
  injection hf with hf
  subst hf
  exact WX.thenR (WX.ret_ [] (sv (some ⟨g5, 0, none⟩) [([] : List Tile)] 1) [] (fun fb => by kernel_rfl) trivial ⟨_, rfl, (some ⟨g5, 0, none⟩), 1, (fun _ => (none, 0)), rfl, (hS9.sub [1, 0] (by decide)).noR⟩)
 refine WC.condF2 (fun fb => by kernel_rfl) h3 ?_
 refine WC.skip (WX.next (WC.seq (WC.region ?_)))
 refine sg 1 [] [0, 3] [(0, (sv Aa p0 ca)), (3, (.slice none 0 0))] (by kernel_rfl) ?_
 refine WL.done rfl (WX.next (WC.seq (WC.seq (WC.region ?_))))
 refine sg 1 [] [0, 3, 4] [(0, (sv Aa p0 ca)), (3, (.slice none 0 0)), (4, (iv 0))] (by kernel_rfl) ?_
 refine WL.done rfl (WX.next ?_)
 have hS11 := hS.go w [rowO 28 (encSl Tile) none 0 (tag hf0 ([] : List (List Tile)))] (hS.nilrow 28 (encSl Tile))
 have hS12 := hS11.go w [rowsO 48 enc_Tile hf0 ([] : List (List Tile)), rowO 28 (encSl Tile) none 0 (tag hf0 ([] : List (List Tile)))] (hS11.rowsNil 48 enc_Tile 0)
 obtain ⟨x21, hx22, hf⟩ := bind_some hf
 refine WC.cutN (T := (List (List Tile)) × (Option Addr) × Nat × HF) (fun t => [(3, (sv t.2.1 t.1 t.2.2.1))]) (fun t w1 => St NoS w w1 [rowR enc_Tile Aa ca p0] [rowO 28 (encSl Tile) t.2.1 t.2.2.1 (tag t.2.2.2 t.1), rowsO 48 enc_Tile t.2.2.2 t.1] ∧ x21 = t.1) (fun Kx21 => ?_) ?_
 ·
  refine WC.block ?_
  refine WC.loop (T := ((List (List Tile)) × Int) × (Option Addr) × Nat × HF) (fun t => [(0, (sv Aa p0 ca)), (3, (sv t.2.1 t.1.1 t.2.2.1)), (4, (iv t.1.2))]) (fun n t w1 => St NoS w w1 [rowR enc_Tile Aa ca p0] [rowO 28 (encSl Tile) t.2.1 t.2.2.1 (tag t.2.2.2 t.1.1), rowsO 48 enc_Tile t.2.2.2 t.1.1] ∧ ref10_orders.l0 n t.1.1 t.1.2 p0 rc_ = some x21) k ((([] : List (List Tile)), 0), none, 0, hf0) [0, 3, 4] rfl ⟨(hS12.subR [0]).sub [1, 0] (by decide), hx22⟩ ?_
  rintro k23 ⟨⟨l15, x17⟩, A13, c14, H16⟩ w24 ⟨hS25, hl26⟩
  cases k23 with
  | zero => rw [ref10_orders.l0] at hl26; cases hl26
  | succ k23 =>
   rw [ref10_orders.l0] at hl26
   refine WC.seq (WC.seq (WC.region ?_))
   refine sg 4 [] [0, 3, 4, 15] [(0, (sv Aa p0 ca)), (3, (sv A13 l15 c14)), (4, (iv x17)), (15, (bv (decide (x17 < (p0.length : Int)))))] (by kernel_rfl) ?_
   refine WL.done rfl (WX.next ?_)
   rcases br_some hl26 with ⟨h27, hl26⟩ | ⟨h27, hl26⟩
   ·refine WC.condT2 (fun fb => by kernel_rfl) h27 ?_
    refine WC.skip (WX.next (WC.seq (WC.block (WC.seq ?_))))
    obtain ⟨h31, hl26⟩ := as_some hl26
    obtain ⟨h32, hl26⟩ := as_some hl26
    refine WC.regionD ([], [1, 2, 3, 5, 6, 7, 8, 10], [[], [], [], [1, 2], [0, 1, 2, 3], [], [], [6], [5, 6, 7], [0, 1, 2, 3, 4, 5, 6, 7, 8], [0, 1, 2, 3, 4, 5, 6, 7, 8, 9]]) [[1, 2, 3, 5, 6, 7, 8, 0, 4, 9, 10]] (by kernel_rfl) (by kernel_rfl) (NoPanic.seq (NoPanic.block (NoPanic.seq (NoPanic.seq (NoPanic.block (NoPanic.seq (NoPanic.body))))))) ?_
    have hS30 := hS25.drew
    revert hS30
    generalize World.drew w24 = w29
    intro hS30
    refine ⟨trivial, forallC ?_ (forallN)⟩
    refine sg 2 [] [0, 3, 4, 19, 20] [(0, (sv Aa p0 ca)), (3, (sv A13 l15 c14)), (4, (iv x17)), (19, (sv Aa p0 ca)), (20, (iv x17))] (by kernel_rfl) ?_
    refine seg 3 [] [0, 3, 4, 21] [(0, (sv Aa p0 ca)), (3, (sv A13 l15 c14)), (4, (iv x17)), (21, (.slice (subA Aa ca (0 : Int).toNat 4) (x17.toNat - (0 : Int).toNat) (ca - (0 : Int).toNat)))] [.idx (some ⟨0, 0, none⟩) (0 : Int) (x17.toNat + 1), .idx (some ⟨0, 0, none⟩) x17 (ca + 1)] (fun fb => by kernel_rfl) rfl ⟨cut1 h31.1 h31.2.1, cut2 h31.1 h31.2.1 h31.2.2 (hS30.rd 0).1.2, trivial⟩ ?_
    refine WL.reE [0, 3, 4, 21] [(0, (.slice Aa p0.length ca)), (3, (.slice A13 l15.length c14)), (4, (iv x17)), (21, (.slice (subA Aa ca (0 : Int).toNat 4) (x17.toNat - (0 : Int).toNat) (ca - (0 : Int).toNat)))] [(0, (.slice Aa p0.length ca)), (3, (.slice A13 l15.length c14)), (4, (iv x17)), (21, (.slice (subA Aa ca (0 : Int).toNat 4) (cut p0 (0 : Int) x17).length (ca - (0 : Int).toNat)))] rfl (by rw [cut_length h31.1 h31.2.1 h31.2.2]) ?_
    have hS33 := hS30.cutR 0 rfl h31.1 h31.2.1 h31.2.2
    refine sg 6 [] [0, 3, 4, 21, 23, 25] [(0, (sv Aa p0 ca)), (3, (sv A13 l15 c14)), (4, (iv x17)), (21, (sv (subA Aa ca (0 : Int).toNat 4) (cut p0 (0 : Int) x17) (ca - (0 : Int).toNat))), (23, (sv Aa p0 ca)), (25, (iv (w64 (x17 + 1))))] (by kernel_rfl) ?_
    refine seg 7 [] [0, 3, 4, 21, 26] [(0, (sv Aa p0 ca)), (3, (sv A13 l15 c14)), (4, (iv x17)), (21, (sv (subA Aa ca (0 : Int).toNat 4) (cut p0 (0 : Int) x17) (ca - (0 : Int).toNat))), (26, (.slice (subA Aa ca (w64 (x17 + 1)).toNat 4) ((p0.length : Int).toNat - (w64 (x17 + 1)).toNat) (ca - (w64 (x17 + 1)).toNat)))] [.idx (some ⟨0, 0, none⟩) (w64 (x17 + 1)) ((p0.length : Int).toNat + 1), .idx (some ⟨0, 0, none⟩) (p0.length : Int) (ca + 1)] (fun fb => by kernel_rfl) rfl ⟨cut1 h32.1 h32.2.1, cut2 h32.1 h32.2.1 h32.2.2 (hS33.rd 1).1.2, trivial⟩ ?_
    refine WL.reE [0, 3, 4, 21, 26] [(0, (.slice Aa p0.length ca)), (3, (.slice A13 l15.length c14)), (4, (iv x17)), (21, (.slice (subA Aa ca (0 : Int).toNat 4) (cut p0 (0 : Int) x17).length (ca - (0 : Int).toNat))), (26, (.slice (subA Aa ca (w64 (x17 + 1)).toNat 4) ((p0.length : Int).toNat - (w64 (x17 + 1)).toNat) (ca - (w64 (x17 + 1)).toNat)))] [(0, (.slice Aa p0.length ca)), (3, (.slice A13 l15.length c14)), (4, (iv x17)), (21, (.slice (subA Aa ca (0 : Int).toNat 4) (cut p0 (0 : Int) x17).length (ca - (0 : Int).toNat))), (26, (.slice (subA Aa ca (w64 (x17 + 1)).toNat 4) (cut p0 (w64 (x17 + 1)) (p0.length : Int)).length (ca - (w64 (x17 + 1)).toNat)))] rfl (by rw [cut_length h32.1 h32.2.1 h32.2.2]) ?_
    have hS34 := hS33.cutR 1 rfl h32.1 h32.2.1 h32.2.2
    refine WL.new hS34 18 [] (fun g => (.slice (some ⟨g, 0, none⟩) 0 0)) (.cells #[] 48 (0, 0)) [] (fun fb g => by kernel_rfl) trivial (fun g35 w36 hS37 => ?_)
    refine ⟨trivial, ?_⟩
    have hS38 : St NoS w w36 [rowR enc_Tile (subA Aa ca (w64 (x17 + 1)).toNat 4) (ca - (w64 (x17 + 1)).toNat) (cut p0 (w64 (x17 + 1)) (p0.length : Int)), rowR enc_Tile (subA Aa ca (0 : Int).toNat 4) (ca - (0 : Int).toNat) (cut p0 (0 : Int) x17), rowR enc_Tile Aa ca p0] [rowO 48 enc_Tile (some ⟨g35, 0, none⟩) 0 ([] : List Tile), rowO 28 (encSl Tile) A13 c14 (tag H16 l15), rowsO 48 enc_Tile H16 l15] := hS37.map1 0 _ (fun h => rowO.ofBlk h rfl (Nat.le_of_ble_eq_true (by kernel_rfl))) (fun _ h => by obtain ⟨_, h1, h2⟩ := h; injection h1 with h1; subst h1; exact h2) [1, 2] (by decide) (by decide)
    obtain ⟨h39, hl26⟩ := as_some hl26
    refine WL.append hS38 0 (d := 22) (tS := 28) (z := (.agg #[(iv 0), (iv 0), (iv 0), (iv 0)])) (bytes := 32) (c2 := (ca - (0 : Int).toNat)) rfl (fun fb => by kernel_rfl) (hS38.rd 1).1 (by kernel_rfl) (by kernel_rfl) rfl (by decide) h39 (by decide) [1, 2] (by decide) (by decide) (fun A40 c41 w42 hS43 => ?_)
    refine ⟨trivial, ?_⟩
    obtain ⟨h44, hl26⟩ := as_some hl26
    refine WL.append hS43 0 (d := 27) (tS := 28) (z := (.agg #[(iv 0), (iv 0), (iv 0), (iv 0)])) (bytes := 32) (c2 := (ca - (w64 (x17 + 1)).toNat)) rfl (fun fb => by kernel_rfl) (hS43.rd 0).1 (by kernel_rfl) (by kernel_rfl) rfl (by decide) h44 (by decide) [1, 2] (by decide) (by decide) (fun A45 c46 w47 hS48 => ?_)
    refine ⟨trivial, ?_⟩
    refine sg 11 [] [0, 3, 4, 5] [(0, (sv Aa p0 ca)), (3, (sv A13 l15 c14)), (4, (iv x17)), (5, (sv A45 ((([] : List Tile) ++ (cut p0 (0 : Int) x17)) ++ (cut p0 (w64 (x17 + 1)) (p0.length : Int))) c46))] (by kernel_rfl) ?_
    refine WL.done rfl (WX.next (WC.seq (WC.region ?_)))
    refine sg 1 [] [0, 3, 4, 28] [(0, (sv Aa p0 ca)), (3, (sv A13 l15 c14)), (4, (iv x17)), (28, (sv A45 ((([] : List Tile) ++ (cut p0 (0 : Int) x17)) ++ (cut p0 (w64 (x17 + 1)) (p0.length : Int))) c46))] (by kernel_rfl) ?_
    obtain ⟨t49, ht50, hl26⟩ := bind_some hl26
    refine WL.call (some 29) 28 #[(sv A45 ((([] : List Tile) ++ (cut p0 (0 : Int) x17)) ++ (cut p0 (w64 (x17 + 1)) (p0.length : Int))) c46)] (fun fb => by kernel_rfl) (ih_ ((([] : List Tile) ++ (cut p0 (0 : Int) x17)) ++ (cut p0 (w64 (x17 + 1)) (p0.length : Int))) A45 c46 t49 _ (hS48.ow 0).ofO ht50) (fun v w51 hR52 => ?_)
    obtain ⟨A54, c55, H56, rfl, hk_⟩ := hR52
    have hS53 := hS38.go w51 [rowO 28 (encSl Tile) A54 c55 (tag H56 t49), rowsO 48 enc_Tile H56 t49, rowO 48 enc_Tile A45 c46 ((([] : List Tile) ++ (cut p0 (0 : Int) x17)) ++ (cut p0 (w64 (x17 + 1)) (p0.length : Int))), rowO 28 (encSl Tile) A13 c14 (tag H16 l15), rowsO 48 enc_Tile H16 l15] (hS48.call hk_ [] [0, 1, 2] (fun g hg => hg.elim) (by simp) (by decide))
    refine ⟨trivial, ?_⟩
    refine sg 3 [] [0, 3, 4, 6] [(0, (sv Aa p0 ca)), (3, (sv A13 l15 c14)), (4, (iv x17)), (6, (sv A54 t49 c55))] (by kernel_rfl) ?_
    refine WL.done rfl (WX.next (WC.seq (WC.region ?_)))
    refine sg 1 [] [0, 3, 4, 6, 7] [(0, (sv Aa p0 ca)), (3, (sv A13 l15 c14)), (4, (iv x17)), (6, (sv A54 t49 c55)), (7, (iv 0))] (by kernel_rfl) ?_
    refine WL.done rfl (WX.next ?_)
    obtain ⟨x66, hx67, hl26⟩ := bind_some hl26
    refine WC.cutN (T := (List (List Tile)) × (Option Addr) × Nat × HF) (fun t => [(0, (sv Aa p0 ca)), (3, (sv t.2.1 t.1 t.2.2.1)), (4, (iv x17))]) (fun t w1 => St NoS w w1 [rowR enc_Tile (subA Aa ca (w64 (x17 + 1)).toNat 4) (ca - (w64 (x17 + 1)).toNat) (cut p0 (w64 (x17 + 1)) (p0.length : Int)), rowR enc_Tile (subA Aa ca (0 : Int).toNat 4) (ca - (0 : Int).toNat) (cut p0 (0 : Int) x17), rowR enc_Tile Aa ca p0] [rowO 28 (encSl Tile) t.2.1 t.2.2.1 (tag t.2.2.2 t.1), rowsO 48 enc_Tile t.2.2.2 t.1] ∧ x66 = t.1) (fun Kx66 => ?_) ?_
    ·
     refine WC.block ?_
     refine WC.loop (T := ((List (List Tile)) × Int) × (Option Addr) × Nat × HF) (fun t => [(0, (sv Aa p0 ca)), (3, (sv t.2.1 t.1.1 t.2.2.1)), (4, (iv x17)), (6, (sv A54 t49 c55)), (7, (iv t.1.2))]) (fun n t w1 => St NoS w w1 [rowR enc_Tile (subA Aa ca (w64 (x17 + 1)).toNat 4) (ca - (w64 (x17 + 1)).toNat) (cut p0 (w64 (x17 + 1)) (p0.length : Int)), rowR enc_Tile (subA Aa ca (0 : Int).toNat 4) (ca - (0 : Int).toNat) (cut p0 (0 : Int) x17), rowR enc_Tile Aa ca p0] [rowO 28 (encSl Tile) t.2.1 t.2.2.1 (tag t.2.2.2 t.1.1), rowsO 48 enc_Tile t.2.2.2 t.1.1, rowO 28 (encSl Tile) A54 c55 (tag H56 t49), rowsO 48 enc_Tile H56 t49] ∧ ref10_orders.l1 n t.1.1 t.1.2 p0 x17 t49 = some x66) k23 ((l15, 0), A13, c14, H16) [0, 3, 4, 6, 7] rfl ⟨(hS53.subR [0, 1, 2]).sub [3, 4, 0, 1] (by decide), hx67⟩ ?_
     rintro k68 ⟨⟨l59, x61⟩, A57, c58, H60⟩ w69 ⟨hS70, hl71⟩
     cases k68 with
     | zero => rw [ref10_orders.l1] at hl71; cases hl71
     | succ k68 =>
      rw [ref10_orders.l1] at hl71
      refine WC.seq (WC.seq (WC.region ?_))
      refine sg 4 [] [0, 3, 4, 6, 7, 33] [(0, (sv Aa p0 ca)), (3, (sv A57 l59 c58)), (4, (iv x17)), (6, (sv A54 t49 c55)), (7, (iv x61)), (33, (bv (decide (x61 < (t49.length : Int)))))] (by kernel_rfl) ?_
      refine WL.done rfl (WX.next ?_)
      rcases br_some hl71 with ⟨h72, hl71⟩ | ⟨h72, hl71⟩
      ·refine WC.condT2 (fun fb => by kernel_rfl) h72 ?_
       refine WC.skip (WX.next (WC.seq (WC.block ?_)))
       obtain ⟨h75, hl71⟩ := as_some hl71
       obtain ⟨h76, hl71⟩ := as_some hl71
       refine WC.regionD ([(4, ((adr Aa).add ((x17).toNat * 4)), (iv ((rdD p0 x17 z_Tile).N))), (4, (((adr Aa).add ((x17).toNat * 4)).add 1), (iv ((rdD p0 x17 z_Tile).E))), (4, (((adr Aa).add ((x17).toNat * 4)).add 2), (iv ((rdD p0 x17 z_Tile).S))), (4, (((adr Aa).add ((x17).toNat * 4)).add 3), (iv ((rdD p0 x17 z_Tile).W))), (9, ((adr A54).add ((x61).toNat * 1)), (sv ((H56 x61.toNat).1) (rdD t49 x61 []) ((H56 x61.toNat).2)))], [0, 1, 2, 3, 4, 6, 7, 8, 9, 13], [[], [], [], [1, 2], [1, 2, 3], [1, 2, 3, 4], [], [], [6, 7], [6, 7, 8], [1, 2, 3, 4, 5, 6, 7, 8, 9], [1, 2, 3, 4, 5, 6, 7, 8, 9, 10], [0, 1, 2, 3, 4, 5, 6, 7, 8, 9, 10, 11], [0, 1, 2, 3, 4, 5, 6, 7, 8, 9, 10, 11, 12]]) [[0, 1, 2, 3, 4, 6, 7, 8, 9, 5, 10, 11, 12, 13]] (by kernel_rfl) (by kernel_rfl) (NoPanic.block (NoPanic.seq (NoPanic.seq (NoPanic.block (NoPanic.block (NoPanic.seq (NoPanic.seq (NoPanic.block (NoPanic.seq (NoPanic.body)))))))))) ?_
       have hS74 := hS70.drew
       revert hS74
       generalize World.drew w69 = w73
       intro hS74
       refine ⟨⟨rowR.cell (hS74.rd 2).1 z_Tile h75.1 h75.2 0 rfl, rowR.cell (hS74.rd 2).1 z_Tile h75.1 h75.2 1 rfl, rowR.cell (hS74.rd 2).1 z_Tile h75.1 h75.2 2 rfl, rowR.cell (hS74.rd 2).1 z_Tile h75.1 h75.2 3 rfl, nrow_cell (rowO.rd (hS74.own 2).1) [] h76.1 h76.2 0 rfl, trivial⟩, forallC ?_ (forallN)⟩
       refine segF 9 [.v (iv ((rdD p0 x17 z_Tile).N)), .v (iv ((rdD p0 x17 z_Tile).E)), .v (iv ((rdD p0 x17 z_Tile).S)), .v (iv ((rdD p0 x17 z_Tile).W)), .v (sv ((H56 x61.toNat).1) (rdD t49 x61 []) ((H56 x61.toNat).2))] [0, 4, 6, 7, 36, 40, 45] [(0, (sv Aa p0 ca)), (4, (iv x17)), (6, (sv A54 t49 c55)), (7, (iv x61)), (36, (sv A57 l59 c58)), (40, (.agg #[(iv ((rdD p0 x17 z_Tile).N)), (iv ((rdD p0 x17 z_Tile).E)), (iv ((rdD p0 x17 z_Tile).S)), (iv ((rdD p0 x17 z_Tile).W))])), (45, (sv ((H56 x61.toNat).1) (rdD t49 x61 []) ((H56 x61.toNat).2)))] [.idx Aa x17 p0.length, .idx A54 x61 t49.length] [0, 1, 2, 3, 4] [(4, ((adr Aa).add ((x17).toNat * 4)), (iv ((rdD p0 x17 z_Tile).N))), (4, (((adr Aa).add ((x17).toNat * 4)).add 1), (iv ((rdD p0 x17 z_Tile).E))), (4, (((adr Aa).add ((x17).toNat * 4)).add 2), (iv ((rdD p0 x17 z_Tile).S))), (4, (((adr Aa).add ((x17).toNat * 4)).add 3), (iv ((rdD p0 x17 z_Tile).W))), (9, ((adr A54).add ((x61).toNat * 1)), (sv ((H56 x61.toNat).1) (rdD t49 x61 []) ((H56 x61.toNat).2)))] (fun fb => by kernel_rfl) rfl ⟨rowR.adr (hS74.rd 2).1 h75.1 h75.2, nrow_adr (rowO.rd (hS74.own 2).1) h76.1 h76.2, trivial⟩ rfl ?_
       refine WL.new hS74 41 [] (fun g => (.slice (some ⟨g, 0, none⟩) 1 1)) (.cells #[(iv ((rdD p0 x17 z_Tile).N)), (iv ((rdD p0 x17 z_Tile).E)), (iv ((rdD p0 x17 z_Tile).S)), (iv ((rdD p0 x17 z_Tile).W))] 48 (0, 0)) [] (fun fb g => by kernel_rfl) trivial (fun g77 w78 hS79 => ?_)
       refine ⟨⟨nrow_cell (rowO.rd (hS79.own 3).1) [] h76.1 h76.2 0 rfl, trivial⟩, ?_⟩
       have hS80 := hS53.go w78 [rowO 48 enc_Tile (some ⟨g77, 0, none⟩) 1 [(rdD p0 x17 z_Tile)], rowO 28 (encSl Tile) A57 c58 (tag H60 l59), rowsO 48 enc_Tile H60 l59, rowO 28 (encSl Tile) A54 c55 (tag H56 t49), rowsO 48 enc_Tile H56 t49] (hS79.map1 0 _ (fun h => rowO.ofBlk h rfl (Nat.le_of_ble_eq_true (by kernel_rfl))) (fun _ h => by obtain ⟨_, h1, h2⟩ := h; injection h1 with h1; subst h1; exact h2) [1, 2, 3, 4] (by decide) (by decide))
       obtain ⟨h81, hl71⟩ := as_some hl71
       refine WL.append hS80 0 (d := 46) (tS := 28) (z := (.agg #[(iv 0), (iv 0), (iv 0), (iv 0)])) (bytes := 32) (c2 := (H56 x61.toNat).2) rfl (fun fb => by kernel_rfl) (rowO.rd (rowsO.at (hS80.own 4).1 h76.1 h76.2)) (by kernel_rfl) (by kernel_rfl) rfl (by decide) h81 (by decide) [1, 2, 3, 4] (by decide) (by decide) (fun A82 c83 w84 hS85 => ?_)
       refine ⟨trivial, ?_⟩
       refine WL.new hS85 47 [] (fun g => (.slice (some ⟨g, 0, none⟩) 1 1)) (.cells #[(sv A82 ([(rdD p0 x17 z_Tile)] ++ (rdD t49 x61 [])) c83)] 28 (0, 0)) [] (fun fb g => by kernel_rfl) trivial (fun g86 w87 hS88 => ?_)
       refine ⟨trivial, ?_⟩
       have hS89 := hS80.go w87 [rowO 28 (encSl Tile) (some ⟨g86, 0, none⟩) 1 (tag (fun _ => (A82, c83)) [[(rdD p0 x17 z_Tile)] ++ (rdD t49 x61 [])]), rowO 48 enc_Tile A82 c83 ([(rdD p0 x17 z_Tile)] ++ (rdD t49 x61 [])), rowO 28 (encSl Tile) A57 c58 (tag H60 l59), rowsO 48 enc_Tile H60 l59, rowO 28 (encSl Tile) A54 c55 (tag H56 t49), rowsO 48 enc_Tile H56 t49] (hS88.map1 0 _ (fun h => rowO.ofBlk h rfl (Nat.le_of_ble_eq_true (by kernel_rfl))) (fun _ h => by obtain ⟨_, h1, h2⟩ := h; injection h1 with h1; subst h1; exact h2) [1, 2, 3, 4, 5] (by decide) (by decide))
       have hS90 := hS89.go w87 [rowsO 48 enc_Tile (fun _ => (A82, c83)) [[(rdD p0 x17 z_Tile)] ++ (rdD t49 x61 [])], rowO 28 (encSl Tile) (some ⟨g86, 0, none⟩) 1 (tag (fun _ => (A82, c83)) [[(rdD p0 x17 z_Tile)] ++ (rdD t49 x61 [])]), rowO 28 (encSl Tile) A57 c58 (tag H60 l59), rowsO 48 enc_Tile H60 l59, rowO 28 (encSl Tile) A54 c55 (tag H56 t49), rowsO 48 enc_Tile H56 t49] (hS89.rowsOne 1 rfl [0, 2, 3, 4, 5] (by decide) (by decide))
       obtain ⟨h91, hl71⟩ := as_some hl71
       refine WL.appendN hS90 2 (d := 48) (tS := 22) (z := (.slice none 0 0)) (bytes := 24) (c2 := 1) (hx := (A82, c83)) (x := ([(rdD p0 x17 z_Tile)] ++ (rdD t49 x61 []))) rfl (fun fb => by kernel_rfl) (rowO.rd (hS90.own 1).1) (by kernel_rfl) (by kernel_rfl) rfl (by decide) h91 (by decide) [0, 1, 3, 4, 5] (by decide) (by decide) (fun A92 c93 w94 hS95 => ?_)
       have hS96 := hS90.go w94 [rowsO 48 enc_Tile (updH H60 l59.length (A82, c83)) (l59 ++ [[(rdD p0 x17 z_Tile)] ++ (rdD t49 x61 [])]), rowO 28 (encSl Tile) A92 c93 (tag (updH H60 l59.length (A82, c83)) (l59 ++ [[(rdD p0 x17 z_Tile)] ++ (rdD t49 x61 [])])), rowO 28 (encSl Tile) (some ⟨g86, 0, none⟩) 1 (tag (fun _ => (A82, c83)) [[(rdD p0 x17 z_Tile)] ++ (rdD t49 x61 [])]), rowO 28 (encSl Tile) A54 c55 (tag H56 t49), rowsO 48 enc_Tile H56 t49] (hS95.rowsPush 3 1 rfl rfl (by decide) [0, 2, 4, 5] (by decide) (by decide))
       refine ⟨trivial, ?_⟩
       refine sg 14 [] [0, 3, 4, 6, 7] [(0, (sv Aa p0 ca)), (3, (sv A92 (l59 ++ [[(rdD p0 x17 z_Tile)] ++ (rdD t49 x61 [])]) c93)), (4, (iv x17)), (6, (sv A54 t49 c55)), (7, (iv x61))] (by kernel_rfl) ?_
       refine WL.done rfl ?_
       refine WX.blockN (WX.next ?_)
       refine WC.region ?_
       refine sg 3 [] [0, 3, 4, 6, 7] [(0, (sv Aa p0 ca)), (3, (sv A92 (l59 ++ [[(rdD p0 x17 z_Tile)] ++ (rdD t49 x61 [])]) c93)), (4, (iv x17)), (6, (sv A54 t49 c55)), (7, (iv (w64 (x61 + 1))))] (by kernel_rfl) ?_
       refine WL.done rfl ?_
       exact WX.again k68 (Nat.lt_succ_self _) ((l59 ++ [[(rdD p0 x17 z_Tile)] ++ (rdD t49 x61 [])], w64 (x61 + 1)), A92, c93, (updH H60 l59.length (A82, c83))) [0, 3, 4, 6, 7] rfl ⟨(hS96.subR [0, 1, 2]).sub [1, 0, 3, 4] (by decide), hl71⟩
      refine WC.condF2 (fun fb => by kernel_rfl) h72 ?_
      refine WC.exit ?_
      injection hl71 with hl71
      exact WX.thenX (WX.thenX (WX.blockHere (WX.to Kx66 (l59, A57, c58, H60) [0, 3, 4] rfl ⟨(hS70.subR [0, 1, 2]).sub [0, 1] (by decide), hl71.symm⟩)))
    rintro ⟨y100, A62, c63, H65⟩ w97 ⟨hS98, hq99⟩
    subst hq99
    refine WX.blockN (WX.next ?_)
    refine WC.region ?_
    refine sg 3 [] [0, 3, 4] [(0, (sv Aa p0 ca)), (3, (sv A62 x66 c63)), (4, (iv (w64 (x17 + 1))))] (by kernel_rfl) ?_
    refine WL.done rfl ?_
    exact WX.again k23 (Nat.lt_succ_self _) ((x66, w64 (x17 + 1)), A62, c63, H65) [0, 3, 4] rfl ⟨(hS98.subR [2]).sub [0, 1] (by decide), hl26⟩
   refine WC.condF2 (fun fb => by kernel_rfl) h27 ?_
   refine WC.exit ?_
   injection hl26 with hl26
   exact WX.thenX (WX.thenX (WX.blockHere (WX.to Kx21 (l15, A13, c14, H16) [3] rfl ⟨(hS25.subR [0]).sub [0, 1] (by decide), hl26.symm⟩)))
 rintro ⟨y104, A18, c19, H20⟩ w101 ⟨hS102, hq103⟩
 subst hq103
 refine WX.next (WC.seq (WC.region ?_))
 refine sg 2 [] [2] [(2, (sv A18 x21 c19))] (by kernel_rfl) ?_
 refine WL.done rfl (WX.next ?_)
 refine WC.ret ?_
 injection hf with hf
 subst hf
 exact WX.ret_ [] (sv A18 x21 c19) [] (fun fb => by kernel_rfl) trivial ⟨_, rfl, A18, c19, H20, rfl, (hS102.sub [0, 1] (by decide)).noR⟩
theorem ref10_renamed_calls (k : Nat) (p0 : List Int) (Aa : Option Addr) (ca : Nat) (r : (List Int)) (w : World) (hR0 : RO NoS w (rowR encInt Aa ca p0)) (hf : ref10_renamed k p0 = some r) :
  CallsR Try.prog 40 #[(sv Aa p0 ca)] w (fun v w' => ∃ (A1_ : Option Addr), ∃ (c1_ : Nat), v = (sv A1_ r c1_) ∧ St NoS w w' [] [rowO 3 encInt A1_ c1_ r]) := by
 have hS : St NoS w w [rowR encInt Aa ca p0] [] := St.init (ro_cons hR0 (ro_nil _ _))
 refine enter 46 Try.func40 rfl Try.ntmps40 rfl ?_
 unfold ref10_renamed at hf
 refine WC.seq (WC.region ?_)
 refine sg 1 [] [0] [(0, (sv Aa p0 ca))] (by kernel_rfl) ?_
 refine WL.done rfl (WX.next (WC.seq (WC.region ?_)))
 refine sg 2 [] [0, 3, 4] [(0, (sv Aa p0 ca)), (3, (.slice none 0 0)), (4, (.slice none 0 0))] (by kernel_rfl) ?_
 refine WL.done rfl (WX.next (WC.seq (WC.seq (WC.region ?_))))
 refine sg 1 [] [0, 3, 4, 5] [(0, (sv Aa p0 ca)), (3, (.slice none 0 0)), (4, (.slice none 0 0)), (5, (iv 0))] (by kernel_rfl) ?_
 refine WL.done rfl (WX.next ?_)
 have hS3 := hS.nilrow 3 encInt
 have hS4 := hS3.nilrow 3 encInt
 obtain ⟨x15, hx16, hf⟩ := bind_some hf
 refine WC.cutN (T := (List Int) × (Option Addr) × Nat) (fun t => [(4, (sv t.2.1 t.1 t.2.2))]) (fun t w1 => St NoS w w1 [rowR encInt Aa ca p0] [rowO 3 encInt t.2.1 t.2.2 t.1] ∧ x15 = t.1) (fun Kx15 => ?_) ?_
 ·
  refine WC.block ?_
  refine WC.loop (T := ((List Int) × (List Int) × Int) × (Option Addr) × Nat × (Option Addr) × Nat) (fun t => [(0, (sv Aa p0 ca)), (3, (sv t.2.1 t.1.1 t.2.2.1)), (4, (sv t.2.2.2.1 t.1.2.1 t.2.2.2.2)), (5, (iv t.1.2.2))]) (fun n t w1 => St NoS w w1 [rowR encInt Aa ca p0] [rowO 3 encInt t.2.1 t.2.2.1 t.1.1, rowO 3 encInt t.2.2.2.1 t.2.2.2.2 t.1.2.1] ∧ ref10_renamed.l0 n t.1.1 t.1.2.1 t.1.2.2 p0 = some x15) k ((([] : List Int), ([] : List Int), 0), none, 0, none, 0) [0, 3, 4, 5] rfl ⟨(hS4.subR [0]).sub [1, 0] (by decide), hx16⟩ ?_
  rintro k17 ⟨⟨l7, l11, x12⟩, A5, c6, A8, c9⟩ w18 ⟨hS19, hl20⟩
  cases k17 with
  | zero => rw [ref10_renamed.l0] at hl20; cases hl20
  | succ k17 =>
   rw [ref10_renamed.l0] at hl20
   refine WC.seq (WC.seq (WC.region ?_))
   refine sg 4 [] [0, 3, 4, 5, 10] [(0, (sv Aa p0 ca)), (3, (sv A5 l7 c6)), (4, (sv A8 l11 c9)), (5, (iv x12)), (10, (bv (decide (x12 < (p0.length : Int)))))] (by kernel_rfl) ?_
   refine WL.done rfl (WX.next ?_)
   rcases br_some hl20 with ⟨h21, hl20⟩ | ⟨h21, hl20⟩
   ·refine WC.condT2 (fun fb => by kernel_rfl) h21 ?_
    refine WC.skip (WX.next (WC.seq (WC.block (WC.seq (WC.region ?_)))))
    refine sg 1 [] [0, 3, 4, 5, 6] [(0, (sv Aa p0 ca)), (3, (sv A5 l7 c6)), (4, (sv A8 l11 c9)), (5, (iv x12)), (6, (iv 0))] (by kernel_rfl) ?_
    refine WL.done rfl (WX.next (WC.seq ?_))
    obtain ⟨x23, hx24, hl20⟩ := bind_some hl20
    refine WC.cutN (T := Int) (fun t => [(0, (sv Aa p0 ca)), (3, (sv A5 l7 c6)), (4, (sv A8 l11 c9)), (5, (iv x12)), (6, (iv t))]) (fun t w1 => St NoS w w1 [rowR encInt Aa ca p0] [rowO 3 encInt A5 c6 l7, rowO 3 encInt A8 c9 l11] ∧ x23 = t) (fun Kx23 => ?_) ?_
    ·
     refine WC.block ?_
     refine WC.loop (T := Int) (fun t => [(0, (sv Aa p0 ca)), (3, (sv A5 l7 c6)), (4, (sv A8 l11 c9)), (5, (iv x12)), (6, (iv t))]) (fun n t w1 => St NoS w w1 [rowR encInt Aa ca p0] [rowO 3 encInt A5 c6 l7, rowO 3 encInt A8 c9 l11] ∧ ref10_renamed.l1 n t p0 l7 x12 = some x23) k17 0 [0, 3, 4, 5, 6] rfl ⟨(hS19.subR [0]).sub [0, 1] (by decide), hx24⟩ ?_
     rintro k25 x22 w26 ⟨hS27, hl28⟩
     cases k25 with
     | zero => rw [ref10_renamed.l1] at hl28; cases hl28
     | succ k25 =>
      rw [ref10_renamed.l1] at hl28
      refine WC.seq (WC.seq ?_)
      obtain ⟨x29, hx30, hl28⟩ := bind_some hl28
      refine WC.cutN (T := Bool) (fun t => [(0, (sv Aa p0 ca)), (3, (sv A5 l7 c6)), (4, (sv A8 l11 c9)), (5, (iv x12)), (6, (iv x22)), (27, (bv t))]) (fun t w1 => St NoS w w1 [rowR encInt Aa ca p0] [rowO 3 encInt A5 c6 l7, rowO 3 encInt A8 c9 l11] ∧ x29 = t) (fun Kx29 => ?_) ?_
      ·
       rcases br_some hx30 with ⟨h31, hx30⟩ | ⟨h31, hx30⟩
       ·
        obtain ⟨h34, hx30⟩ := as_some hx30
        obtain ⟨h35, hx30⟩ := as_some hx30
        refine WC.regionD ([(8, ((adr A5).add ((x22).toNat * 1)), (iv (rdD l7 x22 0))), (12, ((adr Aa).add ((x12).toNat * 1)), (iv (rdD p0 x12 0)))], [0, 1, 2, 3, 4, 5, 6, 7, 8, 9, 10, 11, 12, 13, 14], [[], [], [1], [0, 1, 2], [0, 1, 2, 3], [0, 1, 2, 3, 4], [0, 1, 2, 3, 4], [0, 1, 2, 3, 4, 5, 6], [0, 1, 2, 3, 4, 5, 6, 7], [0, 1, 2, 3, 4], [0, 1, 2, 3, 4], [0, 1, 2, 3, 4, 9, 10], [0, 1, 2, 3, 4, 9, 10, 11], [0, 1, 2, 3, 4, 5, 6, 7, 8, 9, 10, 11, 12], [0, 1, 2, 3, 4, 5, 6, 7, 8, 9, 10, 11, 12, 13]]) [[0, 1, 2, 3, 4, 5, 6, 7, 8, 9, 10, 11, 12, 13, 14]] (by kernel_rfl) (by kernel_rfl) (NoPanic.seq (NoPanic.seq (NoPanic.seq (NoPanic.block (NoPanic.seq (NoPanic.block (NoPanic.seq (NoPanic.seq (NoPanic.block (NoPanic.seq (NoPanic.body))))))))))) ?_
        have hS33 := hS27.drew
        revert hS33
        generalize World.drew w26 = w32
        intro hS33
        refine ⟨⟨rowR.cell (rowO.rd (hS33.own 0).1) 0 h34.1 h34.2 0 rfl, rowR.cell (hS33.rd 0).1 0 h35.1 h35.2 0 rfl, trivial⟩, forallC ?_ (forallN)⟩
        refine sg 5 [] [0, 3, 4, 5, 6, 17] [(0, (sv Aa p0 ca)), (3, (sv A5 l7 c6)), (4, (sv A8 l11 c9)), (5, (iv x12)), (6, (iv x22)), (17, (bv (decide (x22 < (l7.length : Int)))))] (by kernel_rfl) ?_
        refine WL.setB 17 h31 rfl ?_
        refine segF 15 [.v (iv (rdD l7 x22 0)), .v (iv (rdD p0 x12 0))] [0, 3, 4, 5, 6, 27] [(0, (sv Aa p0 ca)), (3, (sv A5 l7 c6)), (4, (sv A8 l11 c9)), (5, (iv x12)), (6, (iv x22)), (27, (bv ((rdD l7 x22 0) != (rdD p0 x12 0))))] [.idx A5 x22 l7.length, .idx Aa x12 p0.length] [0, 1] [(8, ((adr A5).add ((x22).toNat * 1)), (iv (rdD l7 x22 0))), (12, ((adr Aa).add ((x12).toNat * 1)), (iv (rdD p0 x12 0)))] (fun fb => by kernel_rfl) rfl ⟨rowR.adr (rowO.rd (hS33.own 0).1) h34.1 h34.2, rowR.adr (hS33.rd 0).1 h35.1 h35.2, trivial⟩ rfl ?_
        refine WL.done rfl ?_
        injection hx30 with hx30
        exact WX.to Kx29 ((rdD l7 x22 0) != (rdD p0 x12 0)) [0, 3, 4, 5, 6, 27] rfl ⟨(hS33.subR [0]).sub [0, 1] (by decide), hx30.symm⟩
       refine WC.regionD ([], [0, 1, 2, 3, 4, 5, 6, 7, 8, 9, 10, 11, 12, 13, 14], [[], [], [1], [0, 1, 2], [0, 1, 2, 3], [0, 1, 2, 3, 4], [0, 1, 2, 3, 4], [0, 1, 2, 3, 4, 5, 6], [0, 1, 2, 3, 4, 5, 6, 7], [0, 1, 2, 3, 4], [0, 1, 2, 3, 4], [0, 1, 2, 3, 4, 9, 10], [0, 1, 2, 3, 4, 9, 10, 11], [0, 1, 2, 3, 4, 5, 6, 7, 8, 9, 10, 11, 12], [0, 1, 2, 3, 4, 5, 6, 7, 8, 9, 10, 11, 12, 13]]) [[0, 1, 2, 3, 4, 5, 6, 7, 8, 9, 10, 11, 12, 13, 14]] (by kernel_rfl) (by kernel_rfl) (NoPanic.seq (NoPanic.seq (NoPanic.seq (NoPanic.block (NoPanic.seq (NoPanic.block (NoPanic.seq (NoPanic.seq (NoPanic.block (NoPanic.seq (NoPanic.body))))))))))) ?_
       have hS37 := hS27.drew
       revert hS37
       generalize World.drew w26 = w36
       intro hS37
       refine ⟨trivial, forallC ?_ (forallN)⟩
       refine sg 5 [] [0, 3, 4, 5, 6, 17] [(0, (sv Aa p0 ca)), (3, (sv A5 l7 c6)), (4, (sv A8 l11 c9)), (5, (iv x12)), (6, (iv x22)), (17, (bv (decide (x22 < (l7.length : Int)))))] (by kernel_rfl) ?_
       refine WL.setB 17 h31 rfl ?_
       refine sg 15 [] [0, 3, 4, 5, 6, 27] [(0, (sv Aa p0 ca)), (3, (sv A5 l7 c6)), (4, (sv A8 l11 c9)), (5, (iv x12)), (6, (iv x22)), (27, (bv false))] (by kernel_rfl) ?_
       refine WL.done rfl ?_
       injection hx30 with hx30
       exact WX.to Kx29 false [0, 3, 4, 5, 6, 27] rfl ⟨(hS37.subR [0]).sub [0, 1] (by decide), hx30.symm⟩
      rintro y42 w38 ⟨hS39, hq41⟩
      subst hq41
      refine WX.next ?_
      rcases br_some hl28 with ⟨h43, hl28⟩ | ⟨h43, hl28⟩
      ·refine WC.condT2 (fun fb => by kernel_rfl) h43 ?_
       refine WC.skip (WX.next (WC.block (WC.region ?_)))
       refine sg 3 [] [0, 3, 4, 5, 6] [(0, (sv Aa p0 ca)), (3, (sv A5 l7 c6)), (4, (sv A8 l11 c9)), (5, (iv x12)), (6, (iv (w64 (x22 + 1))))] (by kernel_rfl) ?_
       refine WL.done rfl ?_
       exact WX.blockN (WX.again k25 (Nat.lt_succ_self _) (w64 (x22 + 1)) [0, 3, 4, 5, 6] rfl ⟨(hS39.subR [0]).sub [0, 1] (by decide), hl28⟩)
      refine WC.condF2 (fun fb => by kernel_rfl) h43 ?_
      refine WC.exit ?_
      injection hl28 with hl28
      exact WX.thenX (WX.thenX (WX.blockHere (WX.to Kx23 x22 [0, 3, 4, 5, 6] rfl ⟨(hS39.subR [0]).sub [0, 1] (by decide), hl28.symm⟩)))
    rintro y47 w44 ⟨hS45, hq46⟩
    subst hq46
    refine WX.next (WC.seq (WC.seq (WC.region ?_)))
    refine sg 4 [] [0, 3, 4, 5, 6, 33] [(0, (sv Aa p0 ca)), (3, (sv A5 l7 c6)), (4, (sv A8 l11 c9)), (5, (iv x12)), (6, (iv x23)), (33, (bv (x23 == (l7.length : Int))))] (by kernel_rfl) ?_
    refine WL.done rfl (WX.next ?_)
    obtain ⟨x50, hx51, hl20⟩ := bind_some hl20
    refine WC.cutN (T := (List Int) × (Option Addr) × Nat) (fun t => [(0, (sv Aa p0 ca)), (3, (sv t.2.1 t.1 t.2.2)), (4, (sv A8 l11 c9)), (5, (iv x12)), (6, (iv x23))]) (fun t w1 => St NoS w w1 [rowR encInt Aa ca p0] [rowO 3 encInt t.2.1 t.2.2 t.1, rowO 3 encInt A8 c9 l11] ∧ x50 = t.1) (fun Kx50 => ?_) ?_
    ·
     rcases br_some hx51 with ⟨h52, hx51⟩ | ⟨h52, hx51⟩
     ·refine WC.condT2 (fun fb => by kernel_rfl) h52 ?_
      refine WC.region ?_
      refine sg 3 [] [0, 4, 5, 6, 34, 35, 36] [(0, (sv Aa p0 ca)), (4, (sv A8 l11 c9)), (5, (iv x12)), (6, (iv x23)), (34, (sv A5 l7 c6)), (35, (sv Aa p0 ca)), (36, (iv x12))] (by kernel_rfl) ?_
      obtain ⟨h53, hx51⟩ := as_some hx51
      refine seg 5 [.v (iv (rdD p0 x12 0))] [0, 4, 5, 6, 34, 38] [(0, (sv Aa p0 ca)), (4, (sv A8 l11 c9)), (5, (iv x12)), (6, (iv x23)), (34, (sv A5 l7 c6)), (38, (iv (rdD p0 x12 0)))] [.idx Aa x12 p0.length, .cell ((adr Aa).add ((x12).toNat * 1)) (iv (rdD p0 x12 0))] (fun fb => by kernel_rfl) rfl ⟨rowR.adr (hS45.rd 0).1 h53.1 h53.2, rowR.cell (hS45.rd 0).1 0 h53.1 h53.2 0 rfl, trivial⟩ ?_
      refine WL.new hS45 39 [] (fun g => (.slice (some ⟨g, 0, none⟩) 1 1)) (.cells #[(iv (rdD p0 x12 0))] 3 (0, 0)) [] (fun fb g => by kernel_rfl) trivial (fun g54 w55 hS56 => ?_)
      refine ⟨trivial, ?_⟩
      have hS57 := hS.go w55 [rowO 3 encInt (some ⟨g54, 0, none⟩) 1 [(rdD p0 x12 0)], rowO 3 encInt A5 c6 l7, rowO 3 encInt A8 c9 l11] (hS56.map1 0 _ (fun h => rowO.ofBlk h rfl (Nat.le_of_ble_eq_true (by kernel_rfl))) (fun _ h => by obtain ⟨_, h1, h2⟩ := h; injection h1 with h1; subst h1; exact h2) [1, 2] (by decide) (by decide))
      obtain ⟨h58, hx51⟩ := as_some hx51
      refine WL.append hS57 1 (d := 40) (tS := 37) (z := (iv 0)) (bytes := 8) (c2 := 1) rfl (fun fb => by kernel_rfl) (rowO.rd (hS57.own 0).1) (by kernel_rfl) (by kernel_rfl) rfl (by decide) h58 (by decide) [0, 2] (by decide) (by decide) (fun A59 c60 w61 hS62 => ?_)
      refine ⟨trivial, ?_⟩
      refine sg 8 [] [0, 3, 4, 5, 6] [(0, (sv Aa p0 ca)), (3, (sv A59 (l7 ++ [(rdD p0 x12 0)]) c60)), (4, (sv A8 l11 c9)), (5, (iv x12)), (6, (iv x23))] (by kernel_rfl) ?_
      refine WL.done rfl ?_
      injection hx51 with hx51
      exact WX.to Kx50 (l7 ++ [(rdD p0 x12 0)], A59, c60) [0, 3, 4, 5, 6] rfl ⟨(hS62.subR [0]).sub [0, 2] (by decide), hx51.symm⟩
     refine WC.condF2 (fun fb => by kernel_rfl) h52 ?_
     refine WC.skip ?_
     injection hx51 with hx51
     exact WX.to Kx50 (l7, A5, c6) [0, 3, 4, 5, 6] rfl ⟨(hS45.subR [0]).sub [0, 1] (by decide), hx51.symm⟩
    rintro ⟨y67, A48, c49⟩ w63 ⟨hS65, hq66⟩
    subst hq66
    refine WX.next (WC.region ?_)
    refine sg 2 [] [0, 3, 5, 41, 42] [(0, (sv Aa p0 ca)), (3, (sv A48 x50 c49)), (5, (iv x12)), (41, (sv A8 l11 c9)), (42, (iv x23))] (by kernel_rfl) ?_
    refine WL.new hS65 43 [] (fun g => (.slice (some ⟨g, 0, none⟩) 1 1)) (.cells #[(iv x23)] 3 (0, 0)) [] (fun fb g => by kernel_rfl) trivial (fun g68 w69 hS70 => ?_)
    refine ⟨trivial, ?_⟩
    have hS71 := hS.go w69 [rowO 3 encInt (some ⟨g68, 0, none⟩) 1 [x23], rowO 3 encInt A48 c49 x50, rowO 3 encInt A8 c9 l11] (hS70.map1 0 _ (fun h => rowO.ofBlk h rfl (Nat.le_of_ble_eq_true (by kernel_rfl))) (fun _ h => by obtain ⟨_, h1, h2⟩ := h; injection h1 with h1; subst h1; exact h2) [1, 2] (by decide) (by decide))
    obtain ⟨h72, hl20⟩ := as_some hl20
    refine WL.append hS71 2 (d := 44) (tS := 37) (z := (iv 0)) (bytes := 8) (c2 := 1) rfl (fun fb => by kernel_rfl) (rowO.rd (hS71.own 0).1) (by kernel_rfl) (by kernel_rfl) rfl (by decide) h72 (by decide) [0, 1] (by decide) (by decide) (fun A73 c74 w75 hS76 => ?_)
    refine ⟨trivial, ?_⟩
    refine sg 5 [] [0, 3, 4, 5] [(0, (sv Aa p0 ca)), (3, (sv A48 x50 c49)), (4, (sv A73 (l11 ++ [x23]) c74)), (5, (iv x12))] (by kernel_rfl) ?_
    refine WL.done rfl ?_
    refine WX.blockN (WX.next ?_)
    refine WC.region ?_
    refine sg 3 [] [0, 3, 4, 5] [(0, (sv Aa p0 ca)), (3, (sv A48 x50 c49)), (4, (sv A73 (l11 ++ [x23]) c74)), (5, (iv (w64 (x12 + 1))))] (by kernel_rfl) ?_
    refine WL.done rfl ?_
    exact WX.again k17 (Nat.lt_succ_self _) ((x50, l11 ++ [x23], w64 (x12 + 1)), A48, c49, A73, c74) [0, 3, 4, 5] rfl ⟨(hS76.subR [0]).sub [2, 0] (by decide), hl20⟩
   refine WC.condF2 (fun fb => by kernel_rfl) h21 ?_
   refine WC.exit ?_
   injection hl20 with hl20
   exact WX.thenX (WX.thenX (WX.blockHere (WX.to Kx15 (l11, A8, c9) [4] rfl ⟨(hS19.subR [0]).sub [1] (by decide), hl20.symm⟩)))
 rintro ⟨y80, A13, c14⟩ w77 ⟨hS78, hq79⟩
 subst hq79
 refine WX.next (WC.seq (WC.region ?_))
 refine sg 2 [] [2] [(2, (sv A13 x15 c14))] (by kernel_rfl) ?_
 refine WL.done rfl (WX.next ?_)
 refine WC.ret ?_
 injection hf with hf
 subst hf
 exact WX.ret_ [] (sv A13 x15 c14) [] (fun fb => by kernel_rfl) trivial ⟨_, rfl, A13, c14, rfl, (hS78.sub [0] (by decide)).noR⟩
theorem ref10_named_calls (k : Nat) (p0 : List Tile) (Aa : Option Addr) (ca : Nat) (r : (List Tile)) (w : World) (hR0 : RO NoS w (rowR enc_Tile Aa ca p0)) (hf : ref10_named k p0 = some r) :
  CallsR Try.prog 26 #[(sv Aa p0 ca)] w (fun v w' => ∃ (A1_ : Option Addr), ∃ (c1_ : Nat), v = (sv A1_ r c1_) ∧ St NoS w w' [] [rowO 48 enc_Tile A1_ c1_ r]) := by
 have hS : St NoS w w [rowR enc_Tile Aa ca p0] [] := St.init (ro_cons hR0 (ro_nil _ _))
 refine enter 77 Try.func26 rfl Try.ntmps26 rfl ?_
 unfold ref10_named at hf
 refine WC.seq (WC.region ?_)
 refine sg 1 [] [0] [(0, (sv Aa p0 ca))] (by kernel_rfl) ?_
 refine WL.done rfl (WX.next (WC.seq (WC.region ?_)))
 refine sg 2 [] [0, 3, 4] [(0, (sv Aa p0 ca)), (3, (.slice none 0 0)), (4, (.slice none 0 0))] (by kernel_rfl) ?_
 refine WL.done rfl (WX.next (WC.seq (WC.seq (WC.region ?_))))
 refine sg 1 [] [0, 3, 4, 5] [(0, (sv Aa p0 ca)), (3, (.slice none 0 0)), (4, (.slice none 0 0)), (5, (iv 0))] (by kernel_rfl) ?_
 refine WL.done rfl (WX.next ?_)
 have hS3 := hS.nilrow 3 encInt
 have hS4 := hS3.nilrow 3 encInt
 obtain ⟨x17, hx18, hf⟩ := bind_some hf
 refine WC.cutN (T := ((List Int) × (List Int)) × (Option Addr) × Nat × (Option Addr) × Nat) (fun t => [(0, (sv Aa p0 ca)), (3, (sv t.2.1 t.1.1 t.2.2.1)), (4, (sv t.2.2.2.1 t.1.2 t.2.2.2.2))]) (fun t w1 => St NoS w w1 [rowR enc_Tile Aa ca p0] [rowO 3 encInt t.2.1 t.2.2.1 t.1.1, rowO 3 encInt t.2.2.2.1 t.2.2.2.2 t.1.2] ∧ x17 = t.1) (fun Kx17 => ?_) ?_
 ·
  refine WC.block ?_
  refine WC.loop (T := ((List Int) × (List Int) × Int) × (Option Addr) × Nat × (Option Addr) × Nat) (fun t => [(0, (sv Aa p0 ca)), (3, (sv t.2.1 t.1.1 t.2.2.1)), (4, (sv t.2.2.2.1 t.1.2.1 t.2.2.2.2)), (5, (iv t.1.2.2))]) (fun n t w1 => St NoS w w1 [rowR enc_Tile Aa ca p0] [rowO 3 encInt t.2.1 t.2.2.1 t.1.1, rowO 3 encInt t.2.2.2.1 t.2.2.2.2 t.1.2.1] ∧ ref10_named.l0 n t.1.1 t.1.2.1 t.1.2.2 p0 = some x17) k ((([] : List Int), ([] : List Int), 0), none, 0, none, 0) [0, 3, 4, 5] rfl ⟨(hS4.subR [0]).sub [1, 0] (by decide), hx18⟩ ?_
  rintro k19 ⟨⟨l7, l11, x12⟩, A5, c6, A8, c9⟩ w20 ⟨hS21, hl22⟩
  cases k19 with
  | zero => rw [ref10_named.l0] at hl22; cases hl22
  | succ k19 =>
   rw [ref10_named.l0] at hl22
   refine WC.seq (WC.seq (WC.region ?_))
   refine sg 4 [] [0, 3, 4, 5, 11] [(0, (sv Aa p0 ca)), (3, (sv A5 l7 c6)), (4, (sv A8 l11 c9)), (5, (iv x12)), (11, (bv (decide (x12 < (p0.length : Int)))))] (by kernel_rfl) ?_
   refine WL.done rfl (WX.next ?_)
   rcases br_some hl22 with ⟨h23, hl22⟩ | ⟨h23, hl22⟩
   ·refine WC.condT2 (fun fb => by kernel_rfl) h23 ?_
    refine WC.skip (WX.next (WC.seq (WC.block ?_)))
    obtain ⟨x29, hx30, hl22⟩ := bind_some hl22
    refine WC.cutN (T := ((List Int) × (List Int)) × (Option Addr) × Nat × (Option Addr) × Nat) (fun t => [(0, (sv Aa p0 ca)), (3, (sv t.2.1 t.1.1 t.2.2.1)), (4, (sv t.2.2.2.1 t.1.2 t.2.2.2.2)), (5, (iv x12))]) (fun t w1 => St NoS w w1 [rowR enc_Tile Aa ca p0] [rowO 3 encInt t.2.1 t.2.2.1 t.1.1, rowO 3 encInt t.2.2.2.1 t.2.2.2.2 t.1.2] ∧ x29 = t.1) (fun Kx29 => ?_) ?_
    ·
     obtain ⟨h33, hx30⟩ := as_some hx30
     refine WC.regionD ([(5, ((adr Aa).add ((x12).toNat * 4)), (iv ((rdD p0 x12 z_Tile).N))), (10, (((adr Aa).add ((x12).toNat * 4)).add 2), (iv ((rdD p0 x12 z_Tile).S))), (18, (((adr Aa).add ((x12).toNat * 4)).add 1), (iv ((rdD p0 x12 z_Tile).E))), (23, (((adr Aa).add ((x12).toNat * 4)).add 3), (iv ((rdD p0 x12 z_Tile).W)))], [0, 1, 2, 3, 4, 5, 6, 7, 8, 9, 10, 13, 14, 15, 16, 17, 18, 19, 20, 21, 22, 23, 26, 27], [[], [], [], [1, 2], [1, 2, 3], [1, 2, 3, 4], [], [], [6, 7], [6, 7, 8], [6, 7, 8, 9], [1, 2, 3, 4, 5, 6, 7, 8, 9, 10], [0, 1, 2, 3, 4, 5, 6, 7, 8, 9, 10, 11], [], [], [], [14, 15], [14, 15, 16], [14, 15, 16, 17], [], [], [19, 20], [19, 20, 21], [19, 20, 21, 22], [14, 15, 16, 17, 18, 19, 20, 21, 22, 23], [0, 1, 2, 3, 4, 5, 6, 7, 8, 9, 10, 11, 12, 13, 14, 15, 16, 17, 18, 19, 20, 21, 22, 23, 24], [0, 1, 2, 3, 4, 5, 6, 7, 8, 9, 10, 11, 12, 13, 14, 15, 16, 17, 18, 19, 20, 21, 22, 23, 24, 25], [0, 1, 2, 3, 4, 5, 6, 7, 8, 9, 10, 11, 12, 13, 14, 15, 16, 17, 18, 19, 20, 21, 22, 23, 24, 25, 26]]) [[0, 1, 2, 3, 4, 5, 6, 7, 8, 9, 10, 13, 14, 15, 16, 17, 18, 19, 20, 21, 22, 23, 11, 12, 24, 25, 26, 27], [0, 1, 2, 3, 4, 5, 6, 7, 8, 9, 10, 13, 14, 15, 16, 17, 18, 19, 20, 21, 22, 23, 11, 24, 12, 25, 26, 27], [0, 1, 2, 3, 4, 5, 6, 7, 8, 9, 10, 13, 14, 15, 16, 17, 18, 19, 20, 21, 22, 23, 24, 11, 12, 25, 26, 27]] (by kernel_rfl) (by kernel_rfl) (NoPanic.block (NoPanic.seq (NoPanic.seq (NoPanic.block (NoPanic.seq (NoPanic.body)))))) ?_
     have hS32 := hS21.drew
     revert hS32
     generalize World.drew w20 = w31
     intro hS32
     refine ⟨⟨rowR.cell (hS32.rd 0).1 z_Tile h33.1 h33.2 0 rfl, rowR.cell (hS32.rd 0).1 z_Tile h33.1 h33.2 2 rfl, rowR.cell (hS32.rd 0).1 z_Tile h33.1 h33.2 1 rfl, rowR.cell (hS32.rd 0).1 z_Tile h33.1 h33.2 3 rfl, trivial⟩, forallC ?_ (forallC ?_ (forallC ?_ (forallN)))⟩
     ·
      refine segF 22 [.v (iv ((rdD p0 x12 z_Tile).N)), .v (iv ((rdD p0 x12 z_Tile).S)), .v (iv ((rdD p0 x12 z_Tile).E)), .v (iv ((rdD p0 x12 z_Tile).W))] [0, 5, 14, 19, 24, 27, 32, 37] [(0, (sv Aa p0 ca)), (5, (iv x12)), (14, (sv A5 l7 c6)), (19, (iv ((rdD p0 x12 z_Tile).N))), (24, (iv ((rdD p0 x12 z_Tile).S))), (27, (sv A8 l11 c9)), (32, (iv ((rdD p0 x12 z_Tile).E))), (37, (iv ((rdD p0 x12 z_Tile).W)))] [.idx Aa x12 p0.length, .idx Aa x12 p0.length, .idx Aa x12 p0.length, .idx Aa x12 p0.length] [0, 1, 2, 3] [(5, ((adr Aa).add ((x12).toNat * 4)), (iv ((rdD p0 x12 z_Tile).N))), (10, (((adr Aa).add ((x12).toNat * 4)).add 2), (iv ((rdD p0 x12 z_Tile).S))), (18, (((adr Aa).add ((x12).toNat * 4)).add 1), (iv ((rdD p0 x12 z_Tile).E))), (23, (((adr Aa).add ((x12).toNat * 4)).add 3), (iv ((rdD p0 x12 z_Tile).W)))] (fun fb => by kernel_rfl) rfl ⟨rowR.adr (hS32.rd 0).1 h33.1 h33.2, rowR.adr (hS32.rd 0).1 h33.1 h33.2, rowR.adr (hS32.rd 0).1 h33.1 h33.2, rowR.adr (hS32.rd 0).1 h33.1 h33.2, trivial⟩ rfl ?_
      refine WL.new hS32 25 [] (fun g => (.slice (some ⟨g, 0, none⟩) 2 2)) (.cells #[(iv ((rdD p0 x12 z_Tile).N)), (iv ((rdD p0 x12 z_Tile).S))] 3 (0, 0)) [] (fun fb g => by kernel_rfl) trivial (fun g34 w35 hS36 => ?_)
      refine ⟨⟨rowR.cell (hS36.rd 0).1 z_Tile h33.1 h33.2 1 rfl, rowR.cell (hS36.rd 0).1 z_Tile h33.1 h33.2 3 rfl, trivial⟩, ?_⟩
      have hS37 := hS.go w35 [rowO 3 encInt (some ⟨g34, 0, none⟩) 2 [(rdD p0 x12 z_Tile).N, (rdD p0 x12 z_Tile).S], rowO 3 encInt A5 c6 l7, rowO 3 encInt A8 c9 l11] (hS36.map1 0 _ (fun h => rowO.ofBlk h rfl (Nat.le_of_ble_eq_true (by kernel_rfl))) (fun _ h => by obtain ⟨_, h1, h2⟩ := h; injection h1 with h1; subst h1; exact h2) [1, 2] (by decide) (by decide))
      obtain ⟨h38, hx30⟩ := as_some hx30
      refine WL.append hS37 1 (d := 26) (tS := 37) (z := (iv 0)) (bytes := 8) (c2 := 2) rfl (fun fb => by kernel_rfl) (rowO.rd (hS37.own 0).1) (by kernel_rfl) (by kernel_rfl) rfl (by decide) h38 (by decide) [0, 2] (by decide) (by decide) (fun A39 c40 w41 hS42 => ?_)
      refine ⟨⟨rowR.cell (hS42.rd 0).1 z_Tile h33.1 h33.2 1 rfl, rowR.cell (hS42.rd 0).1 z_Tile h33.1 h33.2 3 rfl, trivial⟩, ?_⟩
      refine WL.new hS42 38 [] (fun g => (.slice (some ⟨g, 0, none⟩) 2 2)) (.cells #[(iv ((rdD p0 x12 z_Tile).E)), (iv ((rdD p0 x12 z_Tile).W))] 3 (0, 0)) [] (fun fb g => by kernel_rfl) trivial (fun g43 w44 hS45 => ?_)
      refine ⟨⟨rowR.cell (hS45.rd 0).1 z_Tile h33.1 h33.2 0 rfl, rowR.cell (hS45.rd 0).1 z_Tile h33.1 h33.2 2 rfl, trivial⟩, ?_⟩
      have hS46 := hS37.go w44 [rowO 3 encInt (some ⟨g43, 0, none⟩) 2 [(rdD p0 x12 z_Tile).E, (rdD p0 x12 z_Tile).W], rowO 3 encInt A39 c40 (l7 ++ [(rdD p0 x12 z_Tile).N, (rdD p0 x12 z_Tile).S]), rowO 3 encInt (some ⟨g34, 0, none⟩) 2 [(rdD p0 x12 z_Tile).N, (rdD p0 x12 z_Tile).S], rowO 3 encInt A8 c9 l11] (hS45.map1 0 _ (fun h => rowO.ofBlk h rfl (Nat.le_of_ble_eq_true (by kernel_rfl))) (fun _ h => by obtain ⟨_, h1, h2⟩ := h; injection h1 with h1; subst h1; exact h2) [1, 2, 3] (by decide) (by decide))
      obtain ⟨h47, hx30⟩ := as_some hx30
      refine WL.append hS46 3 (d := 39) (tS := 37) (z := (iv 0)) (bytes := 8) (c2 := 2) rfl (fun fb => by kernel_rfl) (rowO.rd (hS46.own 0).1) (by kernel_rfl) (by kernel_rfl) rfl (by decide) h47 (by decide) [0, 1, 2] (by decide) (by decide) (fun A48 c49 w50 hS51 => ?_)
      refine ⟨trivial, ?_⟩
      refine sg 28 [] [0, 3, 4, 5] [(0, (sv Aa p0 ca)), (3, (sv A39 (l7 ++ [(rdD p0 x12 z_Tile).N, (rdD p0 x12 z_Tile).S]) c40)), (4, (sv A48 (l11 ++ [(rdD p0 x12 z_Tile).E, (rdD p0 x12 z_Tile).W]) c49)), (5, (iv x12))] (by kernel_rfl) ?_
      refine WL.done rfl ?_
      injection hx30 with hx30
      exact WX.to Kx29 ((l7 ++ [(rdD p0 x12 z_Tile).N, (rdD p0 x12 z_Tile).S], l11 ++ [(rdD p0 x12 z_Tile).E, (rdD p0 x12 z_Tile).W]), A39, c40, A48, c49) [0, 3, 4, 5] rfl ⟨(hS51.subR [0]).sub [2, 0] (by decide), hx30.symm⟩
     ·
      refine segF 22 [.v (iv ((rdD p0 x12 z_Tile).N)), .v (iv ((rdD p0 x12 z_Tile).S)), .v (iv ((rdD p0 x12 z_Tile).E)), .v (iv ((rdD p0 x12 z_Tile).W))] [0, 5, 14, 19, 24, 27, 32, 37] [(0, (sv Aa p0 ca)), (5, (iv x12)), (14, (sv A5 l7 c6)), (19, (iv ((rdD p0 x12 z_Tile).N))), (24, (iv ((rdD p0 x12 z_Tile).S))), (27, (sv A8 l11 c9)), (32, (iv ((rdD p0 x12 z_Tile).E))), (37, (iv ((rdD p0 x12 z_Tile).W)))] [.idx Aa x12 p0.length, .idx Aa x12 p0.length, .idx Aa x12 p0.length, .idx Aa x12 p0.length] [0, 1, 2, 3] [(5, ((adr Aa).add ((x12).toNat * 4)), (iv ((rdD p0 x12 z_Tile).N))), (10, (((adr Aa).add ((x12).toNat * 4)).add 2), (iv ((rdD p0 x12 z_Tile).S))), (18, (((adr Aa).add ((x12).toNat * 4)).add 1), (iv ((rdD p0 x12 z_Tile).E))), (23, (((adr Aa).add ((x12).toNat * 4)).add 3), (iv ((rdD p0 x12 z_Tile).W)))] (fun fb => by kernel_rfl) rfl ⟨rowR.adr (hS32.rd 0).1 h33.1 h33.2, rowR.adr (hS32.rd 0).1 h33.1 h33.2, rowR.adr (hS32.rd 0).1 h33.1 h33.2, rowR.adr (hS32.rd 0).1 h33.1 h33.2, trivial⟩ rfl ?_
      refine WL.new hS32 25 [] (fun g => (.slice (some ⟨g, 0, none⟩) 2 2)) (.cells #[(iv ((rdD p0 x12 z_Tile).N)), (iv ((rdD p0 x12 z_Tile).S))] 3 (0, 0)) [] (fun fb g => by kernel_rfl) trivial (fun g52 w53 hS54 => ?_)
      refine ⟨⟨rowR.cell (hS54.rd 0).1 z_Tile h33.1 h33.2 1 rfl, rowR.cell (hS54.rd 0).1 z_Tile h33.1 h33.2 3 rfl, trivial⟩, ?_⟩
      have hS55 := hS.go w53 [rowO 3 encInt (some ⟨g52, 0, none⟩) 2 [(rdD p0 x12 z_Tile).N, (rdD p0 x12 z_Tile).S], rowO 3 encInt A5 c6 l7, rowO 3 encInt A8 c9 l11] (hS54.map1 0 _ (fun h => rowO.ofBlk h rfl (Nat.le_of_ble_eq_true (by kernel_rfl))) (fun _ h => by obtain ⟨_, h1, h2⟩ := h; injection h1 with h1; subst h1; exact h2) [1, 2] (by decide) (by decide))
      refine WL.new hS55 38 [] (fun g => (.slice (some ⟨g, 0, none⟩) 2 2)) (.cells #[(iv ((rdD p0 x12 z_Tile).E)), (iv ((rdD p0 x12 z_Tile).W))] 3 (0, 0)) [] (fun fb g => by kernel_rfl) trivial (fun g56 w57 hS58 => ?_)
      refine ⟨⟨rowR.cell (hS58.rd 0).1 z_Tile h33.1 h33.2 0 rfl, rowR.cell (hS58.rd 0).1 z_Tile h33.1 h33.2 2 rfl, trivial⟩, ?_⟩
      have hS59 := hS55.go w57 [rowO 3 encInt (some ⟨g56, 0, none⟩) 2 [(rdD p0 x12 z_Tile).E, (rdD p0 x12 z_Tile).W], rowO 3 encInt (some ⟨g52, 0, none⟩) 2 [(rdD p0 x12 z_Tile).N, (rdD p0 x12 z_Tile).S], rowO 3 encInt A5 c6 l7, rowO 3 encInt A8 c9 l11] (hS58.map1 0 _ (fun h => rowO.ofBlk h rfl (Nat.le_of_ble_eq_true (by kernel_rfl))) (fun _ h => by obtain ⟨_, h1, h2⟩ := h; injection h1 with h1; subst h1; exact h2) [1, 2, 3] (by decide) (by decide))
      obtain ⟨h60, hx30⟩ := as_some hx30
      refine WL.append hS59 2 (d := 26) (tS := 37) (z := (iv 0)) (bytes := 8) (c2 := 2) rfl (fun fb => by kernel_rfl) (rowO.rd (hS59.own 1).1) (by kernel_rfl) (by kernel_rfl) rfl (by decide) h60 (by decide) [0, 1, 3] (by decide) (by decide) (fun A61 c62 w63 hS65 => ?_)
      refine ⟨⟨rowR.cell (hS65.rd 0).1 z_Tile h33.1 h33.2 1 rfl, rowR.cell (hS65.rd 0).1 z_Tile h33.1 h33.2 3 rfl, trivial⟩, ?_⟩
      obtain ⟨h66, hx30⟩ := as_some hx30
      refine WL.append hS65 3 (d := 39) (tS := 37) (z := (iv 0)) (bytes := 8) (c2 := 2) rfl (fun fb => by kernel_rfl) (rowO.rd (hS65.own 1).1) (by kernel_rfl) (by kernel_rfl) rfl (by decide) h66 (by decide) [0, 1, 2] (by decide) (by decide) (fun A67 c68 w69 hS70 => ?_)
      refine ⟨trivial, ?_⟩
      refine sg 28 [] [0, 3, 4, 5] [(0, (sv Aa p0 ca)), (3, (sv A61 (l7 ++ [(rdD p0 x12 z_Tile).N, (rdD p0 x12 z_Tile).S]) c62)), (4, (sv A67 (l11 ++ [(rdD p0 x12 z_Tile).E, (rdD p0 x12 z_Tile).W]) c68)), (5, (iv x12))] (by kernel_rfl) ?_
      refine WL.done rfl ?_
      injection hx30 with hx30
      exact WX.to Kx29 ((l7 ++ [(rdD p0 x12 z_Tile).N, (rdD p0 x12 z_Tile).S], l11 ++ [(rdD p0 x12 z_Tile).E, (rdD p0 x12 z_Tile).W]), A61, c62, A67, c68) [0, 3, 4, 5] rfl ⟨(hS70.subR [0]).sub [1, 0] (by decide), hx30.symm⟩
     refine segF 22 [.v (iv ((rdD p0 x12 z_Tile).N)), .v (iv ((rdD p0 x12 z_Tile).S)), .v (iv ((rdD p0 x12 z_Tile).E)), .v (iv ((rdD p0 x12 z_Tile).W))] [0, 5, 14, 19, 24, 27, 32, 37] [(0, (sv Aa p0 ca)), (5, (iv x12)), (14, (sv A5 l7 c6)), (19, (iv ((rdD p0 x12 z_Tile).N))), (24, (iv ((rdD p0 x12 z_Tile).S))), (27, (sv A8 l11 c9)), (32, (iv ((rdD p0 x12 z_Tile).E))), (37, (iv ((rdD p0 x12 z_Tile).W)))] [.idx Aa x12 p0.length, .idx Aa x12 p0.length, .idx Aa x12 p0.length, .idx Aa x12 p0.length] [0, 1, 2, 3] [(5, ((adr Aa).add ((x12).toNat * 4)), (iv ((rdD p0 x12 z_Tile).N))), (10, (((adr Aa).add ((x12).toNat * 4)).add 2), (iv ((rdD p0 x12 z_Tile).S))), (18, (((adr Aa).add ((x12).toNat * 4)).add 1), (iv ((rdD p0 x12 z_Tile).E))), (23, (((adr Aa).add ((x12).toNat * 4)).add 3), (iv ((rdD p0 x12 z_Tile).W)))] (fun fb => by kernel_rfl) rfl ⟨rowR.adr (hS32.rd 0).1 h33.1 h33.2, rowR.adr (hS32.rd 0).1 h33.1 h33.2, rowR.adr (hS32.rd 0).1 h33.1 h33.2, rowR.adr (hS32.rd 0).1 h33.1 h33.2, trivial⟩ rfl ?_
     refine WL.new hS32 38 [] (fun g => (.slice (some ⟨g, 0, none⟩) 2 2)) (.cells #[(iv ((rdD p0 x12 z_Tile).E)), (iv ((rdD p0 x12 z_Tile).W))] 3 (0, 0)) [] (fun fb g => by kernel_rfl) trivial (fun g71 w72 hS73 => ?_)
     refine ⟨⟨rowR.cell (hS73.rd 0).1 z_Tile h33.1 h33.2 0 rfl, rowR.cell (hS73.rd 0).1 z_Tile h33.1 h33.2 2 rfl, trivial⟩, ?_⟩
     have hS74 := hS.go w72 [rowO 3 encInt (some ⟨g71, 0, none⟩) 2 [(rdD p0 x12 z_Tile).E, (rdD p0 x12 z_Tile).W], rowO 3 encInt A5 c6 l7, rowO 3 encInt A8 c9 l11] (hS73.map1 0 _ (fun h => rowO.ofBlk h rfl (Nat.le_of_ble_eq_true (by kernel_rfl))) (fun _ h => by obtain ⟨_, h1, h2⟩ := h; injection h1 with h1; subst h1; exact h2) [1, 2] (by decide) (by decide))
     refine WL.new hS74 25 [] (fun g => (.slice (some ⟨g, 0, none⟩) 2 2)) (.cells #[(iv ((rdD p0 x12 z_Tile).N)), (iv ((rdD p0 x12 z_Tile).S))] 3 (0, 0)) [] (fun fb g => by kernel_rfl) trivial (fun g75 w76 hS77 => ?_)
     refine ⟨⟨rowR.cell (hS77.rd 0).1 z_Tile h33.1 h33.2 1 rfl, rowR.cell (hS77.rd 0).1 z_Tile h33.1 h33.2 3 rfl, trivial⟩, ?_⟩
     have hS78 := hS74.go w76 [rowO 3 encInt (some ⟨g75, 0, none⟩) 2 [(rdD p0 x12 z_Tile).N, (rdD p0 x12 z_Tile).S], rowO 3 encInt (some ⟨g71, 0, none⟩) 2 [(rdD p0 x12 z_Tile).E, (rdD p0 x12 z_Tile).W], rowO 3 encInt A5 c6 l7, rowO 3 encInt A8 c9 l11] (hS77.map1 0 _ (fun h => rowO.ofBlk h rfl (Nat.le_of_ble_eq_true (by kernel_rfl))) (fun _ h => by obtain ⟨_, h1, h2⟩ := h; injection h1 with h1; subst h1; exact h2) [1, 2, 3] (by decide) (by decide))
     obtain ⟨h79, hx30⟩ := as_some hx30
     refine WL.append hS78 2 (d := 26) (tS := 37) (z := (iv 0)) (bytes := 8) (c2 := 2) rfl (fun fb => by kernel_rfl) (rowO.rd (hS78.own 0).1) (by kernel_rfl) (by kernel_rfl) rfl (by decide) h79 (by decide) [0, 1, 3] (by decide) (by decide) (fun A80 c81 w82 hS83 => ?_)
     refine ⟨⟨rowR.cell (hS83.rd 0).1 z_Tile h33.1 h33.2 1 rfl, rowR.cell (hS83.rd 0).1 z_Tile h33.1 h33.2 3 rfl, trivial⟩, ?_⟩
     obtain ⟨h84, hx30⟩ := as_some hx30
     refine WL.append hS83 3 (d := 39) (tS := 37) (z := (iv 0)) (bytes := 8) (c2 := 2) rfl (fun fb => by kernel_rfl) (rowO.rd (hS83.own 2).1) (by kernel_rfl) (by kernel_rfl) rfl (by decide) h84 (by decide) [0, 1, 2] (by decide) (by decide) (fun A85 c86 w87 hS88 => ?_)
     refine ⟨trivial, ?_⟩
     refine sg 28 [] [0, 3, 4, 5] [(0, (sv Aa p0 ca)), (3, (sv A80 (l7 ++ [(rdD p0 x12 z_Tile).N, (rdD p0 x12 z_Tile).S]) c81)), (4, (sv A85 (l11 ++ [(rdD p0 x12 z_Tile).E, (rdD p0 x12 z_Tile).W]) c86)), (5, (iv x12))] (by kernel_rfl) ?_
     refine WL.done rfl ?_
     injection hx30 with hx30
     exact WX.to Kx29 ((l7 ++ [(rdD p0 x12 z_Tile).N, (rdD p0 x12 z_Tile).S], l11 ++ [(rdD p0 x12 z_Tile).E, (rdD p0 x12 z_Tile).W]), A80, c81, A85, c86) [0, 3, 4, 5] rfl ⟨(hS88.subR [0]).sub [1, 0] (by decide), hx30.symm⟩
    rintro ⟨y92, A24, c25, A27, c28⟩ w89 ⟨hS90, hq91⟩
    subst hq91
    refine WX.blockN (WX.next ?_)
    refine WC.region ?_
    refine sg 3 [] [0, 3, 4, 5] [(0, (sv Aa p0 ca)), (3, (sv A24 x29.1 c25)), (4, (sv A27 x29.2 c28)), (5, (iv (w64 (x12 + 1))))] (by kernel_rfl) ?_
    refine WL.done rfl ?_
    exact WX.again k19 (Nat.lt_succ_self _) ((x29.1, x29.2, w64 (x12 + 1)), A24, c25, A27, c28) [0, 3, 4, 5] rfl ⟨(hS90.subR [0]).sub [0, 1] (by decide), hl22⟩
   refine WC.condF2 (fun fb => by kernel_rfl) h23 ?_
   refine WC.exit ?_
   injection hl22 with hl22
   exact WX.thenX (WX.thenX (WX.blockHere (WX.to Kx17 ((l7, l11), A5, c6, A8, c9) [0, 3, 4] rfl ⟨(hS21.subR [0]).sub [0, 1] (by decide), hl22.symm⟩)))
 rintro ⟨y96, A13, c14, A15, c16⟩ w93 ⟨hS94, hq95⟩
 subst hq95
 refine WX.next (WC.seq (WC.region ?_))
 refine sg 1 [] [0, 4, 40] [(0, (sv Aa p0 ca)), (4, (sv A15 x17.2 c16)), (40, (sv A13 x17.1 c14))] (by kernel_rfl) ?_
 obtain ⟨t97, ht98, hf⟩ := bind_some hf
 refine WL.call (some 41) 40 #[(sv A13 x17.1 c14)] (fun fb => by kernel_rfl) (ref10_renamed_calls _ x17.1 A13 c14 t97 _ (hS94.ow 0).ofO ht98) (fun v w99 hR100 => ?_)
 obtain ⟨A102, c103, rfl, hk_⟩ := hR100
 have hS101 := hS.go w99 [rowO 3 encInt A102 c103 t97, rowO 3 encInt A13 c14 x17.1, rowO 3 encInt A15 c16 x17.2] (hS94.call hk_ [] [0, 1] (fun g hg => hg.elim) (by simp) (by decide))
 refine ⟨trivial, ?_⟩
 refine sg 3 [] [0, 41, 42] [(0, (sv Aa p0 ca)), (41, (sv A102 t97 c103)), (42, (sv A15 x17.2 c16))] (by kernel_rfl) ?_
 obtain ⟨t104, ht105, hf⟩ := bind_some hf
 refine WL.call (some 43) 40 #[(sv A15 x17.2 c16)] (fun fb => by kernel_rfl) (ref10_renamed_calls _ x17.2 A15 c16 t104 _ (hS101.ow 2).ofO ht105) (fun v w106 hR107 => ?_)
 obtain ⟨A109, c110, rfl, hk_⟩ := hR107
 have hS108 := hS101.go w106 [rowO 3 encInt A109 c110 t104, rowO 3 encInt A102 c103 t97, rowO 3 encInt A13 c14 x17.1, rowO 3 encInt A15 c16 x17.2] (hS101.call hk_ [] [0, 1, 2] (fun g hg => hg.elim) (by simp) (by decide))
 refine ⟨trivial, ?_⟩
 refine sg 6 [] [0, 3, 4] [(0, (sv Aa p0 ca)), (3, (sv A102 t97 c103)), (4, (sv A109 t104 c110))] (by kernel_rfl) ?_
 refine WL.done rfl (WX.next (WC.seq (WC.region ?_)))
 refine sg 1 [] [0, 3, 4, 6] [(0, (sv Aa p0 ca)), (3, (sv A102 t97 c103)), (4, (sv A109 t104 c110)), (6, (.slice none 0 0))] (by kernel_rfl) ?_
 refine WL.done rfl (WX.next (WC.seq (WC.seq (WC.region ?_))))
 refine sg 1 [] [0, 3, 4, 6, 7] [(0, (sv Aa p0 ca)), (3, (sv A102 t97 c103)), (4, (sv A109 t104 c110)), (6, (.slice none 0 0)), (7, (iv 0))] (by kernel_rfl) ?_
 refine WL.done rfl (WX.next ?_)
 have hS111 := hS108.nilrow 48 enc_Tile
 obtain ⟨x118, hx119, hf⟩ := bind_some hf
 refine WC.cutN (T := (List Tile) × (Option Addr) × Nat) (fun t => [(6, (sv t.2.1 t.1 t.2.2))]) (fun t w1 => St NoS w w1 [rowR enc_Tile Aa ca p0] [rowO 48 enc_Tile t.2.1 t.2.2 t.1] ∧ x118 = t.1) (fun Kx118 => ?_) ?_
 ·
  refine WC.block ?_
  refine WC.loop (T := ((List Tile) × Int) × (Option Addr) × Nat) (fun t => [(0, (sv Aa p0 ca)), (3, (sv A102 t97 c103)), (4, (sv A109 t104 c110)), (6, (sv t.2.1 t.1.1 t.2.2)), (7, (iv t.1.2))]) (fun n t w1 => St NoS w w1 [rowR enc_Tile Aa ca p0] [rowO 3 encInt A102 c103 t97, rowO 3 encInt A109 c110 t104, rowO 48 enc_Tile t.2.1 t.2.2 t.1.1] ∧ ref10_named.l1 n t.1.1 t.1.2 p0 t97 t104 = some x118) k ((([] : List Tile), 0), none, 0) [0, 3, 4, 6, 7] rfl ⟨(hS111.subR [0]).sub [2, 1, 0] (by decide), hx119⟩ ?_
  rintro k120 ⟨⟨l114, x115⟩, A112, c113⟩ w121 ⟨hS122, hl123⟩
  cases k120 with
  | zero => rw [ref10_named.l1] at hl123; cases hl123
  | succ k120 =>
   rw [ref10_named.l1] at hl123
   refine WC.seq (WC.seq (WC.region ?_))
   refine sg 4 [] [0, 3, 4, 6, 7, 47] [(0, (sv Aa p0 ca)), (3, (sv A102 t97 c103)), (4, (sv A109 t104 c110)), (6, (sv A112 l114 c113)), (7, (iv x115)), (47, (bv (decide (x115 < (p0.length : Int)))))] (by kernel_rfl) ?_
   refine WL.done rfl (WX.next ?_)
   rcases br_some hl123 with ⟨h124, hl123⟩ | ⟨h124, hl123⟩
   ·refine WC.condT2 (fun fb => by kernel_rfl) h124 ?_
    refine WC.skip (WX.next (WC.seq (WC.block ?_)))
    obtain ⟨h127, hl123⟩ := as_some hl123
    obtain ⟨h128, hl123⟩ := as_some hl123
    obtain ⟨h129, hl123⟩ := as_some hl123
    obtain ⟨h130, hl123⟩ := as_some hl123
    refine WC.regionD ([(5, ((adr A102).add ((w64 (2 * x115)).toNat * 1)), (iv (rdD t97 (w64 (2 * x115)) 0))), (11, ((adr A102).add ((w64 ((w64 (2 * x115)) + 1)).toNat * 1)), (iv (rdD t97 (w64 ((w64 (2 * x115)) + 1)) 0))), (16, ((adr A109).add ((w64 (2 * x115)).toNat * 1)), (iv (rdD t104 (w64 (2 * x115)) 0))), (22, ((adr A109).add ((w64 ((w64 (2 * x115)) + 1)).toNat * 1)), (iv (rdD t104 (w64 ((w64 (2 * x115)) + 1)) 0)))], [0, 1, 2, 3, 4, 5, 6, 7, 8, 9, 10, 11, 12, 13, 14, 15, 16, 17, 18, 19, 20, 21, 22, 23, 26], [[], [], [], [2], [1, 2, 3], [1, 2, 3, 4], [], [], [7], [7, 8], [6, 7, 8, 9], [6, 7, 8, 9, 10], [], [], [13], [12, 13, 14], [12, 13, 14, 15], [], [], [18], [18, 19], [17, 18, 19, 20], [17, 18, 19, 20, 21], [1, 2, 3, 4, 5, 6, 7, 8, 9, 10, 11, 12, 13, 14, 15, 16, 17, 18, 19, 20, 21, 22], [1, 2, 3, 4, 5, 6, 7, 8, 9, 10, 11, 12, 13, 14, 15, 16, 17, 18, 19, 20, 21, 22, 23], [0, 1, 2, 3, 4, 5, 6, 7, 8, 9, 10, 11, 12, 13, 14, 15, 16, 17, 18, 19, 20, 21, 22, 23, 24], [0, 1, 2, 3, 4, 5, 6, 7, 8, 9, 10, 11, 12, 13, 14, 15, 16, 17, 18, 19, 20, 21, 22, 23, 24, 25]]) [[0, 1, 2, 3, 4, 5, 6, 7, 8, 9, 10, 11, 12, 13, 14, 15, 16, 17, 18, 19, 20, 21, 22, 23, 24, 25, 26]] (by kernel_rfl) (by kernel_rfl) (NoPanic.block (NoPanic.seq (NoPanic.seq (NoPanic.block (NoPanic.seq (NoPanic.body)))))) ?_
    have hS126 := hS122.drew
    revert hS126
    generalize World.drew w121 = w125
    intro hS126
    refine ⟨⟨rowR.cell (rowO.rd (hS126.own 0).1) 0 h127.1 h127.2 0 rfl, rowR.cell (rowO.rd (hS126.own 0).1) 0 h128.1 h128.2 0 rfl, rowR.cell (rowO.rd (hS126.own 1).1) 0 h129.1 h129.2 0 rfl, rowR.cell (rowO.rd (hS126.own 1).1) 0 h130.1 h130.2 0 rfl, trivial⟩, forallC ?_ (forallN)⟩
    refine segF 24 [.v (iv (rdD t97 (w64 (2 * x115)) 0)), .v (iv (rdD t97 (w64 ((w64 (2 * x115)) + 1)) 0)), .v (iv (rdD t104 (w64 (2 * x115)) 0)), .v (iv (rdD t104 (w64 ((w64 (2 * x115)) + 1)) 0))] [0, 3, 4, 7, 50, 73] [(0, (sv Aa p0 ca)), (3, (sv A102 t97 c103)), (4, (sv A109 t104 c110)), (7, (iv x115)), (50, (sv A112 l114 c113)), (73, (.agg #[(iv (rdD t97 (w64 (2 * x115)) 0)), (iv (rdD t104 (w64 (2 * x115)) 0)), (iv (rdD t97 (w64 ((w64 (2 * x115)) + 1)) 0)), (iv (rdD t104 (w64 ((w64 (2 * x115)) + 1)) 0))]))] [.idx A102 (w64 (2 * x115)) t97.length, .idx A102 (w64 ((w64 (2 * x115)) + 1)) t97.length, .idx A109 (w64 (2 * x115)) t104.length, .idx A109 (w64 ((w64 (2 * x115)) + 1)) t104.length] [0, 1, 2, 3] [(5, ((adr A102).add ((w64 (2 * x115)).toNat * 1)), (iv (rdD t97 (w64 (2 * x115)) 0))), (11, ((adr A102).add ((w64 ((w64 (2 * x115)) + 1)).toNat * 1)), (iv (rdD t97 (w64 ((w64 (2 * x115)) + 1)) 0))), (16, ((adr A109).add ((w64 (2 * x115)).toNat * 1)), (iv (rdD t104 (w64 (2 * x115)) 0))), (22, ((adr A109).add ((w64 ((w64 (2 * x115)) + 1)).toNat * 1)), (iv (rdD t104 (w64 ((w64 (2 * x115)) + 1)) 0)))] (fun fb => by kernel_rfl) rfl ⟨rowR.adr (rowO.rd (hS126.own 0).1) h127.1 h127.2, rowR.adr (rowO.rd (hS126.own 0).1) h128.1 h128.2, rowR.adr (rowO.rd (hS126.own 1).1) h129.1 h129.2, rowR.adr (rowO.rd (hS126.own 1).1) h130.1 h130.2, trivial⟩ rfl ?_
    refine WL.new hS126 74 [] (fun g => (.slice (some ⟨g, 0, none⟩) 1 1)) (.cells #[(iv (rdD t97 (w64 (2 * x115)) 0)), (iv (rdD t104 (w64 (2 * x115)) 0)), (iv (rdD t97 (w64 ((w64 (2 * x115)) + 1)) 0)), (iv (rdD t104 (w64 ((w64 (2 * x115)) + 1)) 0))] 48 (0, 0)) [] (fun fb g => by kernel_rfl) trivial (fun g131 w132 hS133 => ?_)
    refine ⟨trivial, ?_⟩
    have hS134 := hS108.go w132 [rowO 48 enc_Tile (some ⟨g131, 0, none⟩) 1 [(Tile.mk (rdD t97 (w64 (2 * x115)) 0) (rdD t104 (w64 (2 * x115)) 0) (rdD t97 (w64 ((w64 (2 * x115)) + 1)) 0) (rdD t104 (w64 ((w64 (2 * x115)) + 1)) 0))], rowO 3 encInt A102 c103 t97, rowO 3 encInt A109 c110 t104, rowO 48 enc_Tile A112 c113 l114] (hS133.map1 0 _ (fun h => rowO.ofBlk h rfl (Nat.le_of_ble_eq_true (by kernel_rfl))) (fun _ h => by obtain ⟨_, h1, h2⟩ := h; injection h1 with h1; subst h1; exact h2) [1, 2, 3] (by decide) (by decide))
    obtain ⟨h135, hl123⟩ := as_some hl123
    refine WL.append hS134 3 (d := 75) (tS := 28) (z := (.agg #[(iv 0), (iv 0), (iv 0), (iv 0)])) (bytes := 32) (c2 := 1) rfl (fun fb => by kernel_rfl) (rowO.rd (hS134.own 0).1) (by kernel_rfl) (by kernel_rfl) rfl (by decide) h135 (by decide) [0, 1, 2] (by decide) (by decide) (fun A136 c137 w138 hS139 => ?_)
    refine ⟨trivial, ?_⟩
    refine sg 27 [] [0, 3, 4, 6, 7] [(0, (sv Aa p0 ca)), (3, (sv A102 t97 c103)), (4, (sv A109 t104 c110)), (6, (sv A136 (l114 ++ [(Tile.mk (rdD t97 (w64 (2 * x115)) 0) (rdD t104 (w64 (2 * x115)) 0) (rdD t97 (w64 ((w64 (2 * x115)) + 1)) 0) (rdD t104 (w64 ((w64 (2 * x115)) + 1)) 0))]) c137)), (7, (iv x115))] (by kernel_rfl) ?_
    refine WL.done rfl ?_
    refine WX.blockN (WX.next ?_)
    refine WC.region ?_
    refine sg 3 [] [0, 3, 4, 6, 7] [(0, (sv Aa p0 ca)), (3, (sv A102 t97 c103)), (4, (sv A109 t104 c110)), (6, (sv A136 (l114 ++ [(Tile.mk (rdD t97 (w64 (2 * x115)) 0) (rdD t104 (w64 (2 * x115)) 0) (rdD t97 (w64 ((w64 (2 * x115)) + 1)) 0) (rdD t104 (w64 ((w64 (2 * x115)) + 1)) 0))]) c137)), (7, (iv (w64 (x115 + 1))))] (by kernel_rfl) ?_
    refine WL.done rfl ?_
    exact WX.again k120 (Nat.lt_succ_self _) ((l114 ++ [(Tile.mk (rdD t97 (w64 (2 * x115)) 0) (rdD t104 (w64 (2 * x115)) 0) (rdD t97 (w64 ((w64 (2 * x115)) + 1)) 0) (rdD t104 (w64 ((w64 (2 * x115)) + 1)) 0))], w64 (x115 + 1)), A136, c137) [0, 3, 4, 6, 7] rfl ⟨(hS139.subR [0]).sub [2, 3, 0] (by decide), hl123⟩
   refine WC.condF2 (fun fb => by kernel_rfl) h124 ?_
   refine WC.exit ?_
   injection hl123 with hl123
   exact WX.thenX (WX.thenX (WX.blockHere (WX.to Kx118 (l114, A112, c113) [6] rfl ⟨(hS122.subR [0]).sub [2] (by decide), hl123.symm⟩)))
 rintro ⟨y143, A116, c117⟩ w140 ⟨hS141, hq142⟩
 subst hq142
 refine WX.next (WC.seq (WC.region ?_))
 refine sg 2 [] [2] [(2, (sv A116 x118 c117))] (by kernel_rfl) ?_
 refine WL.done rfl (WX.next ?_)
 refine WC.ret ?_
 injection hf with hf
 subst hf
 exact WX.ret_ [] (sv A116 x118 c117) [] (fun fb => by kernel_rfl) trivial ⟨_, rfl, A116, c117, rfl, (hS141.sub [0] (by decide)).noR⟩
theorem ref10_numbers_calls (k : Nat) (p0 : List Tile) (Aa : Option Addr) (ca : Nat) (r : (List Int)) (w : World) (hR0 : RO NoS w (rowR enc_Tile Aa ca p0)) (hf : ref10_numbers k p0 = some r) :
  CallsR Try.prog 29 #[(sv Aa p0 ca)] w (fun v w' => ∃ (A1_ : Option Addr), ∃ (c1_ : Nat), v = (sv A1_ r c1_) ∧ St NoS w w' [] [rowO 3 encInt A1_ c1_ r]) := by
 have hS : St NoS w w [rowR enc_Tile Aa ca p0] [] := St.init (ro_cons hR0 (ro_nil _ _))
 refine enter 35 Try.func29 rfl Try.ntmps29 rfl ?_
 unfold ref10_numbers at hf
 refine WC.seq (WC.region ?_)
 refine sg 1 [] [0] [(0, (sv Aa p0 ca))] (by kernel_rfl) ?_
 refine WL.done rfl (WX.next (WC.seq (WC.region ?_)))
 refine sg 1 [] [0, 3] [(0, (sv Aa p0 ca)), (3, (.slice none 0 0))] (by kernel_rfl) ?_
 refine WL.done rfl (WX.next (WC.seq (WC.seq (WC.region ?_))))
 refine sg 1 [] [0, 3, 4] [(0, (sv Aa p0 ca)), (3, (.slice none 0 0)), (4, (iv 0))] (by kernel_rfl) ?_
 refine WL.done rfl (WX.next ?_)
 have hS3 := hS.nilrow 3 encInt
 obtain ⟨x11, hx12, hf⟩ := bind_some hf
 refine WC.cutN (T := (List Int) × (Option Addr) × Nat) (fun t => [(3, (sv t.2.1 t.1 t.2.2))]) (fun t w1 => St NoS w w1 [rowR enc_Tile Aa ca p0] [rowO 3 encInt t.2.1 t.2.2 t.1] ∧ x11 = t.1) (fun Kx11 => ?_) ?_
 ·
  refine WC.block ?_
  refine WC.loop (T := ((List Int) × Int) × (Option Addr) × Nat) (fun t => [(0, (sv Aa p0 ca)), (3, (sv t.2.1 t.1.1 t.2.2)), (4, (iv t.1.2))]) (fun n t w1 => St NoS w w1 [rowR enc_Tile Aa ca p0] [rowO 3 encInt t.2.1 t.2.2 t.1.1] ∧ ref10_numbers.l0 n t.1.1 t.1.2 p0 = some x11) k ((([] : List Int), 0), none, 0) [0, 3, 4] rfl ⟨(hS3.subR [0]).sub [0] (by decide), hx12⟩ ?_
  rintro k13 ⟨⟨l6, x7⟩, A4, c5⟩ w14 ⟨hS15, hl16⟩
  cases k13 with
  | zero => rw [ref10_numbers.l0] at hl16; cases hl16
  | succ k13 =>
   rw [ref10_numbers.l0] at hl16
   refine WC.seq (WC.seq (WC.region ?_))
   refine sg 4 [] [0, 3, 4, 8] [(0, (sv Aa p0 ca)), (3, (sv A4 l6 c5)), (4, (iv x7)), (8, (bv (decide (x7 < (p0.length : Int)))))] (by kernel_rfl) ?_
   refine WL.done rfl (WX.next ?_)
   rcases br_some hl16 with ⟨h17, hl16⟩ | ⟨h17, hl16⟩
   ·refine WC.condT2 (fun fb => by kernel_rfl) h17 ?_
    refine WC.skip (WX.next (WC.seq (WC.block ?_)))
    obtain ⟨h20, hl16⟩ := as_some hl16
    refine WC.regionD ([(5, ((adr Aa).add ((x7).toNat * 4)), (iv ((rdD p0 x7 z_Tile).N))), (10, (((adr Aa).add ((x7).toNat * 4)).add 1), (iv ((rdD p0 x7 z_Tile).E))), (15, (((adr Aa).add ((x7).toNat * 4)).add 2), (iv ((rdD p0 x7 z_Tile).S))), (20, (((adr Aa).add ((x7).toNat * 4)).add 3), (iv ((rdD p0 x7 z_Tile).W)))], [0, 1, 2, 3, 4, 5, 6, 7, 8, 9, 10, 11, 12, 13, 14, 15, 16, 17, 18, 19, 20, 23], [[], [], [], [1, 2], [1, 2, 3], [1, 2, 3, 4], [], [], [6, 7], [6, 7, 8], [6, 7, 8, 9], [], [], [11, 12], [11, 12, 13], [11, 12, 13, 14], [], [], [16, 17], [16, 17, 18], [16, 17, 18, 19], [1, 2, 3, 4, 5, 6, 7, 8, 9, 10, 11, 12, 13, 14, 15, 16, 17, 18, 19, 20], [0, 1, 2, 3, 4, 5, 6, 7, 8, 9, 10, 11, 12, 13, 14, 15, 16, 17, 18, 19, 20, 21], [0, 1, 2, 3, 4, 5, 6, 7, 8, 9, 10, 11, 12, 13, 14, 15, 16, 17, 18, 19, 20, 21, 22]]) [[0, 1, 2, 3, 4, 5, 6, 7, 8, 9, 10, 11, 12, 13, 14, 15, 16, 17, 18, 19, 20, 21, 22, 23]] (by kernel_rfl) (by kernel_rfl) (NoPanic.block (NoPanic.seq (NoPanic.seq (NoPanic.block (NoPanic.seq (NoPanic.body)))))) ?_
    have hS19 := hS15.drew
    revert hS19
    generalize World.drew w14 = w18
    intro hS19
    refine ⟨⟨rowR.cell (hS19.rd 0).1 z_Tile h20.1 h20.2 0 rfl, rowR.cell (hS19.rd 0).1 z_Tile h20.1 h20.2 1 rfl, rowR.cell (hS19.rd 0).1 z_Tile h20.1 h20.2 2 rfl, rowR.cell (hS19.rd 0).1 z_Tile h20.1 h20.2 3 rfl, trivial⟩, forallC ?_ (forallN)⟩
    refine segF 21 [.v (iv ((rdD p0 x7 z_Tile).N)), .v (iv ((rdD p0 x7 z_Tile).E)), .v (iv ((rdD p0 x7 z_Tile).S)), .v (iv ((rdD p0 x7 z_Tile).W))] [0, 4, 11, 16, 21, 26, 31] [(0, (sv Aa p0 ca)), (4, (iv x7)), (11, (sv A4 l6 c5)), (16, (iv ((rdD p0 x7 z_Tile).N))), (21, (iv ((rdD p0 x7 z_Tile).E))), (26, (iv ((rdD p0 x7 z_Tile).S))), (31, (iv ((rdD p0 x7 z_Tile).W)))] [.idx Aa x7 p0.length, .idx Aa x7 p0.length, .idx Aa x7 p0.length, .idx Aa x7 p0.length] [0, 1, 2, 3] [(5, ((adr Aa).add ((x7).toNat * 4)), (iv ((rdD p0 x7 z_Tile).N))), (10, (((adr Aa).add ((x7).toNat * 4)).add 1), (iv ((rdD p0 x7 z_Tile).E))), (15, (((adr Aa).add ((x7).toNat * 4)).add 2), (iv ((rdD p0 x7 z_Tile).S))), (20, (((adr Aa).add ((x7).toNat * 4)).add 3), (iv ((rdD p0 x7 z_Tile).W)))] (fun fb => by kernel_rfl) rfl ⟨rowR.adr (hS19.rd 0).1 h20.1 h20.2, rowR.adr (hS19.rd 0).1 h20.1 h20.2, rowR.adr (hS19.rd 0).1 h20.1 h20.2, rowR.adr (hS19.rd 0).1 h20.1 h20.2, trivial⟩ rfl ?_
    refine WL.new hS19 32 [] (fun g => (.slice (some ⟨g, 0, none⟩) 4 4)) (.cells #[(iv ((rdD p0 x7 z_Tile).N)), (iv ((rdD p0 x7 z_Tile).E)), (iv ((rdD p0 x7 z_Tile).S)), (iv ((rdD p0 x7 z_Tile).W))] 3 (0, 0)) [] (fun fb g => by kernel_rfl) trivial (fun g21 w22 hS23 => ?_)
    refine ⟨trivial, ?_⟩
    have hS24 := hS.go w22 [rowO 3 encInt (some ⟨g21, 0, none⟩) 4 [(rdD p0 x7 z_Tile).N, (rdD p0 x7 z_Tile).E, (rdD p0 x7 z_Tile).S, (rdD p0 x7 z_Tile).W], rowO 3 encInt A4 c5 l6] (hS23.map1 0 _ (fun h => rowO.ofBlk h rfl (Nat.le_of_ble_eq_true (by kernel_rfl))) (fun _ h => by obtain ⟨_, h1, h2⟩ := h; injection h1 with h1; subst h1; exact h2) [1] (by decide) (by decide))
    obtain ⟨h25, hl16⟩ := as_some hl16
    refine WL.append hS24 1 (d := 33) (tS := 37) (z := (iv 0)) (bytes := 8) (c2 := 4) rfl (fun fb => by kernel_rfl) (rowO.rd (hS24.own 0).1) (by kernel_rfl) (by kernel_rfl) rfl (by decide) h25 (by decide) [0] (by decide) (by decide) (fun A26 c27 w28 hS30 => ?_)
    refine ⟨trivial, ?_⟩
    refine sg 24 [] [0, 3, 4] [(0, (sv Aa p0 ca)), (3, (sv A26 (l6 ++ [(rdD p0 x7 z_Tile).N, (rdD p0 x7 z_Tile).E, (rdD p0 x7 z_Tile).S, (rdD p0 x7 z_Tile).W]) c27)), (4, (iv x7))] (by kernel_rfl) ?_
    refine WL.done rfl ?_
    refine WX.blockN (WX.next ?_)
    refine WC.region ?_
    refine sg 3 [] [0, 3, 4] [(0, (sv Aa p0 ca)), (3, (sv A26 (l6 ++ [(rdD p0 x7 z_Tile).N, (rdD p0 x7 z_Tile).E, (rdD p0 x7 z_Tile).S, (rdD p0 x7 z_Tile).W]) c27)), (4, (iv (w64 (x7 + 1))))] (by kernel_rfl) ?_
    refine WL.done rfl ?_
    exact WX.again k13 (Nat.lt_succ_self _) ((l6 ++ [(rdD p0 x7 z_Tile).N, (rdD p0 x7 z_Tile).E, (rdD p0 x7 z_Tile).S, (rdD p0 x7 z_Tile).W], w64 (x7 + 1)), A26, c27) [0, 3, 4] rfl ⟨(hS30.subR [0]).sub [0] (by decide), hl16⟩
   refine WC.condF2 (fun fb => by kernel_rfl) h17 ?_
   refine WC.exit ?_
   injection hl16 with hl16
   exact WX.thenX (WX.thenX (WX.blockHere (WX.to Kx11 (l6, A4, c5) [3] rfl ⟨(hS15.subR [0]).sub [0] (by decide), hl16.symm⟩)))
 rintro ⟨y34, A8, c9⟩ w31 ⟨hS32, hq33⟩
 subst hq33
 refine WX.next (WC.seq (WC.region ?_))
 refine sg 2 [] [2] [(2, (sv A8 x11 c9))] (by kernel_rfl) ?_
 refine WL.done rfl (WX.next ?_)
 refine WC.ret ?_
 injection hf with hf
 subst hf
 exact WX.ret_ [] (sv A8 x11 c9) [] (fun fb => by kernel_rfl) trivial ⟨_, rfl, A8, c9, rfl, (hS32.sub [0] (by decide)).noR⟩
theorem ref10_Before_calls (k : Nat) (p0 : List Tile) (p1 : List Tile) (Aa : Option Addr) (ca : Nat) (Ab : Option Addr) (cb : Nat) (r : Bool) (w : World) (hR0 : RO NoS w (rowR enc_Tile Aa ca p0)) (hR1 : RO NoS w (rowR enc_Tile Ab cb p1)) (hf : ref10_Before k p0 p1 = some r) :
  CallsR Try.prog 15 #[(sv Aa p0 ca), (sv Ab p1 cb)] w (fun v w' => v = (bv r) ∧ Keeps NoS w w') := by
 have hS : St NoS w w [rowR enc_Tile Aa ca p0, rowR enc_Tile Ab cb p1] [] := St.init (ro_cons hR0 (ro_cons hR1 (ro_nil _ _)))
 refine enter 47 Try.func15 rfl Try.ntmps15 rfl ?_
 unfold ref10_Before at hf
 refine WC.seq (WC.region ?_)
 refine sg 1 [] [0, 1] [(0, (sv Aa p0 ca)), (1, (sv Ab p1 cb))] (by kernel_rfl) ?_
 refine WL.done rfl (WX.next (WC.seq (WC.region ?_)))
 refine sg 1 [] [1, 8] [(1, (sv Ab p1 cb)), (8, (sv Aa p0 ca))] (by kernel_rfl) ?_
 obtain ⟨t3, ht4, hf⟩ := bind_some hf
 refine WL.call (some 9) 29 #[(sv Aa p0 ca)] (fun fb => by kernel_rfl) (ref10_numbers_calls _ p0 Aa ca t3 _ (hS.rd 0) ht4) (fun v w5 hR6 => ?_)
 obtain ⟨A8, c9, rfl, hk_⟩ := hR6
 have hS7 := hS.go w5 [rowO 3 encInt A8 c9 t3] (hS.call hk_ [] [] (fun g hg => hg.elim) (by simp) (by decide))
 refine ⟨trivial, ?_⟩
 refine sg 3 [] [9, 10] [(9, (sv A8 t3 c9)), (10, (sv Ab p1 cb))] (by kernel_rfl) ?_
 obtain ⟨t11, ht12, hf⟩ := bind_some hf
 refine WL.call (some 11) 29 #[(sv Ab p1 cb)] (fun fb => by kernel_rfl) (ref10_numbers_calls _ p1 Ab cb t11 _ (hS7.rd 1) ht12) (fun v w13 hR14 => ?_)
 obtain ⟨A17, c18, rfl, hk_⟩ := hR14
 have hS16 := hS7.go w13 [rowO 3 encInt A17 c18 t11, rowO 3 encInt A8 c9 t3] (hS7.call hk_ [] [0] (fun g hg => hg.elim) (by simp) (by decide))
 refine ⟨trivial, ?_⟩
 refine sg 6 [] [5, 6] [(5, (sv A8 t3 c9)), (6, (sv A17 t11 c18))] (by kernel_rfl) ?_
 refine WL.done rfl (WX.next (WC.seq (WC.seq (WC.region ?_))))
 refine sg 1 [] [5, 6, 7] [(5, (sv A8 t3 c9)), (6, (sv A17 t11 c18)), (7, (iv 0))] (by kernel_rfl) ?_
 refine WL.done rfl (WX.next ?_)
 obtain ⟨x20, hx21, hf⟩ := bind_some hf
 refine WC.cutN (T := Unit) (fun t => [(5, (sv A8 t3 c9)), (6, (sv A17 t11 c18))]) (fun t w1 => St NoS w w1 [rowR enc_Tile Aa ca p0, rowR enc_Tile Ab cb p1] [rowO 3 encInt A8 c9 t3, rowO 3 encInt A17 c18 t11] ∧ x20 = .inr t) (fun Kx20 => ?_) ?_
 ·
  refine WC.block ?_
  refine WC.loop (T := Int) (fun t => [(5, (sv A8 t3 c9)), (6, (sv A17 t11 c18)), (7, (iv t))]) (fun n t w1 => St NoS w w1 [rowR enc_Tile Aa ca p0, rowR enc_Tile Ab cb p1] [rowO 3 encInt A8 c9 t3, rowO 3 encInt A17 c18 t11] ∧ ref10_Before.l0 n t t3 t11 = some x20) k 0 [5, 6, 7] rfl ⟨(hS16.subR [0, 1]).sub [1, 0] (by decide), hx21⟩ ?_
  rintro k22 x19 w23 ⟨hS24, hl25⟩
  cases k22 with
  | zero => rw [ref10_Before.l0] at hl25; cases hl25
  | succ k22 =>
   rw [ref10_Before.l0] at hl25
   refine WC.seq (WC.seq (WC.region ?_))
   refine sg 5 [] [5, 6, 7, 16] [(5, (sv A8 t3 c9)), (6, (sv A17 t11 c18)), (7, (iv x19)), (16, (bv (decide (x19 < (t3.length : Int)))))] (by kernel_rfl) ?_
   refine WL.cutV (T := Bool) 10 (fun t => [(21, (bv t)), (5, (sv A8 t3 c9)), (6, (sv A17 t11 c18)), (7, (iv x19))]) (fun t => ((decide (x19 < (t3.length : Int))) && (decide (x19 < (t11.length : Int)))) = t) (fun K => ?_) ?_
   ·
    rcases Bool.eq_false_or_eq_true (decide (x19 < (t3.length : Int))) with h26 | h26
    ·
     refine WL.setB 16 h26 rfl ?_
     refine sg 10 [] [5, 6, 7, 21] [(5, (sv A8 t3 c9)), (6, (sv A17 t11 c18)), (7, (iv x19)), (21, (bv (decide (x19 < (t11.length : Int)))))] (by kernel_rfl) ?_
     exact WL.toV K (decide (x19 < (t11.length : Int))) [21, 5, 6, 7] rfl (by first | (rw [h26]; done) | (rw [h26]; rfl))
    refine WL.setB 16 h26 rfl ?_
    refine sg 10 [] [5, 6, 7, 21] [(5, (sv A8 t3 c9)), (6, (sv A17 t11 c18)), (7, (iv x19)), (21, (bv false))] (by kernel_rfl) ?_
    exact WL.toV K false [21, 5, 6, 7] rfl (by first | (rw [h26]; done) | (rw [h26]; rfl))
   rintro b27 rfl
   refine WL.done rfl (WX.next ?_)
   rcases br_some hl25 with ⟨h28, hl25⟩ | ⟨h28, hl25⟩
   ·refine WC.condT2 (fun fb => by kernel_rfl) h28 ?_
    refine WC.skip (WX.next (WC.seq (WC.block (WC.seq ?_))))
    obtain ⟨h31, hl25⟩ := as_some hl25
    obtain ⟨h32, hl25⟩ := as_some hl25
    refine WC.regionD ([(3, ((adr A8).add ((x19).toNat * 1)), (iv (rdD t3 x19 0))), (7, ((adr A17).add ((x19).toNat * 1)), (iv (rdD t11 x19 0)))], [0, 1, 2, 3, 4, 5, 6, 7, 8], [[], [], [0, 1], [0, 1, 2], [], [], [4, 5], [4, 5, 6], [0, 1, 2, 3, 4, 5, 6, 7]]) [[0, 1, 2, 3, 4, 5, 6, 7, 8]] (by kernel_rfl) (by kernel_rfl) (NoPanic.seq (NoPanic.block (NoPanic.seq (NoPanic.seq (NoPanic.block (NoPanic.seq (NoPanic.body))))))) ?_
    have hS30 := hS24.drew
    revert hS30
    generalize World.drew w23 = w29
    intro hS30
    refine ⟨⟨rowR.cell (rowO.rd (hS30.own 0).1) 0 h31.1 h31.2 0 rfl, rowR.cell (rowO.rd (hS30.own 1).1) 0 h32.1 h32.2 0 rfl, trivial⟩, forallC ?_ (forallN)⟩
    refine segF 9 [.v (iv (rdD t3 x19 0)), .v (iv (rdD t11 x19 0))] [5, 6, 7, 32] [(5, (sv A8 t3 c9)), (6, (sv A17 t11 c18)), (7, (iv x19)), (32, (bv ((rdD t3 x19 0) != (rdD t11 x19 0))))] [.idx A8 x19 t3.length, .idx A17 x19 t11.length] [0, 1] [(3, ((adr A8).add ((x19).toNat * 1)), (iv (rdD t3 x19 0))), (7, ((adr A17).add ((x19).toNat * 1)), (iv (rdD t11 x19 0)))] (fun fb => by kernel_rfl) rfl ⟨rowR.adr (rowO.rd (hS30.own 0).1) h31.1 h31.2, rowR.adr (rowO.rd (hS30.own 1).1) h32.1 h32.2, trivial⟩ rfl ?_
    refine WL.done rfl (WX.next ?_)
    rcases br_some hl25 with ⟨h33, hl25⟩ | ⟨h33, hl25⟩
    ·refine WC.condT2 (fun fb => by kernel_rfl) h33 ?_
     refine WC.seq ?_
     refine WC.regionD ([(3, ((adr A8).add ((x19).toNat * 1)), (iv (rdD t3 x19 0))), (7, ((adr A17).add ((x19).toNat * 1)), (iv (rdD t11 x19 0)))], [0, 1, 2, 3, 4, 5, 6, 7, 8, 9], [[], [], [0, 1], [0, 1, 2], [], [], [4, 5], [4, 5, 6], [0, 1, 2, 3, 4, 5, 6, 7], [0, 1, 2, 3, 4, 5, 6, 7, 8]]) [[0, 1, 2, 3, 4, 5, 6, 7, 8, 9]] (by kernel_rfl) (by kernel_rfl) (NoPanic.seq (NoPanic.block (NoPanic.seq (NoPanic.seq (NoPanic.block (NoPanic.seq (NoPanic.body))))))) ?_
     have hS35 := hS30.drew
     revert hS35
     generalize World.drew w29 = w34
     intro hS35
     refine ⟨⟨rowR.cell (rowO.rd (hS35.own 0).1) 0 h31.1 h31.2 0 rfl, rowR.cell (rowO.rd (hS35.own 1).1) 0 h32.1 h32.2 0 rfl, trivial⟩, forallC ?_ (forallN)⟩
     refine segF 10 [.v (iv (rdD t3 x19 0)), .v (iv (rdD t11 x19 0))] [4] [(4, (bv (decide ((rdD t3 x19 0) < (rdD t11 x19 0)))))] [.idx A8 x19 t3.length, .idx A17 x19 t11.length] [0, 1] [(3, ((adr A8).add ((x19).toNat * 1)), (iv (rdD t3 x19 0))), (7, ((adr A17).add ((x19).toNat * 1)), (iv (rdD t11 x19 0)))] (fun fb => by kernel_rfl) rfl ⟨rowR.adr (rowO.rd (hS35.own 0).1) h31.1 h31.2, rowR.adr (rowO.rd (hS35.own 1).1) h32.1 h32.2, trivial⟩ rfl ?_
     refine WL.done rfl (WX.next ?_)
     refine WC.ret ?_
     injection hl25 with hl25
     subst hl25
     injection hf with hf
     subst hf
     exact WX.blockR (WX.thenR (WX.thenR (WX.blockR (WX.thenR (WX.ret_ [] (bv (decide ((rdD t3 x19 0) < (rdD t11 x19 0)))) [] (fun fb => by kernel_rfl) trivial ⟨_, rfl, rfl, hS35.keep⟩)))))
    refine WC.condF2 (fun fb => by kernel_rfl) h33 ?_
    refine WC.skip ?_
    refine WX.blockN (WX.next ?_)
    refine WC.region ?_
    refine sg 3 [] [5, 6, 7] [(5, (sv A8 t3 c9)), (6, (sv A17 t11 c18)), (7, (iv (w64 (x19 + 1))))] (by kernel_rfl) ?_
    refine WL.done rfl ?_
    exact WX.again k22 (Nat.lt_succ_self _) (w64 (x19 + 1)) [5, 6, 7] rfl ⟨(hS30.subR [0, 1]).sub [0, 1] (by decide), hl25⟩
   refine WC.condF2 (fun fb => by kernel_rfl) h28 ?_
   refine WC.exit ?_
   injection hl25 with hl25
   exact WX.thenX (WX.thenX (WX.blockHere (WX.to Kx20 () [5, 6] rfl ⟨(hS24.subR [0, 1]).sub [0, 1] (by decide), hl25.symm⟩)))
 rintro y39 w36 ⟨hS37, hq38⟩
 subst hq38
 have hf := sum_inr hf
 refine WX.next (WC.seq (WC.region ?_))
 refine sg 6 [] [4] [(4, (bv (decide ((t3.length : Int) < (t11.length : Int)))))] (by kernel_rfl) ?_
 refine WL.done rfl (WX.next ?_)
 refine WC.ret ?_
 injection hf with hf
 subst hf
 exact WX.ret_ [] (bv (decide ((t3.length : Int) < (t11.length : Int)))) [] (fun fb => by kernel_rfl) trivial ⟨_, rfl, rfl, hS37.keep⟩
theorem ref10_Canon_calls (k : Nat) (p0 : List Tile) (Aa : Option Addr) (ca : Nat) (r : (List Tile)) (w : World) (hR0 : RO NoS w (rowR enc_Tile Aa ca p0)) (hf : ref10_Canon k p0 = some r) :
  CallsR Try.prog 14 #[(sv Aa p0 ca)] w (fun v w' => ∃ (A1_ : Option Addr), ∃ (c1_ : Nat), v = (sv A1_ r c1_) ∧ St NoS w w' [] [rowO 48 enc_Tile A1_ c1_ r]) := by
 have hS : St NoS w w [rowR enc_Tile Aa ca p0] [] := St.init (ro_cons hR0 (ro_nil _ _))
 refine enter 29 Try.func14 rfl Try.ntmps14 rfl ?_
 unfold ref10_Canon at hf
 refine WC.seq (WC.region ?_)
 refine sg 1 [] [0] [(0, (sv Aa p0 ca))] (by kernel_rfl) ?_
 refine WL.done rfl (WX.next (WC.seq (WC.region ?_)))
 refine sg 1 [] [7] [(7, (sv Aa p0 ca))] (by kernel_rfl) ?_
 obtain ⟨t3, ht4, hf⟩ := bind_some hf
 refine WL.call (some 8) 28 #[(sv Aa p0 ca)] (fun fb => by kernel_rfl) (ref10_orders_calls _ p0 Aa ca t3 _ (hS.rd 0) ht4) (fun v w5 hR6 => ?_)
 obtain ⟨A8, c9, H11, rfl, hk_⟩ := hR6
 have hS7 := hS.go w5 [rowO 28 (encSl Tile) A8 c9 (tag H11 t3), rowsO 48 enc_Tile H11 t3] (hS.call hk_ [] [] (fun g hg => hg.elim) (by simp) (by decide))
 refine ⟨trivial, ?_⟩
 refine sg 3 [] [3] [(3, (sv A8 t3 c9))] (by kernel_rfl) ?_
 refine WL.done rfl (WX.next (WC.seq (WC.region ?_)))
 refine sg 1 [] [3, 9] [(3, (sv A8 t3 c9)), (9, (sv A8 t3 c9))] (by kernel_rfl) ?_
 obtain ⟨h12, hf⟩ := as_some hf
 refine seg 3 [.v (sv ((H11 (0 : Int).toNat).1) (rdD t3 (0 : Int) []) ((H11 (0 : Int).toNat).2))] [3, 11] [(3, (sv A8 t3 c9)), (11, (sv ((H11 (0 : Int).toNat).1) (rdD t3 (0 : Int) []) ((H11 (0 : Int).toNat).2)))] [.idx A8 (0 : Int) t3.length, .cell ((adr A8).add (((0 : Int)).toNat * 1)) (sv ((H11 (0 : Int).toNat).1) (rdD t3 (0 : Int) []) ((H11 (0 : Int).toNat).2))] (fun fb => by kernel_rfl) rfl ⟨nrow_adr (rowO.rd (hS7.own 0).1) h12.1 h12.2, nrow_cell (rowO.rd (hS7.own 0).1) [] h12.1 h12.2 0 rfl, trivial⟩ ?_
 obtain ⟨t13, ht15, hf⟩ := bind_some hf
 refine WL.call (some 12) 26 #[(sv ((H11 (0 : Int).toNat).1) (rdD t3 (0 : Int) []) ((H11 (0 : Int).toNat).2))] (fun fb => by kernel_rfl) (ref10_named_calls _ (rdD t3 (0 : Int) []) ((H11 (0 : Int).toNat).1) ((H11 (0 : Int).toNat).2) t13 _ (rowsO.ro (hS7.ow 1) h12.1 h12.2).ofO ht15) (fun v w16 hR17 => ?_)
 obtain ⟨A19, c20, rfl, hk_⟩ := hR17
 have hS18 := hS7.go w16 [rowO 48 enc_Tile A19 c20 t13, rowO 28 (encSl Tile) A8 c9 (tag H11 t3), rowsO 48 enc_Tile H11 t3] (hS7.call hk_ [] [0, 1] (fun g hg => hg.elim) (by simp) (by decide))
 refine ⟨trivial, ?_⟩
 refine sg 5 [] [3, 4] [(3, (sv A8 t3 c9)), (4, (sv A19 t13 c20))] (by kernel_rfl) ?_
 refine WL.done rfl (WX.next (WC.seq (WC.seq (WC.region ?_))))
 refine sg 1 [] [3, 4, 5] [(3, (sv A8 t3 c9)), (4, (sv A19 t13 c20)), (5, (iv 1))] (by kernel_rfl) ?_
 refine WL.done rfl (WX.next ?_)
 obtain ⟨x27, hx28, hf⟩ := bind_some hf
 refine WC.cutN (T := (List Tile) × (Option Addr) × Nat) (fun t => [(4, (sv t.2.1 t.1 t.2.2))]) (fun t w1 => St NoS w w1 [rowR enc_Tile Aa ca p0] [rowO 48 enc_Tile t.2.1 t.2.2 t.1] ∧ x27 = t.1) (fun Kx27 => ?_) ?_
 ·
  refine WC.block ?_
  refine WC.loop (T := ((List Tile) × Int) × (Option Addr) × Nat) (fun t => [(3, (sv A8 t3 c9)), (4, (sv t.2.1 t.1.1 t.2.2)), (5, (iv t.1.2))]) (fun n t w1 => St NoS w w1 [rowR enc_Tile Aa ca p0] [rowO 28 (encSl Tile) A8 c9 (tag H11 t3), rowsO 48 enc_Tile H11 t3, rowO 48 enc_Tile t.2.1 t.2.2 t.1.1] ∧ ref10_Canon.l0 n t.1.1 t.1.2 t3 = some x27) k ((t13, 1), A19, c20) [3, 4, 5] rfl ⟨(hS18.subR [0]).sub [1, 2, 0] (by decide), hx28⟩ ?_
  rintro k29 ⟨⟨l23, x24⟩, A21, c22⟩ w30 ⟨hS31, hl32⟩
  cases k29 with
  | zero => rw [ref10_Canon.l0] at hl32; cases hl32
  | succ k29 =>
   rw [ref10_Canon.l0] at hl32
   refine WC.seq (WC.seq (WC.region ?_))
   refine sg 4 [] [3, 4, 5, 16] [(3, (sv A8 t3 c9)), (4, (sv A21 l23 c22)), (5, (iv x24)), (16, (bv (decide (x24 < (t3.length : Int)))))] (by kernel_rfl) ?_
   refine WL.done rfl (WX.next ?_)
   rcases br_some hl32 with ⟨h33, hl32⟩ | ⟨h33, hl32⟩
   ·refine WC.condT2 (fun fb => by kernel_rfl) h33 ?_
    refine WC.skip (WX.next (WC.seq (WC.block (WC.seq (WC.region ?_)))))
    refine sg 2 [] [3, 4, 5, 19, 20] [(3, (sv A8 t3 c9)), (4, (sv A21 l23 c22)), (5, (iv x24)), (19, (sv A8 t3 c9)), (20, (iv x24))] (by kernel_rfl) ?_
    obtain ⟨h34, hl32⟩ := as_some hl32
    refine seg 4 [.v (sv ((H11 x24.toNat).1) (rdD t3 x24 []) ((H11 x24.toNat).2))] [3, 4, 5, 22] [(3, (sv A8 t3 c9)), (4, (sv A21 l23 c22)), (5, (iv x24)), (22, (sv ((H11 x24.toNat).1) (rdD t3 x24 []) ((H11 x24.toNat).2)))] [.idx A8 x24 t3.length, .cell ((adr A8).add ((x24).toNat * 1)) (sv ((H11 x24.toNat).1) (rdD t3 x24 []) ((H11 x24.toNat).2))] (fun fb => by kernel_rfl) rfl ⟨nrow_adr (rowO.rd (hS31.own 0).1) h34.1 h34.2, nrow_cell (rowO.rd (hS31.own 0).1) [] h34.1 h34.2 0 rfl, trivial⟩ ?_
    obtain ⟨t35, ht36, hl32⟩ := bind_some hl32
    refine WL.call (some 23) 26 #[(sv ((H11 x24.toNat).1) (rdD t3 x24 []) ((H11 x24.toNat).2))] (fun fb => by kernel_rfl) (ref10_named_calls _ (rdD t3 x24 []) ((H11 x24.toNat).1) ((H11 x24.toNat).2) t35 _ (rowsO.ro (hS31.ow 1) h34.1 h34.2).ofO ht36) (fun v w37 hR38 => ?_)
    obtain ⟨A40, c41, rfl, hk_⟩ := hR38
    have hS39 := hS18.go w37 [rowO 48 enc_Tile A40 c41 t35, rowO 28 (encSl Tile) A8 c9 (tag H11 t3), rowsO 48 enc_Tile H11 t3, rowO 48 enc_Tile A21 c22 l23] (hS31.call hk_ [] [0, 1, 2] (fun g hg => hg.elim) (by simp) (by decide))
    refine ⟨trivial, ?_⟩
    refine sg 6 [] [3, 4, 5, 6] [(3, (sv A8 t3 c9)), (4, (sv A21 l23 c22)), (5, (iv x24)), (6, (sv A40 t35 c41))] (by kernel_rfl) ?_
    refine WL.done rfl (WX.next (WC.seq (WC.region ?_)))
    refine sg 2 [] [3, 4, 5, 6, 24, 25] [(3, (sv A8 t3 c9)), (4, (sv A21 l23 c22)), (5, (iv x24)), (6, (sv A40 t35 c41)), (24, (sv A40 t35 c41)), (25, (sv A21 l23 c22))] (by kernel_rfl) ?_
    obtain ⟨t42, ht43, hl32⟩ := bind_some hl32
    refine WL.call (some 26) 15 #[(sv A40 t35 c41), (sv A21 l23 c22)] (fun fb => by kernel_rfl) (ref10_Before_calls _ t35 l23 A40 c41 A21 c22 t42 _ (hS39.ow 0).ofO (hS39.ow 3).ofO ht43) (fun v w44 hR45 => ?_)
    obtain ⟨rfl, hk_⟩ := hR45
    have hS46 := hS39.keepN hk_
    refine ⟨trivial, ?_⟩
    refine WL.done rfl (WX.next ?_)
    obtain ⟨x49, hx50, hl32⟩ := bind_some hl32
    refine WC.cutN (T := (List Tile) × (Option Addr) × Nat) (fun t => [(3, (sv A8 t3 c9)), (4, (sv t.2.1 t.1 t.2.2)), (5, (iv x24))]) (fun t w1 => St NoS w w1 [rowR enc_Tile Aa ca p0] [rowO 28 (encSl Tile) A8 c9 (tag H11 t3), rowsO 48 enc_Tile H11 t3, rowO 48 enc_Tile t.2.1 t.2.2 t.1] ∧ x49 = t.1) (fun Kx49 => ?_) ?_
    ·
     rcases br_some hx50 with ⟨h51, hx50⟩ | ⟨h51, hx50⟩
     ·refine WC.condT2 (fun fb => by kernel_rfl) h51 ?_
      refine WC.region ?_
      refine sg 2 [] [3, 4, 5] [(3, (sv A8 t3 c9)), (4, (sv A40 t35 c41)), (5, (iv x24))] (by kernel_rfl) ?_
      refine WL.done rfl ?_
      injection hx50 with hx50
      exact WX.to Kx49 (t35, A40, c41) [3, 4, 5] rfl ⟨(hS46.subR [0]).sub [1, 2, 0] (by decide), hx50.symm⟩
     refine WC.condF2 (fun fb => by kernel_rfl) h51 ?_
     refine WC.skip ?_
     injection hx50 with hx50
     exact WX.to Kx49 (l23, A21, c22) [3, 4, 5] rfl ⟨(hS46.subR [0]).sub [1, 2, 3] (by decide), hx50.symm⟩
    rintro ⟨y55, A47, c48⟩ w52 ⟨hS53, hq54⟩
    subst hq54
    refine WX.blockN (WX.next ?_)
    refine WC.region ?_
    refine sg 3 [] [3, 4, 5] [(3, (sv A8 t3 c9)), (4, (sv A47 x49 c48)), (5, (iv (w64 (x24 + 1))))] (by kernel_rfl) ?_
    refine WL.done rfl ?_
    exact WX.again k29 (Nat.lt_succ_self _) ((x49, w64 (x24 + 1)), A47, c48) [3, 4, 5] rfl ⟨(hS53.subR [0]).sub [0, 1, 2] (by decide), hl32⟩
   refine WC.condF2 (fun fb => by kernel_rfl) h33 ?_
   refine WC.exit ?_
   injection hl32 with hl32
   exact WX.thenX (WX.thenX (WX.blockHere (WX.to Kx27 (l23, A21, c22) [4] rfl ⟨(hS31.subR [0]).sub [2] (by decide), hl32.symm⟩)))
 rintro ⟨y59, A25, c26⟩ w56 ⟨hS57, hq58⟩
 subst hq58
 refine WX.next (WC.seq (WC.region ?_))
 refine sg 2 [] [2] [(2, (sv A25 x27 c26))] (by kernel_rfl) ?_
 refine WL.done rfl (WX.next ?_)
 refine WC.ret ?_
 injection hf with hf
 subst hf
 exact WX.ret_ [] (sv A25 x27 c26) [] (fun fb => by kernel_rfl) trivial ⟨_, rfl, A25, c26, rfl, (hS57.sub [0] (by decide)).noR⟩
theorem law10_CensusCanon_calls (k : Nat) (p0 : List Tile) (p1 : Int) (Aa : Option Addr) (ca : Nat) (r : Bool) (w : World) (hR0 : RO NoS w (rowR enc_Tile Aa ca p0)) (hf : law10_CensusCanon k p0 p1 = some r) :
  CallsR Try.prog 5 #[(sv Aa p0 ca), (.int .u16 p1)] w (fun v w' => v = (bv r) ∧ Keeps NoS w w') := by
 have hS : St NoS w w [rowR enc_Tile Aa ca p0] [] := St.init (ro_cons hR0 (ro_nil _ _))
 refine enter 125 Try.func5 rfl Try.ntmps5 rfl ?_
 unfold law10_CensusCanon at hf
 refine WC.seq (WC.region ?_)
 refine sg 1 [] [0, 1] [(0, (sv Aa p0 ca)), (1, (.int .u16 p1))] (by kernel_rfl) ?_
 refine WL.done rfl (WX.next (WC.seq (WC.seq (WC.region ?_))))
 refine sg 3 [] [0, 1, 17] [(0, (sv Aa p0 ca)), (1, (.int .u16 p1)), (17, (bv (decide ((p0.length : Int) > 2000))))] (by kernel_rfl) ?_
 refine WL.done rfl (WX.next ?_)
 rcases br_some hf with ⟨h1, hf⟩ | ⟨h1, hf⟩
 ·refine WC.condT2 (fun fb => by kernel_rfl) h1 ?_
  refine WC.seq (WC.region ?_)
  obtain ⟨t3, ht4, hf⟩ := bind_some hf
  refine WL.call (some 18) 9 #[] (fun fb => by kernel_rfl) (law10_awake_calls _ t3 _ ht4) (fun v w6 hR7 => ?_)
  obtain ⟨rfl, hk_⟩ := hR7
  have hS8 := hS.keepN hk_
  refine ⟨trivial, ?_⟩
  refine sg 2 [] [4] [(4, (bv t3))] (by kernel_rfl) ?_
  refine WL.done rfl (WX.next ?_)
  refine WC.ret ?_
  injection hf with hf
  subst hf
  exact WX.thenR (WX.ret_ [] (bv t3) [] (fun fb => by kernel_rfl) trivial ⟨_, rfl, rfl, hS8.keep⟩)
 refine WC.condF2 (fun fb => by kernel_rfl) h1 ?_
 refine WC.skip (WX.next (WC.seq (WC.region ?_)))
 refine sg 1 [] [0, 1, 20] [(0, (sv Aa p0 ca)), (1, (.int .u16 p1)), (20, (sv Aa p0 ca))] (by kernel_rfl) ?_
 obtain ⟨t9, ht11, hf⟩ := bind_some hf
 refine WL.call (some 21) 18 #[(sv Aa p0 ca)] (fun fb => by kernel_rfl) (census_Canon_calls _ p0 Aa ca t9 _ (hS.rd 0) ht11) (fun v w12 hR13 => ?_)
 obtain ⟨A15, c17, rfl, hk_⟩ := hR13
 have hS14 := hS.go w12 [rowO 48 enc_Tile A15 c17 t9.1] (hS.call hk_ [] [] (fun g hg => hg.elim) (by simp) (by decide))
 refine ⟨trivial, ?_⟩
 refine sg 7 [] [0, 1, 5, 6] [(0, (sv Aa p0 ca)), (1, (.int .u16 p1)), (5, (sv A15 t9.1 c17)), (6, (iv t9.2))] (by kernel_rfl) ?_
 refine WL.done rfl (WX.next (WC.seq (WC.block (WC.seq (WC.region ?_)))))
 refine sg 1 [] [0, 1, 5, 6, 25] [(0, (sv Aa p0 ca)), (1, (.int .u16 p1)), (5, (sv A15 t9.1 c17)), (6, (iv t9.2)), (25, (sv Aa p0 ca))] (by kernel_rfl) ?_
 obtain ⟨t18, ht19, hf⟩ := bind_some hf
 refine WL.call (some 26) 11 #[(sv Aa p0 ca)] (fun fb => by kernel_rfl) (ref01_Valid_calls _ p0 Aa ca t18 _ (hS14.rd 0) ht19) (fun v w20 hR21 => ?_)
 obtain ⟨rfl, hk_⟩ := hR21
 have hS22 := hS14.keepN hk_
 refine ⟨trivial, ?_⟩
 refine sg 4 [] [0, 1, 5, 6, 24] [(0, (sv Aa p0 ca)), (1, (.int .u16 p1)), (5, (sv A15 t9.1 c17)), (6, (iv t9.2)), (24, (bv (!t18)))] (by kernel_rfl) ?_
 refine WL.done rfl (WX.next ?_)
 rcases br_some hf with ⟨h23, hf⟩ | ⟨h23, hf⟩
 ·refine WC.condT2 (fun fb => by kernel_rfl) h23 ?_
  refine WC.seq (WC.region ?_)
  refine sg 3 [] [5, 30] [(5, (sv A15 t9.1 c17)), (30, (bv (t9.2 == 1)))] (by kernel_rfl) ?_
  refine WL.cutV (T := Bool) 7 (fun t => [(34, (bv t))]) (fun t => ((t9.2 == 1) && ((t9.1.length : Int) == 0)) = t) (fun K => ?_) ?_
  ·
   rcases Bool.eq_false_or_eq_true (t9.2 == 1) with h24 | h24
   ·
    refine WL.setB 30 h24 rfl ?_
    refine sg 7 [] [34] [(34, (bv ((t9.1.length : Int) == 0)))] (by kernel_rfl) ?_
    exact WL.toV K ((t9.1.length : Int) == 0) [34] rfl (by first | (rw [h24]; done) | (rw [h24]; rfl))
   refine WL.setB 30 h24 rfl ?_
   refine sg 7 [] [34] [(34, (bv false))] (by kernel_rfl) ?_
   exact WL.toV K false [34] rfl (by first | (rw [h24]; done) | (rw [h24]; rfl))
  rintro b25 rfl
  refine sg 8 [] [35] [(35, (bv ((t9.2 == 1) && ((t9.1.length : Int) == 0))))] (by kernel_rfl) ?_
  obtain ⟨x26, hx27, hf⟩ := bind_some hf
  refine WL.cutW (T := Bool) 10 (fun t => [(37, (bv t))]) (fun t w1 => (St NoS w w1 [rowR enc_Tile Aa ca p0] [] ∧ x26 = t) ∧ CellsOK [] w1) (fun K => ?_) ?_
  ·
   rcases br_some hx27 with ⟨h28, hx27⟩ | ⟨h28, hx27⟩
   ·
    refine WL.setB 35 h28 rfl ?_
    obtain ⟨t29, ht30, hx27⟩ := bind_some hx27
    refine WL.call (some 36) 9 #[] (fun fb => by kernel_rfl) (law10_awake_calls _ t29 _ ht30) (fun v w31 hR32 => ?_)
    obtain ⟨rfl, hk_⟩ := hR32
    have hS33 := hS22.keepN hk_
    refine ⟨trivial, ?_⟩
    refine sg 10 [] [37] [(37, (bv t29))] (by kernel_rfl) ?_
    injection hx27 with hx27
    exact WL.to K t29 [37] rfl ⟨⟨(hS33.subR [0]).sub [] (by decide), hx27.symm⟩, trivial⟩
   refine WL.setB 35 h28 rfl ?_
   refine sg 10 [] [37] [(37, (bv false))] (by kernel_rfl) ?_
   injection hx27 with hx27
   exact WL.to K false [37] rfl ⟨⟨(hS22.subR [0]).sub [] (by decide), hx27.symm⟩, trivial⟩
  rintro y34 w36 ⟨⟨hS37, hq35⟩, hF38⟩
  subst hq35
  refine sg 11 [] [4] [(4, (bv x26))] (by kernel_rfl) ?_
  refine WL.done rfl (WX.next ?_)
  refine WC.ret ?_
  injection hf with hf
  subst hf
  exact WX.blockR (WX.thenR (WX.ret_ [] (bv x26) [] (fun fb => by kernel_rfl) trivial ⟨_, rfl, rfl, hS37.keep⟩))
 refine WC.condF2 (fun fb => by kernel_rfl) h23 ?_
 refine WC.seq (WC.region ?_)
 refine sg 4 [] [0, 1, 5, 6, 38] [(0, (sv Aa p0 ca)), (1, (.int .u16 p1)), (5, (sv A15 t9.1 c17)), (6, (iv t9.2)), (38, (bv (decide ((p0.length : Int) > 3))))] (by kernel_rfl) ?_
 refine WL.done rfl (WX.next ?_)
 rcases br_some hf with ⟨h39, hf⟩ | ⟨h39, hf⟩
 ·refine WC.condT2 (fun fb => by kernel_rfl) h39 ?_
  refine WC.seq (WC.region ?_)
  refine sg 3 [] [5, 44] [(5, (sv A15 t9.1 c17)), (44, (bv (t9.2 == 2)))] (by kernel_rfl) ?_
  refine WL.cutV (T := Bool) 7 (fun t => [(48, (bv t))]) (fun t => ((t9.2 == 2) && ((t9.1.length : Int) == 0)) = t) (fun K => ?_) ?_
  ·
   rcases Bool.eq_false_or_eq_true (t9.2 == 2) with h40 | h40
   ·
    refine WL.setB 44 h40 rfl ?_
    refine sg 7 [] [48] [(48, (bv ((t9.1.length : Int) == 0)))] (by kernel_rfl) ?_
    exact WL.toV K ((t9.1.length : Int) == 0) [48] rfl (by first | (rw [h40]; done) | (rw [h40]; rfl))
   refine WL.setB 44 h40 rfl ?_
   refine sg 7 [] [48] [(48, (bv false))] (by kernel_rfl) ?_
   exact WL.toV K false [48] rfl (by first | (rw [h40]; done) | (rw [h40]; rfl))
  rintro b41 rfl
  refine sg 8 [] [49] [(49, (bv ((t9.2 == 2) && ((t9.1.length : Int) == 0))))] (by kernel_rfl) ?_
  obtain ⟨x42, hx43, hf⟩ := bind_some hf
  refine WL.cutW (T := Bool) 10 (fun t => [(51, (bv t))]) (fun t w1 => (St NoS w w1 [rowR enc_Tile Aa ca p0] [] ∧ x42 = t) ∧ CellsOK [] w1) (fun K => ?_) ?_
  ·
   rcases br_some hx43 with ⟨h44, hx43⟩ | ⟨h44, hx43⟩
   ·
    refine WL.setB 49 h44 rfl ?_
    obtain ⟨t45, ht46, hx43⟩ := bind_some hx43
    refine WL.call (some 50) 9 #[] (fun fb => by kernel_rfl) (law10_awake_calls _ t45 _ ht46) (fun v w47 hR48 => ?_)
    obtain ⟨rfl, hk_⟩ := hR48
    have hS49 := hS22.keepN hk_
    refine ⟨trivial, ?_⟩
    refine sg 10 [] [51] [(51, (bv t45))] (by kernel_rfl) ?_
    injection hx43 with hx43
    exact WL.to K t45 [51] rfl ⟨⟨(hS49.subR [0]).sub [] (by decide), hx43.symm⟩, trivial⟩
   refine WL.setB 49 h44 rfl ?_
   refine sg 10 [] [51] [(51, (bv false))] (by kernel_rfl) ?_
   injection hx43 with hx43
   exact WL.to K false [51] rfl ⟨⟨(hS22.subR [0]).sub [] (by decide), hx43.symm⟩, trivial⟩
  rintro y50 w52 ⟨⟨hS53, hq51⟩, hF54⟩
  subst hq51
  refine sg 11 [] [4] [(4, (bv x42))] (by kernel_rfl) ?_
  refine WL.done rfl (WX.next ?_)
  refine WC.ret ?_
  injection hf with hf
  subst hf
  exact WX.blockR (WX.thenR (WX.ret_ [] (bv x42) [] (fun fb => by kernel_rfl) trivial ⟨_, rfl, rfl, hS53.keep⟩))
 refine WC.condF2 (fun fb => by kernel_rfl) h39 ?_
 refine WC.skip ?_
 refine WX.blockN (WX.next ?_)
 refine WC.seq (WC.region ?_)
 refine sg 1 [] [0, 1, 5, 6, 53] [(0, (sv Aa p0 ca)), (1, (.int .u16 p1)), (5, (sv A15 t9.1 c17)), (6, (iv t9.2)), (53, (sv A15 t9.1 c17))] (by kernel_rfl) ?_
 obtain ⟨t55, ht56, hf⟩ := bind_some hf
 refine WL.call (some 54) 18 #[(sv A15 t9.1 c17)] (fun fb => by kernel_rfl) (census_Canon_calls _ t9.1 A15 c17 t55 _ (hS22.ow 0).ofO ht56) (fun v w57 hR58 => ?_)
 obtain ⟨A60, c61, rfl, hk_⟩ := hR58
 have hS59 := hS14.go w57 [rowO 48 enc_Tile A60 c61 t55.1, rowO 48 enc_Tile A15 c17 t9.1] (hS22.call hk_ [] [0] (fun g hg => hg.elim) (by simp) (by decide))
 refine ⟨trivial, ?_⟩
 refine sg 7 [] [0, 1, 5, 6, 7, 8] [(0, (sv Aa p0 ca)), (1, (.int .u16 p1)), (5, (sv A15 t9.1 c17)), (6, (iv t9.2)), (7, (sv A60 t55.1 c61)), (8, (iv t55.2))] (by kernel_rfl) ?_
 refine WL.done rfl (WX.next (WC.seq (WC.region ?_)))
 refine seg 4 [] [0, 5, 6, 7, 8, 9] [(0, (sv Aa p0 ca)), (5, (sv A15 t9.1 c17)), (6, (iv t9.2)), (7, (sv A60 t55.1 c61)), (8, (iv t55.2)), (9, (iv (Int.tmod (w64 (p1)) 1000)))] [.ne 1000] (fun fb => by kernel_rfl) rfl ⟨(by decide), trivial⟩ ?_
 refine WL.done rfl (WX.next (WC.seq (WC.region ?_)))
 refine sg 1 [] [0, 5, 6, 7, 8, 9, 10] [(0, (sv Aa p0 ca)), (5, (sv A15 t9.1 c17)), (6, (iv t9.2)), (7, (sv A60 t55.1 c61)), (8, (iv t55.2)), (9, (iv (Int.tmod (w64 (p1)) 1000))), (10, (.slice none 0 0))] (by kernel_rfl) ?_
 refine WL.done rfl (WX.next (WC.seq (WC.seq (WC.region ?_))))
 refine sg 4 [] [0, 5, 6, 7, 8, 9, 10, 11] [(0, (sv Aa p0 ca)), (5, (sv A15 t9.1 c17)), (6, (iv t9.2)), (7, (sv A60 t55.1 c61)), (8, (iv t55.2)), (9, (iv (Int.tmod (w64 (p1)) 1000))), (10, (.slice none 0 0)), (11, (iv (w64 ((p0.length : Int) - 1))))] (by kernel_rfl) ?_
 refine WL.done rfl (WX.next ?_)
 have hS62 := hS59.nilrow 48 enc_Tile
 obtain ⟨x70, hx71, hf⟩ := bind_some hf
 refine WC.cutN (T := (List Tile) × (Option Addr) × Nat) (fun t => [(0, (sv Aa p0 ca)), (5, (sv A15 t9.1 c17)), (6, (iv t9.2)), (7, (sv A60 t55.1 c61)), (8, (iv t55.2)), (10, (sv t.2.1 t.1 t.2.2))]) (fun t w1 => St NoS w w1 [rowR enc_Tile Aa ca p0] [rowO 48 enc_Tile A15 c17 t9.1, rowO 48 enc_Tile A60 c61 t55.1, rowO 48 enc_Tile t.2.1 t.2.2 t.1] ∧ x70 = t.1) (fun Kx70 => ?_) ?_
 ·
  refine WC.block ?_
  refine WC.loop (T := ((List Tile) × Int) × (Option Addr) × Nat) (fun t => [(0, (sv Aa p0 ca)), (5, (sv A15 t9.1 c17)), (6, (iv t9.2)), (7, (sv A60 t55.1 c61)), (8, (iv t55.2)), (9, (iv (Int.tmod (w64 (p1)) 1000))), (10, (sv t.2.1 t.1.1 t.2.2)), (11, (iv t.1.2))]) (fun n t w1 => St NoS w w1 [rowR enc_Tile Aa ca p0] [rowO 48 enc_Tile A15 c17 t9.1, rowO 48 enc_Tile A60 c61 t55.1, rowO 48 enc_Tile t.2.1 t.2.2 t.1.1] ∧ law10_CensusCanon.l0 n t.1.1 t.1.2 p0 p1 = some x70) k ((([] : List Tile), w64 ((p0.length : Int) - 1)), none, 0) [0, 5, 6, 7, 8, 9, 10, 11] rfl ⟨(hS62.subR [0]).sub [2, 1, 0] (by decide), hx71⟩ ?_
  rintro k72 ⟨⟨l66, x67⟩, A63, c65⟩ w73 ⟨hS74, hl75⟩
  cases k72 with
  | zero => rw [law10_CensusCanon.l0] at hl75; cases hl75
  | succ k72 =>
   rw [law10_CensusCanon.l0] at hl75
   refine WC.seq (WC.seq (WC.region ?_))
   refine sg 2 [] [0, 5, 6, 7, 8, 9, 10, 11, 64] [(0, (sv Aa p0 ca)), (5, (sv A15 t9.1 c17)), (6, (iv t9.2)), (7, (sv A60 t55.1 c61)), (8, (iv t55.2)), (9, (iv (Int.tmod (w64 (p1)) 1000))), (10, (sv A63 l66 c65)), (11, (iv x67)), (64, (bv (decide (x67 ≥ 0))))] (by kernel_rfl) ?_
   refine WL.done rfl (WX.next ?_)
   rcases br_some hl75 with ⟨h76, hl75⟩ | ⟨h76, hl75⟩
   ·refine WC.condT2 (fun fb => by kernel_rfl) h76 ?_
    refine WC.skip (WX.next (WC.seq (WC.block (WC.seq (WC.region ?_)))))
    refine sg 2 [] [0, 5, 6, 7, 8, 9, 10, 11, 67, 68] [(0, (sv Aa p0 ca)), (5, (sv A15 t9.1 c17)), (6, (iv t9.2)), (7, (sv A60 t55.1 c61)), (8, (iv t55.2)), (9, (iv (Int.tmod (w64 (p1)) 1000))), (10, (sv A63 l66 c65)), (11, (iv x67)), (67, (sv Aa p0 ca)), (68, (iv x67))] (by kernel_rfl) ?_
    obtain ⟨h77, hl75⟩ := as_some hl75
    refine seg 4 [.v (iv ((rdD p0 x67 z_Tile).N)), .v (iv ((rdD p0 x67 z_Tile).E)), .v (iv ((rdD p0 x67 z_Tile).S)), .v (iv ((rdD p0 x67 z_Tile).W))] [0, 5, 6, 7, 8, 9, 10, 11, 70] [(0, (sv Aa p0 ca)), (5, (sv A15 t9.1 c17)), (6, (iv t9.2)), (7, (sv A60 t55.1 c61)), (8, (iv t55.2)), (9, (iv (Int.tmod (w64 (p1)) 1000))), (10, (sv A63 l66 c65)), (11, (iv x67)), (70, (.agg #[(iv ((rdD p0 x67 z_Tile).N)), (iv ((rdD p0 x67 z_Tile).E)), (iv ((rdD p0 x67 z_Tile).S)), (iv ((rdD p0 x67 z_Tile).W))]))] [.idx Aa x67 p0.length, .cell ((adr Aa).add ((x67).toNat * 4)) (iv ((rdD p0 x67 z_Tile).N)), .cell (((adr Aa).add ((x67).toNat * 4)).add 1) (iv ((rdD p0 x67 z_Tile).E)), .cell (((adr Aa).add ((x67).toNat * 4)).add 2) (iv ((rdD p0 x67 z_Tile).S)), .cell (((adr Aa).add ((x67).toNat * 4)).add 3) (iv ((rdD p0 x67 z_Tile).W))] (fun fb => by kernel_rfl) rfl ⟨rowR.adr (hS74.rd 0).1 h77.1 h77.2, rowR.cell (hS74.rd 0).1 z_Tile h77.1 h77.2 0 rfl, rowR.cell (hS74.rd 0).1 z_Tile h77.1 h77.2 1 rfl, rowR.cell (hS74.rd 0).1 z_Tile h77.1 h77.2 2 rfl, rowR.cell (hS74.rd 0).1 z_Tile h77.1 h77.2 3 rfl, trivial⟩ ?_
    refine WL.new hS74 12 [] (fun g => (pt g)) (.cells #[(iv 0), (iv 0), (iv 0), (iv 0)] 48 (0, 0)) [] (fun fb g => by kernel_rfl) trivial (fun g78 w79 hS80 => ?_)
    refine ⟨trivial, ?_⟩
    refine WL.store hS80 0 rfl [(0, (iv ((rdD p0 x67 z_Tile).N))), (1, (iv ((rdD p0 x67 z_Tile).E))), (2, (iv ((rdD p0 x67 z_Tile).S))), (3, (iv ((rdD p0 x67 z_Tile).W)))] #[(iv ((rdD p0 x67 z_Tile).N)), (iv ((rdD p0 x67 z_Tile).E)), (iv ((rdD p0 x67 z_Tile).S)), (iv ((rdD p0 x67 z_Tile).W))] (fun fb => by kernel_rfl) (by kernel_rfl) rfl [1, 2, 3] (by decide) (by decide) (fun w81 hS82 => ?_)
    refine ⟨trivial, ?_⟩
    refine WL.done rfl (WX.next (WC.region ?_))
    refine seg 18 [.v (iv ((rdD p0 x67 z_Tile).N)), .v (iv ((rdD p0 x67 z_Tile).S)), .v (iv ((rdD p0 x67 z_Tile).E)), .v (iv ((rdD p0 x67 z_Tile).W))] [0, 5, 6, 7, 8, 9, 11, 71, 88] [(0, (sv Aa p0 ca)), (5, (sv A15 t9.1 c17)), (6, (iv t9.2)), (7, (sv A60 t55.1 c61)), (8, (iv t55.2)), (9, (iv (Int.tmod (w64 (p1)) 1000))), (11, (iv x67)), (71, (sv A63 l66 c65)), (88, (.agg #[(iv (Int.tmod (w64 (((rdD p0 x67 z_Tile).N) + (Int.tmod (w64 (p1)) 1000))) 1000)), (iv (w64 (999 - ((rdD p0 x67 z_Tile).E)))), (iv (Int.tmod (w64 (((rdD p0 x67 z_Tile).S) + (Int.tmod (w64 (p1)) 1000))) 1000)), (iv (w64 (999 - ((rdD p0 x67 z_Tile).W))))]))] [.cell ⟨g78, 0, none⟩ (iv ((rdD p0 x67 z_Tile).N)), .ne 1000, .cell ⟨g78, 2, none⟩ (iv ((rdD p0 x67 z_Tile).S)), .ne 1000, .cell ⟨g78, 1, none⟩ (iv ((rdD p0 x67 z_Tile).E)), .cell ⟨g78, 3, none⟩ (iv ((rdD p0 x67 z_Tile).W))] (fun fb => by kernel_rfl) rfl ⟨hS82.cell 0 rfl 0 rfl, (by decide), hS82.cell 0 rfl 2 rfl, (by decide), hS82.cell 0 rfl 1 rfl, hS82.cell 0 rfl 3 rfl, trivial⟩ ?_
    refine WL.new hS82 89 [] (fun g => (.slice (some ⟨g, 0, none⟩) 1 1)) (.cells #[(iv (Int.tmod (w64 (((rdD p0 x67 z_Tile).N) + (Int.tmod (w64 (p1)) 1000))) 1000)), (iv (w64 (999 - ((rdD p0 x67 z_Tile).E)))), (iv (Int.tmod (w64 (((rdD p0 x67 z_Tile).S) + (Int.tmod (w64 (p1)) 1000))) 1000)), (iv (w64 (999 - ((rdD p0 x67 z_Tile).W))))] 48 (0, 0)) [] (fun fb g => by kernel_rfl) trivial (fun g83 w84 hS85 => ?_)
    refine ⟨trivial, ?_⟩
    have hS86 := hS59.go w84 [rowO 48 enc_Tile (some ⟨g83, 0, none⟩) 1 [(Tile.mk (Int.tmod (w64 (((rdD p0 x67 z_Tile).N) + (Int.tmod (w64 (p1)) 1000))) 1000) (w64 (999 - ((rdD p0 x67 z_Tile).E))) (Int.tmod (w64 (((rdD p0 x67 z_Tile).S) + (Int.tmod (w64 (p1)) 1000))) 1000) (w64 (999 - ((rdD p0 x67 z_Tile).W))))], blk g78 (.cells #[(iv ((rdD p0 x67 z_Tile).N)), (iv ((rdD p0 x67 z_Tile).E)), (iv ((rdD p0 x67 z_Tile).S)), (iv ((rdD p0 x67 z_Tile).W))] 48 (0, 0)), rowO 48 enc_Tile A15 c17 t9.1, rowO 48 enc_Tile A60 c61 t55.1, rowO 48 enc_Tile A63 c65 l66] (hS85.map1 0 _ (fun h => rowO.ofBlk h rfl (Nat.le_of_ble_eq_true (by kernel_rfl))) (fun _ h => by obtain ⟨_, h1, h2⟩ := h; injection h1 with h1; subst h1; exact h2) [1, 2, 3, 4] (by decide) (by decide))
    obtain ⟨h87, hl75⟩ := as_some hl75
    refine WL.append hS86 4 (d := 90) (tS := 28) (z := (.agg #[(iv 0), (iv 0), (iv 0), (iv 0)])) (bytes := 32) (c2 := 1) rfl (fun fb => by kernel_rfl) (rowO.rd (hS86.own 0).1) (by kernel_rfl) (by kernel_rfl) rfl (by decide) h87 (by decide) [0, 1, 2, 3] (by decide) (by decide) (fun A88 c89 w90 hS91 => ?_)
    refine ⟨trivial, ?_⟩
    refine sg 21 [] [0, 5, 6, 7, 8, 9, 10, 11] [(0, (sv Aa p0 ca)), (5, (sv A15 t9.1 c17)), (6, (iv t9.2)), (7, (sv A60 t55.1 c61)), (8, (iv t55.2)), (9, (iv (Int.tmod (w64 (p1)) 1000))), (10, (sv A88 (l66 ++ [(Tile.mk (Int.tmod (w64 (((rdD p0 x67 z_Tile).N) + (Int.tmod (w64 (p1)) 1000))) 1000) (w64 (999 - ((rdD p0 x67 z_Tile).E))) (Int.tmod (w64 (((rdD p0 x67 z_Tile).S) + (Int.tmod (w64 (p1)) 1000))) 1000) (w64 (999 - ((rdD p0 x67 z_Tile).W))))]) c89)), (11, (iv x67))] (by kernel_rfl) ?_
    refine WL.done rfl ?_
    refine WX.blockN (WX.next ?_)
    refine WC.region ?_
    refine sg 3 [] [0, 5, 6, 7, 8, 9, 10, 11] [(0, (sv Aa p0 ca)), (5, (sv A15 t9.1 c17)), (6, (iv t9.2)), (7, (sv A60 t55.1 c61)), (8, (iv t55.2)), (9, (iv (Int.tmod (w64 (p1)) 1000))), (10, (sv A88 (l66 ++ [(Tile.mk (Int.tmod (w64 (((rdD p0 x67 z_Tile).N) + (Int.tmod (w64 (p1)) 1000))) 1000) (w64 (999 - ((rdD p0 x67 z_Tile).E))) (Int.tmod (w64 (((rdD p0 x67 z_Tile).S) + (Int.tmod (w64 (p1)) 1000))) 1000) (w64 (999 - ((rdD p0 x67 z_Tile).W))))]) c89)), (11, (iv (w64 (x67 - 1))))] (by kernel_rfl) ?_
    refine WL.done rfl ?_
    exact WX.again k72 (Nat.lt_succ_self _) ((l66 ++ [(Tile.mk (Int.tmod (w64 (((rdD p0 x67 z_Tile).N) + (Int.tmod (w64 (p1)) 1000))) 1000) (w64 (999 - ((rdD p0 x67 z_Tile).E))) (Int.tmod (w64 (((rdD p0 x67 z_Tile).S) + (Int.tmod (w64 (p1)) 1000))) 1000) (w64 (999 - ((rdD p0 x67 z_Tile).W))))], w64 (x67 - 1)), A88, c89) [0, 5, 6, 7, 8, 9, 10, 11] rfl ⟨(hS91.subR [0]).sub [3, 4, 0] (by decide), hl75⟩
   refine WC.condF2 (fun fb => by kernel_rfl) h76 ?_
   refine WC.exit ?_
   injection hl75 with hl75
   exact WX.thenX (WX.thenX (WX.blockHere (WX.to Kx70 (l66, A63, c65) [0, 5, 6, 7, 8, 10] rfl ⟨(hS74.subR [0]).sub [0, 1, 2] (by decide), hl75.symm⟩)))
 rintro ⟨y95, A68, c69⟩ w92 ⟨hS93, hq94⟩
 subst hq94
 refine WX.next (WC.seq (WC.region ?_))
 refine sg 1 [] [0, 5, 6, 7, 8, 92] [(0, (sv Aa p0 ca)), (5, (sv A15 t9.1 c17)), (6, (iv t9.2)), (7, (sv A60 t55.1 c61)), (8, (iv t55.2)), (92, (sv A68 x70 c69))] (by kernel_rfl) ?_
 obtain ⟨t96, ht97, hf⟩ := bind_some hf
 refine WL.call (some 93) 18 #[(sv A68 x70 c69)] (fun fb => by kernel_rfl) (census_Canon_calls _ x70 A68 c69 t96 _ (hS93.ow 2).ofO ht97) (fun v w98 hR99 => ?_)
 obtain ⟨A101, c102, rfl, hk_⟩ := hR99
 have hS100 := hS59.go w98 [rowO 48 enc_Tile A101 c102 t96.1, rowO 48 enc_Tile A15 c17 t9.1, rowO 48 enc_Tile A60 c61 t55.1, rowO 48 enc_Tile A68 c69 x70] (hS93.call hk_ [] [0, 1, 2] (fun g hg => hg.elim) (by simp) (by decide))
 refine ⟨trivial, ?_⟩
 refine sg 7 [] [0, 5, 6, 7, 8, 13, 14] [(0, (sv Aa p0 ca)), (5, (sv A15 t9.1 c17)), (6, (iv t9.2)), (7, (sv A60 t55.1 c61)), (8, (iv t55.2)), (13, (sv A101 t96.1 c102)), (14, (iv t96.2))] (by kernel_rfl) ?_
 refine WL.done rfl (WX.next (WC.seq (WC.region ?_)))
 refine sg 3 [] [0, 5, 7, 8, 13, 14, 98] [(0, (sv Aa p0 ca)), (5, (sv A15 t9.1 c17)), (7, (sv A60 t55.1 c61)), (8, (iv t55.2)), (13, (sv A101 t96.1 c102)), (14, (iv t96.2)), (98, (bv (t9.2 == 0)))] (by kernel_rfl) ?_
 refine WL.cutV (T := Bool) 6 (fun t => [(101, (bv t)), (0, (sv Aa p0 ca)), (5, (sv A15 t9.1 c17)), (7, (sv A60 t55.1 c61)), (13, (sv A101 t96.1 c102)), (14, (iv t96.2))]) (fun t => ((t9.2 == 0) && (t55.2 == 0)) = t) (fun K => ?_) ?_
 ·
  rcases Bool.eq_false_or_eq_true (t9.2 == 0) with h103 | h103
  ·
   refine WL.setB 98 h103 rfl ?_
   refine sg 6 [] [0, 5, 7, 13, 14, 101] [(0, (sv Aa p0 ca)), (5, (sv A15 t9.1 c17)), (7, (sv A60 t55.1 c61)), (13, (sv A101 t96.1 c102)), (14, (iv t96.2)), (101, (bv (t55.2 == 0)))] (by kernel_rfl) ?_
   exact WL.toV K (t55.2 == 0) [101, 0, 5, 7, 13, 14] rfl (by first | (rw [h103]; done) | (rw [h103]; rfl))
  refine WL.setB 98 h103 rfl ?_
  refine sg 6 [] [0, 5, 7, 13, 14, 101] [(0, (sv Aa p0 ca)), (5, (sv A15 t9.1 c17)), (7, (sv A60 t55.1 c61)), (13, (sv A101 t96.1 c102)), (14, (iv t96.2)), (101, (bv false))] (by kernel_rfl) ?_
  exact WL.toV K false [101, 0, 5, 7, 13, 14] rfl (by first | (rw [h103]; done) | (rw [h103]; rfl))
 rintro b104 rfl
 refine sg 7 [] [0, 5, 7, 13, 14, 102] [(0, (sv Aa p0 ca)), (5, (sv A15 t9.1 c17)), (7, (sv A60 t55.1 c61)), (13, (sv A101 t96.1 c102)), (14, (iv t96.2)), (102, (bv ((t9.2 == 0) && (t55.2 == 0))))] (by kernel_rfl) ?_
 refine WL.cutV (T := Bool) 10 (fun t => [(105, (bv t)), (0, (sv Aa p0 ca)), (5, (sv A15 t9.1 c17)), (7, (sv A60 t55.1 c61)), (13, (sv A101 t96.1 c102))]) (fun t => (((t9.2 == 0) && (t55.2 == 0)) && (t96.2 == 0)) = t) (fun K => ?_) ?_
 ·
  rcases Bool.eq_false_or_eq_true ((t9.2 == 0) && (t55.2 == 0)) with h105 | h105
  ·
   refine WL.setB 102 h105 rfl ?_
   refine sg 10 [] [0, 5, 7, 13, 105] [(0, (sv Aa p0 ca)), (5, (sv A15 t9.1 c17)), (7, (sv A60 t55.1 c61)), (13, (sv A101 t96.1 c102)), (105, (bv (t96.2 == 0)))] (by kernel_rfl) ?_
   exact WL.toV K (t96.2 == 0) [105, 0, 5, 7, 13] rfl (by first | (rw [h105]; done) | (rw [h105]; rfl))
  refine WL.setB 102 h105 rfl ?_
  refine sg 10 [] [0, 5, 7, 13, 105] [(0, (sv Aa p0 ca)), (5, (sv A15 t9.1 c17)), (7, (sv A60 t55.1 c61)), (13, (sv A101 t96.1 c102)), (105, (bv false))] (by kernel_rfl) ?_
  exact WL.toV K false [105, 0, 5, 7, 13] rfl (by first | (rw [h105]; done) | (rw [h105]; rfl))
 rintro b106 rfl
 refine sg 11 [] [0, 5, 7, 13, 106] [(0, (sv Aa p0 ca)), (5, (sv A15 t9.1 c17)), (7, (sv A60 t55.1 c61)), (13, (sv A101 t96.1 c102)), (106, (bv (((t9.2 == 0) && (t55.2 == 0)) && (t96.2 == 0))))] (by kernel_rfl) ?_
 obtain ⟨x107, hx108, hf⟩ := bind_some hf
 refine WL.cutW (T := Bool) 16 (fun t => [(5, (sv A15 t9.1 c17)), (7, (sv A60 t55.1 c61)), (13, (sv A101 t96.1 c102)), (111, (bv t))]) (fun t w1 => (St NoS w w1 [rowR enc_Tile Aa ca p0] [rowO 48 enc_Tile A15 c17 t9.1, rowO 48 enc_Tile A60 c61 t55.1, rowO 48 enc_Tile A101 c102 t96.1] ∧ x107 = t) ∧ CellsOK [] w1) (fun K => ?_) ?_
 ·
  rcases br_some hx108 with ⟨h109, hx108⟩ | ⟨h109, hx108⟩
  ·
   refine WL.setB 106 h109 rfl ?_
   refine sg 13 [] [5, 7, 13, 106, 107, 108] [(5, (sv A15 t9.1 c17)), (7, (sv A60 t55.1 c61)), (13, (sv A101 t96.1 c102)), (106, (bv true)), (107, (sv A15 t9.1 c17)), (108, (sv Aa p0 ca))] (by kernel_rfl) ?_
   obtain ⟨t110, ht111, hx108⟩ := bind_some hx108
   refine WL.call (some 109) 14 #[(sv Aa p0 ca)] (fun fb => by kernel_rfl) (ref10_Canon_calls _ p0 Aa ca t110 _ (hS100.rd 0) ht111) (fun v w112 hR113 => ?_)
   obtain ⟨A115, c116, rfl, hk_⟩ := hR113
   have hS114 := hS100.go w112 [rowO 48 enc_Tile A115 c116 t110, rowO 48 enc_Tile A101 c102 t96.1, rowO 48 enc_Tile A15 c17 t9.1, rowO 48 enc_Tile A60 c61 t55.1, rowO 48 enc_Tile A68 c69 x70] (hS100.call hk_ [] [0, 1, 2, 3] (fun g hg => hg.elim) (by simp) (by decide))
   refine ⟨trivial, ?_⟩
   obtain ⟨t117, ht118, hx108⟩ := bind_some hx108
   refine WL.call (some 110) 13 #[(sv A15 t9.1 c17), (sv A115 t110 c116)] (fun fb => by kernel_rfl) (ref01_SameSet_calls _ t9.1 t110 A15 c17 A115 c116 t117 _ (hS114.ow 2).ofO (hS114.ow 0).ofO ht118) (fun v w119 hR120 => ?_)
   obtain ⟨rfl, hk_⟩ := hR120
   have hS121 := hS114.keepN hk_
   refine ⟨trivial, ?_⟩
   refine sg 16 [] [5, 7, 13, 111] [(5, (sv A15 t9.1 c17)), (7, (sv A60 t55.1 c61)), (13, (sv A101 t96.1 c102)), (111, (bv t117))] (by kernel_rfl) ?_
   injection hx108 with hx108
   exact WL.to K t117 [5, 7, 13, 111] rfl ⟨⟨(hS121.subR [0]).sub [2, 3, 1] (by decide), hx108.symm⟩, trivial⟩
  refine WL.setB 106 h109 rfl ?_
  refine sg 16 [] [5, 7, 13, 111] [(5, (sv A15 t9.1 c17)), (7, (sv A60 t55.1 c61)), (13, (sv A101 t96.1 c102)), (111, (bv false))] (by kernel_rfl) ?_
  injection hx108 with hx108
  exact WL.to K false [5, 7, 13, 111] rfl ⟨⟨(hS100.subR [0]).sub [1, 2, 0] (by decide), hx108.symm⟩, trivial⟩
 rintro y122 w124 ⟨⟨hS125, hq123⟩, hF126⟩
 subst hq123
 refine sg 17 [] [5, 7, 13, 112] [(5, (sv A15 t9.1 c17)), (7, (sv A60 t55.1 c61)), (13, (sv A101 t96.1 c102)), (112, (bv x107))] (by kernel_rfl) ?_
 obtain ⟨x127, hx128, hf⟩ := bind_some hf
 refine WL.cutW (T := Bool) 21 (fun t => [(5, (sv A15 t9.1 c17)), (13, (sv A101 t96.1 c102)), (116, (bv t))]) (fun t w1 => (St NoS w w1 [rowR enc_Tile Aa ca p0] [rowO 48 enc_Tile A15 c17 t9.1, rowO 48 enc_Tile A101 c102 t96.1] ∧ x127 = t) ∧ CellsOK [] w1) (fun K => ?_) ?_
 ·
  rcases br_some hx128 with ⟨h129, hx128⟩ | ⟨h129, hx128⟩
  ·
   refine WL.setB 112 h129 rfl ?_
   refine sg 19 [] [5, 13, 112, 113, 114] [(5, (sv A15 t9.1 c17)), (13, (sv A101 t96.1 c102)), (112, (bv true)), (113, (sv A60 t55.1 c61)), (114, (sv A15 t9.1 c17))] (by kernel_rfl) ?_
   obtain ⟨t130, ht131, hx128⟩ := bind_some hx128
   refine WL.call (some 115) 13 #[(sv A60 t55.1 c61), (sv A15 t9.1 c17)] (fun fb => by kernel_rfl) (ref01_SameSet_calls _ t55.1 t9.1 A60 c61 A15 c17 t130 _ (hS125.ow 1).ofO (hS125.ow 0).ofO ht131) (fun v w132 hR133 => ?_)
   obtain ⟨rfl, hk_⟩ := hR133
   have hS134 := hS125.keepN hk_
   refine ⟨trivial, ?_⟩
   refine sg 21 [] [5, 13, 116] [(5, (sv A15 t9.1 c17)), (13, (sv A101 t96.1 c102)), (116, (bv t130))] (by kernel_rfl) ?_
   injection hx128 with hx128
   exact WL.to K t130 [5, 13, 116] rfl ⟨⟨(hS134.subR [0]).sub [0, 2] (by decide), hx128.symm⟩, trivial⟩
  refine WL.setB 112 h129 rfl ?_
  refine sg 21 [] [5, 13, 116] [(5, (sv A15 t9.1 c17)), (13, (sv A101 t96.1 c102)), (116, (bv false))] (by kernel_rfl) ?_
  injection hx128 with hx128
  exact WL.to K false [5, 13, 116] rfl ⟨⟨(hS125.subR [0]).sub [0, 2] (by decide), hx128.symm⟩, trivial⟩
 rintro y135 w137 ⟨⟨hS138, hq136⟩, hF139⟩
 subst hq136
 refine sg 22 [] [5, 13, 117] [(5, (sv A15 t9.1 c17)), (13, (sv A101 t96.1 c102)), (117, (bv x127))] (by kernel_rfl) ?_
 obtain ⟨x140, hx141, hf⟩ := bind_some hf
 refine WL.cutW (T := Bool) 26 (fun t => [(121, (bv t))]) (fun t w1 => (St NoS w w1 [rowR enc_Tile Aa ca p0] [] ∧ x140 = t) ∧ CellsOK [] w1) (fun K => ?_) ?_
 ·
  rcases br_some hx141 with ⟨h142, hx141⟩ | ⟨h142, hx141⟩
  ·
   refine WL.setB 117 h142 rfl ?_
   refine sg 24 [] [117, 118, 119] [(117, (bv true)), (118, (sv A101 t96.1 c102)), (119, (sv A15 t9.1 c17))] (by kernel_rfl) ?_
   obtain ⟨t143, ht144, hx141⟩ := bind_some hx141
   refine WL.call (some 120) 13 #[(sv A101 t96.1 c102), (sv A15 t9.1 c17)] (fun fb => by kernel_rfl) (ref01_SameSet_calls _ t96.1 t9.1 A101 c102 A15 c17 t143 _ (hS138.ow 1).ofO (hS138.ow 0).ofO ht144) (fun v w145 hR146 => ?_)
   obtain ⟨rfl, hk_⟩ := hR146
   have hS147 := hS138.keepN hk_
   refine ⟨trivial, ?_⟩
   refine sg 26 [] [121] [(121, (bv t143))] (by kernel_rfl) ?_
   injection hx141 with hx141
   exact WL.to K t143 [121] rfl ⟨⟨(hS147.subR [0]).sub [] (by decide), hx141.symm⟩, trivial⟩
  refine WL.setB 117 h142 rfl ?_
  refine sg 26 [] [121] [(121, (bv false))] (by kernel_rfl) ?_
  injection hx141 with hx141
  exact WL.to K false [121] rfl ⟨⟨(hS138.subR [0]).sub [] (by decide), hx141.symm⟩, trivial⟩
 rintro y148 w150 ⟨⟨hS151, hq149⟩, hF152⟩
 subst hq149
 refine sg 27 [] [122] [(122, (bv x140))] (by kernel_rfl) ?_
 obtain ⟨x153, hx154, hf⟩ := bind_some hf
 refine WL.cutW (T := Bool) 29 (fun t => [(124, (bv t))]) (fun t w1 => (St NoS w w1 [rowR enc_Tile Aa ca p0] [] ∧ x153 = t) ∧ CellsOK [] w1) (fun K => ?_) ?_
 ·
  rcases br_some hx154 with ⟨h155, hx154⟩ | ⟨h155, hx154⟩
  ·
   refine WL.setB 122 h155 rfl ?_
   obtain ⟨t156, ht157, hx154⟩ := bind_some hx154
   refine WL.call (some 123) 9 #[] (fun fb => by kernel_rfl) (law10_awake_calls _ t156 _ ht157) (fun v w158 hR159 => ?_)
   obtain ⟨rfl, hk_⟩ := hR159
   have hS160 := hS151.keepN hk_
   refine ⟨trivial, ?_⟩
   refine sg 29 [] [124] [(124, (bv t156))] (by kernel_rfl) ?_
   injection hx154 with hx154
   exact WL.to K t156 [124] rfl ⟨⟨(hS160.subR [0]).sub [] (by decide), hx154.symm⟩, trivial⟩
  refine WL.setB 122 h155 rfl ?_
  refine sg 29 [] [124] [(124, (bv false))] (by kernel_rfl) ?_
  injection hx154 with hx154
  exact WL.to K false [124] rfl ⟨⟨(hS151.subR [0]).sub [] (by decide), hx154.symm⟩, trivial⟩
 rintro y161 w163 ⟨⟨hS164, hq162⟩, hF165⟩
 subst hq162
 refine sg 30 [] [4] [(4, (bv x153))] (by kernel_rfl) ?_
 refine WL.done rfl (WX.next ?_)
 refine WC.ret ?_
 injection hf with hf
 subst hf
 exact WX.ret_ [] (bv x153) [] (fun fb => by kernel_rfl) trivial ⟨_, rfl, rfl, hS164.keep⟩
end Gp
