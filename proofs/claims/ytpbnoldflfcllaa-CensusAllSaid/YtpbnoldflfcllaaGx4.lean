/- Walks: each function of the program computes its plain function. -/
import Derived.Test.YtpbnoldflfcllaaGx3
set_option linter.unusedVariables false
set_option linter.unusedSimpArgs false
set_option maxHeartbeats 4000000
set_option maxRecDepth 8000
namespace Gp
open Go Gw Go.Proofs
theorem law10_awake_calls (k : Nat)   (r : Bool) (w : World)  (hf : law10_awake k = some r) :
  CallsR Try.prog 9 #[] w (fun v w' => v = (bv r) ∧ Keeps NoS w w') := by
 have hS : St NoS w w [] [] := St.init (ro_nil _ _)
 refine enter 45 Try.func9 rfl Try.ntmps9 rfl ?_
 unfold law10_awake at hf
 refine WC.seq (WC.region ?_)
 refine sg 1 [] [] [] (by kernel_rfl) ?_
 refine WL.done rfl (WX.next (WC.seq (WC.region ?_)))
 obtain ⟨t3, ht4, hf⟩ := bind_some hf
 refine WL.call (some 6) 8 #[(iv 1)] (fun fb => by kernel_rfl) (census_All_calls _ 1 t3 _ ht4) (fun v w5 hR6 => ?_)
 obtain ⟨A8, c11, H12, rfl, hk_⟩ := hR6
 have hS7 := hS.go w5 [rowO 28 (encSl Tile) A8 c11 (tag H12 t3.1), rowsO 48 enc_Tile H12 t3.1] (hS.call hk_ [] [] (fun g hg => hg.elim) (by simp) (by decide))
 refine ⟨trivial, ?_⟩
 refine sg 6 [] [1, 2] [(1, (sv A8 t3.1 c11)), (2, (iv t3.2))] (by kernel_rfl) ?_
 refine WL.done rfl (WX.next (WC.seq (WC.region ?_)))
 obtain ⟨t13, ht14, hf⟩ := bind_some hf
 refine WL.call (some 10) 16 #[(iv 1)] (fun fb => by kernel_rfl) (census_Count_calls _ 1 t13 _ ht14) (fun v w15 hR16 => ?_)
 obtain ⟨rfl, hk_⟩ := hR16
 have hS17 := hS7.keepN hk_
 refine ⟨trivial, ?_⟩
 refine sg 4 [] [1, 2, 11, 12] [(1, (sv A8 t3.1 c11)), (2, (iv t3.2)), (11, (.agg #[(iv t13.1.Sets), (iv t13.1.Fill), (iv t13.1.Cells), (iv t13.1.Side)])), (12, (iv t13.2))] (by kernel_rfl) ?_
 refine WL.new hS17 3 [] (fun g => (pt g)) (.cells #[(iv 0), (iv 0), (iv 0), (iv 0)] 34 (0, 0)) [] (fun fb g => by kernel_rfl) trivial (fun g18 w19 hS20 => ?_)
 refine ⟨trivial, ?_⟩
 refine WL.store hS20 0 rfl [(0, (iv t13.1.Sets)), (1, (iv t13.1.Fill)), (2, (iv t13.1.Cells)), (3, (iv t13.1.Side))] #[(iv t13.1.Sets), (iv t13.1.Fill), (iv t13.1.Cells), (iv t13.1.Side)] (fun fb => by kernel_rfl) (by kernel_rfl) rfl [1, 2] (by decide) (by decide) (fun w21 hS22 => ?_)
 refine ⟨trivial, ?_⟩
 refine sg 7 [] [1, 2, 3, 4] [(1, (sv A8 t3.1 c11)), (2, (iv t3.2)), (3, (pt g18)), (4, (iv t13.2))] (by kernel_rfl) ?_
 refine WL.done rfl (WX.next (WC.seq (WC.region ?_)))
 refine sg 3 [] [1, 3, 4, 15] [(1, (sv A8 t3.1 c11)), (3, (pt g18)), (4, (iv t13.2)), (15, (bv (t3.2 == 0)))] (by kernel_rfl) ?_
 refine WL.cutV (T := Bool) 6 (fun t => [(18, (bv t)), (1, (sv A8 t3.1 c11)), (3, (pt g18))]) (fun t => ((t3.2 == 0) && (t13.2 == 0)) = t) (fun K => ?_) ?_
 ·
  rcases Bool.eq_false_or_eq_true (t3.2 == 0) with h23 | h23
  ·
   refine WL.setB 15 h23 rfl ?_
   refine sg 6 [] [1, 3, 18] [(1, (sv A8 t3.1 c11)), (3, (pt g18)), (18, (bv (t13.2 == 0)))] (by kernel_rfl) ?_
   exact WL.toV K (t13.2 == 0) [18, 1, 3] rfl (by first | (rw [h23]; done) | (rw [h23]; rfl))
  refine WL.setB 15 h23 rfl ?_
  refine sg 6 [] [1, 3, 18] [(1, (sv A8 t3.1 c11)), (3, (pt g18)), (18, (bv false))] (by kernel_rfl) ?_
  exact WL.toV K false [18, 1, 3] rfl (by first | (rw [h23]; done) | (rw [h23]; rfl))
 rintro b24 rfl
 refine sg 7 [] [1, 3, 19] [(1, (sv A8 t3.1 c11)), (3, (pt g18)), (19, (bv ((t3.2 == 0) && (t13.2 == 0))))] (by kernel_rfl) ?_
 refine WL.cutV (T := Bool) 11 (fun t => [(23, (bv t)), (1, (sv A8 t3.1 c11)), (3, (pt g18))]) (fun t => (((t3.2 == 0) && (t13.2 == 0)) && ((t3.1.length : Int) == 4)) = t) (fun K => ?_) ?_
 ·
  rcases Bool.eq_false_or_eq_true ((t3.2 == 0) && (t13.2 == 0)) with h25 | h25
  ·
   refine WL.setB 19 h25 rfl ?_
   refine sg 11 [] [1, 3, 23] [(1, (sv A8 t3.1 c11)), (3, (pt g18)), (23, (bv ((t3.1.length : Int) == 4)))] (by kernel_rfl) ?_
   exact WL.toV K ((t3.1.length : Int) == 4) [23, 1, 3] rfl (by first | (rw [h25]; done) | (rw [h25]; rfl))
  refine WL.setB 19 h25 rfl ?_
  refine sg 11 [] [1, 3, 23] [(1, (sv A8 t3.1 c11)), (3, (pt g18)), (23, (bv false))] (by kernel_rfl) ?_
  exact WL.toV K false [23, 1, 3] rfl (by first | (rw [h25]; done) | (rw [h25]; rfl))
 rintro b26 rfl
 refine sg 12 [] [1, 3, 24] [(1, (sv A8 t3.1 c11)), (3, (pt g18)), (24, (bv (((t3.2 == 0) && (t13.2 == 0)) && ((t3.1.length : Int) == 4))))] (by kernel_rfl) ?_
 obtain ⟨x27, hx28, hf⟩ := bind_some hf
 let e1 := (sv ((H12 (1 : Int).toNat).1) (rdD t3.1 (1 : Int) []) ((H12 (1 : Int).toNat).2))
 let e3 : Nat × Value := (1, (sv A8 t3.1 c11))
 let e4 : Array Value := #[(iv t13.1.Sets), (iv t13.1.Fill), (iv t13.1.Cells), (iv t13.1.Side)]
 refine WL.cutW (T := Bool) 19 (fun t => [e3, (3, (pt g18)), (31, (bv t))]) (fun t w1 => (St NoS w w1 [] [rowO 28 (encSl Tile) A8 c11 (tag H12 t3.1), rowsO 48 enc_Tile H12 t3.1, blk g18 (.cells e4 34 (0, 0))] ∧ x27 = t) ∧ CellsOK [] w1) (fun K => ?_) ?_
 ·
  rcases br_some hx28 with ⟨h29, hx28⟩ | ⟨h29, hx28⟩
  ·
   refine WL.setB 24 h29 rfl ?_
   refine sg 13 [] [1, 3, 24, 25] [e3, (3, (pt g18)), (24, (bv true)), (25, (sv A8 t3.1 c11))] (by kernel_rfl) ?_
   obtain ⟨h30, hx28⟩ := as_some hx28
   refine seg 16 [.v e1] [1, 3, 24, 27, 28] [e3, (3, (pt g18)), (24, (bv true)), (27, e1), (28, (.agg #[(iv 0), (iv 0), (iv 0), (iv 1)]))] [.idx A8 (1 : Int) t3.1.length, .cell ((adr A8).add (((1 : Int)).toNat * 1)) e1] (fun fb => by kernel_rfl) rfl ⟨nrow_adr (rowO.rd (hS22.own 1).1) h30.1 h30.2, nrow_cell (rowO.rd (hS22.own 1).1) [] h30.1 h30.2 0 rfl, trivial⟩ ?_
   refine WL.new hS22 29 [] (fun g => (.slice (some ⟨g, 0, none⟩) 1 1)) (.cells #[(iv 0), (iv 0), (iv 0), (iv 1)] 48 (0, 0)) [] (fun fb g => by kernel_rfl) trivial (fun g31 w32 hS33 => ?_)
   refine ⟨trivial, ?_⟩
   have hS34 := hS7.go w32 [rowO 48 enc_Tile (some ⟨g31, 0, none⟩) 1 [(Tile.mk 0 0 0 1)], blk g18 (.cells e4 34 (0, 0)), rowO 28 (encSl Tile) A8 c11 (tag H12 t3.1), rowsO 48 enc_Tile H12 t3.1] (hS33.map1 0 _ (fun h => rowO.ofBlk h rfl (Nat.le_of_ble_eq_true (by kernel_rfl))) (fun _ h => by obtain ⟨_, h1, h2⟩ := h; injection h1 with h1; subst h1; exact h2) [1, 2, 3] (by decide) (by decide))
   obtain ⟨t35, ht36, hx28⟩ := bind_some hx28
   refine WL.call (some 30) 13 #[e1, (sv (some ⟨g31, 0, none⟩) [(Tile.mk 0 0 0 1)] 1)] (fun fb => by kernel_rfl) (ref01_SameSet_calls _ (rdD t3.1 (1 : Int) []) [(Tile.mk 0 0 0 1)] ((H12 (1 : Int).toNat).1) ((H12 (1 : Int).toNat).2) (some ⟨g31, 0, none⟩) 1 t35 _ (rowsO.ro (hS34.ow 3) h30.1 h30.2).ofO (hS34.ow 0).ofO ht36) (fun v w37 hR38 => ?_)
   obtain ⟨rfl, hk_⟩ := hR38
   have hS39 := hS34.keepN hk_
   refine ⟨trivial, ?_⟩
   refine sg 19 [] [1, 3, 31] [e3, (3, (pt g18)), (31, (bv t35))] (by kernel_rfl) ?_
   injection hx28 with hx28
   exact WL.to K t35 [1, 3, 31] rfl ⟨⟨(hS39.subR []).sub [2, 3, 1] (by decide), hx28.symm⟩, trivial⟩
  refine WL.setB 24 h29 rfl ?_
  refine sg 19 [] [1, 3, 31] [e3, (3, (pt g18)), (31, (bv false))] (by kernel_rfl) ?_
  injection hx28 with hx28
  exact WL.to K false [1, 3, 31] rfl ⟨⟨(hS22.subR []).sub [1, 2, 0] (by decide), hx28.symm⟩, trivial⟩
 rintro y40 w42 ⟨⟨hS43, hq41⟩, hF44⟩
 subst hq41
 refine sg 20 [] [1, 3, 32] [e3, (3, (pt g18)), (32, (bv x27))] (by kernel_rfl) ?_
 obtain ⟨x45, hx46, hf⟩ := bind_some hf
 let e2 := (sv ((H12 (2 : Int).toNat).1) (rdD t3.1 (2 : Int) []) ((H12 (2 : Int).toNat).2))
 refine WL.cutW (T := Bool) 27 (fun t => [(3, (pt g18)), (39, (bv t))]) (fun t w1 => (St NoS w w1 [] [blk g18 (.cells e4 34 (0, 0))] ∧ x45 = t) ∧ CellsOK [] w1) (fun K => ?_) ?_
 ·
  rcases br_some hx46 with ⟨h47, hx46⟩ | ⟨h47, hx46⟩
  ·
   refine WL.setB 32 h47 rfl ?_
   refine sg 21 [] [3, 32, 33] [(3, (pt g18)), (32, (bv true)), (33, (sv A8 t3.1 c11))] (by kernel_rfl) ?_
   obtain ⟨h48, hx46⟩ := as_some hx46
   refine seg 24 [.v e2] [3, 32, 35, 36] [(3, (pt g18)), (32, (bv true)), (35, e2), (36, (.agg #[(iv 0), (iv 0), (iv 1), (iv 0)]))] [.idx A8 (2 : Int) t3.1.length, .cell ((adr A8).add (((2 : Int)).toNat * 1)) e2] (fun fb => by kernel_rfl) rfl ⟨nrow_adr (rowO.rd (hS43.own 0).1) h48.1 h48.2, nrow_cell (rowO.rd (hS43.own 0).1) [] h48.1 h48.2 0 rfl, trivial⟩ ?_
   refine WL.new hS43 37 [] (fun g => (.slice (some ⟨g, 0, none⟩) 1 1)) (.cells #[(iv 0), (iv 0), (iv 1), (iv 0)] 48 (0, 0)) [] (fun fb g => by kernel_rfl) trivial (fun g49 w50 hS51 => ?_)
   refine ⟨trivial, ?_⟩
   have hS52 := hS7.go w50 [rowO 48 enc_Tile (some ⟨g49, 0, none⟩) 1 [(Tile.mk 0 0 1 0)], rowO 28 (encSl Tile) A8 c11 (tag H12 t3.1), rowsO 48 enc_Tile H12 t3.1, blk g18 (.cells e4 34 (0, 0))] (hS51.map1 0 _ (fun h => rowO.ofBlk h rfl (Nat.le_of_ble_eq_true (by kernel_rfl))) (fun _ h => by obtain ⟨_, h1, h2⟩ := h; injection h1 with h1; subst h1; exact h2) [1, 2, 3] (by decide) (by decide))
   obtain ⟨t53, ht54, hx46⟩ := bind_some hx46
   refine WL.call (some 38) 13 #[e2, (sv (some ⟨g49, 0, none⟩) [(Tile.mk 0 0 1 0)] 1)] (fun fb => by kernel_rfl) (ref01_SameSet_calls _ (rdD t3.1 (2 : Int) []) [(Tile.mk 0 0 1 0)] ((H12 (2 : Int).toNat).1) ((H12 (2 : Int).toNat).2) (some ⟨g49, 0, none⟩) 1 t53 _ (rowsO.ro (hS52.ow 2) h48.1 h48.2).ofO (hS52.ow 0).ofO ht54) (fun v w55 hR56 => ?_)
   obtain ⟨rfl, hk_⟩ := hR56
   have hS57 := hS52.keepN hk_
   refine ⟨trivial, ?_⟩
   refine sg 27 [] [3, 39] [(3, (pt g18)), (39, (bv t53))] (by kernel_rfl) ?_
   injection hx46 with hx46
   exact WL.to K t53 [3, 39] rfl ⟨⟨(hS57.subR []).sub [3] (by decide), hx46.symm⟩, trivial⟩
  refine WL.setB 32 h47 rfl ?_
  refine sg 27 [] [3, 39] [(3, (pt g18)), (39, (bv false))] (by kernel_rfl) ?_
  injection hx46 with hx46
  exact WL.to K false [3, 39] rfl ⟨⟨(hS43.subR []).sub [2] (by decide), hx46.symm⟩, trivial⟩
 rintro y58 w60 ⟨⟨hS61, hq59⟩, hF62⟩
 subst hq59
 refine sg 28 [] [3, 40] [(3, (pt g18)), (40, (bv x45))] (by kernel_rfl) ?_
 refine WL.cutV (T := Bool) 32 (fun t => [(44, (bv t))]) (fun t => (x45 && (t13.1.Sets == 4 && (t13.1.Fill == 1 && (t13.1.Cells == 1 && (t13.1.Side == 2))))) = t) (fun K => ?_) ?_
 ·
  rcases Bool.eq_false_or_eq_true x45 with h63 | h63
  ·
   refine WL.setB 40 h63 rfl ?_
   refine seg 32 [.v (iv t13.1.Sets), .v (iv t13.1.Fill), .v (iv t13.1.Cells), .v (iv t13.1.Side)] [44] [(44, (bv (t13.1.Sets == 4 && (t13.1.Fill == 1 && (t13.1.Cells == 1 && (t13.1.Side == 2))))))] [.cell ⟨g18, 0, none⟩ (iv t13.1.Sets), .cell ⟨g18, 1, none⟩ (iv t13.1.Fill), .cell ⟨g18, 2, none⟩ (iv t13.1.Cells), .cell ⟨g18, 3, none⟩ (iv t13.1.Side)] (fun fb => by kernel_rfl) rfl ⟨hS61.cell 0 rfl 0 rfl, hS61.cell 0 rfl 1 rfl, hS61.cell 0 rfl 2 rfl, hS61.cell 0 rfl 3 rfl, trivial⟩ ?_
   exact WL.toV K (t13.1.Sets == 4 && (t13.1.Fill == 1 && (t13.1.Cells == 1 && (t13.1.Side == 2)))) [44] rfl (by first | (rw [h63]; done) | (rw [h63]; rfl))
  refine WL.setB 40 h63 rfl ?_
  refine sg 32 [] [44] [(44, (bv false))] (by kernel_rfl) ?_
  exact WL.toV K false [44] rfl (by first | (rw [h63]; done) | (rw [h63]; rfl))
 rintro b65 rfl
 refine sg 33 [] [0] [(0, (bv (x45 && (t13.1.Sets == 4 && (t13.1.Fill == 1 && (t13.1.Cells == 1 && (t13.1.Side == 2)))))))] (by kernel_rfl) ?_
 refine WL.done rfl (WX.next ?_)
 refine WC.ret ?_
 injection hf with hf
 subst hf
 exact WX.ret_ [] (bv (x45 && (t13.1.Sets == 4 && (t13.1.Fill == 1 && (t13.1.Cells == 1 && (t13.1.Side == 2)))))) [] (fun fb => by kernel_rfl) trivial ⟨_, rfl, rfl, hS61.keep⟩
theorem ref10_growing_calls (k : Nat) (p0 : Int)  (r : (List (List Int))) (w : World)  (hf : ref10_growing k p0 = some r) :
  CallsR Try.prog 23 #[(iv p0)] w (fun v w' => ∃ (A1_ : Option Addr), ∃ (c1_ : Nat), ∃ (z1_ : HF), v = (sv A1_ r c1_) ∧ St NoS w w' [] [rowO 37 (encSl Int) A1_ c1_ (tag z1_ r), rowsO 3 encInt z1_ r]) := by
 have hS : St NoS w w [] [] := St.init (ro_nil _ _)
 refine enter 60 Try.func23 rfl Try.ntmps23 rfl ?_
 unfold ref10_growing at hf
 refine WC.seq (WC.region ?_)
 refine sg 1 [] [0] [(0, (iv p0))] (by kernel_rfl) ?_
 refine WL.done rfl (WX.next (WC.seq (WC.region ?_)))
 have hS4 := hS.nilrow 3 encInt
 refine WL.new hS4 10 [] (fun g => (.slice (some ⟨g, 0, none⟩) 1 1)) (.cells #[(sv none ([] : List Int) 0)] 37 (0, 0)) [] (fun fb g => by kernel_rfl) trivial (fun g5 w6 hS7 => ?_)
 refine ⟨trivial, ?_⟩
 have hS8 := hS.go w6 [rowO 37 (encSl Int) (some ⟨g5, 0, none⟩) 1 (tag (fun _ => (none, 0)) [([] : List Int)]), rowO 3 encInt none 0 ([] : List Int)] (hS7.map1 0 _ (fun h => rowO.ofBlk h rfl (Nat.le_of_ble_eq_true (by kernel_rfl))) (fun _ h => by obtain ⟨_, h1, h2⟩ := h; injection h1 with h1; subst h1; exact h2) [1] (by decide) (by decide))
 have hS9 := hS8.go w6 [rowsO 3 encInt (fun _ => (none, 0)) [([] : List Int)], rowO 37 (encSl Int) (some ⟨g5, 0, none⟩) 1 (tag (fun _ => (none, 0)) [([] : List Int)])] (hS8.rowsOne 1 rfl [0] (by decide) (by decide))
 refine sg 2 [] [0, 3] [(0, (iv p0)), (3, (sv (some ⟨g5, 0, none⟩) [([] : List Int)] 1))] (by kernel_rfl) ?_
 refine WL.done rfl (WX.next (WC.seq (WC.seq (WC.region ?_))))
 refine sg 1 [] [0, 3, 4] [(0, (iv p0)), (3, (sv (some ⟨g5, 0, none⟩) [([] : List Int)] 1)), (4, (iv 0))] (by kernel_rfl) ?_
 refine WL.done rfl (WX.next ?_)
 obtain ⟨x19, hx20, hf⟩ := bind_some hf
 let e5 : Nat × Value := (0, (iv p0))
 let e6 := encSl Int
 let e13 : List Nat := [0, 3, 4, 5, 6, 7, 8]
 let e14 : List Nat := [0, 3, 4, 5, 6, 7, 9]
 let e15 := List (List Int)
 let e18 := Option Addr
 refine WC.cutN (T := e15 × e18 × Nat × HF) (fun t => [(3, (sv t.2.1 t.1 t.2.2.1))]) (fun t w1 => St NoS w w1 [] [rowO 37 e6 t.2.1 t.2.2.1 (tag t.2.2.2 t.1), rowsO 3 encInt t.2.2.2 t.1] ∧ x19 = t.1) (fun Kx19 => ?_) ?_
 ·
  refine WC.block ?_
  refine WC.loop (T := (e15 × Int) × e18 × Nat × HF) (fun t => [e5, (3, (sv t.2.1 t.1.1 t.2.2.1)), (4, (iv t.1.2))]) (fun n t w1 => St NoS w w1 [] [rowO 37 e6 t.2.1 t.2.2.1 (tag t.2.2.2 t.1.1), rowsO 3 encInt t.2.2.2 t.1.1] ∧ ref10_growing.l0 n t.1.1 t.1.2 p0 = some x19) k (([([] : List Int)], 0), (some ⟨g5, 0, none⟩), 1, (fun _ => (none, 0))) [0, 3, 4] rfl ⟨(hS9.subR []).sub [1, 0] (by decide), hx20⟩ ?_
  rintro k21 ⟨⟨l13, x15⟩, A11, c12, H14⟩ w22 ⟨hS24, hl25⟩
  let e2 : Nat × Value := (3, (sv A11 l13 c12))
  let e4 : Nat × Value := (4, (iv x15))
  let e9 := tag H14 l13
  cases k21 with
  | zero => rw [ref10_growing.l0] at hl25; cases hl25
  | succ k21 =>
   rw [ref10_growing.l0] at hl25
   refine WC.seq (WC.seq (WC.region ?_))
   refine sg 3 [] [0, 3, 4, 13] [e5, e2, e4, (13, (bv (decide (x15 < p0))))] (by kernel_rfl) ?_
   refine WL.done rfl (WX.next ?_)
   rcases br_some hl25 with ⟨h26, hl25⟩ | ⟨h26, hl25⟩
   ·refine WC.condT2 (fun fb => by kernel_rfl) h26 ?_
    refine WC.skip (WX.next (WC.seq (WC.block (WC.seq (WC.region ?_)))))
    refine sg 1 [] [0, 3, 4, 5] [e5, e2, e4, (5, (.slice none 0 0))] (by kernel_rfl) ?_
    refine WL.done rfl (WX.next (WC.seq (WC.seq (WC.region ?_))))
    refine sg 1 [] [0, 3, 4, 5, 6] [e5, e2, e4, (5, (.slice none 0 0)), (6, (iv 0))] (by kernel_rfl) ?_
    refine WL.done rfl (WX.next ?_)
    have hS27 := hS9.go w22 [rowO 37 e6 none 0 (tag hf0 ([] : List (List Int))), rowO 37 e6 A11 c12 e9, rowsO 3 encInt H14 l13] (hS24.nilrow 37 e6)
    have hS28 := hS27.go w22 [rowsO 3 encInt hf0 ([] : List (List Int)), rowO 37 e6 none 0 (tag hf0 ([] : List (List Int))), rowO 37 e6 A11 c12 e9, rowsO 3 encInt H14 l13] (hS27.rowsNil 3 encInt 0)
    obtain ⟨x37, hx38, hl25⟩ := bind_some hl25
    refine WC.cutN (T := e15 × e18 × Nat × HF) (fun t => [e5, e4, (5, (sv t.2.1 t.1 t.2.2.1))]) (fun t w1 => St NoS w w1 [] [rowO 37 e6 t.2.1 t.2.2.1 (tag t.2.2.2 t.1), rowsO 3 encInt t.2.2.2 t.1] ∧ x37 = t.1) (fun Kx37 => ?_) ?_
    ·
     refine WC.block ?_
     refine WC.loop (T := (e15 × Int) × e18 × Nat × HF) (fun t => [e5, e2, e4, (5, (sv t.2.1 t.1.1 t.2.2.1)), (6, (iv t.1.2))]) (fun n t w1 => St NoS w w1 [] [rowO 37 e6 A11 c12 e9, rowsO 3 encInt H14 l13, rowO 37 e6 t.2.1 t.2.2.1 (tag t.2.2.2 t.1.1), rowsO 3 encInt t.2.2.2 t.1.1] ∧ ref10_growing.l1 n t.1.1 t.1.2 l13 = some x37) k21 ((([] : List (List Int)), 0), none, 0, hf0) [0, 3, 4, 5, 6] rfl ⟨(hS28.subR []).sub [2, 3, 1, 0] (by decide), hx38⟩ ?_
     rintro k39 ⟨⟨l31, x33⟩, A29, c30, H32⟩ w40 ⟨hS41, hl42⟩
     let e1 := (([] : List Int) ++ (rdD l13 x33 []))
     let e3 := sv ((H14 x33.toNat).1) (rdD l13 x33 []) ((H14 x33.toNat).2)
     let e7 : Nat × Value := (6, (iv x33))
     let e8 : Nat × Value := (5, (sv A29 l31 c30))
     let e10 : List Own := [rowO 37 e6 A11 c12 e9, rowsO 3 encInt H14 l13, rowO 37 e6 A29 c30 (tag H32 l31), rowsO 3 encInt H32 l31]
     let e17 := (adr A11).add ((x33).toNat * 1)
     cases k39 with
     | zero => rw [ref10_growing.l1] at hl42; cases hl42
     | succ k39 =>
      rw [ref10_growing.l1] at hl42
      refine WC.seq (WC.seq (WC.region ?_))
      refine sg 4 [] [0, 3, 4, 5, 6, 19] [e5, e2, e4, e8, e7, (19, (bv (decide (x33 < (l13.length : Int)))))] (by kernel_rfl) ?_
      refine WL.done rfl (WX.next ?_)
      rcases br_some hl42 with ⟨h43, hl42⟩ | ⟨h43, hl42⟩
      ·refine WC.condT2 (fun fb => by kernel_rfl) h43 ?_
       refine WC.skip (WX.next (WC.seq (WC.block (WC.seq (WC.region ?_)))))
       refine sg 1 [] [0, 3, 4, 5, 6, 7] [e5, e2, e4, e8, e7, (7, (iv 0))] (by kernel_rfl) ?_
       refine WL.done rfl (WX.next (WC.seq (WC.seq (WC.region ?_))))
       refine sg 1 [] e13 [e5, e2, e4, e8, e7, (7, (iv 0)), (8, (iv 0))] (by kernel_rfl) ?_
       refine WL.done rfl (WX.next ?_)
       obtain ⟨x46, hx47, hl42⟩ := bind_some hl42
       refine WC.cutN (T := Int) (fun t => [e5, e2, e4, e8, e7, (7, (iv t))]) (fun t w1 => St NoS w w1 [] e10 ∧ x46 = t) (fun Kx46 => ?_) ?_
       ·
        refine WC.block ?_
        refine WC.loop (T := Int × Int) (fun t => [e5, e2, e4, e8, e7, (7, (iv t.1)), (8, (iv t.2))]) (fun n t w1 => St NoS w w1 [] e10 ∧ ref10_growing.l2 n t.1 t.2 l13 x33 = some x46) k39 (0, 0) e13 rfl ⟨(hS41.subR []).sub [0, 1, 2, 3] (by decide), hx47⟩ ?_
        rintro k48 ⟨x44, x45⟩ w49 ⟨hS50, hl51⟩
        let e11 := rdD (rdD l13 x33 []) x45 0
        cases k48 with
        | zero => rw [ref10_growing.l2] at hl51; cases hl51
        | succ k48 =>
         rw [ref10_growing.l2] at hl51
         refine WC.seq (WC.seq (WC.region ?_))
         refine sg 3 [] [0, 3, 4, 5, 6, 7, 8, 22, 23, 24] [e5, e2, e4, e8, e7, (7, (iv x44)), (8, (iv x45)), (22, (iv x45)), (23, (sv A11 l13 c12)), (24, (iv x33))] (by kernel_rfl) ?_
         obtain ⟨h52, hl51⟩ := as_some hl51
         refine seg 7 [.v e3] [0, 3, 4, 5, 6, 7, 8, 28] [e5, e2, e4, e8, e7, (7, (iv x44)), (8, (iv x45)), (28, (bv (decide (x45 < ((rdD l13 x33 []).length : Int)))))] [.idx A11 x33 l13.length, .cell e17 e3] (fun fb => by kernel_rfl) rfl ⟨nrow_adr (rowO.rd (hS50.own 0).1) h52.1 h52.2, nrow_cell (rowO.rd (hS50.own 0).1) [] h52.1 h52.2 0 rfl, trivial⟩ ?_
         refine WL.done rfl (WX.next ?_)
         rcases br_some hl51 with ⟨h53, hl51⟩ | ⟨h53, hl51⟩
         ·refine WC.condT2 (fun fb => by kernel_rfl) h53 ?_
          refine WC.skip (WX.next (WC.seq (WC.block (WC.region ?_))))
          refine seg 6 [.v e3] [0, 3, 4, 5, 6, 8, 31, 35, 36] [e5, e2, e4, e8, e7, (8, (iv x45)), (31, (iv x44)), (35, e3), (36, (iv x45))] [.idx A11 x33 l13.length, .cell e17 e3] (fun fb => by kernel_rfl) rfl ⟨nrow_adr (rowO.rd (hS50.own 0).1) h52.1 h52.2, nrow_cell (rowO.rd (hS50.own 0).1) [] h52.1 h52.2 0 rfl, trivial⟩ ?_
          obtain ⟨h54, hl51⟩ := as_some hl51
          refine seg 11 [.v (iv e11)] e13 [e5, e2, e4, e8, e7, (7, (iv (maxI x44 (w64 (e11 + 1))))), (8, (iv x45))] [.idx ((H14 x33.toNat).1) x45 (rdD l13 x33 []).length, .cell ((adr ((H14 x33.toNat).1)).add ((x45).toNat * 1)) (iv e11)] (fun fb => by kernel_rfl) rfl ⟨rowR.adr (rowO.rd (rowsO.at (hS50.own 1).1 h52.1 h52.2)) h54.1 h54.2, rowR.cell (rowO.rd (rowsO.at (hS50.own 1).1 h52.1 h52.2)) 0 h54.1 h54.2 0 rfl, trivial⟩ ?_
          refine WL.done rfl ?_
          refine WX.blockN (WX.next ?_)
          refine WC.region ?_
          refine sg 3 [] e13 [e5, e2, e4, e8, e7, (7, (iv (maxI x44 (w64 (e11 + 1))))), (8, (iv (w64 (x45 + 1))))] (by kernel_rfl) ?_
          refine WL.done rfl ?_
          exact WX.again k48 (Nat.lt_succ_self _) (maxI x44 (w64 (e11 + 1)), w64 (x45 + 1)) e13 rfl ⟨(hS50.subR []).sub [0, 1, 2, 3] (by decide), hl51⟩
         refine WC.condF2 (fun fb => by kernel_rfl) h53 ?_
         refine WC.exit ?_
         injection hl51 with hl51
         exact WX.thenX (WX.thenX (WX.blockHere (WX.to Kx46 x44 [0, 3, 4, 5, 6, 7] rfl ⟨(hS50.subR []).sub [0, 1, 2, 3] (by decide), hl51.symm⟩)))
       rintro y58 w55 ⟨hS56, hq57⟩
       subst hq57
       refine WX.next (WC.seq (WC.region ?_))
       refine sg 1 [] e14 [e5, e2, e4, e8, e7, (7, (iv x46)), (9, (iv 0))] (by kernel_rfl) ?_
       refine WL.done rfl (WX.next ?_)
       obtain ⟨x68, hx69, hl42⟩ := bind_some hl42
       let e16 : Nat × Value := (7, (iv x46))
       refine WC.cutN (T := e15 × e18 × Nat × HF) (fun t => [e5, e2, e4, (5, (sv t.2.1 t.1 t.2.2.1)), e7]) (fun t w1 => St NoS w w1 [] [rowO 37 e6 A11 c12 e9, rowsO 3 encInt H14 l13, rowO 37 e6 t.2.1 t.2.2.1 (tag t.2.2.2 t.1), rowsO 3 encInt t.2.2.2 t.1] ∧ x68 = t.1) (fun Kx68 => ?_) ?_
       ·
        refine WC.block ?_
        refine WC.loop (T := (e15 × Int) × e18 × Nat × HF) (fun t => [e5, e2, e4, (5, (sv t.2.1 t.1.1 t.2.2.1)), e7, e16, (9, (iv t.1.2))]) (fun n t w1 => St NoS w w1 [] [rowO 37 e6 A11 c12 e9, rowsO 3 encInt H14 l13, rowO 37 e6 t.2.1 t.2.2.1 (tag t.2.2.2 t.1.1), rowsO 3 encInt t.2.2.2 t.1.1] ∧ ref10_growing.l3 n t.1.1 t.1.2 l13 x33 x46 = some x68) k39 ((l31, 0), A29, c30, H32) e14 rfl ⟨(hS56.subR []).sub [0, 1, 2, 3] (by decide), hx69⟩ ?_
        rintro k70 ⟨⟨l61, x63⟩, A59, c60, H62⟩ w71 ⟨hS72, hl73⟩
        let e12 := [e1 ++ [x63]]
        let e19 : Nat × Value := (46, (sv A59 l61 c60))
        cases k70 with
        | zero => rw [ref10_growing.l3] at hl73; cases hl73
        | succ k70 =>
         rw [ref10_growing.l3] at hl73
         refine WC.seq (WC.seq (WC.region ?_))
         refine sg 3 [] [0, 3, 4, 5, 6, 7, 9, 43] [e5, e2, e4, (5, (sv A59 l61 c60)), e7, e16, (9, (iv x63)), (43, (bv (decide (x63 ≤ x46))))] (by kernel_rfl) ?_
         refine WL.done rfl (WX.next ?_)
         rcases br_some hl73 with ⟨h74, hl73⟩ | ⟨h74, hl73⟩
         ·refine WC.condT2 (fun fb => by kernel_rfl) h74 ?_
          refine WC.skip (WX.next (WC.seq (WC.block (WC.region ?_))))
          refine sg 1 [] [0, 3, 4, 6, 7, 9, 46] [e5, e2, e4, e7, e16, (9, (iv x63)), e19] (by kernel_rfl) ?_
          refine WL.new hS72 47 [] (fun g => (.slice (some ⟨g, 0, none⟩) 0 0)) (.cells #[] 3 (0, 0)) [] (fun fb g => by kernel_rfl) trivial (fun g75 w76 hS77 => ?_)
          refine ⟨trivial, ?_⟩
          have hS78 := hS28.go w76 [rowO 3 encInt (some ⟨g75, 0, none⟩) 0 ([] : List Int), rowO 37 e6 A11 c12 e9, rowsO 3 encInt H14 l13, rowO 37 e6 A59 c60 (tag H62 l61), rowsO 3 encInt H62 l61] (hS77.map1 0 _ (fun h => rowO.ofBlk h rfl (Nat.le_of_ble_eq_true (by kernel_rfl))) (fun _ h => by obtain ⟨_, h1, h2⟩ := h; injection h1 with h1; subst h1; exact h2) [1, 2, 3, 4] (by decide) (by decide))
          refine sg 4 [] [0, 3, 4, 6, 7, 9, 46, 47, 48, 49] [e5, e2, e4, e7, e16, (9, (iv x63)), e19, (47, (sv (some ⟨g75, 0, none⟩) ([] : List Int) 0)), (48, (sv A11 l13 c12)), (49, (iv x33))] (by kernel_rfl) ?_
          obtain ⟨h79, hl73⟩ := as_some hl73
          refine seg 6 [.v e3] [0, 3, 4, 6, 7, 9, 46, 47, 51] [e5, e2, e4, e7, e16, (9, (iv x63)), e19, (47, (sv (some ⟨g75, 0, none⟩) ([] : List Int) 0)), (51, e3)] [.idx A11 x33 l13.length, .cell e17 e3] (fun fb => by kernel_rfl) rfl ⟨nrow_adr (rowO.rd (hS78.own 1).1) h79.1 h79.2, nrow_cell (rowO.rd (hS78.own 1).1) [] h79.1 h79.2 0 rfl, trivial⟩ ?_
          obtain ⟨h80, hl73⟩ := as_some hl73
          refine WL.append hS78 0 (d := 52) (tS := 37) (z := (iv 0)) (bytes := 8) (c2 := (H14 x33.toNat).2) rfl (fun fb => by kernel_rfl) (rowO.rd (rowsO.at (hS78.own 2).1 h79.1 h79.2)) (by kernel_rfl) (by kernel_rfl) rfl (by decide) h80 (by decide) [1, 2, 3, 4] (by decide) (by decide) (fun A81 c82 w83 hS84 => ?_)
          refine ⟨trivial, ?_⟩
          refine sg 8 [] [0, 3, 4, 6, 7, 9, 46, 52, 53] [e5, e2, e4, e7, e16, (9, (iv x63)), e19, (52, (sv A81 e1 c82)), (53, (iv x63))] (by kernel_rfl) ?_
          refine WL.new hS84 54 [] (fun g => (.slice (some ⟨g, 0, none⟩) 1 1)) (.cells #[(iv x63)] 3 (0, 0)) [] (fun fb g => by kernel_rfl) trivial (fun g85 w86 hS87 => ?_)
          refine ⟨trivial, ?_⟩
          have hS88 := hS78.go w86 [rowO 3 encInt (some ⟨g85, 0, none⟩) 1 [x63], rowO 3 encInt A81 c82 e1, rowO 37 e6 A11 c12 e9, rowsO 3 encInt H14 l13, rowO 37 e6 A59 c60 (tag H62 l61), rowsO 3 encInt H62 l61] (hS87.map1 0 _ (fun h => rowO.ofBlk h rfl (Nat.le_of_ble_eq_true (by kernel_rfl))) (fun _ h => by obtain ⟨_, h1, h2⟩ := h; injection h1 with h1; subst h1; exact h2) [1, 2, 3, 4, 5] (by decide) (by decide))
          obtain ⟨h89, hl73⟩ := as_some hl73
          refine WL.append hS88 1 (d := 55) (tS := 37) (z := (iv 0)) (bytes := 8) (c2 := 1) rfl (fun fb => by kernel_rfl) (rowO.rd (hS88.own 0).1) (by kernel_rfl) (by kernel_rfl) rfl (by decide) h89 (by decide) [0, 2, 3, 4, 5] (by decide) (by decide) (fun A90 c91 w92 hS93 => ?_)
          refine ⟨trivial, ?_⟩
          refine WL.new hS93 56 [] (fun g => (.slice (some ⟨g, 0, none⟩) 1 1)) (.cells #[(sv A90 (e1 ++ [x63]) c91)] 37 (0, 0)) [] (fun fb g => by kernel_rfl) trivial (fun g94 w95 hS96 => ?_)
          refine ⟨trivial, ?_⟩
          have hS97 := hS88.go w95 [rowO 37 e6 (some ⟨g94, 0, none⟩) 1 (tag (fun _ => (A90, c91)) e12), rowO 3 encInt A90 c91 (e1 ++ [x63]), rowO 3 encInt (some ⟨g85, 0, none⟩) 1 [x63], rowO 37 e6 A11 c12 e9, rowsO 3 encInt H14 l13, rowO 37 e6 A59 c60 (tag H62 l61), rowsO 3 encInt H62 l61] (hS96.map1 0 _ (fun h => rowO.ofBlk h rfl (Nat.le_of_ble_eq_true (by kernel_rfl))) (fun _ h => by obtain ⟨_, h1, h2⟩ := h; injection h1 with h1; subst h1; exact h2) [1, 2, 3, 4, 5, 6] (by decide) (by decide))
          have hS98 := hS97.go w95 [rowsO 3 encInt (fun _ => (A90, c91)) e12, rowO 37 e6 (some ⟨g94, 0, none⟩) 1 (tag (fun _ => (A90, c91)) e12), rowO 3 encInt (some ⟨g85, 0, none⟩) 1 [x63], rowO 37 e6 A11 c12 e9, rowsO 3 encInt H14 l13, rowO 37 e6 A59 c60 (tag H62 l61), rowsO 3 encInt H62 l61] (hS97.rowsOne 1 rfl [0, 2, 3, 4, 5, 6] (by decide) (by decide))
          obtain ⟨h99, hl73⟩ := as_some hl73
          refine WL.appendN hS98 5 (d := 57) (tS := 53) (z := (.slice none 0 0)) (bytes := 24) (c2 := 1) (hx := (A90, c91)) (x := (e1 ++ [x63])) rfl (fun fb => by kernel_rfl) (rowO.rd (hS98.own 1).1) (by kernel_rfl) (by kernel_rfl) rfl (by decide) h99 (by decide) [0, 1, 2, 3, 4, 6] (by decide) (by decide) (fun A100 c101 w102 hS103 => ?_)
          have hS104 := hS98.go w102 [rowsO 3 encInt (updH H62 l61.length (A90, c91)) (l61 ++ e12), rowO 37 e6 A100 c101 (tag (updH H62 l61.length (A90, c91)) (l61 ++ e12)), rowO 37 e6 (some ⟨g94, 0, none⟩) 1 (tag (fun _ => (A90, c91)) e12), rowO 3 encInt (some ⟨g85, 0, none⟩) 1 [x63], rowO 37 e6 A11 c12 e9, rowsO 3 encInt H14 l13] (hS103.rowsPush 6 1 rfl rfl (by decide) [0, 2, 3, 4, 5] (by decide) (by decide))
          refine ⟨trivial, ?_⟩
          refine sg 13 [] e14 [e5, e2, e4, (5, (sv A100 (l61 ++ e12) c101)), e7, e16, (9, (iv x63))] (by kernel_rfl) ?_
          refine WL.done rfl ?_
          refine WX.blockN (WX.next ?_)
          refine WC.region ?_
          refine sg 3 [] e14 [e5, e2, e4, (5, (sv A100 (l61 ++ e12) c101)), e7, e16, (9, (iv (w64 (x63 + 1))))] (by kernel_rfl) ?_
          refine WL.done rfl ?_
          exact WX.again k70 (Nat.lt_succ_self _) ((l61 ++ e12, w64 (x63 + 1)), A100, c101, (updH H62 l61.length (A90, c91))) e14 rfl ⟨(hS104.subR []).sub [4, 5, 1, 0] (by decide), hl73⟩
         refine WC.condF2 (fun fb => by kernel_rfl) h74 ?_
         refine WC.exit ?_
         injection hl73 with hl73
         exact WX.thenX (WX.thenX (WX.blockHere (WX.to Kx68 (l61, A59, c60, H62) [0, 3, 4, 5, 6] rfl ⟨(hS72.subR []).sub [0, 1, 2, 3] (by decide), hl73.symm⟩)))
       rintro ⟨y108, A65, c66, H67⟩ w105 ⟨hS106, hq107⟩
       subst hq107
       refine WX.blockN (WX.next ?_)
       refine WC.region ?_
       refine sg 3 [] [0, 3, 4, 5, 6] [e5, e2, e4, (5, (sv A65 x68 c66)), (6, (iv (w64 (x33 + 1))))] (by kernel_rfl) ?_
       refine WL.done rfl ?_
       exact WX.again k39 (Nat.lt_succ_self _) ((x68, w64 (x33 + 1)), A65, c66, H67) [0, 3, 4, 5, 6] rfl ⟨(hS106.subR []).sub [0, 1, 2, 3] (by decide), hl42⟩
      refine WC.condF2 (fun fb => by kernel_rfl) h43 ?_
      refine WC.exit ?_
      injection hl42 with hl42
      exact WX.thenX (WX.thenX (WX.blockHere (WX.to Kx37 (l31, A29, c30, H32) [0, 4, 5] rfl ⟨(hS41.subR []).sub [2, 3] (by decide), hl42.symm⟩)))
    rintro ⟨y112, A34, c35, H36⟩ w109 ⟨hS110, hq111⟩
    subst hq111
    refine WX.next (WC.region ?_)
    refine sg 2 [] [0, 3, 4] [e5, (3, (sv A34 x37 c35)), e4] (by kernel_rfl) ?_
    refine WL.done rfl ?_
    refine WX.blockN (WX.next ?_)
    refine WC.region ?_
    refine sg 3 [] [0, 3, 4] [e5, (3, (sv A34 x37 c35)), (4, (iv (w64 (x15 + 1))))] (by kernel_rfl) ?_
    refine WL.done rfl ?_
    exact WX.again k21 (Nat.lt_succ_self _) ((x37, w64 (x15 + 1)), A34, c35, H36) [0, 3, 4] rfl ⟨(hS110.subR []).sub [0, 1] (by decide), hl25⟩
   refine WC.condF2 (fun fb => by kernel_rfl) h26 ?_
   refine WC.exit ?_
   injection hl25 with hl25
   exact WX.thenX (WX.thenX (WX.blockHere (WX.to Kx19 (l13, A11, c12, H14) [3] rfl ⟨(hS24.subR []).sub [0, 1] (by decide), hl25.symm⟩)))
 rintro ⟨y116, A16, c17, H18⟩ w113 ⟨hS114, hq115⟩
 subst hq115
 refine WX.next (WC.seq (WC.region ?_))
 refine sg 2 [] [2] [(2, (sv A16 x19 c17))] (by kernel_rfl) ?_
 refine WL.done rfl (WX.next ?_)
 refine WC.ret ?_
 injection hf with hf
 subst hf
 exact WX.ret_ [] (sv A16 x19 c17) [] (fun fb => by kernel_rfl) trivial ⟨_, rfl, A16, c17, H18, rfl, (hS114.sub [0, 1] (by decide)).noR⟩
theorem ref01_colour_calls (p0 : Int)  (r : Bool) (w : World)  (hf : ref01_colour p0 = some r) :
  CallsR Try.prog 24 #[(iv p0)] w (fun v w' => v = (bv r) ∧ Keeps NoS w w') := by
 have hS : St NoS w w [] [] := St.init (ro_nil _ _)
 refine enter 9 Try.func24 rfl Try.ntmps24 rfl ?_
 unfold ref01_colour at hf
 refine WC.seq (WC.region ?_)
 refine sg 1 [] [0] [(0, (iv p0))] (by kernel_rfl) ?_
 refine WL.done rfl (WX.next (WC.seq (WC.region ?_)))
 refine sg 3 [] [0, 5] [(0, (iv p0)), (5, (bv (decide (p0 ≥ 0))))] (by kernel_rfl) ?_
 refine WL.cutV (T := Bool) 6 (fun t => [(8, (bv t))]) (fun t => ((decide (p0 ≥ 0)) && (decide (p0 < 1000))) = t) (fun K => ?_) ?_
 ·
  rcases Bool.eq_false_or_eq_true (decide (p0 ≥ 0)) with h2 | h2
  ·
   refine WL.setB 5 h2 rfl ?_
   refine sg 6 [] [8] [(8, (bv (decide (p0 < 1000))))] (by kernel_rfl) ?_
   exact WL.toV K (decide (p0 < 1000)) [8] rfl (by first | (rw [h2]; done) | (rw [h2]; rfl))
  refine WL.setB 5 h2 rfl ?_
  refine sg 6 [] [8] [(8, (bv false))] (by kernel_rfl) ?_
  exact WL.toV K false [8] rfl (by first | (rw [h2]; done) | (rw [h2]; rfl))
 rintro b3 rfl
 refine sg 7 [] [2] [(2, (bv ((decide (p0 ≥ 0)) && (decide (p0 < 1000)))))] (by kernel_rfl) ?_
 refine WL.done rfl (WX.next ?_)
 refine WC.ret ?_
 injection hf with hf
 subst hf
 exact WX.ret_ [] (bv ((decide (p0 ≥ 0)) && (decide (p0 < 1000)))) [] (fun fb => by kernel_rfl) trivial ⟨_, rfl, rfl, hS.keep⟩
theorem ref01_Index_calls (k : Nat) (p0 : List Tile) (p1 : Tile) (Aa : Option Addr) (ca : Nat) (r : Int) (w : World) (hR0 : RO NoS w (rowR enc_Tile Aa ca p0)) (hf : ref01_Index k p0 p1 = some r) :
  CallsR Try.prog 25 #[(sv Aa p0 ca), (.agg #[(iv p1.N), (iv p1.E), (iv p1.S), (iv p1.W)])] w (fun v w' => v = (iv r) ∧ Keeps NoS w w') := by
 have hS : St NoS w w [rowR enc_Tile Aa ca p0] [] := St.init (ro_cons hR0 (ro_nil _ _))
 refine enter 19 Try.func25 rfl Try.ntmps25 rfl ?_
 unfold ref01_Index at hf
 refine WC.seq (WC.region ?_)
 refine WL.new hS 3 [] (fun g => (pt g)) (.cells #[(iv p1.N), (iv p1.E), (iv p1.S), (iv p1.W)] 48 (0, 0)) [] (fun fb g => by kernel_rfl) trivial (fun g3 w4 hS5 => ?_)
 refine ⟨trivial, ?_⟩
 refine sg 2 [] [0, 3] [(0, (sv Aa p0 ca)), (3, (pt g3))] (by kernel_rfl) ?_
 refine WL.done rfl (WX.next (WC.seq (WC.seq (WC.region ?_))))
 refine sg 1 [] [0, 3, 5] [(0, (sv Aa p0 ca)), (3, (pt g3)), (5, (iv 0))] (by kernel_rfl) ?_
 refine WL.done rfl (WX.next ?_)
 obtain ⟨x7, hx8, hf⟩ := bind_some hf
 refine WC.cutN (T := Unit) (fun t => []) (fun t w1 => St NoS w w1 [rowR enc_Tile Aa ca p0] [] ∧ x7 = .inr t) (fun Kx7 => ?_) ?_
 ·
  refine WC.block ?_
  refine WC.loop (T := Int) (fun t => [(0, (sv Aa p0 ca)), (3, (pt g3)), (5, (iv t))]) (fun n t w1 => St NoS w w1 [rowR enc_Tile Aa ca p0] [blk g3 (.cells #[(iv p1.N), (iv p1.E), (iv p1.S), (iv p1.W)] 48 (0, 0))] ∧ ref01_Index.l0 n t p0 p1 = some x7) k 0 [0, 3, 5] rfl ⟨(hS5.subR [0]).sub [0] (by decide), hx8⟩ ?_
  rintro k9 x6 w10 ⟨hS11, hl12⟩
  let e3 := (adr Aa).add ((x6).toNat * 4)
  let e1 : List (Nat × Addr × Value) := [(3, e3, (iv ((rdD p0 x6 z_Tile).N))), (3, (e3.add 1), (iv ((rdD p0 x6 z_Tile).E))), (3, (e3.add 2), (iv ((rdD p0 x6 z_Tile).S))), (3, (e3.add 3), (iv ((rdD p0 x6 z_Tile).W))), (4, ⟨g3, 0, none⟩, (iv p1.N)), (4, ⟨g3, 1, none⟩, (iv p1.E)), (4, ⟨g3, 2, none⟩, (iv p1.S)), (4, ⟨g3, 3, none⟩, (iv p1.W))]
  let e2 := rdD p0 x6 z_Tile
  cases k9 with
  | zero => rw [ref01_Index.l0] at hl12; cases hl12
  | succ k9 =>
   rw [ref01_Index.l0] at hl12
   refine WC.seq (WC.seq (WC.region ?_))
   refine sg 4 [] [0, 3, 5, 9] [(0, (sv Aa p0 ca)), (3, (pt g3)), (5, (iv x6)), (9, (bv (decide (x6 < (p0.length : Int)))))] (by kernel_rfl) ?_
   refine WL.done rfl (WX.next ?_)
   rcases br_some hl12 with ⟨h13, hl12⟩ | ⟨h13, hl12⟩
   ·refine WC.condT2 (fun fb => by kernel_rfl) h13 ?_
    refine WC.skip (WX.next (WC.seq (WC.block (WC.seq ?_))))
    obtain ⟨h16, hl12⟩ := as_some hl12
    refine WC.regionD (e1, [0, 1, 2, 3, 4, 5], [[], [], [0, 1], [0, 1, 2], [], [0, 1, 2, 3, 4]]) [[0, 1, 2, 3, 4, 5]] (by kernel_rfl) (by kernel_rfl) (NoPanic.seq (NoPanic.block (NoPanic.seq (NoPanic.seq (NoPanic.block (NoPanic.seq (NoPanic.body))))))) ?_
    have hS15 := hS11.drew
    revert hS15
    generalize World.drew w10 = w14
    intro hS15
    refine ⟨⟨rowR.cell (hS15.rd 0).1 z_Tile h16.1 h16.2 0 rfl, rowR.cell (hS15.rd 0).1 z_Tile h16.1 h16.2 1 rfl, rowR.cell (hS15.rd 0).1 z_Tile h16.1 h16.2 2 rfl, rowR.cell (hS15.rd 0).1 z_Tile h16.1 h16.2 3 rfl, hS15.cell 0 rfl 0 rfl, hS15.cell 0 rfl 1 rfl, hS15.cell 0 rfl 2 rfl, hS15.cell 0 rfl 3 rfl, trivial⟩, forallC ?_ (forallN)⟩
    refine segF 6 [.v (iv (e2.N)), .v (iv (e2.E)), .v (iv (e2.S)), .v (iv (e2.W)), .v (iv p1.N), .v (iv p1.E), .v (iv p1.S), .v (iv p1.W)] [0, 3, 5, 17] [(0, (sv Aa p0 ca)), (3, (pt g3)), (5, (iv x6)), (17, (bv ((e2.N) == p1.N && ((e2.E) == p1.E && ((e2.S) == p1.S && ((e2.W) == p1.W))))))] [.idx Aa x6 p0.length] [0, 1, 2, 3, 4, 5, 6, 7] e1 (fun fb => by kernel_rfl) rfl ⟨rowR.adr (hS15.rd 0).1 h16.1 h16.2, trivial⟩ rfl ?_
    refine WL.done rfl (WX.next ?_)
    rcases br_some hl12 with ⟨h17, hl12⟩ | ⟨h17, hl12⟩
    ·refine WC.condT2 (fun fb => by kernel_rfl) h17 ?_
     refine WC.seq (WC.region ?_)
     refine sg 2 [] [4] [(4, (iv x6))] (by kernel_rfl) ?_
     refine WL.done rfl (WX.next ?_)
     refine WC.ret ?_
     injection hl12 with hl12
     subst hl12
     injection hf with hf
     subst hf
     exact WX.blockR (WX.thenR (WX.thenR (WX.blockR (WX.thenR (WX.ret_ [] (iv x6) [] (fun fb => by kernel_rfl) trivial ⟨_, rfl, rfl, hS15.keep⟩)))))
    refine WC.condF2 (fun fb => by kernel_rfl) h17 ?_
    refine WC.skip ?_
    refine WX.blockN (WX.next ?_)
    refine WC.region ?_
    refine sg 3 [] [0, 3, 5] [(0, (sv Aa p0 ca)), (3, (pt g3)), (5, (iv (w64 (x6 + 1))))] (by kernel_rfl) ?_
    refine WL.done rfl ?_
    exact WX.again k9 (Nat.lt_succ_self _) (w64 (x6 + 1)) [0, 3, 5] rfl ⟨(hS15.subR [0]).sub [0] (by decide), hl12⟩
   refine WC.condF2 (fun fb => by kernel_rfl) h13 ?_
   refine WC.exit ?_
   injection hl12 with hl12
   exact WX.thenX (WX.thenX (WX.blockHere (WX.to Kx7 () [] rfl ⟨(hS11.subR [0]).sub [] (by decide), hl12.symm⟩)))
 rintro y21 w18 ⟨hS19, hq20⟩
 subst hq20
 have hf := sum_inr hf
 refine WX.next (WC.seq (WC.region ?_))
 refine sg 1 [] [4] [(4, (iv (-1)))] (by kernel_rfl) ?_
 refine WL.done rfl (WX.next ?_)
 refine WC.ret ?_
 injection hf with hf
 subst hf
 exact WX.ret_ [] (iv (-1)) [] (fun fb => by kernel_rfl) trivial ⟨_, rfl, rfl, hS19.keep⟩
theorem ref01_Valid_calls (k : Nat) (p0 : List Tile) (Aa : Option Addr) (ca : Nat) (r : Bool) (w : World) (hR0 : RO NoS w (rowR enc_Tile Aa ca p0)) (hf : ref01_Valid k p0 = some r) :
  CallsR Try.prog 11 #[(sv Aa p0 ca)] w (fun v w' => v = (bv r) ∧ Keeps NoS w w') := by
 have hS : St NoS w w [rowR enc_Tile Aa ca p0] [] := St.init (ro_cons hR0 (ro_nil _ _))
 refine enter 48 Try.func11 rfl Try.ntmps11 rfl ?_
 unfold ref01_Valid at hf
 refine WC.seq (WC.region ?_)
 refine sg 1 [] [0] [(0, (sv Aa p0 ca))] (by kernel_rfl) ?_
 refine WL.done rfl (WX.next (WC.seq (WC.seq (WC.region ?_))))
 refine sg 3 [] [0, 7] [(0, (sv Aa p0 ca)), (7, (bv (decide ((p0.length : Int) > 1000))))] (by kernel_rfl) ?_
 refine WL.done rfl (WX.next ?_)
 rcases br_some hf with ⟨h3, hf⟩ | ⟨h3, hf⟩
 ·refine WC.condT2 (fun fb => by kernel_rfl) h3 ?_
  refine WC.seq (WC.region ?_)
  refine sg 1 [] [2] [(2, (bv false))] (by kernel_rfl) ?_
  refine WL.done rfl (WX.next ?_)
  refine WC.ret ?_
  injection hf with hf
  subst hf
  exact WX.thenR (WX.ret_ [] (bv false) [] (fun fb => by kernel_rfl) trivial ⟨_, rfl, rfl, hS.keep⟩)
 refine WC.condF2 (fun fb => by kernel_rfl) h3 ?_
 refine WC.skip (WX.next (WC.seq (WC.seq (WC.region ?_))))
 refine sg 1 [] [0, 3] [(0, (sv Aa p0 ca)), (3, (iv 0))] (by kernel_rfl) ?_
 refine WL.done rfl (WX.next ?_)
 obtain ⟨x5, hx6, hf⟩ := bind_some hf
 let e2 : Nat × Value := (0, (sv Aa p0 ca))
 let e5 : List Nat := [0, 1, 2, 3, 4, 5, 6, 7, 8, 9, 10, 11, 12, 13, 14, 15, 16, 17, 18, 19, 20, 21, 22]
 let e6 : List Own := [rowR enc_Tile Aa ca p0]
 let e8 := (subA Aa ca (0 : Int).toNat 4)
 let e13 := (ca - (0 : Int).toNat)
 refine WC.cutN (T := Unit) (fun t => []) (fun t w1 => St NoS w w1 e6 [] ∧ x5 = .inr t) (fun Kx5 => ?_) ?_
 ·
  refine WC.block ?_
  refine WC.loop (T := Int) (fun t => [e2, (3, (iv t))]) (fun n t w1 => St NoS w w1 e6 [] ∧ ref01_Valid.l0 n t p0 = some x5) k 0 [0, 3] rfl ⟨(hS.subR [0]).sub [] (by decide), hx6⟩ ?_
  rintro k7 x4 w8 ⟨hS9, hl10⟩
  let e1 := rdD p0 x4 z_Tile
  let e3 : Array Value := #[(iv (e1.N)), (iv (e1.E)), (iv (e1.S)), (iv (e1.W))]
  let e4 : Nat × Value := (3, (iv x4))
  let e7 := (adr Aa).add ((x4).toNat * 4)
  let e9 := iv (e1.N)
  let e10 := iv (e1.E)
  let e11 := iv (e1.S)
  let e12 := iv (e1.W)
  cases k7 with
  | zero => rw [ref01_Valid.l0] at hl10; cases hl10
  | succ k7 =>
   rw [ref01_Valid.l0] at hl10
   refine WC.seq (WC.seq (WC.region ?_))
   refine sg 4 [] [0, 3, 11] [e2, e4, (11, (bv (decide (x4 < (p0.length : Int)))))] (by kernel_rfl) ?_
   refine WL.done rfl (WX.next ?_)
   rcases br_some hl10 with ⟨h12, hl10⟩ | ⟨h12, hl10⟩
   ·refine WC.condT2 (fun fb => by kernel_rfl) h12 ?_
    refine WC.skip (WX.next (WC.seq (WC.block (WC.seq (WC.region ?_)))))
    refine sg 2 [] [0, 3, 14, 15] [e2, e4, (14, (sv Aa p0 ca)), (15, (iv x4))] (by kernel_rfl) ?_
    obtain ⟨h13, hl10⟩ := as_some hl10
    refine seg 4 [.v e9, .v e10, .v e11, .v e12] [0, 3, 17] [e2, e4, (17, (.agg e3))] [.idx Aa x4 p0.length, .cell e7 e9, .cell (e7.add 1) e10, .cell (e7.add 2) e11, .cell (e7.add 3) e12] (fun fb => by kernel_rfl) rfl ⟨rowR.adr (hS9.rd 0).1 h13.1 h13.2, rowR.cell (hS9.rd 0).1 z_Tile h13.1 h13.2 0 rfl, rowR.cell (hS9.rd 0).1 z_Tile h13.1 h13.2 1 rfl, rowR.cell (hS9.rd 0).1 z_Tile h13.1 h13.2 2 rfl, rowR.cell (hS9.rd 0).1 z_Tile h13.1 h13.2 3 rfl, trivial⟩ ?_
    refine WL.new hS9 4 [] (fun g => (pt g)) (.cells #[(iv 0), (iv 0), (iv 0), (iv 0)] 48 (0, 0)) [] (fun fb g => by kernel_rfl) trivial (fun g14 w15 hS16 => ?_)
    refine ⟨trivial, ?_⟩
    refine WL.store hS16 0 rfl [(0, e9), (1, e10), (2, e11), (3, e12)] e3 (fun fb => by kernel_rfl) (by kernel_rfl) rfl [] (by decide) (by decide) (fun w17 hS18 => ?_)
    refine ⟨trivial, ?_⟩
    refine WL.done rfl (WX.next (WC.seq ?_))
    refine WC.regionD ([(1, ⟨g14, 0, none⟩, e9), (6, ⟨g14, 1, none⟩, e10), (12, ⟨g14, 2, none⟩, e11), (18, ⟨g14, 3, none⟩, e12), (26, ⟨g14, 0, none⟩, e9), (26, ⟨g14, 1, none⟩, e10), (26, ⟨g14, 2, none⟩, e11), (26, ⟨g14, 3, none⟩, e12)], [0, 1, 3, 4, 5, 6, 8, 9, 10, 11, 12, 14, 15, 16, 17, 18, 20, 21, 22, 23, 24, 25, 26, 28, 29], [[], [0], [0, 1], [0, 1, 2], [0, 1, 2, 3], [0, 1, 2, 3, 4], [0, 1, 2, 3, 4, 5], [0, 1, 2, 3, 4, 5, 6], [0, 1, 2, 3, 4, 5, 6, 7], [0, 1, 2, 3, 4, 5, 6, 7, 8], [0, 1, 2, 3, 4, 5, 6, 7, 8, 9], [0, 1, 2, 3, 4, 5, 6, 7, 8, 9, 10], [0, 1, 2, 3, 4, 5, 6, 7, 8, 9, 10, 11], [0, 1, 2, 3, 4, 5, 6, 7, 8, 9, 10, 11, 12], [0, 1, 2, 3, 4, 5, 6, 7, 8, 9, 10, 11, 12, 13], [0, 1, 2, 3, 4, 5, 6, 7, 8, 9, 10, 11, 12, 13, 14], [0, 1, 2, 3, 4, 5, 6, 7, 8, 9, 10, 11, 12, 13, 14, 15], [0, 1, 2, 3, 4, 5, 6, 7, 8, 9, 10, 11, 12, 13, 14, 15, 16], [0, 1, 2, 3, 4, 5, 6, 7, 8, 9, 10, 11, 12, 13, 14, 15, 16, 17], [0, 1, 2, 3, 4, 5, 6, 7, 8, 9, 10, 11, 12, 13, 14, 15, 16, 17, 18], [0, 1, 2, 3, 4, 5, 6, 7, 8, 9, 10, 11, 12, 13, 14, 15, 16, 17, 18, 19], [0, 1, 2, 3, 4, 5, 6, 7, 8, 9, 10, 11, 12, 13, 14, 15, 16, 17, 18, 19, 20], [0, 1, 2, 3, 4, 5, 6, 7, 8, 9, 10, 11, 12, 13, 14, 15, 16, 17, 18, 19, 20, 21], e5, e5, [0, 1, 2, 3, 4, 5, 6, 7, 8, 9, 10, 11, 12, 13, 14, 15, 16, 17, 18, 19, 20, 21, 22, 23, 24], e5, [0, 1, 2, 3, 4, 5, 6, 7, 8, 9, 10, 11, 12, 13, 14, 15, 16, 17, 18, 19, 20, 21, 22, 23, 24, 25, 26], [0, 1, 2, 3, 4, 5, 6, 7, 8, 9, 10, 11, 12, 13, 14, 15, 16, 17, 18, 19, 20, 21, 22, 23, 24, 25, 26, 27], [0, 1, 2, 3, 4, 5, 6, 7, 8, 9, 10, 11, 12, 13, 14, 15, 16, 17, 18, 19, 20, 21, 22, 23, 24, 25, 26, 27, 28]]) [[0, 1, 2, 3, 4, 5, 6, 7, 8, 9, 10, 11, 12, 13, 14, 15, 16, 17, 18, 19, 20, 21, 22, 23, 24, 25, 26, 27, 28, 29]] (by kernel_rfl) (by kernel_rfl) (NoPanic.seq (NoPanic.block (NoPanic.seq (NoPanic.seq (NoPanic.block (NoPanic.seq (NoPanic.body))))))) ?_
    have hS20 := hS18.drew
    revert hS20
    generalize World.drew w17 = w19
    intro hS20
    refine ⟨⟨hS20.cell 0 rfl 0 rfl, hS20.cell 0 rfl 1 rfl, hS20.cell 0 rfl 2 rfl, hS20.cell 0 rfl 3 rfl, hS20.cell 0 rfl 0 rfl, hS20.cell 0 rfl 1 rfl, hS20.cell 0 rfl 2 rfl, hS20.cell 0 rfl 3 rfl, trivial⟩, forallC ?_ (forallN)⟩
    refine segF 2 [.v e9] [0, 3, 4, 19] [e2, e4, (4, (pt g14)), (19, e9)] [] [0] [(1, ⟨g14, 0, none⟩, e9)] (fun fb => by kernel_rfl) rfl trivial rfl ?_
    obtain ⟨t21, ht22, hl10⟩ := bind_some hl10
    refine WL.call (some 20) 24 #[e9] (fun fb => by kernel_rfl) (ref01_colour_calls (e1.N) t21 _ ht22) (fun v w23 hR24 => ?_)
    obtain ⟨rfl, hk_⟩ := hR24
    have hS25 := hS20.keepN hk_
    refine ⟨⟨hS25.cell 0 rfl 1 rfl, hS25.cell 0 rfl 2 rfl, hS25.cell 0 rfl 3 rfl, hS25.cell 0 rfl 0 rfl, hS25.cell 0 rfl 1 rfl, hS25.cell 0 rfl 2 rfl, hS25.cell 0 rfl 3 rfl, trivial⟩, ?_⟩
    refine sg 5 [] [0, 3, 4, 22] [e2, e4, (4, (pt g14)), (22, (bv (!t21)))] (by kernel_rfl) ?_
    obtain ⟨x26, hx27, hl10⟩ := bind_some hl10
    refine WL.cutW (T := Bool) 10 (fun t => [e2, e4, (4, (pt g14)), (27, (bv t))]) (fun t w1 => (St NoS w w1 e6 [blk g14 (.cells e3 48 (0, 0))] ∧ x26 = t) ∧ CellsOK [] w1) (fun K => ?_) ?_
    ·
     rcases br_some hx27 with ⟨h28, hx27⟩ | ⟨h28, hx27⟩
     ·
      refine WL.setB 22 h28 rfl ?_
      refine sg 10 [] [0, 3, 4, 27] [e2, e4, (4, (pt g14)), (27, (bv true))] (by kernel_rfl) ?_
      injection hx27 with hx27
      exact WL.to K true [0, 3, 4, 27] rfl ⟨⟨(hS25.subR [0]).sub [0] (by decide), hx27.symm⟩, trivial⟩
     refine WL.setB 22 h28 rfl ?_
     refine segF 7 [.v e10] [0, 3, 4, 22, 24] [e2, e4, (4, (pt g14)), (22, (bv false)), (24, e10)] [] [1] [(6, ⟨g14, 1, none⟩, e10)] (fun fb => by kernel_rfl) rfl trivial rfl ?_
     obtain ⟨t29, ht30, hx27⟩ := bind_some hx27
     refine WL.call (some 25) 24 #[e10] (fun fb => by kernel_rfl) (ref01_colour_calls (e1.E) t29 _ ht30) (fun v w31 hR32 => ?_)
     obtain ⟨rfl, hk_⟩ := hR32
     have hS33 := hS25.keepN hk_
     refine ⟨⟨hS33.cell 0 rfl 2 rfl, hS33.cell 0 rfl 3 rfl, hS33.cell 0 rfl 0 rfl, hS33.cell 0 rfl 1 rfl, hS33.cell 0 rfl 2 rfl, hS33.cell 0 rfl 3 rfl, trivial⟩, ?_⟩
     refine sg 10 [] [0, 3, 4, 27] [e2, e4, (4, (pt g14)), (27, (bv (!t29)))] (by kernel_rfl) ?_
     injection hx27 with hx27
     exact WL.to K (!t29) [0, 3, 4, 27] rfl ⟨⟨(hS33.subR [0]).sub [0] (by decide), hx27.symm⟩, trivial⟩
    rintro y34 w36 ⟨⟨hS37, hq35⟩, hF38⟩
    subst hq35
    refine sg 11 [] [0, 3, 4, 28] [e2, e4, (4, (pt g14)), (28, (bv x26))] (by kernel_rfl) ?_
    obtain ⟨x39, hx40, hl10⟩ := bind_some hl10
    refine WL.cutW (T := Bool) 16 (fun t => [e2, e4, (4, (pt g14)), (33, (bv t))]) (fun t w1 => (St NoS w w1 e6 [blk g14 (.cells e3 48 (0, 0))] ∧ x39 = t) ∧ CellsOK [] w1) (fun K => ?_) ?_
    ·
     rcases br_some hx40 with ⟨h41, hx40⟩ | ⟨h41, hx40⟩
     ·
      refine WL.setB 28 h41 rfl ?_
      refine sg 16 [] [0, 3, 4, 33] [e2, e4, (4, (pt g14)), (33, (bv true))] (by kernel_rfl) ?_
      injection hx40 with hx40
      exact WL.to K true [0, 3, 4, 33] rfl ⟨⟨(hS37.subR [0]).sub [0] (by decide), hx40.symm⟩, trivial⟩
     refine WL.setB 28 h41 rfl ?_
     refine segF 13 [.v e11] [0, 3, 4, 28, 30] [e2, e4, (4, (pt g14)), (28, (bv false)), (30, e11)] [] [2] [(12, ⟨g14, 2, none⟩, e11)] (fun fb => by kernel_rfl) rfl trivial rfl ?_
     obtain ⟨t42, ht43, hx40⟩ := bind_some hx40
     refine WL.call (some 31) 24 #[e11] (fun fb => by kernel_rfl) (ref01_colour_calls (e1.S) t42 _ ht43) (fun v w44 hR45 => ?_)
     obtain ⟨rfl, hk_⟩ := hR45
     have hS46 := hS37.keepN hk_
     refine ⟨⟨hS46.cell 0 rfl 3 rfl, hS46.cell 0 rfl 0 rfl, hS46.cell 0 rfl 1 rfl, hS46.cell 0 rfl 2 rfl, hS46.cell 0 rfl 3 rfl, trivial⟩, ?_⟩
     refine sg 16 [] [0, 3, 4, 33] [e2, e4, (4, (pt g14)), (33, (bv (!t42)))] (by kernel_rfl) ?_
     injection hx40 with hx40
     exact WL.to K (!t42) [0, 3, 4, 33] rfl ⟨⟨(hS46.subR [0]).sub [0] (by decide), hx40.symm⟩, trivial⟩
    rintro y47 w49 ⟨⟨hS50, hq48⟩, hF51⟩
    subst hq48
    refine sg 17 [] [0, 3, 4, 34] [e2, e4, (4, (pt g14)), (34, (bv x39))] (by kernel_rfl) ?_
    obtain ⟨x52, hx53, hl10⟩ := bind_some hl10
    refine WL.cutW (T := Bool) 22 (fun t => [e2, e4, (4, (pt g14)), (39, (bv t))]) (fun t w1 => (St NoS w w1 e6 [blk g14 (.cells e3 48 (0, 0))] ∧ x52 = t) ∧ CellsOK [] w1) (fun K => ?_) ?_
    ·
     rcases br_some hx53 with ⟨h54, hx53⟩ | ⟨h54, hx53⟩
     ·
      refine WL.setB 34 h54 rfl ?_
      refine sg 22 [] [0, 3, 4, 39] [e2, e4, (4, (pt g14)), (39, (bv true))] (by kernel_rfl) ?_
      injection hx53 with hx53
      exact WL.to K true [0, 3, 4, 39] rfl ⟨⟨(hS50.subR [0]).sub [0] (by decide), hx53.symm⟩, trivial⟩
     refine WL.setB 34 h54 rfl ?_
     refine segF 19 [.v e12] [0, 3, 4, 34, 36] [e2, e4, (4, (pt g14)), (34, (bv false)), (36, e12)] [] [3] [(18, ⟨g14, 3, none⟩, e12)] (fun fb => by kernel_rfl) rfl trivial rfl ?_
     obtain ⟨t55, ht56, hx53⟩ := bind_some hx53
     refine WL.call (some 37) 24 #[e12] (fun fb => by kernel_rfl) (ref01_colour_calls (e1.W) t55 _ ht56) (fun v w57 hR58 => ?_)
     obtain ⟨rfl, hk_⟩ := hR58
     have hS59 := hS50.keepN hk_
     refine ⟨⟨hS59.cell 0 rfl 0 rfl, hS59.cell 0 rfl 1 rfl, hS59.cell 0 rfl 2 rfl, hS59.cell 0 rfl 3 rfl, trivial⟩, ?_⟩
     refine sg 22 [] [0, 3, 4, 39] [e2, e4, (4, (pt g14)), (39, (bv (!t55)))] (by kernel_rfl) ?_
     injection hx53 with hx53
     exact WL.to K (!t55) [0, 3, 4, 39] rfl ⟨⟨(hS59.subR [0]).sub [0] (by decide), hx53.symm⟩, trivial⟩
    rintro y60 w62 ⟨⟨hS63, hq61⟩, hF65⟩
    subst hq61
    refine sg 23 [] [0, 3, 4, 40] [e2, e4, (4, (pt g14)), (40, (bv x52))] (by kernel_rfl) ?_
    obtain ⟨x66, hx67, hl10⟩ := bind_some hl10
    refine WL.cutW (T := Bool) 30 (fun t => [e2, e4, (47, (bv t))]) (fun t w1 => (St NoS w w1 e6 [] ∧ x66 = t) ∧ CellsOK [] w1) (fun K => ?_) ?_
    ·
     rcases br_some hx67 with ⟨h68, hx67⟩ | ⟨h68, hx67⟩
     ·
      refine WL.setB 40 h68 rfl ?_
      refine sg 30 [] [0, 3, 47] [e2, e4, (47, (bv true))] (by kernel_rfl) ?_
      injection hx67 with hx67
      exact WL.to K true [0, 3, 47] rfl ⟨⟨(hS63.subR [0]).sub [] (by decide), hx67.symm⟩, trivial⟩
     refine WL.setB 40 h68 rfl ?_
     refine sg 25 [] [0, 3, 4, 40, 41, 42] [e2, e4, (4, (pt g14)), (40, (bv false)), (41, (sv Aa p0 ca)), (42, (iv x4))] (by kernel_rfl) ?_
     obtain ⟨h69, hx67⟩ := as_some hx67
     refine seg 26 [] [0, 3, 4, 40, 43] [e2, e4, (4, (pt g14)), (40, (bv false)), (43, (.slice e8 (x4.toNat - (0 : Int).toNat) e13))] [.idx (some ⟨0, 0, none⟩) (0 : Int) (x4.toNat + 1), .idx (some ⟨0, 0, none⟩) x4 (ca + 1)] (fun fb => by kernel_rfl) rfl ⟨cut1 h69.1 h69.2.1, cut2 h69.1 h69.2.1 h69.2.2 (hS63.rd 0).1.2, trivial⟩ ?_
     refine WL.reE [0, 3, 4, 40, 43] [(0, (.slice Aa p0.length ca)), (3, (iv x4)), (4, (pt g14)), (40, (.bool false)), (43, (.slice (subA Aa ca (0 : Int).toNat 4) (x4.toNat - (0 : Int).toNat) (ca - (0 : Int).toNat)))] [(0, (.slice Aa p0.length ca)), (3, (iv x4)), (4, (pt g14)), (40, (.bool false)), (43, (.slice (subA Aa ca (0 : Int).toNat 4) (cut p0 (0 : Int) x4).length (ca - (0 : Int).toNat)))] rfl (by rw [cut_length h69.1 h69.2.1 h69.2.2]) ?_
     have hS70 := hS63.cutR 0 rfl h69.1 h69.2.1 h69.2.2
     refine segF 27 [.v e9, .v e10, .v e11, .v e12] [0, 3, 40, 43, 44] [e2, e4, (40, (bv false)), (43, (sv e8 (cut p0 (0 : Int) x4) e13)), (44, (.agg e3))] [] [4, 5, 6, 7] [(26, ⟨g14, 0, none⟩, e9), (26, ⟨g14, 1, none⟩, e10), (26, ⟨g14, 2, none⟩, e11), (26, ⟨g14, 3, none⟩, e12)] (fun fb => by kernel_rfl) rfl trivial rfl ?_
     obtain ⟨t71, ht72, hx67⟩ := bind_some hx67
     refine WL.call (some 45) 25 #[(sv e8 (cut p0 (0 : Int) x4) e13), (.agg e3)] (fun fb => by kernel_rfl) (ref01_Index_calls _ (cut p0 (0 : Int) x4) e1 e8 e13 t71 _ (hS70.rd 0) ht72) (fun v w73 hR74 => ?_)
     obtain ⟨rfl, hk_⟩ := hR74
     have hS75 := hS70.keepN hk_
     refine ⟨trivial, ?_⟩
     refine sg 30 [] [0, 3, 47] [e2, e4, (47, (bv (decide (t71 ≥ 0))))] (by kernel_rfl) ?_
     injection hx67 with hx67
     exact WL.to K (decide (t71 ≥ 0)) [0, 3, 47] rfl ⟨⟨(hS75.subR [1]).sub [] (by decide), hx67.symm⟩, trivial⟩
    rintro y76 w78 ⟨⟨hS79, hq77⟩, hF80⟩
    subst hq77
    refine WL.done rfl (WX.next ?_)
    rcases br_some hl10 with ⟨h81, hl10⟩ | ⟨h81, hl10⟩
    ·refine WC.condT2 (fun fb => by kernel_rfl) h81 ?_
     refine WC.seq (WC.region ?_)
     refine sg 1 [] [2] [(2, (bv false))] (by kernel_rfl) ?_
     refine WL.done rfl (WX.next ?_)
     refine WC.ret ?_
     injection hl10 with hl10
     subst hl10
     injection hf with hf
     subst hf
     exact WX.blockR (WX.thenR (WX.thenR (WX.blockR (WX.thenR (WX.ret_ [] (bv false) [] (fun fb => by kernel_rfl) trivial ⟨_, rfl, rfl, hS79.keep⟩)))))
    refine WC.condF2 (fun fb => by kernel_rfl) h81 ?_
    refine WC.skip ?_
    refine WX.blockN (WX.next ?_)
    refine WC.region ?_
    refine sg 3 [] [0, 3] [e2, (3, (iv (w64 (x4 + 1))))] (by kernel_rfl) ?_
    refine WL.done rfl ?_
    exact WX.again k7 (Nat.lt_succ_self _) (w64 (x4 + 1)) [0, 3] rfl ⟨(hS79.subR [0]).sub [] (by decide), hl10⟩
   refine WC.condF2 (fun fb => by kernel_rfl) h12 ?_
   refine WC.exit ?_
   injection hl10 with hl10
   exact WX.thenX (WX.thenX (WX.blockHere (WX.to Kx5 () [] rfl ⟨(hS9.subR [0]).sub [] (by decide), hl10.symm⟩)))
 rintro y85 w82 ⟨hS83, hq84⟩
 subst hq84
 have hf := sum_inr hf
 refine WX.next (WC.seq (WC.region ?_))
 refine sg 1 [] [2] [(2, (bv true))] (by kernel_rfl) ?_
 refine WL.done rfl (WX.next ?_)
 refine WC.ret ?_
 injection hf with hf
 subst hf
 exact WX.ret_ [] (bv true) [] (fun fb => by kernel_rfl) trivial ⟨_, rfl, rfl, hS83.keep⟩
theorem ref10_renamed_calls (k : Nat) (p0 : List Int) (Aa : Option Addr) (ca : Nat) (r : (List Int)) (w : World) (hR0 : RO NoS w (rowR encInt Aa ca p0)) (hf : ref10_renamed k p0 = some r) :
  CallsR Try.prog 40 #[(sv Aa p0 ca)] w (fun v w' => ∃ (A1_ : Option Addr), ∃ (c1_ : Nat), v = (sv A1_ r c1_) ∧ St NoS w w' [] [rowO 3 encInt A1_ c1_ r]) := by
 have hS : St NoS w w [rowR encInt Aa ca p0] [] := St.init (ro_cons hR0 (ro_nil _ _))
 refine enter 46 Try.func40 rfl Try.ntmps40 rfl ?_
 unfold ref10_renamed at hf
 refine WC.seq (WC.region ?_)
 refine sg 1 [] [0] [(0, (sv Aa p0 ca))] (by kernel_rfl) ?_
 refine WL.done rfl (WX.next (WC.seq (WC.region ?_)))
 refine sg 2 [] [0, 3, 4] [(0, (sv Aa p0 ca)), (3, (.slice none 0 0)), (4, (.slice none 0 0))] (by kernel_rfl) ?_
 refine WL.done rfl (WX.next (WC.seq (WC.seq (WC.region ?_))))
 refine sg 1 [] [0, 3, 4, 5] [(0, (sv Aa p0 ca)), (3, (.slice none 0 0)), (4, (.slice none 0 0)), (5, (iv 0))] (by kernel_rfl) ?_
 refine WL.done rfl (WX.next ?_)
 have hS3 := hS.nilrow 3 encInt
 have hS4 := hS3.nilrow 3 encInt
 obtain ⟨x15, hx16, hf⟩ := bind_some hf
 let e1 := [[], [], [1], [0, 1, 2], [0, 1, 2, 3], [0, 1, 2, 3, 4], [0, 1, 2, 3, 4], [0, 1, 2, 3, 4, 5, 6], [0, 1, 2, 3, 4, 5, 6, 7], [0, 1, 2, 3, 4], [0, 1, 2, 3, 4], [0, 1, 2, 3, 4, 9, 10], [0, 1, 2, 3, 4, 9, 10, 11], [0, 1, 2, 3, 4, 5, 6, 7, 8, 9, 10, 11, 12], [0, 1, 2, 3, 4, 5, 6, 7, 8, 9, 10, 11, 12, 13]]
 let e2 : Nat × Value := (0, (sv Aa p0 ca))
 let e6 : List Nat := [0, 1, 2, 3, 4, 5, 6, 7, 8, 9, 10, 11, 12, 13, 14]
 let e9 : List Own := [rowR encInt Aa ca p0]
 let e11 : List Nat := [0, 3, 4, 5, 6]
 refine WC.cutN (T := (List Int) × (Option Addr) × Nat) (fun t => [(4, (sv t.2.1 t.1 t.2.2))]) (fun t w1 => St NoS w w1 e9 [rowO 3 encInt t.2.1 t.2.2 t.1] ∧ x15 = t.1) (fun Kx15 => ?_) ?_
 ·
  refine WC.block ?_
  refine WC.loop (T := ((List Int) × (List Int) × Int) × (Option Addr) × Nat × (Option Addr) × Nat) (fun t => [e2, (3, (sv t.2.1 t.1.1 t.2.2.1)), (4, (sv t.2.2.2.1 t.1.2.1 t.2.2.2.2)), (5, (iv t.1.2.2))]) (fun n t w1 => St NoS w w1 e9 [rowO 3 encInt t.2.1 t.2.2.1 t.1.1, rowO 3 encInt t.2.2.2.1 t.2.2.2.2 t.1.2.1] ∧ ref10_renamed.l0 n t.1.1 t.1.2.1 t.1.2.2 p0 = some x15) k ((([] : List Int), ([] : List Int), 0), none, 0, none, 0) [0, 3, 4, 5] rfl ⟨(hS4.subR [0]).sub [1, 0] (by decide), hx16⟩ ?_
  rintro k17 ⟨⟨l7, l11, x12⟩, A5, c6, A8, c9⟩ w18 ⟨hS19, hl20⟩
  let e3 : Nat × Value := (4, (sv A8 l11 c9))
  let e4 : Nat × Value := (5, (iv x12))
  let e5 : Nat × Value := (3, (sv A5 l7 c6))
  let e7 := rdD p0 x12 0
  let e10 : List Own := [rowO 3 encInt A5 c6 l7, rowO 3 encInt A8 c9 l11]
  cases k17 with
  | zero => rw [ref10_renamed.l0] at hl20; cases hl20
  | succ k17 =>
   rw [ref10_renamed.l0] at hl20
   refine WC.seq (WC.seq (WC.region ?_))
   refine sg 4 [] [0, 3, 4, 5, 10] [e2, e5, e3, e4, (10, (bv (decide (x12 < (p0.length : Int)))))] (by kernel_rfl) ?_
   refine WL.done rfl (WX.next ?_)
   rcases br_some hl20 with ⟨h21, hl20⟩ | ⟨h21, hl20⟩
   ·refine WC.condT2 (fun fb => by kernel_rfl) h21 ?_
    refine WC.skip (WX.next (WC.seq (WC.block (WC.seq (WC.region ?_)))))
    refine sg 1 [] e11 [e2, e5, e3, e4, (6, (iv 0))] (by kernel_rfl) ?_
    refine WL.done rfl (WX.next (WC.seq ?_))
    obtain ⟨x23, hx24, hl20⟩ := bind_some hl20
    refine WC.cutN (T := Int) (fun t => [e2, e5, e3, e4, (6, (iv t))]) (fun t w1 => St NoS w w1 e9 e10 ∧ x23 = t) (fun Kx23 => ?_) ?_
    ·
     refine WC.block ?_
     refine WC.loop (T := Int) (fun t => [e2, e5, e3, e4, (6, (iv t))]) (fun n t w1 => St NoS w w1 e9 e10 ∧ ref10_renamed.l1 n t p0 l7 x12 = some x23) k17 0 e11 rfl ⟨(hS19.subR [0]).sub [0, 1] (by decide), hx24⟩ ?_
     rintro k25 x22 w26 ⟨hS27, hl28⟩
     let e8 : List (Nat × Addr × Value) := [(8, ((adr A5).add ((x22).toNat * 1)), (iv (rdD l7 x22 0))), (12, ((adr Aa).add ((x12).toNat * 1)), (iv e7))]
     cases k25 with
     | zero => rw [ref10_renamed.l1] at hl28; cases hl28
     | succ k25 =>
      rw [ref10_renamed.l1] at hl28
      refine WC.seq (WC.seq ?_)
      obtain ⟨x29, hx30, hl28⟩ := bind_some hl28
      refine WC.cutN (T := Bool) (fun t => [e2, e5, e3, e4, (6, (iv x22)), (27, (bv t))]) (fun t w1 => St NoS w w1 e9 e10 ∧ x29 = t) (fun Kx29 => ?_) ?_
      ·
       rcases br_some hx30 with ⟨h31, hx30⟩ | ⟨h31, hx30⟩
       ·
        obtain ⟨h34, hx30⟩ := as_some hx30
        obtain ⟨h35, hx30⟩ := as_some hx30
        refine WC.regionD (e8, e6, e1) [e6] (by kernel_rfl) (by kernel_rfl) (NoPanic.seq (NoPanic.seq (NoPanic.seq (NoPanic.block (NoPanic.seq (NoPanic.block (NoPanic.seq (NoPanic.seq (NoPanic.block (NoPanic.seq (NoPanic.body))))))))))) ?_
        have hS33 := hS27.drew
        revert hS33
        generalize World.drew w26 = w32
        intro hS33
        refine ⟨⟨rowR.cell (rowO.rd (hS33.own 0).1) 0 h34.1 h34.2 0 rfl, rowR.cell (hS33.rd 0).1 0 h35.1 h35.2 0 rfl, trivial⟩, forallC ?_ (forallN)⟩
        refine sg 5 [] [0, 3, 4, 5, 6, 17] [e2, e5, e3, e4, (6, (iv x22)), (17, (bv (decide (x22 < (l7.length : Int)))))] (by kernel_rfl) ?_
        refine WL.setB 17 h31 rfl ?_
        refine segF 15 [.v (iv (rdD l7 x22 0)), .v (iv e7)] [0, 3, 4, 5, 6, 27] [e2, e5, e3, e4, (6, (iv x22)), (27, (bv ((rdD l7 x22 0) != e7)))] [.idx A5 x22 l7.length, .idx Aa x12 p0.length] [0, 1] e8 (fun fb => by kernel_rfl) rfl ⟨rowR.adr (rowO.rd (hS33.own 0).1) h34.1 h34.2, rowR.adr (hS33.rd 0).1 h35.1 h35.2, trivial⟩ rfl ?_
        refine WL.done rfl ?_
        injection hx30 with hx30
        exact WX.to Kx29 ((rdD l7 x22 0) != e7) [0, 3, 4, 5, 6, 27] rfl ⟨(hS33.subR [0]).sub [0, 1] (by decide), hx30.symm⟩
       refine WC.regionD ([], e6, e1) [e6] (by kernel_rfl) (by kernel_rfl) (NoPanic.seq (NoPanic.seq (NoPanic.seq (NoPanic.block (NoPanic.seq (NoPanic.block (NoPanic.seq (NoPanic.seq (NoPanic.block (NoPanic.seq (NoPanic.body))))))))))) ?_
       have hS37 := hS27.drew
       revert hS37
       generalize World.drew w26 = w36
       intro hS37
       refine ⟨trivial, forallC ?_ (forallN)⟩
       refine sg 5 [] [0, 3, 4, 5, 6, 17] [e2, e5, e3, e4, (6, (iv x22)), (17, (bv (decide (x22 < (l7.length : Int)))))] (by kernel_rfl) ?_
       refine WL.setB 17 h31 rfl ?_
       refine sg 15 [] [0, 3, 4, 5, 6, 27] [e2, e5, e3, e4, (6, (iv x22)), (27, (bv false))] (by kernel_rfl) ?_
       refine WL.done rfl ?_
       injection hx30 with hx30
       exact WX.to Kx29 false [0, 3, 4, 5, 6, 27] rfl ⟨(hS37.subR [0]).sub [0, 1] (by decide), hx30.symm⟩
      rintro y42 w38 ⟨hS39, hq41⟩
      subst hq41
      refine WX.next ?_
      rcases br_some hl28 with ⟨h43, hl28⟩ | ⟨h43, hl28⟩
      ·refine WC.condT2 (fun fb => by kernel_rfl) h43 ?_
       refine WC.skip (WX.next (WC.block (WC.region ?_)))
       refine sg 3 [] e11 [e2, e5, e3, e4, (6, (iv (w64 (x22 + 1))))] (by kernel_rfl) ?_
       refine WL.done rfl ?_
       exact WX.blockN (WX.again k25 (Nat.lt_succ_self _) (w64 (x22 + 1)) e11 rfl ⟨(hS39.subR [0]).sub [0, 1] (by decide), hl28⟩)
      refine WC.condF2 (fun fb => by kernel_rfl) h43 ?_
      refine WC.exit ?_
      injection hl28 with hl28
      exact WX.thenX (WX.thenX (WX.blockHere (WX.to Kx23 x22 e11 rfl ⟨(hS39.subR [0]).sub [0, 1] (by decide), hl28.symm⟩)))
    rintro y47 w44 ⟨hS45, hq46⟩
    subst hq46
    refine WX.next (WC.seq (WC.seq (WC.region ?_)))
    refine sg 4 [] [0, 3, 4, 5, 6, 33] [e2, e5, e3, e4, (6, (iv x23)), (33, (bv (x23 == (l7.length : Int))))] (by kernel_rfl) ?_
    refine WL.done rfl (WX.next ?_)
    obtain ⟨x50, hx51, hl20⟩ := bind_some hl20
    refine WC.cutN (T := (List Int) × (Option Addr) × Nat) (fun t => [e2, (3, (sv t.2.1 t.1 t.2.2)), e3, e4, (6, (iv x23))]) (fun t w1 => St NoS w w1 e9 [rowO 3 encInt t.2.1 t.2.2 t.1, rowO 3 encInt A8 c9 l11] ∧ x50 = t.1) (fun Kx50 => ?_) ?_
    ·
     rcases br_some hx51 with ⟨h52, hx51⟩ | ⟨h52, hx51⟩
     ·refine WC.condT2 (fun fb => by kernel_rfl) h52 ?_
      refine WC.region ?_
      refine sg 3 [] [0, 4, 5, 6, 34, 35, 36] [e2, e3, e4, (6, (iv x23)), (34, (sv A5 l7 c6)), (35, (sv Aa p0 ca)), (36, (iv x12))] (by kernel_rfl) ?_
      obtain ⟨h53, hx51⟩ := as_some hx51
      refine seg 5 [.v (iv e7)] [0, 4, 5, 6, 34, 38] [e2, e3, e4, (6, (iv x23)), (34, (sv A5 l7 c6)), (38, (iv e7))] [.idx Aa x12 p0.length, .cell ((adr Aa).add ((x12).toNat * 1)) (iv e7)] (fun fb => by kernel_rfl) rfl ⟨rowR.adr (hS45.rd 0).1 h53.1 h53.2, rowR.cell (hS45.rd 0).1 0 h53.1 h53.2 0 rfl, trivial⟩ ?_
      refine WL.new hS45 39 [] (fun g => (.slice (some ⟨g, 0, none⟩) 1 1)) (.cells #[(iv e7)] 3 (0, 0)) [] (fun fb g => by kernel_rfl) trivial (fun g54 w55 hS56 => ?_)
      refine ⟨trivial, ?_⟩
      have hS57 := hS.go w55 [rowO 3 encInt (some ⟨g54, 0, none⟩) 1 [e7], rowO 3 encInt A5 c6 l7, rowO 3 encInt A8 c9 l11] (hS56.map1 0 _ (fun h => rowO.ofBlk h rfl (Nat.le_of_ble_eq_true (by kernel_rfl))) (fun _ h => by obtain ⟨_, h1, h2⟩ := h; injection h1 with h1; subst h1; exact h2) [1, 2] (by decide) (by decide))
      obtain ⟨h58, hx51⟩ := as_some hx51
      refine WL.append hS57 1 (d := 40) (tS := 37) (z := (iv 0)) (bytes := 8) (c2 := 1) rfl (fun fb => by kernel_rfl) (rowO.rd (hS57.own 0).1) (by kernel_rfl) (by kernel_rfl) rfl (by decide) h58 (by decide) [0, 2] (by decide) (by decide) (fun A59 c60 w61 hS62 => ?_)
      refine ⟨trivial, ?_⟩
      refine sg 8 [] e11 [e2, (3, (sv A59 (l7 ++ [e7]) c60)), e3, e4, (6, (iv x23))] (by kernel_rfl) ?_
      refine WL.done rfl ?_
      injection hx51 with hx51
      exact WX.to Kx50 (l7 ++ [e7], A59, c60) e11 rfl ⟨(hS62.subR [0]).sub [0, 2] (by decide), hx51.symm⟩
     refine WC.condF2 (fun fb => by kernel_rfl) h52 ?_
     refine WC.skip ?_
     injection hx51 with hx51
     exact WX.to Kx50 (l7, A5, c6) e11 rfl ⟨(hS45.subR [0]).sub [0, 1] (by decide), hx51.symm⟩
    rintro ⟨y67, A48, c49⟩ w63 ⟨hS65, hq66⟩
    subst hq66
    refine WX.next (WC.region ?_)
    refine sg 2 [] [0, 3, 5, 41, 42] [e2, (3, (sv A48 x50 c49)), e4, (41, (sv A8 l11 c9)), (42, (iv x23))] (by kernel_rfl) ?_
    refine WL.new hS65 43 [] (fun g => (.slice (some ⟨g, 0, none⟩) 1 1)) (.cells #[(iv x23)] 3 (0, 0)) [] (fun fb g => by kernel_rfl) trivial (fun g68 w69 hS70 => ?_)
    refine ⟨trivial, ?_⟩
    have hS71 := hS.go w69 [rowO 3 encInt (some ⟨g68, 0, none⟩) 1 [x23], rowO 3 encInt A48 c49 x50, rowO 3 encInt A8 c9 l11] (hS70.map1 0 _ (fun h => rowO.ofBlk h rfl (Nat.le_of_ble_eq_true (by kernel_rfl))) (fun _ h => by obtain ⟨_, h1, h2⟩ := h; injection h1 with h1; subst h1; exact h2) [1, 2] (by decide) (by decide))
    obtain ⟨h72, hl20⟩ := as_some hl20
    refine WL.append hS71 2 (d := 44) (tS := 37) (z := (iv 0)) (bytes := 8) (c2 := 1) rfl (fun fb => by kernel_rfl) (rowO.rd (hS71.own 0).1) (by kernel_rfl) (by kernel_rfl) rfl (by decide) h72 (by decide) [0, 1] (by decide) (by decide) (fun A73 c74 w75 hS76 => ?_)
    refine ⟨trivial, ?_⟩
    refine sg 5 [] [0, 3, 4, 5] [e2, (3, (sv A48 x50 c49)), (4, (sv A73 (l11 ++ [x23]) c74)), e4] (by kernel_rfl) ?_
    refine WL.done rfl ?_
    refine WX.blockN (WX.next ?_)
    refine WC.region ?_
    refine sg 3 [] [0, 3, 4, 5] [e2, (3, (sv A48 x50 c49)), (4, (sv A73 (l11 ++ [x23]) c74)), (5, (iv (w64 (x12 + 1))))] (by kernel_rfl) ?_
    refine WL.done rfl ?_
    exact WX.again k17 (Nat.lt_succ_self _) ((x50, l11 ++ [x23], w64 (x12 + 1)), A48, c49, A73, c74) [0, 3, 4, 5] rfl ⟨(hS76.subR [0]).sub [2, 0] (by decide), hl20⟩
   refine WC.condF2 (fun fb => by kernel_rfl) h21 ?_
   refine WC.exit ?_
   injection hl20 with hl20
   exact WX.thenX (WX.thenX (WX.blockHere (WX.to Kx15 (l11, A8, c9) [4] rfl ⟨(hS19.subR [0]).sub [1] (by decide), hl20.symm⟩)))
 rintro ⟨y80, A13, c14⟩ w77 ⟨hS78, hq79⟩
 subst hq79
 refine WX.next (WC.seq (WC.region ?_))
 refine sg 2 [] [2] [(2, (sv A13 x15 c14))] (by kernel_rfl) ?_
 refine WL.done rfl (WX.next ?_)
 refine WC.ret ?_
 injection hf with hf
 subst hf
 exact WX.ret_ [] (sv A13 x15 c14) [] (fun fb => by kernel_rfl) trivial ⟨_, rfl, A13, c14, rfl, (hS78.sub [0] (by decide)).noR⟩
theorem ref10_named_calls (k : Nat) (p0 : List Tile) (Aa : Option Addr) (ca : Nat) (r : (List Tile)) (w : World) (hR0 : RO NoS w (rowR enc_Tile Aa ca p0)) (hf : ref10_named k p0 = some r) :
  CallsR Try.prog 26 #[(sv Aa p0 ca)] w (fun v w' => ∃ (A1_ : Option Addr), ∃ (c1_ : Nat), v = (sv A1_ r c1_) ∧ St NoS w w' [] [rowO 48 enc_Tile A1_ c1_ r]) := by
 have hS : St NoS w w [rowR enc_Tile Aa ca p0] [] := St.init (ro_cons hR0 (ro_nil _ _))
 refine enter 77 Try.func26 rfl Try.ntmps26 rfl ?_
 unfold ref10_named at hf
 refine WC.seq (WC.region ?_)
 refine sg 1 [] [0] [(0, (sv Aa p0 ca))] (by kernel_rfl) ?_
 refine WL.done rfl (WX.next (WC.seq (WC.region ?_)))
 refine sg 2 [] [0, 3, 4] [(0, (sv Aa p0 ca)), (3, (.slice none 0 0)), (4, (.slice none 0 0))] (by kernel_rfl) ?_
 refine WL.done rfl (WX.next (WC.seq (WC.seq (WC.region ?_))))
 refine sg 1 [] [0, 3, 4, 5] [(0, (sv Aa p0 ca)), (3, (.slice none 0 0)), (4, (.slice none 0 0)), (5, (iv 0))] (by kernel_rfl) ?_
 refine WL.done rfl (WX.next ?_)
 have hS3 := hS.nilrow 3 encInt
 have hS4 := hS3.nilrow 3 encInt
 obtain ⟨x17, hx18, hf⟩ := bind_some hf
 let e7 : Nat × Value := (0, (sv Aa p0 ca))
 let e14 : List Nat := [0, 3, 4, 5]
 let e15 : List Nat := [0, 5, 14, 19, 24, 27, 32, 37]
 let e16 := Option Addr
 refine WC.cutN (T := ((List Int) × (List Int)) × e16 × Nat × e16 × Nat) (fun t => [e7, (3, (sv t.2.1 t.1.1 t.2.2.1)), (4, (sv t.2.2.2.1 t.1.2 t.2.2.2.2))]) (fun t w1 => St NoS w w1 [rowR enc_Tile Aa ca p0] [rowO 3 encInt t.2.1 t.2.2.1 t.1.1, rowO 3 encInt t.2.2.2.1 t.2.2.2.2 t.1.2] ∧ x17 = t.1) (fun Kx17 => ?_) ?_
 ·
  refine WC.block ?_
  refine WC.loop (T := ((List Int) × (List Int) × Int) × e16 × Nat × e16 × Nat) (fun t => [e7, (3, (sv t.2.1 t.1.1 t.2.2.1)), (4, (sv t.2.2.2.1 t.1.2.1 t.2.2.2.2)), (5, (iv t.1.2.2))]) (fun n t w1 => St NoS w w1 [rowR enc_Tile Aa ca p0] [rowO 3 encInt t.2.1 t.2.2.1 t.1.1, rowO 3 encInt t.2.2.2.1 t.2.2.2.2 t.1.2.1] ∧ ref10_named.l0 n t.1.1 t.1.2.1 t.1.2.2 p0 = some x17) k ((([] : List Int), ([] : List Int), 0), none, 0, none, 0) e14 rfl ⟨(hS4.subR [0]).sub [1, 0] (by decide), hx18⟩ ?_
  rintro k19 ⟨⟨l7, l11, x12⟩, A5, c6, A8, c9⟩ w20 ⟨hS21, hl22⟩
  let e1 := rdD p0 x12 z_Tile
  let e10 := (adr Aa).add ((x12).toNat * 4)
  let e2 : List (Nat × Addr × Value) := [(5, e10, (iv (e1.N))), (10, (e10.add 2), (iv (e1.S))), (18, (e10.add 1), (iv (e1.E))), (23, (e10.add 3), (iv (e1.W)))]
  let e4 : List (Nat × Value) := [e7, (5, (iv x12)), (14, (sv A5 l7 c6)), (19, (iv (e1.N))), (24, (iv (e1.S))), (27, (sv A8 l11 c9)), (32, (iv (e1.E))), (37, (iv (e1.W)))]
  let e9 := [e1.N, e1.S]
  let e12 := [e1.E, e1.W]
  cases k19 with
  | zero => rw [ref10_named.l0] at hl22; cases hl22
  | succ k19 =>
   rw [ref10_named.l0] at hl22
   refine WC.seq (WC.seq (WC.region ?_))
   refine sg 4 [] [0, 3, 4, 5, 11] [e7, (3, (sv A5 l7 c6)), (4, (sv A8 l11 c9)), (5, (iv x12)), (11, (bv (decide (x12 < (p0.length : Int)))))] (by kernel_rfl) ?_
   refine WL.done rfl (WX.next ?_)
   rcases br_some hl22 with ⟨h23, hl22⟩ | ⟨h23, hl22⟩
   ·refine WC.condT2 (fun fb => by kernel_rfl) h23 ?_
    refine WC.skip (WX.next (WC.seq (WC.block ?_)))
    obtain ⟨x29, hx30, hl22⟩ := bind_some hl22
    refine WC.cutN (T := ((List Int) × (List Int)) × e16 × Nat × e16 × Nat) (fun t => [e7, (3, (sv t.2.1 t.1.1 t.2.2.1)), (4, (sv t.2.2.2.1 t.1.2 t.2.2.2.2)), (5, (iv x12))]) (fun t w1 => St NoS w w1 [rowR enc_Tile Aa ca p0] [rowO 3 encInt t.2.1 t.2.2.1 t.1.1, rowO 3 encInt t.2.2.2.1 t.2.2.2.2 t.1.2] ∧ x29 = t.1) (fun Kx29 => ?_) ?_
    ·
     obtain ⟨h33, hx30⟩ := as_some hx30
     refine WC.regionD (e2, [0, 1, 2, 3, 4, 5, 6, 7, 8, 9, 10, 13, 14, 15, 16, 17, 18, 19, 20, 21, 22, 23, 26, 27], [[], [], [], [1, 2], [1, 2, 3], [1, 2, 3, 4], [], [], [6, 7], [6, 7, 8], [6, 7, 8, 9], [1, 2, 3, 4, 5, 6, 7, 8, 9, 10], [0, 1, 2, 3, 4, 5, 6, 7, 8, 9, 10, 11], [], [], [], [14, 15], [14, 15, 16], [14, 15, 16, 17], [], [], [19, 20], [19, 20, 21], [19, 20, 21, 22], [14, 15, 16, 17, 18, 19, 20, 21, 22, 23], [0, 1, 2, 3, 4, 5, 6, 7, 8, 9, 10, 11, 12, 13, 14, 15, 16, 17, 18, 19, 20, 21, 22, 23, 24], [0, 1, 2, 3, 4, 5, 6, 7, 8, 9, 10, 11, 12, 13, 14, 15, 16, 17, 18, 19, 20, 21, 22, 23, 24, 25], [0, 1, 2, 3, 4, 5, 6, 7, 8, 9, 10, 11, 12, 13, 14, 15, 16, 17, 18, 19, 20, 21, 22, 23, 24, 25, 26]]) [[0, 1, 2, 3, 4, 5, 6, 7, 8, 9, 10, 13, 14, 15, 16, 17, 18, 19, 20, 21, 22, 23, 11, 12, 24, 25, 26, 27], [0, 1, 2, 3, 4, 5, 6, 7, 8, 9, 10, 13, 14, 15, 16, 17, 18, 19, 20, 21, 22, 23, 11, 24, 12, 25, 26, 27], [0, 1, 2, 3, 4, 5, 6, 7, 8, 9, 10, 13, 14, 15, 16, 17, 18, 19, 20, 21, 22, 23, 24, 11, 12, 25, 26, 27]] (by kernel_rfl) (by kernel_rfl) (NoPanic.block (NoPanic.seq (NoPanic.seq (NoPanic.block (NoPanic.seq (NoPanic.body)))))) ?_
     have hS32 := hS21.drew
     revert hS32
     generalize World.drew w20 = w31
     intro hS32
     refine ⟨⟨rowR.cell (hS32.rd 0).1 z_Tile h33.1 h33.2 0 rfl, rowR.cell (hS32.rd 0).1 z_Tile h33.1 h33.2 2 rfl, rowR.cell (hS32.rd 0).1 z_Tile h33.1 h33.2 1 rfl, rowR.cell (hS32.rd 0).1 z_Tile h33.1 h33.2 3 rfl, trivial⟩, forallC ?_ (forallC ?_ (forallC ?_ (forallN)))⟩
     ·
      refine segF 22 [.v (iv (e1.N)), .v (iv (e1.S)), .v (iv (e1.E)), .v (iv (e1.W))] e15 e4 [.idx Aa x12 p0.length, .idx Aa x12 p0.length, .idx Aa x12 p0.length, .idx Aa x12 p0.length] [0, 1, 2, 3] e2 (fun fb => by kernel_rfl) rfl ⟨rowR.adr (hS32.rd 0).1 h33.1 h33.2, rowR.adr (hS32.rd 0).1 h33.1 h33.2, rowR.adr (hS32.rd 0).1 h33.1 h33.2, rowR.adr (hS32.rd 0).1 h33.1 h33.2, trivial⟩ rfl ?_
      refine WL.new hS32 25 [] (fun g => (.slice (some ⟨g, 0, none⟩) 2 2)) (.cells #[(iv (e1.N)), (iv (e1.S))] 3 (0, 0)) [] (fun fb g => by kernel_rfl) trivial (fun g34 w35 hS36 => ?_)
      refine ⟨⟨rowR.cell (hS36.rd 0).1 z_Tile h33.1 h33.2 1 rfl, rowR.cell (hS36.rd 0).1 z_Tile h33.1 h33.2 3 rfl, trivial⟩, ?_⟩
      have hS37 := hS.go w35 [rowO 3 encInt (some ⟨g34, 0, none⟩) 2 e9, rowO 3 encInt A5 c6 l7, rowO 3 encInt A8 c9 l11] (hS36.map1 0 _ (fun h => rowO.ofBlk h rfl (Nat.le_of_ble_eq_true (by kernel_rfl))) (fun _ h => by obtain ⟨_, h1, h2⟩ := h; injection h1 with h1; subst h1; exact h2) [1, 2] (by decide) (by decide))
      obtain ⟨h38, hx30⟩ := as_some hx30
      refine WL.append hS37 1 (d := 26) (tS := 37) (z := (iv 0)) (bytes := 8) (c2 := 2) rfl (fun fb => by kernel_rfl) (rowO.rd (hS37.own 0).1) (by kernel_rfl) (by kernel_rfl) rfl (by decide) h38 (by decide) [0, 2] (by decide) (by decide) (fun A39 c40 w41 hS42 => ?_)
      refine ⟨⟨rowR.cell (hS42.rd 0).1 z_Tile h33.1 h33.2 1 rfl, rowR.cell (hS42.rd 0).1 z_Tile h33.1 h33.2 3 rfl, trivial⟩, ?_⟩
      refine WL.new hS42 38 [] (fun g => (.slice (some ⟨g, 0, none⟩) 2 2)) (.cells #[(iv (e1.E)), (iv (e1.W))] 3 (0, 0)) [] (fun fb g => by kernel_rfl) trivial (fun g43 w44 hS45 => ?_)
      refine ⟨⟨rowR.cell (hS45.rd 0).1 z_Tile h33.1 h33.2 0 rfl, rowR.cell (hS45.rd 0).1 z_Tile h33.1 h33.2 2 rfl, trivial⟩, ?_⟩
      have hS46 := hS37.go w44 [rowO 3 encInt (some ⟨g43, 0, none⟩) 2 e12, rowO 3 encInt A39 c40 (l7 ++ e9), rowO 3 encInt (some ⟨g34, 0, none⟩) 2 e9, rowO 3 encInt A8 c9 l11] (hS45.map1 0 _ (fun h => rowO.ofBlk h rfl (Nat.le_of_ble_eq_true (by kernel_rfl))) (fun _ h => by obtain ⟨_, h1, h2⟩ := h; injection h1 with h1; subst h1; exact h2) [1, 2, 3] (by decide) (by decide))
      obtain ⟨h47, hx30⟩ := as_some hx30
      refine WL.append hS46 3 (d := 39) (tS := 37) (z := (iv 0)) (bytes := 8) (c2 := 2) rfl (fun fb => by kernel_rfl) (rowO.rd (hS46.own 0).1) (by kernel_rfl) (by kernel_rfl) rfl (by decide) h47 (by decide) [0, 1, 2] (by decide) (by decide) (fun A48 c49 w50 hS51 => ?_)
      refine ⟨trivial, ?_⟩
      refine sg 28 [] e14 [e7, (3, (sv A39 (l7 ++ e9) c40)), (4, (sv A48 (l11 ++ e12) c49)), (5, (iv x12))] (by kernel_rfl) ?_
      refine WL.done rfl ?_
      injection hx30 with hx30
      exact WX.to Kx29 ((l7 ++ e9, l11 ++ e12), A39, c40, A48, c49) e14 rfl ⟨(hS51.subR [0]).sub [2, 0] (by decide), hx30.symm⟩
     ·
      refine segF 22 [.v (iv (e1.N)), .v (iv (e1.S)), .v (iv (e1.E)), .v (iv (e1.W))] e15 e4 [.idx Aa x12 p0.length, .idx Aa x12 p0.length, .idx Aa x12 p0.length, .idx Aa x12 p0.length] [0, 1, 2, 3] e2 (fun fb => by kernel_rfl) rfl ⟨rowR.adr (hS32.rd 0).1 h33.1 h33.2, rowR.adr (hS32.rd 0).1 h33.1 h33.2, rowR.adr (hS32.rd 0).1 h33.1 h33.2, rowR.adr (hS32.rd 0).1 h33.1 h33.2, trivial⟩ rfl ?_
      refine WL.new hS32 25 [] (fun g => (.slice (some ⟨g, 0, none⟩) 2 2)) (.cells #[(iv (e1.N)), (iv (e1.S))] 3 (0, 0)) [] (fun fb g => by kernel_rfl) trivial (fun g52 w53 hS54 => ?_)
      refine ⟨⟨rowR.cell (hS54.rd 0).1 z_Tile h33.1 h33.2 1 rfl, rowR.cell (hS54.rd 0).1 z_Tile h33.1 h33.2 3 rfl, trivial⟩, ?_⟩
      have hS55 := hS.go w53 [rowO 3 encInt (some ⟨g52, 0, none⟩) 2 e9, rowO 3 encInt A5 c6 l7, rowO 3 encInt A8 c9 l11] (hS54.map1 0 _ (fun h => rowO.ofBlk h rfl (Nat.le_of_ble_eq_true (by kernel_rfl))) (fun _ h => by obtain ⟨_, h1, h2⟩ := h; injection h1 with h1; subst h1; exact h2) [1, 2] (by decide) (by decide))
      refine WL.new hS55 38 [] (fun g => (.slice (some ⟨g, 0, none⟩) 2 2)) (.cells #[(iv (e1.E)), (iv (e1.W))] 3 (0, 0)) [] (fun fb g => by kernel_rfl) trivial (fun g56 w57 hS58 => ?_)
      refine ⟨⟨rowR.cell (hS58.rd 0).1 z_Tile h33.1 h33.2 0 rfl, rowR.cell (hS58.rd 0).1 z_Tile h33.1 h33.2 2 rfl, trivial⟩, ?_⟩
      have hS59 := hS55.go w57 [rowO 3 encInt (some ⟨g56, 0, none⟩) 2 e12, rowO 3 encInt (some ⟨g52, 0, none⟩) 2 e9, rowO 3 encInt A5 c6 l7, rowO 3 encInt A8 c9 l11] (hS58.map1 0 _ (fun h => rowO.ofBlk h rfl (Nat.le_of_ble_eq_true (by kernel_rfl))) (fun _ h => by obtain ⟨_, h1, h2⟩ := h; injection h1 with h1; subst h1; exact h2) [1, 2, 3] (by decide) (by decide))
      obtain ⟨h60, hx30⟩ := as_some hx30
      refine WL.append hS59 2 (d := 26) (tS := 37) (z := (iv 0)) (bytes := 8) (c2 := 2) rfl (fun fb => by kernel_rfl) (rowO.rd (hS59.own 1).1) (by kernel_rfl) (by kernel_rfl) rfl (by decide) h60 (by decide) [0, 1, 3] (by decide) (by decide) (fun A61 c62 w63 hS65 => ?_)
      refine ⟨⟨rowR.cell (hS65.rd 0).1 z_Tile h33.1 h33.2 1 rfl, rowR.cell (hS65.rd 0).1 z_Tile h33.1 h33.2 3 rfl, trivial⟩, ?_⟩
      obtain ⟨h66, hx30⟩ := as_some hx30
      refine WL.append hS65 3 (d := 39) (tS := 37) (z := (iv 0)) (bytes := 8) (c2 := 2) rfl (fun fb => by kernel_rfl) (rowO.rd (hS65.own 1).1) (by kernel_rfl) (by kernel_rfl) rfl (by decide) h66 (by decide) [0, 1, 2] (by decide) (by decide) (fun A67 c68 w69 hS70 => ?_)
      refine ⟨trivial, ?_⟩
      refine sg 28 [] e14 [e7, (3, (sv A61 (l7 ++ e9) c62)), (4, (sv A67 (l11 ++ e12) c68)), (5, (iv x12))] (by kernel_rfl) ?_
      refine WL.done rfl ?_
      injection hx30 with hx30
      exact WX.to Kx29 ((l7 ++ e9, l11 ++ e12), A61, c62, A67, c68) e14 rfl ⟨(hS70.subR [0]).sub [1, 0] (by decide), hx30.symm⟩
     refine segF 22 [.v (iv (e1.N)), .v (iv (e1.S)), .v (iv (e1.E)), .v (iv (e1.W))] e15 e4 [.idx Aa x12 p0.length, .idx Aa x12 p0.length, .idx Aa x12 p0.length, .idx Aa x12 p0.length] [0, 1, 2, 3] e2 (fun fb => by kernel_rfl) rfl ⟨rowR.adr (hS32.rd 0).1 h33.1 h33.2, rowR.adr (hS32.rd 0).1 h33.1 h33.2, rowR.adr (hS32.rd 0).1 h33.1 h33.2, rowR.adr (hS32.rd 0).1 h33.1 h33.2, trivial⟩ rfl ?_
     refine WL.new hS32 38 [] (fun g => (.slice (some ⟨g, 0, none⟩) 2 2)) (.cells #[(iv (e1.E)), (iv (e1.W))] 3 (0, 0)) [] (fun fb g => by kernel_rfl) trivial (fun g71 w72 hS73 => ?_)
     refine ⟨⟨rowR.cell (hS73.rd 0).1 z_Tile h33.1 h33.2 0 rfl, rowR.cell (hS73.rd 0).1 z_Tile h33.1 h33.2 2 rfl, trivial⟩, ?_⟩
     have hS74 := hS.go w72 [rowO 3 encInt (some ⟨g71, 0, none⟩) 2 e12, rowO 3 encInt A5 c6 l7, rowO 3 encInt A8 c9 l11] (hS73.map1 0 _ (fun h => rowO.ofBlk h rfl (Nat.le_of_ble_eq_true (by kernel_rfl))) (fun _ h => by obtain ⟨_, h1, h2⟩ := h; injection h1 with h1; subst h1; exact h2) [1, 2] (by decide) (by decide))
     refine WL.new hS74 25 [] (fun g => (.slice (some ⟨g, 0, none⟩) 2 2)) (.cells #[(iv (e1.N)), (iv (e1.S))] 3 (0, 0)) [] (fun fb g => by kernel_rfl) trivial (fun g75 w76 hS77 => ?_)
     refine ⟨⟨rowR.cell (hS77.rd 0).1 z_Tile h33.1 h33.2 1 rfl, rowR.cell (hS77.rd 0).1 z_Tile h33.1 h33.2 3 rfl, trivial⟩, ?_⟩
     have hS78 := hS74.go w76 [rowO 3 encInt (some ⟨g75, 0, none⟩) 2 e9, rowO 3 encInt (some ⟨g71, 0, none⟩) 2 e12, rowO 3 encInt A5 c6 l7, rowO 3 encInt A8 c9 l11] (hS77.map1 0 _ (fun h => rowO.ofBlk h rfl (Nat.le_of_ble_eq_true (by kernel_rfl))) (fun _ h => by obtain ⟨_, h1, h2⟩ := h; injection h1 with h1; subst h1; exact h2) [1, 2, 3] (by decide) (by decide))
     obtain ⟨h79, hx30⟩ := as_some hx30
     refine WL.append hS78 2 (d := 26) (tS := 37) (z := (iv 0)) (bytes := 8) (c2 := 2) rfl (fun fb => by kernel_rfl) (rowO.rd (hS78.own 0).1) (by kernel_rfl) (by kernel_rfl) rfl (by decide) h79 (by decide) [0, 1, 3] (by decide) (by decide) (fun A80 c81 w82 hS83 => ?_)
     refine ⟨⟨rowR.cell (hS83.rd 0).1 z_Tile h33.1 h33.2 1 rfl, rowR.cell (hS83.rd 0).1 z_Tile h33.1 h33.2 3 rfl, trivial⟩, ?_⟩
     obtain ⟨h84, hx30⟩ := as_some hx30
     refine WL.append hS83 3 (d := 39) (tS := 37) (z := (iv 0)) (bytes := 8) (c2 := 2) rfl (fun fb => by kernel_rfl) (rowO.rd (hS83.own 2).1) (by kernel_rfl) (by kernel_rfl) rfl (by decide) h84 (by decide) [0, 1, 2] (by decide) (by decide) (fun A85 c86 w87 hS88 => ?_)
     refine ⟨trivial, ?_⟩
     refine sg 28 [] e14 [e7, (3, (sv A80 (l7 ++ e9) c81)), (4, (sv A85 (l11 ++ e12) c86)), (5, (iv x12))] (by kernel_rfl) ?_
     refine WL.done rfl ?_
     injection hx30 with hx30
     exact WX.to Kx29 ((l7 ++ e9, l11 ++ e12), A80, c81, A85, c86) e14 rfl ⟨(hS88.subR [0]).sub [1, 0] (by decide), hx30.symm⟩
    rintro ⟨y92, A24, c25, A27, c28⟩ w89 ⟨hS90, hq91⟩
    subst hq91
    refine WX.blockN (WX.next ?_)
    refine WC.region ?_
    refine sg 3 [] e14 [e7, (3, (sv A24 x29.1 c25)), (4, (sv A27 x29.2 c28)), (5, (iv (w64 (x12 + 1))))] (by kernel_rfl) ?_
    refine WL.done rfl ?_
    exact WX.again k19 (Nat.lt_succ_self _) ((x29.1, x29.2, w64 (x12 + 1)), A24, c25, A27, c28) e14 rfl ⟨(hS90.subR [0]).sub [0, 1] (by decide), hl22⟩
   refine WC.condF2 (fun fb => by kernel_rfl) h23 ?_
   refine WC.exit ?_
   injection hl22 with hl22
   exact WX.thenX (WX.thenX (WX.blockHere (WX.to Kx17 ((l7, l11), A5, c6, A8, c9) [0, 3, 4] rfl ⟨(hS21.subR [0]).sub [0, 1] (by decide), hl22.symm⟩)))
 rintro ⟨y96, A13, c14, A15, c16⟩ w93 ⟨hS94, hq95⟩
 subst hq95
 refine WX.next (WC.seq (WC.region ?_))
 refine sg 1 [] [0, 4, 40] [e7, (4, (sv A15 x17.2 c16)), (40, (sv A13 x17.1 c14))] (by kernel_rfl) ?_
 obtain ⟨t97, ht98, hf⟩ := bind_some hf
 refine WL.call (some 41) 40 #[(sv A13 x17.1 c14)] (fun fb => by kernel_rfl) (ref10_renamed_calls _ x17.1 A13 c14 t97 _ (hS94.ow 0).ofO ht98) (fun v w99 hR100 => ?_)
 obtain ⟨A102, c103, rfl, hk_⟩ := hR100
 have hS101 := hS.go w99 [rowO 3 encInt A102 c103 t97, rowO 3 encInt A13 c14 x17.1, rowO 3 encInt A15 c16 x17.2] (hS94.call hk_ [] [0, 1] (fun g hg => hg.elim) (by simp) (by decide))
 refine ⟨trivial, ?_⟩
 refine sg 3 [] [0, 41, 42] [e7, (41, (sv A102 t97 c103)), (42, (sv A15 x17.2 c16))] (by kernel_rfl) ?_
 obtain ⟨t104, ht105, hf⟩ := bind_some hf
 refine WL.call (some 43) 40 #[(sv A15 x17.2 c16)] (fun fb => by kernel_rfl) (ref10_renamed_calls _ x17.2 A15 c16 t104 _ (hS101.ow 2).ofO ht105) (fun v w106 hR107 => ?_)
 obtain ⟨A109, c110, rfl, hk_⟩ := hR107
 have hS108 := hS101.go w106 [rowO 3 encInt A109 c110 t104, rowO 3 encInt A102 c103 t97, rowO 3 encInt A13 c14 x17.1, rowO 3 encInt A15 c16 x17.2] (hS101.call hk_ [] [0, 1, 2] (fun g hg => hg.elim) (by simp) (by decide))
 refine ⟨trivial, ?_⟩
 refine sg 6 [] [0, 3, 4] [e7, (3, (sv A102 t97 c103)), (4, (sv A109 t104 c110))] (by kernel_rfl) ?_
 refine WL.done rfl (WX.next (WC.seq (WC.region ?_)))
 refine sg 1 [] [0, 3, 4, 6] [e7, (3, (sv A102 t97 c103)), (4, (sv A109 t104 c110)), (6, (.slice none 0 0))] (by kernel_rfl) ?_
 refine WL.done rfl (WX.next (WC.seq (WC.seq (WC.region ?_))))
 refine sg 1 [] [0, 3, 4, 6, 7] [e7, (3, (sv A102 t97 c103)), (4, (sv A109 t104 c110)), (6, (.slice none 0 0)), (7, (iv 0))] (by kernel_rfl) ?_
 refine WL.done rfl (WX.next ?_)
 have hS111 := hS108.nilrow 48 enc_Tile
 obtain ⟨x118, hx119, hf⟩ := bind_some hf
 let e11 : Nat × Value := (4, (sv A109 t104 c110))
 let e13 : Nat × Value := (3, (sv A102 t97 c103))
 refine WC.cutN (T := (List Tile) × e16 × Nat) (fun t => [(6, (sv t.2.1 t.1 t.2.2))]) (fun t w1 => St NoS w w1 [rowR enc_Tile Aa ca p0] [rowO 48 enc_Tile t.2.1 t.2.2 t.1] ∧ x118 = t.1) (fun Kx118 => ?_) ?_
 ·
  refine WC.block ?_
  refine WC.loop (T := ((List Tile) × Int) × e16 × Nat) (fun t => [e7, e13, e11, (6, (sv t.2.1 t.1.1 t.2.2)), (7, (iv t.1.2))]) (fun n t w1 => St NoS w w1 [rowR enc_Tile Aa ca p0] [rowO 3 encInt A102 c103 t97, rowO 3 encInt A109 c110 t104, rowO 48 enc_Tile t.2.1 t.2.2 t.1.1] ∧ ref10_named.l1 n t.1.1 t.1.2 p0 t97 t104 = some x118) k ((([] : List Tile), 0), none, 0) [0, 3, 4, 6, 7] rfl ⟨(hS111.subR [0]).sub [2, 1, 0] (by decide), hx119⟩ ?_
  rintro k120 ⟨⟨l114, x115⟩, A112, c113⟩ w121 ⟨hS122, hl123⟩
  let e3 := w64 (2 * x115)
  let e5 : List (Nat × Addr × Value) := [(5, ((adr A102).add (e3.toNat * 1)), (iv (rdD t97 e3 0))), (11, ((adr A102).add ((w64 (e3 + 1)).toNat * 1)), (iv (rdD t97 (w64 (e3 + 1)) 0))), (16, ((adr A109).add (e3.toNat * 1)), (iv (rdD t104 e3 0))), (22, ((adr A109).add ((w64 (e3 + 1)).toNat * 1)), (iv (rdD t104 (w64 (e3 + 1)) 0)))]
  let e6 := [(Tile.mk (rdD t97 e3 0) (rdD t104 e3 0) (rdD t97 (w64 (e3 + 1)) 0) (rdD t104 (w64 (e3 + 1)) 0))]
  let e8 : Array Value := #[(iv (rdD t97 e3 0)), (iv (rdD t104 e3 0)), (iv (rdD t97 (w64 (e3 + 1)) 0)), (iv (rdD t104 (w64 (e3 + 1)) 0))]
  cases k120 with
  | zero => rw [ref10_named.l1] at hl123; cases hl123
  | succ k120 =>
   rw [ref10_named.l1] at hl123
   refine WC.seq (WC.seq (WC.region ?_))
   refine sg 4 [] [0, 3, 4, 6, 7, 47] [e7, e13, e11, (6, (sv A112 l114 c113)), (7, (iv x115)), (47, (bv (decide (x115 < (p0.length : Int)))))] (by kernel_rfl) ?_
   refine WL.done rfl (WX.next ?_)
   rcases br_some hl123 with ⟨h124, hl123⟩ | ⟨h124, hl123⟩
   ·refine WC.condT2 (fun fb => by kernel_rfl) h124 ?_
    refine WC.skip (WX.next (WC.seq (WC.block ?_)))
    obtain ⟨h127, hl123⟩ := as_some hl123
    obtain ⟨h128, hl123⟩ := as_some hl123
    obtain ⟨h129, hl123⟩ := as_some hl123
    obtain ⟨h130, hl123⟩ := as_some hl123
    refine WC.regionD (e5, [0, 1, 2, 3, 4, 5, 6, 7, 8, 9, 10, 11, 12, 13, 14, 15, 16, 17, 18, 19, 20, 21, 22, 23, 26], [[], [], [], [2], [1, 2, 3], [1, 2, 3, 4], [], [], [7], [7, 8], [6, 7, 8, 9], [6, 7, 8, 9, 10], [], [], [13], [12, 13, 14], [12, 13, 14, 15], [], [], [18], [18, 19], [17, 18, 19, 20], [17, 18, 19, 20, 21], [1, 2, 3, 4, 5, 6, 7, 8, 9, 10, 11, 12, 13, 14, 15, 16, 17, 18, 19, 20, 21, 22], [1, 2, 3, 4, 5, 6, 7, 8, 9, 10, 11, 12, 13, 14, 15, 16, 17, 18, 19, 20, 21, 22, 23], [0, 1, 2, 3, 4, 5, 6, 7, 8, 9, 10, 11, 12, 13, 14, 15, 16, 17, 18, 19, 20, 21, 22, 23, 24], [0, 1, 2, 3, 4, 5, 6, 7, 8, 9, 10, 11, 12, 13, 14, 15, 16, 17, 18, 19, 20, 21, 22, 23, 24, 25]]) [[0, 1, 2, 3, 4, 5, 6, 7, 8, 9, 10, 11, 12, 13, 14, 15, 16, 17, 18, 19, 20, 21, 22, 23, 24, 25, 26]] (by kernel_rfl) (by kernel_rfl) (NoPanic.block (NoPanic.seq (NoPanic.seq (NoPanic.block (NoPanic.seq (NoPanic.body)))))) ?_
    have hS126 := hS122.drew
    revert hS126
    generalize World.drew w121 = w125
    intro hS126
    refine ⟨⟨rowR.cell (rowO.rd (hS126.own 0).1) 0 h127.1 h127.2 0 rfl, rowR.cell (rowO.rd (hS126.own 0).1) 0 h128.1 h128.2 0 rfl, rowR.cell (rowO.rd (hS126.own 1).1) 0 h129.1 h129.2 0 rfl, rowR.cell (rowO.rd (hS126.own 1).1) 0 h130.1 h130.2 0 rfl, trivial⟩, forallC ?_ (forallN)⟩
    refine segF 24 [.v (iv (rdD t97 e3 0)), .v (iv (rdD t97 (w64 (e3 + 1)) 0)), .v (iv (rdD t104 e3 0)), .v (iv (rdD t104 (w64 (e3 + 1)) 0))] [0, 3, 4, 7, 50, 73] [e7, e13, e11, (7, (iv x115)), (50, (sv A112 l114 c113)), (73, (.agg e8))] [.idx A102 e3 t97.length, .idx A102 (w64 (e3 + 1)) t97.length, .idx A109 e3 t104.length, .idx A109 (w64 (e3 + 1)) t104.length] [0, 1, 2, 3] e5 (fun fb => by kernel_rfl) rfl ⟨rowR.adr (rowO.rd (hS126.own 0).1) h127.1 h127.2, rowR.adr (rowO.rd (hS126.own 0).1) h128.1 h128.2, rowR.adr (rowO.rd (hS126.own 1).1) h129.1 h129.2, rowR.adr (rowO.rd (hS126.own 1).1) h130.1 h130.2, trivial⟩ rfl ?_
    refine WL.new hS126 74 [] (fun g => (.slice (some ⟨g, 0, none⟩) 1 1)) (.cells e8 48 (0, 0)) [] (fun fb g => by kernel_rfl) trivial (fun g131 w132 hS133 => ?_)
    refine ⟨trivial, ?_⟩
    have hS134 := hS108.go w132 [rowO 48 enc_Tile (some ⟨g131, 0, none⟩) 1 e6, rowO 3 encInt A102 c103 t97, rowO 3 encInt A109 c110 t104, rowO 48 enc_Tile A112 c113 l114] (hS133.map1 0 _ (fun h => rowO.ofBlk h rfl (Nat.le_of_ble_eq_true (by kernel_rfl))) (fun _ h => by obtain ⟨_, h1, h2⟩ := h; injection h1 with h1; subst h1; exact h2) [1, 2, 3] (by decide) (by decide))
    obtain ⟨h135, hl123⟩ := as_some hl123
    refine WL.append hS134 3 (d := 75) (tS := 28) (z := (.agg #[(iv 0), (iv 0), (iv 0), (iv 0)])) (bytes := 32) (c2 := 1) rfl (fun fb => by kernel_rfl) (rowO.rd (hS134.own 0).1) (by kernel_rfl) (by kernel_rfl) rfl (by decide) h135 (by decide) [0, 1, 2] (by decide) (by decide) (fun A136 c137 w138 hS139 => ?_)
    refine ⟨trivial, ?_⟩
    refine sg 27 [] [0, 3, 4, 6, 7] [e7, e13, e11, (6, (sv A136 (l114 ++ e6) c137)), (7, (iv x115))] (by kernel_rfl) ?_
    refine WL.done rfl ?_
    refine WX.blockN (WX.next ?_)
    refine WC.region ?_
    refine sg 3 [] [0, 3, 4, 6, 7] [e7, e13, e11, (6, (sv A136 (l114 ++ e6) c137)), (7, (iv (w64 (x115 + 1))))] (by kernel_rfl) ?_
    refine WL.done rfl ?_
    exact WX.again k120 (Nat.lt_succ_self _) ((l114 ++ e6, w64 (x115 + 1)), A136, c137) [0, 3, 4, 6, 7] rfl ⟨(hS139.subR [0]).sub [2, 3, 0] (by decide), hl123⟩
   refine WC.condF2 (fun fb => by kernel_rfl) h124 ?_
   refine WC.exit ?_
   injection hl123 with hl123
   exact WX.thenX (WX.thenX (WX.blockHere (WX.to Kx118 (l114, A112, c113) [6] rfl ⟨(hS122.subR [0]).sub [2] (by decide), hl123.symm⟩)))
 rintro ⟨y143, A116, c117⟩ w140 ⟨hS141, hq142⟩
 subst hq142
 refine WX.next (WC.seq (WC.region ?_))
 refine sg 2 [] [2] [(2, (sv A116 x118 c117))] (by kernel_rfl) ?_
 refine WL.done rfl (WX.next ?_)
 refine WC.ret ?_
 injection hf with hf
 subst hf
 exact WX.ret_ [] (sv A116 x118 c117) [] (fun fb => by kernel_rfl) trivial ⟨_, rfl, A116, c117, rfl, (hS141.sub [0] (by decide)).noR⟩
theorem ref10_meet_calls (p0 : A6_Int) (p1 : Int) (p2 : Int) (ga : Nat) (gb : Nat) (r : Int × A6_Int × Int) (w : World) (hI : IoOK w [blk ga (.cells #[(iv p0.e0), (iv p0.e1), (iv p0.e2), (iv p0.e3), (iv p0.e4), (iv p0.e5)] 70 (0, 0)), blk gb (.cells #[(iv p1)] 3 (0, 0))]) (hf : ref10_meet p0 p1 p2 = some r) :
  CallsR Try.prog 41 #[(pt ga), (pt gb), (iv p2)] w (fun v w' => v = (iv r.1) ∧ St (fpL [blk ga (.cells #[(iv p0.e0), (iv p0.e1), (iv p0.e2), (iv p0.e3), (iv p0.e4), (iv p0.e5)] 70 (0, 0)), blk gb (.cells #[(iv p1)] 3 (0, 0))]) w w' [] [blk ga (.cells #[(iv r.2.1.e0), (iv r.2.1.e1), (iv r.2.1.e2), (iv r.2.1.e3), (iv r.2.1.e4), (iv r.2.1.e5)] 70 (0, 0)), blk gb (.cells #[(iv r.2.2)] 3 (0, 0))]) := by
 have hS : St (fpL [blk ga (.cells #[(iv p0.e0), (iv p0.e1), (iv p0.e2), (iv p0.e3), (iv p0.e4), (iv p0.e5)] 70 (0, 0)), blk gb (.cells #[(iv p1)] 3 (0, 0))]) w w [] [blk ga (.cells #[(iv p0.e0), (iv p0.e1), (iv p0.e2), (iv p0.e3), (iv p0.e4), (iv p0.e5)] 70 (0, 0)), blk gb (.cells #[(iv p1)] 3 (0, 0))] := St.initIO (ro_nil _ _) hI
 refine enter 32 Try.func41 rfl Try.ntmps41 rfl ?_
 unfold ref10_meet at hf
 refine WC.seq (WC.region ?_)
 refine sg 1 [] [0, 1, 2] [(0, (pt ga)), (1, (pt gb)), (2, (iv p2))] (by kernel_rfl) ?_
 refine WL.done rfl (WX.next (WC.seq (WC.seq (WC.region ?_))))
 refine sg 3 [] [0, 1, 2, 8, 9] [(0, (pt ga)), (1, (pt gb)), (2, (iv p2)), (8, (iv p2)), (9, (pt ga))] (by kernel_rfl) ?_
 obtain ⟨h7, hf⟩ := as_some hf
 refine seg 6 [.v (iv (A6_Int.get p0 p2))] [0, 1, 2, 12] [(0, (pt ga)), (1, (pt gb)), (2, (iv p2)), (12, (bv ((A6_Int.get p0 p2) == 0)))] [.idx (some ⟨0, 0, none⟩) p2 6, .cell (flatA ⟨ga, 0, none⟩ (p2.toNat * 1)) (iv (A6_Int.get p0 p2))] (fun fb => by kernel_rfl) rfl ⟨⟨h7.1, h7.2, rfl⟩, hS.cell 0 rfl _ (cases6 (Q := fun z_ => (#[(iv p0.e0), (iv p0.e1), (iv p0.e2), (iv p0.e3), (iv p0.e4), (iv p0.e5)] : Array Value)[0 + z_.toNat * 1]? = some (iv (A6_Int.get p0 z_))) h7 (by kernel_rfl) (by kernel_rfl) (by kernel_rfl) (by kernel_rfl) (by kernel_rfl) (by kernel_rfl)), trivial⟩ ?_
 refine WL.done rfl (WX.next ?_)
 obtain ⟨x8, hx9, hf⟩ := bind_some hf
 let e6 := w64 (p1 + 1)
 let e7 : Array Value := #[(iv p0.e0), (iv p0.e1), (iv p0.e2), (iv p0.e3), (iv p0.e4), (iv p0.e5)]
 let e8 := A6_Int.set p0 p2 e6
 refine WC.cutN (T := A6_Int × Int) (fun t => [(0, (pt ga)), (1, (pt gb)), (2, (iv p2))]) (fun t w1 => St (fpL [blk ga (.cells e7 70 (0, 0)), blk gb (.cells #[(iv p1)] 3 (0, 0))]) w w1 [] [blk ga (.cells #[(iv t.1.e0), (iv t.1.e1), (iv t.1.e2), (iv t.1.e3), (iv t.1.e4), (iv t.1.e5)] 70 (0, 0)), blk gb (.cells #[(iv t.2)] 3 (0, 0))] ∧ x8 = t) (fun Kx8 => ?_) ?_
 ·
  rcases br_some hx9 with ⟨h11, hx9⟩ | ⟨h11, hx9⟩
  ·refine WC.condT2 (fun fb => by kernel_rfl) h11 ?_
   refine WC.seq (WC.region ?_)
   refine seg 6 [.v (iv p1)] [0, 1, 2, 17, 18] [(0, (pt ga)), (1, (pt gb)), (2, (iv p2)), (17, (iv e6)), (18, (pt gb))] [.cell ⟨gb, 0, none⟩ (iv p1)] (fun fb => by kernel_rfl) rfl ⟨hS.cell 1 rfl 0 rfl, trivial⟩ ?_
   refine WL.store hS 1 rfl [(0, (iv e6))] #[(iv e6)] (fun fb => by kernel_rfl) (by kernel_rfl) rfl [0] (by decide) (by decide) (fun w12 hS13 => ?_)
   refine ⟨trivial, ?_⟩
   refine WL.done rfl (WX.next ?_)
   refine WC.regionD ([(4, ⟨gb, 0, none⟩, (iv e6))], [0, 1, 2, 3, 4, 5, 6], [[], [], [], [2], [2, 3], [0], [0, 1, 2, 3, 4, 5], [0, 1, 2, 3, 4, 5, 6]]) [[0, 1, 2, 3, 4, 5, 6, 7]] (by kernel_rfl) (by kernel_rfl) (NoPanic.seq (NoPanic.body)) ?_
   have hS15 := hS13.drew
   revert hS15
   generalize World.drew w12 = w14
   intro hS15
   refine ⟨⟨hS15.cell 0 rfl 0 rfl, trivial⟩, forallC ?_ (forallN)⟩
   refine segF 7 [.v (iv e6)] [0, 1, 2, 23, 25] [(0, (pt ga)), (1, (pt gb)), (2, (iv p2)), (23, (iv e6)), (25, (.pointer (some (flatA ⟨ga, 0, none⟩ (p2.toNat * 1)))))] [.idx (some ⟨0, 0, none⟩) p2 6] [0] [(4, ⟨gb, 0, none⟩, (iv e6))] (fun fb => by kernel_rfl) rfl ⟨⟨h7.1, h7.2, rfl⟩, trivial⟩ rfl ?_
   have h18 := (cases6 (Q := fun z_ => (([(0 + z_.toNat * 1, (iv e6))] : List (Nat × Value)).all fun p_ => Nat.blt p_.1 (e7 : Array Value).size) = true) h7 (by kernel_rfl) (by kernel_rfl) (by kernel_rfl) (by kernel_rfl) (by kernel_rfl) (by kernel_rfl))
   have h19 := (cases6 (Q := fun z_ => wrc (e7 : Array Value) [(0 + z_.toNat * 1, (iv e6))] = (#[(iv ((A6_Int.set p0 z_ e6).e0)), (iv ((A6_Int.set p0 z_ e6).e1)), (iv ((A6_Int.set p0 z_ e6).e2)), (iv ((A6_Int.set p0 z_ e6).e3)), (iv ((A6_Int.set p0 z_ e6).e4)), (iv ((A6_Int.set p0 z_ e6).e5))] : Array Value)) h7 (by kernel_rfl) (by kernel_rfl) (by kernel_rfl) (by kernel_rfl) (by kernel_rfl) (by kernel_rfl))
   refine WL.store hS15 1 rfl [(0 + p2.toNat * 1, (iv e6))] #[(iv (e8.e0)), (iv (e8.e1)), (iv (e8.e2)), (iv (e8.e3)), (iv (e8.e4)), (iv (e8.e5))] (fun fb => by kernel_rfl) h18 h19 [0] (by decide) (by decide) (fun w16 hS17 => ?_)
   refine ⟨trivial, ?_⟩
   refine WL.done rfl ?_
   injection hx9 with hx9
   exact WX.to Kx8 (e8, w64 (p1 + 1)) [0, 1, 2] rfl ⟨(hS17.subR []).sub [0, 1] (by decide), hx9.symm⟩
  refine WC.condF2 (fun fb => by kernel_rfl) h11 ?_
  refine WC.skip ?_
  injection hx9 with hx9
  exact WX.to Kx8 (p0, p1) [0, 1, 2] rfl ⟨(hS.subR []).sub [0, 1] (by decide), hx9.symm⟩
 rintro y23 w20 ⟨hS21, hq22⟩
 subst hq22
 refine WX.next (WC.seq (WC.region ?_))
 refine seg 7 [.v (iv (A6_Int.get x8.1 p2))] [0, 1, 6] [(0, (pt ga)), (1, (pt gb)), (6, (iv (w64 ((A6_Int.get x8.1 p2) - 1))))] [.idx (some ⟨0, 0, none⟩) p2 6, .cell (flatA ⟨ga, 0, none⟩ (p2.toNat * 1)) (iv (A6_Int.get x8.1 p2))] (fun fb => by kernel_rfl) rfl ⟨⟨h7.1, h7.2, rfl⟩, hS21.cell 0 rfl _ (cases6 (Q := fun z_ => (#[(iv x8.1.e0), (iv x8.1.e1), (iv x8.1.e2), (iv x8.1.e3), (iv x8.1.e4), (iv x8.1.e5)] : Array Value)[0 + z_.toNat * 1]? = some (iv (A6_Int.get x8.1 z_))) h7 (by kernel_rfl) (by kernel_rfl) (by kernel_rfl) (by kernel_rfl) (by kernel_rfl) (by kernel_rfl)), trivial⟩ ?_
 refine WL.done rfl (WX.next ?_)
 refine WC.ret ?_
 injection hf with hf
 subst hf
 exact WX.ret_ [] (iv (w64 ((A6_Int.get x8.1 p2) - 1))) [] (fun fb => by kernel_rfl) trivial ⟨_, rfl, rfl, (hS21.sub [0, 1] (by decide)).noR⟩
theorem ref10_fewer_calls (k : Nat) (p0 : List Tile) (p1 : List Int) (Aa : Option Addr) (ca : Nat) (Ab : Option Addr) (cb : Nat) (r : Bool) (w : World) (hR0 : RO NoS w (rowR enc_Tile Aa ca p0)) (hR1 : RO NoS w (rowR encInt Ab cb p1)) (hf : ref10_fewer k p0 p1 = some r) :
  CallsR Try.prog 27 #[(sv Aa p0 ca), (sv Ab p1 cb)] w (fun v w' => v = (bv r) ∧ Keeps NoS w w') := by
 have hS : St NoS w w [rowR enc_Tile Aa ca p0, rowR encInt Ab cb p1] [] := St.init (ro_cons hR0 (ro_cons hR1 (ro_nil _ _)))
 refine enter 82 Try.func27 rfl Try.ntmps27 rfl ?_
 unfold ref10_fewer at hf
 refine WC.seq (WC.region ?_)
 refine sg 1 [] [0, 1] [(0, (sv Aa p0 ca)), (1, (sv Ab p1 cb))] (by kernel_rfl) ?_
 refine WL.done rfl (WX.next (WC.seq (WC.region ?_)))
 refine WL.new hS 5 [] (fun g => (pt g)) (.cells #[(iv 0), (iv 0), (iv 0), (iv 0), (iv 0), (iv 0)] 70 (0, 0)) [] (fun fb g => by kernel_rfl) trivial (fun g7 w8 hS9 => ?_)
 refine ⟨trivial, ?_⟩
 refine WL.new hS9 6 [] (fun g => (pt g)) (.cells #[(iv 0), (iv 0), (iv 0), (iv 0), (iv 0), (iv 0)] 70 (0, 0)) [] (fun fb g => by kernel_rfl) trivial (fun g11 w12 hS13 => ?_)
 refine ⟨trivial, ?_⟩
 refine WL.done rfl (WX.next (WC.seq (WC.region ?_)))
 refine WL.new hS13 7 [] (fun g => (pt g)) (.cells #[(iv 0)] 3 (0, 0)) [] (fun fb g => by kernel_rfl) trivial (fun g14 w15 hS16 => ?_)
 refine ⟨trivial, ?_⟩
 refine WL.new hS16 8 [] (fun g => (pt g)) (.cells #[(iv 0)] 3 (0, 0)) [] (fun fb g => by kernel_rfl) trivial (fun g17 w18 hS19 => ?_)
 refine ⟨trivial, ?_⟩
 refine WL.store hS19 1 rfl [(0, (iv 0))] #[(iv 0)] (fun fb => by kernel_rfl) (by kernel_rfl) rfl [0, 2, 3] (by decide) (by decide) (fun w20 hS21 => ?_)
 refine ⟨trivial, ?_⟩
 refine WL.store hS21 1 rfl [(0, (iv 0))] #[(iv 0)] (fun fb => by kernel_rfl) (by kernel_rfl) rfl [0, 2, 3] (by decide) (by decide) (fun w22 hS23 => ?_)
 refine ⟨trivial, ?_⟩
 refine sg 5 [] [0, 1, 5, 6, 7, 8, 9] [(0, (sv Aa p0 ca)), (1, (sv Ab p1 cb)), (5, (pt g7)), (6, (pt g11)), (7, (pt g14)), (8, (pt g17)), (9, (iv 0))] (by kernel_rfl) ?_
 refine WL.done rfl (WX.next (WC.seq (WC.seq (WC.region ?_))))
 refine sg 1 [] [0, 1, 5, 6, 7, 8, 9, 10] [(0, (sv Aa p0 ca)), (1, (sv Ab p1 cb)), (5, (pt g7)), (6, (pt g11)), (7, (pt g14)), (8, (pt g17)), (9, (iv 0)), (10, (iv 0))] (by kernel_rfl) ?_
 refine WL.done rfl (WX.next ?_)
 obtain ⟨x31, hx32, hf⟩ := bind_some hf
 let e14 : Array Value := #[(iv 0), (iv 0), (iv 0), (iv 0)]
 let e17 : Nat × Value := (0, (sv Aa p0 ca))
 let e18 : Nat × Value := (1, (sv Ab p1 cb))
 let e20 : List Own := [rowR enc_Tile Aa ca p0, rowR encInt Ab cb p1]
 let e21 : Nat × Value := (6, (pt g11))
 let e22 : Nat × Value := (7, (pt g14))
 let e23 : Nat × Value := (8, (pt g17))
 let e25 : Nat × Value := (5, (pt g7))
 let e26 : List Nat := [0, 1, 5, 6, 7, 8, 9, 10, 12, 43, 46, 49, 52]
 let e33 : List Nat := [0, 1, 5, 6, 7, 8, 9, 10, 12, 13]
 let e36 : List Nat := [0, 1, 5, 6, 7, 8, 9, 10]
 let e37 : List Nat := [0, 1, 5, 6, 7, 8, 9, 10, 12, 13, 54]
 let e38 : List Nat := [0, 1, 5, 6, 7, 8, 9, 10, 13, 14, 15]
 let e43 : List Nat := [0, 1, 2, 3]
 let e47 : List Nat := [0, 1, 5, 6, 7, 8, 9, 10, 11, 12]
 let e48 : List Nat := [3, 1, 4, 2, 6, 0]
 let e49 : List Nat := [0, 1, 2, 5, 6]
 refine WC.cutN (T := Unit) (fun t => []) (fun t w1 => St NoS w w1 e20 [] ∧ x31 = .inr t) (fun Kx31 => ?_) ?_
 ·
  refine WC.block ?_
  refine WC.loop (T := A6_Int × A6_Int × Int × Int × Int × Int) (fun t => [e17, e18, e25, e21, e22, e23, (9, (iv t.2.2.2.2.1)), (10, (iv t.2.2.2.2.2))]) (fun n t w1 => St NoS w w1 e20 [blk g7 (.cells #[(iv t.1.e0), (iv t.1.e1), (iv t.1.e2), (iv t.1.e3), (iv t.1.e4), (iv t.1.e5)] 70 (0, 0)), blk g11 (.cells #[(iv t.2.1.e0), (iv t.2.1.e1), (iv t.2.1.e2), (iv t.2.1.e3), (iv t.2.1.e4), (iv t.2.1.e5)] 70 (0, 0)), blk g14 (.cells #[(iv t.2.2.1)] 3 (0, 0)), blk g17 (.cells #[(iv t.2.2.2.1)] 3 (0, 0))] ∧ ref10_fewer.l0 n t.1 t.2.1 t.2.2.1 t.2.2.2.1 t.2.2.2.2.1 t.2.2.2.2.2 p0 p1 = some x31) k ((A6_Int.mk 0 0 0 0 0 0), (A6_Int.mk 0 0 0 0 0 0), 0, 0, 0, 0) e36 rfl ⟨(hS23.subR [0, 1]).sub [3, 2, 1, 0] (by decide), hx32⟩ ?_
  rintro k33 ⟨a24, a25, x26, x28, x29, x30⟩ w34 ⟨hS35, hl36⟩
  let e34 := (adr Aa).add (((rdD p1 x30 0)).toNat * 4)
  let e40 := (adr Aa).add ((x29).toNat * 4)
  let e42 := rdD p0 (rdD p1 x30 0) z_Tile
  let e7 : List (Nat × Addr × Value) := [(4, ((adr Ab).add ((x30).toNat * 1)), (iv (rdD p1 x30 0))), (6, e34, (iv (e42.N))), (6, (e34.add 1), (iv (e42.E))), (6, (e34.add 2), (iv (e42.S))), (6, (e34.add 3), (iv (e42.W))), (10, e40, (iv ((rdD p0 x29 z_Tile).N))), (10, (e40.add 1), (iv ((rdD p0 x29 z_Tile).E))), (10, (e40.add 2), (iv ((rdD p0 x29 z_Tile).S))), (10, (e40.add 3), (iv ((rdD p0 x29 z_Tile).W)))]
  let e9 := rdD p0 (rdD p1 x30 0) z_Tile
  let e13 := rdD p0 x29 z_Tile
  let e16 : Array Value := #[(iv a25.e0), (iv a25.e1), (iv a25.e2), (iv a25.e3), (iv a25.e4), (iv a25.e5)]
  let e19 : Nat × Value := (9, (iv (w64 (x29 + 1))))
  let e24 : Nat × Value := (10, (iv x30))
  let e27 : Array Value := #[(iv (e13.N)), (iv (e13.E)), (iv (e13.S)), (iv (e13.W))]
  let e29 : Array Value := #[(iv (e9.N)), (iv (e9.E)), (iv (e9.S)), (iv (e9.W))]
  let e44 : List (Nat × Value) := [(0, (iv (e13.N))), (1, (iv (e13.E))), (2, (iv (e13.S))), (3, (iv (e13.W)))]
  let e45 : List (Nat × Value) := [(0, (iv (e9.N))), (1, (iv (e9.E))), (2, (iv (e9.S))), (3, (iv (e9.W)))]
  let e46 := rdD p1 x30 0
  cases k33 with
  | zero => rw [ref10_fewer.l0] at hl36; cases hl36
  | succ k33 =>
   rw [ref10_fewer.l0] at hl36
   refine WC.seq (WC.seq (WC.region ?_))
   refine sg 4 [] [0, 1, 5, 6, 7, 8, 9, 10, 19] [e17, e18, e25, e21, e22, e23, (9, (iv x29)), e24, (19, (bv (decide (x30 < (p1.length : Int)))))] (by kernel_rfl) ?_
   refine WL.done rfl (WX.next ?_)
   rcases br_some hl36 with ⟨h37, hl36⟩ | ⟨h37, hl36⟩
   ·refine WC.condT2 (fun fb => by kernel_rfl) h37 ?_
    refine WC.skip (WX.next (WC.seq ?_))
    obtain ⟨x38, hx39, hl36⟩ := bind_some hl36
    refine WC.cutN (T := A6_Int × A6_Int × Int × Int × Int) (fun t => [e17, e18, e25, e21, e22, e23, (9, (iv t.2.2.2.2)), e24]) (fun t w1 => St NoS w w1 e20 [blk g7 (.cells #[(iv t.1.e0), (iv t.1.e1), (iv t.1.e2), (iv t.1.e3), (iv t.1.e4), (iv t.1.e5)] 70 (0, 0)), blk g11 (.cells #[(iv t.2.1.e0), (iv t.2.1.e1), (iv t.2.1.e2), (iv t.2.1.e3), (iv t.2.1.e4), (iv t.2.1.e5)] 70 (0, 0)), blk g14 (.cells #[(iv t.2.2.1)] 3 (0, 0)), blk g17 (.cells #[(iv t.2.2.2.1)] 3 (0, 0))] ∧ x38 = .inr t) (fun Kx38 => ?_) ?_
    ·
     refine WC.block (WC.seq (WC.seq (WC.region ?_)))
     refine sg 2 [] [0, 1, 5, 6, 7, 8, 9, 10, 22, 23] [e17, e18, e25, e21, e22, e23, (9, (iv x29)), e24, (22, (sv Ab p1 cb)), (23, (iv x30))] (by kernel_rfl) ?_
     obtain ⟨h40, hx39⟩ := as_some hx39
     refine seg 7 [.v (iv e46)] [0, 1, 5, 6, 7, 8, 9, 10, 28] [e17, e18, e25, e21, e22, e23, (9, (iv x29)), e24, (28, (bv (decide (e46 ≥ (p0.length : Int)))))] [.idx Ab x30 p1.length, .cell ((adr Ab).add ((x30).toNat * 1)) (iv e46)] (fun fb => by kernel_rfl) rfl ⟨rowR.adr (hS35.rd 1).1 h40.1 h40.2, rowR.cell (hS35.rd 1).1 0 h40.1 h40.2 0 rfl, trivial⟩ ?_
     refine WL.done rfl (WX.next ?_)
     rcases br_some hx39 with ⟨h41, hx39⟩ | ⟨h41, hx39⟩
     ·refine WC.condT2 (fun fb => by kernel_rfl) h41 ?_
      refine WC.exit ?_
      injection hx39 with hx39
      exact WX.thenX (WX.blockHere (WX.to Kx38 (a24, a25, x26, x28, x29) e36 rfl ⟨(hS35.subR [0, 1]).sub e43 (by decide), hx39.symm⟩))
     refine WC.condF2 (fun fb => by kernel_rfl) h41 ?_
     refine WC.skip (WX.next (WC.seq ?_))
     obtain ⟨x44, hx45, hx39⟩ := bind_some hx39
     refine WC.cutN (T := (Int × Int × Int × Int × Int × Int × Int × Int) × Nat × Nat) (fun t => [e17, e18, e25, e21, e22, e23, (9, (iv x29)), e24, (11, (.pointer (some ⟨t.2.1, 0, none⟩))), (12, (.pointer (some ⟨t.2.2, 0, none⟩)))]) (fun t w1 => St NoS w w1 e20 [blk g7 (.cells #[(iv a24.e0), (iv a24.e1), (iv a24.e2), (iv a24.e3), (iv a24.e4), (iv a24.e5)] 70 (0, 0)), blk g11 (.cells e16 70 (0, 0)), blk g14 (.cells #[(iv x26)] 3 (0, 0)), blk g17 (.cells #[(iv x28)] 3 (0, 0)), blk t.2.1 (.cells #[(iv t.1.1), (iv t.1.2.1), (iv t.1.2.2.1), (iv t.1.2.2.2.1)] 48 (0, 0)), blk t.2.2 (.cells #[(iv t.1.2.2.2.2.1), (iv t.1.2.2.2.2.2.1), (iv t.1.2.2.2.2.2.2.1), (iv t.1.2.2.2.2.2.2.2)] 48 (0, 0))] ∧ x44 = t.1) (fun Kx44 => ?_) ?_
     ·
      obtain ⟨h48, hx45⟩ := as_some hx45
      obtain ⟨h49, hx45⟩ := as_some hx45
      refine WC.regionD (e7, [0, 1, 2, 3, 4, 5, 6, 7, 8, 9, 10], [[], [], [], [1, 2], [1, 2, 3], [0, 1, 2, 3, 4], [0, 1, 2, 3, 4, 5], [], [], [7, 8], [7, 8, 9], [], [], [0, 1, 2, 3, 4, 5, 6, 11, 12], [0, 1, 2, 3, 4, 5, 6, 7, 8, 9, 10, 11, 12, 13]]) [[0, 1, 2, 3, 4, 5, 6, 7, 8, 9, 10, 11, 12, 13, 14], [0, 1, 2, 3, 4, 5, 6, 7, 8, 9, 10, 12, 11, 13, 14]] (by kernel_rfl) (by kernel_rfl) (NoPanic.seq (NoPanic.block (NoPanic.seq (NoPanic.seq (NoPanic.block (NoPanic.seq (NoPanic.body))))))) ?_
      have hS47 := hS35.drew
      revert hS47
      generalize World.drew w34 = w46
      intro hS47
      refine ⟨⟨rowR.cell (hS47.rd 1).1 0 h40.1 h40.2 0 rfl, rowR.cell (hS47.rd 0).1 z_Tile h48.1 h48.2 0 rfl, rowR.cell (hS47.rd 0).1 z_Tile h48.1 h48.2 1 rfl, rowR.cell (hS47.rd 0).1 z_Tile h48.1 h48.2 2 rfl, rowR.cell (hS47.rd 0).1 z_Tile h48.1 h48.2 3 rfl, rowR.cell (hS47.rd 0).1 z_Tile h49.1 h49.2 0 rfl, rowR.cell (hS47.rd 0).1 z_Tile h49.1 h49.2 1 rfl, rowR.cell (hS47.rd 0).1 z_Tile h49.1 h49.2 2 rfl, rowR.cell (hS47.rd 0).1 z_Tile h49.1 h49.2 3 rfl, trivial⟩, forallC ?_ (forallC ?_ (forallN))⟩
      ·
       refine segF 11 [.v (iv e46), .v (iv (e9.N)), .v (iv (e9.E)), .v (iv (e9.S)), .v (iv (e9.W)), .v (iv (e13.N)), .v (iv (e13.E)), .v (iv (e13.S)), .v (iv (e13.W))] [0, 1, 5, 6, 7, 8, 9, 10, 35, 39] [e17, e18, e25, e21, e22, e23, (9, (iv x29)), e24, (35, (.agg e29)), (39, (.agg e27))] [.idx Ab x30 p1.length, .idx Aa e46 p0.length, .idx Aa x29 p0.length] [0, 1, 2, 3, 4, 5, 6, 7, 8] e7 (fun fb => by kernel_rfl) rfl ⟨rowR.adr (hS47.rd 1).1 h40.1 h40.2, rowR.adr (hS47.rd 0).1 h48.1 h48.2, rowR.adr (hS47.rd 0).1 h49.1 h49.2, trivial⟩ rfl ?_
       refine WL.new hS47 11 [] (fun g => (pt g)) (.cells e14 48 (0, 0)) [] (fun fb g => by kernel_rfl) trivial (fun g50 w51 hS52 => ?_)
       refine ⟨⟨rowR.cell (hS52.rd 1).1 0 h40.1 h40.2 0 rfl, rowR.cell (hS52.rd 0).1 z_Tile h48.1 h48.2 0 rfl, rowR.cell (hS52.rd 0).1 z_Tile h48.1 h48.2 1 rfl, rowR.cell (hS52.rd 0).1 z_Tile h48.1 h48.2 2 rfl, rowR.cell (hS52.rd 0).1 z_Tile h48.1 h48.2 3 rfl, rowR.cell (hS52.rd 0).1 z_Tile h49.1 h49.2 0 rfl, rowR.cell (hS52.rd 0).1 z_Tile h49.1 h49.2 1 rfl, rowR.cell (hS52.rd 0).1 z_Tile h49.1 h49.2 2 rfl, rowR.cell (hS52.rd 0).1 z_Tile h49.1 h49.2 3 rfl, trivial⟩, ?_⟩
       refine WL.new hS52 12 [] (fun g => (pt g)) (.cells e14 48 (0, 0)) [] (fun fb g => by kernel_rfl) trivial (fun g53 w54 hS55 => ?_)
       refine ⟨⟨rowR.cell (hS55.rd 1).1 0 h40.1 h40.2 0 rfl, rowR.cell (hS55.rd 0).1 z_Tile h48.1 h48.2 0 rfl, rowR.cell (hS55.rd 0).1 z_Tile h48.1 h48.2 1 rfl, rowR.cell (hS55.rd 0).1 z_Tile h48.1 h48.2 2 rfl, rowR.cell (hS55.rd 0).1 z_Tile h48.1 h48.2 3 rfl, rowR.cell (hS55.rd 0).1 z_Tile h49.1 h49.2 0 rfl, rowR.cell (hS55.rd 0).1 z_Tile h49.1 h49.2 1 rfl, rowR.cell (hS55.rd 0).1 z_Tile h49.1 h49.2 2 rfl, rowR.cell (hS55.rd 0).1 z_Tile h49.1 h49.2 3 rfl, trivial⟩, ?_⟩
       refine WL.store hS55 1 rfl e45 e29 (fun fb => by kernel_rfl) (by kernel_rfl) rfl [0, 2, 3, 4, 5] (by decide) (by decide) (fun w56 hS57 => ?_)
       refine ⟨⟨rowR.cell (hS57.rd 0).1 z_Tile h49.1 h49.2 0 rfl, rowR.cell (hS57.rd 0).1 z_Tile h49.1 h49.2 1 rfl, rowR.cell (hS57.rd 0).1 z_Tile h49.1 h49.2 2 rfl, rowR.cell (hS57.rd 0).1 z_Tile h49.1 h49.2 3 rfl, trivial⟩, ?_⟩
       refine WL.store hS57 1 rfl e44 e27 (fun fb => by kernel_rfl) (by kernel_rfl) rfl [0, 2, 3, 4, 5] (by decide) (by decide) (fun w58 hS59 => ?_)
       refine ⟨trivial, ?_⟩
       refine WL.done rfl ?_
       injection hx45 with hx45
       exact WX.to Kx44 ((e9.N, e9.E, e9.S, e9.W, e13.N, e13.E, e13.S, e13.W), g50, g53) e47 rfl ⟨(hS59.subR [0, 1]).sub [2, 3, 4, 5, 1, 0] (by decide), hx45.symm⟩
      refine segF 11 [.v (iv e46), .v (iv (e9.N)), .v (iv (e9.E)), .v (iv (e9.S)), .v (iv (e9.W)), .v (iv (e13.N)), .v (iv (e13.E)), .v (iv (e13.S)), .v (iv (e13.W))] [0, 1, 5, 6, 7, 8, 9, 10, 35, 39] [e17, e18, e25, e21, e22, e23, (9, (iv x29)), e24, (35, (.agg e29)), (39, (.agg e27))] [.idx Ab x30 p1.length, .idx Aa e46 p0.length, .idx Aa x29 p0.length] [0, 1, 2, 3, 4, 5, 6, 7, 8] e7 (fun fb => by kernel_rfl) rfl ⟨rowR.adr (hS47.rd 1).1 h40.1 h40.2, rowR.adr (hS47.rd 0).1 h48.1 h48.2, rowR.adr (hS47.rd 0).1 h49.1 h49.2, trivial⟩ rfl ?_
      refine WL.new hS47 12 [] (fun g => (pt g)) (.cells e14 48 (0, 0)) [] (fun fb g => by kernel_rfl) trivial (fun g60 w61 hS62 => ?_)
      refine ⟨⟨rowR.cell (hS62.rd 1).1 0 h40.1 h40.2 0 rfl, rowR.cell (hS62.rd 0).1 z_Tile h48.1 h48.2 0 rfl, rowR.cell (hS62.rd 0).1 z_Tile h48.1 h48.2 1 rfl, rowR.cell (hS62.rd 0).1 z_Tile h48.1 h48.2 2 rfl, rowR.cell (hS62.rd 0).1 z_Tile h48.1 h48.2 3 rfl, rowR.cell (hS62.rd 0).1 z_Tile h49.1 h49.2 0 rfl, rowR.cell (hS62.rd 0).1 z_Tile h49.1 h49.2 1 rfl, rowR.cell (hS62.rd 0).1 z_Tile h49.1 h49.2 2 rfl, rowR.cell (hS62.rd 0).1 z_Tile h49.1 h49.2 3 rfl, trivial⟩, ?_⟩
      refine WL.new hS62 11 [] (fun g => (pt g)) (.cells e14 48 (0, 0)) [] (fun fb g => by kernel_rfl) trivial (fun g63 w65 hS66 => ?_)
      refine ⟨⟨rowR.cell (hS66.rd 1).1 0 h40.1 h40.2 0 rfl, rowR.cell (hS66.rd 0).1 z_Tile h48.1 h48.2 0 rfl, rowR.cell (hS66.rd 0).1 z_Tile h48.1 h48.2 1 rfl, rowR.cell (hS66.rd 0).1 z_Tile h48.1 h48.2 2 rfl, rowR.cell (hS66.rd 0).1 z_Tile h48.1 h48.2 3 rfl, rowR.cell (hS66.rd 0).1 z_Tile h49.1 h49.2 0 rfl, rowR.cell (hS66.rd 0).1 z_Tile h49.1 h49.2 1 rfl, rowR.cell (hS66.rd 0).1 z_Tile h49.1 h49.2 2 rfl, rowR.cell (hS66.rd 0).1 z_Tile h49.1 h49.2 3 rfl, trivial⟩, ?_⟩
      refine WL.store hS66 0 rfl e45 e29 (fun fb => by kernel_rfl) (by kernel_rfl) rfl [1, 2, 3, 4, 5] (by decide) (by decide) (fun w67 hS68 => ?_)
      refine ⟨⟨rowR.cell (hS68.rd 0).1 z_Tile h49.1 h49.2 0 rfl, rowR.cell (hS68.rd 0).1 z_Tile h49.1 h49.2 1 rfl, rowR.cell (hS68.rd 0).1 z_Tile h49.1 h49.2 2 rfl, rowR.cell (hS68.rd 0).1 z_Tile h49.1 h49.2 3 rfl, trivial⟩, ?_⟩
      refine WL.store hS68 1 rfl e44 e27 (fun fb => by kernel_rfl) (by kernel_rfl) rfl [0, 2, 3, 4, 5] (by decide) (by decide) (fun w69 hS70 => ?_)
      refine ⟨trivial, ?_⟩
      refine WL.done rfl ?_
      injection hx45 with hx45
      exact WX.to Kx44 ((e9.N, e9.E, e9.S, e9.W, e13.N, e13.E, e13.S, e13.W), g63, g60) e47 rfl ⟨(hS70.subR [0, 1]).sub [2, 3, 4, 5, 1, 0] (by decide), hx45.symm⟩
     rintro ⟨y74, g42, g43⟩ w71 ⟨hS72, hq73⟩
     subst hq73
     refine WX.next (WC.seq (WC.region ?_))
     refine sg 3 [] e47 [e17, e18, e25, e21, e22, e23, e19, e24, (11, (pt g42)), (12, (pt g43))] (by kernel_rfl) ?_
     refine WL.done rfl (WX.next (WC.seq ?_))
     obtain ⟨x76, hx77, hx39⟩ := bind_some hx39
     let e6 : Array Value := #[(iv x44.2.2.2.2.1), (iv x44.2.2.2.2.2.1), (iv x44.2.2.2.2.2.2.1), (iv x44.2.2.2.2.2.2.2)]
     let e8 : Array Value := #[(iv x44.1), (iv x44.2.1), (iv x44.2.2.1), (iv x44.2.2.2.1)]
     let e10 : List (Nat × Value) := [e17, e18, e25, e21, e22, e23, e19, e24, (12, (pt g43)), (43, (iv x44.1)), (46, (iv x44.2.1)), (49, (iv x44.2.2.1)), (52, (iv x44.2.2.2.1))]
     let e11 : List (Nat × Addr × Value) := [(1, ⟨g42, 0, none⟩, (iv x44.1)), (4, ⟨g42, 1, none⟩, (iv x44.2.1)), (7, ⟨g42, 2, none⟩, (iv x44.2.2.1)), (10, ⟨g42, 3, none⟩, (iv x44.2.2.2.1))]
     let e30 : Array Value := #[(pt g11), (pt g17), (iv x44.2.2.2.1)]
     let e31 : Array Value := #[(pt g7), (pt g14), (iv x44.2.2.1)]
     let e32 : Array Value := #[(pt g11), (pt g17), (iv x44.2.1)]
     let e35 : Array Value := #[(pt g7), (pt g14), (iv x44.1)]
     let e51 : Nat × Value := (12, (pt g43))
     refine WC.cutN (T := (A6_Int × A6_Int × Int × Int × A4_Int) × Nat) (fun t => [e17, e18, e25, e21, e22, e23, e19, e24, e51, (13, (.pointer (some ⟨t.2, 0, none⟩)))]) (fun t w1 => St NoS w w1 e20 [blk g7 (.cells #[(iv t.1.1.e0), (iv t.1.1.e1), (iv t.1.1.e2), (iv t.1.1.e3), (iv t.1.1.e4), (iv t.1.1.e5)] 70 (0, 0)), blk g11 (.cells #[(iv t.1.2.1.e0), (iv t.1.2.1.e1), (iv t.1.2.1.e2), (iv t.1.2.1.e3), (iv t.1.2.1.e4), (iv t.1.2.1.e5)] 70 (0, 0)), blk g14 (.cells #[(iv t.1.2.2.1)] 3 (0, 0)), blk g17 (.cells #[(iv t.1.2.2.2.1)] 3 (0, 0)), blk g43 (.cells e6 48 (0, 0)), blk t.2 (.cells #[(iv t.1.2.2.2.2.e0), (iv t.1.2.2.2.2.e1), (iv t.1.2.2.2.2.e2), (iv t.1.2.2.2.2.e3)] 52 (0, 0))] ∧ x76 = t.1) (fun Kx76 => ?_) ?_
     ·
      refine WC.regionD (e11, [0, 1, 3, 4, 6, 7, 9, 10, 12], [[], [0], [0, 1], [], [3], [0, 1, 2, 3, 4], [], [6], [0, 1, 2, 3, 4, 5, 6, 7], [], [9], [0, 1, 2, 3, 4, 5, 6, 7, 8, 9, 10], [0, 1, 2, 3, 4, 5, 6, 7, 8, 9, 10, 11], [], [0, 1, 2, 3, 4, 5, 6, 7, 8, 9, 10, 11, 12, 13]]) [[0, 1, 3, 4, 6, 7, 9, 10, 2, 5, 8, 11, 12, 13, 14], [0, 1, 3, 4, 6, 7, 9, 10, 2, 5, 8, 13, 11, 12, 14], [0, 1, 3, 4, 6, 7, 9, 10, 2, 5, 13, 8, 11, 12, 14], [0, 1, 3, 4, 6, 7, 9, 10, 2, 13, 5, 8, 11, 12, 14], [0, 1, 3, 4, 6, 7, 9, 10, 13, 2, 5, 8, 11, 12, 14]] (by kernel_rfl) (by kernel_rfl) (NoPanic.seq (NoPanic.block (NoPanic.seq (NoPanic.seq (NoPanic.block (NoPanic.seq (NoPanic.body))))))) ?_
      have hS79 := hS72.drew
      revert hS79
      generalize World.drew w71 = w78
      intro hS79
      refine ⟨⟨hS79.cell 4 rfl 0 rfl, hS79.cell 4 rfl 1 rfl, hS79.cell 4 rfl 2 rfl, hS79.cell 4 rfl 3 rfl, trivial⟩, forallC ?_ (forallC ?_ (forallC ?_ (forallC ?_ (forallC ?_ (forallN)))))⟩
      ·
       refine segF 8 [.v (iv x44.1), .v (iv x44.2.1), .v (iv x44.2.2.1), .v (iv x44.2.2.2.1)] e26 e10 [] e43 e11 (fun fb => by kernel_rfl) rfl trivial rfl ?_
       obtain ⟨t80, ht81, hx77⟩ := bind_some hx77
       refine WL.call (some 44) 41 e35 (fun fb => by kernel_rfl) (ref10_meet_calls a24 x26 x44.1 g7 g14 t80 _ (hS79.io [0, 2] (by decide)) ht81) (fun v w82 hR83 => ?_)
       obtain ⟨rfl, hk_⟩ := hR83
       have hS84 := hS.go w82 [blk g7 (.cells #[(iv t80.2.1.e0), (iv t80.2.1.e1), (iv t80.2.1.e2), (iv t80.2.1.e3), (iv t80.2.1.e4), (iv t80.2.1.e5)] 70 (0, 0)), blk g14 (.cells #[(iv t80.2.2)] 3 (0, 0)), blk g11 (.cells e16 70 (0, 0)), blk g17 (.cells #[(iv x28)] 3 (0, 0)), blk g42 (.cells e8 48 (0, 0)), blk g43 (.cells e6 48 (0, 0))] (hS79.call hk_ [0, 2] [1, 3, 4, 5] (fun g hg => fpL_sel g hg) (by decide) (by decide))
       refine ⟨⟨hS84.cell 4 rfl 1 rfl, hS84.cell 4 rfl 2 rfl, hS84.cell 4 rfl 3 rfl, trivial⟩, ?_⟩
       obtain ⟨t85, ht86, hx77⟩ := bind_some hx77
       refine WL.call (some 47) 41 e32 (fun fb => by kernel_rfl) (ref10_meet_calls a25 x28 x44.2.1 g11 g17 t85 _ (hS84.io [2, 3] (by decide)) ht86) (fun v w87 hR88 => ?_)
       obtain ⟨rfl, hk_⟩ := hR88
       have hS89 := hS84.go w87 [blk g11 (.cells #[(iv t85.2.1.e0), (iv t85.2.1.e1), (iv t85.2.1.e2), (iv t85.2.1.e3), (iv t85.2.1.e4), (iv t85.2.1.e5)] 70 (0, 0)), blk g17 (.cells #[(iv t85.2.2)] 3 (0, 0)), blk g7 (.cells #[(iv t80.2.1.e0), (iv t80.2.1.e1), (iv t80.2.1.e2), (iv t80.2.1.e3), (iv t80.2.1.e4), (iv t80.2.1.e5)] 70 (0, 0)), blk g14 (.cells #[(iv t80.2.2)] 3 (0, 0)), blk g42 (.cells e8 48 (0, 0)), blk g43 (.cells e6 48 (0, 0))] (hS84.call hk_ [2, 3] [0, 1, 4, 5] (fun g hg => fpL_sel g hg) (by decide) (by decide))
       refine ⟨⟨hS89.cell 4 rfl 2 rfl, hS89.cell 4 rfl 3 rfl, trivial⟩, ?_⟩
       obtain ⟨t90, ht91, hx77⟩ := bind_some hx77
       refine WL.call (some 50) 41 e31 (fun fb => by kernel_rfl) (ref10_meet_calls t80.2.1 t80.2.2 x44.2.2.1 g7 g14 t90 _ (hS89.io [2, 3] (by decide)) ht91) (fun v w92 hR93 => ?_)
       obtain ⟨rfl, hk_⟩ := hR93
       have hS94 := hS89.go w92 [blk g7 (.cells #[(iv t90.2.1.e0), (iv t90.2.1.e1), (iv t90.2.1.e2), (iv t90.2.1.e3), (iv t90.2.1.e4), (iv t90.2.1.e5)] 70 (0, 0)), blk g14 (.cells #[(iv t90.2.2)] 3 (0, 0)), blk g11 (.cells #[(iv t85.2.1.e0), (iv t85.2.1.e1), (iv t85.2.1.e2), (iv t85.2.1.e3), (iv t85.2.1.e4), (iv t85.2.1.e5)] 70 (0, 0)), blk g17 (.cells #[(iv t85.2.2)] 3 (0, 0)), blk g42 (.cells e8 48 (0, 0)), blk g43 (.cells e6 48 (0, 0))] (hS89.call hk_ [2, 3] [0, 1, 4, 5] (fun g hg => fpL_sel g hg) (by decide) (by decide))
       refine ⟨⟨hS94.cell 4 rfl 3 rfl, trivial⟩, ?_⟩
       obtain ⟨t95, ht96, hx77⟩ := bind_some hx77
       refine WL.call (some 53) 41 e30 (fun fb => by kernel_rfl) (ref10_meet_calls t85.2.1 t85.2.2 x44.2.2.2.1 g11 g17 t95 _ (hS94.io [2, 3] (by decide)) ht96) (fun v w97 hR98 => ?_)
       obtain ⟨rfl, hk_⟩ := hR98
       have hS99 := hS94.go w97 [blk g11 (.cells #[(iv t95.2.1.e0), (iv t95.2.1.e1), (iv t95.2.1.e2), (iv t95.2.1.e3), (iv t95.2.1.e4), (iv t95.2.1.e5)] 70 (0, 0)), blk g17 (.cells #[(iv t95.2.2)] 3 (0, 0)), blk g7 (.cells #[(iv t90.2.1.e0), (iv t90.2.1.e1), (iv t90.2.1.e2), (iv t90.2.1.e3), (iv t90.2.1.e4), (iv t90.2.1.e5)] 70 (0, 0)), blk g14 (.cells #[(iv t90.2.2)] 3 (0, 0)), blk g42 (.cells e8 48 (0, 0)), blk g43 (.cells e6 48 (0, 0))] (hS94.call hk_ [2, 3] [0, 1, 4, 5] (fun g hg => fpL_sel g hg) (by decide) (by decide))
       refine ⟨trivial, ?_⟩
       refine sg 13 [] [0, 1, 5, 6, 7, 8, 9, 10, 12, 54] [e17, e18, e25, e21, e22, e23, e19, e24, e51, (54, (.agg #[(iv t80.1), (iv t85.1), (iv t90.1), (iv t95.1)]))] (by kernel_rfl) ?_
       refine WL.new hS99 13 [] (fun g => (pt g)) (.cells e14 52 (0, 0)) [] (fun fb g => by kernel_rfl) trivial (fun g100 w101 hS102 => ?_)
       refine ⟨⟨hS102.cell 5 rfl 0 rfl, hS102.cell 5 rfl 1 rfl, hS102.cell 5 rfl 2 rfl, hS102.cell 5 rfl 3 rfl, trivial⟩, ?_⟩
       refine WL.store hS102 0 rfl [(0, (iv t80.1)), (1, (iv t85.1)), (2, (iv t90.1)), (3, (iv t95.1))] #[(iv t80.1), (iv t85.1), (iv t90.1), (iv t95.1)] (fun fb => by kernel_rfl) (by kernel_rfl) rfl [1, 2, 3, 4, 5, 6] (by decide) (by decide) (fun w103 hS104 => ?_)
       refine ⟨trivial, ?_⟩
       refine WL.done rfl ?_
       injection hx77 with hx77
       exact WX.to Kx76 ((t90.2.1, t95.2.1, t90.2.2, t95.2.2, (A4_Int.mk t80.1 t85.1 t90.1 t95.1)), g100) e33 rfl ⟨(hS104.subR [0, 1]).sub e48 (by decide), hx77.symm⟩
      ·
       refine segF 8 [.v (iv x44.1), .v (iv x44.2.1), .v (iv x44.2.2.1), .v (iv x44.2.2.2.1)] e26 e10 [] e43 e11 (fun fb => by kernel_rfl) rfl trivial rfl ?_
       obtain ⟨t105, ht106, hx77⟩ := bind_some hx77
       refine WL.call (some 44) 41 e35 (fun fb => by kernel_rfl) (ref10_meet_calls a24 x26 x44.1 g7 g14 t105 _ (hS79.io [0, 2] (by decide)) ht106) (fun v w107 hR108 => ?_)
       obtain ⟨rfl, hk_⟩ := hR108
       have hS109 := hS.go w107 [blk g7 (.cells #[(iv t105.2.1.e0), (iv t105.2.1.e1), (iv t105.2.1.e2), (iv t105.2.1.e3), (iv t105.2.1.e4), (iv t105.2.1.e5)] 70 (0, 0)), blk g14 (.cells #[(iv t105.2.2)] 3 (0, 0)), blk g11 (.cells e16 70 (0, 0)), blk g17 (.cells #[(iv x28)] 3 (0, 0)), blk g42 (.cells e8 48 (0, 0)), blk g43 (.cells e6 48 (0, 0))] (hS79.call hk_ [0, 2] [1, 3, 4, 5] (fun g hg => fpL_sel g hg) (by decide) (by decide))
       refine ⟨⟨hS109.cell 4 rfl 1 rfl, hS109.cell 4 rfl 2 rfl, hS109.cell 4 rfl 3 rfl, trivial⟩, ?_⟩
       obtain ⟨t110, ht111, hx77⟩ := bind_some hx77
       refine WL.call (some 47) 41 e32 (fun fb => by kernel_rfl) (ref10_meet_calls a25 x28 x44.2.1 g11 g17 t110 _ (hS109.io [2, 3] (by decide)) ht111) (fun v w112 hR113 => ?_)
       obtain ⟨rfl, hk_⟩ := hR113
       have hS114 := hS109.go w112 [blk g11 (.cells #[(iv t110.2.1.e0), (iv t110.2.1.e1), (iv t110.2.1.e2), (iv t110.2.1.e3), (iv t110.2.1.e4), (iv t110.2.1.e5)] 70 (0, 0)), blk g17 (.cells #[(iv t110.2.2)] 3 (0, 0)), blk g7 (.cells #[(iv t105.2.1.e0), (iv t105.2.1.e1), (iv t105.2.1.e2), (iv t105.2.1.e3), (iv t105.2.1.e4), (iv t105.2.1.e5)] 70 (0, 0)), blk g14 (.cells #[(iv t105.2.2)] 3 (0, 0)), blk g42 (.cells e8 48 (0, 0)), blk g43 (.cells e6 48 (0, 0))] (hS109.call hk_ [2, 3] [0, 1, 4, 5] (fun g hg => fpL_sel g hg) (by decide) (by decide))
       refine ⟨⟨hS114.cell 4 rfl 2 rfl, hS114.cell 4 rfl 3 rfl, trivial⟩, ?_⟩
       obtain ⟨t115, ht116, hx77⟩ := bind_some hx77
       refine WL.call (some 50) 41 e31 (fun fb => by kernel_rfl) (ref10_meet_calls t105.2.1 t105.2.2 x44.2.2.1 g7 g14 t115 _ (hS114.io [2, 3] (by decide)) ht116) (fun v w117 hR118 => ?_)
       obtain ⟨rfl, hk_⟩ := hR118
       have hS119 := hS114.go w117 [blk g7 (.cells #[(iv t115.2.1.e0), (iv t115.2.1.e1), (iv t115.2.1.e2), (iv t115.2.1.e3), (iv t115.2.1.e4), (iv t115.2.1.e5)] 70 (0, 0)), blk g14 (.cells #[(iv t115.2.2)] 3 (0, 0)), blk g11 (.cells #[(iv t110.2.1.e0), (iv t110.2.1.e1), (iv t110.2.1.e2), (iv t110.2.1.e3), (iv t110.2.1.e4), (iv t110.2.1.e5)] 70 (0, 0)), blk g17 (.cells #[(iv t110.2.2)] 3 (0, 0)), blk g42 (.cells e8 48 (0, 0)), blk g43 (.cells e6 48 (0, 0))] (hS114.call hk_ [2, 3] [0, 1, 4, 5] (fun g hg => fpL_sel g hg) (by decide) (by decide))
       refine ⟨⟨hS119.cell 4 rfl 3 rfl, trivial⟩, ?_⟩
       refine WL.new hS119 13 [] (fun g => (pt g)) (.cells e14 52 (0, 0)) [] (fun fb g => by kernel_rfl) trivial (fun g120 w121 hS122 => ?_)
       refine ⟨⟨hS122.cell 5 rfl 0 rfl, hS122.cell 5 rfl 1 rfl, hS122.cell 5 rfl 2 rfl, hS122.cell 5 rfl 3 rfl, trivial⟩, ?_⟩
       obtain ⟨t123, ht124, hx77⟩ := bind_some hx77
       refine WL.call (some 53) 41 e30 (fun fb => by kernel_rfl) (ref10_meet_calls t110.2.1 t110.2.2 x44.2.2.2.1 g11 g17 t123 _ (hS122.io [3, 4] (by decide)) ht124) (fun v w125 hR126 => ?_)
       obtain ⟨rfl, hk_⟩ := hR126
       have hS127 := hS119.go w125 [blk g11 (.cells #[(iv t123.2.1.e0), (iv t123.2.1.e1), (iv t123.2.1.e2), (iv t123.2.1.e3), (iv t123.2.1.e4), (iv t123.2.1.e5)] 70 (0, 0)), blk g17 (.cells #[(iv t123.2.2)] 3 (0, 0)), blk g120 (.cells e14 52 (0, 0)), blk g7 (.cells #[(iv t115.2.1.e0), (iv t115.2.1.e1), (iv t115.2.1.e2), (iv t115.2.1.e3), (iv t115.2.1.e4), (iv t115.2.1.e5)] 70 (0, 0)), blk g14 (.cells #[(iv t115.2.2)] 3 (0, 0)), blk g42 (.cells e8 48 (0, 0)), blk g43 (.cells e6 48 (0, 0))] (hS122.call hk_ [3, 4] e49 (fun g hg => fpL_sel g hg) (by decide) (by decide))
       refine ⟨trivial, ?_⟩
       refine sg 14 [] e37 [e17, e18, e25, e21, e22, e23, e19, e24, e51, (13, (pt g120)), (54, (.agg #[(iv t105.1), (iv t110.1), (iv t115.1), (iv t123.1)]))] (by kernel_rfl) ?_
       refine WL.store hS127 2 rfl [(0, (iv t105.1)), (1, (iv t110.1)), (2, (iv t115.1)), (3, (iv t123.1))] #[(iv t105.1), (iv t110.1), (iv t115.1), (iv t123.1)] (fun fb => by kernel_rfl) (by kernel_rfl) rfl [0, 1, 3, 4, 5, 6] (by decide) (by decide) (fun w128 hS129 => ?_)
       refine ⟨trivial, ?_⟩
       refine WL.done rfl ?_
       injection hx77 with hx77
       exact WX.to Kx76 ((t115.2.1, t123.2.1, t115.2.2, t123.2.2, (A4_Int.mk t105.1 t110.1 t115.1 t123.1)), g120) e33 rfl ⟨(hS129.subR [0, 1]).sub e48 (by decide), hx77.symm⟩
      ·
       refine segF 8 [.v (iv x44.1), .v (iv x44.2.1), .v (iv x44.2.2.1), .v (iv x44.2.2.2.1)] e26 e10 [] e43 e11 (fun fb => by kernel_rfl) rfl trivial rfl ?_
       obtain ⟨t130, ht131, hx77⟩ := bind_some hx77
       refine WL.call (some 44) 41 e35 (fun fb => by kernel_rfl) (ref10_meet_calls a24 x26 x44.1 g7 g14 t130 _ (hS79.io [0, 2] (by decide)) ht131) (fun v w132 hR133 => ?_)
       obtain ⟨rfl, hk_⟩ := hR133
       have hS134 := hS.go w132 [blk g7 (.cells #[(iv t130.2.1.e0), (iv t130.2.1.e1), (iv t130.2.1.e2), (iv t130.2.1.e3), (iv t130.2.1.e4), (iv t130.2.1.e5)] 70 (0, 0)), blk g14 (.cells #[(iv t130.2.2)] 3 (0, 0)), blk g11 (.cells e16 70 (0, 0)), blk g17 (.cells #[(iv x28)] 3 (0, 0)), blk g42 (.cells e8 48 (0, 0)), blk g43 (.cells e6 48 (0, 0))] (hS79.call hk_ [0, 2] [1, 3, 4, 5] (fun g hg => fpL_sel g hg) (by decide) (by decide))
       refine ⟨⟨hS134.cell 4 rfl 1 rfl, hS134.cell 4 rfl 2 rfl, hS134.cell 4 rfl 3 rfl, trivial⟩, ?_⟩
       obtain ⟨t135, ht136, hx77⟩ := bind_some hx77
       refine WL.call (some 47) 41 e32 (fun fb => by kernel_rfl) (ref10_meet_calls a25 x28 x44.2.1 g11 g17 t135 _ (hS134.io [2, 3] (by decide)) ht136) (fun v w137 hR138 => ?_)
       obtain ⟨rfl, hk_⟩ := hR138
       have hS139 := hS134.go w137 [blk g11 (.cells #[(iv t135.2.1.e0), (iv t135.2.1.e1), (iv t135.2.1.e2), (iv t135.2.1.e3), (iv t135.2.1.e4), (iv t135.2.1.e5)] 70 (0, 0)), blk g17 (.cells #[(iv t135.2.2)] 3 (0, 0)), blk g7 (.cells #[(iv t130.2.1.e0), (iv t130.2.1.e1), (iv t130.2.1.e2), (iv t130.2.1.e3), (iv t130.2.1.e4), (iv t130.2.1.e5)] 70 (0, 0)), blk g14 (.cells #[(iv t130.2.2)] 3 (0, 0)), blk g42 (.cells e8 48 (0, 0)), blk g43 (.cells e6 48 (0, 0))] (hS134.call hk_ [2, 3] [0, 1, 4, 5] (fun g hg => fpL_sel g hg) (by decide) (by decide))
       refine ⟨⟨hS139.cell 4 rfl 2 rfl, hS139.cell 4 rfl 3 rfl, trivial⟩, ?_⟩
       refine WL.new hS139 13 [] (fun g => (pt g)) (.cells e14 52 (0, 0)) [] (fun fb g => by kernel_rfl) trivial (fun g140 w141 hS142 => ?_)
       refine ⟨⟨hS142.cell 5 rfl 0 rfl, hS142.cell 5 rfl 1 rfl, hS142.cell 5 rfl 2 rfl, hS142.cell 5 rfl 3 rfl, trivial⟩, ?_⟩
       obtain ⟨t143, ht144, hx77⟩ := bind_some hx77
       refine WL.call (some 50) 41 e31 (fun fb => by kernel_rfl) (ref10_meet_calls t130.2.1 t130.2.2 x44.2.2.1 g7 g14 t143 _ (hS142.io [3, 4] (by decide)) ht144) (fun v w145 hR146 => ?_)
       obtain ⟨rfl, hk_⟩ := hR146
       have hS147 := hS139.go w145 [blk g7 (.cells #[(iv t143.2.1.e0), (iv t143.2.1.e1), (iv t143.2.1.e2), (iv t143.2.1.e3), (iv t143.2.1.e4), (iv t143.2.1.e5)] 70 (0, 0)), blk g14 (.cells #[(iv t143.2.2)] 3 (0, 0)), blk g140 (.cells e14 52 (0, 0)), blk g11 (.cells #[(iv t135.2.1.e0), (iv t135.2.1.e1), (iv t135.2.1.e2), (iv t135.2.1.e3), (iv t135.2.1.e4), (iv t135.2.1.e5)] 70 (0, 0)), blk g17 (.cells #[(iv t135.2.2)] 3 (0, 0)), blk g42 (.cells e8 48 (0, 0)), blk g43 (.cells e6 48 (0, 0))] (hS142.call hk_ [3, 4] e49 (fun g hg => fpL_sel g hg) (by decide) (by decide))
       refine ⟨⟨hS147.cell 5 rfl 3 rfl, trivial⟩, ?_⟩
       obtain ⟨t148, ht149, hx77⟩ := bind_some hx77
       refine WL.call (some 53) 41 e30 (fun fb => by kernel_rfl) (ref10_meet_calls t135.2.1 t135.2.2 x44.2.2.2.1 g11 g17 t148 _ (hS147.io [3, 4] (by decide)) ht149) (fun v w150 hR151 => ?_)
       obtain ⟨rfl, hk_⟩ := hR151
       have hS152 := hS147.go w150 [blk g11 (.cells #[(iv t148.2.1.e0), (iv t148.2.1.e1), (iv t148.2.1.e2), (iv t148.2.1.e3), (iv t148.2.1.e4), (iv t148.2.1.e5)] 70 (0, 0)), blk g17 (.cells #[(iv t148.2.2)] 3 (0, 0)), blk g7 (.cells #[(iv t143.2.1.e0), (iv t143.2.1.e1), (iv t143.2.1.e2), (iv t143.2.1.e3), (iv t143.2.1.e4), (iv t143.2.1.e5)] 70 (0, 0)), blk g14 (.cells #[(iv t143.2.2)] 3 (0, 0)), blk g140 (.cells e14 52 (0, 0)), blk g42 (.cells e8 48 (0, 0)), blk g43 (.cells e6 48 (0, 0))] (hS147.call hk_ [3, 4] e49 (fun g hg => fpL_sel g hg) (by decide) (by decide))
       refine ⟨trivial, ?_⟩
       refine sg 14 [] e37 [e17, e18, e25, e21, e22, e23, e19, e24, e51, (13, (pt g140)), (54, (.agg #[(iv t130.1), (iv t135.1), (iv t143.1), (iv t148.1)]))] (by kernel_rfl) ?_
       refine WL.store hS152 4 rfl [(0, (iv t130.1)), (1, (iv t135.1)), (2, (iv t143.1)), (3, (iv t148.1))] #[(iv t130.1), (iv t135.1), (iv t143.1), (iv t148.1)] (fun fb => by kernel_rfl) (by kernel_rfl) rfl [0, 1, 2, 3, 5, 6] (by decide) (by decide) (fun w153 hS154 => ?_)
       refine ⟨trivial, ?_⟩
       refine WL.done rfl ?_
       injection hx77 with hx77
       exact WX.to Kx76 ((t143.2.1, t148.2.1, t143.2.2, t148.2.2, (A4_Int.mk t130.1 t135.1 t143.1 t148.1)), g140) e33 rfl ⟨(hS154.subR [0, 1]).sub e48 (by decide), hx77.symm⟩
      ·
       refine segF 8 [.v (iv x44.1), .v (iv x44.2.1), .v (iv x44.2.2.1), .v (iv x44.2.2.2.1)] e26 e10 [] e43 e11 (fun fb => by kernel_rfl) rfl trivial rfl ?_
       obtain ⟨t155, ht156, hx77⟩ := bind_some hx77
       refine WL.call (some 44) 41 e35 (fun fb => by kernel_rfl) (ref10_meet_calls a24 x26 x44.1 g7 g14 t155 _ (hS79.io [0, 2] (by decide)) ht156) (fun v w157 hR158 => ?_)
       obtain ⟨rfl, hk_⟩ := hR158
       have hS159 := hS.go w157 [blk g7 (.cells #[(iv t155.2.1.e0), (iv t155.2.1.e1), (iv t155.2.1.e2), (iv t155.2.1.e3), (iv t155.2.1.e4), (iv t155.2.1.e5)] 70 (0, 0)), blk g14 (.cells #[(iv t155.2.2)] 3 (0, 0)), blk g11 (.cells e16 70 (0, 0)), blk g17 (.cells #[(iv x28)] 3 (0, 0)), blk g42 (.cells e8 48 (0, 0)), blk g43 (.cells e6 48 (0, 0))] (hS79.call hk_ [0, 2] [1, 3, 4, 5] (fun g hg => fpL_sel g hg) (by decide) (by decide))
       refine ⟨⟨hS159.cell 4 rfl 1 rfl, hS159.cell 4 rfl 2 rfl, hS159.cell 4 rfl 3 rfl, trivial⟩, ?_⟩
       refine WL.new hS159 13 [] (fun g => (pt g)) (.cells e14 52 (0, 0)) [] (fun fb g => by kernel_rfl) trivial (fun g160 w161 hS162 => ?_)
       refine ⟨⟨hS162.cell 5 rfl 0 rfl, hS162.cell 5 rfl 1 rfl, hS162.cell 5 rfl 2 rfl, hS162.cell 5 rfl 3 rfl, trivial⟩, ?_⟩
       obtain ⟨t163, ht164, hx77⟩ := bind_some hx77
       refine WL.call (some 47) 41 e32 (fun fb => by kernel_rfl) (ref10_meet_calls a25 x28 x44.2.1 g11 g17 t163 _ (hS162.io [3, 4] (by decide)) ht164) (fun v w165 hR166 => ?_)
       obtain ⟨rfl, hk_⟩ := hR166
       have hS167 := hS159.go w165 [blk g11 (.cells #[(iv t163.2.1.e0), (iv t163.2.1.e1), (iv t163.2.1.e2), (iv t163.2.1.e3), (iv t163.2.1.e4), (iv t163.2.1.e5)] 70 (0, 0)), blk g17 (.cells #[(iv t163.2.2)] 3 (0, 0)), blk g160 (.cells e14 52 (0, 0)), blk g7 (.cells #[(iv t155.2.1.e0), (iv t155.2.1.e1), (iv t155.2.1.e2), (iv t155.2.1.e3), (iv t155.2.1.e4), (iv t155.2.1.e5)] 70 (0, 0)), blk g14 (.cells #[(iv t155.2.2)] 3 (0, 0)), blk g42 (.cells e8 48 (0, 0)), blk g43 (.cells e6 48 (0, 0))] (hS162.call hk_ [3, 4] e49 (fun g hg => fpL_sel g hg) (by decide) (by decide))
       refine ⟨⟨hS167.cell 5 rfl 2 rfl, hS167.cell 5 rfl 3 rfl, trivial⟩, ?_⟩
       obtain ⟨t168, ht169, hx77⟩ := bind_some hx77
       refine WL.call (some 50) 41 e31 (fun fb => by kernel_rfl) (ref10_meet_calls t155.2.1 t155.2.2 x44.2.2.1 g7 g14 t168 _ (hS167.io [3, 4] (by decide)) ht169) (fun v w170 hR171 => ?_)
       obtain ⟨rfl, hk_⟩ := hR171
       have hS172 := hS167.go w170 [blk g7 (.cells #[(iv t168.2.1.e0), (iv t168.2.1.e1), (iv t168.2.1.e2), (iv t168.2.1.e3), (iv t168.2.1.e4), (iv t168.2.1.e5)] 70 (0, 0)), blk g14 (.cells #[(iv t168.2.2)] 3 (0, 0)), blk g11 (.cells #[(iv t163.2.1.e0), (iv t163.2.1.e1), (iv t163.2.1.e2), (iv t163.2.1.e3), (iv t163.2.1.e4), (iv t163.2.1.e5)] 70 (0, 0)), blk g17 (.cells #[(iv t163.2.2)] 3 (0, 0)), blk g160 (.cells e14 52 (0, 0)), blk g42 (.cells e8 48 (0, 0)), blk g43 (.cells e6 48 (0, 0))] (hS167.call hk_ [3, 4] e49 (fun g hg => fpL_sel g hg) (by decide) (by decide))
       refine ⟨⟨hS172.cell 5 rfl 3 rfl, trivial⟩, ?_⟩
       obtain ⟨t173, ht174, hx77⟩ := bind_some hx77
       refine WL.call (some 53) 41 e30 (fun fb => by kernel_rfl) (ref10_meet_calls t163.2.1 t163.2.2 x44.2.2.2.1 g11 g17 t173 _ (hS172.io [2, 3] (by decide)) ht174) (fun v w175 hR176 => ?_)
       obtain ⟨rfl, hk_⟩ := hR176
       have hS177 := hS172.go w175 [blk g11 (.cells #[(iv t173.2.1.e0), (iv t173.2.1.e1), (iv t173.2.1.e2), (iv t173.2.1.e3), (iv t173.2.1.e4), (iv t173.2.1.e5)] 70 (0, 0)), blk g17 (.cells #[(iv t173.2.2)] 3 (0, 0)), blk g7 (.cells #[(iv t168.2.1.e0), (iv t168.2.1.e1), (iv t168.2.1.e2), (iv t168.2.1.e3), (iv t168.2.1.e4), (iv t168.2.1.e5)] 70 (0, 0)), blk g14 (.cells #[(iv t168.2.2)] 3 (0, 0)), blk g160 (.cells e14 52 (0, 0)), blk g42 (.cells e8 48 (0, 0)), blk g43 (.cells e6 48 (0, 0))] (hS172.call hk_ [2, 3] [0, 1, 4, 5, 6] (fun g hg => fpL_sel g hg) (by decide) (by decide))
       refine ⟨trivial, ?_⟩
       refine sg 14 [] e37 [e17, e18, e25, e21, e22, e23, e19, e24, e51, (13, (pt g160)), (54, (.agg #[(iv t155.1), (iv t163.1), (iv t168.1), (iv t173.1)]))] (by kernel_rfl) ?_
       refine WL.store hS177 4 rfl [(0, (iv t155.1)), (1, (iv t163.1)), (2, (iv t168.1)), (3, (iv t173.1))] #[(iv t155.1), (iv t163.1), (iv t168.1), (iv t173.1)] (fun fb => by kernel_rfl) (by kernel_rfl) rfl [0, 1, 2, 3, 5, 6] (by decide) (by decide) (fun w178 hS179 => ?_)
       refine ⟨trivial, ?_⟩
       refine WL.done rfl ?_
       injection hx77 with hx77
       exact WX.to Kx76 ((t168.2.1, t173.2.1, t168.2.2, t173.2.2, (A4_Int.mk t155.1 t163.1 t168.1 t173.1)), g160) e33 rfl ⟨(hS179.subR [0, 1]).sub e48 (by decide), hx77.symm⟩
      refine segF 8 [.v (iv x44.1), .v (iv x44.2.1), .v (iv x44.2.2.1), .v (iv x44.2.2.2.1)] e26 e10 [] e43 e11 (fun fb => by kernel_rfl) rfl trivial rfl ?_
      refine WL.new hS79 13 [] (fun g => (pt g)) (.cells e14 52 (0, 0)) [] (fun fb g => by kernel_rfl) trivial (fun g180 w181 hS182 => ?_)
      refine ⟨⟨hS182.cell 5 rfl 0 rfl, hS182.cell 5 rfl 1 rfl, hS182.cell 5 rfl 2 rfl, hS182.cell 5 rfl 3 rfl, trivial⟩, ?_⟩
      obtain ⟨t183, ht184, hx77⟩ := bind_some hx77
      refine WL.call (some 44) 41 e35 (fun fb => by kernel_rfl) (ref10_meet_calls a24 x26 x44.1 g7 g14 t183 _ (hS182.io [1, 3] (by decide)) ht184) (fun v w185 hR186 => ?_)
      obtain ⟨rfl, hk_⟩ := hR186
      have hS187 := hS.go w185 [blk g7 (.cells #[(iv t183.2.1.e0), (iv t183.2.1.e1), (iv t183.2.1.e2), (iv t183.2.1.e3), (iv t183.2.1.e4), (iv t183.2.1.e5)] 70 (0, 0)), blk g14 (.cells #[(iv t183.2.2)] 3 (0, 0)), blk g180 (.cells e14 52 (0, 0)), blk g11 (.cells e16 70 (0, 0)), blk g17 (.cells #[(iv x28)] 3 (0, 0)), blk g42 (.cells e8 48 (0, 0)), blk g43 (.cells e6 48 (0, 0))] (hS182.call hk_ [1, 3] [0, 2, 4, 5, 6] (fun g hg => fpL_sel g hg) (by decide) (by decide))
      refine ⟨⟨hS187.cell 5 rfl 1 rfl, hS187.cell 5 rfl 2 rfl, hS187.cell 5 rfl 3 rfl, trivial⟩, ?_⟩
      obtain ⟨t188, ht189, hx77⟩ := bind_some hx77
      refine WL.call (some 47) 41 e32 (fun fb => by kernel_rfl) (ref10_meet_calls a25 x28 x44.2.1 g11 g17 t188 _ (hS187.io [3, 4] (by decide)) ht189) (fun v w190 hR191 => ?_)
      obtain ⟨rfl, hk_⟩ := hR191
      have hS192 := hS187.go w190 [blk g11 (.cells #[(iv t188.2.1.e0), (iv t188.2.1.e1), (iv t188.2.1.e2), (iv t188.2.1.e3), (iv t188.2.1.e4), (iv t188.2.1.e5)] 70 (0, 0)), blk g17 (.cells #[(iv t188.2.2)] 3 (0, 0)), blk g7 (.cells #[(iv t183.2.1.e0), (iv t183.2.1.e1), (iv t183.2.1.e2), (iv t183.2.1.e3), (iv t183.2.1.e4), (iv t183.2.1.e5)] 70 (0, 0)), blk g14 (.cells #[(iv t183.2.2)] 3 (0, 0)), blk g180 (.cells e14 52 (0, 0)), blk g42 (.cells e8 48 (0, 0)), blk g43 (.cells e6 48 (0, 0))] (hS187.call hk_ [3, 4] e49 (fun g hg => fpL_sel g hg) (by decide) (by decide))
      refine ⟨⟨hS192.cell 5 rfl 2 rfl, hS192.cell 5 rfl 3 rfl, trivial⟩, ?_⟩
      obtain ⟨t193, ht194, hx77⟩ := bind_some hx77
      refine WL.call (some 50) 41 e31 (fun fb => by kernel_rfl) (ref10_meet_calls t183.2.1 t183.2.2 x44.2.2.1 g7 g14 t193 _ (hS192.io [2, 3] (by decide)) ht194) (fun v w195 hR196 => ?_)
      obtain ⟨rfl, hk_⟩ := hR196
      have hS197 := hS192.go w195 [blk g7 (.cells #[(iv t193.2.1.e0), (iv t193.2.1.e1), (iv t193.2.1.e2), (iv t193.2.1.e3), (iv t193.2.1.e4), (iv t193.2.1.e5)] 70 (0, 0)), blk g14 (.cells #[(iv t193.2.2)] 3 (0, 0)), blk g11 (.cells #[(iv t188.2.1.e0), (iv t188.2.1.e1), (iv t188.2.1.e2), (iv t188.2.1.e3), (iv t188.2.1.e4), (iv t188.2.1.e5)] 70 (0, 0)), blk g17 (.cells #[(iv t188.2.2)] 3 (0, 0)), blk g180 (.cells e14 52 (0, 0)), blk g42 (.cells e8 48 (0, 0)), blk g43 (.cells e6 48 (0, 0))] (hS192.call hk_ [2, 3] [0, 1, 4, 5, 6] (fun g hg => fpL_sel g hg) (by decide) (by decide))
      refine ⟨⟨hS197.cell 5 rfl 3 rfl, trivial⟩, ?_⟩
      obtain ⟨t198, ht199, hx77⟩ := bind_some hx77
      refine WL.call (some 53) 41 e30 (fun fb => by kernel_rfl) (ref10_meet_calls t188.2.1 t188.2.2 x44.2.2.2.1 g11 g17 t198 _ (hS197.io [2, 3] (by decide)) ht199) (fun v w200 hR201 => ?_)
      obtain ⟨rfl, hk_⟩ := hR201
      have hS202 := hS197.go w200 [blk g11 (.cells #[(iv t198.2.1.e0), (iv t198.2.1.e1), (iv t198.2.1.e2), (iv t198.2.1.e3), (iv t198.2.1.e4), (iv t198.2.1.e5)] 70 (0, 0)), blk g17 (.cells #[(iv t198.2.2)] 3 (0, 0)), blk g7 (.cells #[(iv t193.2.1.e0), (iv t193.2.1.e1), (iv t193.2.1.e2), (iv t193.2.1.e3), (iv t193.2.1.e4), (iv t193.2.1.e5)] 70 (0, 0)), blk g14 (.cells #[(iv t193.2.2)] 3 (0, 0)), blk g180 (.cells e14 52 (0, 0)), blk g42 (.cells e8 48 (0, 0)), blk g43 (.cells e6 48 (0, 0))] (hS197.call hk_ [2, 3] [0, 1, 4, 5, 6] (fun g hg => fpL_sel g hg) (by decide) (by decide))
      refine ⟨trivial, ?_⟩
      refine sg 14 [] e37 [e17, e18, e25, e21, e22, e23, e19, e24, e51, (13, (pt g180)), (54, (.agg #[(iv t183.1), (iv t188.1), (iv t193.1), (iv t198.1)]))] (by kernel_rfl) ?_
      refine WL.store hS202 4 rfl [(0, (iv t183.1)), (1, (iv t188.1)), (2, (iv t193.1)), (3, (iv t198.1))] #[(iv t183.1), (iv t188.1), (iv t193.1), (iv t198.1)] (fun fb => by kernel_rfl) (by kernel_rfl) rfl [0, 1, 2, 3, 5, 6] (by decide) (by decide) (fun w203 hS204 => ?_)
      refine ⟨trivial, ?_⟩
      refine WL.done rfl ?_
      injection hx77 with hx77
      exact WX.to Kx76 ((t193.2.1, t198.2.1, t193.2.2, t198.2.2, (A4_Int.mk t183.1 t188.1 t193.1 t198.1)), g180) e33 rfl ⟨(hS204.subR [0, 1]).sub e48 (by decide), hx77.symm⟩
     rintro ⟨y208, g75⟩ w205 ⟨hS206, hq207⟩
     subst hq207
     refine WX.next (WC.seq (WC.region ?_))
     refine seg 9 [.v (iv x44.2.2.2.2.1), .v (iv x44.2.2.2.2.2.1), .v (iv x44.2.2.2.2.2.2.1), .v (iv x44.2.2.2.2.2.2.2)] [0, 1, 5, 6, 7, 8, 9, 10, 13, 63] [e17, e18, e25, e21, e22, e23, e19, e24, (13, (pt g75)), (63, (.agg e6))] [.cell ⟨g43, 0, none⟩ (iv x44.2.2.2.2.1), .cell ⟨g43, 1, none⟩ (iv x44.2.2.2.2.2.1), .cell ⟨g43, 2, none⟩ (iv x44.2.2.2.2.2.2.1), .cell ⟨g43, 3, none⟩ (iv x44.2.2.2.2.2.2.2)] (fun fb => by kernel_rfl) rfl ⟨hS206.cell 4 rfl 0 rfl, hS206.cell 4 rfl 1 rfl, hS206.cell 4 rfl 2 rfl, hS206.cell 4 rfl 3 rfl, trivial⟩ ?_
     refine WL.new hS206 14 [] (fun g => (pt g)) (.cells e14 52 (0, 0)) [] (fun fb g => by kernel_rfl) trivial (fun g209 w210 hS211 => ?_)
     refine ⟨trivial, ?_⟩
     refine WL.store hS211 0 rfl [(0, (iv x44.2.2.2.2.1)), (1, (iv x44.2.2.2.2.2.1)), (2, (iv x44.2.2.2.2.2.2.1)), (3, (iv x44.2.2.2.2.2.2.2))] e6 (fun fb => by kernel_rfl) (by kernel_rfl) rfl [1, 2, 3, 4, 5, 6] (by decide) (by decide) (fun w212 hS213 => ?_)
     refine ⟨trivial, ?_⟩
     refine WL.done rfl (WX.next (WC.seq (WC.region ?_)))
     refine sg 1 [] e38 [e17, e18, e25, e21, e22, e23, e19, e24, (13, (pt g75)), (14, (pt g209)), (15, (iv 0))] (by kernel_rfl) ?_
     refine WL.done rfl (WX.next ?_)
     obtain ⟨x215, hx216, hx39⟩ := bind_some hx39
     let e12 := A4_Int.mk x44.2.2.2.2.1 x44.2.2.2.2.2.1 x44.2.2.2.2.2.2.1 x44.2.2.2.2.2.2.2
     let e28 : Array Value := #[(iv x76.2.2.2.2.e0), (iv x76.2.2.2.2.e1), (iv x76.2.2.2.2.e2), (iv x76.2.2.2.2.e3)]
     let e39 : Array Value := #[(iv x76.2.1.e0), (iv x76.2.1.e1), (iv x76.2.1.e2), (iv x76.2.1.e3), (iv x76.2.1.e4), (iv x76.2.1.e5)]
     let e41 : Array Value := #[(iv x76.1.e0), (iv x76.1.e1), (iv x76.1.e2), (iv x76.1.e3), (iv x76.1.e4), (iv x76.1.e5)]
     refine WC.cutN (T := Unit) (fun t => [e17, e18, e25, e21, e22, e23, e19, e24]) (fun t w1 => St NoS w w1 e20 [blk g7 (.cells e41 70 (0, 0)), blk g11 (.cells e39 70 (0, 0)), blk g14 (.cells #[(iv x76.2.2.1)] 3 (0, 0)), blk g17 (.cells #[(iv x76.2.2.2.1)] 3 (0, 0))] ∧ x215 = .inr t) (fun Kx215 => ?_) ?_
     ·
      refine WC.block ?_
      refine WC.loop (T := Int) (fun t => [e17, e18, e25, e21, e22, e23, e19, e24, (13, (pt g75)), (14, (pt g209)), (15, (iv t))]) (fun n t w1 => St NoS w w1 e20 [blk g7 (.cells e41 70 (0, 0)), blk g11 (.cells e39 70 (0, 0)), blk g14 (.cells #[(iv x76.2.2.1)] 3 (0, 0)), blk g17 (.cells #[(iv x76.2.2.2.1)] 3 (0, 0)), blk g75 (.cells e28 52 (0, 0)), blk g209 (.cells e6 52 (0, 0))] ∧ ref10_fewer.l1 n t x44 x76 = some x215) k33 0 e38 rfl ⟨(hS213.subR [0, 1]).sub [1, 2, 3, 4, 6, 0] (by decide), hx216⟩ ?_
      rintro k217 x214 w218 ⟨hS219, hl220⟩
      let e15 : List (Nat × Addr × Value) := [(2, (flatA ⟨g75, 0, none⟩ (x214.toNat * 1)), (iv (A4_Int.get x76.2.2.2.2 x214))), (5, (flatA ⟨g209, 0, none⟩ (x214.toNat * 1)), (iv (A4_Int.get e12 x214)))]
      let e50 := bv (decide (A4_Int.get x76.2.2.2.2 x214 < A4_Int.get e12 x214))
      cases k217 with
      | zero => rw [ref10_fewer.l1] at hl220; cases hl220
      | succ k217 =>
       rw [ref10_fewer.l1] at hl220
       refine WC.seq (WC.seq (WC.region ?_))
       refine sg 2 [] [0, 1, 5, 6, 7, 8, 9, 10, 13, 14, 15, 65] [e17, e18, e25, e21, e22, e23, e19, e24, (13, (pt g75)), (14, (pt g209)), (15, (iv x214)), (65, (bv (decide (x214 < 4))))] (by kernel_rfl) ?_
       refine WL.done rfl (WX.next ?_)
       rcases br_some hl220 with ⟨h221, hl220⟩ | ⟨h221, hl220⟩
       ·refine WC.condT2 (fun fb => by kernel_rfl) h221 ?_
        refine WC.skip (WX.next (WC.seq (WC.block (WC.seq ?_))))
        obtain ⟨h224, hl220⟩ := as_some hl220
        refine WC.regionD (e15, [0, 1, 2, 3, 4, 5, 6], [[], [0], [0, 1], [], [3], [3, 4], [0, 1, 2, 3, 4, 5]]) [[0, 1, 2, 3, 4, 5, 6]] (by kernel_rfl) (by kernel_rfl) (NoPanic.seq (NoPanic.block (NoPanic.seq (NoPanic.seq (NoPanic.block (NoPanic.block (NoPanic.seq (NoPanic.seq (NoPanic.block (NoPanic.seq (NoPanic.body))))))))))) ?_
        have hS223 := hS219.drew
        revert hS223
        generalize World.drew w218 = w222
        intro hS223
        refine ⟨⟨hS223.cell 4 rfl _ (cases4 (Q := fun z_ => (e28 : Array Value)[0 + z_.toNat * 1]? = some (iv (A4_Int.get x76.2.2.2.2 z_))) h224 (by kernel_rfl) (by kernel_rfl) (by kernel_rfl) (by kernel_rfl)), hS223.cell 5 rfl _ (cases4 (Q := fun z_ => (e6 : Array Value)[0 + z_.toNat * 1]? = some (iv (A4_Int.get e12 z_))) h224 (by kernel_rfl) (by kernel_rfl) (by kernel_rfl) (by kernel_rfl)), trivial⟩, forallC ?_ (forallN)⟩
        refine segF 7 [.v (iv (A4_Int.get x76.2.2.2.2 x214)), .v (iv (A4_Int.get e12 x214))] [0, 1, 5, 6, 7, 8, 9, 10, 13, 14, 15, 74] [e17, e18, e25, e21, e22, e23, e19, e24, (13, (pt g75)), (14, (pt g209)), (15, (iv x214)), (74, (bv ((A4_Int.get x76.2.2.2.2 x214) != (A4_Int.get e12 x214))))] [.idx (some ⟨0, 0, none⟩) x214 4, .idx (some ⟨0, 0, none⟩) x214 4] [0, 1] e15 (fun fb => by kernel_rfl) rfl ⟨⟨h224.1, h224.2, rfl⟩, ⟨h224.1, h224.2, rfl⟩, trivial⟩ rfl ?_
        refine WL.done rfl (WX.next ?_)
        rcases br_some hl220 with ⟨h225, hl220⟩ | ⟨h225, hl220⟩
        ·refine WC.condT2 (fun fb => by kernel_rfl) h225 ?_
         refine WC.seq ?_
         refine WC.regionD (e15, [0, 1, 2, 3, 4, 5, 6, 7], [[], [0], [0, 1], [], [3], [3, 4], [0, 1, 2, 3, 4, 5], [0, 1, 2, 3, 4, 5, 6]]) [[0, 1, 2, 3, 4, 5, 6, 7]] (by kernel_rfl) (by kernel_rfl) (NoPanic.seq (NoPanic.block (NoPanic.seq (NoPanic.seq (NoPanic.block (NoPanic.block (NoPanic.seq (NoPanic.seq (NoPanic.block (NoPanic.seq (NoPanic.body))))))))))) ?_
         have hS227 := hS223.drew
         revert hS227
         generalize World.drew w222 = w226
         intro hS227
         refine ⟨⟨hS227.cell 4 rfl _ (cases4 (Q := fun z_ => (e28 : Array Value)[0 + z_.toNat * 1]? = some (iv (A4_Int.get x76.2.2.2.2 z_))) h224 (by kernel_rfl) (by kernel_rfl) (by kernel_rfl) (by kernel_rfl)), hS227.cell 5 rfl _ (cases4 (Q := fun z_ => (e6 : Array Value)[0 + z_.toNat * 1]? = some (iv (A4_Int.get e12 z_))) h224 (by kernel_rfl) (by kernel_rfl) (by kernel_rfl) (by kernel_rfl)), trivial⟩, forallC ?_ (forallN)⟩
         refine segF 8 [.v (iv (A4_Int.get x76.2.2.2.2 x214)), .v (iv (A4_Int.get e12 x214))] [4] [(4, e50)] [.idx (some ⟨0, 0, none⟩) x214 4, .idx (some ⟨0, 0, none⟩) x214 4] [0, 1] e15 (fun fb => by kernel_rfl) rfl ⟨⟨h224.1, h224.2, rfl⟩, ⟨h224.1, h224.2, rfl⟩, trivial⟩ rfl ?_
         refine WL.done rfl (WX.next ?_)
         refine WC.ret ?_
         injection hl220 with hl220
         subst hl220
         injection hx39 with hx39
         subst hx39
         injection hl36 with hl36
         subst hl36
         injection hf with hf
         subst hf
         exact WX.blockR (WX.thenR (WX.thenR (WX.blockR (WX.blockR (WX.thenR (WX.thenR (WX.blockR (WX.thenR (WX.ret_ [] e50 [] (fun fb => by kernel_rfl) trivial ⟨_, rfl, rfl, hS227.keep⟩)))))))))
        refine WC.condF2 (fun fb => by kernel_rfl) h225 ?_
        refine WC.skip ?_
        refine WX.blockN (WX.next ?_)
        refine WC.region ?_
        refine sg 3 [] e38 [e17, e18, e25, e21, e22, e23, e19, e24, (13, (pt g75)), (14, (pt g209)), (15, (iv (w64 (x214 + 1))))] (by kernel_rfl) ?_
        refine WL.done rfl ?_
        exact WX.again k217 (Nat.lt_succ_self _) (w64 (x214 + 1)) e38 rfl ⟨(hS223.subR [0, 1]).sub [0, 1, 2, 3, 4, 5] (by decide), hl220⟩
       refine WC.condF2 (fun fb => by kernel_rfl) h221 ?_
       refine WC.exit ?_
       injection hl220 with hl220
       exact WX.thenX (WX.thenX (WX.blockHere (WX.to Kx215 () e36 rfl ⟨(hS219.subR [0, 1]).sub e43 (by decide), hl220.symm⟩)))
     rintro y231 w228 ⟨hS229, hq230⟩
     subst hq230
     have hx39 := sum_inr hx39
     injection hx39 with hx39
     exact WX.blockN (WX.to Kx38 (x76.1, x76.2.1, x76.2.2.1, x76.2.2.2.1, w64 (x29 + 1)) e36 rfl ⟨(hS229.subR [0, 1]).sub e43 (by decide), hx39.symm⟩)
    rintro y235 w232 ⟨hS233, hq234⟩
    subst hq234
    have hl36 := sum_inr hl36
    refine WX.next (WC.region ?_)
    refine sg 3 [] e36 [e17, e18, e25, e21, e22, e23, (9, (iv y235.2.2.2.2)), (10, (iv (w64 (x30 + 1))))] (by kernel_rfl) ?_
    refine WL.done rfl ?_
    exact WX.again k33 (Nat.lt_succ_self _) (y235.1, y235.2.1, y235.2.2.1, y235.2.2.2.1, y235.2.2.2.2, w64 (x30 + 1)) e36 rfl ⟨(hS233.subR [0, 1]).sub e43 (by decide), hl36⟩
   refine WC.condF2 (fun fb => by kernel_rfl) h37 ?_
   refine WC.exit ?_
   injection hl36 with hl36
   exact WX.thenX (WX.thenX (WX.blockHere (WX.to Kx31 () [] rfl ⟨(hS35.subR [0, 1]).sub [] (by decide), hl36.symm⟩)))
 rintro y239 w236 ⟨hS237, hq238⟩
 subst hq238
 have hf := sum_inr hf
 refine WX.next (WC.seq (WC.region ?_))
 refine sg 1 [] [4] [(4, (bv false))] (by kernel_rfl) ?_
 refine WL.done rfl (WX.next ?_)
 refine WC.ret ?_
 injection hf with hf
 subst hf
 exact WX.ret_ [] (bv false) [] (fun fb => by kernel_rfl) trivial ⟨_, rfl, rfl, hS237.keep⟩
end Gp
