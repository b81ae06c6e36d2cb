/- Walks: each function of the program computes its plain function. -/
import Derived.Test.YtpbnoldflfcllaaGp
set_option linter.unusedVariables false
set_option linter.unusedSimpArgs false
set_option maxHeartbeats 4000000
set_option maxRecDepth 8000
namespace Gp
open Go Gw Go.Proofs
theorem census_few_calls (p0 : Int)  (r : Bool) (w : World)  (hf : census_few p0 = some r) :
  CallsR Try.prog 21 #[(iv p0)] w (fun v w' => v = (bv r) ∧ Keeps NoS w w') := by
 have hS : St NoS w w [] [] := St.init (ro_nil _ _)
 refine enter 9 Try.func21 rfl Try.ntmps21 rfl ?_
 unfold census_few at hf
 refine WC.seq (WC.region ?_)
 refine sg 1 [] [0] [(0, (iv p0))] (by kernel_rfl) ?_
 refine WL.done rfl (WX.next (WC.seq (WC.region ?_)))
 refine sg 3 [] [0, 5] [(0, (iv p0)), (5, (bv (decide (p0 ≥ 0))))] (by kernel_rfl) ?_
 refine WL.cutV (T := Bool) 6 (fun t => [(8, (bv t))]) (fun t => ((decide (p0 ≥ 0)) && (decide (p0 ≤ 3))) = t) (fun K => ?_) ?_
 ·
  rcases Bool.eq_false_or_eq_true (decide (p0 ≥ 0)) with h1 | h1
  ·
   refine WL.setB 5 h1 rfl ?_
   refine sg 6 [] [8] [(8, (bv (decide (p0 ≤ 3))))] (by kernel_rfl) ?_
   exact WL.toV K (decide (p0 ≤ 3)) [8] rfl (by first | (rw [h1]; done) | (rw [h1]; rfl))
  refine WL.setB 5 h1 rfl ?_
  refine sg 6 [] [8] [(8, (bv false))] (by kernel_rfl) ?_
  exact WL.toV K false [8] rfl (by first | (rw [h1]; done) | (rw [h1]; rfl))
 rintro b2 rfl
 refine sg 7 [] [2] [(2, (bv ((decide (p0 ≥ 0)) && (decide (p0 ≤ 3)))))] (by kernel_rfl) ?_
 refine WL.done rfl (WX.next ?_)
 refine WC.ret ?_
 injection hf with hf
 subst hf
 exact WX.ret_ [] (bv ((decide (p0 ≥ 0)) && (decide (p0 ≤ 3)))) [] (fun fb => by kernel_rfl) trivial ⟨_, rfl, rfl, hS.keep⟩
theorem census_words_calls (p0 : Int)  (r : Unit) (w : World)  (hf : census_words p0 = some r) :
  CallsR Try.prog 37 #[(iv p0)] w (fun v w' => ∃ (g1_ : Nat), v = (.func (.func 53) #[] #[(pt g1_)]) ∧ St NoS w w' [] [blk g1_ (.cells #[(iv p0)] 3 (0, 0))]) := by
 have hS : St NoS w w [] [] := St.init (ro_nil _ _)
 refine enter 4 Try.func37 rfl Try.ntmps37 rfl ?_
 unfold census_words at hf
 refine WC.seq (WC.region ?_)
 refine WL.new hS 1 [] (fun g => (pt g)) (.cells #[(iv p0)] 3 (0, 0)) [] (fun fb g => by kernel_rfl) trivial (fun g19 w20 hS21 => ?_)
 refine ⟨trivial, ?_⟩
 refine sg 2 [] [1] [(1, (pt g19))] (by kernel_rfl) ?_
 refine WL.done rfl (WX.next (WC.seq (WC.region ?_)))
 refine sg 2 [] [2] [(2, (.func (.func 53) #[] #[(pt g19)]))] (by kernel_rfl) ?_
 refine WL.done rfl (WX.next ?_)
 refine WC.ret ?_
 injection hf with hf
 subst hf
 exact WX.ret_ [] (.func (.func 53) #[] #[(pt g19)]) [] (fun fb => by kernel_rfl) trivial ⟨_, rfl, g19, rfl, (hS21.sub [0] (by decide)).noR⟩
theorem tile_colour_1_calls (p0 : Int)  (r : Bool) (w : World)  (hf : tile_colour_1 p0 = some r) :
  CallsR Try.prog 64 #[(iv p0)] w (fun v w' => v = (bv r) ∧ Keeps NoS w w') := by
 have hS : St NoS w w [] [] := St.init (ro_nil _ _)
 refine enter 9 Try.func64 rfl Try.ntmps64 rfl ?_
 unfold tile_colour_1 at hf
 refine WC.seq (WC.region ?_)
 refine sg 1 [] [0] [(0, (iv p0))] (by kernel_rfl) ?_
 refine WL.done rfl (WX.next (WC.seq (WC.region ?_)))
 refine sg 3 [] [0, 5] [(0, (iv p0)), (5, (bv (decide (p0 < 0))))] (by kernel_rfl) ?_
 refine WL.cutV (T := Bool) 6 (fun t => [(8, (bv t))]) (fun t => ((decide (p0 < 0)) || (decide (p0 ≥ 1000))) = t) (fun K => ?_) ?_
 ·
  rcases Bool.eq_false_or_eq_true (decide (p0 < 0)) with h2 | h2
  ·
   refine WL.setB 5 h2 rfl ?_
   refine sg 6 [] [8] [(8, (bv true))] (by kernel_rfl) ?_
   exact WL.toV K true [8] rfl (by first | (rw [h2]; done) | (rw [h2]; rfl))
  refine WL.setB 5 h2 rfl ?_
  refine sg 6 [] [8] [(8, (bv (decide (p0 ≥ 1000))))] (by kernel_rfl) ?_
  exact WL.toV K (decide (p0 ≥ 1000)) [8] rfl (by first | (rw [h2]; done) | (rw [h2]; rfl))
 rintro b3 rfl
 refine sg 7 [] [2] [(2, (bv ((decide (p0 < 0)) || (decide (p0 ≥ 1000)))))] (by kernel_rfl) ?_
 refine WL.done rfl (WX.next ?_)
 refine WC.ret ?_
 injection hf with hf
 subst hf
 exact WX.ret_ [] (bv ((decide (p0 < 0)) || (decide (p0 ≥ 1000)))) [] (fun fb => by kernel_rfl) trivial ⟨_, rfl, rfl, hS.keep⟩
theorem slices_IndexFunc_int_int_with_tile_colour_1_calls (k : Nat) (p0 : List Int) (Aa : Option Addr) (ca : Nat) (r : Int) (w : World) (hR0 : RO NoS w (rowR encInt Aa ca p0)) (hf : slices_IndexFunc_int_int_with_tile_colour_1 k p0 = some r) :
  CallsR Try.prog 85 #[(sv Aa p0 ca), (.func (.func 64) #[] #[])] w (fun v w' => v = (iv r) ∧ Keeps NoS w w') := by
 have hS : St NoS w w [rowR encInt Aa ca p0] [] := St.init (ro_cons hR0 (ro_nil _ _))
 refine enter 19 Try.func85 rfl Try.ntmps85 rfl ?_
 unfold slices_IndexFunc_int_int_with_tile_colour_1 at hf
 refine WC.seq (WC.region ?_)
 refine sg 1 [] [0, 1] [(0, (sv Aa p0 ca)), (1, (.func (.func 64) #[] #[]))] (by kernel_rfl) ?_
 refine WL.done rfl (WX.next (WC.seq (WC.seq (WC.region ?_))))
 refine sg 3 [] [0, 1, 7, 8] [(0, (sv Aa p0 ca)), (1, (.func (.func 64) #[] #[])), (7, (iv (p0.length : Int))), (8, (iv 0))] (by kernel_rfl) ?_
 refine WL.done rfl (WX.next ?_)
 obtain ⟨x4, hx5, hf⟩ := bind_some hf
 let e1 : Nat × Value := (7, (iv (p0.length : Int)))
 let e2 : Nat × Value := (0, (sv Aa p0 ca))
 refine WC.cutN (T := Unit) (fun t => []) (fun t w1 => St NoS w w1 [rowR encInt Aa ca p0] [] ∧ x4 = .inr t) (fun Kx4 => ?_) ?_
 ·
  refine WC.block ?_
  refine WC.loop (T := Int) (fun t => [e2, (1, (.func (.func 64) #[] #[])), e1, (8, (iv t))]) (fun n t w1 => St NoS w w1 [rowR encInt Aa ca p0] [] ∧ slices_IndexFunc_int_int_with_tile_colour_1.l0 n t p0 = some x4) k 0 [0, 1, 7, 8] rfl ⟨(hS.subR [0]).sub [] (by decide), hx5⟩ ?_
  rintro k6 x3 w7 ⟨hS8, hl9⟩
  cases k6 with
  | zero => rw [slices_IndexFunc_int_int_with_tile_colour_1.l0] at hl9; cases hl9
  | succ k6 =>
   rw [slices_IndexFunc_int_int_with_tile_colour_1.l0] at hl9
   refine WC.seq (WC.region ?_)
   refine sg 1 [] [0, 1, 7, 8, 9] [e2, (1, (.func (.func 64) #[] #[])), e1, (8, (iv x3)), (9, (bv (decide (x3 < (p0.length : Int)))))] (by kernel_rfl) ?_
   refine WL.done rfl (WX.next (WC.seq ?_))
   rcases br_some hl9 with ⟨h10, hl9⟩ | ⟨h10, hl9⟩
   ·refine WC.condT2 (fun fb => by kernel_rfl) h10 ?_
    refine WC.skip (WX.next (WC.seq (WC.block (WC.seq (WC.region ?_)))))
    refine sg 2 [] [0, 1, 5, 7, 8] [e2, (1, (.func (.func 64) #[] #[])), (5, (iv x3)), e1, (8, (iv x3))] (by kernel_rfl) ?_
    refine WL.done rfl (WX.next (WC.seq (WC.region ?_)))
    refine sg 3 [] [0, 1, 5, 7, 8, 11, 12, 13] [e2, (1, (.func (.func 64) #[] #[])), (5, (iv x3)), e1, (8, (iv x3)), (11, (.func (.func 64) #[] #[])), (12, (sv Aa p0 ca)), (13, (iv x3))] (by kernel_rfl) ?_
    obtain ⟨h11, hl9⟩ := as_some hl9
    refine seg 5 [.v (iv (rdD p0 x3 0))] [0, 1, 5, 7, 8, 11, 15] [e2, (1, (.func (.func 64) #[] #[])), (5, (iv x3)), e1, (8, (iv x3)), (11, (.func (.func 64) #[] #[])), (15, (iv (rdD p0 x3 0)))] [.idx Aa x3 p0.length, .cell ((adr Aa).add ((x3).toNat * 1)) (iv (rdD p0 x3 0))] (fun fb => by kernel_rfl) rfl ⟨rowR.adr (hS8.rd 0).1 h11.1 h11.2, rowR.cell (hS8.rd 0).1 0 h11.1 h11.2 0 rfl, trivial⟩ ?_
    obtain ⟨t12, ht13, hl9⟩ := bind_some hl9
    refine WL.call (some 16) 64 #[(iv (rdD p0 x3 0))] (fun fb => by kernel_rfl) (tile_colour_1_calls (rdD p0 x3 0) t12 _ ht13) (fun v w14 hR15 => ?_)
    obtain ⟨rfl, hk_⟩ := hR15
    have hS16 := hS8.keepN hk_
    refine ⟨trivial, ?_⟩
    refine WL.done rfl (WX.next ?_)
    rcases br_some hl9 with ⟨h17, hl9⟩ | ⟨h17, hl9⟩
    ·refine WC.condT2 (fun fb => by kernel_rfl) h17 ?_
     refine WC.seq (WC.region ?_)
     refine sg 2 [] [4] [(4, (iv x3))] (by kernel_rfl) ?_
     refine WL.done rfl (WX.next ?_)
     refine WC.ret ?_
     injection hl9 with hl9
     subst hl9
     injection hf with hf
     subst hf
     exact WX.blockR (WX.thenR (WX.thenR (WX.blockR (WX.thenR (WX.ret_ [] (iv x3) [] (fun fb => by kernel_rfl) trivial ⟨_, rfl, rfl, hS16.keep⟩)))))
    refine WC.condF2 (fun fb => by kernel_rfl) h17 ?_
    refine WC.skip ?_
    refine WX.blockN (WX.next ?_)
    refine WC.region ?_
    refine sg 2 [] [0, 1, 7, 8] [e2, (1, (.func (.func 64) #[] #[])), e1, (8, (iv (w64 (x3 + 1))))] (by kernel_rfl) ?_
    refine WL.done rfl ?_
    exact WX.again k6 (Nat.lt_succ_self _) (w64 (x3 + 1)) [0, 1, 7, 8] rfl ⟨(hS16.subR [0]).sub [] (by decide), hl9⟩
   refine WC.condF2 (fun fb => by kernel_rfl) h10 ?_
   refine WC.exit ?_
   injection hl9 with hl9
   exact WX.thenX (WX.thenX (WX.blockHere (WX.to Kx4 () [] rfl ⟨(hS8.subR [0]).sub [] (by decide), hl9.symm⟩)))
 rintro y21 w18 ⟨hS19, hq20⟩
 subst hq20
 have hf := sum_inr hf
 refine WX.next (WC.seq (WC.region ?_))
 refine sg 1 [] [4] [(4, (iv (-1)))] (by kernel_rfl) ?_
 refine WL.done rfl (WX.next ?_)
 refine WC.ret ?_
 injection hf with hf
 subst hf
 exact WX.ret_ [] (iv (-1)) [] (fun fb => by kernel_rfl) trivial ⟨_, rfl, rfl, hS19.keep⟩
theorem slices_ContainsFunc_int_int_with_tile_colour_1_calls (k : Nat) (p0 : List Int) (Aa : Option Addr) (ca : Nat) (r : Bool) (w : World) (hR0 : RO NoS w (rowR encInt Aa ca p0)) (hf : slices_ContainsFunc_int_int_with_tile_colour_1 k p0 = some r) :
  CallsR Try.prog 63 #[(sv Aa p0 ca), (.func (.func 64) #[] #[])] w (fun v w' => v = (bv r) ∧ Keeps NoS w w') := by
 have hS : St NoS w w [rowR encInt Aa ca p0] [] := St.init (ro_cons hR0 (ro_nil _ _))
 refine enter 9 Try.func63 rfl Try.ntmps63 rfl ?_
 unfold slices_ContainsFunc_int_int_with_tile_colour_1 at hf
 refine WC.seq (WC.region ?_)
 refine sg 1 [] [0, 1] [(0, (sv Aa p0 ca)), (1, (.func (.func 64) #[] #[]))] (by kernel_rfl) ?_
 refine WL.done rfl (WX.next (WC.seq (WC.region ?_)))
 refine sg 2 [] [5, 6] [(5, (sv Aa p0 ca)), (6, (.func (.func 64) #[] #[]))] (by kernel_rfl) ?_
 obtain ⟨t2, ht3, hf⟩ := bind_some hf
 refine WL.call (some 7) 85 #[(sv Aa p0 ca), (.func (.func 64) #[] #[])] (fun fb => by kernel_rfl) (slices_IndexFunc_int_int_with_tile_colour_1_calls _ p0 Aa ca t2 _ (hS.rd 0) ht3) (fun v w4 hR5 => ?_)
 obtain ⟨rfl, hk_⟩ := hR5
 have hS6 := hS.keepN hk_
 refine ⟨trivial, ?_⟩
 refine sg 5 [] [4] [(4, (bv (decide (t2 ≥ 0))))] (by kernel_rfl) ?_
 refine WL.done rfl (WX.next ?_)
 refine WC.ret ?_
 injection hf with hf
 subst hf
 exact WX.ret_ [] (bv (decide (t2 ≥ 0))) [] (fun fb => by kernel_rfl) trivial ⟨_, rfl, rfl, hS6.keep⟩
theorem tile_colour_calls (k : Nat) (p0 : List Int) (Aa : Option Addr) (ca : Nat) (r : Bool) (w : World) (hR0 : RO NoS w (rowR encInt Aa ca p0)) (hf : tile_colour k p0 = some r) :
  CallsR Try.prog 46 #[(sv Aa p0 ca)] w (fun v w' => v = (bv r) ∧ Keeps NoS w w') := by
 have hS : St NoS w w [rowR encInt Aa ca p0] [] := St.init (ro_cons hR0 (ro_nil _ _))
 refine enter 6 Try.func46 rfl Try.ntmps46 rfl ?_
 unfold tile_colour at hf
 refine WC.seq (WC.region ?_)
 refine sg 1 [] [0] [(0, (sv Aa p0 ca))] (by kernel_rfl) ?_
 refine WL.done rfl (WX.next (WC.seq (WC.region ?_)))
 refine sg 1 [] [3] [(3, (sv Aa p0 ca))] (by kernel_rfl) ?_
 obtain ⟨t2, ht3, hf⟩ := bind_some hf
 refine WL.call (some 4) 63 #[(sv Aa p0 ca), (.func (.func 64) #[] #[])] (fun fb => by kernel_rfl) (slices_ContainsFunc_int_int_with_tile_colour_1_calls _ p0 Aa ca t2 _ (hS.rd 0) ht3) (fun v w4 hR5 => ?_)
 obtain ⟨rfl, hk_⟩ := hR5
 have hS6 := hS.keepN hk_
 refine ⟨trivial, ?_⟩
 refine sg 4 [] [2] [(2, (bv (!t2)))] (by kernel_rfl) ?_
 refine WL.done rfl (WX.next ?_)
 refine WC.ret ?_
 injection hf with hf
 subst hf
 exact WX.ret_ [] (bv (!t2)) [] (fun fb => by kernel_rfl) trivial ⟨_, rfl, rfl, hS6.keep⟩
theorem tile_Valid_key48 : KeyK Try.prog 48 (aggI ints_Tile) := KeyK.struct (n := 4) (by kernel_rfl) ints_Tile (fun _ => rfl) (fun x y h => by cases x; cases y; simp only [ints_Tile, List.cons.injEq, and_true] at h; obtain ⟨rfl, rfl, rfl, rfl⟩ := h; rfl)
theorem tile_Valid_calls (k : Nat) (p0 : List Tile) (Aa : Option Addr) (ca : Nat) (r : Bool) (w : World) (hR0 : RO NoS w (rowR enc_Tile Aa ca p0)) (hf : tile_Valid k p0 = some r) :
  CallsR Try.prog 33 #[(sv Aa p0 ca)] w (fun v w' => v = (bv r) ∧ Keeps NoS w w') := by
 have hS : St NoS w w [rowR enc_Tile Aa ca p0] [] := St.init (ro_cons hR0 (ro_nil _ _))
 refine enter 35 Try.func33 rfl Try.ntmps33 rfl ?_
 unfold tile_Valid at hf
 refine WC.seq (WC.region ?_)
 refine sg 1 [] [0] [(0, (sv Aa p0 ca))] (by kernel_rfl) ?_
 refine WL.done rfl (WX.next (WC.seq (WC.seq (WC.region ?_))))
 refine sg 3 [] [0, 8] [(0, (sv Aa p0 ca)), (8, (bv (decide ((p0.length : Int) > 1000))))] (by kernel_rfl) ?_
 refine WL.done rfl (WX.next ?_)
 rcases br_some hf with ⟨h3, hf⟩ | ⟨h3, hf⟩
 ·refine WC.condT2 (fun fb => by kernel_rfl) h3 ?_
  refine WC.seq (WC.region ?_)
  refine sg 1 [] [2] [(2, (bv false))] (by kernel_rfl) ?_
  refine WL.done rfl (WX.next ?_)
  refine WC.ret ?_
  injection hf with hf
  subst hf
  exact WX.thenR (WX.ret_ [] (bv false) [] (fun fb => by kernel_rfl) trivial ⟨_, rfl, rfl, hS.keep⟩)
 refine WC.condF2 (fun fb => by kernel_rfl) h3 ?_
 refine WC.skip (WX.next (WC.seq (WC.region ?_)))
 refine WL.new hS 9 [] (fun g => (.map (some g))) (mapObj (aggI ints_Tile) vB ([] : List (Tile × Bool))) [] (fun fb g => by kernel_rfl) trivial (fun g4 w5 hS6 => ?_)
 refine ⟨trivial, ?_⟩
 refine sg 2 [] [0, 3] [(0, (sv Aa p0 ca)), (3, (.map (some g4)))] (by kernel_rfl) ?_
 refine WL.done rfl (WX.next (WC.seq (WC.seq (WC.region ?_))))
 refine sg 3 [] [3, 10, 11, 12] [(3, (.map (some g4))), (10, (sv Aa p0 ca)), (11, (iv (p0.length : Int))), (12, (iv 0))] (by kernel_rfl) ?_
 refine WL.done rfl (WX.next ?_)
 obtain ⟨x9, hx10, hf⟩ := bind_some hf
 let e3 : Nat × Value := (11, (iv (p0.length : Int)))
 let e4 : Nat × Value := (10, (sv Aa p0 ca))
 let e11 : List Nat := [3, 5, 10, 11, 12, 31]
 let e12 := aggI ints_Tile
 refine WC.cutN (T := Unit) (fun t => []) (fun t w1 => St NoS w w1 [rowR enc_Tile Aa ca p0] [] ∧ x9 = .inr t) (fun Kx9 => ?_) ?_
 ·
  refine WC.block ?_
  refine WC.loop (T := (List (Tile × Bool)) × Int) (fun t => [(3, (.map (some g4))), e4, e3, (12, (iv t.2))]) (fun n t w1 => St NoS w w1 [rowR enc_Tile Aa ca p0] [blk g4 (mapObj e12 vB t.1)] ∧ tile_Valid.l0 n t.1 t.2 p0 = some x9) k (([] : List (Tile × Bool)), 0) [3, 10, 11, 12] rfl ⟨(hS6.subR [0]).sub [0] (by decide), hx10⟩ ?_
  rintro k11 ⟨l7, x8⟩ w12 ⟨hS13, hl14⟩
  let e1 := rdD p0 x8 z_Tile
  let e2 : Array Value := #[(iv (e1.N)), (iv (e1.E)), (iv (e1.S)), (iv (e1.W))]
  let e5 := (adr Aa).add ((x8).toNat * 4)
  let e6 : Nat × Value := (12, (iv x8))
  let e7 := iv (e1.N)
  let e8 := iv (e1.E)
  let e9 := iv (e1.S)
  let e10 := iv (e1.W)
  cases k11 with
  | zero => rw [tile_Valid.l0] at hl14; cases hl14
  | succ k11 =>
   rw [tile_Valid.l0] at hl14
   refine WC.seq (WC.region ?_)
   refine sg 1 [] [3, 10, 11, 12, 13] [(3, (.map (some g4))), e4, e3, e6, (13, (bv (decide (x8 < (p0.length : Int)))))] (by kernel_rfl) ?_
   refine WL.done rfl (WX.next (WC.seq ?_))
   rcases br_some hl14 with ⟨h15, hl14⟩ | ⟨h15, hl14⟩
   ·refine WC.condT2 (fun fb => by kernel_rfl) h15 ?_
    refine WC.skip (WX.next (WC.seq (WC.block (WC.seq (WC.region ?_)))))
    obtain ⟨h16, hl14⟩ := as_some hl14
    refine seg 2 [.v e7, .v e8, .v e9, .v e10] [3, 10, 11, 12, 15] [(3, (.map (some g4))), e4, e3, e6, (15, (.agg e2))] [.idx Aa x8 p0.length, .cell e5 e7, .cell (e5.add 1) e8, .cell (e5.add 2) e9, .cell (e5.add 3) e10] (fun fb => by kernel_rfl) rfl ⟨rowR.adr (hS13.rd 0).1 h16.1 h16.2, rowR.cell (hS13.rd 0).1 z_Tile h16.1 h16.2 0 rfl, rowR.cell (hS13.rd 0).1 z_Tile h16.1 h16.2 1 rfl, rowR.cell (hS13.rd 0).1 z_Tile h16.1 h16.2 2 rfl, rowR.cell (hS13.rd 0).1 z_Tile h16.1 h16.2 3 rfl, trivial⟩ ?_
    refine WL.new hS13 5 [] (fun g => (pt g)) (.cells #[(iv 0), (iv 0), (iv 0), (iv 0)] 48 (0, 0)) [] (fun fb g => by kernel_rfl) trivial (fun g17 w18 hS19 => ?_)
    refine ⟨trivial, ?_⟩
    refine WL.store hS19 0 rfl [(0, e7), (1, e8), (2, e9), (3, e10)] e2 (fun fb => by kernel_rfl) (by kernel_rfl) rfl [1] (by decide) (by decide) (fun w20 hS21 => ?_)
    refine ⟨trivial, ?_⟩
    refine WL.done rfl (WX.next (WC.seq (WC.seq (WC.region ?_))))
    refine seg 2 [.v e7, .v e8, .v e9, .v e10] [3, 5, 10, 11, 12, 16, 17] [(3, (.map (some g4))), (5, (pt g17)), e4, e3, e6, (16, (.map (some g4))), (17, (.agg e2))] [.cell ⟨g17, 0, none⟩ e7, .cell ⟨g17, 1, none⟩ e8, .cell ⟨g17, 2, none⟩ e9, .cell ⟨g17, 3, none⟩ e10] (fun fb => by kernel_rfl) rfl ⟨hS21.cell 0 rfl 0 rfl, hS21.cell 0 rfl 1 rfl, hS21.cell 0 rfl 2 rfl, hS21.cell 0 rfl 3 rfl, trivial⟩ ?_
    refine WL.lookup (hS21.own 1).1 e1 (d := 18) (c := false) (t := 79) (kT := 48) (eT := 4) (z := false) (kE := e12) (vE := vB) (l := l7) (bv (mget e1 false l7)) (fun fb => by kernel_rfl) tile_Valid_key48 (by kernel_rfl) (fun _ => by kernel_rfl) rfl ?_
    refine ⟨trivial, ?_⟩
    refine sg 4 [] [3, 5, 10, 11, 12, 19] [(3, (.map (some g4))), (5, (pt g17)), e4, e3, e6, (19, (bv (mget e1 false l7)))] (by kernel_rfl) ?_
    obtain ⟨x22, hx23, hl14⟩ := bind_some hl14
    refine WL.cutW (T := Bool) 16 (fun t => [(3, (.map (some g4))), (5, (pt g17)), e4, e3, e6, (31, (bv t))]) (fun t w1 => (St NoS w w1 [rowR enc_Tile Aa ca p0] [blk g4 (mapObj e12 vB l7), blk g17 (.cells e2 48 (0, 0))] ∧ x22 = t) ∧ CellsOK [] w1) (fun K => ?_) ?_
    ·
     rcases br_some hx23 with ⟨h24, hx23⟩ | ⟨h24, hx23⟩
     ·
      refine WL.setB 19 h24 rfl ?_
      refine sg 16 [] e11 [(3, (.map (some g4))), (5, (pt g17)), e4, e3, e6, (31, (bv true))] (by kernel_rfl) ?_
      injection hx23 with hx23
      exact WL.to K true e11 rfl ⟨⟨(hS21.subR [0]).sub [1, 0] (by decide), hx23.symm⟩, trivial⟩
     refine WL.setB 19 h24 rfl ?_
     refine seg 12 [.v e7, .v e8, .v e9, .v e10] [3, 5, 10, 11, 12, 19, 21, 23, 25, 27] [(3, (.map (some g4))), (5, (pt g17)), e4, e3, e6, (19, (bv false)), (21, e7), (23, e8), (25, e9), (27, e10)] [.cell ⟨g17, 0, none⟩ e7, .cell ⟨g17, 1, none⟩ e8, .cell ⟨g17, 2, none⟩ e9, .cell ⟨g17, 3, none⟩ e10] (fun fb => by kernel_rfl) rfl ⟨hS21.cell 0 rfl 0 rfl, hS21.cell 0 rfl 1 rfl, hS21.cell 0 rfl 2 rfl, hS21.cell 0 rfl 3 rfl, trivial⟩ ?_
     refine WL.new hS21 28 [] (fun g => (.slice (some ⟨g, 0, none⟩) 4 4)) (.cells e2 3 (0, 0)) [] (fun fb g => by kernel_rfl) trivial (fun g25 w26 hS27 => ?_)
     refine ⟨trivial, ?_⟩
     have hS28 := hS.go w26 [rowO 3 encInt (some ⟨g25, 0, none⟩) 4 [e1.N, e1.E, e1.S, e1.W], blk g17 (.cells e2 48 (0, 0)), blk g4 (mapObj e12 vB l7)] (hS27.map1 0 _ (fun h => rowO.ofBlk h rfl (Nat.le_of_ble_eq_true (by kernel_rfl))) (fun _ h => by obtain ⟨_, h1, h2⟩ := h; injection h1 with h1; subst h1; exact h2) [1, 2] (by decide) (by decide))
     obtain ⟨t29, ht30, hx23⟩ := bind_some hx23
     refine WL.call (some 29) 46 #[(sv (some ⟨g25, 0, none⟩) [e1.N, e1.E, e1.S, e1.W] 4)] (fun fb => by kernel_rfl) (tile_colour_calls _ [e1.N, e1.E, e1.S, e1.W] (some ⟨g25, 0, none⟩) 4 t29 _ (hS28.ow 0).ofO ht30) (fun v w31 hR32 => ?_)
     obtain ⟨rfl, hk_⟩ := hR32
     have hS34 := hS28.keepN hk_
     refine ⟨trivial, ?_⟩
     refine sg 16 [] e11 [(3, (.map (some g4))), (5, (pt g17)), e4, e3, e6, (31, (bv (!t29)))] (by kernel_rfl) ?_
     injection hx23 with hx23
     exact WL.to K (!t29) e11 rfl ⟨⟨(hS34.subR [0]).sub [2, 1] (by decide), hx23.symm⟩, trivial⟩
    rintro y35 w37 ⟨⟨hS38, hq36⟩, hF39⟩
    subst hq36
    refine WL.done rfl (WX.next ?_)
    rcases br_some hl14 with ⟨h40, hl14⟩ | ⟨h40, hl14⟩
    ·refine WC.condT2 (fun fb => by kernel_rfl) h40 ?_
     refine WC.seq (WC.region ?_)
     refine sg 1 [] [2] [(2, (bv false))] (by kernel_rfl) ?_
     refine WL.done rfl (WX.next ?_)
     refine WC.ret ?_
     injection hl14 with hl14
     subst hl14
     injection hf with hf
     subst hf
     exact WX.thenR (WX.blockR (WX.thenR (WX.thenR (WX.blockR (WX.thenR (WX.ret_ [] (bv false) [] (fun fb => by kernel_rfl) trivial ⟨_, rfl, rfl, hS38.keep⟩))))))
    refine WC.condF2 (fun fb => by kernel_rfl) h40 ?_
    refine WC.skip (WX.next (WC.region ?_))
    refine seg 2 [.v e7, .v e8, .v e9, .v e10] [3, 10, 11, 12, 32, 33] [(3, (.map (some g4))), e4, e3, e6, (32, (.map (some g4))), (33, (.agg e2))] [.cell ⟨g17, 0, none⟩ e7, .cell ⟨g17, 1, none⟩ e8, .cell ⟨g17, 2, none⟩ e9, .cell ⟨g17, 3, none⟩ e10] (fun fb => by kernel_rfl) rfl ⟨hS38.cell 1 rfl 0 rfl, hS38.cell 1 rfl 1 rfl, hS38.cell 1 rfl 2 rfl, hS38.cell 1 rfl 3 rfl, trivial⟩ ?_
    refine WL.mapput hS38 0 (t := 79) (kT := 48) (eT := 4) (kE := e12) (vE := vB) (l := l7) rfl e1 true (fun fb => by kernel_rfl) tile_Valid_key48 (by kernel_rfl) [1] (by decide) (by decide) (fun w41 hS42 => ?_)
    refine ⟨trivial, ?_⟩
    refine WL.done rfl ?_
    refine WX.blockN (WX.next ?_)
    refine WC.region ?_
    refine sg 2 [] [3, 10, 11, 12] [(3, (.map (some g4))), e4, e3, (12, (iv (w64 (x8 + 1))))] (by kernel_rfl) ?_
    refine WL.done rfl ?_
    exact WX.again k11 (Nat.lt_succ_self _) (mput e1 true l7, w64 (x8 + 1)) [3, 10, 11, 12] rfl ⟨(hS42.subR [0]).sub [0] (by decide), hl14⟩
   refine WC.condF2 (fun fb => by kernel_rfl) h15 ?_
   refine WC.exit ?_
   injection hl14 with hl14
   exact WX.thenX (WX.thenX (WX.blockHere (WX.to Kx9 () [] rfl ⟨(hS13.subR [0]).sub [] (by decide), hl14.symm⟩)))
 rintro y46 w43 ⟨hS44, hq45⟩
 subst hq45
 have hf := sum_inr hf
 refine WX.next (WC.seq (WC.region ?_))
 refine sg 1 [] [2] [(2, (bv true))] (by kernel_rfl) ?_
 refine WL.done rfl (WX.next ?_)
 refine WC.ret ?_
 injection hf with hf
 subst hf
 exact WX.ret_ [] (bv true) [] (fun fb => by kernel_rfl) trivial ⟨_, rfl, rfl, hS44.keep⟩
theorem census_orders_calls (p0 : List Tile) (Aa : Option Addr) (ca : Nat) (r : Unit) (w : World) (hR0 : RO NoS w (rowR enc_Tile Aa ca p0)) (hf : census_orders p0 = some r) :
  CallsR Try.prog 47 #[(sv Aa p0 ca)] w (fun v w' => ∃ (g1_ : Nat), v = (.func (.func 65) #[] #[(pt g1_)]) ∧ St NoS w w' [] [blk g1_ (.cells #[(sv Aa p0 ca)] 28 (0, 0))]) := by
 have hS : St NoS w w [rowR enc_Tile Aa ca p0] [] := St.init (ro_cons hR0 (ro_nil _ _))
 refine enter 4 Try.func47 rfl Try.ntmps47 rfl ?_
 unfold census_orders at hf
 refine WC.seq (WC.region ?_)
 refine WL.new hS 1 [] (fun g => (pt g)) (.cells #[(sv Aa p0 ca)] 28 (0, 0)) [] (fun fb g => by kernel_rfl) trivial (fun g2 w3 hS4 => ?_)
 refine ⟨trivial, ?_⟩
 refine sg 2 [] [1] [(1, (pt g2))] (by kernel_rfl) ?_
 refine WL.done rfl (WX.next (WC.seq (WC.region ?_)))
 refine sg 2 [] [2] [(2, (.func (.func 65) #[] #[(pt g2)]))] (by kernel_rfl) ?_
 refine WL.done rfl (WX.next ?_)
 refine WC.ret ?_
 injection hf with hf
 subst hf
 exact WX.ret_ [] (.func (.func 65) #[] #[(pt g2)]) [] (fun fb => by kernel_rfl) trivial ⟨_, rfl, g2, rfl, (hS4.sub [0] (by decide)).noR⟩
theorem census_names_of_key3 : KeyK Try.prog 3 (vI .i64) := KeyK.int (by kernel_rfl)
theorem census_names_of_calls (p0 : List (Int × Int)) (p1 : Int) (gm_p0 : Nat) (r : Int × (List (Int × Int))) (w : World) (hI : IoOK w [blk gm_p0 (mapObj (vI .i64) (vI .i64) p0)]) (hf : census_names_of p0 p1 = some r) :
  CallsR Try.prog 68 #[(.map (some gm_p0)), (iv p1)] w (fun v w' => v = (iv r.1) ∧ St (fpL [blk gm_p0 (mapObj (vI .i64) (vI .i64) p0)]) w w' [] [blk gm_p0 (mapObj (vI .i64) (vI .i64) r.2)]) := by
 have hS : St (fpL [blk gm_p0 (mapObj (vI .i64) (vI .i64) p0)]) w w [] [blk gm_p0 (mapObj (vI .i64) (vI .i64) p0)] := St.initIO (ro_nil _ _) hI
 refine enter 22 Try.func68 rfl Try.ntmps68 rfl ?_
 unfold census_names_of at hf
 refine WC.seq (WC.region ?_)
 refine sg 1 [] [0, 1] [(0, (.map (some gm_p0))), (1, (iv p1))] (by kernel_rfl) ?_
 refine WL.done rfl (WX.next (WC.seq (WC.seq (WC.region ?_))))
 refine sg 2 [] [0, 1, 8, 9] [(0, (.map (some gm_p0))), (1, (iv p1)), (8, (.map (some gm_p0))), (9, (iv p1))] (by kernel_rfl) ?_
 refine WL.lookup (hS.own 0).1 p1 (d := 10) (c := true) (t := 106) (kT := 3) (eT := 3) (z := 0) (kE := (vI .i64)) (vE := (vI .i64)) (l := p0) (.tuple #[(iv (mget p1 0 p0)), (bv (mhas p1 p0))]) (fun fb => by kernel_rfl) census_names_of_key3 (by kernel_rfl) (fun _ => by kernel_rfl) rfl ?_
 refine ⟨trivial, ?_⟩
 refine sg 8 [] [0, 1, 6] [(0, (.map (some gm_p0))), (1, (iv p1)), (6, (bv (mhas p1 p0)))] (by kernel_rfl) ?_
 refine WL.done rfl (WX.next (WC.seq (WC.region ?_)))
 refine sg 2 [] [0, 1, 14] [(0, (.map (some gm_p0))), (1, (iv p1)), (14, (bv (!(mhas p1 p0))))] (by kernel_rfl) ?_
 refine WL.done rfl (WX.next ?_)
 obtain ⟨x4, hx5, hf⟩ := bind_some hf
 refine WC.cutN (T := (List (Int × Int))) (fun t => [(0, (.map (some gm_p0))), (1, (iv p1))]) (fun t w1 => St (fpL [blk gm_p0 (mapObj (vI .i64) (vI .i64) p0)]) w w1 [] [blk gm_p0 (mapObj (vI .i64) (vI .i64) t)] ∧ x4 = t) (fun Kx4 => ?_) ?_
 ·
  rcases br_some hx5 with ⟨h6, hx5⟩ | ⟨h6, hx5⟩
  ·refine WC.condT2 (fun fb => by kernel_rfl) h6 ?_
   refine WC.region ?_
   refine sg 3 [] [0, 1, 15, 16, 17] [(0, (.map (some gm_p0))), (1, (iv p1)), (15, (.map (some gm_p0))), (16, (iv p1)), (17, (.map (some gm_p0)))] (by kernel_rfl) ?_
   refine seg 4 [.o (mapObj (vI .i64) (vI .i64) p0)] [0, 1, 15, 16, 18] [(0, (.map (some gm_p0))), (1, (iv p1)), (15, (.map (some gm_p0))), (16, (iv p1)), (18, (iv (((ents (vI .i64) (vI .i64) 0 p0).toArray.size : Nat) : Int)))] [.obj gm_p0 (mapObj (vI .i64) (vI .i64) p0)] (fun fb => by kernel_rfl) rfl ⟨(mapObj_req (hS.own 0).1), trivial⟩ ?_
   refine WL.reE [0, 1, 15, 16, 18] [(0, (.map (some gm_p0))), (1, (iv p1)), (15, (.map (some gm_p0))), (16, (iv p1)), (18, (iv (((ents (vI .i64) (vI .i64) 0 p0).toArray.size : Nat) : Int)))] [(0, (.map (some gm_p0))), (1, (iv p1)), (15, (.map (some gm_p0))), (16, (iv p1)), (18, (iv (p0.length : Int)))] rfl (by rw [ents_size]) ?_
   refine WL.mapput hS 0 (t := 106) (kT := 3) (eT := 3) (kE := (vI .i64)) (vE := (vI .i64)) (l := p0) rfl p1 (p0.length : Int) (fun fb => by kernel_rfl) census_names_of_key3 (by kernel_rfl) [] (by decide) (by decide) (fun w7 hS8 => ?_)
   refine ⟨trivial, ?_⟩
   refine WL.done rfl ?_
   injection hx5 with hx5
   exact WX.to Kx4 (mput p1 (p0.length : Int) p0) [0, 1] rfl ⟨(hS8.subR []).sub [0] (by decide), hx5.symm⟩
  refine WC.condF2 (fun fb => by kernel_rfl) h6 ?_
  refine WC.skip ?_
  injection hx5 with hx5
  exact WX.to Kx4 p0 [0, 1] rfl ⟨(hS.subR []).sub [0] (by decide), hx5.symm⟩
 rintro y12 w9 ⟨hS10, hq11⟩
 subst hq11
 refine WX.next (WC.seq (WC.region ?_))
 refine sg 2 [] [19, 20] [(19, (.map (some gm_p0))), (20, (iv p1))] (by kernel_rfl) ?_
 refine WL.lookup (hS10.own 0).1 p1 (d := 21) (c := false) (t := 106) (kT := 3) (eT := 3) (z := 0) (kE := (vI .i64)) (vE := (vI .i64)) (l := x4) (iv (mget p1 0 x4)) (fun fb => by kernel_rfl) census_names_of_key3 (by kernel_rfl) (fun _ => by kernel_rfl) rfl ?_
 refine ⟨trivial, ?_⟩
 refine sg 4 [] [4] [(4, (iv (mget p1 0 x4)))] (by kernel_rfl) ?_
 refine WL.done rfl (WX.next ?_)
 refine WC.ret ?_
 injection hf with hf
 subst hf
 exact WX.ret_ [] (iv (mget p1 0 x4)) [] (fun fb => by kernel_rfl) trivial ⟨_, rfl, rfl, (hS10.sub [0] (by decide)).noR⟩
theorem census_renamed_calls (k : Nat) (p0 : List Tile) (Aa : Option Addr) (ca : Nat) (r : (List Tile)) (w : World) (hR0 : RO NoS w (rowR enc_Tile Aa ca p0)) (hf : census_renamed k p0 = some r) :
  CallsR Try.prog 48 #[(sv Aa p0 ca)] w (fun v w' => ∃ (A1_ : Option Addr), ∃ (c1_ : Nat), v = (sv A1_ r c1_) ∧ St NoS w w' [] [rowO 48 enc_Tile A1_ c1_ r]) := by
 have hS : St NoS w w [rowR enc_Tile Aa ca p0] [] := St.init (ro_cons hR0 (ro_nil _ _))
 refine enter 38 Try.func48 rfl Try.ntmps48 rfl ?_
 unfold census_renamed at hf
 refine WC.seq (WC.region ?_)
 refine sg 1 [] [0] [(0, (sv Aa p0 ca))] (by kernel_rfl) ?_
 refine WL.done rfl (WX.next (WC.seq (WC.region ?_)))
 refine WL.new hS 8 [] (fun g => (.map (some g))) (mapObj (vI .i64) (vI .i64) ([] : List (Int × Int))) [] (fun fb g => by kernel_rfl) trivial (fun g3 w4 hS5 => ?_)
 refine ⟨trivial, ?_⟩
 refine WL.new hS5 9 [] (fun g => (.map (some g))) (mapObj (vI .i64) (vI .i64) ([] : List (Int × Int))) [] (fun fb g => by kernel_rfl) trivial (fun g6 w7 hS8 => ?_)
 refine ⟨trivial, ?_⟩
 refine sg 4 [] [0, 3, 4] [(0, (sv Aa p0 ca)), (3, (.map (some g3))), (4, (.map (some g6)))] (by kernel_rfl) ?_
 refine WL.done rfl (WX.next (WC.seq (WC.region ?_)))
 refine sg 1 [] [0, 3, 4, 5] [(0, (sv Aa p0 ca)), (3, (.map (some g3))), (4, (.map (some g6))), (5, (.slice none 0 0))] (by kernel_rfl) ?_
 refine WL.done rfl (WX.next (WC.seq (WC.seq (WC.region ?_))))
 refine sg 3 [] [3, 4, 5, 10, 11, 12] [(3, (.map (some g3))), (4, (.map (some g6))), (5, (.slice none 0 0)), (10, (sv Aa p0 ca)), (11, (iv (p0.length : Int))), (12, (iv 0))] (by kernel_rfl) ?_
 refine WL.done rfl (WX.next ?_)
 have hS9 := hS8.nilrow 48 enc_Tile
 obtain ⟨x18, hx19, hf⟩ := bind_some hf
 let e3 : Nat × Value := (11, (iv (p0.length : Int)))
 let e4 : Nat × Value := (10, (sv Aa p0 ca))
 let e10 : List Nat := [3, 4, 5, 10, 11, 12]
 refine WC.cutN (T := (List Tile) × (Option Addr) × Nat) (fun t => [(5, (sv t.2.1 t.1 t.2.2))]) (fun t w1 => St NoS w w1 [rowR enc_Tile Aa ca p0] [rowO 48 enc_Tile t.2.1 t.2.2 t.1] ∧ x18 = t.1) (fun Kx18 => ?_) ?_
 ·
  refine WC.block ?_
  refine WC.loop (T := ((List (Int × Int)) × (List (Int × Int)) × (List Tile) × Int) × (Option Addr) × Nat) (fun t => [(3, (.map (some g3))), (4, (.map (some g6))), (5, (sv t.2.1 t.1.2.2.1 t.2.2)), e4, e3, (12, (iv t.1.2.2.2))]) (fun n t w1 => St NoS w w1 [rowR enc_Tile Aa ca p0] [blk g3 (mapObj (vI .i64) (vI .i64) t.1.1), blk g6 (mapObj (vI .i64) (vI .i64) t.1.2.1), rowO 48 enc_Tile t.2.1 t.2.2 t.1.2.2.1] ∧ census_renamed.l0 n t.1.1 t.1.2.1 t.1.2.2.1 t.1.2.2.2 p0 = some x18) k ((([] : List (Int × Int)), ([] : List (Int × Int)), ([] : List Tile), 0), none, 0) e10 rfl ⟨(hS9.subR [0]).sub [2, 1, 0] (by decide), hx19⟩ ?_
  rintro k20 ⟨⟨l10, l11, l14, x15⟩, A12, c13⟩ w21 ⟨hS22, hl23⟩
  let e1 := rdD p0 x15 z_Tile
  let e2 : Array Value := #[(iv (e1.N)), (iv (e1.E)), (iv (e1.S)), (iv (e1.W))]
  let e5 := (adr Aa).add ((x15).toNat * 4)
  let e6 := iv (e1.N)
  let e7 := iv (e1.E)
  let e8 := iv (e1.S)
  let e9 := iv (e1.W)
  cases k20 with
  | zero => rw [census_renamed.l0] at hl23; cases hl23
  | succ k20 =>
   rw [census_renamed.l0] at hl23
   refine WC.seq (WC.region ?_)
   refine sg 1 [] [3, 4, 5, 10, 11, 12, 13] [(3, (.map (some g3))), (4, (.map (some g6))), (5, (sv A12 l14 c13)), e4, e3, (12, (iv x15)), (13, (bv (decide (x15 < (p0.length : Int)))))] (by kernel_rfl) ?_
   refine WL.done rfl (WX.next (WC.seq ?_))
   rcases br_some hl23 with ⟨h24, hl23⟩ | ⟨h24, hl23⟩
   ·refine WC.condT2 (fun fb => by kernel_rfl) h24 ?_
    refine WC.skip (WX.next (WC.seq (WC.block (WC.seq (WC.region ?_)))))
    obtain ⟨h25, hl23⟩ := as_some hl23
    refine seg 2 [.v e6, .v e7, .v e8, .v e9] [3, 4, 5, 10, 11, 12, 15] [(3, (.map (some g3))), (4, (.map (some g6))), (5, (sv A12 l14 c13)), e4, e3, (12, (iv x15)), (15, (.agg e2))] [.idx Aa x15 p0.length, .cell e5 e6, .cell (e5.add 1) e7, .cell (e5.add 2) e8, .cell (e5.add 3) e9] (fun fb => by kernel_rfl) rfl ⟨rowR.adr (hS22.rd 0).1 h25.1 h25.2, rowR.cell (hS22.rd 0).1 z_Tile h25.1 h25.2 0 rfl, rowR.cell (hS22.rd 0).1 z_Tile h25.1 h25.2 1 rfl, rowR.cell (hS22.rd 0).1 z_Tile h25.1 h25.2 2 rfl, rowR.cell (hS22.rd 0).1 z_Tile h25.1 h25.2 3 rfl, trivial⟩ ?_
    refine WL.new hS22 7 [] (fun g => (pt g)) (.cells #[(iv 0), (iv 0), (iv 0), (iv 0)] 48 (0, 0)) [] (fun fb g => by kernel_rfl) trivial (fun g26 w27 hS28 => ?_)
    refine ⟨trivial, ?_⟩
    refine WL.store hS28 0 rfl [(0, e6), (1, e7), (2, e8), (3, e9)] e2 (fun fb => by kernel_rfl) (by kernel_rfl) rfl [1, 2, 3] (by decide) (by decide) (fun w29 hS30 => ?_)
    refine ⟨trivial, ?_⟩
    refine WL.done rfl (WX.next ?_)
    refine WC.regionD ([(3, ⟨g26, 0, none⟩, e6), (7, ⟨g26, 1, none⟩, e7), (11, ⟨g26, 2, none⟩, e8), (15, ⟨g26, 3, none⟩, e9)], [0, 1, 2, 3, 5, 6, 7, 9, 10, 11, 13, 14, 15, 17, 20], [[], [], [], [2], [1, 2, 3], [], [], [6], [1, 2, 3, 4, 5, 6, 7], [], [], [10], [1, 2, 3, 4, 5, 6, 7, 8, 9, 10, 11], [], [], [14], [1, 2, 3, 4, 5, 6, 7, 8, 9, 10, 11, 12, 13, 14, 15], [1, 2, 3, 4, 5, 6, 7, 8, 9, 10, 11, 12, 13, 14, 15, 16], [1, 2, 3, 4, 5, 6, 7, 8, 9, 10, 11, 12, 13, 14, 15, 16, 17], [0, 1, 2, 3, 4, 5, 6, 7, 8, 9, 10, 11, 12, 13, 14, 15, 16, 17, 18], [0, 1, 2, 3, 4, 5, 6, 7, 8, 9, 10, 11, 12, 13, 14, 15, 16, 17, 18, 19]]) [[0, 1, 2, 3, 5, 6, 7, 9, 10, 11, 13, 14, 15, 4, 8, 12, 16, 17, 18, 19, 20]] (by kernel_rfl) (by kernel_rfl) (NoPanic.block (NoPanic.seq (NoPanic.seq (NoPanic.block (NoPanic.seq (NoPanic.body)))))) ?_
    have hS32 := hS30.drew
    revert hS32
    generalize World.drew w29 = w31
    intro hS32
    refine ⟨⟨hS32.cell 0 rfl 0 rfl, hS32.cell 0 rfl 1 rfl, hS32.cell 0 rfl 2 rfl, hS32.cell 0 rfl 3 rfl, trivial⟩, forallC ?_ (forallN)⟩
    refine segF 13 [.v e6, .v e7, .v e8, .v e9] [3, 4, 10, 11, 12, 16, 17, 19, 21, 23, 25, 27, 29, 31] [(3, (.map (some g3))), (4, (.map (some g6))), e4, e3, (12, (iv x15)), (16, (sv A12 l14 c13)), (17, (.map (some g3))), (19, e6), (21, (.map (some g6))), (23, e7), (25, (.map (some g3))), (27, e8), (29, (.map (some g6))), (31, e9)] [] [0, 1, 2, 3] [(3, ⟨g26, 0, none⟩, e6), (7, ⟨g26, 1, none⟩, e7), (11, ⟨g26, 2, none⟩, e8), (15, ⟨g26, 3, none⟩, e9)] (fun fb => by kernel_rfl) rfl trivial rfl ?_
    obtain ⟨t33, ht34, hl23⟩ := bind_some hl23
    refine WL.call (some 20) 68 #[(.map (some g3)), e6] (fun fb => by kernel_rfl) (census_names_of_calls l10 (e1.N) g3 t33 _ (hS32.io [1] (by decide)) ht34) (fun v w35 hR36 => ?_)
    obtain ⟨rfl, hk_⟩ := hR36
    have hS37 := hS.go w35 [blk g3 (mapObj (vI .i64) (vI .i64) t33.2), blk g26 (.cells e2 48 (0, 0)), blk g6 (mapObj (vI .i64) (vI .i64) l11), rowO 48 enc_Tile A12 c13 l14] (hS32.call hk_ [1] [0, 2, 3] (fun g hg => fpL_sel g hg) (by decide) (by decide))
    refine ⟨⟨hS37.cell 1 rfl 1 rfl, hS37.cell 1 rfl 2 rfl, hS37.cell 1 rfl 3 rfl, trivial⟩, ?_⟩
    obtain ⟨t38, ht39, hl23⟩ := bind_some hl23
    refine WL.call (some 24) 68 #[(.map (some g6)), e7] (fun fb => by kernel_rfl) (census_names_of_calls l11 (e1.E) g6 t38 _ (hS37.io [2] (by decide)) ht39) (fun v w40 hR41 => ?_)
    obtain ⟨rfl, hk_⟩ := hR41
    have hS42 := hS37.go w40 [blk g6 (mapObj (vI .i64) (vI .i64) t38.2), blk g3 (mapObj (vI .i64) (vI .i64) t33.2), blk g26 (.cells e2 48 (0, 0)), rowO 48 enc_Tile A12 c13 l14] (hS37.call hk_ [2] [0, 1, 3] (fun g hg => fpL_sel g hg) (by decide) (by decide))
    refine ⟨⟨hS42.cell 2 rfl 2 rfl, hS42.cell 2 rfl 3 rfl, trivial⟩, ?_⟩
    obtain ⟨t43, ht44, hl23⟩ := bind_some hl23
    refine WL.call (some 28) 68 #[(.map (some g3)), e8] (fun fb => by kernel_rfl) (census_names_of_calls t33.2 (e1.S) g3 t43 _ (hS42.io [1] (by decide)) ht44) (fun v w45 hR46 => ?_)
    obtain ⟨rfl, hk_⟩ := hR46
    have hS47 := hS42.go w45 [blk g3 (mapObj (vI .i64) (vI .i64) t43.2), blk g6 (mapObj (vI .i64) (vI .i64) t38.2), blk g26 (.cells e2 48 (0, 0)), rowO 48 enc_Tile A12 c13 l14] (hS42.call hk_ [1] [0, 2, 3] (fun g hg => fpL_sel g hg) (by decide) (by decide))
    refine ⟨⟨hS47.cell 2 rfl 3 rfl, trivial⟩, ?_⟩
    obtain ⟨t49, ht50, hl23⟩ := bind_some hl23
    refine WL.call (some 32) 68 #[(.map (some g6)), e9] (fun fb => by kernel_rfl) (census_names_of_calls t38.2 (e1.W) g6 t49 _ (hS47.io [1] (by decide)) ht50) (fun v w51 hR52 => ?_)
    obtain ⟨rfl, hk_⟩ := hR52
    have hS53 := hS47.go w51 [blk g6 (mapObj (vI .i64) (vI .i64) t49.2), blk g3 (mapObj (vI .i64) (vI .i64) t43.2), blk g26 (.cells e2 48 (0, 0)), rowO 48 enc_Tile A12 c13 l14] (hS47.call hk_ [1] [0, 2, 3] (fun g hg => fpL_sel g hg) (by decide) (by decide))
    refine ⟨trivial, ?_⟩
    refine sg 18 [] [3, 4, 10, 11, 12, 16, 33] [(3, (.map (some g3))), (4, (.map (some g6))), e4, e3, (12, (iv x15)), (16, (sv A12 l14 c13)), (33, (.agg #[(iv t33.1), (iv t38.1), (iv t43.1), (iv t49.1)]))] (by kernel_rfl) ?_
    refine WL.new hS53 34 [] (fun g => (.slice (some ⟨g, 0, none⟩) 1 1)) (.cells #[(iv t33.1), (iv t38.1), (iv t43.1), (iv t49.1)] 48 (0, 0)) [] (fun fb g => by kernel_rfl) trivial (fun g54 w55 hS56 => ?_)
    refine ⟨trivial, ?_⟩
    have hS57 := hS53.go w55 [rowO 48 enc_Tile (some ⟨g54, 0, none⟩) 1 [(Tile.mk t33.1 t38.1 t43.1 t49.1)], blk g6 (mapObj (vI .i64) (vI .i64) t49.2), blk g3 (mapObj (vI .i64) (vI .i64) t43.2), blk g26 (.cells e2 48 (0, 0)), rowO 48 enc_Tile A12 c13 l14] (hS56.map1 0 _ (fun h => rowO.ofBlk h rfl (Nat.le_of_ble_eq_true (by kernel_rfl))) (fun _ h => by obtain ⟨_, h1, h2⟩ := h; injection h1 with h1; subst h1; exact h2) [1, 2, 3, 4] (by decide) (by decide))
    obtain ⟨h58, hl23⟩ := as_some hl23
    refine WL.append hS57 4 (d := 35) (tS := 28) (z := (.agg #[(iv 0), (iv 0), (iv 0), (iv 0)])) (bytes := 32) (c2 := 1) rfl (fun fb => by kernel_rfl) (rowO.rd (hS57.own 0).1) (by kernel_rfl) (by kernel_rfl) rfl (by decide) h58 (by decide) [0, 1, 2, 3] (by decide) (by decide) (fun A59 c60 w61 hS62 => ?_)
    refine ⟨trivial, ?_⟩
    refine sg 21 [] e10 [(3, (.map (some g3))), (4, (.map (some g6))), (5, (sv A59 (l14 ++ [(Tile.mk t33.1 t38.1 t43.1 t49.1)]) c60)), e4, e3, (12, (iv x15))] (by kernel_rfl) ?_
    refine WL.done rfl ?_
    refine WX.blockN (WX.next ?_)
    refine WC.region ?_
    refine sg 2 [] e10 [(3, (.map (some g3))), (4, (.map (some g6))), (5, (sv A59 (l14 ++ [(Tile.mk t33.1 t38.1 t43.1 t49.1)]) c60)), e4, e3, (12, (iv (w64 (x15 + 1))))] (by kernel_rfl) ?_
    refine WL.done rfl ?_
    exact WX.again k20 (Nat.lt_succ_self _) ((t43.2, t49.2, l14 ++ [(Tile.mk t33.1 t38.1 t43.1 t49.1)], w64 (x15 + 1)), A59, c60) e10 rfl ⟨(hS62.subR [0]).sub [3, 2, 0] (by decide), hl23⟩
   refine WC.condF2 (fun fb => by kernel_rfl) h24 ?_
   refine WC.exit ?_
   injection hl23 with hl23
   exact WX.thenX (WX.thenX (WX.blockHere (WX.to Kx18 (l14, A12, c13) [5] rfl ⟨(hS22.subR [0]).sub [2] (by decide), hl23.symm⟩)))
 rintro ⟨y67, A16, c17⟩ w63 ⟨hS65, hq66⟩
 subst hq66
 refine WX.next (WC.seq (WC.region ?_))
 refine sg 2 [] [2] [(2, (sv A16 x18 c17))] (by kernel_rfl) ?_
 refine WL.done rfl (WX.next ?_)
 refine WC.ret ?_
 injection hf with hf
 subst hf
 exact WX.ret_ [] (sv A16 x18 c17) [] (fun fb => by kernel_rfl) trivial ⟨_, rfl, A16, c17, rfl, (hS65.sub [0] (by decide)).noR⟩
theorem census_numbers_calls (k : Nat) (p0 : List Tile) (Aa : Option Addr) (ca : Nat) (r : (List Int)) (w : World) (hR0 : RO NoS w (rowR enc_Tile Aa ca p0)) (hf : census_numbers k p0 = some r) :
  CallsR Try.prog 56 #[(sv Aa p0 ca)] w (fun v w' => ∃ (A1_ : Option Addr), ∃ (c1_ : Nat), v = (sv A1_ r c1_) ∧ St NoS w w' [] [rowO 3 encInt A1_ c1_ r]) := by
 have hS : St NoS w w [rowR enc_Tile Aa ca p0] [] := St.init (ro_cons hR0 (ro_nil _ _))
 refine enter 25 Try.func56 rfl Try.ntmps56 rfl ?_
 unfold census_numbers at hf
 refine WC.seq (WC.region ?_)
 refine sg 1 [] [0] [(0, (sv Aa p0 ca))] (by kernel_rfl) ?_
 refine WL.done rfl (WX.next (WC.seq (WC.region ?_)))
 refine sg 1 [] [0, 3] [(0, (sv Aa p0 ca)), (3, (.slice none 0 0))] (by kernel_rfl) ?_
 refine WL.done rfl (WX.next (WC.seq (WC.seq (WC.region ?_))))
 refine sg 3 [] [3, 6, 7, 8] [(3, (.slice none 0 0)), (6, (sv Aa p0 ca)), (7, (iv (p0.length : Int))), (8, (iv 0))] (by kernel_rfl) ?_
 refine WL.done rfl (WX.next ?_)
 have hS3 := hS.nilrow 3 encInt
 obtain ⟨x10, hx11, hf⟩ := bind_some hf
 let e3 : Nat × Value := (7, (iv (p0.length : Int)))
 let e5 : Nat × Value := (6, (sv Aa p0 ca))
 refine WC.cutN (T := (List Int) × (Option Addr) × Nat) (fun t => [(3, (sv t.2.1 t.1 t.2.2))]) (fun t w1 => St NoS w w1 [rowR enc_Tile Aa ca p0] [rowO 3 encInt t.2.1 t.2.2 t.1] ∧ x10 = t.1) (fun Kx10 => ?_) ?_
 ·
  refine WC.block ?_
  refine WC.loop (T := ((List Int) × Int) × (Option Addr) × Nat) (fun t => [(3, (sv t.2.1 t.1.1 t.2.2)), e5, e3, (8, (iv t.1.2))]) (fun n t w1 => St NoS w w1 [rowR enc_Tile Aa ca p0] [rowO 3 encInt t.2.1 t.2.2 t.1.1] ∧ census_numbers.l0 n t.1.1 t.1.2 p0 = some x10) k ((([] : List Int), 0), none, 0) [3, 6, 7, 8] rfl ⟨(hS3.subR [0]).sub [0] (by decide), hx11⟩ ?_
  rintro k12 ⟨⟨l6, x7⟩, A4, c5⟩ w13 ⟨hS14, hl15⟩
  let e1 := rdD p0 x7 z_Tile
  let e2 : Array Value := #[(iv (e1.N)), (iv (e1.E)), (iv (e1.S)), (iv (e1.W))]
  let e4 := (adr Aa).add ((x7).toNat * 4)
  let e6 := [e1.N, e1.E, e1.S, e1.W]
  cases k12 with
  | zero => rw [census_numbers.l0] at hl15; cases hl15
  | succ k12 =>
   rw [census_numbers.l0] at hl15
   refine WC.seq (WC.region ?_)
   refine sg 1 [] [3, 6, 7, 8, 9] [(3, (sv A4 l6 c5)), e5, e3, (8, (iv x7)), (9, (bv (decide (x7 < (p0.length : Int)))))] (by kernel_rfl) ?_
   refine WL.done rfl (WX.next (WC.seq ?_))
   rcases br_some hl15 with ⟨h16, hl15⟩ | ⟨h16, hl15⟩
   ·refine WC.condT2 (fun fb => by kernel_rfl) h16 ?_
    refine WC.skip (WX.next (WC.seq (WC.block (WC.seq (WC.region ?_)))))
    obtain ⟨h17, hl15⟩ := as_some hl15
    refine seg 2 [.v (iv (e1.N)), .v (iv (e1.E)), .v (iv (e1.S)), .v (iv (e1.W))] [3, 6, 7, 8, 11] [(3, (sv A4 l6 c5)), e5, e3, (8, (iv x7)), (11, (.agg e2))] [.idx Aa x7 p0.length, .cell e4 (iv (e1.N)), .cell (e4.add 1) (iv (e1.E)), .cell (e4.add 2) (iv (e1.S)), .cell (e4.add 3) (iv (e1.W))] (fun fb => by kernel_rfl) rfl ⟨rowR.adr (hS14.rd 0).1 h17.1 h17.2, rowR.cell (hS14.rd 0).1 z_Tile h17.1 h17.2 0 rfl, rowR.cell (hS14.rd 0).1 z_Tile h17.1 h17.2 1 rfl, rowR.cell (hS14.rd 0).1 z_Tile h17.1 h17.2 2 rfl, rowR.cell (hS14.rd 0).1 z_Tile h17.1 h17.2 3 rfl, trivial⟩ ?_
    refine WL.new hS14 5 [] (fun g => (pt g)) (.cells #[(iv 0), (iv 0), (iv 0), (iv 0)] 48 (0, 0)) [] (fun fb g => by kernel_rfl) trivial (fun g18 w19 hS20 => ?_)
    refine ⟨trivial, ?_⟩
    refine WL.store hS20 0 rfl [(0, (iv (e1.N))), (1, (iv (e1.E))), (2, (iv (e1.S))), (3, (iv (e1.W)))] e2 (fun fb => by kernel_rfl) (by kernel_rfl) rfl [1] (by decide) (by decide) (fun w21 hS22 => ?_)
    refine ⟨trivial, ?_⟩
    refine WL.done rfl (WX.next (WC.region ?_))
    refine seg 9 [.v (iv (e1.N)), .v (iv (e1.E)), .v (iv (e1.S)), .v (iv (e1.W))] [6, 7, 8, 12, 14, 16, 18, 20] [e5, e3, (8, (iv x7)), (12, (sv A4 l6 c5)), (14, (iv (e1.N))), (16, (iv (e1.E))), (18, (iv (e1.S))), (20, (iv (e1.W)))] [.cell ⟨g18, 0, none⟩ (iv (e1.N)), .cell ⟨g18, 1, none⟩ (iv (e1.E)), .cell ⟨g18, 2, none⟩ (iv (e1.S)), .cell ⟨g18, 3, none⟩ (iv (e1.W))] (fun fb => by kernel_rfl) rfl ⟨hS22.cell 0 rfl 0 rfl, hS22.cell 0 rfl 1 rfl, hS22.cell 0 rfl 2 rfl, hS22.cell 0 rfl 3 rfl, trivial⟩ ?_
    refine WL.new hS22 21 [] (fun g => (.slice (some ⟨g, 0, none⟩) 4 4)) (.cells e2 3 (0, 0)) [] (fun fb g => by kernel_rfl) trivial (fun g23 w24 hS25 => ?_)
    refine ⟨trivial, ?_⟩
    have hS26 := hS.go w24 [rowO 3 encInt (some ⟨g23, 0, none⟩) 4 e6, blk g18 (.cells e2 48 (0, 0)), rowO 3 encInt A4 c5 l6] (hS25.map1 0 _ (fun h => rowO.ofBlk h rfl (Nat.le_of_ble_eq_true (by kernel_rfl))) (fun _ h => by obtain ⟨_, h1, h2⟩ := h; injection h1 with h1; subst h1; exact h2) [1, 2] (by decide) (by decide))
    obtain ⟨h27, hl15⟩ := as_some hl15
    refine WL.append hS26 2 (d := 22) (tS := 37) (z := (iv 0)) (bytes := 8) (c2 := 4) rfl (fun fb => by kernel_rfl) (rowO.rd (hS26.own 0).1) (by kernel_rfl) (by kernel_rfl) rfl (by decide) h27 (by decide) [0, 1] (by decide) (by decide) (fun A28 c29 w30 hS31 => ?_)
    refine ⟨trivial, ?_⟩
    refine sg 12 [] [3, 6, 7, 8] [(3, (sv A28 (l6 ++ e6) c29)), e5, e3, (8, (iv x7))] (by kernel_rfl) ?_
    refine WL.done rfl ?_
    refine WX.blockN (WX.next ?_)
    refine WC.region ?_
    refine sg 2 [] [3, 6, 7, 8] [(3, (sv A28 (l6 ++ e6) c29)), e5, e3, (8, (iv (w64 (x7 + 1))))] (by kernel_rfl) ?_
    refine WL.done rfl ?_
    exact WX.again k12 (Nat.lt_succ_self _) ((l6 ++ e6, w64 (x7 + 1)), A28, c29) [3, 6, 7, 8] rfl ⟨(hS31.subR [0]).sub [0] (by decide), hl15⟩
   refine WC.condF2 (fun fb => by kernel_rfl) h16 ?_
   refine WC.exit ?_
   injection hl15 with hl15
   exact WX.thenX (WX.thenX (WX.blockHere (WX.to Kx10 (l6, A4, c5) [3] rfl ⟨(hS14.subR [0]).sub [0] (by decide), hl15.symm⟩)))
 rintro ⟨y35, A8, c9⟩ w32 ⟨hS33, hq34⟩
 subst hq34
 refine WX.next (WC.seq (WC.region ?_))
 refine sg 2 [] [2] [(2, (sv A8 x10 c9))] (by kernel_rfl) ?_
 refine WL.done rfl (WX.next ?_)
 refine WC.ret ?_
 injection hf with hf
 subst hf
 exact WX.ret_ [] (sv A8 x10 c9) [] (fun fb => by kernel_rfl) trivial ⟨_, rfl, A8, c9, rfl, (hS33.sub [0] (by decide)).noR⟩
theorem cmp_isNaN_int_calls (p0 : Int)  (r : Bool) (w : World)  (hf : cmp_isNaN_int p0 = some r) :
  CallsR Try.prog 87 #[(iv p0)] w (fun v w' => v = (bv r) ∧ Keeps NoS w w') := by
 have hS : St NoS w w [] [] := St.init (ro_nil _ _)
 refine enter 6 Try.func87 rfl Try.ntmps87 rfl ?_
 unfold cmp_isNaN_int at hf
 refine WC.seq (WC.region ?_)
 refine sg 1 [] [0] [(0, (iv p0))] (by kernel_rfl) ?_
 refine WL.done rfl (WX.next (WC.seq (WC.region ?_)))
 refine sg 4 [] [2] [(2, (bv (p0 != p0)))] (by kernel_rfl) ?_
 refine WL.done rfl (WX.next ?_)
 refine WC.ret ?_
 injection hf with hf
 subst hf
 exact WX.ret_ [] (bv (p0 != p0)) [] (fun fb => by kernel_rfl) trivial ⟨_, rfl, rfl, hS.keep⟩
theorem cmp_Compare_int_calls (p0 : Int) (p1 : Int)  (r : Int) (w : World)  (hf : cmp_Compare_int p0 p1 = some r) :
  CallsR Try.prog 72 #[(iv p0), (iv p1)] w (fun v w' => v = (iv r) ∧ Keeps NoS w w') := by
 have hS : St NoS w w [] [] := St.init (ro_nil _ _)
 refine enter 20 Try.func72 rfl Try.ntmps72 rfl ?_
 unfold cmp_Compare_int at hf
 refine WC.seq (WC.region ?_)
 refine sg 1 [] [0, 1] [(0, (iv p0)), (1, (iv p1))] (by kernel_rfl) ?_
 refine WL.done rfl (WX.next (WC.seq (WC.region ?_)))
 refine sg 1 [] [0, 1, 7] [(0, (iv p0)), (1, (iv p1)), (7, (iv p0))] (by kernel_rfl) ?_
 obtain ⟨t3, ht4, hf⟩ := bind_some hf
 refine WL.call (some 8) 87 #[(iv p0)] (fun fb => by kernel_rfl) (cmp_isNaN_int_calls p0 t3 _ ht4) (fun v w5 hR6 => ?_)
 obtain ⟨rfl, hk_⟩ := hR6
 have hS7 := hS.keepN hk_
 refine ⟨trivial, ?_⟩
 refine sg 3 [] [0, 1, 5] [(0, (iv p0)), (1, (iv p1)), (5, (bv t3))] (by kernel_rfl) ?_
 refine WL.done rfl (WX.next (WC.seq (WC.region ?_)))
 refine sg 1 [] [0, 1, 5, 9] [(0, (iv p0)), (1, (iv p1)), (5, (bv t3)), (9, (iv p1))] (by kernel_rfl) ?_
 obtain ⟨t8, ht9, hf⟩ := bind_some hf
 refine WL.call (some 10) 87 #[(iv p1)] (fun fb => by kernel_rfl) (cmp_isNaN_int_calls p1 t8 _ ht9) (fun v w10 hR11 => ?_)
 obtain ⟨rfl, hk_⟩ := hR11
 have hS12 := hS7.keepN hk_
 refine ⟨trivial, ?_⟩
 refine sg 3 [] [0, 1, 5, 6] [(0, (iv p0)), (1, (iv p1)), (5, (bv t3)), (6, (bv t8))] (by kernel_rfl) ?_
 refine WL.done rfl (WX.next (WC.seq (WC.seq (WC.region ?_))))
 refine sg 1 [] [0, 1, 6, 11] [(0, (iv p0)), (1, (iv p1)), (6, (bv t8)), (11, (bv t3))] (by kernel_rfl) ?_
 refine WL.done rfl (WX.next ?_)
 rcases br_some hf with ⟨h13, hf⟩ | ⟨h13, hf⟩
 ·refine WC.condT2 (fun fb => by kernel_rfl) h13 ?_
  refine WC.seq (WC.seq (WC.region ?_))
  refine sg 1 [] [12] [(12, (bv t8))] (by kernel_rfl) ?_
  refine WL.done rfl (WX.next ?_)
  rcases br_some hf with ⟨h14, hf⟩ | ⟨h14, hf⟩
  ·refine WC.condT2 (fun fb => by kernel_rfl) h14 ?_
   refine WC.seq (WC.region ?_)
   refine sg 1 [] [4] [(4, (iv 0))] (by kernel_rfl) ?_
   refine WL.done rfl (WX.next ?_)
   refine WC.ret ?_
   injection hf with hf
   subst hf
   exact WX.thenR (WX.thenR (WX.ret_ [] (iv 0) [] (fun fb => by kernel_rfl) trivial ⟨_, rfl, rfl, hS12.keep⟩))
  refine WC.condF2 (fun fb => by kernel_rfl) h14 ?_
  refine WC.skip (WX.next (WC.seq (WC.region ?_)))
  refine sg 1 [] [4] [(4, (iv (-1)))] (by kernel_rfl) ?_
  refine WL.done rfl (WX.next ?_)
  refine WC.ret ?_
  injection hf with hf
  subst hf
  exact WX.thenR (WX.ret_ [] (iv (-1)) [] (fun fb => by kernel_rfl) trivial ⟨_, rfl, rfl, hS12.keep⟩)
 refine WC.condF2 (fun fb => by kernel_rfl) h13 ?_
 refine WC.skip (WX.next (WC.seq (WC.seq (WC.region ?_))))
 refine sg 1 [] [0, 1, 13] [(0, (iv p0)), (1, (iv p1)), (13, (bv t8))] (by kernel_rfl) ?_
 refine WL.done rfl (WX.next ?_)
 rcases br_some hf with ⟨h15, hf⟩ | ⟨h15, hf⟩
 ·refine WC.condT2 (fun fb => by kernel_rfl) h15 ?_
  refine WC.seq (WC.region ?_)
  refine sg 1 [] [4] [(4, (iv 1))] (by kernel_rfl) ?_
  refine WL.done rfl (WX.next ?_)
  refine WC.ret ?_
  injection hf with hf
  subst hf
  exact WX.thenR (WX.ret_ [] (iv 1) [] (fun fb => by kernel_rfl) trivial ⟨_, rfl, rfl, hS12.keep⟩)
 refine WC.condF2 (fun fb => by kernel_rfl) h15 ?_
 refine WC.skip (WX.next (WC.seq (WC.seq (WC.region ?_))))
 refine sg 3 [] [0, 1, 16] [(0, (iv p0)), (1, (iv p1)), (16, (bv (decide (p0 < p1))))] (by kernel_rfl) ?_
 refine WL.done rfl (WX.next ?_)
 rcases br_some hf with ⟨h16, hf⟩ | ⟨h16, hf⟩
 ·refine WC.condT2 (fun fb => by kernel_rfl) h16 ?_
  refine WC.seq (WC.region ?_)
  refine sg 1 [] [4] [(4, (iv (-1)))] (by kernel_rfl) ?_
  refine WL.done rfl (WX.next ?_)
  refine WC.ret ?_
  injection hf with hf
  subst hf
  exact WX.thenR (WX.ret_ [] (iv (-1)) [] (fun fb => by kernel_rfl) trivial ⟨_, rfl, rfl, hS12.keep⟩)
 refine WC.condF2 (fun fb => by kernel_rfl) h16 ?_
 refine WC.skip (WX.next (WC.seq (WC.seq (WC.region ?_))))
 refine sg 3 [] [19] [(19, (bv (decide (p0 > p1))))] (by kernel_rfl) ?_
 refine WL.done rfl (WX.next ?_)
 rcases br_some hf with ⟨h17, hf⟩ | ⟨h17, hf⟩
 ·refine WC.condT2 (fun fb => by kernel_rfl) h17 ?_
  refine WC.seq (WC.region ?_)
  refine sg 1 [] [4] [(4, (iv 1))] (by kernel_rfl) ?_
  refine WL.done rfl (WX.next ?_)
  refine WC.ret ?_
  injection hf with hf
  subst hf
  exact WX.thenR (WX.ret_ [] (iv 1) [] (fun fb => by kernel_rfl) trivial ⟨_, rfl, rfl, hS12.keep⟩)
 refine WC.condF2 (fun fb => by kernel_rfl) h17 ?_
 refine WC.skip (WX.next (WC.seq (WC.region ?_)))
 refine sg 1 [] [4] [(4, (iv 0))] (by kernel_rfl) ?_
 refine WL.done rfl (WX.next ?_)
 refine WC.ret ?_
 injection hf with hf
 subst hf
 exact WX.ret_ [] (iv 0) [] (fun fb => by kernel_rfl) trivial ⟨_, rfl, rfl, hS12.keep⟩
theorem slices_Compare_int_int_calls (k : Nat) (p0 : List Int) (p1 : List Int) (Aa : Option Addr) (ca : Nat) (Ab : Option Addr) (cb : Nat) (r : Int) (w : World) (hR0 : RO NoS w (rowR encInt Aa ca p0)) (hR1 : RO NoS w (rowR encInt Ab cb p1)) (hf : slices_Compare_int_int k p0 p1 = some r) :
  CallsR Try.prog 55 #[(sv Aa p0 ca), (sv Ab p1 cb)] w (fun v w' => v = (iv r) ∧ Keeps NoS w w') := by
 have hS : St NoS w w [rowR encInt Aa ca p0, rowR encInt Ab cb p1] [] := St.init (ro_cons hR0 (ro_cons hR1 (ro_nil _ _)))
 refine enter 36 Try.func55 rfl Try.ntmps55 rfl ?_
 unfold slices_Compare_int_int at hf
 refine WC.seq (WC.region ?_)
 refine sg 1 [] [0, 1] [(0, (sv Aa p0 ca)), (1, (sv Ab p1 cb))] (by kernel_rfl) ?_
 refine WL.done rfl (WX.next (WC.seq (WC.seq (WC.region ?_))))
 refine sg 3 [] [0, 1, 9, 10, 11] [(0, (sv Aa p0 ca)), (1, (sv Ab p1 cb)), (9, (sv Aa p0 ca)), (10, (iv (p0.length : Int))), (11, (iv 0))] (by kernel_rfl) ?_
 refine WL.done rfl (WX.next ?_)
 obtain ⟨x4, hx5, hf⟩ := bind_some hf
 let e1 : Nat × Value := (10, (iv (p0.length : Int)))
 let e2 := sv Aa p0 ca
 let e3 : Nat × Value := (1, (sv Ab p1 cb))
 refine WC.cutN (T := Unit) (fun t => [(0, e2), e3]) (fun t w1 => St NoS w w1 [rowR encInt Aa ca p0, rowR encInt Ab cb p1] [] ∧ x4 = .inr t) (fun Kx4 => ?_) ?_
 ·
  refine WC.block ?_
  refine WC.loop (T := Int) (fun t => [(0, e2), e3, (9, e2), e1, (11, (iv t))]) (fun n t w1 => St NoS w w1 [rowR encInt Aa ca p0, rowR encInt Ab cb p1] [] ∧ slices_Compare_int_int.l0 n t p0 p1 = some x4) k 0 [0, 1, 9, 10, 11] rfl ⟨(hS.subR [0, 1]).sub [] (by decide), hx5⟩ ?_
  rintro k6 x3 w7 ⟨hS8, hl9⟩
  let e4 := iv (rdD p0 x3 0)
  let e5 : Nat × Value := (11, (iv x3))
  let e6 := iv (rdD p1 x3 0)
  cases k6 with
  | zero => rw [slices_Compare_int_int.l0] at hl9; cases hl9
  | succ k6 =>
   rw [slices_Compare_int_int.l0] at hl9
   refine WC.seq (WC.region ?_)
   refine sg 1 [] [0, 1, 9, 10, 11, 12] [(0, e2), e3, (9, e2), e1, e5, (12, (bv (decide (x3 < (p0.length : Int)))))] (by kernel_rfl) ?_
   refine WL.done rfl (WX.next (WC.seq ?_))
   rcases br_some hl9 with ⟨h10, hl9⟩ | ⟨h10, hl9⟩
   ·refine WC.condT2 (fun fb => by kernel_rfl) h10 ?_
    refine WC.skip (WX.next (WC.seq (WC.block (WC.seq (WC.region ?_)))))
    refine sg 1 [] [0, 1, 9, 10, 11, 13] [(0, e2), e3, (9, e2), e1, e5, (13, (iv x3))] (by kernel_rfl) ?_
    obtain ⟨h11, hl9⟩ := as_some hl9
    refine seg 5 [.v e4] [0, 1, 5, 6, 9, 10, 11] [(0, e2), e3, (5, (iv x3)), (6, e4), (9, e2), e1, e5] [.idx Aa x3 p0.length, .cell ((adr Aa).add ((x3).toNat * 1)) e4] (fun fb => by kernel_rfl) rfl ⟨rowR.adr (hS8.rd 0).1 h11.1 h11.2, rowR.cell (hS8.rd 0).1 0 h11.1 h11.2 0 rfl, trivial⟩ ?_
    refine WL.done rfl (WX.next (WC.seq (WC.seq (WC.region ?_))))
    refine sg 4 [] [0, 1, 5, 6, 9, 10, 11, 19] [(0, e2), e3, (5, (iv x3)), (6, e4), (9, e2), e1, e5, (19, (bv (decide (x3 ≥ (p1.length : Int)))))] (by kernel_rfl) ?_
    refine WL.done rfl (WX.next ?_)
    rcases br_some hl9 with ⟨h12, hl9⟩ | ⟨h12, hl9⟩
    ·refine WC.condT2 (fun fb => by kernel_rfl) h12 ?_
     refine WC.seq (WC.region ?_)
     refine sg 1 [] [4] [(4, (iv 1))] (by kernel_rfl) ?_
     refine WL.done rfl (WX.next ?_)
     refine WC.ret ?_
     injection hl9 with hl9
     subst hl9
     injection hf with hf
     subst hf
     exact WX.thenR (WX.blockR (WX.thenR (WX.thenR (WX.blockR (WX.thenR (WX.ret_ [] (iv 1) [] (fun fb => by kernel_rfl) trivial ⟨_, rfl, rfl, hS8.keep⟩))))))
    refine WC.condF2 (fun fb => by kernel_rfl) h12 ?_
    refine WC.skip (WX.next (WC.seq (WC.region ?_)))
    refine sg 2 [] [0, 1, 6, 9, 10, 11, 20, 21] [(0, e2), e3, (6, e4), (9, e2), e1, e5, (20, (sv Ab p1 cb)), (21, (iv x3))] (by kernel_rfl) ?_
    obtain ⟨h13, hl9⟩ := as_some hl9
    refine seg 5 [.v e6] [0, 1, 6, 7, 9, 10, 11] [(0, e2), e3, (6, e4), (7, e6), (9, e2), e1, e5] [.idx Ab x3 p1.length, .cell ((adr Ab).add ((x3).toNat * 1)) e6] (fun fb => by kernel_rfl) rfl ⟨rowR.adr (hS8.rd 1).1 h13.1 h13.2, rowR.cell (hS8.rd 1).1 0 h13.1 h13.2 0 rfl, trivial⟩ ?_
    refine WL.done rfl (WX.next (WC.seq (WC.region ?_)))
    refine sg 2 [] [0, 1, 9, 10, 11, 24, 25] [(0, e2), e3, (9, e2), e1, e5, (24, e4), (25, e6)] (by kernel_rfl) ?_
    obtain ⟨t14, ht15, hl9⟩ := bind_some hl9
    refine WL.call (some 26) 72 #[e4, e6] (fun fb => by kernel_rfl) (cmp_Compare_int_calls (rdD p0 x3 0) (rdD p1 x3 0) t14 _ ht15) (fun v w16 hR17 => ?_)
    obtain ⟨rfl, hk_⟩ := hR17
    have hS18 := hS8.keepN hk_
    refine ⟨trivial, ?_⟩
    refine sg 4 [] [0, 1, 8, 9, 10, 11] [(0, e2), e3, (8, (iv t14)), (9, e2), e1, e5] (by kernel_rfl) ?_
    refine WL.done rfl (WX.next (WC.seq (WC.region ?_)))
    refine sg 2 [] [0, 1, 8, 9, 10, 11, 28] [(0, e2), e3, (8, (iv t14)), (9, e2), e1, e5, (28, (bv (t14 != 0)))] (by kernel_rfl) ?_
    refine WL.done rfl (WX.next ?_)
    rcases br_some hl9 with ⟨h19, hl9⟩ | ⟨h19, hl9⟩
    ·refine WC.condT2 (fun fb => by kernel_rfl) h19 ?_
     refine WC.seq (WC.region ?_)
     refine sg 2 [] [4] [(4, (iv t14))] (by kernel_rfl) ?_
     refine WL.done rfl (WX.next ?_)
     refine WC.ret ?_
     injection hl9 with hl9
     subst hl9
     injection hf with hf
     subst hf
     exact WX.blockR (WX.thenR (WX.thenR (WX.blockR (WX.thenR (WX.ret_ [] (iv t14) [] (fun fb => by kernel_rfl) trivial ⟨_, rfl, rfl, hS18.keep⟩)))))
    refine WC.condF2 (fun fb => by kernel_rfl) h19 ?_
    refine WC.skip ?_
    refine WX.blockN (WX.next ?_)
    refine WC.region ?_
    refine sg 2 [] [0, 1, 9, 10, 11] [(0, e2), e3, (9, e2), e1, (11, (iv (w64 (x3 + 1))))] (by kernel_rfl) ?_
    refine WL.done rfl ?_
    exact WX.again k6 (Nat.lt_succ_self _) (w64 (x3 + 1)) [0, 1, 9, 10, 11] rfl ⟨(hS18.subR [0, 1]).sub [] (by decide), hl9⟩
   refine WC.condF2 (fun fb => by kernel_rfl) h10 ?_
   refine WC.exit ?_
   injection hl9 with hl9
   exact WX.thenX (WX.thenX (WX.blockHere (WX.to Kx4 () [0, 1] rfl ⟨(hS8.subR [0, 1]).sub [] (by decide), hl9.symm⟩)))
 rintro y23 w20 ⟨hS21, hq22⟩
 subst hq22
 have hf := sum_inr hf
 refine WX.next (WC.seq (WC.seq (WC.region ?_)))
 refine sg 5 [] [35] [(35, (bv (decide ((p0.length : Int) < (p1.length : Int)))))] (by kernel_rfl) ?_
 refine WL.done rfl (WX.next ?_)
 rcases br_some hf with ⟨h24, hf⟩ | ⟨h24, hf⟩
 ·refine WC.condT2 (fun fb => by kernel_rfl) h24 ?_
  refine WC.seq (WC.region ?_)
  refine sg 1 [] [4] [(4, (iv (-1)))] (by kernel_rfl) ?_
  refine WL.done rfl (WX.next ?_)
  refine WC.ret ?_
  injection hf with hf
  subst hf
  exact WX.thenR (WX.ret_ [] (iv (-1)) [] (fun fb => by kernel_rfl) trivial ⟨_, rfl, rfl, hS21.keep⟩)
 refine WC.condF2 (fun fb => by kernel_rfl) h24 ?_
 refine WC.skip (WX.next (WC.seq (WC.region ?_)))
 refine sg 1 [] [4] [(4, (iv 0))] (by kernel_rfl) ?_
 refine WL.done rfl (WX.next ?_)
 refine WC.ret ?_
 injection hf with hf
 subst hf
 exact WX.ret_ [] (iv 0) [] (fun fb => by kernel_rfl) trivial ⟨_, rfl, rfl, hS21.keep⟩
theorem census_before_calls (k : Nat) (p0 : List Tile) (p1 : List Tile) (Aa : Option Addr) (ca : Nat) (Ab : Option Addr) (cb : Nat) (r : Int) (w : World) (hR0 : RO NoS w (rowR enc_Tile Aa ca p0)) (hR1 : RO NoS w (rowR enc_Tile Ab cb p1)) (hf : census_before k p0 p1 = some r) :
  CallsR Try.prog 38 #[(sv Aa p0 ca), (sv Ab p1 cb)] w (fun v w' => v = (iv r) ∧ Keeps NoS w w') := by
 have hS : St NoS w w [rowR enc_Tile Aa ca p0, rowR enc_Tile Ab cb p1] [] := St.init (ro_cons hR0 (ro_cons hR1 (ro_nil _ _)))
 refine enter 10 Try.func38 rfl Try.ntmps38 rfl ?_
 unfold census_before at hf
 refine WC.seq (WC.region ?_)
 refine sg 1 [] [0, 1] [(0, (sv Aa p0 ca)), (1, (sv Ab p1 cb))] (by kernel_rfl) ?_
 refine WL.done rfl (WX.next (WC.seq (WC.region ?_)))
 refine sg 1 [] [1, 5] [(1, (sv Ab p1 cb)), (5, (sv Aa p0 ca))] (by kernel_rfl) ?_
 obtain ⟨t2, ht3, hf⟩ := bind_some hf
 refine WL.call (some 6) 56 #[(sv Aa p0 ca)] (fun fb => by kernel_rfl) (census_numbers_calls _ p0 Aa ca t2 _ (hS.rd 0) ht3) (fun v w4 hR5 => ?_)
 obtain ⟨A7, c8, rfl, hk_⟩ := hR5
 have hS6 := hS.go w4 [rowO 3 encInt A7 c8 t2] (hS.call hk_ [] [] (fun g hg => hg.elim) (by simp) (by decide))
 refine ⟨trivial, ?_⟩
 refine sg 3 [] [6, 7] [(6, (sv A7 t2 c8)), (7, (sv Ab p1 cb))] (by kernel_rfl) ?_
 obtain ⟨t9, ht10, hf⟩ := bind_some hf
 refine WL.call (some 8) 56 #[(sv Ab p1 cb)] (fun fb => by kernel_rfl) (census_numbers_calls _ p1 Ab cb t9 _ (hS6.rd 1) ht10) (fun v w11 hR12 => ?_)
 obtain ⟨A14, c15, rfl, hk_⟩ := hR12
 have hS13 := hS6.go w11 [rowO 3 encInt A14 c15 t9, rowO 3 encInt A7 c8 t2] (hS6.call hk_ [] [0] (fun g hg => hg.elim) (by simp) (by decide))
 refine ⟨trivial, ?_⟩
 obtain ⟨t16, ht17, hf⟩ := bind_some hf
 refine WL.call (some 9) 55 #[(sv A7 t2 c8), (sv A14 t9 c15)] (fun fb => by kernel_rfl) (slices_Compare_int_int_calls _ t2 t9 A7 c8 A14 c15 t16 _ (hS13.ow 1).ofO (hS13.ow 0).ofO ht17) (fun v w18 hR19 => ?_)
 obtain ⟨rfl, hk_⟩ := hR19
 have hS20 := hS13.keepN hk_
 refine ⟨trivial, ?_⟩
 refine sg 6 [] [4] [(4, (iv t16))] (by kernel_rfl) ?_
 refine WL.done rfl (WX.next ?_)
 refine WC.ret ?_
 injection hf with hf
 subst hf
 exact WX.ret_ [] (iv t16) [] (fun fb => by kernel_rfl) trivial ⟨_, rfl, rfl, hS20.keep⟩
theorem slices_Clone_api_Tile_api_Tile_nil_calls (p0 : List Tile) (ca : Nat) (r : (List Tile)) (w : World) (hR0 : RO NoS w (rowR enc_Tile none ca ([] : List Tile))) (hf : slices_Clone_api_Tile_api_Tile_nil p0 = some r) :
  CallsR Try.prog 66 #[(sv none ([] : List Tile) ca)] w (fun v w' => ∃ (A1_ : Option Addr), ∃ (c1_ : Nat), v = (sv A1_ r c1_) ∧ St NoS w w' [] [rowO 48 enc_Tile A1_ c1_ r]) := by
 have hS : St NoS w w [rowR enc_Tile none ca ([] : List Tile)] [] := St.init (ro_cons hR0 (ro_nil _ _))
 refine enter 8 Try.func66 rfl Try.ntmps66 rfl ?_
 unfold slices_Clone_api_Tile_api_Tile_nil at hf
 refine WC.seq (WC.region ?_)
 refine sg 1 [] [0] [(0, (sv none ([] : List Tile) ca))] (by kernel_rfl) ?_
 refine WL.done rfl (WX.next (WC.seq (WC.seq (WC.region ?_))))
 refine sg 2 [] [0, 4] [(0, (sv none ([] : List Tile) ca)), (4, (bv true))] (by kernel_rfl) ?_
 refine WL.done rfl (WX.next ?_)
 refine WC.condT (fun fb => by kernel_rfl) ?_
 refine WC.seq (WC.region ?_)
 refine sg 1 [] [2] [(2, (.slice none 0 0))] (by kernel_rfl) ?_
 refine WL.done rfl (WX.next ?_)
 refine WC.ret ?_
 have hS2 := hS.nilrow 48 enc_Tile
 injection hf with hf
 subst hf
 exact WX.thenR (WX.ret_ [] (sv none ([] : List Tile) 0) [] (fun fb => by kernel_rfl) trivial ⟨_, rfl, none, 0, rfl, (hS2.sub [0] (by decide)).noR⟩)
theorem slices_Clone_api_Tile_api_Tile_some_calls (p0 : List Tile) (aa : Addr) (ca : Nat) (r : (List Tile)) (w : World) (hR0 : RO NoS w (rowR enc_Tile (some aa) ca p0)) (hf : slices_Clone_api_Tile_api_Tile_some p0 = some r) :
  CallsR Try.prog 66 #[(sv (some aa) p0 ca)] w (fun v w' => ∃ (A1_ : Option Addr), ∃ (c1_ : Nat), v = (sv A1_ r c1_) ∧ St NoS w w' [] [rowO 48 enc_Tile A1_ c1_ r]) := by
 have hS : St NoS w w [rowR enc_Tile (some aa) ca p0] [] := St.init (ro_cons hR0 (ro_nil _ _))
 refine enter 8 Try.func66 rfl Try.ntmps66 rfl ?_
 unfold slices_Clone_api_Tile_api_Tile_some at hf
 refine WC.seq (WC.region ?_)
 refine sg 1 [] [0] [(0, (sv (some aa) p0 ca))] (by kernel_rfl) ?_
 refine WL.done rfl (WX.next (WC.seq (WC.seq (WC.region ?_))))
 refine sg 2 [] [0, 4] [(0, (sv (some aa) p0 ca)), (4, (bv false))] (by kernel_rfl) ?_
 refine WL.done rfl (WX.next ?_)
 refine WC.condF (fun fb => by kernel_rfl) ?_
 refine WC.skip (WX.next (WC.seq (WC.region ?_)))
 refine WL.new hS 5 [] (fun g => (.slice (some ⟨g, 0, none⟩) 0 0)) (.cells #[] 48 (0, 0)) [] (fun fb g => by kernel_rfl) trivial (fun g3 w4 hS5 => ?_)
 refine ⟨trivial, ?_⟩
 have hS6 := hS.go w4 [rowO 48 enc_Tile (some ⟨g3, 0, none⟩) 0 ([] : List Tile)] (hS5.map1 0 _ (fun h => rowO.ofBlk h rfl (Nat.le_of_ble_eq_true (by kernel_rfl))) (fun _ h => by obtain ⟨_, h1, h2⟩ := h; injection h1 with h1; subst h1; exact h2) [] (by decide) (by decide))
 refine sg 2 [] [5, 6] [(5, (sv (some ⟨g3, 0, none⟩) ([] : List Tile) 0)), (6, (sv (some aa) p0 ca))] (by kernel_rfl) ?_
 obtain ⟨h7, hf⟩ := as_some hf
 refine WL.append hS6 0 (d := 7) (tS := 28) (z := (.agg #[(iv 0), (iv 0), (iv 0), (iv 0)])) (bytes := 32) (c2 := ca) rfl (fun fb => by kernel_rfl) (hS6.rd 0).1 (by kernel_rfl) (by kernel_rfl) rfl (by decide) h7 (by decide) [] (by decide) (by decide) (fun A8 c9 w10 hS11 => ?_)
 refine ⟨trivial, ?_⟩
 refine sg 4 [] [2] [(2, (sv A8 (([] : List Tile) ++ p0) c9))] (by kernel_rfl) ?_
 refine WL.done rfl (WX.next ?_)
 refine WC.ret ?_
 injection hf with hf
 subst hf
 exact WX.ret_ [] (sv A8 (([] : List Tile) ++ p0) c9) [] (fun fb => by kernel_rfl) trivial ⟨_, rfl, A8, c9, rfl, (hS11.sub [0] (by decide)).noR⟩
theorem slices_Clone_api_Tile_api_Tile_calls (p0 : List Tile) (Aa : Option Addr) (ca : Nat) (r : List Tile) (w : World) (hR0 : RO NoS w (rowR enc_Tile Aa ca p0)) (hf : slices_Clone_api_Tile_api_Tile p0 = some r) :
  CallsR Try.prog 66 #[(sv Aa p0 ca)] w (fun v w' => ∃ (A1_ : Option Addr), ∃ (c1_ : Nat), v = (sv A1_ r c1_) ∧ St NoS w w' [] [rowO 48 enc_Tile A1_ c1_ r]) := by
 unfold slices_Clone_api_Tile_api_Tile at hf
 cases Aa with
 | none =>
  have h3 : p0 = [] := by
   cases p0 with
   | nil => rfl
   | cons x xs => exact absurd (hR0.1.1 0 x rfl).1 (by simp)
  subst h3
  rw [slices_Clone_api_Tile_api_Tile_some] at hf
  obtain ⟨h4, hf⟩ := as_some hf
  injection hf with hf; subst hf
  exact slices_Clone_api_Tile_api_Tile_nil_calls [] ca [] w hR0 rfl
 | some a => exact slices_Clone_api_Tile_api_Tile_some_calls p0 a ca r w hR0 hf
theorem census_orders_1_1_y_calls {σ τ : Type} : ∀ (k : Nat) (p0 : Int) (f0 : List Tile) (yf : (List Tile) → σ → Option (σ × Bool)) (sY : σ) (ga : Nat) (Aa : Option Addr) (ca : Nat) (gb : Nat) (gc : Nat) (yl : Nat) (Y : σ → τ → Own) (tY : τ) (Rd : Own) (r : Bool × (List Tile) × σ) (w : World) (hR0 : RO (fpL [blk ga (.cells #[(sv Aa f0 ca)] 28 (0, 0)), rowO 48 enc_Tile Aa ca f0, Y sY tY]) w (Rd)) (hR1 : RO (fpL [blk ga (.cells #[(sv Aa f0 ca)] 28 (0, 0)), rowO 48 enc_Tile Aa ca f0, Y sY tY]) w (blk gb (.cells #[(.func (.yield yl) #[] #[])] 29 (0, 0)))) (hR2 : RO (fpL [blk ga (.cells #[(sv Aa f0 ca)] 28 (0, 0)), rowO 48 enc_Tile Aa ca f0, Y sY tY]) w (blk gc (.cells #[(.func (.func 67) #[] #[(pt ga), (pt gb), (pt gc)])] 32 (0, 0)))) (hI : IoOK w [blk ga (.cells #[(sv Aa f0 ca)] 28 (0, 0)), rowO 48 enc_Tile Aa ca f0, Y sY tY]) (hY : ∀ (x0_ : List Tile) (A0_ : Option Addr) (c0_ : Nat) (s_ : σ) (t_ : τ) (r_ : σ × Bool) (w_ : World), RO (fpL [Y s_ t_]) w_ (rowR enc_Tile A0_ c0_ x0_) → RO (fpL [Y s_ t_]) w_ Rd → IoOK w_ [Y s_ t_] → yf x0_ s_ = some r_ → YieldR Try.prog (.func (.yield yl) #[] #[]) #[(sv A0_ x0_ c0_)] w_ (fun v_ w' => ∃ t1_, v_ = .bool r_.2 ∧ St (fpL [Y s_ t_]) w_ w' [] [Y r_.1 t1_])) (hf : census_orders_1_1_y k p0 f0 yf sY = some r),
  CallsR Try.prog 67 #[(iv p0), (pt ga), (pt gb), (pt gc)] w (fun v w' => ∃ (A1_ : Option Addr), ∃ (c1_ : Nat), ∃ (t1_ : τ), v = (bv r.1) ∧ St (fpL [blk ga (.cells #[(sv Aa f0 ca)] 28 (0, 0)), rowO 48 enc_Tile Aa ca f0, Y sY tY]) w w' [] [blk ga (.cells #[(sv A1_ r.2.1 c1_)] 28 (0, 0)), rowO 48 enc_Tile A1_ c1_ r.2.1, Y r.2.2 t1_]) := by
 intro k
 induction k with
 | zero => intro p0 f0 yf sY ga Aa ca gb gc yl Y tY Rd r w hR0 hR1 hR2 hI hY hf; rw [census_orders_1_1_y] at hf; cases hf
 | succ k ih_ =>
 intro p0 f0 yf sY ga Aa ca gb gc yl Y tY Rd r w hR0 hR1 hR2 hI hY hf
 have hS : St (fpL [blk ga (.cells #[(sv Aa f0 ca)] 28 (0, 0)), rowO 48 enc_Tile Aa ca f0, Y sY tY]) w w [Rd, blk gb (.cells #[(.func (.yield yl) #[] #[])] 29 (0, 0)), blk gc (.cells #[(.func (.func 67) #[] #[(pt ga), (pt gb), (pt gc)])] 32 (0, 0))] [blk ga (.cells #[(sv Aa f0 ca)] 28 (0, 0)), rowO 48 enc_Tile Aa ca f0, Y sY tY] := St.initIO (ro_cons hR0 (ro_cons hR1 (ro_cons hR2 (ro_nil _ _)))) hI
 rw [census_orders_1_1_y] at hf
 generalize census_orders_1_1_y k = rc_ at hf ih_
 refine enter 56 Try.func67 rfl Try.ntmps67 rfl ?_
 refine WC.seq (WC.region ?_)
 refine sg 1 [] [0, 1, 2, 3] [(0, (iv p0)), (1, (pt ga)), (2, (pt gb)), (3, (pt gc))] (by kernel_rfl) ?_
 refine WL.done rfl (WX.next (WC.seq (WC.seq (WC.region ?_))))
 refine seg 4 [.v (sv Aa f0 ca)] [0, 1, 2, 3, 11] [(0, (iv p0)), (1, (pt ga)), (2, (pt gb)), (3, (pt gc)), (11, (bv (p0 == (f0.length : Int))))] [.cell ⟨ga, 0, none⟩ (sv Aa f0 ca)] (fun fb => by kernel_rfl) rfl ⟨hS.cell 0 rfl 0 rfl, trivial⟩ ?_
 refine WL.done rfl (WX.next ?_)
 rcases br_some hf with ⟨h3, hf⟩ | ⟨h3, hf⟩
 ·refine WC.condT2 (fun fb => by kernel_rfl) h3 ?_
  refine WC.seq (WC.region ?_)
  refine seg 2 [.v (.func (.yield yl) #[] #[]), .v (sv Aa f0 ca)] [1, 12, 13] [(1, (pt ga)), (12, (.func (.yield yl) #[] #[])), (13, (sv Aa f0 ca))] [.cell ⟨gb, 0, none⟩ (.func (.yield yl) #[] #[]), .cell ⟨ga, 0, none⟩ (sv Aa f0 ca)] (fun fb => by kernel_rfl) rfl ⟨blk_cell (hS.rd 1).1 0 rfl, hS.cell 0 rfl 0 rfl, trivial⟩ ?_
  obtain ⟨t4, ht5, hf⟩ := bind_some hf
  refine WL.yield (some 14) (.func (.yield yl) #[] #[]) #[(sv Aa f0 ca)] (fun fb => by kernel_rfl) (hY f0 Aa ca sY tY t4 _ (hS.owT [2] 1 (by decide)).ofO (hS.rdT [2] 0) (hS.io [2] (by decide)) ht5) (fun v w6 hR7 => ?_)
  obtain ⟨tt9, rfl, hk_⟩ := hR7
  have hS8 := hS.go w6 [Y t4.1 tt9, blk ga (.cells #[(sv Aa f0 ca)] 28 (0, 0)), rowO 48 enc_Tile Aa ca f0] (hS.call hk_ [2] [0, 1] (fun g hg => fpL_sel g hg) (by decide) (by decide))
  refine ⟨trivial, ?_⟩
  refine sg 4 [] [1, 5] [(1, (pt ga)), (5, (bv t4.2))] (by kernel_rfl) ?_
  refine WL.done rfl (WX.next ?_)
  refine WC.ret ?_
  injection hf with hf
  subst hf
  exact WX.thenR (WX.ret_ [] (bv t4.2) [] (fun fb => by kernel_rfl) trivial ⟨_, rfl, Aa, ca, tt9, rfl, (hS8.sub [1, 2, 0] (by decide)).noR⟩)
 refine WC.condF2 (fun fb => by kernel_rfl) h3 ?_
 refine WC.skip (WX.next (WC.seq (WC.seq (WC.region ?_))))
 refine sg 2 [] [0, 1, 3, 6] [(0, (iv p0)), (1, (pt ga)), (3, (pt gc)), (6, (iv p0))] (by kernel_rfl) ?_
 refine WL.done rfl (WX.next ?_)
 obtain ⟨x19, hx20, hf⟩ := bind_some hf
 let e3 := [[], [], [], [], [], [], [4, 5], [4, 5, 6], [], [], [8, 9], [8, 9, 10], [0, 1, 4, 5, 6, 7, 8, 9, 10, 11], [0, 1, 4, 5, 6, 7, 8, 9, 10, 11, 12], [0, 1, 2, 3, 4, 5, 6, 7, 8, 9, 10, 11, 12, 13], [0, 1, 2, 3, 4, 5, 6, 7, 8, 9, 10, 11, 12, 13, 14]]
 let e7 := (p0).toNat * 4
 let e10 : Array Value := #[(pt ga), (pt gb), (pt gc)]
 let e11 : Nat × Value := (1, (pt ga))
 let e13 : Nat × Value := (0, (iv p0))
 let e14 : Nat × Value := (3, (pt gc))
 let e20 := [[0, 1, 2, 3, 4, 5, 6, 7, 8, 9, 10, 11, 12, 13, 14, 15]]
 refine WC.cutN (T := ((List Tile) × σ) × (Option Addr) × Nat × τ) (fun t => [e11]) (fun t w1 => St (fpL [blk ga (.cells #[(sv Aa f0 ca)] 28 (0, 0)), rowO 48 enc_Tile Aa ca f0, Y sY tY]) w w1 [Rd, blk gb (.cells #[(.func (.yield yl) #[] #[])] 29 (0, 0)), blk gc (.cells #[(.func (.func 67) #[] e10)] 32 (0, 0))] [blk ga (.cells #[(sv t.2.1 t.1.1 t.2.2.1)] 28 (0, 0)), rowO 48 enc_Tile t.2.1 t.2.2.1 t.1.1, Y t.1.2 t.2.2.2] ∧ x19 = .inr t.1) (fun Kx19 => ?_) ?_
 ·
  refine WC.block ?_
  refine WC.loop (T := ((List Tile) × Int × σ) × (Option Addr) × Nat × τ) (fun t => [e13, e11, e14, (6, (iv t.1.2.1))]) (fun n t w1 => St (fpL [blk ga (.cells #[(sv Aa f0 ca)] 28 (0, 0)), rowO 48 enc_Tile Aa ca f0, Y sY tY]) w w1 [Rd, blk gb (.cells #[(.func (.yield yl) #[] #[])] 29 (0, 0)), blk gc (.cells #[(.func (.func 67) #[] e10)] 32 (0, 0))] [blk ga (.cells #[(sv t.2.1 t.1.1 t.2.2.1)] 28 (0, 0)), rowO 48 enc_Tile t.2.1 t.2.2.1 t.1.1, Y t.1.2.2 t.2.2.2] ∧ census_orders_1_1_y.l0 n t.1.1 t.1.2.1 t.1.2.2 p0 yf rc_ = some x19) k ((f0, p0, sY), Aa, ca, tY) [0, 1, 3, 6] rfl ⟨(hS.subR [0, 1, 2]).sub [0, 1, 2] (by decide), hx20⟩ ?_
  rintro k21 ⟨⟨l12, x13, s14⟩, A10, c11, tt15⟩ w22 ⟨hS23, hl24⟩
  let e12 := (adr A10).add ((x13).toNat * 4)
  let e21 := rdD l12 x13 z_Tile
  let e1 : List (Nat × Addr × Value) := [(0, ⟨ga, 0, none⟩, (sv A10 l12 c11)), (2, ⟨ga, 0, none⟩, (sv A10 l12 c11)), (4, ⟨ga, 0, none⟩, (sv A10 l12 c11)), (7, e12, (iv (e21.N))), (7, (e12.add 1), (iv (e21.E))), (7, (e12.add 2), (iv (e21.S))), (7, (e12.add 3), (iv (e21.W))), (8, ⟨ga, 0, none⟩, (sv A10 l12 c11)), (11, ((adr A10).add e7), (iv ((rdD l12 p0 z_Tile).N))), (11, (((adr A10).add e7).add 1), (iv ((rdD l12 p0 z_Tile).E))), (11, (((adr A10).add e7).add 2), (iv ((rdD l12 p0 z_Tile).S))), (11, (((adr A10).add e7).add 3), (iv ((rdD l12 p0 z_Tile).W)))]
  let e2 := rdD l12 p0 z_Tile
  let e4 := rdD l12 x13 z_Tile
  let e9 := (x13).toNat * 4
  let e15 := sv A10 l12 c11
  let e16 : Nat × Value := (6, (iv x13))
  cases k21 with
  | zero => rw [census_orders_1_1_y.l0] at hl24; cases hl24
  | succ k21 =>
   rw [census_orders_1_1_y.l0] at hl24
   refine WC.seq (WC.seq (WC.region ?_))
   refine seg 4 [.v e15] [0, 1, 3, 6, 19] [e13, e11, e14, e16, (19, (bv (decide (x13 < (l12.length : Int)))))] [.cell ⟨ga, 0, none⟩ e15] (fun fb => by kernel_rfl) rfl ⟨hS23.cell 0 rfl 0 rfl, trivial⟩ ?_
   refine WL.done rfl (WX.next ?_)
   rcases br_some hl24 with ⟨h25, hl24⟩ | ⟨h25, hl24⟩
   ·refine WC.condT2 (fun fb => by kernel_rfl) h25 ?_
    refine WC.skip (WX.next (WC.seq (WC.block (WC.seq ?_))))
    obtain ⟨h28, hl24⟩ := as_some hl24
    obtain ⟨h29, hl24⟩ := as_some hl24
    refine WC.regionD (e1, [0, 1, 2, 3, 4, 5, 6, 7, 8, 9, 10, 11, 12, 14], e3) e20 (by kernel_rfl) (by kernel_rfl) (NoPanic.seq (NoPanic.block (NoPanic.seq (NoPanic.seq (NoPanic.block (NoPanic.seq (NoPanic.body))))))) ?_
    have hS27 := hS23.drew
    revert hS27
    generalize World.drew w22 = w26
    intro hS27
    refine ⟨⟨hS27.cell 0 rfl 0 rfl, hS27.cell 0 rfl 0 rfl, hS27.cell 0 rfl 0 rfl, rowR.cell (rowO.rd (hS27.own 1).1) z_Tile h28.1 h28.2 0 rfl, rowR.cell (rowO.rd (hS27.own 1).1) z_Tile h28.1 h28.2 1 rfl, rowR.cell (rowO.rd (hS27.own 1).1) z_Tile h28.1 h28.2 2 rfl, rowR.cell (rowO.rd (hS27.own 1).1) z_Tile h28.1 h28.2 3 rfl, hS27.cell 0 rfl 0 rfl, rowR.cell (rowO.rd (hS27.own 1).1) z_Tile h29.1 h29.2 0 rfl, rowR.cell (rowO.rd (hS27.own 1).1) z_Tile h29.1 h29.2 1 rfl, rowR.cell (rowO.rd (hS27.own 1).1) z_Tile h29.1 h29.2 2 rfl, rowR.cell (rowO.rd (hS27.own 1).1) z_Tile h29.1 h29.2 3 rfl, trivial⟩, forallC ?_ (forallN)⟩
    refine segF 13 [.v e15, .v e15, .v e15, .v (iv (e4.N)), .v (iv (e4.E)), .v (iv (e4.S)), .v (iv (e4.W)), .v e15, .v (iv (e2.N)), .v (iv (e2.E)), .v (iv (e2.S)), .v (iv (e2.W))] [0, 1, 3, 6, 24, 25, 29, 33, 34] [e13, e11, e14, e16, (24, e15), (25, (iv x13)), (29, (.agg #[(iv (e4.N)), (iv (e4.E)), (iv (e4.S)), (iv (e4.W))])), (33, (.agg #[(iv (e2.N)), (iv (e2.E)), (iv (e2.S)), (iv (e2.W))])), (34, (.pointer (some ((adr A10).add e7))))] [.idx A10 x13 l12.length, .idx A10 p0 l12.length, .idx A10 p0 l12.length] [0, 1, 2, 3, 4, 5, 6, 7, 8, 9, 10, 11] e1 (fun fb => by kernel_rfl) rfl ⟨rowR.adr (rowO.rd (hS27.own 1).1) h28.1 h28.2, rowR.adr (rowO.rd (hS27.own 1).1) h29.1 h29.2, rowR.adr (rowO.rd (hS27.own 1).1) h29.1 h29.2, trivial⟩ rfl ?_
    refine WL.storeRow hS27 1 rfl (p0) (e4) (z_Tile) [(0, (iv (e4.N))), (1, (iv (e4.E))), (2, (iv (e4.S))), (3, (iv (e4.W)))] (fun fb => by kernel_rfl) h29.1 h29.2 (by kernel_rfl) rfl [0, 2] (by decide) (by decide) (fun w30 hS31 => ?_)
    refine ⟨⟨hS31.cell 1 rfl 0 rfl, trivial⟩, ?_⟩
    refine WL.reE [0, 1, 3, 6, 24, 25, 33] [(0, (iv p0)), (1, (pt ga)), (3, (pt gc)), (6, (iv x13)), (24, (.slice A10 l12.length c11)), (25, (iv x13)), (33, (.agg #[(iv ((rdD l12 p0 z_Tile).N)), (iv ((rdD l12 p0 z_Tile).E)), (iv ((rdD l12 p0 z_Tile).S)), (iv ((rdD l12 p0 z_Tile).W))]))] [(0, (iv p0)), (1, (pt ga)), (3, (pt gc)), (6, (iv x13)), (24, (.slice A10 (l12.set (p0).toNat (rdD l12 x13 z_Tile)).length c11)), (25, (iv x13)), (33, (.agg #[(iv ((rdD l12 p0 z_Tile).N)), (iv ((rdD l12 p0 z_Tile).E)), (iv ((rdD l12 p0 z_Tile).S)), (iv ((rdD l12 p0 z_Tile).W))]))] rfl (by simp only [List.length_set]) ?_
    have hS32 : St (fpL [blk ga (.cells #[(.slice Aa f0.length ca)] 28 (0, 0)), rowO 48 enc_Tile Aa ca f0, Y sY tY]) w w30 [Rd, blk gb (.cells #[(.func (.yield yl) #[] #[])] 29 (0, 0)), blk gc (.cells #[(.func (.func 67) #[] #[(pt ga), (pt gb), (pt gc)])] 32 (0, 0))] [rowO 48 enc_Tile A10 c11 (l12.set (p0).toNat (rdD l12 x13 z_Tile)), blk ga (.cells #[(.slice A10 (l12.set (p0).toNat (rdD l12 x13 z_Tile)).length c11)] 28 (0, 0)), Y s14 tt15] := by simpa only [List.length_set] using (show St (fpL [blk ga (.cells #[(.slice Aa f0.length ca)] 28 (0, 0)), rowO 48 enc_Tile Aa ca f0, Y sY tY]) w w30 [Rd, blk gb (.cells #[(.func (.yield yl) #[] #[])] 29 (0, 0)), blk gc (.cells #[(.func (.func 67) #[] #[(pt ga), (pt gb), (pt gc)])] 32 (0, 0))] [rowO 48 enc_Tile A10 c11 (l12.set (p0).toNat (rdD l12 x13 z_Tile)), blk ga (.cells #[(.slice A10 l12.length c11)] 28 (0, 0)), Y s14 tt15] from hS31)
    obtain ⟨h33, hl24⟩ := as_some hl24
    refine seg 15 [] [0, 1, 3, 6, 33, 35] [e13, e11, e14, e16, (33, (.agg #[(iv (e2.N)), (iv (e2.E)), (iv (e2.S)), (iv (e2.W))])), (35, (.pointer (some ((adr A10).add e9))))] [.idx A10 x13 (l12.set (p0).toNat e4).length] (fun fb => by kernel_rfl) rfl ⟨rowR.adr (rowO.rd (hS32.own 0).1) h33.1 h33.2, trivial⟩ ?_
    refine WL.storeRow hS32 0 rfl (x13) (e2) (z_Tile) [(0, (iv (e2.N))), (1, (iv (e2.E))), (2, (iv (e2.S))), (3, (iv (e2.W)))] (fun fb => by kernel_rfl) h33.1 h33.2 (by kernel_rfl) rfl [1, 2] (by decide) (by decide) (fun w34 hS35 => ?_)
    refine ⟨trivial, ?_⟩
    have hS36 := hS32.go w34 [rowO 48 enc_Tile A10 c11 ((l12.set (p0).toNat (rdD l12 x13 z_Tile)).set (x13).toNat (rdD l12 p0 z_Tile)), blk ga (.cells #[(.slice A10 ((l12.set (p0).toNat (rdD l12 x13 z_Tile)).set (x13).toNat (rdD l12 p0 z_Tile)).length c11)] 28 (0, 0)), Y s14 tt15] (by simpa only [List.length_set] using (show St (fpL [blk ga (.cells #[(.slice Aa f0.length ca)] 28 (0, 0)), rowO 48 enc_Tile Aa ca f0, Y sY tY]) w w34 [Rd, blk gb (.cells #[(.func (.yield yl) #[] #[])] 29 (0, 0)), blk gc (.cells #[(.func (.func 67) #[] #[(pt ga), (pt gb), (pt gc)])] 32 (0, 0))] [rowO 48 enc_Tile A10 c11 ((l12.set (p0).toNat (rdD l12 x13 z_Tile)).set (x13).toNat (rdD l12 p0 z_Tile)), blk ga (.cells #[(.slice A10 (l12.set (p0).toNat (rdD l12 x13 z_Tile)).length c11)] 28 (0, 0)), Y s14 tt15] from hS35))
    refine WL.done rfl (WX.next (WC.seq (WC.region ?_)))
    refine seg 3 [.v (.func (.func 67) #[] e10)] [0, 1, 3, 6, 36, 38] [e13, e11, e14, e16, (36, (.func (.func 67) #[] e10)), (38, (iv (w64 (p0 + 1))))] [.cell ⟨gc, 0, none⟩ (.func (.func 67) #[] e10)] (fun fb => by kernel_rfl) rfl ⟨blk_cell (hS36.rd 2).1 0 rfl, trivial⟩ ?_
    obtain ⟨t37, ht38, hl24⟩ := bind_some hl24
    refine WL.call (some 39) 67 #[(iv (w64 (p0 + 1))), (pt ga), (pt gb), (pt gc)] (fun fb => by kernel_rfl) (ih_ (w64 (p0 + 1)) ((l12.set (p0).toNat e4).set (x13).toNat e2) yf s14 ga A10 c11 gb gc yl Y tt15 Rd t37 _ (hS36.rdT [1, 0, 2] 0) (hS36.rdT [1, 0, 2] 1) (hS36.rdT [1, 0, 2] 2) (hS36.io [1, 0, 2] (by decide)) hY ht38) (fun v w39 hR40 => ?_)
    obtain ⟨A42, c43, tt44, rfl, hk_⟩ := hR40
    have hS41 := hS.go w39 [blk ga (.cells #[(sv A42 t37.2.1 c43)] 28 (0, 0)), rowO 48 enc_Tile A42 c43 t37.2.1, Y t37.2.2 tt44] (hS36.call hk_ [1, 0, 2] [] (fun g hg => fpL_sel g hg) (by decide) (by decide))
    refine ⟨trivial, ?_⟩
    refine sg 5 [] [0, 1, 3, 6, 7] [e13, e11, e14, e16, (7, (bv t37.1))] (by kernel_rfl) ?_
    refine WL.done rfl (WX.next (WC.seq ?_))
    obtain ⟨h47, hl24⟩ := as_some hl24
    obtain ⟨h48, hl24⟩ := as_some hl24
    let e17 := rdD t37.2.1 x13 z_Tile
    let e18 := rdD t37.2.1 p0 z_Tile
    refine WC.regionD ([(0, ⟨ga, 0, none⟩, (sv A42 t37.2.1 c43)), (2, ⟨ga, 0, none⟩, (sv A42 t37.2.1 c43)), (4, ⟨ga, 0, none⟩, (sv A42 t37.2.1 c43)), (7, ((adr A42).add e9), (iv (e17.N))), (7, (((adr A42).add e9).add 1), (iv (e17.E))), (7, (((adr A42).add e9).add 2), (iv (e17.S))), (7, (((adr A42).add e9).add 3), (iv (e17.W))), (8, ⟨ga, 0, none⟩, (sv A42 t37.2.1 c43)), (11, ((adr A42).add e7), (iv (e18.N))), (11, (((adr A42).add e7).add 1), (iv (e18.E))), (11, (((adr A42).add e7).add 2), (iv (e18.S))), (11, (((adr A42).add e7).add 3), (iv (e18.W)))], [0, 1, 2, 3, 4, 5, 6, 7, 8, 9, 10, 11, 12, 14], e3) e20 (by kernel_rfl) (by kernel_rfl) (NoPanic.seq (NoPanic.block (NoPanic.seq (NoPanic.seq (NoPanic.block (NoPanic.seq (NoPanic.body))))))) ?_
    have hS46 := hS41.drew
    revert hS46
    generalize World.drew w39 = w45
    intro hS46
    refine ⟨⟨hS46.cell 0 rfl 0 rfl, hS46.cell 0 rfl 0 rfl, hS46.cell 0 rfl 0 rfl, rowR.cell (rowO.rd (hS46.own 1).1) z_Tile h47.1 h47.2 0 rfl, rowR.cell (rowO.rd (hS46.own 1).1) z_Tile h47.1 h47.2 1 rfl, rowR.cell (rowO.rd (hS46.own 1).1) z_Tile h47.1 h47.2 2 rfl, rowR.cell (rowO.rd (hS46.own 1).1) z_Tile h47.1 h47.2 3 rfl, hS46.cell 0 rfl 0 rfl, rowR.cell (rowO.rd (hS46.own 1).1) z_Tile h48.1 h48.2 0 rfl, rowR.cell (rowO.rd (hS46.own 1).1) z_Tile h48.1 h48.2 1 rfl, rowR.cell (rowO.rd (hS46.own 1).1) z_Tile h48.1 h48.2 2 rfl, rowR.cell (rowO.rd (hS46.own 1).1) z_Tile h48.1 h48.2 3 rfl, trivial⟩, forallC ?_ (forallN)⟩
    let e5 := rdD t37.2.1 x13 z_Tile
    let e6 := rdD t37.2.1 p0 z_Tile
    let e8 := sv A42 t37.2.1 c43
    let e19 := (adr A42).add e7
    refine segF 13 [.v e8, .v e8, .v e8, .v (iv (e5.N)), .v (iv (e5.E)), .v (iv (e5.S)), .v (iv (e5.W)), .v e8, .v (iv (e6.N)), .v (iv (e6.E)), .v (iv (e6.S)), .v (iv (e6.W))] [0, 1, 3, 6, 7, 42, 43, 47, 51, 52] [e13, e11, e14, e16, (7, (bv t37.1)), (42, e8), (43, (iv x13)), (47, (.agg #[(iv (e5.N)), (iv (e5.E)), (iv (e5.S)), (iv (e5.W))])), (51, (.agg #[(iv (e6.N)), (iv (e6.E)), (iv (e6.S)), (iv (e6.W))])), (52, (.pointer (some e19)))] [.idx A42 x13 t37.2.1.length, .idx A42 p0 t37.2.1.length, .idx A42 p0 t37.2.1.length] [0, 1, 2, 3, 4, 5, 6, 7, 8, 9, 10, 11] [(0, ⟨ga, 0, none⟩, e8), (2, ⟨ga, 0, none⟩, e8), (4, ⟨ga, 0, none⟩, e8), (7, ((adr A42).add e9), (iv (e5.N))), (7, (((adr A42).add e9).add 1), (iv (e5.E))), (7, (((adr A42).add e9).add 2), (iv (e5.S))), (7, (((adr A42).add e9).add 3), (iv (e5.W))), (8, ⟨ga, 0, none⟩, e8), (11, e19, (iv (e6.N))), (11, (e19.add 1), (iv (e6.E))), (11, (e19.add 2), (iv (e6.S))), (11, (e19.add 3), (iv (e6.W)))] (fun fb => by kernel_rfl) rfl ⟨rowR.adr (rowO.rd (hS46.own 1).1) h47.1 h47.2, rowR.adr (rowO.rd (hS46.own 1).1) h48.1 h48.2, rowR.adr (rowO.rd (hS46.own 1).1) h48.1 h48.2, trivial⟩ rfl ?_
    refine WL.storeRow hS46 1 rfl (p0) (e5) (z_Tile) [(0, (iv (e5.N))), (1, (iv (e5.E))), (2, (iv (e5.S))), (3, (iv (e5.W)))] (fun fb => by kernel_rfl) h48.1 h48.2 (by kernel_rfl) rfl [0, 2] (by decide) (by decide) (fun w49 hS50 => ?_)
    refine ⟨⟨hS50.cell 1 rfl 0 rfl, trivial⟩, ?_⟩
    refine WL.reE [0, 1, 3, 6, 7, 42, 43, 51] [(0, (iv p0)), (1, (pt ga)), (3, (pt gc)), (6, (iv x13)), (7, (.bool t37.1)), (42, (.slice A42 t37.2.1.length c43)), (43, (iv x13)), (51, (.agg #[(iv ((rdD t37.2.1 p0 z_Tile).N)), (iv ((rdD t37.2.1 p0 z_Tile).E)), (iv ((rdD t37.2.1 p0 z_Tile).S)), (iv ((rdD t37.2.1 p0 z_Tile).W))]))] [(0, (iv p0)), (1, (pt ga)), (3, (pt gc)), (6, (iv x13)), (7, (.bool t37.1)), (42, (.slice A42 (t37.2.1.set (p0).toNat (rdD t37.2.1 x13 z_Tile)).length c43)), (43, (iv x13)), (51, (.agg #[(iv ((rdD t37.2.1 p0 z_Tile).N)), (iv ((rdD t37.2.1 p0 z_Tile).E)), (iv ((rdD t37.2.1 p0 z_Tile).S)), (iv ((rdD t37.2.1 p0 z_Tile).W))]))] rfl (by simp only [List.length_set]) ?_
    have hS51 := hS36.go w49 [rowO 48 enc_Tile A42 c43 (t37.2.1.set (p0).toNat (rdD t37.2.1 x13 z_Tile)), blk ga (.cells #[(.slice A42 (t37.2.1.set (p0).toNat (rdD t37.2.1 x13 z_Tile)).length c43)] 28 (0, 0)), Y t37.2.2 tt44] (by simpa only [List.length_set] using (show St (fpL [blk ga (.cells #[(.slice Aa f0.length ca)] 28 (0, 0)), rowO 48 enc_Tile Aa ca f0, Y sY tY]) w w49 [Rd, blk gb (.cells #[(.func (.yield yl) #[] #[])] 29 (0, 0)), blk gc (.cells #[(.func (.func 67) #[] #[(pt ga), (pt gb), (pt gc)])] 32 (0, 0))] [rowO 48 enc_Tile A42 c43 (t37.2.1.set (p0).toNat (rdD t37.2.1 x13 z_Tile)), blk ga (.cells #[(.slice A42 t37.2.1.length c43)] 28 (0, 0)), Y t37.2.2 tt44] from hS50))
    obtain ⟨h52, hl24⟩ := as_some hl24
    refine seg 15 [] [0, 1, 3, 6, 7, 51, 53] [e13, e11, e14, e16, (7, (bv t37.1)), (51, (.agg #[(iv (e6.N)), (iv (e6.E)), (iv (e6.S)), (iv (e6.W))])), (53, (.pointer (some ((adr A42).add e9))))] [.idx A42 x13 (t37.2.1.set (p0).toNat e5).length] (fun fb => by kernel_rfl) rfl ⟨rowR.adr (rowO.rd (hS51.own 0).1) h52.1 h52.2, trivial⟩ ?_
    refine WL.storeRow hS51 0 rfl (x13) (e6) (z_Tile) [(0, (iv (e6.N))), (1, (iv (e6.E))), (2, (iv (e6.S))), (3, (iv (e6.W)))] (fun fb => by kernel_rfl) h52.1 h52.2 (by kernel_rfl) rfl [1, 2] (by decide) (by decide) (fun w53 hS54 => ?_)
    refine ⟨trivial, ?_⟩
    have hS55 := hS51.go w53 [rowO 48 enc_Tile A42 c43 ((t37.2.1.set (p0).toNat (rdD t37.2.1 x13 z_Tile)).set (x13).toNat (rdD t37.2.1 p0 z_Tile)), blk ga (.cells #[(.slice A42 ((t37.2.1.set (p0).toNat (rdD t37.2.1 x13 z_Tile)).set (x13).toNat (rdD t37.2.1 p0 z_Tile)).length c43)] 28 (0, 0)), Y t37.2.2 tt44] (by simpa only [List.length_set] using (show St (fpL [blk ga (.cells #[(.slice Aa f0.length ca)] 28 (0, 0)), rowO 48 enc_Tile Aa ca f0, Y sY tY]) w w53 [Rd, blk gb (.cells #[(.func (.yield yl) #[] #[])] 29 (0, 0)), blk gc (.cells #[(.func (.func 67) #[] #[(pt ga), (pt gb), (pt gc)])] 32 (0, 0))] [rowO 48 enc_Tile A42 c43 ((t37.2.1.set (p0).toNat (rdD t37.2.1 x13 z_Tile)).set (x13).toNat (rdD t37.2.1 p0 z_Tile)), blk ga (.cells #[(.slice A42 (t37.2.1.set (p0).toNat (rdD t37.2.1 x13 z_Tile)).length c43)] 28 (0, 0)), Y t37.2.2 tt44] from hS54))
    refine WL.done rfl (WX.next (WC.seq (WC.region ?_)))
    refine sg 2 [] [0, 1, 3, 6, 55] [e13, e11, e14, e16, (55, (bv (!t37.1)))] (by kernel_rfl) ?_
    refine WL.done rfl (WX.next ?_)
    rcases br_some hl24 with ⟨h56, hl24⟩ | ⟨h56, hl24⟩
    ·refine WC.condT2 (fun fb => by kernel_rfl) h56 ?_
     refine WC.seq (WC.region ?_)
     refine sg 1 [] [1, 5] [e11, (5, (bv false))] (by kernel_rfl) ?_
     refine WL.done rfl (WX.next ?_)
     refine WC.ret ?_
     injection hl24 with hl24
     subst hl24
     injection hf with hf
     subst hf
     exact WX.blockR (WX.thenR (WX.thenR (WX.blockR (WX.thenR (WX.ret_ [] (bv false) [] (fun fb => by kernel_rfl) trivial ⟨_, rfl, A42, c43, tt44, rfl, (hS55.sub [1, 0, 2] (by decide)).noR⟩)))))
    refine WC.condF2 (fun fb => by kernel_rfl) h56 ?_
    refine WC.skip ?_
    refine WX.blockN (WX.next ?_)
    refine WC.region ?_
    refine sg 3 [] [0, 1, 3, 6] [e13, e11, e14, (6, (iv (w64 (x13 + 1))))] (by kernel_rfl) ?_
    refine WL.done rfl ?_
    exact WX.again k21 (Nat.lt_succ_self _) (((t37.2.1.set (p0).toNat e5).set (x13).toNat e6, w64 (x13 + 1), t37.2.2), A42, c43, tt44) [0, 1, 3, 6] rfl ⟨(hS55.subR [0, 1, 2]).sub [1, 0, 2] (by decide), hl24⟩
   refine WC.condF2 (fun fb => by kernel_rfl) h25 ?_
   refine WC.exit ?_
   injection hl24 with hl24
   exact WX.thenX (WX.thenX (WX.blockHere (WX.to Kx19 ((l12, s14), A10, c11, tt15) [1] rfl ⟨(hS23.subR [0, 1, 2]).sub [0, 1, 2] (by decide), hl24.symm⟩)))
 rintro ⟨y60, A16, c17, tt18⟩ w57 ⟨hS58, hq59⟩
 subst hq59
 have hf := sum_inr hf
 refine WX.next (WC.seq (WC.region ?_))
 refine sg 1 [] [1, 5] [e11, (5, (bv true))] (by kernel_rfl) ?_
 refine WL.done rfl (WX.next ?_)
 refine WC.ret ?_
 injection hf with hf
 subst hf
 exact WX.ret_ [] (bv true) [] (fun fb => by kernel_rfl) trivial ⟨_, rfl, A16, c17, tt18, rfl, (hS58.sub [0, 1, 2] (by decide)).noR⟩
theorem census_orders_1_y_calls {σ τ : Type} (k : Nat) (f0 : List Tile) (yf : (List Tile) → σ → Option (σ × Bool)) (sY : σ) (ga : Nat) (Aa : Option Addr) (ca : Nat) (yl : Nat) (Y : σ → τ → Own) (tY : τ) (Rd : Own) (r : σ) (w : World) (hR0 : RO (fpL [Y sY tY]) w (Rd)) (hR1 : RO (fpL [Y sY tY]) w (blk ga (.cells #[(sv Aa f0 ca)] 28 (0, 0)))) (hR2 : RO (fpL [Y sY tY]) w (rowR enc_Tile Aa ca f0)) (hI : IoOK w [Y sY tY]) (hY : ∀ (x0_ : List Tile) (A0_ : Option Addr) (c0_ : Nat) (s_ : σ) (t_ : τ) (r_ : σ × Bool) (w_ : World), RO (fpL [Y s_ t_]) w_ (rowR enc_Tile A0_ c0_ x0_) → RO (fpL [Y s_ t_]) w_ Rd → IoOK w_ [Y s_ t_] → yf x0_ s_ = some r_ → YieldR Try.prog (.func (.yield yl) #[] #[]) #[(sv A0_ x0_ c0_)] w_ (fun v_ w' => ∃ t1_, v_ = .bool r_.2 ∧ St (fpL [Y s_ t_]) w_ w' [] [Y r_.1 t1_])) (hf : census_orders_1_y k f0 yf sY = some r) :
  CallsR Try.prog 65 #[(.func (.yield yl) #[] #[]), (pt ga)] w (fun v w' => ∃ (t1_ : τ), v = (.tuple #[]) ∧ St (fpL [Y sY tY]) w w' [] [Y r t1_]) := by
 have hS : St (fpL [Y sY tY]) w w [Rd, blk ga (.cells #[(sv Aa f0 ca)] 28 (0, 0)), rowR enc_Tile Aa ca f0] [Y sY tY] := St.initIO (ro_cons hR0 (ro_cons hR1 (ro_cons hR2 (ro_nil _ _)))) hI
 refine enter 10 Try.func65 rfl Try.ntmps65 rfl ?_
 unfold census_orders_1_y at hf
 refine WC.seq (WC.region ?_)
 refine WL.new hS 2 [] (fun g => (pt g)) (.cells #[(.func (.yield yl) #[] #[])] 29 (0, 0)) [] (fun fb g => by kernel_rfl) trivial (fun g3 w4 hS5 => ?_)
 refine ⟨trivial, ?_⟩
 refine WL.done rfl (WX.next (WC.seq (WC.region ?_)))
 refine seg 1 [.v (sv Aa f0 ca)] [2, 5] [(2, (pt g3)), (5, (sv Aa f0 ca))] [.cell ⟨ga, 0, none⟩ (sv Aa f0 ca)] (fun fb => by kernel_rfl) rfl ⟨blk_cell (hS5.rd 1).1 0 rfl, trivial⟩ ?_
 obtain ⟨t6, ht7, hf⟩ := bind_some hf
 refine WL.call (some 6) 66 #[(sv Aa f0 ca)] (fun fb => by kernel_rfl) (slices_Clone_api_Tile_api_Tile_calls f0 Aa ca t6 _ (hS5.rd 2) ht7) (fun v w8 hR9 => ?_)
 obtain ⟨A11, c12, rfl, hk_⟩ := hR9
 have hS10 : St (fpL [Y sY tY]) w w8 [Rd, blk ga (.cells #[(.slice Aa f0.length ca)] 28 (0, 0)), rowR enc_Tile Aa ca f0] [rowO 48 enc_Tile A11 c12 t6, blk g3 (.cells #[(.func (.yield yl) #[] #[])] 29 (0, 0)), Y sY tY] := hS5.call hk_ [] [0, 1] (fun g hg => hg.elim) (by simp) (by decide)
 refine ⟨trivial, ?_⟩
 refine WL.new hS10 3 [] (fun g => (pt g)) (.cells #[(.slice none 0 0)] 28 (0, 0)) [] (fun fb g => by kernel_rfl) trivial (fun g13 w14 hS15 => ?_)
 refine ⟨trivial, ?_⟩
 refine WL.store hS15 0 rfl [(0, (sv A11 t6 c12))] #[(sv A11 t6 c12)] (fun fb => by kernel_rfl) (by kernel_rfl) rfl [1, 2, 3] (by decide) (by decide) (fun w16 hS17 => ?_)
 refine ⟨trivial, ?_⟩
 refine WL.done rfl (WX.next (WC.seq (WC.region ?_)))
 refine WL.new hS17 4 [] (fun g => (pt g)) (.cells #[.nilFunc] 32 (0, 0)) [] (fun fb g => by kernel_rfl) trivial (fun g18 w19 hS20 => ?_)
 refine ⟨trivial, ?_⟩
 refine WL.done rfl (WX.next (WC.seq (WC.region ?_)))
 refine sg 1 [] [4, 7] [(4, (pt g18)), (7, (.func (.func 67) #[] #[(pt g13), (pt g3), (pt g18)]))] (by kernel_rfl) ?_
 refine WL.store hS20 0 rfl [(0, (.func (.func 67) #[] #[(pt g13), (pt g3), (pt g18)]))] #[(.func (.func 67) #[] #[(pt g13), (pt g3), (pt g18)])] (fun fb => by kernel_rfl) (by kernel_rfl) rfl [1, 2, 3, 4] (by decide) (by decide) (fun w21 hS22 => ?_)
 refine ⟨trivial, ?_⟩
 refine WL.done rfl (WX.next (WC.region ?_))
 let e1 : Array Value := #[(pt g13), (pt g3), (pt g18)]
 refine seg 1 [.v (.func (.func 67) #[] e1)] [8] [(8, (.func (.func 67) #[] e1))] [.cell ⟨g18, 0, none⟩ (.func (.func 67) #[] e1)] (fun fb => by kernel_rfl) rfl ⟨hS22.cell 0 rfl 0 rfl, trivial⟩ ?_
 obtain ⟨t23, ht24, hf⟩ := bind_some hf
 refine WL.call (some 9) 67 #[(iv 0), (pt g13), (pt g3), (pt g18)] (fun fb => by kernel_rfl) (census_orders_1_1_y_calls _ 0 t6 yf sY g13 A11 c12 g3 g18 yl Y tY Rd t23 _ (hS22.rdT [1, 2, 4] 0) (hS22.owT [1, 2, 4] 3 (by decide)) (hS22.owT [1, 2, 4] 0 (by decide)) (hS22.io [1, 2, 4] (by decide)) hY ht24) (fun v w25 hR26 => ?_)
 obtain ⟨A28, c29, tt30, rfl, hk_⟩ := hR26
 have hS27 := hS.go w25 [blk g13 (.cells #[(sv A28 t23.2.1 c29)] 28 (0, 0)), rowO 48 enc_Tile A28 c29 t23.2.1, Y t23.2.2 tt30, blk g18 (.cells #[(.func (.func 67) #[] e1)] 32 (0, 0)), blk g3 (.cells #[(.func (.yield yl) #[] #[])] 29 (0, 0))] (hS22.call hk_ [1, 2, 4] [0, 3] (fun g hg => fpL_sel g hg) (by decide) (by decide))
 refine ⟨trivial, ?_⟩
 refine WL.done rfl ?_
 injection hf with hf
 subst hf
 exact WX.end_ [] (.tuple #[]) [] (fun fb => by kernel_rfl) trivial ⟨_, rfl, tt30, rfl, (hS27.sub [2] (by decide)).noR⟩
theorem census_least_calls (k : Nat) (p0 : List Tile) (Aa : Option Addr) (ca : Nat) (r : (List Tile)) (w : World) (hR0 : RO NoS w (rowR enc_Tile Aa ca p0)) (hf : census_least k p0 = some r) :
  CallsR Try.prog 34 #[(sv Aa p0 ca)] w (fun v w' => ∃ (A1_ : Option Addr), ∃ (c1_ : Nat), v = (sv A1_ r c1_) ∧ St NoS w w' [] [rowO 48 enc_Tile A1_ c1_ r]) := by
 have hS : St NoS w w [rowR enc_Tile Aa ca p0] [] := St.init (ro_cons hR0 (ro_nil _ _))
 refine enter 21 Try.func34 rfl Try.ntmps34 rfl ?_
 unfold census_least at hf
 refine WC.seq (WC.region ?_)
 refine sg 1 [] [0] [(0, (sv Aa p0 ca))] (by kernel_rfl) ?_
 refine WL.done rfl (WX.next (WC.seq (WC.region ?_)))
 refine WL.new hS 3 [] (fun g => (pt g)) (.cells #[(.slice none 0 0)] 28 (0, 0)) [] (fun fb g => by kernel_rfl) trivial (fun g3 w4 hS5 => ?_)
 refine ⟨trivial, ?_⟩
 refine WL.done rfl (WX.next (WC.seq (WC.seq (WC.region ?_))))
 refine sg 1 [] [3, 6] [(3, (pt g3)), (6, (sv Aa p0 ca))] (by kernel_rfl) ?_
 obtain ⟨t6, ht7, hf⟩ := bind_some hf
 refine WL.call (some 7) 47 #[(sv Aa p0 ca)] (fun fb => by kernel_rfl) (census_orders_calls p0 Aa ca t6 _ (hS5.rd 0) ht7) (fun v w8 hR9 => ?_)
 obtain ⟨g11, rfl, hk_⟩ := hR9
 have hS10 := hS.go w8 [blk g11 (.cells #[(.slice Aa p0.length ca)] 28 (0, 0)), blk g3 (.cells #[(.slice none 0 0)] 28 (0, 0))] (hS5.call hk_ [] [0] (fun g hg => hg.elim) (by simp) (by decide))
 refine ⟨trivial, ?_⟩
 refine WL.done rfl (WX.next (WC.block ?_))
 have hS12 := hS10.nilrow 48 enc_Tile
 have hS13 := hS10.go w8 [flgO true 48 enc_Tile none 0 ([] : List Tile), blk g11 (.cells #[(sv Aa p0 ca)] 28 (0, 0)), blk g3 (.cells #[(sv none ([] : List Tile) 0)] 28 (0, 0))] (hS12.toFlg 0 rfl true (fun _ => rfl) [1, 2] (by decide) (by decide))
 refine WC.rangeO hS13 (fun _ _ h => h) rfl (gf := 65) (lb := [(pt g11)]) (fun fb => by kernel_rfl) (fun _ => by kernel_rfl) (fun LO18 LB19 LX20 l21 D22 w23 hK24 hS25 => ?_)
 have hS26 := hS13.go w23 [(fun (s_ : (Bool × (List Tile)) × Int) (t_ : (Option Addr) × Nat) => sepO (blk l21 (LO18 (pendN [] s_.2)) :: [blk g3 (.cells #[(sv t_.1 s_.1.2 t_.2)] 28 (0, 0)), flgO s_.1.1 48 enc_Tile t_.1 t_.2 s_.1.2])) ((true, ([] : List Tile)), (0 : Int)) (none, 0), blk D22 (.deferred (some [])), blk g11 (.cells #[(sv Aa p0 ca)] 28 (0, 0))] (hS25.pack [0, 4, 2] [1, 3] (by decide) (by decide) (by decide))
 let e1 : Nat × Value := (3, (pt g3))
 have hY30 : ∀ (x0_ : List Tile) (A0_ : Option Addr) (c0_ : Nat) (s_ : (Bool × (List Tile)) × Int) (t_ : (Option Addr) × Nat) (r_ : ((Bool × (List Tile)) × Int) × Bool) (w_ : World), RO (fpL [(fun (s_ : (Bool × (List Tile)) × Int) (t_ : (Option Addr) × Nat) => sepO (blk l21 (LO18 (pendN [] s_.2)) :: [blk g3 (.cells #[(sv t_.1 s_.1.2 t_.2)] 28 (0, 0)), flgO s_.1.1 48 enc_Tile t_.1 t_.2 s_.1.2])) s_ t_]) w_ (rowR enc_Tile A0_ c0_ x0_) → RO (fpL [(fun (s_ : (Bool × (List Tile)) × Int) (t_ : (Option Addr) × Nat) => sepO (blk l21 (LO18 (pendN [] s_.2)) :: [blk g3 (.cells #[(sv t_.1 s_.1.2 t_.2)] 28 (0, 0)), flgO s_.1.1 48 enc_Tile t_.1 t_.2 s_.1.2])) s_ t_]) w_ (poolO [rowR enc_Tile Aa ca p0]) → IoOK w_ [(fun (s_ : (Bool × (List Tile)) × Int) (t_ : (Option Addr) × Nat) => sepO (blk l21 (LO18 (pendN [] s_.2)) :: [blk g3 (.cells #[(sv t_.1 s_.1.2 t_.2)] 28 (0, 0)), flgO s_.1.1 48 enc_Tile t_.1 t_.2 s_.1.2])) s_ t_] → census_least.b1 k  x0_ s_ = some r_ → YieldR Try.prog (.func (.yield l21) #[] #[]) #[(sv A0_ x0_ c0_)] w_ (fun v_ w' => ∃ t1_, v_ = .bool r_.2 ∧ St (fpL [(fun (s_ : (Bool × (List Tile)) × Int) (t_ : (Option Addr) × Nat) => sepO (blk l21 (LO18 (pendN [] s_.2)) :: [blk g3 (.cells #[(sv t_.1 s_.1.2 t_.2)] 28 (0, 0)), flgO s_.1.1 48 enc_Tile t_.1 t_.2 s_.1.2])) s_ t_]) w_ w' [] [(fun (s_ : (Bool × (List Tile)) × Int) (t_ : (Option Addr) × Nat) => sepO (blk l21 (LO18 (pendN [] s_.2)) :: [blk g3 (.cells #[(sv t_.1 s_.1.2 t_.2)] 28 (0, 0)), flgO s_.1.1 48 enc_Tile t_.1 t_.2 s_.1.2])) r_.1 t1_]) := by
  rintro x27 A28 c29 ⟨⟨b17, l16⟩, j31⟩ ⟨A14, c15⟩ r32 w33 hro39 hRd35 hI36 hf37
  rw [census_least.b1] at hf37
  replace hf37 := as_some hf37
  obtain ⟨hj40, hf37⟩ := hf37
  subst hj40
  have hRo41 := hRd35.openSep
  have hS38 : St (fpL [blk l21 (LO18 none), blk g3 (.cells #[(sv A14 l16 c15)] 28 (0, 0)), flgO b17 48 enc_Tile A14 c15 l16]) w33 w33 [rowR enc_Tile A28 c29 x27, rowR enc_Tile Aa ca p0] [blk l21 (LO18 none), blk g3 (.cells #[(sv A14 l16 c15)] 28 (0, 0)), flgO b17 48 enc_Tile A14 c15 l16] := St.initIO (ro_cons hro39.openSep (ro_cons (poolO.ro hRo41 0) (ro_nil _ _))) hI36.openSep
  refine YieldR.of_loop hK24 (hS38.blkAt 0 rfl) [(sv A28 x27 c29)] [3] [e1] [(8, (sv A28 x27 c29)), e1] rfl rfl rfl rfl rfl ?_
  refine WC.region ?_
  refine sg 1 [] [3, 4] [e1, (4, (sv A28 x27 c29))] (by kernel_rfl) ?_
  refine WL.done rfl ?_
  refine WX.begin' hK24 (hS38.blkAt 0 rfl) ?_
  have hS42 := hS38.putO 0 rfl LB19 [1, 2] (by decide) (by decide)
  revert hS42
  generalize World.putObj _ _ _ = w43
  intro hS42
  have hS44 := hS38.go w43 [blk l21 LB19, blk g3 (.cells #[(sv A14 l16 c15)] 28 (0, 0)), flgO b17 48 enc_Tile A14 c15 l16] (hS42)
  refine WC.block (WC.seq (WC.region ?_))
  refine sg 1 [] [3, 9] [e1, (9, (sv A28 x27 c29))] (by kernel_rfl) ?_
  obtain ⟨t45, ht46, hf37⟩ := bind_some hf37
  refine WL.call (some 10) 48 #[(sv A28 x27 c29)] (fun fb => by kernel_rfl) (census_renamed_calls _ x27 A28 c29 t45 _ (hS44.rd 0) ht46) (fun v w47 hR48 => ?_)
  obtain ⟨A50, c51, rfl, hk_⟩ := hR48
  have hS49 : St (fpL [blk l21 (LO18 none), blk g3 (.cells #[(.slice A14 l16.length c15)] 28 (0, 0)), flgO b17 48 enc_Tile A14 c15 l16]) w33 w47 [rowR enc_Tile A28 c29 x27, rowR enc_Tile Aa ca p0] [rowO 48 enc_Tile A50 c51 t45, blk l21 LB19, blk g3 (.cells #[(.slice A14 l16.length c15)] 28 (0, 0)), flgO b17 48 enc_Tile A14 c15 l16] := hS44.call hk_ [] [0, 1, 2] (fun g hg => hg.elim) (by simp) (by decide)
  refine ⟨trivial, ?_⟩
  refine sg 3 [] [3, 5] [e1, (5, (sv A50 t45 c51))] (by kernel_rfl) ?_
  refine WL.done rfl (WX.next (WC.seq (WC.region ?_)))
  refine seg 1 [.v (sv A14 l16 c15)] [3, 5, 11] [e1, (5, (sv A50 t45 c51)), (11, (sv A14 l16 c15))] [.cell ⟨g3, 0, none⟩ (sv A14 l16 c15)] (fun fb => by kernel_rfl) rfl ⟨hS49.cell 2 rfl 0 rfl, trivial⟩ ?_
  let e2 := sv A50 t45 c51
  rcases nilM_some hf37 with ⟨hb52, hf37⟩ | ⟨hb52, hf37⟩
  ·
   obtain rfl := hS49.flg 3 rfl hb52
   have hS53 : St (fpL [blk l21 (LO18 none), blk g3 (.cells #[(sv none l16 c15)] 28 (0, 0)), flgO b17 48 enc_Tile none c15 l16]) w33 w47 [rowR enc_Tile A28 c29 x27, rowR enc_Tile Aa ca p0] [rowO 48 enc_Tile none c15 l16, rowO 48 enc_Tile A50 c51 t45, blk l21 LB19, blk g3 (.cells #[(sv none l16 c15)] 28 (0, 0))] := hS49.unFlg 3 rfl [0, 1, 2] (by decide) (by decide)
   refine sg 8 [] [3, 5, 18] [e1, (5, e2), (18, (bv true))] (by kernel_rfl) ?_
   refine WL.done rfl (WX.next ?_)
   refine WC.condT (fun fb => by kernel_rfl) ?_
   refine WC.region ?_
   refine sg 1 [] [3, 19] [e1, (19, e2)] (by kernel_rfl) ?_
   refine WL.store hS53 3 rfl [(0, e2)] #[e2] (fun fb => by kernel_rfl) (by kernel_rfl) rfl [0, 1, 2] (by decide) (by decide) (fun w54 hS55 => ?_)
   refine ⟨trivial, ?_⟩
   refine WL.done rfl ?_
   have hS56 := hS53.go w54 [flgO false 48 enc_Tile A50 c51 t45, blk g3 (.cells #[e2] 28 (0, 0)), rowO 48 enc_Tile none c15 l16, blk l21 LB19] (hS55.toFlg 2 rfl false (fun h => by cases h) [0, 1, 3] (by decide) (by decide))
   injection hf37 with hf37
   subst hf37
   exact WX.blockN (WX.roundN' hK24 (hS56.blkAt 3 rfl) ⟨(A50, c51), rfl, ((hS56.putO 3 rfl (LO18 none) [0, 1, 2] (by decide) (by decide)).sub [0, 2, 1] (by decide)).noR.closeSep⟩)
  obtain ⟨a57, rfl⟩ := hS49.flgSome 3 rfl hb52
  have hS58 : St (fpL [blk l21 (LO18 none), blk g3 (.cells #[(sv (some a57) l16 c15)] 28 (0, 0)), flgO b17 48 enc_Tile (some a57) c15 l16]) w33 w47 [rowR enc_Tile A28 c29 x27, rowR enc_Tile Aa ca p0] [rowO 48 enc_Tile (some a57) c15 l16, rowO 48 enc_Tile A50 c51 t45, blk l21 LB19, blk g3 (.cells #[(sv (some a57) l16 c15)] 28 (0, 0))] := hS49.unFlg 3 rfl [0, 1, 2] (by decide) (by decide)
  refine seg 5 [.v (sv (some a57) l16 c15)] [3, 5, 13, 14, 15] [e1, (5, e2), (13, (bv false)), (14, e2), (15, (sv (some a57) l16 c15))] [.cell ⟨g3, 0, none⟩ (sv (some a57) l16 c15)] (fun fb => by kernel_rfl) rfl ⟨hS58.cell 3 rfl 0 rfl, trivial⟩ ?_
  obtain ⟨t59, ht60, hf37⟩ := bind_some hf37
  refine WL.call (some 16) 38 #[e2, (sv (some a57) l16 c15)] (fun fb => by kernel_rfl) (census_before_calls _ t45 l16 A50 c51 (some a57) c15 t59 _ (hS58.ow 1).ofO (hS58.ow 0).ofO ht60) (fun v w61 hR62 => ?_)
  obtain ⟨rfl, hk_⟩ := hR62
  have hS63 := hS58.keepN hk_
  refine ⟨trivial, ?_⟩
  refine sg 8 [] [3, 5, 18] [e1, (5, e2), (18, (bv (decide (t59 < 0))))] (by kernel_rfl) ?_
  refine WL.done rfl (WX.next ?_)
  obtain ⟨x66, hx67, hf37⟩ := bind_some hf37
  refine WC.cutN (T := (List Tile) × (Option Addr) × Nat) (fun t => [e1]) (fun t w1 => St (fpL [blk l21 (LO18 none), blk g3 (.cells #[(sv (some a57) l16 c15)] 28 (0, 0)), flgO b17 48 enc_Tile (some a57) c15 l16]) w33 w1 [rowR enc_Tile A28 c29 x27, rowR enc_Tile Aa ca p0] [blk g3 (.cells #[(sv t.2.1 t.1 t.2.2)] 28 (0, 0)), rowO 48 enc_Tile t.2.1 t.2.2 t.1, blk l21 LB19] ∧ x66 = t.1) (fun Kx66 => ?_) ?_
  ·
   rcases br_some hx67 with ⟨h68, hx67⟩ | ⟨h68, hx67⟩
   ·refine WC.condT2 (fun fb => by kernel_rfl) h68 ?_
    refine WC.region ?_
    refine sg 1 [] [3, 19] [e1, (19, e2)] (by kernel_rfl) ?_
    refine WL.store hS63 3 rfl [(0, e2)] #[e2] (fun fb => by kernel_rfl) (by kernel_rfl) rfl [0, 1, 2] (by decide) (by decide) (fun w69 hS70 => ?_)
    refine ⟨trivial, ?_⟩
    refine WL.done rfl ?_
    injection hx67 with hx67
    exact WX.to Kx66 (t45, A50, c51) [3] rfl ⟨(hS70.subR [0, 1]).sub [0, 2, 3] (by decide), hx67.symm⟩
   refine WC.condF2 (fun fb => by kernel_rfl) h68 ?_
   refine WC.skip ?_
   injection hx67 with hx67
   exact WX.to Kx66 (l16, (some a57), c15) [3] rfl ⟨(hS63.subR [0, 1]).sub [3, 0, 2] (by decide), hx67.symm⟩
  rintro ⟨y74, A64, c65⟩ w71 ⟨hS72, hq73⟩
  subst hq73
  have hS75 := hS58.go w71 [flgO false 48 enc_Tile A64 c65 x66, blk g3 (.cells #[(sv A64 x66 c65)] 28 (0, 0)), blk l21 LB19] (hS72.toFlg 1 rfl false (fun h => by cases h) [0, 2] (by decide) (by decide))
  injection hf37 with hf37
  subst hf37
  exact WX.blockN (WX.roundN' hK24 (hS75.blkAt 2 rfl) ⟨(A64, c65), rfl, ((hS75.putO 2 rfl (LO18 none) [0, 1] (by decide) (by decide)).sub [0, 2, 1] (by decide)).noR.closeSep⟩)
 obtain ⟨t76, ht77, hf⟩ := bind_some hf
 refine (census_orders_1_y_calls _ p0 (census_least.b1 k ) ((true, ([] : List Tile)), (0 : Int)) g11 Aa ca l21 (fun (s_ : (Bool × (List Tile)) × Int) (t_ : (Option Addr) × Nat) => sepO (blk l21 (LO18 (pendN [] s_.2)) :: [blk g3 (.cells #[(sv t_.1 s_.1.2 t_.2)] 28 (0, 0)), flgO s_.1.1 48 enc_Tile t_.1 t_.2 s_.1.2])) (none, 0) (poolO [rowR enc_Tile Aa ca p0]) t76 _ (hS26.rdP [0]) (hS26.owT [0] 2 (by decide)) (hS26.rdT [0] 0) (hS26.io [0] (by decide)) hY30 ht77).post (fun v w78 hR79 => ?_)
 obtain ⟨tt81, rfl, hk_⟩ := hR79
 have hS80 := hS26.go w78 [(fun (s_ : (Bool × (List Tile)) × Int) (t_ : (Option Addr) × Nat) => sepO (blk l21 (LO18 (pendN [] s_.2)) :: [blk g3 (.cells #[(sv t_.1 s_.1.2 t_.2)] 28 (0, 0)), flgO s_.1.1 48 enc_Tile t_.1 t_.2 s_.1.2])) t76 tt81, blk D22 (.deferred (some [])), blk g11 (.cells #[(sv Aa p0 ca)] 28 (0, 0))] (hS26.call hk_ [0] [1, 2] (fun g hg => fpL_sel g hg) (by decide) (by decide))
 have hS82 := hS80.go w78 [blk l21 (LO18 (pendN [] t76.2)), blk g3 (.cells #[(sv tt81.1 t76.1.2 tt81.2)] 28 (0, 0)), flgO t76.1.1 48 enc_Tile tt81.1 tt81.2 t76.1.2, blk D22 (.deferred (some [])), blk g11 (.cells #[(sv Aa p0 ca)] 28 (0, 0))] (hS80.unpack 0 rfl [1, 2] (by decide) (by decide))
 refine ⟨_, hS82.blkAt 0 rfl, ?_⟩
 have hS83 := (hS82.putO 0 rfl (LX20 (pendN [] t76.2)) [1, 2, 3, 4] (by decide) (by decide)).tail
 revert hS83
 generalize World.putObj _ _ _ = w84
 intro hS83
 have hS85 := hS82.go w84 [blk g3 (.cells #[(sv tt81.1 t76.1.2 tt81.2)] 28 (0, 0)), flgO t76.1.1 48 enc_Tile tt81.1 tt81.2 t76.1.2, blk D22 (.deferred (some [])), blk g11 (.cells #[(sv Aa p0 ca)] 28 (0, 0))] (hS83)
 obtain ⟨h86, hf⟩ := as_some hf
 rw [h86]
 refine WX.keep [3, 4294967295] [e1, (4294967295, (.func (.yield D22) #[] #[]))] rfl ?_
 refine WX.blockN (WX.next ?_)
 refine WC.seq (WC.region ?_)
 refine seg 2 [.v (sv tt81.1 t76.1.2 tt81.2)] [2, 4294967295] [(2, (sv tt81.1 t76.1.2 tt81.2)), (4294967295, (.func (.yield D22) #[] #[]))] [.cell ⟨g3, 0, none⟩ (sv tt81.1 t76.1.2 tt81.2)] (fun fb => by kernel_rfl) rfl ⟨hS85.cell 0 rfl 0 rfl, trivial⟩ ?_
 refine WL.done rfl (WX.next ?_)
 refine WC.ret ?_
 have hS87 := hS85.go w84 [rowO 48 enc_Tile tt81.1 tt81.2 t76.1.2, blk g3 (.cells #[(sv tt81.1 t76.1.2 tt81.2)] 28 (0, 0)), blk D22 (.deferred (some [])), blk g11 (.cells #[(sv Aa p0 ca)] 28 (0, 0))] (hS85.unFlg 1 rfl [0, 2, 3] (by decide) (by decide))
 injection hf with hf
 subst hf
 exact WX.retM hS87 2 rfl rfl [0, 1, 3] (by decide) (by decide) [] (sv tt81.1 t76.1.2 tt81.2) [] (fun fb => by kernel_rfl) (fun w89 hS88 => ⟨trivial, ⟨tt81.1, tt81.2, rfl, (hS88.sub [0] (by decide)).noR⟩⟩)
theorem census_words_1_1_y_calls {σ τ : Type} : ∀ (k : Nat) (p0 : Int) (p1 : Int) (f0 : Int) (f2 : List Int) (yf : (List Int) → σ → Option (σ × Bool)) (sY : σ) (ga : Nat) (gb : Nat) (gc : Nat) (Aa : Option Addr) (ca : Nat) (gd : Nat) (yl : Nat) (Y : σ → τ → Own) (tY : τ) (Rd : Own) (r : Bool × σ × (List Int)) (w : World) (hR0 : RO (fpL [Y sY tY, blk gc (.cells #[(sv Aa f2 ca)] 37 (0, 0)), rowO 3 encInt Aa ca f2]) w (blk ga (.cells #[(iv f0)] 3 (0, 0)))) (hR1 : RO (fpL [Y sY tY, blk gc (.cells #[(sv Aa f2 ca)] 37 (0, 0)), rowO 3 encInt Aa ca f2]) w (Rd)) (hR2 : RO (fpL [Y sY tY, blk gc (.cells #[(sv Aa f2 ca)] 37 (0, 0)), rowO 3 encInt Aa ca f2]) w (blk gb (.cells #[(.func (.yield yl) #[] #[])] 86 (0, 0)))) (hR3 : RO (fpL [Y sY tY, blk gc (.cells #[(sv Aa f2 ca)] 37 (0, 0)), rowO 3 encInt Aa ca f2]) w (blk gd (.cells #[(.func (.func 54) #[] #[(pt ga), (pt gb), (pt gc), (pt gd)])] 87 (0, 0)))) (hI : IoOK w [Y sY tY, blk gc (.cells #[(sv Aa f2 ca)] 37 (0, 0)), rowO 3 encInt Aa ca f2]) (hY : ∀ (x0_ : List Int) (A0_ : Option Addr) (c0_ : Nat) (s_ : σ) (t_ : τ) (r_ : σ × Bool) (w_ : World), RO (fpL [Y s_ t_]) w_ (rowR encInt A0_ c0_ x0_) → RO (fpL [Y s_ t_]) w_ Rd → IoOK w_ [Y s_ t_] → yf x0_ s_ = some r_ → YieldR Try.prog (.func (.yield yl) #[] #[]) #[(sv A0_ x0_ c0_)] w_ (fun v_ w' => ∃ t1_, v_ = .bool r_.2 ∧ St (fpL [Y s_ t_]) w_ w' [] [Y r_.1 t1_])) (hf : census_words_1_1_y k p0 p1 f0 f2 yf sY = some r),
  CallsR Try.prog 54 #[(iv p0), (iv p1), (pt ga), (pt gb), (pt gc), (pt gd)] w (fun v w' => ∃ (t1_ : τ), ∃ (A1_ : Option Addr), ∃ (c1_ : Nat), v = (bv r.1) ∧ St (fpL [Y sY tY, blk gc (.cells #[(sv Aa f2 ca)] 37 (0, 0)), rowO 3 encInt Aa ca f2]) w w' [] [Y r.2.1 t1_, blk gc (.cells #[(sv A1_ r.2.2 c1_)] 37 (0, 0)), rowO 3 encInt A1_ c1_ r.2.2]) := by
 intro k
 induction k with
 | zero => intro p0 p1 f0 f2 yf sY ga gb gc Aa ca gd yl Y tY Rd r w hR0 hR1 hR2 hR3 hI hY hf; rw [census_words_1_1_y] at hf; cases hf
 | succ k ih_ =>
 intro p0 p1 f0 f2 yf sY ga gb gc Aa ca gd yl Y tY Rd r w hR0 hR1 hR2 hR3 hI hY hf
 have hS : St (fpL [Y sY tY, blk gc (.cells #[(sv Aa f2 ca)] 37 (0, 0)), rowO 3 encInt Aa ca f2]) w w [blk ga (.cells #[(iv f0)] 3 (0, 0)), Rd, blk gb (.cells #[(.func (.yield yl) #[] #[])] 86 (0, 0)), blk gd (.cells #[(.func (.func 54) #[] #[(pt ga), (pt gb), (pt gc), (pt gd)])] 87 (0, 0))] [Y sY tY, blk gc (.cells #[(sv Aa f2 ca)] 37 (0, 0)), rowO 3 encInt Aa ca f2] := St.initIO (ro_cons hR0 (ro_cons hR1 (ro_cons hR2 (ro_cons hR3 (ro_nil _ _))))) hI
 rw [census_words_1_1_y] at hf
 generalize census_words_1_1_y k = rc_ at hf ih_
 refine enter 35 Try.func54 rfl Try.ntmps54 rfl ?_
 refine WC.seq (WC.region ?_)
 refine sg 1 [] [0, 1, 2, 3, 4, 5] [(0, (iv p0)), (1, (iv p1)), (2, (pt ga)), (3, (pt gb)), (4, (pt gc)), (5, (pt gd))] (by kernel_rfl) ?_
 refine WL.done rfl (WX.next (WC.seq (WC.seq (WC.region ?_))))
 refine seg 3 [.v (iv f0)] [0, 1, 3, 4, 5, 12] [(0, (iv p0)), (1, (iv p1)), (3, (pt gb)), (4, (pt gc)), (5, (pt gd)), (12, (bv (p0 == f0)))] [.cell ⟨ga, 0, none⟩ (iv f0)] (fun fb => by kernel_rfl) rfl ⟨blk_cell (hS.rd 0).1 0 rfl, trivial⟩ ?_
 refine WL.done rfl (WX.next ?_)
 rcases br_some hf with ⟨h4, hf⟩ | ⟨h4, hf⟩
 ·refine WC.condT2 (fun fb => by kernel_rfl) h4 ?_
  refine WC.seq (WC.region ?_)
  refine seg 2 [.v (.func (.yield yl) #[] #[]), .v (sv Aa f2 ca)] [4, 13, 14] [(4, (pt gc)), (13, (.func (.yield yl) #[] #[])), (14, (sv Aa f2 ca))] [.cell ⟨gb, 0, none⟩ (.func (.yield yl) #[] #[]), .cell ⟨gc, 0, none⟩ (sv Aa f2 ca)] (fun fb => by kernel_rfl) rfl ⟨blk_cell (hS.rd 2).1 0 rfl, hS.cell 1 rfl 0 rfl, trivial⟩ ?_
  obtain ⟨t5, ht6, hf⟩ := bind_some hf
  refine WL.yield (some 15) (.func (.yield yl) #[] #[]) #[(sv Aa f2 ca)] (fun fb => by kernel_rfl) (hY f2 Aa ca sY tY t5 _ (hS.owT [0] 2 (by decide)).ofO (hS.rdT [0] 1) (hS.io [0] (by decide)) ht6) (fun v w7 hR8 => ?_)
  obtain ⟨tt10, rfl, hk_⟩ := hR8
  have hS9 := hS.go w7 [Y t5.1 tt10, blk gc (.cells #[(sv Aa f2 ca)] 37 (0, 0)), rowO 3 encInt Aa ca f2] (hS.call hk_ [0] [1, 2] (fun g hg => fpL_sel g hg) (by decide) (by decide))
  refine ⟨trivial, ?_⟩
  refine sg 4 [] [4, 8] [(4, (pt gc)), (8, (bv t5.2))] (by kernel_rfl) ?_
  refine WL.done rfl (WX.next ?_)
  refine WC.ret ?_
  injection hf with hf
  subst hf
  exact WX.thenR (WX.ret_ [] (bv t5.2) [] (fun fb => by kernel_rfl) trivial ⟨_, rfl, tt10, Aa, ca, rfl, (hS9.sub [0, 1, 2] (by decide)).noR⟩)
 refine WC.condF2 (fun fb => by kernel_rfl) h4 ?_
 refine WC.skip (WX.next (WC.seq (WC.seq (WC.region ?_))))
 refine sg 3 [] [0, 1, 4, 5, 17, 18] [(0, (iv p0)), (1, (iv p1)), (4, (pt gc)), (5, (pt gd)), (17, (iv (w64 (p1 + 1)))), (18, (iv 0))] (by kernel_rfl) ?_
 refine WL.done rfl (WX.next ?_)
 obtain ⟨x20, hx21, hf⟩ := bind_some hf
 let e1 : Nat × Value := (17, (iv (w64 (p1 + 1))))
 let e2 : Array Value := #[(pt ga), (pt gb), (pt gc), (pt gd)]
 let e3 : Nat × Value := (4, (pt gc))
 let e4 : Nat × Value := (0, (iv p0))
 let e5 : Nat × Value := (1, (iv p1))
 let e6 : Nat × Value := (5, (pt gd))
 refine WC.cutN (T := ((List Int) × σ) × (Option Addr) × Nat × τ) (fun t => [e3]) (fun t w1 => St (fpL [Y sY tY, blk gc (.cells #[(sv Aa f2 ca)] 37 (0, 0)), rowO 3 encInt Aa ca f2]) w w1 [blk ga (.cells #[(iv f0)] 3 (0, 0)), Rd, blk gb (.cells #[(.func (.yield yl) #[] #[])] 86 (0, 0)), blk gd (.cells #[(.func (.func 54) #[] e2)] 87 (0, 0))] [blk gc (.cells #[(sv t.2.1 t.1.1 t.2.2.1)] 37 (0, 0)), rowO 3 encInt t.2.1 t.2.2.1 t.1.1, Y t.1.2 t.2.2.2] ∧ x20 = .inr t.1) (fun Kx20 => ?_) ?_
 ·
  refine WC.block ?_
  refine WC.loop (T := ((List Int) × Int × σ) × (Option Addr) × Nat × τ) (fun t => [e4, e5, e3, e6, e1, (18, (iv t.1.2.1))]) (fun n t w1 => St (fpL [Y sY tY, blk gc (.cells #[(sv Aa f2 ca)] 37 (0, 0)), rowO 3 encInt Aa ca f2]) w w1 [blk ga (.cells #[(iv f0)] 3 (0, 0)), Rd, blk gb (.cells #[(.func (.yield yl) #[] #[])] 86 (0, 0)), blk gd (.cells #[(.func (.func 54) #[] e2)] 87 (0, 0))] [blk gc (.cells #[(sv t.2.1 t.1.1 t.2.2.1)] 37 (0, 0)), rowO 3 encInt t.2.1 t.2.2.1 t.1.1, Y t.1.2.2 t.2.2.2] ∧ census_words_1_1_y.l0 n t.1.1 t.1.2.1 t.1.2.2 p0 p1 f0 yf rc_ = some x20) k ((f2, 0, sY), Aa, ca, tY) [0, 1, 4, 5, 17, 18] rfl ⟨(hS.subR [0, 1, 2, 3]).sub [1, 2, 0] (by decide), hx21⟩ ?_
  rintro k22 ⟨⟨l13, x14, s15⟩, A11, c12, tt16⟩ w23 ⟨hS24, hl25⟩
  let e7 : Nat × Value := (18, (iv x14))
  cases k22 with
  | zero => rw [census_words_1_1_y.l0] at hl25; cases hl25
  | succ k22 =>
   rw [census_words_1_1_y.l0] at hl25
   refine WC.seq (WC.region ?_)
   refine sg 1 [] [0, 1, 4, 5, 17, 18, 19] [e4, e5, e3, e6, e1, e7, (19, (bv (decide (x14 < w64 (p1 + 1)))))] (by kernel_rfl) ?_
   refine WL.done rfl (WX.next (WC.seq ?_))
   rcases br_some hl25 with ⟨h26, hl25⟩ | ⟨h26, hl25⟩
   ·refine WC.condT2 (fun fb => by kernel_rfl) h26 ?_
    refine WC.skip (WX.next (WC.seq (WC.block (WC.seq (WC.region ?_)))))
    refine sg 2 [] [0, 1, 4, 5, 9, 17, 18] [e4, e5, e3, e6, (9, (iv x14)), e1, e7] (by kernel_rfl) ?_
    refine WL.done rfl (WX.next (WC.seq (WC.region ?_)))
    refine seg 3 [.v (sv A11 l13 c12)] [0, 1, 4, 5, 9, 17, 18, 21, 22, 23] [e4, e5, e3, e6, (9, (iv x14)), e1, e7, (21, (sv A11 l13 c12)), (22, (iv p0)), (23, (iv x14))] [.cell ⟨gc, 0, none⟩ (sv A11 l13 c12)] (fun fb => by kernel_rfl) rfl ⟨hS24.cell 0 rfl 0 rfl, trivial⟩ ?_
    obtain ⟨h27, hl25⟩ := as_some hl25
    refine seg 4 [] [0, 1, 4, 5, 9, 17, 18, 23, 24] [e4, e5, e3, e6, (9, (iv x14)), e1, e7, (23, (iv x14)), (24, (.pointer (some ((adr A11).add ((p0).toNat * 1)))))] [.idx A11 p0 l13.length] (fun fb => by kernel_rfl) rfl ⟨rowR.adr (rowO.rd (hS24.own 1).1) h27.1 h27.2, trivial⟩ ?_
    refine WL.storeRow hS24 1 rfl (p0) (x14) (0) [(0, (iv x14))] (fun fb => by kernel_rfl) h27.1 h27.2 (by kernel_rfl) rfl [0, 2] (by decide) (by decide) (fun w28 hS29 => ?_)
    refine ⟨trivial, ?_⟩
    have hS30 : St (fpL [Y sY tY, blk gc (.cells #[(.slice Aa f2.length ca)] 37 (0, 0)), rowO 3 encInt Aa ca f2]) w w28 [blk ga (.cells #[(iv f0)] 3 (0, 0)), Rd, blk gb (.cells #[(.func (.yield yl) #[] #[])] 86 (0, 0)), blk gd (.cells #[(.func (.func 54) #[] #[(pt ga), (pt gb), (pt gc), (pt gd)])] 87 (0, 0))] [rowO 3 encInt A11 c12 (l13.set (p0).toNat x14), blk gc (.cells #[(.slice A11 (l13.set (p0).toNat x14).length c12)] 37 (0, 0)), Y s15 tt16] := by simpa only [List.length_set] using (show St (fpL [Y sY tY, blk gc (.cells #[(.slice Aa f2.length ca)] 37 (0, 0)), rowO 3 encInt Aa ca f2]) w w28 [blk ga (.cells #[(iv f0)] 3 (0, 0)), Rd, blk gb (.cells #[(.func (.yield yl) #[] #[])] 86 (0, 0)), blk gd (.cells #[(.func (.func 54) #[] #[(pt ga), (pt gb), (pt gc), (pt gd)])] 87 (0, 0))] [rowO 3 encInt A11 c12 (l13.set (p0).toNat x14), blk gc (.cells #[(.slice A11 l13.length c12)] 37 (0, 0)), Y s15 tt16] from hS29)
    refine WL.done rfl (WX.next (WC.seq (WC.region ?_)))
    refine seg 7 [.v (.func (.func 54) #[] e2)] [0, 1, 4, 5, 17, 18, 25, 27, 31] [e4, e5, e3, e6, e1, e7, (25, (.func (.func 54) #[] e2)), (27, (iv (w64 (p0 + 1)))), (31, (iv (maxI p1 (w64 (x14 + 1)))))] [.cell ⟨gd, 0, none⟩ (.func (.func 54) #[] e2)] (fun fb => by kernel_rfl) rfl ⟨blk_cell (hS30.rd 3).1 0 rfl, trivial⟩ ?_
    obtain ⟨t31, ht32, hl25⟩ := bind_some hl25
    refine WL.call (some 32) 54 #[(iv (w64 (p0 + 1))), (iv (maxI p1 (w64 (x14 + 1)))), (pt ga), (pt gb), (pt gc), (pt gd)] (fun fb => by kernel_rfl) (ih_ (w64 (p0 + 1)) (maxI p1 (w64 (x14 + 1))) f0 (l13.set (p0).toNat x14) yf s15 ga gb gc A11 c12 gd yl Y tt16 Rd t31 _ (hS30.rdT [2, 1, 0] 0) (hS30.rdT [2, 1, 0] 1) (hS30.rdT [2, 1, 0] 2) (hS30.rdT [2, 1, 0] 3) (hS30.io [2, 1, 0] (by decide)) hY ht32) (fun v w33 hR34 => ?_)
    obtain ⟨tt36, A37, c38, rfl, hk_⟩ := hR34
    have hS35 := hS.go w33 [Y t31.2.1 tt36, blk gc (.cells #[(sv A37 t31.2.2 c38)] 37 (0, 0)), rowO 3 encInt A37 c38 t31.2.2] (hS30.call hk_ [2, 1, 0] [] (fun g hg => fpL_sel g hg) (by decide) (by decide))
    refine ⟨trivial, ?_⟩
    refine sg 9 [] [0, 1, 4, 5, 17, 18, 33] [e4, e5, e3, e6, e1, e7, (33, (bv (!t31.1)))] (by kernel_rfl) ?_
    refine WL.done rfl (WX.next ?_)
    rcases br_some hl25 with ⟨h39, hl25⟩ | ⟨h39, hl25⟩
    ·refine WC.condT2 (fun fb => by kernel_rfl) h39 ?_
     refine WC.seq (WC.region ?_)
     refine sg 1 [] [4, 8] [e3, (8, (bv false))] (by kernel_rfl) ?_
     refine WL.done rfl (WX.next ?_)
     refine WC.ret ?_
     injection hl25 with hl25
     subst hl25
     injection hf with hf
     subst hf
     exact WX.blockR (WX.thenR (WX.thenR (WX.blockR (WX.thenR (WX.ret_ [] (bv false) [] (fun fb => by kernel_rfl) trivial ⟨_, rfl, tt36, A37, c38, rfl, (hS35.sub [0, 1, 2] (by decide)).noR⟩)))))
    refine WC.condF2 (fun fb => by kernel_rfl) h39 ?_
    refine WC.skip ?_
    refine WX.blockN (WX.next ?_)
    refine WC.region ?_
    refine sg 2 [] [0, 1, 4, 5, 17, 18] [e4, e5, e3, e6, e1, (18, (iv (w64 (x14 + 1))))] (by kernel_rfl) ?_
    refine WL.done rfl ?_
    exact WX.again k22 (Nat.lt_succ_self _) ((t31.2.2, w64 (x14 + 1), t31.2.1), A37, c38, tt36) [0, 1, 4, 5, 17, 18] rfl ⟨(hS35.subR [0, 1, 2, 3]).sub [1, 2, 0] (by decide), hl25⟩
   refine WC.condF2 (fun fb => by kernel_rfl) h26 ?_
   refine WC.exit ?_
   injection hl25 with hl25
   exact WX.thenX (WX.thenX (WX.blockHere (WX.to Kx20 ((l13, s15), A11, c12, tt16) [4] rfl ⟨(hS24.subR [0, 1, 2, 3]).sub [0, 1, 2] (by decide), hl25.symm⟩)))
 rintro ⟨y43, A17, c18, tt19⟩ w40 ⟨hS41, hq42⟩
 subst hq42
 have hf := sum_inr hf
 refine WX.next (WC.seq (WC.region ?_))
 refine sg 1 [] [4, 8] [e3, (8, (bv true))] (by kernel_rfl) ?_
 refine WL.done rfl (WX.next ?_)
 refine WC.ret ?_
 injection hf with hf
 subst hf
 exact WX.ret_ [] (bv true) [] (fun fb => by kernel_rfl) trivial ⟨_, rfl, tt19, A17, c18, rfl, (hS41.sub [2, 0, 1] (by decide)).noR⟩
theorem census_words_1_y_calls {σ τ : Type} (k : Nat) (f0 : Int) (yf : (List Int) → σ → Option (σ × Bool)) (sY : σ) (ga : Nat) (yl : Nat) (Y : σ → τ → Own) (tY : τ) (Rd : Own) (r : σ) (w : World) (hR0 : RO (fpL [Y sY tY]) w (Rd)) (hR1 : RO (fpL [Y sY tY]) w (blk ga (.cells #[(iv f0)] 3 (0, 0)))) (hI : IoOK w [Y sY tY]) (hY : ∀ (x0_ : List Int) (A0_ : Option Addr) (c0_ : Nat) (s_ : σ) (t_ : τ) (r_ : σ × Bool) (w_ : World), RO (fpL [Y s_ t_]) w_ (rowR encInt A0_ c0_ x0_) → RO (fpL [Y s_ t_]) w_ Rd → IoOK w_ [Y s_ t_] → yf x0_ s_ = some r_ → YieldR Try.prog (.func (.yield yl) #[] #[]) #[(sv A0_ x0_ c0_)] w_ (fun v_ w' => ∃ t1_, v_ = .bool r_.2 ∧ St (fpL [Y s_ t_]) w_ w' [] [Y r_.1 t1_])) (hf : census_words_1_y k f0 yf sY = some r) :
  CallsR Try.prog 53 #[(.func (.yield yl) #[] #[]), (pt ga)] w (fun v w' => ∃ (t1_ : τ), v = (.tuple #[]) ∧ St (fpL [Y sY tY]) w w' [] [Y r t1_]) := by
 have hS : St (fpL [Y sY tY]) w w [Rd, blk ga (.cells #[(iv f0)] 3 (0, 0))] [Y sY tY] := St.initIO (ro_cons hR0 (ro_cons hR1 (ro_nil _ _))) hI
 refine enter 10 Try.func53 rfl Try.ntmps53 rfl ?_
 unfold census_words_1_y at hf
 refine WC.seq (WC.region ?_)
 refine WL.new hS 2 [] (fun g => (pt g)) (.cells #[(.func (.yield yl) #[] #[])] 86 (0, 0)) [] (fun fb g => by kernel_rfl) trivial (fun g3 w4 hS5 => ?_)
 refine ⟨trivial, ?_⟩
 refine WL.done rfl (WX.next (WC.seq (WC.region ?_)))
 refine seg 1 [.v (iv f0)] [1, 2, 5] [(1, (pt ga)), (2, (pt g3)), (5, (iv f0))] [.cell ⟨ga, 0, none⟩ (iv f0)] (fun fb => by kernel_rfl) rfl ⟨blk_cell (hS5.rd 1).1 0 rfl, trivial⟩ ?_
 obtain ⟨h6, hf⟩ := as_some hf
 refine WL.make hS5 (e := encInt) (T := 3) (tS := 37) (z := (iv 0)) (bytes := 8) (d := 6) (0 : Int) f0 (fun fb => by kernel_rfl) (by kernel_rfl) (by kernel_rfl) rfl (by decide) h6 (by decide) (fun g7 w8 hS9 => ?_)
 refine ⟨trivial, ?_⟩
 refine WL.new hS9 3 [] (fun g => (pt g)) (.cells #[(.slice none 0 0)] 37 (0, 0)) [] (fun fb g => by kernel_rfl) trivial (fun g10 w11 hS12 => ?_)
 refine ⟨trivial, ?_⟩
 let e2 := (sv (some ⟨g7, 0, none⟩) (List.replicate f0.toNat (0 : Int)) f0.toNat)
 refine WL.store hS12 0 rfl [(0, e2)] #[e2] (fun fb => by kernel_rfl) (by kernel_rfl) rfl [1, 2, 3] (by decide) (by decide) (fun w13 hS14 => ?_)
 refine ⟨trivial, ?_⟩
 refine WL.done rfl (WX.next (WC.seq (WC.region ?_)))
 refine WL.new hS14 4 [] (fun g => (pt g)) (.cells #[.nilFunc] 87 (0, 0)) [] (fun fb g => by kernel_rfl) trivial (fun g15 w16 hS17 => ?_)
 refine ⟨trivial, ?_⟩
 refine WL.done rfl (WX.next (WC.seq (WC.region ?_)))
 refine sg 1 [] [4, 7] [(4, (pt g15)), (7, (.func (.func 54) #[] #[(pt ga), (pt g3), (pt g10), (pt g15)]))] (by kernel_rfl) ?_
 refine WL.store hS17 0 rfl [(0, (.func (.func 54) #[] #[(pt ga), (pt g3), (pt g10), (pt g15)]))] #[(.func (.func 54) #[] #[(pt ga), (pt g3), (pt g10), (pt g15)])] (fun fb => by kernel_rfl) (by kernel_rfl) rfl [1, 2, 3, 4] (by decide) (by decide) (fun w18 hS19 => ?_)
 refine ⟨trivial, ?_⟩
 refine WL.done rfl (WX.next (WC.region ?_))
 let e1 : Array Value := #[(pt ga), (pt g3), (pt g10), (pt g15)]
 refine seg 1 [.v (.func (.func 54) #[] e1)] [8] [(8, (.func (.func 54) #[] e1))] [.cell ⟨g15, 0, none⟩ (.func (.func 54) #[] e1)] (fun fb => by kernel_rfl) rfl ⟨hS19.cell 0 rfl 0 rfl, trivial⟩ ?_
 obtain ⟨t20, ht21, hf⟩ := bind_some hf
 refine WL.call (some 9) 54 #[(iv 0), (iv 0), (pt ga), (pt g3), (pt g10), (pt g15)] (fun fb => by kernel_rfl) (census_words_1_1_y_calls _ 0 0 f0 (List.replicate f0.toNat (0 : Int)) yf sY ga g3 g10 (some ⟨g7, 0, none⟩) f0.toNat g15 yl Y tY Rd t20 _ (hS19.rdT [4, 1, 2] 1) (hS19.rdT [4, 1, 2] 0) (hS19.owT [4, 1, 2] 3 (by decide)) (hS19.owT [4, 1, 2] 0 (by decide)) (hS19.io [4, 1, 2] (by decide)) hY ht21) (fun v w22 hR23 => ?_)
 obtain ⟨tt25, A26, c27, rfl, hk_⟩ := hR23
 have hS24 := hS.go w22 [Y t20.2.1 tt25, blk g10 (.cells #[(sv A26 t20.2.2 c27)] 37 (0, 0)), rowO 3 encInt A26 c27 t20.2.2, blk g15 (.cells #[(.func (.func 54) #[] e1)] 87 (0, 0)), blk g3 (.cells #[(.func (.yield yl) #[] #[])] 86 (0, 0))] (hS19.call hk_ [4, 1, 2] [0, 3] (fun g hg => fpL_sel g hg) (by decide) (by decide))
 refine ⟨trivial, ?_⟩
 refine WL.done rfl ?_
 injection hf with hf
 subst hf
 exact WX.end_ [] (.tuple #[]) [] (fun fb => by kernel_rfl) trivial ⟨_, rfl, tt25, rfl, (hS24.sub [0] (by decide)).noR⟩
theorem census_forms_calls (k : Nat) (p0 : Int)  (r : (List (List Tile))) (w : World)  (hf : census_forms k p0 = some r) :
  CallsR Try.prog 22 #[(iv p0)] w (fun v w' => ∃ (A1_ : Option Addr), ∃ (c1_ : Nat), ∃ (z1_ : HF), v = (sv A1_ r c1_) ∧ St NoS w w' [] [rowO 28 (encSl Tile) A1_ c1_ (tag z1_ r), rowsO 48 enc_Tile z1_ r]) := by
 have hS : St NoS w w [] [] := St.init (ro_nil _ _)
 refine enter 63 Try.func22 rfl Try.ntmps22 rfl ?_
 unfold census_forms at hf
 refine WC.seq (WC.region ?_)
 refine WL.new hS 1 [] (fun g => (pt g)) (.cells #[(iv p0)] 3 (0, 0)) [] (fun fb g => by kernel_rfl) trivial (fun g11 w12 hS13 => ?_)
 refine ⟨trivial, ?_⟩
 refine sg 2 [] [1] [(1, (pt g11))] (by kernel_rfl) ?_
 refine WL.done rfl (WX.next (WC.seq (WC.region ?_)))
 refine WL.new hS13 3 [] (fun g => (pt g)) (.cells #[(.slice none 0 0)] 22 (0, 0)) [] (fun fb g => by kernel_rfl) trivial (fun g15 w16 hS17 => ?_)
 refine ⟨trivial, ?_⟩
 refine WL.done rfl (WX.next (WC.seq (WC.seq (WC.region ?_))))
 refine seg 2 [.v (iv p0)] [1, 3, 9] [(1, (pt g11)), (3, (pt g15)), (9, (iv (w64 (2 * p0))))] [.cell ⟨g11, 0, none⟩ (iv p0)] (fun fb => by kernel_rfl) rfl ⟨hS17.cell 1 rfl 0 rfl, trivial⟩ ?_
 obtain ⟨t23, ht24, hf⟩ := bind_some hf
 refine WL.call (some 10) 37 #[(iv (w64 (2 * p0)))] (fun fb => by kernel_rfl) (census_words_calls (w64 (2 * p0)) t23 _ ht24) (fun v w25 hR26 => ?_)
 obtain ⟨g28, rfl, hk_⟩ := hR26
 have hS27 := hS.go w25 [blk g28 (.cells #[(iv (w64 (2 * p0)))] 3 (0, 0)), blk g15 (.cells #[(.slice none 0 0)] 22 (0, 0)), blk g11 (.cells #[(iv p0)] 3 (0, 0))] (hS17.call hk_ [] [0, 1] (fun g hg => hg.elim) (by simp) (by decide))
 refine ⟨trivial, ?_⟩
 refine WL.done rfl (WX.next (WC.block ?_))
 have hS4 := hS27.go w25 [rowO 28 (encSl Tile) none 0 (tag hf0 ([] : List (List Tile))), blk g28 (.cells #[(iv (w64 (2 * p0)))] 3 (0, 0)), blk g15 (.cells #[(.slice none 0 0)] 22 (0, 0)), blk g11 (.cells #[(iv p0)] 3 (0, 0))] (hS27.nilrow 28 (encSl Tile))
 have hS5 := hS4.go w25 [rowsO 48 enc_Tile hf0 ([] : List (List Tile)), rowO 28 (encSl Tile) none 0 (tag hf0 ([] : List (List Tile))), blk g28 (.cells #[(iv (w64 (2 * p0)))] 3 (0, 0)), blk g15 (.cells #[(.slice none 0 0)] 22 (0, 0)), blk g11 (.cells #[(iv p0)] 3 (0, 0))] (hS4.rowsNil 48 enc_Tile 0)
 refine WC.rangeO hS5 (fun _ _ h => h) rfl (gf := 53) (lb := [(pt g28)]) (fun fb => by kernel_rfl) (fun _ => by kernel_rfl) (fun LO10 LB14 LX18 l19 D20 w21 hK29 hS30 => ?_)
 have hS31 := hS5.go w21 [(fun (s_ : (List (List Tile)) × Int) (t_ : (Option Addr) × Nat × HF) => sepO (blk l19 (LO10 (pendN [] s_.2)) :: [blk g11 (.cells #[(iv p0)] 3 (0, 0)), blk g15 (.cells #[(sv t_.1 s_.1 t_.2.1)] 22 (0, 0)), rowO 28 (encSl Tile) t_.1 t_.2.1 (tag t_.2.2 s_.1), rowsO 48 enc_Tile t_.2.2 s_.1])) (([] : List (List Tile)), (0 : Int)) (none, 0, hf0), blk D20 (.deferred (some [])), blk g28 (.cells #[(iv (w64 (2 * p0)))] 3 (0, 0))] (hS30.pack [0, 6, 5, 3, 2] [1, 4] (by decide) (by decide) (by decide))
 let e5 : Nat × Value := (1, (pt g11))
 let e6 : Nat × Value := (3, (pt g15))
 let e7 : Array Value := #[(iv p0)]
 let e9 := encSl Tile
 let e13 := iv (w64 (2 * p0))
 let e14 : List Nat := [1, 3, 4, 5, 6, 16, 17]
 let e17 : Nat × Value := (16, (iv p0))
 have hY35 : ∀ (x0_ : List Int) (A0_ : Option Addr) (c0_ : Nat) (s_ : (List (List Tile)) × Int) (t_ : (Option Addr) × Nat × HF) (r_ : ((List (List Tile)) × Int) × Bool) (w_ : World), RO (fpL [(fun (s_ : (List (List Tile)) × Int) (t_ : (Option Addr) × Nat × HF) => sepO (blk l19 (LO10 (pendN [] s_.2)) :: [blk g11 (.cells e7 3 (0, 0)), blk g15 (.cells #[(sv t_.1 s_.1 t_.2.1)] 22 (0, 0)), rowO 28 (encSl Tile) t_.1 t_.2.1 (tag t_.2.2 s_.1), rowsO 48 enc_Tile t_.2.2 s_.1])) s_ t_]) w_ (rowR encInt A0_ c0_ x0_) → RO (fpL [(fun (s_ : (List (List Tile)) × Int) (t_ : (Option Addr) × Nat × HF) => sepO (blk l19 (LO10 (pendN [] s_.2)) :: [blk g11 (.cells e7 3 (0, 0)), blk g15 (.cells #[(sv t_.1 s_.1 t_.2.1)] 22 (0, 0)), rowO 28 (encSl Tile) t_.1 t_.2.1 (tag t_.2.2 s_.1), rowsO 48 enc_Tile t_.2.2 s_.1])) s_ t_]) w_ (poolO []) → IoOK w_ [(fun (s_ : (List (List Tile)) × Int) (t_ : (Option Addr) × Nat × HF) => sepO (blk l19 (LO10 (pendN [] s_.2)) :: [blk g11 (.cells e7 3 (0, 0)), blk g15 (.cells #[(sv t_.1 s_.1 t_.2.1)] 22 (0, 0)), rowO 28 (encSl Tile) t_.1 t_.2.1 (tag t_.2.2 s_.1), rowsO 48 enc_Tile t_.2.2 s_.1])) s_ t_] → census_forms.b1 k p0 x0_ s_ = some r_ → YieldR Try.prog (.func (.yield l19) #[] #[]) #[(sv A0_ x0_ c0_)] w_ (fun v_ w' => ∃ t1_, v_ = .bool r_.2 ∧ St (fpL [(fun (s_ : (List (List Tile)) × Int) (t_ : (Option Addr) × Nat × HF) => sepO (blk l19 (LO10 (pendN [] s_.2)) :: [blk g11 (.cells e7 3 (0, 0)), blk g15 (.cells #[(sv t_.1 s_.1 t_.2.1)] 22 (0, 0)), rowO 28 (encSl Tile) t_.1 t_.2.1 (tag t_.2.2 s_.1), rowsO 48 enc_Tile t_.2.2 s_.1])) s_ t_]) w_ w' [] [(fun (s_ : (List (List Tile)) × Int) (t_ : (Option Addr) × Nat × HF) => sepO (blk l19 (LO10 (pendN [] s_.2)) :: [blk g11 (.cells e7 3 (0, 0)), blk g15 (.cells #[(sv t_.1 s_.1 t_.2.1)] 22 (0, 0)), rowO 28 (encSl Tile) t_.1 t_.2.1 (tag t_.2.2 s_.1), rowsO 48 enc_Tile t_.2.2 s_.1])) r_.1 t1_]) := by
  rintro x32 A33 c34 ⟨l8, j36⟩ ⟨A6, c7, H9⟩ r37 w40 hro45 hRd41 hI42 hf43
  rw [census_forms.b1] at hf43
  replace hf43 := as_some hf43
  obtain ⟨hj46, hf43⟩ := hf43
  subst hj46
  have hRo47 := hRd41.openSep
  have hS44 : St (fpL [blk l19 (LO10 none), blk g11 (.cells e7 3 (0, 0)), blk g15 (.cells #[(sv A6 l8 c7)] 22 (0, 0)), rowO 28 e9 A6 c7 (tag H9 l8), rowsO 48 enc_Tile H9 l8]) w40 w40 [rowR encInt A33 c34 x32] [blk l19 (LO10 none), blk g11 (.cells e7 3 (0, 0)), blk g15 (.cells #[(sv A6 l8 c7)] 22 (0, 0)), rowO 28 e9 A6 c7 (tag H9 l8), rowsO 48 enc_Tile H9 l8] := St.initIO (ro_cons hro45.openSep (ro_nil _ _)) hI42.openSep
  refine YieldR.of_loop hK29 (hS44.blkAt 0 rfl) [(sv A33 x32 c34)] [1, 3] [e5, e6] [(11, (sv A33 x32 c34)), e5, e6] rfl rfl rfl rfl rfl ?_
  refine WC.region ?_
  refine WL.new hS44 4 [] (fun g => (pt g)) (.cells #[(.slice none 0 0)] 37 (0, 0)) [] (fun fb g => by kernel_rfl) trivial (fun g48 w49 hS50 => ?_)
  refine ⟨trivial, ?_⟩
  refine WL.store hS50 0 rfl [(0, (sv A33 x32 c34))] #[(sv A33 x32 c34)] (fun fb => by kernel_rfl) (by kernel_rfl) rfl [1, 2, 3, 4, 5] (by decide) (by decide) (fun w51 hS52 => ?_)
  refine ⟨trivial, ?_⟩
  refine WL.done rfl ?_
  refine WX.begin' hK29 (hS52.blkAt 1 rfl) ?_
  have hS53 := hS52.putO 1 rfl LB14 [0, 2, 3, 4, 5] (by decide) (by decide)
  revert hS53
  generalize World.putObj _ _ _ = w54
  intro hS53
  have hS55 := hS44.go w54 [blk l19 LB14, blk g48 (.cells #[(sv A33 x32 c34)] 37 (0, 0)), blk g11 (.cells e7 3 (0, 0)), blk g15 (.cells #[(sv A6 l8 c7)] 22 (0, 0)), rowO 28 e9 A6 c7 (tag H9 l8), rowsO 48 enc_Tile H9 l8] (hS53)
  refine WC.block (WC.seq (WC.region ?_))
  refine seg 2 [.v (iv p0)] [1, 3, 4, 13] [e5, e6, (4, (pt g48)), (13, e13)] [.cell ⟨g11, 0, none⟩ (iv p0)] (fun fb => by kernel_rfl) rfl ⟨hS55.cell 2 rfl 0 rfl, trivial⟩ ?_
  obtain ⟨t56, ht57, hf43⟩ := bind_some hf43
  refine WL.call (some 14) 37 #[e13] (fun fb => by kernel_rfl) (census_words_calls (w64 (2 * p0)) t56 _ ht57) (fun v w58 hR59 => ?_)
  obtain ⟨g61, rfl, hk_⟩ := hR59
  have hS60 : St (fpL [blk l19 (LO10 none), blk g11 (.cells #[(iv p0)] 3 (0, 0)), blk g15 (.cells #[(.slice A6 l8.length c7)] 22 (0, 0)), rowO 28 (encSl Tile) A6 c7 (tag H9 l8), rowsO 48 enc_Tile H9 l8]) w40 w58 [rowR encInt A33 c34 x32] [blk g61 (.cells #[(iv (w64 (2 * p0)))] 3 (0, 0)), blk l19 LB14, blk g48 (.cells #[(.slice A33 x32.length c34)] 37 (0, 0)), blk g11 (.cells #[(iv p0)] 3 (0, 0)), blk g15 (.cells #[(.slice A6 l8.length c7)] 22 (0, 0)), rowO 28 (encSl Tile) A6 c7 (tag H9 l8), rowsO 48 enc_Tile H9 l8] := hS55.call hk_ [] [0, 1, 2, 3, 4, 5] (fun g hg => hg.elim) (by simp) (by decide)
  refine ⟨trivial, ?_⟩
  refine WL.done rfl (WX.next (WC.block ?_))
  refine WC.rangeI hS60 hK29 (fun l w => ⟨fun h => markA_inj h, fun h => by subst h; rfl⟩) (hS60.blkAt 1 rfl) rfl (gf := 53) (lb := [(pt g61)]) (fun fb => by kernel_rfl) (fun _ => by kernel_rfl) (fun LO67 LB68 LX69 l70 w71 hK72 hS73 => ?_)
  have hS74 := hS55.go w71 [(fun (s_ : (List (List Tile)) × Int) (t_ : (Option Addr) × Nat × HF) => sepO (blk l70 (LO67 (pendN [] s_.2)) :: [blk g11 (.cells e7 3 (0, 0)), blk g15 (.cells #[(sv t_.1 s_.1 t_.2.1)] 22 (0, 0)), rowO 28 (encSl Tile) t_.1 t_.2.1 (tag t_.2.2 s_.1), rowsO 48 enc_Tile t_.2.2 s_.1, blk g48 (.cells #[(sv A33 x32 c34)] 37 (0, 0)), blk l19 LB14])) (l8, (0 : Int)) (A6, c7, H9), blk g61 (.cells #[e13] 3 (0, 0))] (hS73.pack [0, 4, 5, 6, 7, 3, 2] [1] (by decide) (by decide) (by decide))
  let e3 : Array Value := #[(sv A33 x32 c34)]
  let e8 : Nat × Value := (4, (pt g48))
  have hY78 : ∀ (x0_ : List Int) (A0_ : Option Addr) (c0_ : Nat) (s_ : (List (List Tile)) × Int) (t_ : (Option Addr) × Nat × HF) (r_ : ((List (List Tile)) × Int) × Bool) (w_ : World), RO (fpL [(fun (s_ : (List (List Tile)) × Int) (t_ : (Option Addr) × Nat × HF) => sepO (blk l70 (LO67 (pendN [] s_.2)) :: [blk g11 (.cells e7 3 (0, 0)), blk g15 (.cells #[(sv t_.1 s_.1 t_.2.1)] 22 (0, 0)), rowO 28 (encSl Tile) t_.1 t_.2.1 (tag t_.2.2 s_.1), rowsO 48 enc_Tile t_.2.2 s_.1, blk g48 (.cells e3 37 (0, 0)), blk l19 LB14])) s_ t_]) w_ (rowR encInt A0_ c0_ x0_) → RO (fpL [(fun (s_ : (List (List Tile)) × Int) (t_ : (Option Addr) × Nat × HF) => sepO (blk l70 (LO67 (pendN [] s_.2)) :: [blk g11 (.cells e7 3 (0, 0)), blk g15 (.cells #[(sv t_.1 s_.1 t_.2.1)] 22 (0, 0)), rowO 28 (encSl Tile) t_.1 t_.2.1 (tag t_.2.2 s_.1), rowsO 48 enc_Tile t_.2.2 s_.1, blk g48 (.cells e3 37 (0, 0)), blk l19 LB14])) s_ t_]) w_ (poolO [rowR encInt A33 c34 x32]) → IoOK w_ [(fun (s_ : (List (List Tile)) × Int) (t_ : (Option Addr) × Nat × HF) => sepO (blk l70 (LO67 (pendN [] s_.2)) :: [blk g11 (.cells e7 3 (0, 0)), blk g15 (.cells #[(sv t_.1 s_.1 t_.2.1)] 22 (0, 0)), rowO 28 (encSl Tile) t_.1 t_.2.1 (tag t_.2.2 s_.1), rowsO 48 enc_Tile t_.2.2 s_.1, blk g48 (.cells e3 37 (0, 0)), blk l19 LB14])) s_ t_] → census_forms.b2 k p0 x32 x0_ s_ = some r_ → YieldR Try.prog (.func (.yield l70) #[] #[]) #[(sv A0_ x0_ c0_)] w_ (fun v_ w' => ∃ t1_, v_ = .bool r_.2 ∧ St (fpL [(fun (s_ : (List (List Tile)) × Int) (t_ : (Option Addr) × Nat × HF) => sepO (blk l70 (LO67 (pendN [] s_.2)) :: [blk g11 (.cells e7 3 (0, 0)), blk g15 (.cells #[(sv t_.1 s_.1 t_.2.1)] 22 (0, 0)), rowO 28 (encSl Tile) t_.1 t_.2.1 (tag t_.2.2 s_.1), rowsO 48 enc_Tile t_.2.2 s_.1, blk g48 (.cells e3 37 (0, 0)), blk l19 LB14])) s_ t_]) w_ w' [] [(fun (s_ : (List (List Tile)) × Int) (t_ : (Option Addr) × Nat × HF) => sepO (blk l70 (LO67 (pendN [] s_.2)) :: [blk g11 (.cells e7 3 (0, 0)), blk g15 (.cells #[(sv t_.1 s_.1 t_.2.1)] 22 (0, 0)), rowO 28 (encSl Tile) t_.1 t_.2.1 (tag t_.2.2 s_.1), rowsO 48 enc_Tile t_.2.2 s_.1, blk g48 (.cells e3 37 (0, 0)), blk l19 LB14])) r_.1 t1_]) := by
   rintro x75 A76 c77 ⟨l65, j79⟩ ⟨A62, c63, H66⟩ r80 w81 hro86 hRd82 hI83 hf84
   rw [census_forms.b2] at hf84
   replace hf84 := as_some hf84
   obtain ⟨hj87, hf84⟩ := hf84
   subst hj87
   have hRo88 := hRd82.openSep
   have hS85 : St (fpL [blk l70 (LO67 none), blk g11 (.cells e7 3 (0, 0)), blk g15 (.cells #[(sv A62 l65 c63)] 22 (0, 0)), rowO 28 e9 A62 c63 (tag H66 l65), rowsO 48 enc_Tile H66 l65, blk g48 (.cells e3 37 (0, 0)), blk l19 LB14]) w81 w81 [rowR encInt A76 c77 x75, rowR encInt A33 c34 x32] [blk l70 (LO67 none), blk g11 (.cells e7 3 (0, 0)), blk g15 (.cells #[(sv A62 l65 c63)] 22 (0, 0)), rowO 28 e9 A62 c63 (tag H66 l65), rowsO 48 enc_Tile H66 l65, blk g48 (.cells e3 37 (0, 0)), blk l19 LB14] := St.initIO (ro_cons hro86.openSep (ro_cons (poolO.ro hRo88 0) (ro_nil _ _))) hI83.openSep
   refine YieldR.of_loop hK72 (hS85.blkAt 0 rfl) [(sv A76 x75 c77)] [1, 3, 4] [e5, e6, e8] [(15, (sv A76 x75 c77)), e5, e6, e8] rfl rfl rfl rfl rfl ?_
   refine WC.region ?_
   refine sg 1 [] [1, 3, 4, 5] [e5, e6, e8, (5, (sv A76 x75 c77))] (by kernel_rfl) ?_
   refine WL.done rfl ?_
   refine WX.begin' hK72 (hS85.blkAt 0 rfl) ?_
   have hS89 := hS85.putO 0 rfl LB68 [1, 2, 3, 4, 5, 6] (by decide) (by decide)
   revert hS89
   generalize World.putObj _ _ _ = w90
   intro hS89
   have hS91 := hS85.go w90 [blk l70 LB68, blk g11 (.cells e7 3 (0, 0)), blk g15 (.cells #[(sv A62 l65 c63)] 22 (0, 0)), rowO 28 e9 A62 c63 (tag H66 l65), rowsO 48 enc_Tile H66 l65, blk g48 (.cells e3 37 (0, 0)), blk l19 LB14] (hS89)
   refine WC.block (WC.seq (WC.region ?_))
   refine sg 1 [] [1, 3, 4, 5, 6] [e5, e6, e8, (5, (sv A76 x75 c77)), (6, (.slice none 0 0))] (by kernel_rfl) ?_
   refine WL.done rfl (WX.next (WC.seq (WC.seq (WC.region ?_))))
   refine seg 2 [.v (iv p0)] e14 [e5, e6, e8, (5, (sv A76 x75 c77)), (6, (.slice none 0 0)), e17, (17, (iv 0))] [.cell ⟨g11, 0, none⟩ (iv p0)] (fun fb => by kernel_rfl) rfl ⟨hS91.cell 1 rfl 0 rfl, trivial⟩ ?_
   refine WL.done rfl (WX.next ?_)
   have hS92 := hS91.nilrow 48 enc_Tile
   obtain ⟨x99, hx100, hf84⟩ := bind_some hf84
   let e12 : Nat × Value := (5, (sv A76 x75 c77))
   let e16 : Array Value := #[(sv A62 l65 c63)]
   refine WC.cutN (T := (List Tile) × (Option Addr) × Nat) (fun t => [e5, e6, e8, (6, (sv t.2.1 t.1 t.2.2))]) (fun t w1 => St (fpL [blk l70 (LO67 none), blk g11 (.cells e7 3 (0, 0)), blk g15 (.cells e16 22 (0, 0)), rowO 28 e9 A62 c63 (tag H66 l65), rowsO 48 enc_Tile H66 l65, blk g48 (.cells e3 37 (0, 0)), blk l19 LB14]) w81 w1 [rowR encInt A76 c77 x75, rowR encInt A33 c34 x32] [blk g11 (.cells e7 3 (0, 0)), blk g15 (.cells e16 22 (0, 0)), rowO 28 e9 A62 c63 (tag H66 l65), rowsO 48 enc_Tile H66 l65, blk g48 (.cells e3 37 (0, 0)), rowO 48 enc_Tile t.2.1 t.2.2 t.1, blk l19 LB14, blk l70 LB68] ∧ x99 = t.1) (fun Kx99 => ?_) ?_
   ·
    refine WC.block ?_
    refine WC.loop (T := ((List Tile) × Int) × (Option Addr) × Nat) (fun t => [e5, e6, e8, e12, (6, (sv t.2.1 t.1.1 t.2.2)), e17, (17, (iv t.1.2))]) (fun n t w1 => St (fpL [blk l70 (LO67 none), blk g11 (.cells e7 3 (0, 0)), blk g15 (.cells e16 22 (0, 0)), rowO 28 e9 A62 c63 (tag H66 l65), rowsO 48 enc_Tile H66 l65, blk g48 (.cells e3 37 (0, 0)), blk l19 LB14]) w81 w1 [rowR encInt A76 c77 x75, rowR encInt A33 c34 x32] [blk g11 (.cells e7 3 (0, 0)), blk g15 (.cells e16 22 (0, 0)), rowO 28 e9 A62 c63 (tag H66 l65), rowsO 48 enc_Tile H66 l65, blk g48 (.cells e3 37 (0, 0)), rowO 48 enc_Tile t.2.1 t.2.2 t.1.1, blk l19 LB14, blk l70 LB68] ∧ census_forms.l0 n t.1.1 t.1.2 p0 x32 x75 = some x99) k ((([] : List Tile), 0), none, 0) e14 rfl ⟨(hS92.subR [0, 1]).sub [2, 3, 4, 5, 6, 0, 7, 1] (by decide), hx100⟩ ?_
    rintro k101 ⟨⟨l95, x96⟩, A93, c94⟩ w102 ⟨hS103, hl104⟩
    let e1 := w64 (2 * x96)
    let e2 : List (Nat × Addr × Value) := [(1, ⟨g48, 0, none⟩, (sv A33 x32 c34)), (5, ((adr A33).add (e1.toNat * 1)), (iv (rdD x32 e1 0))), (10, ((adr A76).add (e1.toNat * 1)), (iv (rdD x75 e1 0))), (11, ⟨g48, 0, none⟩, (sv A33 x32 c34)), (16, ((adr A33).add ((w64 (e1 + 1)).toNat * 1)), (iv (rdD x32 (w64 (e1 + 1)) 0))), (22, ((adr A76).add ((w64 (e1 + 1)).toNat * 1)), (iv (rdD x75 (w64 (e1 + 1)) 0)))]
    let e4 := [(Tile.mk (rdD x32 e1 0) (rdD x75 e1 0) (rdD x32 (w64 (e1 + 1)) 0) (rdD x75 (w64 (e1 + 1)) 0))]
    let e10 : Array Value := #[(iv (rdD x32 e1 0)), (iv (rdD x75 e1 0)), (iv (rdD x32 (w64 (e1 + 1)) 0)), (iv (rdD x75 (w64 (e1 + 1)) 0))]
    cases k101 with
    | zero => rw [census_forms.l0] at hl104; cases hl104
    | succ k101 =>
     rw [census_forms.l0] at hl104
     refine WC.seq (WC.region ?_)
     refine sg 1 [] [1, 3, 4, 5, 6, 16, 17, 18] [e5, e6, e8, e12, (6, (sv A93 l95 c94)), e17, (17, (iv x96)), (18, (bv (decide (x96 < p0))))] (by kernel_rfl) ?_
     refine WL.done rfl (WX.next (WC.seq ?_))
     rcases br_some hl104 with ⟨h105, hl104⟩ | ⟨h105, hl104⟩
     ·refine WC.condT2 (fun fb => by kernel_rfl) h105 ?_
      refine WC.skip (WX.next (WC.seq (WC.block (WC.seq (WC.region ?_)))))
      refine sg 2 [] [1, 3, 4, 5, 6, 7, 16, 17] [e5, e6, e8, e12, (6, (sv A93 l95 c94)), (7, (iv x96)), e17, (17, (iv x96))] (by kernel_rfl) ?_
      refine WL.done rfl (WX.next ?_)
      obtain ⟨h108, hl104⟩ := as_some hl104
      obtain ⟨h109, hl104⟩ := as_some hl104
      obtain ⟨h110, hl104⟩ := as_some hl104
      obtain ⟨h111, hl104⟩ := as_some hl104
      refine WC.regionD (e2, [0, 1, 2, 3, 4, 5, 6, 7, 8, 9, 10, 11, 12, 13, 14, 15, 16, 17, 18, 19, 20, 21, 22, 23, 26], [[], [], [], [2], [1, 2, 3], [1, 2, 3, 4], [], [], [7], [6, 7, 8], [6, 7, 8, 9], [], [], [12], [12, 13], [11, 12, 13, 14], [11, 12, 13, 14, 15], [], [], [18], [18, 19], [17, 18, 19, 20], [17, 18, 19, 20, 21], [1, 2, 3, 4, 5, 6, 7, 8, 9, 10, 11, 12, 13, 14, 15, 16, 17, 18, 19, 20, 21, 22], [1, 2, 3, 4, 5, 6, 7, 8, 9, 10, 11, 12, 13, 14, 15, 16, 17, 18, 19, 20, 21, 22, 23], [0, 1, 2, 3, 4, 5, 6, 7, 8, 9, 10, 11, 12, 13, 14, 15, 16, 17, 18, 19, 20, 21, 22, 23, 24], [0, 1, 2, 3, 4, 5, 6, 7, 8, 9, 10, 11, 12, 13, 14, 15, 16, 17, 18, 19, 20, 21, 22, 23, 24, 25]]) [[0, 1, 2, 3, 4, 5, 6, 7, 8, 9, 10, 11, 12, 13, 14, 15, 16, 17, 18, 19, 20, 21, 22, 23, 24, 25, 26]] (by kernel_rfl) (by kernel_rfl) (NoPanic.block (NoPanic.seq (NoPanic.seq (NoPanic.block (NoPanic.seq (NoPanic.block (NoPanic.round))))))) ?_
      have hS107 := hS103.drew
      revert hS107
      generalize World.drew w102 = w106
      intro hS107
      refine ⟨⟨hS107.cell 4 rfl 0 rfl, rowR.cell (hS107.rd 1).1 0 h108.1 h108.2 0 rfl, rowR.cell (hS107.rd 0).1 0 h109.1 h109.2 0 rfl, hS107.cell 4 rfl 0 rfl, rowR.cell (hS107.rd 1).1 0 h110.1 h110.2 0 rfl, rowR.cell (hS107.rd 0).1 0 h111.1 h111.2 0 rfl, trivial⟩, forallC ?_ (forallN)⟩
      refine segF 24 [.v (sv A33 x32 c34), .v (iv (rdD x32 e1 0)), .v (iv (rdD x75 e1 0)), .v (sv A33 x32 c34), .v (iv (rdD x32 (w64 (e1 + 1)) 0)), .v (iv (rdD x75 (w64 (e1 + 1)) 0))] [1, 3, 4, 5, 16, 17, 20, 43] [e5, e6, e8, e12, e17, (17, (iv x96)), (20, (sv A93 l95 c94)), (43, (.agg e10))] [.idx A33 e1 x32.length, .idx A76 e1 x75.length, .idx A33 (w64 (e1 + 1)) x32.length, .idx A76 (w64 (e1 + 1)) x75.length] [0, 1, 2, 3, 4, 5] e2 (fun fb => by kernel_rfl) rfl ⟨rowR.adr (hS107.rd 1).1 h108.1 h108.2, rowR.adr (hS107.rd 0).1 h109.1 h109.2, rowR.adr (hS107.rd 1).1 h110.1 h110.2, rowR.adr (hS107.rd 0).1 h111.1 h111.2, trivial⟩ rfl ?_
      refine WL.new hS107 44 [] (fun g => (.slice (some ⟨g, 0, none⟩) 1 1)) (.cells e10 48 (0, 0)) [] (fun fb g => by kernel_rfl) trivial (fun g112 w113 hS114 => ?_)
      refine ⟨trivial, ?_⟩
      have hS115 := hS91.go w113 [rowO 48 enc_Tile (some ⟨g112, 0, none⟩) 1 e4, blk g11 (.cells e7 3 (0, 0)), blk g15 (.cells e16 22 (0, 0)), rowO 28 e9 A62 c63 (tag H66 l65), rowsO 48 enc_Tile H66 l65, blk g48 (.cells e3 37 (0, 0)), rowO 48 enc_Tile A93 c94 l95, blk l19 LB14, blk l70 LB68] (hS114.map1 0 _ (fun h => rowO.ofBlk h rfl (Nat.le_of_ble_eq_true (by kernel_rfl))) (fun _ h => by obtain ⟨_, h1, h2⟩ := h; injection h1 with h1; subst h1; exact h2) [1, 2, 3, 4, 5, 6, 7, 8] (by decide) (by decide))
      obtain ⟨h116, hl104⟩ := as_some hl104
      refine WL.append hS115 6 (d := 45) (tS := 28) (z := (.agg #[(iv 0), (iv 0), (iv 0), (iv 0)])) (bytes := 32) (c2 := 1) rfl (fun fb => by kernel_rfl) (rowO.rd (hS115.own 0).1) (by kernel_rfl) (by kernel_rfl) rfl (by decide) h116 (by decide) [0, 1, 2, 3, 4, 5, 7, 8] (by decide) (by decide) (fun A117 c118 w119 hS120 => ?_)
      refine ⟨trivial, ?_⟩
      refine sg 27 [] e14 [e5, e6, e8, e12, (6, (sv A117 (l95 ++ e4) c118)), e17, (17, (iv x96))] (by kernel_rfl) ?_
      refine WL.done rfl ?_
      refine WX.blockN (WX.next ?_)
      refine WC.region ?_
      refine sg 2 [] e14 [e5, e6, e8, e12, (6, (sv A117 (l95 ++ e4) c118)), e17, (17, (iv (w64 (x96 + 1))))] (by kernel_rfl) ?_
      refine WL.done rfl ?_
      exact WX.again k101 (Nat.lt_succ_self _) ((l95 ++ e4, w64 (x96 + 1)), A117, c118) e14 rfl ⟨(hS120.subR [0, 1]).sub [2, 3, 4, 5, 6, 0, 7, 8] (by decide), hl104⟩
     refine WC.condF2 (fun fb => by kernel_rfl) h105 ?_
     refine WC.exit ?_
     injection hl104 with hl104
     exact WX.thenX (WX.thenX (WX.blockHere (WX.to Kx99 (l95, A93, c94) [1, 3, 4, 6] rfl ⟨(hS103.subR [0, 1]).sub [0, 1, 2, 3, 4, 5, 6, 7] (by decide), hl104.symm⟩)))
   rintro ⟨y124, A97, c98⟩ w121 ⟨hS122, hq123⟩
   subst hq123
   refine WX.next (WC.seq (WC.region ?_))
   refine sg 1 [] [1, 3, 4, 6, 47] [e5, e6, e8, (6, (sv A97 x99 c98)), (47, (sv A97 x99 c98))] (by kernel_rfl) ?_
   obtain ⟨t125, ht126, hf84⟩ := bind_some hf84
   refine WL.call (some 48) 33 #[(sv A97 x99 c98)] (fun fb => by kernel_rfl) (tile_Valid_calls _ x99 A97 c98 t125 _ (hS122.ow 5).ofO ht126) (fun v w127 hR128 => ?_)
   obtain ⟨rfl, hk_⟩ := hR128
   have hS129 := hS122.keepN hk_
   refine ⟨trivial, ?_⟩
   refine sg 3 [] [1, 3, 4, 6, 49] [e5, e6, e8, (6, (sv A97 x99 c98)), (49, (bv t125))] (by kernel_rfl) ?_
   obtain ⟨x130, hx131, hf84⟩ := bind_some hf84
   let e11 := sv A97 x99 c98
   refine WL.cutW (T := Bool) 9 (fun t => [e5, e6, e8, (6, e11), (55, (bv t))]) (fun t w1 => (St (fpL [blk l70 (LO67 none), blk g11 (.cells e7 3 (0, 0)), blk g15 (.cells e16 22 (0, 0)), rowO 28 e9 A62 c63 (tag H66 l65), rowsO 48 enc_Tile H66 l65, blk g48 (.cells e3 37 (0, 0)), blk l19 LB14]) w81 w1 [rowR encInt A76 c77 x75, rowR encInt A33 c34 x32] [blk g11 (.cells e7 3 (0, 0)), blk g15 (.cells e16 22 (0, 0)), rowO 28 e9 A62 c63 (tag H66 l65), rowsO 48 enc_Tile H66 l65, blk g48 (.cells e3 37 (0, 0)), rowO 48 enc_Tile A97 c98 x99, blk l19 LB14, blk l70 LB68] ∧ x130 = t) ∧ CellsOK [] w1) (fun K => ?_) ?_
   ·
    rcases br_some hx131 with ⟨h132, hx131⟩ | ⟨h132, hx131⟩
    ·
     refine WL.setB 49 h132 rfl ?_
     refine sg 4 [] [1, 3, 4, 6, 49, 50] [e5, e6, e8, (6, e11), (49, (bv true)), (50, e11)] (by kernel_rfl) ?_
     obtain ⟨t133, ht134, hx131⟩ := bind_some hx131
     refine WL.call (some 51) 34 #[e11] (fun fb => by kernel_rfl) (census_least_calls _ x99 A97 c98 t133 _ (hS129.ow 5).ofO ht134) (fun v w135 hR136 => ?_)
     obtain ⟨A138, c139, rfl, hk_⟩ := hR136
     have hS137 : St (fpL [blk l70 (LO67 none), blk g11 (.cells #[(iv p0)] 3 (0, 0)), blk g15 (.cells #[(.slice A62 l65.length c63)] 22 (0, 0)), rowO 28 (encSl Tile) A62 c63 (tag H66 l65), rowsO 48 enc_Tile H66 l65, blk g48 (.cells #[(.slice A33 x32.length c34)] 37 (0, 0)), blk l19 LB14]) w81 w135 [rowR encInt A76 c77 x75, rowR encInt A33 c34 x32] [rowO 48 enc_Tile A138 c139 t133, blk g11 (.cells #[(iv p0)] 3 (0, 0)), blk g15 (.cells #[(.slice A62 l65.length c63)] 22 (0, 0)), rowO 28 (encSl Tile) A62 c63 (tag H66 l65), rowsO 48 enc_Tile H66 l65, blk g48 (.cells #[(.slice A33 x32.length c34)] 37 (0, 0)), rowO 48 enc_Tile A97 c98 x99, blk l19 LB14, blk l70 LB68] := hS129.call hk_ [] [0, 1, 2, 3, 4, 5, 6, 7] (fun g hg => hg.elim) (by simp) (by decide)
     refine ⟨trivial, ?_⟩
     refine sg 6 [] [1, 3, 4, 6, 49, 51, 52] [e5, e6, e8, (6, e11), (49, (bv true)), (51, (sv A138 t133 c139)), (52, e11)] (by kernel_rfl) ?_
     obtain ⟨t140, ht141, hx131⟩ := bind_some hx131
     refine WL.call (some 53) 38 #[(sv A138 t133 c139), e11] (fun fb => by kernel_rfl) (census_before_calls _ t133 x99 A138 c139 A97 c98 t140 _ (hS137.ow 0).ofO (hS137.ow 6).ofO ht141) (fun v w142 hR143 => ?_)
     obtain ⟨rfl, hk_⟩ := hR143
     have hS144 := hS137.keepN hk_
     refine ⟨trivial, ?_⟩
     refine sg 9 [] [1, 3, 4, 6, 55] [e5, e6, e8, (6, e11), (55, (bv (t140 == 0)))] (by kernel_rfl) ?_
     injection hx131 with hx131
     exact WL.to K (t140 == 0) [1, 3, 4, 6, 55] rfl ⟨⟨(hS144.subR [0, 1]).sub [1, 2, 3, 4, 5, 6, 7, 8] (by decide), hx131.symm⟩, trivial⟩
    refine WL.setB 49 h132 rfl ?_
    refine sg 9 [] [1, 3, 4, 6, 55] [e5, e6, e8, (6, e11), (55, (bv false))] (by kernel_rfl) ?_
    injection hx131 with hx131
    exact WL.to K false [1, 3, 4, 6, 55] rfl ⟨⟨(hS129.subR [0, 1]).sub [0, 1, 2, 3, 4, 5, 6, 7] (by decide), hx131.symm⟩, trivial⟩
   rintro y145 w147 ⟨⟨hS148, hq146⟩, hF149⟩
   subst hq146
   refine WL.done rfl (WX.next ?_)
   obtain ⟨x153, hx154, hf84⟩ := bind_some hf84
   let e15 := sv A62 l65 c63
   let e18 := updH H66 l65.length (A97, c98)
   refine WC.cutN (T := (List (List Tile)) × (Option Addr) × Nat × HF) (fun t => [e5, e6, e8]) (fun t w1 => St (fpL [blk l70 (LO67 none), blk g11 (.cells e7 3 (0, 0)), blk g15 (.cells #[e15] 22 (0, 0)), rowO 28 e9 A62 c63 (tag H66 l65), rowsO 48 enc_Tile H66 l65, blk g48 (.cells e3 37 (0, 0)), blk l19 LB14]) w81 w1 [rowR encInt A76 c77 x75, rowR encInt A33 c34 x32] [blk g11 (.cells e7 3 (0, 0)), blk g15 (.cells #[(sv t.2.1 t.1 t.2.2.1)] 22 (0, 0)), rowO 28 e9 t.2.1 t.2.2.1 (tag t.2.2.2 t.1), rowsO 48 enc_Tile t.2.2.2 t.1, blk g48 (.cells e3 37 (0, 0)), blk l19 LB14, blk l70 LB68] ∧ x153 = t.1) (fun Kx153 => ?_) ?_
   ·
    rcases br_some hx154 with ⟨h155, hx154⟩ | ⟨h155, hx154⟩
    ·refine WC.condT2 (fun fb => by kernel_rfl) h155 ?_
     refine WC.region ?_
     refine seg 2 [.v e15] [1, 3, 4, 56, 57] [e5, e6, e8, (56, e15), (57, e11)] [.cell ⟨g15, 0, none⟩ e15] (fun fb => by kernel_rfl) rfl ⟨hS148.cell 1 rfl 0 rfl, trivial⟩ ?_
     refine WL.new hS148 58 [] (fun g => (.slice (some ⟨g, 0, none⟩) 1 1)) (.cells #[e11] 28 (0, 0)) [] (fun fb g => by kernel_rfl) trivial (fun g156 w157 hS158 => ?_)
     refine ⟨trivial, ?_⟩
     have hS159 := hS91.go w157 [rowO 28 e9 (some ⟨g156, 0, none⟩) 1 (tag (fun _ => (A97, c98)) [x99]), blk g11 (.cells e7 3 (0, 0)), blk g15 (.cells #[e15] 22 (0, 0)), rowO 28 e9 A62 c63 (tag H66 l65), rowsO 48 enc_Tile H66 l65, blk g48 (.cells e3 37 (0, 0)), rowO 48 enc_Tile A97 c98 x99, blk l19 LB14, blk l70 LB68] (hS158.map1 0 _ (fun h => rowO.ofBlk h rfl (Nat.le_of_ble_eq_true (by kernel_rfl))) (fun _ h => by obtain ⟨_, h1, h2⟩ := h; injection h1 with h1; subst h1; exact h2) [1, 2, 3, 4, 5, 6, 7, 8] (by decide) (by decide))
     have hS160 := hS159.go w157 [rowsO 48 enc_Tile (fun _ => (A97, c98)) [x99], rowO 28 e9 (some ⟨g156, 0, none⟩) 1 (tag (fun _ => (A97, c98)) [x99]), blk g11 (.cells e7 3 (0, 0)), blk g15 (.cells #[e15] 22 (0, 0)), rowO 28 e9 A62 c63 (tag H66 l65), rowsO 48 enc_Tile H66 l65, blk g48 (.cells e3 37 (0, 0)), blk l19 LB14, blk l70 LB68] (hS159.rowsOne 6 rfl [0, 1, 2, 3, 4, 5, 7, 8] (by decide) (by decide))
     obtain ⟨h161, hx154⟩ := as_some hx154
     refine WL.appendN hS160 4 (d := 59) (tS := 22) (z := (.slice none 0 0)) (bytes := 24) (c2 := 1) (hx := (A97, c98)) (x := x99) rfl (fun fb => by kernel_rfl) (rowO.rd (hS160.own 1).1) (by kernel_rfl) (by kernel_rfl) rfl (by decide) h161 (by decide) [0, 1, 2, 3, 5, 6, 7, 8] (by decide) (by decide) (fun A162 c163 w164 hS165 => ?_)
     have hS166 := hS160.go w164 [rowsO 48 enc_Tile e18 (l65 ++ [x99]), rowO 28 e9 A162 c163 (tag e18 (l65 ++ [x99])), rowO 28 e9 (some ⟨g156, 0, none⟩) 1 (tag (fun _ => (A97, c98)) [x99]), blk g11 (.cells e7 3 (0, 0)), blk g15 (.cells #[e15] 22 (0, 0)), blk g48 (.cells e3 37 (0, 0)), blk l19 LB14, blk l70 LB68] (hS165.rowsPush 5 1 rfl rfl (by decide) [0, 2, 3, 4, 6, 7, 8] (by decide) (by decide))
     refine ⟨trivial, ?_⟩
     refine WL.store hS166 4 rfl [(0, (sv A162 (l65 ++ [x99]) c163))] #[(sv A162 (l65 ++ [x99]) c163)] (fun fb => by kernel_rfl) (by kernel_rfl) rfl [0, 1, 2, 3, 5, 6, 7] (by decide) (by decide) (fun w167 hS168 => ?_)
     refine ⟨trivial, ?_⟩
     refine WL.done rfl ?_
     injection hx154 with hx154
     exact WX.to Kx153 (l65 ++ [x99], A162, c163, e18) [1, 3, 4] rfl ⟨(hS168.subR [0, 1]).sub [4, 0, 2, 1, 5, 6, 7] (by decide), hx154.symm⟩
    refine WC.condF2 (fun fb => by kernel_rfl) h155 ?_
    refine WC.skip ?_
    injection hx154 with hx154
    exact WX.to Kx153 (l65, A62, c63, H66) [1, 3, 4] rfl ⟨(hS148.subR [0, 1]).sub [0, 1, 2, 3, 4, 6, 7] (by decide), hx154.symm⟩
   rintro ⟨y172, A150, c151, H152⟩ w169 ⟨hS170, hq171⟩
   subst hq171
   injection hf84 with hf84
   subst hf84
   exact WX.blockN (WX.roundN' hK72 (hS170.blkAt 6 rfl) ⟨(A150, c151, H152), rfl, ((hS170.putO 6 rfl (LO67 none) [0, 1, 2, 3, 4, 5] (by decide) (by decide)).sub [0, 1, 2, 3, 4, 5, 6] (by decide)).noR.closeSep⟩)
  obtain ⟨t173, ht174, hf43⟩ := bind_some hf43
  refine (census_words_1_y_calls _ (w64 (2 * p0)) (census_forms.b2 k p0 x32) (l8, (0 : Int)) g61 l70 (fun (s_ : (List (List Tile)) × Int) (t_ : (Option Addr) × Nat × HF) => sepO (blk l70 (LO67 (pendN [] s_.2)) :: [blk g11 (.cells e7 3 (0, 0)), blk g15 (.cells #[(sv t_.1 s_.1 t_.2.1)] 22 (0, 0)), rowO 28 (encSl Tile) t_.1 t_.2.1 (tag t_.2.2 s_.1), rowsO 48 enc_Tile t_.2.2 s_.1, blk g48 (.cells e3 37 (0, 0)), blk l19 LB14])) (A6, c7, H9) (poolO [rowR encInt A33 c34 x32]) t173 _ (hS74.rdP [0]) (hS74.owT [0] 1 (by decide)) (hS74.io [0] (by decide)) hY78 ht174).post (fun v w175 hR176 => ?_)
  obtain ⟨tt178, rfl, hk_⟩ := hR176
  have hS177 := hS74.go w175 [(fun (s_ : (List (List Tile)) × Int) (t_ : (Option Addr) × Nat × HF) => sepO (blk l70 (LO67 (pendN [] s_.2)) :: [blk g11 (.cells e7 3 (0, 0)), blk g15 (.cells #[(sv t_.1 s_.1 t_.2.1)] 22 (0, 0)), rowO 28 (encSl Tile) t_.1 t_.2.1 (tag t_.2.2 s_.1), rowsO 48 enc_Tile t_.2.2 s_.1, blk g48 (.cells e3 37 (0, 0)), blk l19 LB14])) t173 tt178, blk g61 (.cells #[e13] 3 (0, 0))] (hS74.call hk_ [0] [1] (fun g hg => fpL_sel g hg) (by decide) (by decide))
  have hS179 := hS177.go w175 [blk l70 (LO67 (pendN [] t173.2)), blk g11 (.cells e7 3 (0, 0)), blk g15 (.cells #[(sv tt178.1 t173.1 tt178.2.1)] 22 (0, 0)), rowO 28 e9 tt178.1 tt178.2.1 (tag tt178.2.2 t173.1), rowsO 48 enc_Tile tt178.2.2 t173.1, blk g48 (.cells e3 37 (0, 0)), blk l19 LB14, blk g61 (.cells #[e13] 3 (0, 0))] (hS177.unpack 0 rfl [1] (by decide) (by decide))
  refine ⟨_, hS179.blkAt 0 rfl, ?_⟩
  have hS180 := (hS179.putO 0 rfl (LX69 (pendN [] t173.2)) [1, 2, 3, 4, 5, 6, 7] (by decide) (by decide)).tail
  revert hS180
  generalize World.putObj _ _ _ = w181
  intro hS180
  have hS182 := hS179.go w181 [blk g11 (.cells e7 3 (0, 0)), blk g15 (.cells #[(sv tt178.1 t173.1 tt178.2.1)] 22 (0, 0)), rowO 28 e9 tt178.1 tt178.2.1 (tag tt178.2.2 t173.1), rowsO 48 enc_Tile tt178.2.2 t173.1, blk g48 (.cells e3 37 (0, 0)), blk l19 LB14, blk g61 (.cells #[e13] 3 (0, 0))] (hS180)
  obtain ⟨h183, hf43⟩ := as_some hf43
  rw [h183]
  refine WX.keep [1, 3, 4] [e5, e6, e8] rfl ?_
  injection hf43 with hf43
  subst hf43
  exact WX.blockN (WX.blockN (WX.roundN' hK29 (hS182.blkAt 5 rfl) ⟨(tt178.1, tt178.2.1, tt178.2.2), rfl, ((hS182.putO 5 rfl (LO10 none) [0, 1, 2, 3, 4, 6] (by decide) (by decide)).sub [0, 1, 2, 3, 4] (by decide)).noR.closeSep⟩))
 obtain ⟨t184, ht185, hf⟩ := bind_some hf
 refine (census_words_1_y_calls _ (w64 (2 * p0)) (census_forms.b1 k p0) (([] : List (List Tile)), (0 : Int)) g28 l19 (fun (s_ : (List (List Tile)) × Int) (t_ : (Option Addr) × Nat × HF) => sepO (blk l19 (LO10 (pendN [] s_.2)) :: [blk g11 (.cells e7 3 (0, 0)), blk g15 (.cells #[(sv t_.1 s_.1 t_.2.1)] 22 (0, 0)), rowO 28 (encSl Tile) t_.1 t_.2.1 (tag t_.2.2 s_.1), rowsO 48 enc_Tile t_.2.2 s_.1])) (none, 0, hf0) (poolO []) t184 _ (hS31.rdP [0]) (hS31.owT [0] 2 (by decide)) (hS31.io [0] (by decide)) hY35 ht185).post (fun v w186 hR187 => ?_)
 obtain ⟨tt189, rfl, hk_⟩ := hR187
 have hS188 := hS31.go w186 [(fun (s_ : (List (List Tile)) × Int) (t_ : (Option Addr) × Nat × HF) => sepO (blk l19 (LO10 (pendN [] s_.2)) :: [blk g11 (.cells e7 3 (0, 0)), blk g15 (.cells #[(sv t_.1 s_.1 t_.2.1)] 22 (0, 0)), rowO 28 (encSl Tile) t_.1 t_.2.1 (tag t_.2.2 s_.1), rowsO 48 enc_Tile t_.2.2 s_.1])) t184 tt189, blk D20 (.deferred (some [])), blk g28 (.cells #[e13] 3 (0, 0))] (hS31.call hk_ [0] [1, 2] (fun g hg => fpL_sel g hg) (by decide) (by decide))
 have hS190 := hS188.go w186 [blk l19 (LO10 (pendN [] t184.2)), blk g11 (.cells e7 3 (0, 0)), blk g15 (.cells #[(sv tt189.1 t184.1 tt189.2.1)] 22 (0, 0)), rowO 28 e9 tt189.1 tt189.2.1 (tag tt189.2.2 t184.1), rowsO 48 enc_Tile tt189.2.2 t184.1, blk D20 (.deferred (some [])), blk g28 (.cells #[e13] 3 (0, 0))] (hS188.unpack 0 rfl [1, 2] (by decide) (by decide))
 refine ⟨_, hS190.blkAt 0 rfl, ?_⟩
 have hS191 := (hS190.putO 0 rfl (LX18 (pendN [] t184.2)) [1, 2, 3, 4, 5, 6] (by decide) (by decide)).tail
 revert hS191
 generalize World.putObj _ _ _ = w192
 intro hS191
 have hS193 := hS190.go w192 [blk g11 (.cells e7 3 (0, 0)), blk g15 (.cells #[(sv tt189.1 t184.1 tt189.2.1)] 22 (0, 0)), rowO 28 e9 tt189.1 tt189.2.1 (tag tt189.2.2 t184.1), rowsO 48 enc_Tile tt189.2.2 t184.1, blk D20 (.deferred (some [])), blk g28 (.cells #[e13] 3 (0, 0))] (hS191)
 obtain ⟨h194, hf⟩ := as_some hf
 rw [h194]
 refine WX.keep [1, 3, 4294967295] [e5, e6, (4294967295, (.func (.yield D20) #[] #[]))] rfl ?_
 refine WX.blockN (WX.next ?_)
 refine WC.seq (WC.region ?_)
 let e19 := sv tt189.1 t184.1 tt189.2.1
 refine seg 1 [.v e19] [3, 60, 4294967295] [e6, (60, e19), (4294967295, (.func (.yield D20) #[] #[]))] [.cell ⟨g15, 0, none⟩ e19] (fun fb => by kernel_rfl) rfl ⟨hS193.cell 1 rfl 0 rfl, trivial⟩ ?_
 obtain ⟨t195, ht196, hf⟩ := bind_some hf
 refine WL.call (some 61) 39 #[e19, (.func (.func 38) #[] #[])] (fun fb => by kernel_rfl) (sort_calls Try.sortT39 _ 38 _ (enters_of Try.func38 (by kernel_rfl) rfl) (fun x y Ax cx Ay cy r w h1 h2 h3 => census_before_calls _ x y Ax cx Ay cy r w h1 h2 h3) drT t184.1 t195 tt189.1 tt189.2.1 tt189.2.2 _ (hS193.io [2, 3] (by decide)) ht196) (fun v w197 hR198 => ?_)
 obtain ⟨H200, rfl, hk_⟩ := hR198
 have hS199 := hS193.go w197 [rowO 28 e9 tt189.1 tt189.2.1 (tag H200 t195), rowsO 48 enc_Tile H200 t195, blk g11 (.cells e7 3 (0, 0)), blk g15 (.cells #[e19] 22 (0, 0)), blk D20 (.deferred (some [])), blk g28 (.cells #[e13] 3 (0, 0))] (hS193.call hk_ [2, 3] [0, 1, 4, 5] (fun g hg => fpL_sel g hg) (by decide) (by decide))
 refine ⟨trivial, ?_⟩
 have hl201 := sortP_len ht196
 have hS202 := hS199.go w197 [rowO 28 (encSl Tile) tt189.1 tt189.2.1 (tag H200 t195), rowsO 48 enc_Tile H200 t195, blk g11 (.cells #[(iv p0)] 3 (0, 0)), blk g15 (.cells #[(.slice tt189.1 t195.length tt189.2.1)] 22 (0, 0)), blk D20 (.deferred (some [])), blk g28 (.cells #[(iv (w64 (2 * p0)))] 3 (0, 0))] (by simpa only [hl201] using (show St NoS w w197 [] [rowO 28 (encSl Tile) tt189.1 tt189.2.1 (tag H200 t195), rowsO 48 enc_Tile H200 t195, blk g11 (.cells #[(iv p0)] 3 (0, 0)), blk g15 (.cells #[(.slice tt189.1 t184.1.length tt189.2.1)] 22 (0, 0)), blk D20 (.deferred (some [])), blk g28 (.cells #[(iv (w64 (2 * p0)))] 3 (0, 0))] from hS199))
 refine WL.done rfl (WX.next (WC.seq (WC.region ?_)))
 refine seg 2 [.v (sv tt189.1 t195 tt189.2.1)] [2, 4294967295] [(2, (sv tt189.1 t195 tt189.2.1)), (4294967295, (.func (.yield D20) #[] #[]))] [.cell ⟨g15, 0, none⟩ (sv tt189.1 t195 tt189.2.1)] (fun fb => by kernel_rfl) rfl ⟨hS202.cell 3 rfl 0 rfl, trivial⟩ ?_
 refine WL.done rfl (WX.next ?_)
 refine WC.ret ?_
 injection hf with hf
 subst hf
 exact WX.retM hS202 4 rfl rfl [0, 1, 2, 3, 5] (by decide) (by decide) [] (sv tt189.1 t195 tt189.2.1) [] (fun fb => by kernel_rfl) (fun w204 hS203 => ⟨trivial, ⟨tt189.1, tt189.2.1, H200, rfl, (hS203.sub [0, 1] (by decide)).noR⟩⟩)
theorem census_All_calls (k : Nat) (p0 : Int)  (r : (List (List Tile)) × Int) (w : World)  (hf : census_All k p0 = some r) :
  CallsR Try.prog 8 #[(iv p0)] w (fun v w' => ∃ (A1_ : Option Addr), ∃ (c1_ : Nat), ∃ (z1_ : HF), v = (.tuple #[(sv A1_ r.1 c1_), (iv r.2)]) ∧ St NoS w w' [] [rowO 28 (encSl Tile) A1_ c1_ (tag z1_ r.1), rowsO 48 enc_Tile z1_ r.1]) := by
 have hS : St NoS w w [] [] := St.init (ro_nil _ _)
 refine enter 9 Try.func8 rfl Try.ntmps8 rfl ?_
 unfold census_All at hf
 refine WC.seq (WC.region ?_)
 refine sg 2 [] [0] [(0, (iv p0))] (by kernel_rfl) ?_
 refine WL.done rfl (WX.next (WC.seq (WC.seq (WC.region ?_))))
 refine sg 1 [] [0, 4] [(0, (iv p0)), (4, (iv p0))] (by kernel_rfl) ?_
 obtain ⟨t3, ht4, hf⟩ := bind_some hf
 refine WL.call (some 5) 21 #[(iv p0)] (fun fb => by kernel_rfl) (census_few_calls p0 t3 _ ht4) (fun v w5 hR6 => ?_)
 obtain ⟨rfl, hk_⟩ := hR6
 have hS7 := hS.keepN hk_
 refine ⟨trivial, ?_⟩
 refine sg 3 [] [0, 6] [(0, (iv p0)), (6, (bv (!t3)))] (by kernel_rfl) ?_
 refine WL.done rfl (WX.next ?_)
 rcases br_some hf with ⟨h8, hf⟩ | ⟨h8, hf⟩
 ·refine WC.condT2 (fun fb => by kernel_rfl) h8 ?_
  refine WC.seq (WC.region ?_)
  refine sg 2 [] [2, 3] [(2, (.slice none 0 0)), (3, (iv 2))] (by kernel_rfl) ?_
  refine WL.done rfl (WX.next ?_)
  refine WC.ret ?_
  have hS9 := hS.go w5 [rowO 28 (encSl Tile) none 0 (tag hf0 ([] : List (List Tile)))] (hS7.nilrow 28 (encSl Tile))
  have hS10 := hS9.go w5 [rowsO 48 enc_Tile hf0 ([] : List (List Tile)), rowO 28 (encSl Tile) none 0 (tag hf0 ([] : List (List Tile)))] (hS9.rowsNil 48 enc_Tile 0)
  injection hf with hf
  subst hf
  exact WX.thenR (WX.ret_ [] (.tuple #[(sv none ([] : List (List Tile)) 0), (iv 2)]) [] (fun fb => by kernel_rfl) trivial ⟨_, rfl, none, 0, hf0, rfl, (hS10.sub [1, 0] (by decide)).noR⟩)
 refine WC.condF2 (fun fb => by kernel_rfl) h8 ?_
 refine WC.skip (WX.next (WC.seq (WC.region ?_)))
 refine sg 1 [] [7] [(7, (iv p0))] (by kernel_rfl) ?_
 obtain ⟨t11, ht12, hf⟩ := bind_some hf
 refine WL.call (some 8) 22 #[(iv p0)] (fun fb => by kernel_rfl) (census_forms_calls _ p0 t11 _ ht12) (fun v w13 hR14 => ?_)
 obtain ⟨A16, c17, H18, rfl, hk_⟩ := hR14
 have hS15 := hS.go w13 [rowO 28 (encSl Tile) A16 c17 (tag H18 t11), rowsO 48 enc_Tile H18 t11] (hS7.call hk_ [] [] (fun g hg => hg.elim) (by simp) (by decide))
 refine ⟨trivial, ?_⟩
 refine sg 4 [] [2, 3] [(2, (sv A16 t11 c17)), (3, (iv 0))] (by kernel_rfl) ?_
 refine WL.done rfl (WX.next ?_)
 refine WC.ret ?_
 injection hf with hf
 subst hf
 exact WX.ret_ [] (.tuple #[(sv A16 t11 c17), (iv 0)]) [] (fun fb => by kernel_rfl) trivial ⟨_, rfl, A16, c17, H18, rfl, (hS15.sub [0, 1] (by decide)).noR⟩
theorem decide_asks_calls (k : Nat) (p0 : List Tile) (Aa : Option Addr) (ca : Nat) (r : Int) (w : World) (hR0 : RO NoS w (rowR enc_Tile Aa ca p0)) (hf : decide_asks k p0 = some r) :
  CallsR Try.prog 30 #[(sv Aa p0 ca)] w (fun v w' => v = (iv r) ∧ Keeps NoS w w') := by
 have hS : St NoS w w [rowR enc_Tile Aa ca p0] [] := St.init (ro_cons hR0 (ro_nil _ _))
 refine enter 11 Try.func30 rfl Try.ntmps30 rfl ?_
 unfold decide_asks at hf
 refine WC.seq (WC.region ?_)
 refine sg 1 [] [0] [(0, (sv Aa p0 ca))] (by kernel_rfl) ?_
 refine WL.done rfl (WX.next (WC.seq (WC.block (WC.seq (WC.region ?_)))))
 refine sg 1 [] [0, 4] [(0, (sv Aa p0 ca)), (4, (sv Aa p0 ca))] (by kernel_rfl) ?_
 obtain ⟨t1, ht3, hf⟩ := bind_some hf
 refine WL.call (some 5) 33 #[(sv Aa p0 ca)] (fun fb => by kernel_rfl) (tile_Valid_calls _ p0 Aa ca t1 _ (hS.rd 0) ht3) (fun v w4 hR5 => ?_)
 obtain ⟨rfl, hk_⟩ := hR5
 have hS6 := hS.keepN hk_
 refine ⟨trivial, ?_⟩
 refine sg 4 [] [0, 3] [(0, (sv Aa p0 ca)), (3, (bv (!t1)))] (by kernel_rfl) ?_
 refine WL.done rfl (WX.next ?_)
 rcases br_some hf with ⟨h7, hf⟩ | ⟨h7, hf⟩
 ·refine WC.condT2 (fun fb => by kernel_rfl) h7 ?_
  refine WC.seq (WC.region ?_)
  refine sg 1 [] [2] [(2, (iv 1))] (by kernel_rfl) ?_
  refine WL.done rfl (WX.next ?_)
  refine WC.ret ?_
  injection hf with hf
  subst hf
  exact WX.blockR (WX.thenR (WX.ret_ [] (iv 1) [] (fun fb => by kernel_rfl) trivial ⟨_, rfl, rfl, hS6.keep⟩))
 refine WC.condF2 (fun fb => by kernel_rfl) h7 ?_
 refine WC.seq (WC.region ?_)
 refine sg 4 [] [7] [(7, (bv (decide ((p0.length : Int) > 3))))] (by kernel_rfl) ?_
 refine WL.done rfl (WX.next ?_)
 rcases br_some hf with ⟨h8, hf⟩ | ⟨h8, hf⟩
 ·refine WC.condT2 (fun fb => by kernel_rfl) h8 ?_
  refine WC.seq (WC.region ?_)
  refine sg 1 [] [2] [(2, (iv 2))] (by kernel_rfl) ?_
  refine WL.done rfl (WX.next ?_)
  refine WC.ret ?_
  injection hf with hf
  subst hf
  exact WX.blockR (WX.thenR (WX.ret_ [] (iv 2) [] (fun fb => by kernel_rfl) trivial ⟨_, rfl, rfl, hS6.keep⟩))
 refine WC.condF2 (fun fb => by kernel_rfl) h8 ?_
 refine WC.skip ?_
 refine WX.blockN (WX.next ?_)
 refine WC.seq (WC.region ?_)
 refine sg 1 [] [2] [(2, (iv 0))] (by kernel_rfl) ?_
 refine WL.done rfl (WX.next ?_)
 refine WC.ret ?_
 injection hf with hf
 subst hf
 exact WX.ret_ [] (iv 0) [] (fun fb => by kernel_rfl) trivial ⟨_, rfl, rfl, hS6.keep⟩
theorem decide_sides_calls (p0 : List Tile) (Aa : Option Addr) (ca : Nat) (r : Unit) (w : World) (hR0 : RO NoS w (rowR enc_Tile Aa ca p0)) (hf : decide_sides p0 = some r) :
  CallsR Try.prog 31 #[(sv Aa p0 ca)] w (fun v w' => ∃ (g1_ : Nat), v = (.func (.func 42) #[] #[(pt g1_)]) ∧ St NoS w w' [] [blk g1_ (.cells #[(sv Aa p0 ca)] 28 (0, 0))]) := by
 have hS : St NoS w w [rowR enc_Tile Aa ca p0] [] := St.init (ro_cons hR0 (ro_nil _ _))
 refine enter 4 Try.func31 rfl Try.ntmps31 rfl ?_
 unfold decide_sides at hf
 refine WC.seq (WC.region ?_)
 refine WL.new hS 1 [] (fun g => (pt g)) (.cells #[(sv Aa p0 ca)] 28 (0, 0)) [] (fun fb g => by kernel_rfl) trivial (fun g2 w3 hS4 => ?_)
 refine ⟨trivial, ?_⟩
 refine sg 2 [] [1] [(1, (pt g2))] (by kernel_rfl) ?_
 refine WL.done rfl (WX.next (WC.seq (WC.region ?_)))
 refine sg 2 [] [2] [(2, (.func (.func 42) #[] #[(pt g2)]))] (by kernel_rfl) ?_
 refine WL.done rfl (WX.next ?_)
 refine WC.ret ?_
 injection hf with hf
 subst hf
 exact WX.ret_ [] (.func (.func 42) #[] #[(pt g2)]) [] (fun fb => by kernel_rfl) trivial ⟨_, rfl, g2, rfl, (hS4.sub [0] (by decide)).noR⟩
theorem rows_Few_calls (k : Nat) (p0 : List Tile) (p1 : Int) (Aa : Option Addr) (ca : Nat) (r : Bool) (w : World) (hR0 : RO NoS w (rowR enc_Tile Aa ca p0)) (hf : rows_Few k p0 p1 = some r) :
  CallsR Try.prog 44 #[(sv Aa p0 ca), (iv p1)] w (fun v w' => v = (bv r) ∧ Keeps NoS w w') := by
 have hS : St NoS w w [rowR enc_Tile Aa ca p0] [] := St.init (ro_cons hR0 (ro_nil _ _))
 refine enter 17 Try.func44 rfl Try.ntmps44 rfl ?_
 unfold rows_Few at hf
 refine WC.seq (WC.region ?_)
 refine sg 1 [] [0, 1] [(0, (sv Aa p0 ca)), (1, (iv p1))] (by kernel_rfl) ?_
 refine WL.done rfl (WX.next (WC.seq (WC.region ?_)))
 refine sg 1 [] [0, 1, 5] [(0, (sv Aa p0 ca)), (1, (iv p1)), (5, (iv 1))] (by kernel_rfl) ?_
 refine WL.done rfl (WX.next (WC.seq (WC.seq (WC.region ?_))))
 refine sg 2 [] [0, 5, 6, 7] [(0, (sv Aa p0 ca)), (5, (iv 1)), (6, (iv p1)), (7, (iv 0))] (by kernel_rfl) ?_
 refine WL.done rfl (WX.next ?_)
 obtain ⟨x5, hx6, hf⟩ := bind_some hf
 let e2 : Nat × Value := (0, (sv Aa p0 ca))
 refine WC.cutN (T := Unit) (fun t => []) (fun t w1 => St NoS w w1 [rowR enc_Tile Aa ca p0] [] ∧ x5 = .inr t) (fun Kx5 => ?_) ?_
 ·
  refine WC.block ?_
  refine WC.loop (T := Int × Int) (fun t => [e2, (5, (iv t.1)), (6, (iv p1)), (7, (iv t.2))]) (fun n t w1 => St NoS w w1 [rowR enc_Tile Aa ca p0] [] ∧ rows_Few.l0 n t.1 t.2 p0 p1 = some x5) k (1, 0) [0, 5, 6, 7] rfl ⟨(hS.subR [0]).sub [] (by decide), hx6⟩ ?_
  rintro k7 ⟨x3, x4⟩ w8 ⟨hS9, hl10⟩
  let e1 := (x3 * (maxI (p0.length : Int) 1))
  cases k7 with
  | zero => rw [rows_Few.l0] at hl10; cases hl10
  | succ k7 =>
   rw [rows_Few.l0] at hl10
   refine WC.seq (WC.region ?_)
   refine sg 1 [] [0, 5, 6, 7, 8] [e2, (5, (iv x3)), (6, (iv p1)), (7, (iv x4)), (8, (bv (decide (x4 < p1))))] (by kernel_rfl) ?_
   refine WL.done rfl (WX.next (WC.seq ?_))
   rcases br_some hl10 with ⟨h11, hl10⟩ | ⟨h11, hl10⟩
   ·refine WC.condT2 (fun fb => by kernel_rfl) h11 ?_
    refine WC.skip (WX.next (WC.seq (WC.block (WC.seq (WC.region ?_)))))
    refine sg 6 [] [0, 5, 6, 7] [e2, (5, (iv (w64 e1))), (6, (iv p1)), (7, (iv x4))] (by kernel_rfl) ?_
    refine WL.done rfl (WX.next (WC.seq (WC.region ?_)))
    refine sg 2 [] [0, 5, 6, 7, 15] [e2, (5, (iv (w64 e1))), (6, (iv p1)), (7, (iv x4)), (15, (bv (decide (w64 e1 > 5000))))] (by kernel_rfl) ?_
    refine WL.done rfl (WX.next ?_)
    rcases br_some hl10 with ⟨h12, hl10⟩ | ⟨h12, hl10⟩
    ·refine WC.condT2 (fun fb => by kernel_rfl) h12 ?_
     refine WC.seq (WC.region ?_)
     refine sg 1 [] [4] [(4, (bv false))] (by kernel_rfl) ?_
     refine WL.done rfl (WX.next ?_)
     refine WC.ret ?_
     injection hl10 with hl10
     subst hl10
     injection hf with hf
     subst hf
     exact WX.blockR (WX.thenR (WX.thenR (WX.blockR (WX.thenR (WX.ret_ [] (bv false) [] (fun fb => by kernel_rfl) trivial ⟨_, rfl, rfl, hS9.keep⟩)))))
    refine WC.condF2 (fun fb => by kernel_rfl) h12 ?_
    refine WC.skip ?_
    refine WX.blockN (WX.next ?_)
    refine WC.region ?_
    refine sg 2 [] [0, 5, 6, 7] [e2, (5, (iv (w64 e1))), (6, (iv p1)), (7, (iv (w64 (x4 + 1))))] (by kernel_rfl) ?_
    refine WL.done rfl ?_
    exact WX.again k7 (Nat.lt_succ_self _) (w64 e1, w64 (x4 + 1)) [0, 5, 6, 7] rfl ⟨(hS9.subR [0]).sub [] (by decide), hl10⟩
   refine WC.condF2 (fun fb => by kernel_rfl) h11 ?_
   refine WC.exit ?_
   injection hl10 with hl10
   exact WX.thenX (WX.thenX (WX.blockHere (WX.to Kx5 () [] rfl ⟨(hS9.subR [0]).sub [] (by decide), hl10.symm⟩)))
 rintro y16 w13 ⟨hS14, hq15⟩
 subst hq15
 have hf := sum_inr hf
 refine WX.next (WC.seq (WC.region ?_))
 refine sg 1 [] [4] [(4, (bv true))] (by kernel_rfl) ?_
 refine WL.done rfl (WX.next ?_)
 refine WC.ret ?_
 injection hf with hf
 subst hf
 exact WX.ret_ [] (bv true) [] (fun fb => by kernel_rfl) trivial ⟨_, rfl, rfl, hS14.keep⟩
theorem square_check_calls (k : Nat) (p0 : List Tile) (p1 : Int) (Aa : Option Addr) (ca : Nat) (r : Int) (w : World) (hR0 : RO NoS w (rowR enc_Tile Aa ca p0)) (hf : square_check k p0 p1 = some r) :
  CallsR Try.prog 59 #[(sv Aa p0 ca), (iv p1)] w (fun v w' => v = (iv r) ∧ Keeps NoS w w') := by
 have hS : St NoS w w [rowR enc_Tile Aa ca p0] [] := St.init (ro_cons hR0 (ro_nil _ _))
 refine enter 21 Try.func59 rfl Try.ntmps59 rfl ?_
 unfold square_check at hf
 refine WC.seq (WC.region ?_)
 refine sg 1 [] [0, 1] [(0, (sv Aa p0 ca)), (1, (iv p1))] (by kernel_rfl) ?_
 refine WL.done rfl (WX.next (WC.seq (WC.block (WC.seq (WC.region ?_)))))
 refine sg 1 [] [0, 1, 6] [(0, (sv Aa p0 ca)), (1, (iv p1)), (6, (sv Aa p0 ca))] (by kernel_rfl) ?_
 obtain ⟨t3, ht4, hf⟩ := bind_some hf
 refine WL.call (some 7) 33 #[(sv Aa p0 ca)] (fun fb => by kernel_rfl) (tile_Valid_calls _ p0 Aa ca t3 _ (hS.rd 0) ht4) (fun v w5 hR6 => ?_)
 obtain ⟨rfl, hk_⟩ := hR6
 have hS7 := hS.keepN hk_
 refine ⟨trivial, ?_⟩
 refine sg 4 [] [0, 1, 5] [(0, (sv Aa p0 ca)), (1, (iv p1)), (5, (bv (!t3)))] (by kernel_rfl) ?_
 refine WL.done rfl (WX.next ?_)
 rcases br_some hf with ⟨h8, hf⟩ | ⟨h8, hf⟩
 ·refine WC.condT2 (fun fb => by kernel_rfl) h8 ?_
  refine WC.seq (WC.region ?_)
  refine sg 1 [] [4] [(4, (iv 1))] (by kernel_rfl) ?_
  refine WL.done rfl (WX.next ?_)
  refine WC.ret ?_
  injection hf with hf
  subst hf
  exact WX.blockR (WX.thenR (WX.ret_ [] (iv 1) [] (fun fb => by kernel_rfl) trivial ⟨_, rfl, rfl, hS7.keep⟩))
 refine WC.condF2 (fun fb => by kernel_rfl) h8 ?_
 refine WC.seq (WC.region ?_)
 refine sg 3 [] [0, 1, 12] [(0, (sv Aa p0 ca)), (1, (iv p1)), (12, (bv (decide (p1 < 1))))] (by kernel_rfl) ?_
 refine WL.cutV (T := Bool) 6 (fun t => [(15, (bv t)), (0, (sv Aa p0 ca)), (1, (iv p1))]) (fun t => ((decide (p1 < 1)) || (decide (p1 > 8))) = t) (fun K => ?_) ?_
 ·
  rcases Bool.eq_false_or_eq_true (decide (p1 < 1)) with h9 | h9
  ·
   refine WL.setB 12 h9 rfl ?_
   refine sg 6 [] [0, 1, 15] [(0, (sv Aa p0 ca)), (1, (iv p1)), (15, (bv true))] (by kernel_rfl) ?_
   exact WL.toV K true [15, 0, 1] rfl (by first | (rw [h9]; done) | (rw [h9]; rfl))
  refine WL.setB 12 h9 rfl ?_
  refine sg 6 [] [0, 1, 15] [(0, (sv Aa p0 ca)), (1, (iv p1)), (15, (bv (decide (p1 > 8))))] (by kernel_rfl) ?_
  exact WL.toV K (decide (p1 > 8)) [15, 0, 1] rfl (by first | (rw [h9]; done) | (rw [h9]; rfl))
 rintro b10 rfl
 refine sg 7 [] [0, 1, 9] [(0, (sv Aa p0 ca)), (1, (iv p1)), (9, (bv ((decide (p1 < 1)) || (decide (p1 > 8)))))] (by kernel_rfl) ?_
 refine WL.done rfl (WX.next ?_)
 rcases br_some hf with ⟨h11, hf⟩ | ⟨h11, hf⟩
 ·refine WC.condT2 (fun fb => by kernel_rfl) h11 ?_
  refine WC.seq (WC.region ?_)
  refine sg 1 [] [4] [(4, (iv 2))] (by kernel_rfl) ?_
  refine WL.done rfl (WX.next ?_)
  refine WC.ret ?_
  injection hf with hf
  subst hf
  exact WX.blockR (WX.thenR (WX.ret_ [] (iv 2) [] (fun fb => by kernel_rfl) trivial ⟨_, rfl, rfl, hS7.keep⟩))
 refine WC.condF2 (fun fb => by kernel_rfl) h11 ?_
 refine WC.seq (WC.region ?_)
 refine sg 2 [] [17, 18] [(17, (sv Aa p0 ca)), (18, (iv p1))] (by kernel_rfl) ?_
 obtain ⟨t12, ht13, hf⟩ := bind_some hf
 refine WL.call (some 19) 44 #[(sv Aa p0 ca), (iv p1)] (fun fb => by kernel_rfl) (rows_Few_calls _ p0 p1 Aa ca t12 _ (hS7.rd 0) ht13) (fun v w14 hR15 => ?_)
 obtain ⟨rfl, hk_⟩ := hR15
 have hS16 := hS7.keepN hk_
 refine ⟨trivial, ?_⟩
 refine sg 5 [] [16] [(16, (bv (!t12)))] (by kernel_rfl) ?_
 refine WL.done rfl (WX.next ?_)
 rcases br_some hf with ⟨h17, hf⟩ | ⟨h17, hf⟩
 ·refine WC.condT2 (fun fb => by kernel_rfl) h17 ?_
  refine WC.seq (WC.region ?_)
  refine sg 1 [] [4] [(4, (iv 4))] (by kernel_rfl) ?_
  refine WL.done rfl (WX.next ?_)
  refine WC.ret ?_
  injection hf with hf
  subst hf
  exact WX.blockR (WX.thenR (WX.ret_ [] (iv 4) [] (fun fb => by kernel_rfl) trivial ⟨_, rfl, rfl, hS16.keep⟩))
 refine WC.condF2 (fun fb => by kernel_rfl) h17 ?_
 refine WC.skip ?_
 refine WX.blockN (WX.next ?_)
 refine WC.seq (WC.region ?_)
 refine sg 1 [] [4] [(4, (iv 0))] (by kernel_rfl) ?_
 refine WL.done rfl (WX.next ?_)
 refine WC.ret ?_
 injection hf with hf
 subst hf
 exact WX.ret_ [] (iv 0) [] (fun fb => by kernel_rfl) trivial ⟨_, rfl, rfl, hS16.keep⟩
end Gp
