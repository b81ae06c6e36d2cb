/- Walks: each function of the program computes its plain function. -/
import Derived.Test.YtpbnoldflfcllaaGp
set_option linter.unusedVariables false
set_option linter.unusedSimpArgs false
set_option maxHeartbeats 4000000
set_option maxRecDepth 8000
namespace Gp
open Go Gw Go.Proofs
theorem census_few_calls (p0 : Int)  (r : Bool) (w : World)  (hf : census_few p0 = some r) :
  CallsR Try.prog 21 #[(iv p0)] w (fun v w' => v = (bv r) ∧ Keeps NoS w w') := by
 have hS : St NoS w w [] [] := St.init (ro_nil _ _)
 refine enter 9 Try.func21 rfl Try.ntmps21 rfl ?_
 unfold census_few at hf
 refine WC.seq (WC.region ?_)
 refine sg 1 [] [0] [(0, (iv p0))] (by kernel_rfl) ?_
 refine WL.done rfl (WX.next (WC.seq (WC.region ?_)))
 refine sg 3 [] [0, 5] [(0, (iv p0)), (5, (bv (decide (p0 ≥ 0))))] (by kernel_rfl) ?_
 refine WL.cutV (T := Bool) 6 (fun t => [(8, (bv t))]) (fun t => ((decide (p0 ≥ 0)) && (decide (p0 ≤ 3))) = t) (fun K => ?_) ?_
 ·
  rcases Bool.eq_false_or_eq_true (decide (p0 ≥ 0)) with h18 | h18
  ·
   refine WL.setB 5 h18 rfl ?_
   refine sg 6 [] [8] [(8, (bv (decide (p0 ≤ 3))))] (by kernel_rfl) ?_
   exact WL.toV K (decide (p0 ≤ 3)) [8] rfl (by first | (rw [h18]; done) | (rw [h18]; rfl))
  refine WL.setB 5 h18 rfl ?_
  refine sg 6 [] [8] [(8, (bv false))] (by kernel_rfl) ?_
  exact WL.toV K false [8] rfl (by first | (rw [h18]; done) | (rw [h18]; rfl))
 rintro b19 rfl
 refine sg 7 [] [2] [(2, (bv ((decide (p0 ≥ 0)) && (decide (p0 ≤ 3)))))] (by kernel_rfl) ?_
 refine WL.done rfl (WX.next ?_)
 refine WC.ret ?_
 injection hf with hf
 subst hf
 exact WX.ret_ [] (bv ((decide (p0 ≥ 0)) && (decide (p0 ≤ 3)))) [] (fun fb => by kernel_rfl) trivial ⟨_, rfl, rfl, hS.keep⟩
theorem census_words_calls (p0 : Int)  (r : Unit) (w : World)  (hf : census_words p0 = some r) :
  CallsR Try.prog 37 #[(iv p0)] w (fun v w' => ∃ (g1_ : Nat), v = (.func (.func 53) #[] #[(pt g1_)]) ∧ St NoS w w' [] [blk g1_ (.cells #[(iv p0)] 3 (0, 0))]) := by
 have hS : St NoS w w [] [] := St.init (ro_nil _ _)
 refine enter 4 Try.func37 rfl Try.ntmps37 rfl ?_
 unfold census_words at hf
 refine WC.seq (WC.region ?_)
 refine WL.new hS 1 [] (fun g => (pt g)) (.cells #[(iv p0)] 3 (0, 0)) [] (fun fb g => by kernel_rfl) trivial (fun g40 w41 hS42 => ?_)
 refine ⟨trivial, ?_⟩
 refine sg 2 [] [1] [(1, (pt g40))] (by kernel_rfl) ?_
 refine WL.done rfl (WX.next (WC.seq (WC.region ?_)))
 refine sg 2 [] [2] [(2, (.func (.func 53) #[] #[(pt g40)]))] (by kernel_rfl) ?_
 refine WL.done rfl (WX.next ?_)
 refine WC.ret ?_
 injection hf with hf
 subst hf
 exact WX.ret_ [] (.func (.func 53) #[] #[(pt g40)]) [] (fun fb => by kernel_rfl) trivial ⟨_, rfl, g40, rfl, (hS42.sub [0] (by decide)).noR⟩
theorem tile_colour_1_calls (p0 : Int)  (r : Bool) (w : World)  (hf : tile_colour_1 p0 = some r) :
  CallsR Try.prog 64 #[(iv p0)] w (fun v w' => v = (bv r) ∧ Keeps NoS w w') := by
 have hS : St NoS w w [] [] := St.init (ro_nil _ _)
 refine enter 9 Try.func64 rfl Try.ntmps64 rfl ?_
 unfold tile_colour_1 at hf
 refine WC.seq (WC.region ?_)
 refine sg 1 [] [0] [(0, (iv p0))] (by kernel_rfl) ?_
 refine WL.done rfl (WX.next (WC.seq (WC.region ?_)))
 refine sg 3 [] [0, 5] [(0, (iv p0)), (5, (bv (decide (p0 < 0))))] (by kernel_rfl) ?_
 refine WL.cutV (T := Bool) 6 (fun t => [(8, (bv t))]) (fun t => ((decide (p0 < 0)) || (decide (p0 ≥ 1000))) = t) (fun K => ?_) ?_
 ·
  rcases Bool.eq_false_or_eq_true (decide (p0 < 0)) with h2 | h2
  ·
   refine WL.setB 5 h2 rfl ?_
   refine sg 6 [] [8] [(8, (bv true))] (by kernel_rfl) ?_
   exact WL.toV K true [8] rfl (by first | (rw [h2]; done) | (rw [h2]; rfl))
  refine WL.setB 5 h2 rfl ?_
  refine sg 6 [] [8] [(8, (bv (decide (p0 ≥ 1000))))] (by kernel_rfl) ?_
  exact WL.toV K (decide (p0 ≥ 1000)) [8] rfl (by first | (rw [h2]; done) | (rw [h2]; rfl))
 rintro b3 rfl
 refine sg 7 [] [2] [(2, (bv ((decide (p0 < 0)) || (decide (p0 ≥ 1000)))))] (by kernel_rfl) ?_
 refine WL.done rfl (WX.next ?_)
 refine WC.ret ?_
 injection hf with hf
 subst hf
 exact WX.ret_ [] (bv ((decide (p0 < 0)) || (decide (p0 ≥ 1000)))) [] (fun fb => by kernel_rfl) trivial ⟨_, rfl, rfl, hS.keep⟩
theorem slices_IndexFunc_int_int_with_tile_colour_1_calls (k : Nat) (p0 : List Int) (Aa : Option Addr) (ca : Nat) (r : Int) (w : World) (hR0 : RO NoS w (rowR encInt Aa ca p0)) (hf : slices_IndexFunc_int_int_with_tile_colour_1 k p0 = some r) :
  CallsR Try.prog 85 #[(sv Aa p0 ca), (.func (.func 64) #[] #[])] w (fun v w' => v = (iv r) ∧ Keeps NoS w w') := by
 have hS : St NoS w w [rowR encInt Aa ca p0] [] := St.init (ro_cons hR0 (ro_nil _ _))
 refine enter 19 Try.func85 rfl Try.ntmps85 rfl ?_
 unfold slices_IndexFunc_int_int_with_tile_colour_1 at hf
 refine WC.seq (WC.region ?_)
 refine sg 1 [] [0, 1] [(0, (sv Aa p0 ca)), (1, (.func (.func 64) #[] #[]))] (by kernel_rfl) ?_
 refine WL.done rfl (WX.next (WC.seq (WC.seq (WC.region ?_))))
 refine sg 3 [] [0, 1, 7, 8] [(0, (sv Aa p0 ca)), (1, (.func (.func 64) #[] #[])), (7, (iv (p0.length : Int))), (8, (iv 0))] (by kernel_rfl) ?_
 refine WL.done rfl (WX.next ?_)
 obtain ⟨x4, hx5, hf⟩ := bind_some hf
 refine WC.cutN (T := Unit) (fun t => []) (fun t w1 => St NoS w w1 [rowR encInt Aa ca p0] [] ∧ x4 = .inr t) (fun Kx4 => ?_) ?_
 ·
  refine WC.block ?_
  refine WC.loop (T := Int) (fun t => [(0, (sv Aa p0 ca)), (1, (.func (.func 64) #[] #[])), (7, (iv (p0.length : Int))), (8, (iv t))]) (fun n t w1 => St NoS w w1 [rowR encInt Aa ca p0] [] ∧ slices_IndexFunc_int_int_with_tile_colour_1.l0 n t p0 = some x4) k 0 [0, 1, 7, 8] rfl ⟨(hS.subR [0]).sub [] (by decide), hx5⟩ ?_
  rintro k6 x3 w7 ⟨hS8, hl9⟩
  cases k6 with
  | zero => rw [slices_IndexFunc_int_int_with_tile_colour_1.l0] at hl9; cases hl9
  | succ k6 =>
   rw [slices_IndexFunc_int_int_with_tile_colour_1.l0] at hl9
   refine WC.seq (WC.region ?_)
   refine sg 1 [] [0, 1, 7, 8, 9] [(0, (sv Aa p0 ca)), (1, (.func (.func 64) #[] #[])), (7, (iv (p0.length : Int))), (8, (iv x3)), (9, (bv (decide (x3 < (p0.length : Int)))))] (by kernel_rfl) ?_
   refine WL.done rfl (WX.next (WC.seq ?_))
   rcases br_some hl9 with ⟨h10, hl9⟩ | ⟨h10, hl9⟩
   ·refine WC.condT2 (fun fb => by kernel_rfl) h10 ?_
    refine WC.skip (WX.next (WC.seq (WC.block (WC.seq (WC.region ?_)))))
    refine sg 2 [] [0, 1, 5, 7, 8] [(0, (sv Aa p0 ca)), (1, (.func (.func 64) #[] #[])), (5, (iv x3)), (7, (iv (p0.length : Int))), (8, (iv x3))] (by kernel_rfl) ?_
    refine WL.done rfl (WX.next (WC.seq (WC.region ?_)))
    refine sg 3 [] [0, 1, 5, 7, 8, 11, 12, 13] [(0, (sv Aa p0 ca)), (1, (.func (.func 64) #[] #[])), (5, (iv x3)), (7, (iv (p0.length : Int))), (8, (iv x3)), (11, (.func (.func 64) #[] #[])), (12, (sv Aa p0 ca)), (13, (iv x3))] (by kernel_rfl) ?_
    obtain ⟨h11, hl9⟩ := as_some hl9
    refine seg 5 [.v (iv (rdD p0 x3 0))] [0, 1, 5, 7, 8, 11, 15] [(0, (sv Aa p0 ca)), (1, (.func (.func 64) #[] #[])), (5, (iv x3)), (7, (iv (p0.length : Int))), (8, (iv x3)), (11, (.func (.func 64) #[] #[])), (15, (iv (rdD p0 x3 0)))] [.idx Aa x3 p0.length, .cell ((adr Aa).add ((x3).toNat * 1)) (iv (rdD p0 x3 0))] (fun fb => by kernel_rfl) rfl ⟨rowR.adr (hS8.rd 0).1 h11.1 h11.2, rowR.cell (hS8.rd 0).1 0 h11.1 h11.2 0 rfl, trivial⟩ ?_
    obtain ⟨t12, ht13, hl9⟩ := bind_some hl9
    refine WL.call (some 16) 64 #[(iv (rdD p0 x3 0))] (fun fb => by kernel_rfl) (tile_colour_1_calls (rdD p0 x3 0) t12 _ ht13) (fun v w14 hR15 => ?_)
    obtain ⟨rfl, hk_⟩ := hR15
    have hS16 := hS8.keepN hk_
    refine ⟨trivial, ?_⟩
    refine WL.done rfl (WX.next ?_)
    rcases br_some hl9 with ⟨h17, hl9⟩ | ⟨h17, hl9⟩
    ·refine WC.condT2 (fun fb => by kernel_rfl) h17 ?_
     refine WC.seq (WC.region ?_)
     refine sg 2 [] [4] [(4, (iv x3))] (by kernel_rfl) ?_
     refine WL.done rfl (WX.next ?_)
     refine WC.ret ?_
     injection hl9 with hl9
     subst hl9
     injection hf with hf
     subst hf
     exact WX.blockR (WX.thenR (WX.thenR (WX.blockR (WX.thenR (WX.ret_ [] (iv x3) [] (fun fb => by kernel_rfl) trivial ⟨_, rfl, rfl, hS16.keep⟩)))))
    refine WC.condF2 (fun fb => by kernel_rfl) h17 ?_
    refine WC.skip ?_
    refine WX.blockN (WX.next ?_)
    refine WC.region ?_
    refine sg 2 [] [0, 1, 7, 8] [(0, (sv Aa p0 ca)), (1, (.func (.func 64) #[] #[])), (7, (iv (p0.length : Int))), (8, (iv (w64 (x3 + 1))))] (by kernel_rfl) ?_
    refine WL.done rfl ?_
    exact WX.again k6 (Nat.lt_succ_self _) (w64 (x3 + 1)) [0, 1, 7, 8] rfl ⟨(hS16.subR [0]).sub [] (by decide), hl9⟩
   refine WC.condF2 (fun fb => by kernel_rfl) h10 ?_
   refine WC.exit ?_
   injection hl9 with hl9
   exact WX.thenX (WX.thenX (WX.blockHere (WX.to Kx4 () [] rfl ⟨(hS8.subR [0]).sub [] (by decide), hl9.symm⟩)))
 rintro y21 w18 ⟨hS19, hq20⟩
 subst hq20
 have hf := sum_inr hf
 refine WX.next (WC.seq (WC.region ?_))
 refine sg 1 [] [4] [(4, (iv (-1)))] (by kernel_rfl) ?_
 refine WL.done rfl (WX.next ?_)
 refine WC.ret ?_
 injection hf with hf
 subst hf
 exact WX.ret_ [] (iv (-1)) [] (fun fb => by kernel_rfl) trivial ⟨_, rfl, rfl, hS19.keep⟩
theorem slices_ContainsFunc_int_int_with_tile_colour_1_calls (k : Nat) (p0 : List Int) (Aa : Option Addr) (ca : Nat) (r : Bool) (w : World) (hR0 : RO NoS w (rowR encInt Aa ca p0)) (hf : slices_ContainsFunc_int_int_with_tile_colour_1 k p0 = some r) :
  CallsR Try.prog 63 #[(sv Aa p0 ca), (.func (.func 64) #[] #[])] w (fun v w' => v = (bv r) ∧ Keeps NoS w w') := by
 have hS : St NoS w w [rowR encInt Aa ca p0] [] := St.init (ro_cons hR0 (ro_nil _ _))
 refine enter 9 Try.func63 rfl Try.ntmps63 rfl ?_
 unfold slices_ContainsFunc_int_int_with_tile_colour_1 at hf
 refine WC.seq (WC.region ?_)
 refine sg 1 [] [0, 1] [(0, (sv Aa p0 ca)), (1, (.func (.func 64) #[] #[]))] (by kernel_rfl) ?_
 refine WL.done rfl (WX.next (WC.seq (WC.region ?_)))
 refine sg 2 [] [5, 6] [(5, (sv Aa p0 ca)), (6, (.func (.func 64) #[] #[]))] (by kernel_rfl) ?_
 obtain ⟨t2, ht3, hf⟩ := bind_some hf
 refine WL.call (some 7) 85 #[(sv Aa p0 ca), (.func (.func 64) #[] #[])] (fun fb => by kernel_rfl) (slices_IndexFunc_int_int_with_tile_colour_1_calls _ p0 Aa ca t2 _ (hS.rd 0) ht3) (fun v w4 hR5 => ?_)
 obtain ⟨rfl, hk_⟩ := hR5
 have hS6 := hS.keepN hk_
 refine ⟨trivial, ?_⟩
 refine sg 5 [] [4] [(4, (bv (decide (t2 ≥ 0))))] (by kernel_rfl) ?_
 refine WL.done rfl (WX.next ?_)
 refine WC.ret ?_
 injection hf with hf
 subst hf
 exact WX.ret_ [] (bv (decide (t2 ≥ 0))) [] (fun fb => by kernel_rfl) trivial ⟨_, rfl, rfl, hS6.keep⟩
theorem tile_colour_calls (k : Nat) (p0 : List Int) (Aa : Option Addr) (ca : Nat) (r : Bool) (w : World) (hR0 : RO NoS w (rowR encInt Aa ca p0)) (hf : tile_colour k p0 = some r) :
  CallsR Try.prog 46 #[(sv Aa p0 ca)] w (fun v w' => v = (bv r) ∧ Keeps NoS w w') := by
 have hS : St NoS w w [rowR encInt Aa ca p0] [] := St.init (ro_cons hR0 (ro_nil _ _))
 refine enter 6 Try.func46 rfl Try.ntmps46 rfl ?_
 unfold tile_colour at hf
 refine WC.seq (WC.region ?_)
 refine sg 1 [] [0] [(0, (sv Aa p0 ca))] (by kernel_rfl) ?_
 refine WL.done rfl (WX.next (WC.seq (WC.region ?_)))
 refine sg 1 [] [3] [(3, (sv Aa p0 ca))] (by kernel_rfl) ?_
 obtain ⟨t2, ht3, hf⟩ := bind_some hf
 refine WL.call (some 4) 63 #[(sv Aa p0 ca), (.func (.func 64) #[] #[])] (fun fb => by kernel_rfl) (slices_ContainsFunc_int_int_with_tile_colour_1_calls _ p0 Aa ca t2 _ (hS.rd 0) ht3) (fun v w4 hR5 => ?_)
 obtain ⟨rfl, hk_⟩ := hR5
 have hS6 := hS.keepN hk_
 refine ⟨trivial, ?_⟩
 refine sg 4 [] [2] [(2, (bv (!t2)))] (by kernel_rfl) ?_
 refine WL.done rfl (WX.next ?_)
 refine WC.ret ?_
 injection hf with hf
 subst hf
 exact WX.ret_ [] (bv (!t2)) [] (fun fb => by kernel_rfl) trivial ⟨_, rfl, rfl, hS6.keep⟩
theorem tile_Valid_key48 : KeyK Try.prog 48 (aggI ints_Tile) := KeyK.struct (n := 4) (by kernel_rfl) ints_Tile (fun _ => rfl) (fun x y h => by cases x; cases y; simp only [ints_Tile, List.cons.injEq, and_true] at h; obtain ⟨rfl, rfl, rfl, rfl⟩ := h; rfl)
theorem tile_Valid_calls (k : Nat) (p0 : List Tile) (Aa : Option Addr) (ca : Nat) (r : Bool) (w : World) (hR0 : RO NoS w (rowR enc_Tile Aa ca p0)) (hf : tile_Valid k p0 = some r) :
  CallsR Try.prog 33 #[(sv Aa p0 ca)] w (fun v w' => v = (bv r) ∧ Keeps NoS w w') := by
 have hS : St NoS w w [rowR enc_Tile Aa ca p0] [] := St.init (ro_cons hR0 (ro_nil _ _))
 refine enter 35 Try.func33 rfl Try.ntmps33 rfl ?_
 unfold tile_Valid at hf
 refine WC.seq (WC.region ?_)
 refine sg 1 [] [0] [(0, (sv Aa p0 ca))] (by kernel_rfl) ?_
 refine WL.done rfl (WX.next (WC.seq (WC.seq (WC.region ?_))))
 refine sg 3 [] [0, 8] [(0, (sv Aa p0 ca)), (8, (bv (decide ((p0.length : Int) > 1000))))] (by kernel_rfl) ?_
 refine WL.done rfl (WX.next ?_)
 rcases br_some hf with ⟨h3, hf⟩ | ⟨h3, hf⟩
 ·refine WC.condT2 (fun fb => by kernel_rfl) h3 ?_
  refine WC.seq (WC.region ?_)
  refine sg 1 [] [2] [(2, (bv false))] (by kernel_rfl) ?_
  refine WL.done rfl (WX.next ?_)
  refine WC.ret ?_
  injection hf with hf
  subst hf
  exact WX.thenR (WX.ret_ [] (bv false) [] (fun fb => by kernel_rfl) trivial ⟨_, rfl, rfl, hS.keep⟩)
 refine WC.condF2 (fun fb => by kernel_rfl) h3 ?_
 refine WC.skip (WX.next (WC.seq (WC.region ?_)))
 refine WL.new hS 9 [] (fun g => (.map (some g))) (mapObj (aggI ints_Tile) vB ([] : List (Tile × Bool))) [] (fun fb g => by kernel_rfl) trivial (fun g4 w5 hS6 => ?_)
 refine ⟨trivial, ?_⟩
 refine sg 2 [] [0, 3] [(0, (sv Aa p0 ca)), (3, (.map (some g4)))] (by kernel_rfl) ?_
 refine WL.done rfl (WX.next (WC.seq (WC.seq (WC.region ?_))))
 refine sg 3 [] [3, 10, 11, 12] [(3, (.map (some g4))), (10, (sv Aa p0 ca)), (11, (iv (p0.length : Int))), (12, (iv 0))] (by kernel_rfl) ?_
 refine WL.done rfl (WX.next ?_)
 obtain ⟨x9, hx10, hf⟩ := bind_some hf
 refine WC.cutN (T := Unit) (fun t => []) (fun t w1 => St NoS w w1 [rowR enc_Tile Aa ca p0] [] ∧ x9 = .inr t) (fun Kx9 => ?_) ?_
 ·
  refine WC.block ?_
  refine WC.loop (T := (List (Tile × Bool)) × Int) (fun t => [(3, (.map (some g4))), (10, (sv Aa p0 ca)), (11, (iv (p0.length : Int))), (12, (iv t.2))]) (fun n t w1 => St NoS w w1 [rowR enc_Tile Aa ca p0] [blk g4 (mapObj (aggI ints_Tile) vB t.1)] ∧ tile_Valid.l0 n t.1 t.2 p0 = some x9) k (([] : List (Tile × Bool)), 0) [3, 10, 11, 12] rfl ⟨(hS6.subR [0]).sub [0] (by decide), hx10⟩ ?_
  rintro k11 ⟨l7, x8⟩ w12 ⟨hS13, hl14⟩
  cases k11 with
  | zero => rw [tile_Valid.l0] at hl14; cases hl14
  | succ k11 =>
   rw [tile_Valid.l0] at hl14
   refine WC.seq (WC.region ?_)
   refine sg 1 [] [3, 10, 11, 12, 13] [(3, (.map (some g4))), (10, (sv Aa p0 ca)), (11, (iv (p0.length : Int))), (12, (iv x8)), (13, (bv (decide (x8 < (p0.length : Int)))))] (by kernel_rfl) ?_
   refine WL.done rfl (WX.next (WC.seq ?_))
   rcases br_some hl14 with ⟨h15, hl14⟩ | ⟨h15, hl14⟩
   ·refine WC.condT2 (fun fb => by kernel_rfl) h15 ?_
    refine WC.skip (WX.next (WC.seq (WC.block (WC.seq (WC.region ?_)))))
    obtain ⟨h16, hl14⟩ := as_some hl14
    refine seg 2 [.v (iv ((rdD p0 x8 z_Tile).N)), .v (iv ((rdD p0 x8 z_Tile).E)), .v (iv ((rdD p0 x8 z_Tile).S)), .v (iv ((rdD p0 x8 z_Tile).W))] [3, 10, 11, 12, 15] [(3, (.map (some g4))), (10, (sv Aa p0 ca)), (11, (iv (p0.length : Int))), (12, (iv x8)), (15, (.agg #[(iv ((rdD p0 x8 z_Tile).N)), (iv ((rdD p0 x8 z_Tile).E)), (iv ((rdD p0 x8 z_Tile).S)), (iv ((rdD p0 x8 z_Tile).W))]))] [.idx Aa x8 p0.length, .cell ((adr Aa).add ((x8).toNat * 4)) (iv ((rdD p0 x8 z_Tile).N)), .cell (((adr Aa).add ((x8).toNat * 4)).add 1) (iv ((rdD p0 x8 z_Tile).E)), .cell (((adr Aa).add ((x8).toNat * 4)).add 2) (iv ((rdD p0 x8 z_Tile).S)), .cell (((adr Aa).add ((x8).toNat * 4)).add 3) (iv ((rdD p0 x8 z_Tile).W))] (fun fb => by kernel_rfl) rfl ⟨rowR.adr (hS13.rd 0).1 h16.1 h16.2, rowR.cell (hS13.rd 0).1 z_Tile h16.1 h16.2 0 rfl, rowR.cell (hS13.rd 0).1 z_Tile h16.1 h16.2 1 rfl, rowR.cell (hS13.rd 0).1 z_Tile h16.1 h16.2 2 rfl, rowR.cell (hS13.rd 0).1 z_Tile h16.1 h16.2 3 rfl, trivial⟩ ?_
    refine WL.new hS13 5 [] (fun g => (pt g)) (.cells #[(iv 0), (iv 0), (iv 0), (iv 0)] 48 (0, 0)) [] (fun fb g => by kernel_rfl) trivial (fun g17 w18 hS19 => ?_)
    refine ⟨trivial, ?_⟩
    refine WL.store hS19 0 rfl [(0, (iv ((rdD p0 x8 z_Tile).N))), (1, (iv ((rdD p0 x8 z_Tile).E))), (2, (iv ((rdD p0 x8 z_Tile).S))), (3, (iv ((rdD p0 x8 z_Tile).W)))] #[(iv ((rdD p0 x8 z_Tile).N)), (iv ((rdD p0 x8 z_Tile).E)), (iv ((rdD p0 x8 z_Tile).S)), (iv ((rdD p0 x8 z_Tile).W))] (fun fb => by kernel_rfl) (by kernel_rfl) rfl [1] (by decide) (by decide) (fun w20 hS21 => ?_)
    refine ⟨trivial, ?_⟩
    refine WL.done rfl (WX.next (WC.seq (WC.seq (WC.region ?_))))
    refine seg 2 [.v (iv ((rdD p0 x8 z_Tile).N)), .v (iv ((rdD p0 x8 z_Tile).E)), .v (iv ((rdD p0 x8 z_Tile).S)), .v (iv ((rdD p0 x8 z_Tile).W))] [3, 5, 10, 11, 12, 16, 17] [(3, (.map (some g4))), (5, (pt g17)), (10, (sv Aa p0 ca)), (11, (iv (p0.length : Int))), (12, (iv x8)), (16, (.map (some g4))), (17, (.agg #[(iv ((rdD p0 x8 z_Tile).N)), (iv ((rdD p0 x8 z_Tile).E)), (iv ((rdD p0 x8 z_Tile).S)), (iv ((rdD p0 x8 z_Tile).W))]))] [.cell ⟨g17, 0, none⟩ (iv ((rdD p0 x8 z_Tile).N)), .cell ⟨g17, 1, none⟩ (iv ((rdD p0 x8 z_Tile).E)), .cell ⟨g17, 2, none⟩ (iv ((rdD p0 x8 z_Tile).S)), .cell ⟨g17, 3, none⟩ (iv ((rdD p0 x8 z_Tile).W))] (fun fb => by kernel_rfl) rfl ⟨hS21.cell 0 rfl 0 rfl, hS21.cell 0 rfl 1 rfl, hS21.cell 0 rfl 2 rfl, hS21.cell 0 rfl 3 rfl, trivial⟩ ?_
    refine WL.lookup (hS21.own 1).1 (rdD p0 x8 z_Tile) (d := 18) (c := false) (t := 79) (kT := 48) (eT := 4) (z := false) (kE := (aggI ints_Tile)) (vE := vB) (l := l7) (bv (mget (rdD p0 x8 z_Tile) false l7)) (fun fb => by kernel_rfl) tile_Valid_key48 (by kernel_rfl) (fun _ => by kernel_rfl) rfl ?_
    refine ⟨trivial, ?_⟩
    refine sg 4 [] [3, 5, 10, 11, 12, 19] [(3, (.map (some g4))), (5, (pt g17)), (10, (sv Aa p0 ca)), (11, (iv (p0.length : Int))), (12, (iv x8)), (19, (bv (mget (rdD p0 x8 z_Tile) false l7)))] (by kernel_rfl) ?_
    obtain ⟨x22, hx23, hl14⟩ := bind_some hl14
    refine WL.cutW (T := Bool) 16 (fun t => [(3, (.map (some g4))), (5, (pt g17)), (10, (sv Aa p0 ca)), (11, (iv (p0.length : Int))), (12, (iv x8)), (31, (bv t))]) (fun t w1 => (St NoS w w1 [rowR enc_Tile Aa ca p0] [blk g4 (mapObj (aggI ints_Tile) vB l7), blk g17 (.cells #[(iv ((rdD p0 x8 z_Tile).N)), (iv ((rdD p0 x8 z_Tile).E)), (iv ((rdD p0 x8 z_Tile).S)), (iv ((rdD p0 x8 z_Tile).W))] 48 (0, 0))] ∧ x22 = t) ∧ CellsOK [] w1) (fun K => ?_) ?_
    ·
     rcases br_some hx23 with ⟨h24, hx23⟩ | ⟨h24, hx23⟩
     ·
      refine WL.setB 19 h24 rfl ?_
      refine sg 16 [] [3, 5, 10, 11, 12, 31] [(3, (.map (some g4))), (5, (pt g17)), (10, (sv Aa p0 ca)), (11, (iv (p0.length : Int))), (12, (iv x8)), (31, (bv true))] (by kernel_rfl) ?_
      injection hx23 with hx23
      exact WL.to K true [3, 5, 10, 11, 12, 31] rfl ⟨⟨(hS21.subR [0]).sub [1, 0] (by decide), hx23.symm⟩, trivial⟩
     refine WL.setB 19 h24 rfl ?_
     refine seg 12 [.v (iv ((rdD p0 x8 z_Tile).N)), .v (iv ((rdD p0 x8 z_Tile).E)), .v (iv ((rdD p0 x8 z_Tile).S)), .v (iv ((rdD p0 x8 z_Tile).W))] [3, 5, 10, 11, 12, 19, 21, 23, 25, 27] [(3, (.map (some g4))), (5, (pt g17)), (10, (sv Aa p0 ca)), (11, (iv (p0.length : Int))), (12, (iv x8)), (19, (bv false)), (21, (iv ((rdD p0 x8 z_Tile).N))), (23, (iv ((rdD p0 x8 z_Tile).E))), (25, (iv ((rdD p0 x8 z_Tile).S))), (27, (iv ((rdD p0 x8 z_Tile).W)))] [.cell ⟨g17, 0, none⟩ (iv ((rdD p0 x8 z_Tile).N)), .cell ⟨g17, 1, none⟩ (iv ((rdD p0 x8 z_Tile).E)), .cell ⟨g17, 2, none⟩ (iv ((rdD p0 x8 z_Tile).S)), .cell ⟨g17, 3, none⟩ (iv ((rdD p0 x8 z_Tile).W))] (fun fb => by kernel_rfl) rfl ⟨hS21.cell 0 rfl 0 rfl, hS21.cell 0 rfl 1 rfl, hS21.cell 0 rfl 2 rfl, hS21.cell 0 rfl 3 rfl, trivial⟩ ?_
     refine WL.new hS21 28 [] (fun g => (.slice (some ⟨g, 0, none⟩) 4 4)) (.cells #[(iv ((rdD p0 x8 z_Tile).N)), (iv ((rdD p0 x8 z_Tile).E)), (iv ((rdD p0 x8 z_Tile).S)), (iv ((rdD p0 x8 z_Tile).W))] 3 (0, 0)) [] (fun fb g => by kernel_rfl) trivial (fun g25 w26 hS27 => ?_)
     refine ⟨trivial, ?_⟩
     have hS28 := hS.go w26 [rowO 3 encInt (some ⟨g25, 0, none⟩) 4 [(rdD p0 x8 z_Tile).N, (rdD p0 x8 z_Tile).E, (rdD p0 x8 z_Tile).S, (rdD p0 x8 z_Tile).W], blk g17 (.cells #[(iv ((rdD p0 x8 z_Tile).N)), (iv ((rdD p0 x8 z_Tile).E)), (iv ((rdD p0 x8 z_Tile).S)), (iv ((rdD p0 x8 z_Tile).W))] 48 (0, 0)), blk g4 (mapObj (aggI ints_Tile) vB l7)] (hS27.map1 0 _ (fun h => rowO.ofBlk h rfl (Nat.le_of_ble_eq_true (by kernel_rfl))) (fun _ h => by obtain ⟨_, h1, h2⟩ := h; injection h1 with h1; subst h1; exact h2) [1, 2] (by decide) (by decide))
     obtain ⟨t29, ht30, hx23⟩ := bind_some hx23
     refine WL.call (some 29) 46 #[(sv (some ⟨g25, 0, none⟩) [(rdD p0 x8 z_Tile).N, (rdD p0 x8 z_Tile).E, (rdD p0 x8 z_Tile).S, (rdD p0 x8 z_Tile).W] 4)] (fun fb => by kernel_rfl) (tile_colour_calls _ [(rdD p0 x8 z_Tile).N, (rdD p0 x8 z_Tile).E, (rdD p0 x8 z_Tile).S, (rdD p0 x8 z_Tile).W] (some ⟨g25, 0, none⟩) 4 t29 _ (hS28.ow 0).ofO ht30) (fun v w31 hR32 => ?_)
     obtain ⟨rfl, hk_⟩ := hR32
     have hS34 := hS28.keepN hk_
     refine ⟨trivial, ?_⟩
     refine sg 16 [] [3, 5, 10, 11, 12, 31] [(3, (.map (some g4))), (5, (pt g17)), (10, (sv Aa p0 ca)), (11, (iv (p0.length : Int))), (12, (iv x8)), (31, (bv (!t29)))] (by kernel_rfl) ?_
     injection hx23 with hx23
     exact WL.to K (!t29) [3, 5, 10, 11, 12, 31] rfl ⟨⟨(hS34.subR [0]).sub [2, 1] (by decide), hx23.symm⟩, trivial⟩
    rintro y35 w37 ⟨⟨hS38, hq36⟩, hF39⟩
    subst hq36
    refine WL.done rfl (WX.next ?_)
    rcases br_some hl14 with ⟨h40, hl14⟩ | ⟨h40, hl14⟩
    ·refine WC.condT2 (fun fb => by kernel_rfl) h40 ?_
     refine WC.seq (WC.region ?_)
     refine sg 1 [] [2] [(2, (bv false))] (by kernel_rfl) ?_
     refine WL.done rfl (WX.next ?_)
     refine WC.ret ?_
     injection hl14 with hl14
     subst hl14
     injection hf with hf
     subst hf
     exact WX.thenR (WX.blockR (WX.thenR (WX.thenR (WX.blockR (WX.thenR (WX.ret_ [] (bv false) [] (fun fb => by kernel_rfl) trivial ⟨_, rfl, rfl, hS38.keep⟩))))))
    refine WC.condF2 (fun fb => by kernel_rfl) h40 ?_
    refine WC.skip (WX.next (WC.region ?_))
    refine seg 2 [.v (iv ((rdD p0 x8 z_Tile).N)), .v (iv ((rdD p0 x8 z_Tile).E)), .v (iv ((rdD p0 x8 z_Tile).S)), .v (iv ((rdD p0 x8 z_Tile).W))] [3, 10, 11, 12, 32, 33] [(3, (.map (some g4))), (10, (sv Aa p0 ca)), (11, (iv (p0.length : Int))), (12, (iv x8)), (32, (.map (some g4))), (33, (.agg #[(iv ((rdD p0 x8 z_Tile).N)), (iv ((rdD p0 x8 z_Tile).E)), (iv ((rdD p0 x8 z_Tile).S)), (iv ((rdD p0 x8 z_Tile).W))]))] [.cell ⟨g17, 0, none⟩ (iv ((rdD p0 x8 z_Tile).N)), .cell ⟨g17, 1, none⟩ (iv ((rdD p0 x8 z_Tile).E)), .cell ⟨g17, 2, none⟩ (iv ((rdD p0 x8 z_Tile).S)), .cell ⟨g17, 3, none⟩ (iv ((rdD p0 x8 z_Tile).W))] (fun fb => by kernel_rfl) rfl ⟨hS38.cell 1 rfl 0 rfl, hS38.cell 1 rfl 1 rfl, hS38.cell 1 rfl 2 rfl, hS38.cell 1 rfl 3 rfl, trivial⟩ ?_
    refine WL.mapput hS38 0 (t := 79) (kT := 48) (eT := 4) (kE := (aggI ints_Tile)) (vE := vB) (l := l7) rfl (rdD p0 x8 z_Tile) true (fun fb => by kernel_rfl) tile_Valid_key48 (by kernel_rfl) [1] (by decide) (by decide) (fun w41 hS42 => ?_)
    refine ⟨trivial, ?_⟩
    refine WL.done rfl ?_
    refine WX.blockN (WX.next ?_)
    refine WC.region ?_
    refine sg 2 [] [3, 10, 11, 12] [(3, (.map (some g4))), (10, (sv Aa p0 ca)), (11, (iv (p0.length : Int))), (12, (iv (w64 (x8 + 1))))] (by kernel_rfl) ?_
    refine WL.done rfl ?_
    exact WX.again k11 (Nat.lt_succ_self _) (mput (rdD p0 x8 z_Tile) true l7, w64 (x8 + 1)) [3, 10, 11, 12] rfl ⟨(hS42.subR [0]).sub [0] (by decide), hl14⟩
   refine WC.condF2 (fun fb => by kernel_rfl) h15 ?_
   refine WC.exit ?_
   injection hl14 with hl14
   exact WX.thenX (WX.thenX (WX.blockHere (WX.to Kx9 () [] rfl ⟨(hS13.subR [0]).sub [] (by decide), hl14.symm⟩)))
 rintro y46 w43 ⟨hS44, hq45⟩
 subst hq45
 have hf := sum_inr hf
 refine WX.next (WC.seq (WC.region ?_))
 refine sg 1 [] [2] [(2, (bv true))] (by kernel_rfl) ?_
 refine WL.done rfl (WX.next ?_)
 refine WC.ret ?_
 injection hf with hf
 subst hf
 exact WX.ret_ [] (bv true) [] (fun fb => by kernel_rfl) trivial ⟨_, rfl, rfl, hS44.keep⟩
theorem census_orders_calls (p0 : List Tile) (Aa : Option Addr) (ca : Nat) (r : Unit) (w : World) (hR0 : RO NoS w (rowR enc_Tile Aa ca p0)) (hf : census_orders p0 = some r) :
  CallsR Try.prog 47 #[(sv Aa p0 ca)] w (fun v w' => ∃ (g1_ : Nat), v = (.func (.func 65) #[] #[(pt g1_)]) ∧ St NoS w w' [] [blk g1_ (.cells #[(sv Aa p0 ca)] 28 (0, 0))]) := by
 have hS : St NoS w w [rowR enc_Tile Aa ca p0] [] := St.init (ro_cons hR0 (ro_nil _ _))
 refine enter 4 Try.func47 rfl Try.ntmps47 rfl ?_
 unfold census_orders at hf
 refine WC.seq (WC.region ?_)
 refine WL.new hS 1 [] (fun g => (pt g)) (.cells #[(sv Aa p0 ca)] 28 (0, 0)) [] (fun fb g => by kernel_rfl) trivial (fun g2 w3 hS4 => ?_)
 refine ⟨trivial, ?_⟩
 refine sg 2 [] [1] [(1, (pt g2))] (by kernel_rfl) ?_
 refine WL.done rfl (WX.next (WC.seq (WC.region ?_)))
 refine sg 2 [] [2] [(2, (.func (.func 65) #[] #[(pt g2)]))] (by kernel_rfl) ?_
 refine WL.done rfl (WX.next ?_)
 refine WC.ret ?_
 injection hf with hf
 subst hf
 exact WX.ret_ [] (.func (.func 65) #[] #[(pt g2)]) [] (fun fb => by kernel_rfl) trivial ⟨_, rfl, g2, rfl, (hS4.sub [0] (by decide)).noR⟩
theorem census_names_of_key3 : KeyK Try.prog 3 (vI .i64) := KeyK.int (by kernel_rfl)
theorem census_names_of_calls (p0 : List (Int × Int)) (p1 : Int) (gm_p0 : Nat) (r : Int × (List (Int × Int))) (w : World) (hI : IoOK w [blk gm_p0 (mapObj (vI .i64) (vI .i64) p0)]) (hf : census_names_of p0 p1 = some r) :
  CallsR Try.prog 68 #[(.map (some gm_p0)), (iv p1)] w (fun v w' => v = (iv r.1) ∧ St (fpL [blk gm_p0 (mapObj (vI .i64) (vI .i64) p0)]) w w' [] [blk gm_p0 (mapObj (vI .i64) (vI .i64) r.2)]) := by
 have hS : St (fpL [blk gm_p0 (mapObj (vI .i64) (vI .i64) p0)]) w w [] [blk gm_p0 (mapObj (vI .i64) (vI .i64) p0)] := St.initIO (ro_nil _ _) hI
 refine enter 22 Try.func68 rfl Try.ntmps68 rfl ?_
 unfold census_names_of at hf
 refine WC.seq (WC.region ?_)
 refine sg 1 [] [0, 1] [(0, (.map (some gm_p0))), (1, (iv p1))] (by kernel_rfl) ?_
 refine WL.done rfl (WX.next (WC.seq (WC.seq (WC.region ?_))))
 refine sg 2 [] [0, 1, 8, 9] [(0, (.map (some gm_p0))), (1, (iv p1)), (8, (.map (some gm_p0))), (9, (iv p1))] (by kernel_rfl) ?_
 refine WL.lookup (hS.own 0).1 p1 (d := 10) (c := true) (t := 106) (kT := 3) (eT := 3) (z := 0) (kE := (vI .i64)) (vE := (vI .i64)) (l := p0) (.tuple #[(iv (mget p1 0 p0)), (bv (mhas p1 p0))]) (fun fb => by kernel_rfl) census_names_of_key3 (by kernel_rfl) (fun _ => by kernel_rfl) rfl ?_
 refine ⟨trivial, ?_⟩
 refine sg 8 [] [0, 1, 6] [(0, (.map (some gm_p0))), (1, (iv p1)), (6, (bv (mhas p1 p0)))] (by kernel_rfl) ?_
 refine WL.done rfl (WX.next (WC.seq (WC.region ?_)))
 refine sg 2 [] [0, 1, 14] [(0, (.map (some gm_p0))), (1, (iv p1)), (14, (bv (!(mhas p1 p0))))] (by kernel_rfl) ?_
 refine WL.done rfl (WX.next ?_)
 obtain ⟨x4, hx5, hf⟩ := bind_some hf
 refine WC.cutN (T := (List (Int × Int))) (fun t => [(0, (.map (some gm_p0))), (1, (iv p1))]) (fun t w1 => St (fpL [blk gm_p0 (mapObj (vI .i64) (vI .i64) p0)]) w w1 [] [blk gm_p0 (mapObj (vI .i64) (vI .i64) t)] ∧ x4 = t) (fun Kx4 => ?_) ?_
 ·
  rcases br_some hx5 with ⟨h6, hx5⟩ | ⟨h6, hx5⟩
  ·refine WC.condT2 (fun fb => by kernel_rfl) h6 ?_
   refine WC.region ?_
   refine sg 3 [] [0, 1, 15, 16, 17] [(0, (.map (some gm_p0))), (1, (iv p1)), (15, (.map (some gm_p0))), (16, (iv p1)), (17, (.map (some gm_p0)))] (by kernel_rfl) ?_
   refine seg 4 [.o (mapObj (vI .i64) (vI .i64) p0)] [0, 1, 15, 16, 18] [(0, (.map (some gm_p0))), (1, (iv p1)), (15, (.map (some gm_p0))), (16, (iv p1)), (18, (iv (((ents (vI .i64) (vI .i64) 0 p0).toArray.size : Nat) : Int)))] [.obj gm_p0 (mapObj (vI .i64) (vI .i64) p0)] (fun fb => by kernel_rfl) rfl ⟨(mapObj_req (hS.own 0).1), trivial⟩ ?_
   refine WL.reE [0, 1, 15, 16, 18] [(0, (.map (some gm_p0))), (1, (iv p1)), (15, (.map (some gm_p0))), (16, (iv p1)), (18, (iv (((ents (vI .i64) (vI .i64) 0 p0).toArray.size : Nat) : Int)))] [(0, (.map (some gm_p0))), (1, (iv p1)), (15, (.map (some gm_p0))), (16, (iv p1)), (18, (iv (p0.length : Int)))] rfl (by rw [ents_size]) ?_
   refine WL.mapput hS 0 (t := 106) (kT := 3) (eT := 3) (kE := (vI .i64)) (vE := (vI .i64)) (l := p0) rfl p1 (p0.length : Int) (fun fb => by kernel_rfl) census_names_of_key3 (by kernel_rfl) [] (by decide) (by decide) (fun w7 hS8 => ?_)
   refine ⟨trivial, ?_⟩
   refine WL.done rfl ?_
   injection hx5 with hx5
   exact WX.to Kx4 (mput p1 (p0.length : Int) p0) [0, 1] rfl ⟨(hS8.subR []).sub [0] (by decide), hx5.symm⟩
  refine WC.condF2 (fun fb => by kernel_rfl) h6 ?_
  refine WC.skip ?_
  injection hx5 with hx5
  exact WX.to Kx4 p0 [0, 1] rfl ⟨(hS.subR []).sub [0] (by decide), hx5.symm⟩
 rintro y12 w9 ⟨hS10, hq11⟩
 subst hq11
 refine WX.next (WC.seq (WC.region ?_))
 refine sg 2 [] [19, 20] [(19, (.map (some gm_p0))), (20, (iv p1))] (by kernel_rfl) ?_
 refine WL.lookup (hS10.own 0).1 p1 (d := 21) (c := false) (t := 106) (kT := 3) (eT := 3) (z := 0) (kE := (vI .i64)) (vE := (vI .i64)) (l := x4) (iv (mget p1 0 x4)) (fun fb => by kernel_rfl) census_names_of_key3 (by kernel_rfl) (fun _ => by kernel_rfl) rfl ?_
 refine ⟨trivial, ?_⟩
 refine sg 4 [] [4] [(4, (iv (mget p1 0 x4)))] (by kernel_rfl) ?_
 refine WL.done rfl (WX.next ?_)
 refine WC.ret ?_
 injection hf with hf
 subst hf
 exact WX.ret_ [] (iv (mget p1 0 x4)) [] (fun fb => by kernel_rfl) trivial ⟨_, rfl, rfl, (hS10.sub [0] (by decide)).noR⟩
theorem census_renamed_calls (k : Nat) (p0 : List Tile) (Aa : Option Addr) (ca : Nat) (r : (List Tile)) (w : World) (hR0 : RO NoS w (rowR enc_Tile Aa ca p0)) (hf : census_renamed k p0 = some r) :
  CallsR Try.prog 48 #[(sv Aa p0 ca)] w (fun v w' => ∃ (A1_ : Option Addr), ∃ (c1_ : Nat), v = (sv A1_ r c1_) ∧ St NoS w w' [] [rowO 48 enc_Tile A1_ c1_ r]) := by
 have hS : St NoS w w [rowR enc_Tile Aa ca p0] [] := St.init (ro_cons hR0 (ro_nil _ _))
 refine enter 38 Try.func48 rfl Try.ntmps48 rfl ?_
 unfold census_renamed at hf
 refine WC.seq (WC.region ?_)
 refine sg 1 [] [0] [(0, (sv Aa p0 ca))] (by kernel_rfl) ?_
 refine WL.done rfl (WX.next (WC.seq (WC.region ?_)))
 refine WL.new hS 8 [] (fun g => (.map (some g))) (mapObj (vI .i64) (vI .i64) ([] : List (Int × Int))) [] (fun fb g => by kernel_rfl) trivial (fun g3 w4 hS5 => ?_)
 refine ⟨trivial, ?_⟩
 refine WL.new hS5 9 [] (fun g => (.map (some g))) (mapObj (vI .i64) (vI .i64) ([] : List (Int × Int))) [] (fun fb g => by kernel_rfl) trivial (fun g6 w7 hS8 => ?_)
 refine ⟨trivial, ?_⟩
 refine sg 4 [] [0, 3, 4] [(0, (sv Aa p0 ca)), (3, (.map (some g3))), (4, (.map (some g6)))] (by kernel_rfl) ?_
 refine WL.done rfl (WX.next (WC.seq (WC.region ?_)))
 refine sg 1 [] [0, 3, 4, 5] [(0, (sv Aa p0 ca)), (3, (.map (some g3))), (4, (.map (some g6))), (5, (.slice none 0 0))] (by kernel_rfl) ?_
 refine WL.done rfl (WX.next (WC.seq (WC.seq (WC.region ?_))))
 refine sg 3 [] [3, 4, 5, 10, 11, 12] [(3, (.map (some g3))), (4, (.map (some g6))), (5, (.slice none 0 0)), (10, (sv Aa p0 ca)), (11, (iv (p0.length : Int))), (12, (iv 0))] (by kernel_rfl) ?_
 refine WL.done rfl (WX.next ?_)
 have hS9 := hS8.nilrow 48 enc_Tile
 obtain ⟨x18, hx19, hf⟩ := bind_some hf
 refine WC.cutN (T := (List Tile) × (Option Addr) × Nat) (fun t => [(5, (sv t.2.1 t.1 t.2.2))]) (fun t w1 => St NoS w w1 [rowR enc_Tile Aa ca p0] [rowO 48 enc_Tile t.2.1 t.2.2 t.1] ∧ x18 = t.1) (fun Kx18 => ?_) ?_
 ·
  refine WC.block ?_
  refine WC.loop (T := ((List (Int × Int)) × (List (Int × Int)) × (List Tile) × Int) × (Option Addr) × Nat) (fun t => [(3, (.map (some g3))), (4, (.map (some g6))), (5, (sv t.2.1 t.1.2.2.1 t.2.2)), (10, (sv Aa p0 ca)), (11, (iv (p0.length : Int))), (12, (iv t.1.2.2.2))]) (fun n t w1 => St NoS w w1 [rowR enc_Tile Aa ca p0] [blk g3 (mapObj (vI .i64) (vI .i64) t.1.1), blk g6 (mapObj (vI .i64) (vI .i64) t.1.2.1), rowO 48 enc_Tile t.2.1 t.2.2 t.1.2.2.1] ∧ census_renamed.l0 n t.1.1 t.1.2.1 t.1.2.2.1 t.1.2.2.2 p0 = some x18) k ((([] : List (Int × Int)), ([] : List (Int × Int)), ([] : List Tile), 0), none, 0) [3, 4, 5, 10, 11, 12] rfl ⟨(hS9.subR [0]).sub [2, 1, 0] (by decide), hx19⟩ ?_
  rintro k20 ⟨⟨l10, l11, l14, x15⟩, A12, c13⟩ w21 ⟨hS22, hl23⟩
  cases k20 with
  | zero => rw [census_renamed.l0] at hl23; cases hl23
  | succ k20 =>
   rw [census_renamed.l0] at hl23
   refine WC.seq (WC.region ?_)
   refine sg 1 [] [3, 4, 5, 10, 11, 12, 13] [(3, (.map (some g3))), (4, (.map (some g6))), (5, (sv A12 l14 c13)), (10, (sv Aa p0 ca)), (11, (iv (p0.length : Int))), (12, (iv x15)), (13, (bv (decide (x15 < (p0.length : Int)))))] (by kernel_rfl) ?_
   refine WL.done rfl (WX.next (WC.seq ?_))
   rcases br_some hl23 with ⟨h24, hl23⟩ | ⟨h24, hl23⟩
   ·refine WC.condT2 (fun fb => by kernel_rfl) h24 ?_
    refine WC.skip (WX.next (WC.seq (WC.block (WC.seq (WC.region ?_)))))
    obtain ⟨h25, hl23⟩ := as_some hl23
    refine seg 2 [.v (iv ((rdD p0 x15 z_Tile).N)), .v (iv ((rdD p0 x15 z_Tile).E)), .v (iv ((rdD p0 x15 z_Tile).S)), .v (iv ((rdD p0 x15 z_Tile).W))] [3, 4, 5, 10, 11, 12, 15] [(3, (.map (some g3))), (4, (.map (some g6))), (5, (sv A12 l14 c13)), (10, (sv Aa p0 ca)), (11, (iv (p0.length : Int))), (12, (iv x15)), (15, (.agg #[(iv ((rdD p0 x15 z_Tile).N)), (iv ((rdD p0 x15 z_Tile).E)), (iv ((rdD p0 x15 z_Tile).S)), (iv ((rdD p0 x15 z_Tile).W))]))] [.idx Aa x15 p0.length, .cell ((adr Aa).add ((x15).toNat * 4)) (iv ((rdD p0 x15 z_Tile).N)), .cell (((adr Aa).add ((x15).toNat * 4)).add 1) (iv ((rdD p0 x15 z_Tile).E)), .cell (((adr Aa).add ((x15).toNat * 4)).add 2) (iv ((rdD p0 x15 z_Tile).S)), .cell (((adr Aa).add ((x15).toNat * 4)).add 3) (iv ((rdD p0 x15 z_Tile).W))] (fun fb => by kernel_rfl) rfl ⟨rowR.adr (hS22.rd 0).1 h25.1 h25.2, rowR.cell (hS22.rd 0).1 z_Tile h25.1 h25.2 0 rfl, rowR.cell (hS22.rd 0).1 z_Tile h25.1 h25.2 1 rfl, rowR.cell (hS22.rd 0).1 z_Tile h25.1 h25.2 2 rfl, rowR.cell (hS22.rd 0).1 z_Tile h25.1 h25.2 3 rfl, trivial⟩ ?_
    refine WL.new hS22 7 [] (fun g => (pt g)) (.cells #[(iv 0), (iv 0), (iv 0), (iv 0)] 48 (0, 0)) [] (fun fb g => by kernel_rfl) trivial (fun g26 w27 hS28 => ?_)
    refine ⟨trivial, ?_⟩
    refine WL.store hS28 0 rfl [(0, (iv ((rdD p0 x15 z_Tile).N))), (1, (iv ((rdD p0 x15 z_Tile).E))), (2, (iv ((rdD p0 x15 z_Tile).S))), (3, (iv ((rdD p0 x15 z_Tile).W)))] #[(iv ((rdD p0 x15 z_Tile).N)), (iv ((rdD p0 x15 z_Tile).E)), (iv ((rdD p0 x15 z_Tile).S)), (iv ((rdD p0 x15 z_Tile).W))] (fun fb => by kernel_rfl) (by kernel_rfl) rfl [1, 2, 3] (by decide) (by decide) (fun w29 hS30 => ?_)
    refine ⟨trivial, ?_⟩
    refine WL.done rfl (WX.next ?_)
    refine WC.regionD ([(3, ⟨g26, 0, none⟩, (iv ((rdD p0 x15 z_Tile).N))), (7, ⟨g26, 1, none⟩, (iv ((rdD p0 x15 z_Tile).E))), (11, ⟨g26, 2, none⟩, (iv ((rdD p0 x15 z_Tile).S))), (15, ⟨g26, 3, none⟩, (iv ((rdD p0 x15 z_Tile).W)))], [0, 1, 2, 3, 5, 6, 7, 9, 10, 11, 13, 14, 15, 17, 20], [[], [], [], [2], [1, 2, 3], [], [], [6], [1, 2, 3, 4, 5, 6, 7], [], [], [10], [1, 2, 3, 4, 5, 6, 7, 8, 9, 10, 11], [], [], [14], [1, 2, 3, 4, 5, 6, 7, 8, 9, 10, 11, 12, 13, 14, 15], [1, 2, 3, 4, 5, 6, 7, 8, 9, 10, 11, 12, 13, 14, 15, 16], [1, 2, 3, 4, 5, 6, 7, 8, 9, 10, 11, 12, 13, 14, 15, 16, 17], [0, 1, 2, 3, 4, 5, 6, 7, 8, 9, 10, 11, 12, 13, 14, 15, 16, 17, 18], [0, 1, 2, 3, 4, 5, 6, 7, 8, 9, 10, 11, 12, 13, 14, 15, 16, 17, 18, 19]]) [[0, 1, 2, 3, 5, 6, 7, 9, 10, 11, 13, 14, 15, 4, 8, 12, 16, 17, 18, 19, 20]] (by kernel_rfl) (by kernel_rfl) (NoPanic.block (NoPanic.seq (NoPanic.seq (NoPanic.block (NoPanic.seq (NoPanic.body)))))) ?_
    have hS32 := hS30.drew
    revert hS32
    generalize World.drew w29 = w31
    intro hS32
    refine ⟨⟨hS32.cell 0 rfl 0 rfl, hS32.cell 0 rfl 1 rfl, hS32.cell 0 rfl 2 rfl, hS32.cell 0 rfl 3 rfl, trivial⟩, forallC ?_ (forallN)⟩
    refine segF 13 [.v (iv ((rdD p0 x15 z_Tile).N)), .v (iv ((rdD p0 x15 z_Tile).E)), .v (iv ((rdD p0 x15 z_Tile).S)), .v (iv ((rdD p0 x15 z_Tile).W))] [3, 4, 10, 11, 12, 16, 17, 19, 21, 23, 25, 27, 29, 31] [(3, (.map (some g3))), (4, (.map (some g6))), (10, (sv Aa p0 ca)), (11, (iv (p0.length : Int))), (12, (iv x15)), (16, (sv A12 l14 c13)), (17, (.map (some g3))), (19, (iv ((rdD p0 x15 z_Tile).N))), (21, (.map (some g6))), (23, (iv ((rdD p0 x15 z_Tile).E))), (25, (.map (some g3))), (27, (iv ((rdD p0 x15 z_Tile).S))), (29, (.map (some g6))), (31, (iv ((rdD p0 x15 z_Tile).W)))] [] [0, 1, 2, 3] [(3, ⟨g26, 0, none⟩, (iv ((rdD p0 x15 z_Tile).N))), (7, ⟨g26, 1, none⟩, (iv ((rdD p0 x15 z_Tile).E))), (11, ⟨g26, 2, none⟩, (iv ((rdD p0 x15 z_Tile).S))), (15, ⟨g26, 3, none⟩, (iv ((rdD p0 x15 z_Tile).W)))] (fun fb => by kernel_rfl) rfl trivial rfl ?_
    obtain ⟨t33, ht34, hl23⟩ := bind_some hl23
    refine WL.call (some 20) 68 #[(.map (some g3)), (iv ((rdD p0 x15 z_Tile).N))] (fun fb => by kernel_rfl) (census_names_of_calls l10 ((rdD p0 x15 z_Tile).N) g3 t33 _ (hS32.io [1] (by decide)) ht34) (fun v w35 hR36 => ?_)
    obtain ⟨rfl, hk_⟩ := hR36
    have hS37 := hS.go w35 [blk g3 (mapObj (vI .i64) (vI .i64) t33.2), blk g26 (.cells #[(iv ((rdD p0 x15 z_Tile).N)), (iv ((rdD p0 x15 z_Tile).E)), (iv ((rdD p0 x15 z_Tile).S)), (iv ((rdD p0 x15 z_Tile).W))] 48 (0, 0)), blk g6 (mapObj (vI .i64) (vI .i64) l11), rowO 48 enc_Tile A12 c13 l14] (hS32.call hk_ [1] [0, 2, 3] (fun g hg => fpL_sel g hg) (by decide) (by decide))
    refine ⟨⟨hS37.cell 1 rfl 1 rfl, hS37.cell 1 rfl 2 rfl, hS37.cell 1 rfl 3 rfl, trivial⟩, ?_⟩
    obtain ⟨t38, ht39, hl23⟩ := bind_some hl23
    refine WL.call (some 24) 68 #[(.map (some g6)), (iv ((rdD p0 x15 z_Tile).E))] (fun fb => by kernel_rfl) (census_names_of_calls l11 ((rdD p0 x15 z_Tile).E) g6 t38 _ (hS37.io [2] (by decide)) ht39) (fun v w40 hR41 => ?_)
    obtain ⟨rfl, hk_⟩ := hR41
    have hS42 := hS37.go w40 [blk g6 (mapObj (vI .i64) (vI .i64) t38.2), blk g3 (mapObj (vI .i64) (vI .i64) t33.2), blk g26 (.cells #[(iv ((rdD p0 x15 z_Tile).N)), (iv ((rdD p0 x15 z_Tile).E)), (iv ((rdD p0 x15 z_Tile).S)), (iv ((rdD p0 x15 z_Tile).W))] 48 (0, 0)), rowO 48 enc_Tile A12 c13 l14] (hS37.call hk_ [2] [0, 1, 3] (fun g hg => fpL_sel g hg) (by decide) (by decide))
    refine ⟨⟨hS42.cell 2 rfl 2 rfl, hS42.cell 2 rfl 3 rfl, trivial⟩, ?_⟩
    obtain ⟨t43, ht44, hl23⟩ := bind_some hl23
    refine WL.call (some 28) 68 #[(.map (some g3)), (iv ((rdD p0 x15 z_Tile).S))] (fun fb => by kernel_rfl) (census_names_of_calls t33.2 ((rdD p0 x15 z_Tile).S) g3 t43 _ (hS42.io [1] (by decide)) ht44) (fun v w45 hR46 => ?_)
    obtain ⟨rfl, hk_⟩ := hR46
    have hS47 := hS42.go w45 [blk g3 (mapObj (vI .i64) (vI .i64) t43.2), blk g6 (mapObj (vI .i64) (vI .i64) t38.2), blk g26 (.cells #[(iv ((rdD p0 x15 z_Tile).N)), (iv ((rdD p0 x15 z_Tile).E)), (iv ((rdD p0 x15 z_Tile).S)), (iv ((rdD p0 x15 z_Tile).W))] 48 (0, 0)), rowO 48 enc_Tile A12 c13 l14] (hS42.call hk_ [1] [0, 2, 3] (fun g hg => fpL_sel g hg) (by decide) (by decide))
    refine ⟨⟨hS47.cell 2 rfl 3 rfl, trivial⟩, ?_⟩
    obtain ⟨t49, ht50, hl23⟩ := bind_some hl23
    refine WL.call (some 32) 68 #[(.map (some g6)), (iv ((rdD p0 x15 z_Tile).W))] (fun fb => by kernel_rfl) (census_names_of_calls t38.2 ((rdD p0 x15 z_Tile).W) g6 t49 _ (hS47.io [1] (by decide)) ht50) (fun v w51 hR52 => ?_)
    obtain ⟨rfl, hk_⟩ := hR52
    have hS53 := hS47.go w51 [blk g6 (mapObj (vI .i64) (vI .i64) t49.2), blk g3 (mapObj (vI .i64) (vI .i64) t43.2), blk g26 (.cells #[(iv ((rdD p0 x15 z_Tile).N)), (iv ((rdD p0 x15 z_Tile).E)), (iv ((rdD p0 x15 z_Tile).S)), (iv ((rdD p0 x15 z_Tile).W))] 48 (0, 0)), rowO 48 enc_Tile A12 c13 l14] (hS47.call hk_ [1] [0, 2, 3] (fun g hg => fpL_sel g hg) (by decide) (by decide))
    refine ⟨trivial, ?_⟩
    refine sg 18 [] [3, 4, 10, 11, 12, 16, 33] [(3, (.map (some g3))), (4, (.map (some g6))), (10, (sv Aa p0 ca)), (11, (iv (p0.length : Int))), (12, (iv x15)), (16, (sv A12 l14 c13)), (33, (.agg #[(iv t33.1), (iv t38.1), (iv t43.1), (iv t49.1)]))] (by kernel_rfl) ?_
    refine WL.new hS53 34 [] (fun g => (.slice (some ⟨g, 0, none⟩) 1 1)) (.cells #[(iv t33.1), (iv t38.1), (iv t43.1), (iv t49.1)] 48 (0, 0)) [] (fun fb g => by kernel_rfl) trivial (fun g54 w55 hS56 => ?_)
    refine ⟨trivial, ?_⟩
    have hS57 := hS53.go w55 [rowO 48 enc_Tile (some ⟨g54, 0, none⟩) 1 [(Tile.mk t33.1 t38.1 t43.1 t49.1)], blk g6 (mapObj (vI .i64) (vI .i64) t49.2), blk g3 (mapObj (vI .i64) (vI .i64) t43.2), blk g26 (.cells #[(iv ((rdD p0 x15 z_Tile).N)), (iv ((rdD p0 x15 z_Tile).E)), (iv ((rdD p0 x15 z_Tile).S)), (iv ((rdD p0 x15 z_Tile).W))] 48 (0, 0)), rowO 48 enc_Tile A12 c13 l14] (hS56.map1 0 _ (fun h => rowO.ofBlk h rfl (Nat.le_of_ble_eq_true (by kernel_rfl))) (fun _ h => by obtain ⟨_, h1, h2⟩ := h; injection h1 with h1; subst h1; exact h2) [1, 2, 3, 4] (by decide) (by decide))
    obtain ⟨h58, hl23⟩ := as_some hl23
    refine WL.append hS57 4 (d := 35) (tS := 28) (z := (.agg #[(iv 0), (iv 0), (iv 0), (iv 0)])) (bytes := 32) (c2 := 1) rfl (fun fb => by kernel_rfl) (rowO.rd (hS57.own 0).1) (by kernel_rfl) (by kernel_rfl) rfl (by decide) h58 (by decide) [0, 1, 2, 3] (by decide) (by decide) (fun A59 c60 w61 hS62 => ?_)
    refine ⟨trivial, ?_⟩
    refine sg 21 [] [3, 4, 5, 10, 11, 12] [(3, (.map (some g3))), (4, (.map (some g6))), (5, (sv A59 (l14 ++ [(Tile.mk t33.1 t38.1 t43.1 t49.1)]) c60)), (10, (sv Aa p0 ca)), (11, (iv (p0.length : Int))), (12, (iv x15))] (by kernel_rfl) ?_
    refine WL.done rfl ?_
    refine WX.blockN (WX.next ?_)
    refine WC.region ?_
    refine sg 2 [] [3, 4, 5, 10, 11, 12] [(3, (.map (some g3))), (4, (.map (some g6))), (5, (sv A59 (l14 ++ [(Tile.mk t33.1 t38.1 t43.1 t49.1)]) c60)), (10, (sv Aa p0 ca)), (11, (iv (p0.length : Int))), (12, (iv (w64 (x15 + 1))))] (by kernel_rfl) ?_
    refine WL.done rfl ?_
    exact WX.again k20 (Nat.lt_succ_self _) ((t43.2, t49.2, l14 ++ [(Tile.mk t33.1 t38.1 t43.1 t49.1)], w64 (x15 + 1)), A59, c60) [3, 4, 5, 10, 11, 12] rfl ⟨(hS62.subR [0]).sub [3, 2, 0] (by decide), hl23⟩
   refine WC.condF2 (fun fb => by kernel_rfl) h24 ?_
   refine WC.exit ?_
   injection hl23 with hl23
   exact WX.thenX (WX.thenX (WX.blockHere (WX.to Kx18 (l14, A12, c13) [5] rfl ⟨(hS22.subR [0]).sub [2] (by decide), hl23.symm⟩)))
 rintro ⟨y67, A16, c17⟩ w63 ⟨hS65, hq66⟩
 subst hq66
 refine WX.next (WC.seq (WC.region ?_))
 refine sg 2 [] [2] [(2, (sv A16 x18 c17))] (by kernel_rfl) ?_
 refine WL.done rfl (WX.next ?_)
 refine WC.ret ?_
 injection hf with hf
 subst hf
 exact WX.ret_ [] (sv A16 x18 c17) [] (fun fb => by kernel_rfl) trivial ⟨_, rfl, A16, c17, rfl, (hS65.sub [0] (by decide)).noR⟩
theorem census_numbers_calls (k : Nat) (p0 : List Tile) (Aa : Option Addr) (ca : Nat) (r : (List Int)) (w : World) (hR0 : RO NoS w (rowR enc_Tile Aa ca p0)) (hf : census_numbers k p0 = some r) :
  CallsR Try.prog 56 #[(sv Aa p0 ca)] w (fun v w' => ∃ (A1_ : Option Addr), ∃ (c1_ : Nat), v = (sv A1_ r c1_) ∧ St NoS w w' [] [rowO 3 encInt A1_ c1_ r]) := by
 have hS : St NoS w w [rowR enc_Tile Aa ca p0] [] := St.init (ro_cons hR0 (ro_nil _ _))
 refine enter 25 Try.func56 rfl Try.ntmps56 rfl ?_
 unfold census_numbers at hf
 refine WC.seq (WC.region ?_)
 refine sg 1 [] [0] [(0, (sv Aa p0 ca))] (by kernel_rfl) ?_
 refine WL.done rfl (WX.next (WC.seq (WC.region ?_)))
 refine sg 1 [] [0, 3] [(0, (sv Aa p0 ca)), (3, (.slice none 0 0))] (by kernel_rfl) ?_
 refine WL.done rfl (WX.next (WC.seq (WC.seq (WC.region ?_))))
 refine sg 3 [] [3, 6, 7, 8] [(3, (.slice none 0 0)), (6, (sv Aa p0 ca)), (7, (iv (p0.length : Int))), (8, (iv 0))] (by kernel_rfl) ?_
 refine WL.done rfl (WX.next ?_)
 have hS3 := hS.nilrow 3 encInt
 obtain ⟨x10, hx11, hf⟩ := bind_some hf
 refine WC.cutN (T := (List Int) × (Option Addr) × Nat) (fun t => [(3, (sv t.2.1 t.1 t.2.2))]) (fun t w1 => St NoS w w1 [rowR enc_Tile Aa ca p0] [rowO 3 encInt t.2.1 t.2.2 t.1] ∧ x10 = t.1) (fun Kx10 => ?_) ?_
 ·
  refine WC.block ?_
  refine WC.loop (T := ((List Int) × Int) × (Option Addr) × Nat) (fun t => [(3, (sv t.2.1 t.1.1 t.2.2)), (6, (sv Aa p0 ca)), (7, (iv (p0.length : Int))), (8, (iv t.1.2))]) (fun n t w1 => St NoS w w1 [rowR enc_Tile Aa ca p0] [rowO 3 encInt t.2.1 t.2.2 t.1.1] ∧ census_numbers.l0 n t.1.1 t.1.2 p0 = some x10) k ((([] : List Int), 0), none, 0) [3, 6, 7, 8] rfl ⟨(hS3.subR [0]).sub [0] (by decide), hx11⟩ ?_
  rintro k12 ⟨⟨l6, x7⟩, A4, c5⟩ w13 ⟨hS14, hl15⟩
  cases k12 with
  | zero => rw [census_numbers.l0] at hl15; cases hl15
  | succ k12 =>
   rw [census_numbers.l0] at hl15
   refine WC.seq (WC.region ?_)
   refine sg 1 [] [3, 6, 7, 8, 9] [(3, (sv A4 l6 c5)), (6, (sv Aa p0 ca)), (7, (iv (p0.length : Int))), (8, (iv x7)), (9, (bv (decide (x7 < (p0.length : Int)))))] (by kernel_rfl) ?_
   refine WL.done rfl (WX.next (WC.seq ?_))
   rcases br_some hl15 with ⟨h16, hl15⟩ | ⟨h16, hl15⟩
   ·refine WC.condT2 (fun fb => by kernel_rfl) h16 ?_
    refine WC.skip (WX.next (WC.seq (WC.block (WC.seq (WC.region ?_)))))
    obtain ⟨h17, hl15⟩ := as_some hl15
    refine seg 2 [.v (iv ((rdD p0 x7 z_Tile).N)), .v (iv ((rdD p0 x7 z_Tile).E)), .v (iv ((rdD p0 x7 z_Tile).S)), .v (iv ((rdD p0 x7 z_Tile).W))] [3, 6, 7, 8, 11] [(3, (sv A4 l6 c5)), (6, (sv Aa p0 ca)), (7, (iv (p0.length : Int))), (8, (iv x7)), (11, (.agg #[(iv ((rdD p0 x7 z_Tile).N)), (iv ((rdD p0 x7 z_Tile).E)), (iv ((rdD p0 x7 z_Tile).S)), (iv ((rdD p0 x7 z_Tile).W))]))] [.idx Aa x7 p0.length, .cell ((adr Aa).add ((x7).toNat * 4)) (iv ((rdD p0 x7 z_Tile).N)), .cell (((adr Aa).add ((x7).toNat * 4)).add 1) (iv ((rdD p0 x7 z_Tile).E)), .cell (((adr Aa).add ((x7).toNat * 4)).add 2) (iv ((rdD p0 x7 z_Tile).S)), .cell (((adr Aa).add ((x7).toNat * 4)).add 3) (iv ((rdD p0 x7 z_Tile).W))] (fun fb => by kernel_rfl) rfl ⟨rowR.adr (hS14.rd 0).1 h17.1 h17.2, rowR.cell (hS14.rd 0).1 z_Tile h17.1 h17.2 0 rfl, rowR.cell (hS14.rd 0).1 z_Tile h17.1 h17.2 1 rfl, rowR.cell (hS14.rd 0).1 z_Tile h17.1 h17.2 2 rfl, rowR.cell (hS14.rd 0).1 z_Tile h17.1 h17.2 3 rfl, trivial⟩ ?_
    refine WL.new hS14 5 [] (fun g => (pt g)) (.cells #[(iv 0), (iv 0), (iv 0), (iv 0)] 48 (0, 0)) [] (fun fb g => by kernel_rfl) trivial (fun g18 w19 hS20 => ?_)
    refine ⟨trivial, ?_⟩
    refine WL.store hS20 0 rfl [(0, (iv ((rdD p0 x7 z_Tile).N))), (1, (iv ((rdD p0 x7 z_Tile).E))), (2, (iv ((rdD p0 x7 z_Tile).S))), (3, (iv ((rdD p0 x7 z_Tile).W)))] #[(iv ((rdD p0 x7 z_Tile).N)), (iv ((rdD p0 x7 z_Tile).E)), (iv ((rdD p0 x7 z_Tile).S)), (iv ((rdD p0 x7 z_Tile).W))] (fun fb => by kernel_rfl) (by kernel_rfl) rfl [1] (by decide) (by decide) (fun w21 hS22 => ?_)
    refine ⟨trivial, ?_⟩
    refine WL.done rfl (WX.next (WC.region ?_))
    refine seg 9 [.v (iv ((rdD p0 x7 z_Tile).N)), .v (iv ((rdD p0 x7 z_Tile).E)), .v (iv ((rdD p0 x7 z_Tile).S)), .v (iv ((rdD p0 x7 z_Tile).W))] [6, 7, 8, 12, 14, 16, 18, 20] [(6, (sv Aa p0 ca)), (7, (iv (p0.length : Int))), (8, (iv x7)), (12, (sv A4 l6 c5)), (14, (iv ((rdD p0 x7 z_Tile).N))), (16, (iv ((rdD p0 x7 z_Tile).E))), (18, (iv ((rdD p0 x7 z_Tile).S))), (20, (iv ((rdD p0 x7 z_Tile).W)))] [.cell ⟨g18, 0, none⟩ (iv ((rdD p0 x7 z_Tile).N)), .cell ⟨g18, 1, none⟩ (iv ((rdD p0 x7 z_Tile).E)), .cell ⟨g18, 2, none⟩ (iv ((rdD p0 x7 z_Tile).S)), .cell ⟨g18, 3, none⟩ (iv ((rdD p0 x7 z_Tile).W))] (fun fb => by kernel_rfl) rfl ⟨hS22.cell 0 rfl 0 rfl, hS22.cell 0 rfl 1 rfl, hS22.cell 0 rfl 2 rfl, hS22.cell 0 rfl 3 rfl, trivial⟩ ?_
    refine WL.new hS22 21 [] (fun g => (.slice (some ⟨g, 0, none⟩) 4 4)) (.cells #[(iv ((rdD p0 x7 z_Tile).N)), (iv ((rdD p0 x7 z_Tile).E)), (iv ((rdD p0 x7 z_Tile).S)), (iv ((rdD p0 x7 z_Tile).W))] 3 (0, 0)) [] (fun fb g => by kernel_rfl) trivial (fun g23 w24 hS25 => ?_)
    refine ⟨trivial, ?_⟩
    have hS26 := hS.go w24 [rowO 3 encInt (some ⟨g23, 0, none⟩) 4 [(rdD p0 x7 z_Tile).N, (rdD p0 x7 z_Tile).E, (rdD p0 x7 z_Tile).S, (rdD p0 x7 z_Tile).W], blk g18 (.cells #[(iv ((rdD p0 x7 z_Tile).N)), (iv ((rdD p0 x7 z_Tile).E)), (iv ((rdD p0 x7 z_Tile).S)), (iv ((rdD p0 x7 z_Tile).W))] 48 (0, 0)), rowO 3 encInt A4 c5 l6] (hS25.map1 0 _ (fun h => rowO.ofBlk h rfl (Nat.le_of_ble_eq_true (by kernel_rfl))) (fun _ h => by obtain ⟨_, h1, h2⟩ := h; injection h1 with h1; subst h1; exact h2) [1, 2] (by decide) (by decide))
    obtain ⟨h27, hl15⟩ := as_some hl15
    refine WL.append hS26 2 (d := 22) (tS := 37) (z := (iv 0)) (bytes := 8) (c2 := 4) rfl (fun fb => by kernel_rfl) (rowO.rd (hS26.own 0).1) (by kernel_rfl) (by kernel_rfl) rfl (by decide) h27 (by decide) [0, 1] (by decide) (by decide) (fun A28 c29 w30 hS31 => ?_)
    refine ⟨trivial, ?_⟩
    refine sg 12 [] [3, 6, 7, 8] [(3, (sv A28 (l6 ++ [(rdD p0 x7 z_Tile).N, (rdD p0 x7 z_Tile).E, (rdD p0 x7 z_Tile).S, (rdD p0 x7 z_Tile).W]) c29)), (6, (sv Aa p0 ca)), (7, (iv (p0.length : Int))), (8, (iv x7))] (by kernel_rfl) ?_
    refine WL.done rfl ?_
    refine WX.blockN (WX.next ?_)
    refine WC.region ?_
    refine sg 2 [] [3, 6, 7, 8] [(3, (sv A28 (l6 ++ [(rdD p0 x7 z_Tile).N, (rdD p0 x7 z_Tile).E, (rdD p0 x7 z_Tile).S, (rdD p0 x7 z_Tile).W]) c29)), (6, (sv Aa p0 ca)), (7, (iv (p0.length : Int))), (8, (iv (w64 (x7 + 1))))] (by kernel_rfl) ?_
    refine WL.done rfl ?_
    exact WX.again k12 (Nat.lt_succ_self _) ((l6 ++ [(rdD p0 x7 z_Tile).N, (rdD p0 x7 z_Tile).E, (rdD p0 x7 z_Tile).S, (rdD p0 x7 z_Tile).W], w64 (x7 + 1)), A28, c29) [3, 6, 7, 8] rfl ⟨(hS31.subR [0]).sub [0] (by decide), hl15⟩
   refine WC.condF2 (fun fb => by kernel_rfl) h16 ?_
   refine WC.exit ?_
   injection hl15 with hl15
   exact WX.thenX (WX.thenX (WX.blockHere (WX.to Kx10 (l6, A4, c5) [3] rfl ⟨(hS14.subR [0]).sub [0] (by decide), hl15.symm⟩)))
 rintro ⟨y35, A8, c9⟩ w32 ⟨hS33, hq34⟩
 subst hq34
 refine WX.next (WC.seq (WC.region ?_))
 refine sg 2 [] [2] [(2, (sv A8 x10 c9))] (by kernel_rfl) ?_
 refine WL.done rfl (WX.next ?_)
 refine WC.ret ?_
 injection hf with hf
 subst hf
 exact WX.ret_ [] (sv A8 x10 c9) [] (fun fb => by kernel_rfl) trivial ⟨_, rfl, A8, c9, rfl, (hS33.sub [0] (by decide)).noR⟩
theorem cmp_isNaN_int_calls (p0 : Int)  (r : Bool) (w : World)  (hf : cmp_isNaN_int p0 = some r) :
  CallsR Try.prog 87 #[(iv p0)] w (fun v w' => v = (bv r) ∧ Keeps NoS w w') := by
 have hS : St NoS w w [] [] := St.init (ro_nil _ _)
 refine enter 6 Try.func87 rfl Try.ntmps87 rfl ?_
 unfold cmp_isNaN_int at hf
 refine WC.seq (WC.region ?_)
 refine sg 1 [] [0] [(0, (iv p0))] (by kernel_rfl) ?_
 refine WL.done rfl (WX.next (WC.seq (WC.region ?_)))
 refine sg 4 [] [2] [(2, (bv (p0 != p0)))] (by kernel_rfl) ?_
 refine WL.done rfl (WX.next ?_)
 refine WC.ret ?_
 injection hf with hf
 subst hf
 exact WX.ret_ [] (bv (p0 != p0)) [] (fun fb => by kernel_rfl) trivial ⟨_, rfl, rfl, hS.keep⟩
theorem cmp_Compare_int_calls (p0 : Int) (p1 : Int)  (r : Int) (w : World)  (hf : cmp_Compare_int p0 p1 = some r) :
  CallsR Try.prog 72 #[(iv p0), (iv p1)] w (fun v w' => v = (iv r) ∧ Keeps NoS w w') := by
 have hS : St NoS w w [] [] := St.init (ro_nil _ _)
 refine enter 20 Try.func72 rfl Try.ntmps72 rfl ?_
 unfold cmp_Compare_int at hf
 refine WC.seq (WC.region ?_)
 refine sg 1 [] [0, 1] [(0, (iv p0)), (1, (iv p1))] (by kernel_rfl) ?_
 refine WL.done rfl (WX.next (WC.seq (WC.region ?_)))
 refine sg 1 [] [0, 1, 7] [(0, (iv p0)), (1, (iv p1)), (7, (iv p0))] (by kernel_rfl) ?_
 obtain ⟨t3, ht4, hf⟩ := bind_some hf
 refine WL.call (some 8) 87 #[(iv p0)] (fun fb => by kernel_rfl) (cmp_isNaN_int_calls p0 t3 _ ht4) (fun v w5 hR6 => ?_)
 obtain ⟨rfl, hk_⟩ := hR6
 have hS7 := hS.keepN hk_
 refine ⟨trivial, ?_⟩
 refine sg 3 [] [0, 1, 5] [(0, (iv p0)), (1, (iv p1)), (5, (bv t3))] (by kernel_rfl) ?_
 refine WL.done rfl (WX.next (WC.seq (WC.region ?_)))
 refine sg 1 [] [0, 1, 5, 9] [(0, (iv p0)), (1, (iv p1)), (5, (bv t3)), (9, (iv p1))] (by kernel_rfl) ?_
 obtain ⟨t8, ht9, hf⟩ := bind_some hf
 refine WL.call (some 10) 87 #[(iv p1)] (fun fb => by kernel_rfl) (cmp_isNaN_int_calls p1 t8 _ ht9) (fun v w10 hR11 => ?_)
 obtain ⟨rfl, hk_⟩ := hR11
 have hS12 := hS7.keepN hk_
 refine ⟨trivial, ?_⟩
 refine sg 3 [] [0, 1, 5, 6] [(0, (iv p0)), (1, (iv p1)), (5, (bv t3)), (6, (bv t8))] (by kernel_rfl) ?_
 refine WL.done rfl (WX.next (WC.seq (WC.seq (WC.region ?_))))
 refine sg 1 [] [0, 1, 6, 11] [(0, (iv p0)), (1, (iv p1)), (6, (bv t8)), (11, (bv t3))] (by kernel_rfl) ?_
 refine WL.done rfl (WX.next ?_)
 rcases br_some hf with ⟨h13, hf⟩ | ⟨h13, hf⟩
 ·refine WC.condT2 (fun fb => by kernel_rfl) h13 ?_
  refine WC.seq (WC.seq (WC.region ?_))
  refine sg 1 [] [12] [(12, (bv t8))] (by kernel_rfl) ?_
  refine WL.done rfl (WX.next ?_)
  rcases br_some hf with ⟨h14, hf⟩ | ⟨h14, hf⟩
  ·refine WC.condT2 (fun fb => by kernel_rfl) h14 ?_
   refine WC.seq (WC.region ?_)
   refine sg 1 [] [4] [(4, (iv 0))] (by kernel_rfl) ?_
   refine WL.done rfl (WX.next ?_)
   refine WC.ret ?_
   injection hf with hf
   subst hf
   exact WX.thenR (WX.thenR (WX.ret_ [] (iv 0) [] (fun fb => by kernel_rfl) trivial ⟨_, rfl, rfl, hS12.keep⟩))
  refine WC.condF2 (fun fb => by kernel_rfl) h14 ?_
  refine WC.skip (WX.next (WC.seq (WC.region ?_)))
  refine sg 1 [] [4] [(4, (iv (-1)))] (by kernel_rfl) ?_
  refine WL.done rfl (WX.next ?_)
  refine WC.ret ?_
  injection hf with hf
  subst hf
  exact WX.thenR (WX.ret_ [] (iv (-1)) [] (fun fb => by kernel_rfl) trivial ⟨_, rfl, rfl, hS12.keep⟩)
 refine WC.condF2 (fun fb => by kernel_rfl) h13 ?_
 refine WC.skip (WX.next (WC.seq (WC.seq (WC.region ?_))))
 refine sg 1 [] [0, 1, 13] [(0, (iv p0)), (1, (iv p1)), (13, (bv t8))] (by kernel_rfl) ?_
 refine WL.done rfl (WX.next ?_)
 rcases br_some hf with ⟨h15, hf⟩ | ⟨h15, hf⟩
 ·refine WC.condT2 (fun fb => by kernel_rfl) h15 ?_
  refine WC.seq (WC.region ?_)
  refine sg 1 [] [4] [(4, (iv 1))] (by kernel_rfl) ?_
  refine WL.done rfl (WX.next ?_)
  refine WC.ret ?_
  injection hf with hf
  subst hf
  exact WX.thenR (WX.ret_ [] (iv 1) [] (fun fb => by kernel_rfl) trivial ⟨_, rfl, rfl, hS12.keep⟩)
 refine WC.condF2 (fun fb => by kernel_rfl) h15 ?_
 refine WC.skip (WX.next (WC.seq (WC.seq (WC.region ?_))))
 refine sg 3 [] [0, 1, 16] [(0, (iv p0)), (1, (iv p1)), (16, (bv (decide (p0 < p1))))] (by kernel_rfl) ?_
 refine WL.done rfl (WX.next ?_)
 rcases br_some hf with ⟨h16, hf⟩ | ⟨h16, hf⟩
 ·refine WC.condT2 (fun fb => by kernel_rfl) h16 ?_
  refine WC.seq (WC.region ?_)
  refine sg 1 [] [4] [(4, (iv (-1)))] (by kernel_rfl) ?_
  refine WL.done rfl (WX.next ?_)
  refine WC.ret ?_
  injection hf with hf
  subst hf
  exact WX.thenR (WX.ret_ [] (iv (-1)) [] (fun fb => by kernel_rfl) trivial ⟨_, rfl, rfl, hS12.keep⟩)
 refine WC.condF2 (fun fb => by kernel_rfl) h16 ?_
 refine WC.skip (WX.next (WC.seq (WC.seq (WC.region ?_))))
 refine sg 3 [] [19] [(19, (bv (decide (p0 > p1))))] (by kernel_rfl) ?_
 refine WL.done rfl (WX.next ?_)
 rcases br_some hf with ⟨h17, hf⟩ | ⟨h17, hf⟩
 ·refine WC.condT2 (fun fb => by kernel_rfl) h17 ?_
  refine WC.seq (WC.region ?_)
  refine sg 1 [] [4] [(4, (iv 1))] (by kernel_rfl) ?_
  refine WL.done rfl (WX.next ?_)
  refine WC.ret ?_
  injection hf with hf
  subst hf
  exact WX.thenR (WX.ret_ [] (iv 1) [] (fun fb => by kernel_rfl) trivial ⟨_, rfl, rfl, hS12.keep⟩)
 refine WC.condF2 (fun fb => by kernel_rfl) h17 ?_
 refine WC.skip (WX.next (WC.seq (WC.region ?_)))
 refine sg 1 [] [4] [(4, (iv 0))] (by kernel_rfl) ?_
 refine WL.done rfl (WX.next ?_)
 refine WC.ret ?_
 injection hf with hf
 subst hf
 exact WX.ret_ [] (iv 0) [] (fun fb => by kernel_rfl) trivial ⟨_, rfl, rfl, hS12.keep⟩
theorem slices_Compare_int_int_calls (k : Nat) (p0 : List Int) (p1 : List Int) (Aa : Option Addr) (ca : Nat) (Ab : Option Addr) (cb : Nat) (r : Int) (w : World) (hR0 : RO NoS w (rowR encInt Aa ca p0)) (hR1 : RO NoS w (rowR encInt Ab cb p1)) (hf : slices_Compare_int_int k p0 p1 = some r) :
  CallsR Try.prog 55 #[(sv Aa p0 ca), (sv Ab p1 cb)] w (fun v w' => v = (iv r) ∧ Keeps NoS w w') := by
 have hS : St NoS w w [rowR encInt Aa ca p0, rowR encInt Ab cb p1] [] := St.init (ro_cons hR0 (ro_cons hR1 (ro_nil _ _)))
 refine enter 36 Try.func55 rfl Try.ntmps55 rfl ?_
 unfold slices_Compare_int_int at hf
 refine WC.seq (WC.region ?_)
 refine sg 1 [] [0, 1] [(0, (sv Aa p0 ca)), (1, (sv Ab p1 cb))] (by kernel_rfl) ?_
 refine WL.done rfl (WX.next (WC.seq (WC.seq (WC.region ?_))))
 refine sg 3 [] [0, 1, 9, 10, 11] [(0, (sv Aa p0 ca)), (1, (sv Ab p1 cb)), (9, (sv Aa p0 ca)), (10, (iv (p0.length : Int))), (11, (iv 0))] (by kernel_rfl) ?_
 refine WL.done rfl (WX.next ?_)
 obtain ⟨x4, hx5, hf⟩ := bind_some hf
 refine WC.cutN (T := Unit) (fun t => [(0, (sv Aa p0 ca)), (1, (sv Ab p1 cb))]) (fun t w1 => St NoS w w1 [rowR encInt Aa ca p0, rowR encInt Ab cb p1] [] ∧ x4 = .inr t) (fun Kx4 => ?_) ?_
 ·
  refine WC.block ?_
  refine WC.loop (T := Int) (fun t => [(0, (sv Aa p0 ca)), (1, (sv Ab p1 cb)), (9, (sv Aa p0 ca)), (10, (iv (p0.length : Int))), (11, (iv t))]) (fun n t w1 => St NoS w w1 [rowR encInt Aa ca p0, rowR encInt Ab cb p1] [] ∧ slices_Compare_int_int.l0 n t p0 p1 = some x4) k 0 [0, 1, 9, 10, 11] rfl ⟨(hS.subR [0, 1]).sub [] (by decide), hx5⟩ ?_
  rintro k6 x3 w7 ⟨hS8, hl9⟩
  cases k6 with
  | zero => rw [slices_Compare_int_int.l0] at hl9; cases hl9
  | succ k6 =>
   rw [slices_Compare_int_int.l0] at hl9
   refine WC.seq (WC.region ?_)
   refine sg 1 [] [0, 1, 9, 10, 11, 12] [(0, (sv Aa p0 ca)), (1, (sv Ab p1 cb)), (9, (sv Aa p0 ca)), (10, (iv (p0.length : Int))), (11, (iv x3)), (12, (bv (decide (x3 < (p0.length : Int)))))] (by kernel_rfl) ?_
   refine WL.done rfl (WX.next (WC.seq ?_))
   rcases br_some hl9 with ⟨h10, hl9⟩ | ⟨h10, hl9⟩
   ·refine WC.condT2 (fun fb => by kernel_rfl) h10 ?_
    refine WC.skip (WX.next (WC.seq (WC.block (WC.seq (WC.region ?_)))))
    refine sg 1 [] [0, 1, 9, 10, 11, 13] [(0, (sv Aa p0 ca)), (1, (sv Ab p1 cb)), (9, (sv Aa p0 ca)), (10, (iv (p0.length : Int))), (11, (iv x3)), (13, (iv x3))] (by kernel_rfl) ?_
    obtain ⟨h11, hl9⟩ := as_some hl9
    refine seg 5 [.v (iv (rdD p0 x3 0))] [0, 1, 5, 6, 9, 10, 11] [(0, (sv Aa p0 ca)), (1, (sv Ab p1 cb)), (5, (iv x3)), (6, (iv (rdD p0 x3 0))), (9, (sv Aa p0 ca)), (10, (iv (p0.length : Int))), (11, (iv x3))] [.idx Aa x3 p0.length, .cell ((adr Aa).add ((x3).toNat * 1)) (iv (rdD p0 x3 0))] (fun fb => by kernel_rfl) rfl ⟨rowR.adr (hS8.rd 0).1 h11.1 h11.2, rowR.cell (hS8.rd 0).1 0 h11.1 h11.2 0 rfl, trivial⟩ ?_
    refine WL.done rfl (WX.next (WC.seq (WC.seq (WC.region ?_))))
    refine sg 4 [] [0, 1, 5, 6, 9, 10, 11, 19] [(0, (sv Aa p0 ca)), (1, (sv Ab p1 cb)), (5, (iv x3)), (6, (iv (rdD p0 x3 0))), (9, (sv Aa p0 ca)), (10, (iv (p0.length : Int))), (11, (iv x3)), (19, (bv (decide (x3 ≥ (p1.length : Int)))))] (by kernel_rfl) ?_
    refine WL.done rfl (WX.next ?_)
    rcases br_some hl9 with ⟨h12, hl9⟩ | ⟨h12, hl9⟩
    ·refine WC.condT2 (fun fb => by kernel_rfl) h12 ?_
     refine WC.seq (WC.region ?_)
     refine sg 1 [] [4] [(4, (iv 1))] (by kernel_rfl) ?_
     refine WL.done rfl (WX.next ?_)
     refine WC.ret ?_
     injection hl9 with hl9
     subst hl9
     injection hf with hf
     subst hf
     exact WX.thenR (WX.blockR (WX.thenR (WX.thenR (WX.blockR (WX.thenR (WX.ret_ [] (iv 1) [] (fun fb => by kernel_rfl) trivial ⟨_, rfl, rfl, hS8.keep⟩))))))
    refine WC.condF2 (fun fb => by kernel_rfl) h12 ?_
    refine WC.skip (WX.next (WC.seq (WC.region ?_)))
    refine sg 2 [] [0, 1, 6, 9, 10, 11, 20, 21] [(0, (sv Aa p0 ca)), (1, (sv Ab p1 cb)), (6, (iv (rdD p0 x3 0))), (9, (sv Aa p0 ca)), (10, (iv (p0.length : Int))), (11, (iv x3)), (20, (sv Ab p1 cb)), (21, (iv x3))] (by kernel_rfl) ?_
    obtain ⟨h13, hl9⟩ := as_some hl9
    refine seg 5 [.v (iv (rdD p1 x3 0))] [0, 1, 6, 7, 9, 10, 11] [(0, (sv Aa p0 ca)), (1, (sv Ab p1 cb)), (6, (iv (rdD p0 x3 0))), (7, (iv (rdD p1 x3 0))), (9, (sv Aa p0 ca)), (10, (iv (p0.length : Int))), (11, (iv x3))] [.idx Ab x3 p1.length, .cell ((adr Ab).add ((x3).toNat * 1)) (iv (rdD p1 x3 0))] (fun fb => by kernel_rfl) rfl ⟨rowR.adr (hS8.rd 1).1 h13.1 h13.2, rowR.cell (hS8.rd 1).1 0 h13.1 h13.2 0 rfl, trivial⟩ ?_
    refine WL.done rfl (WX.next (WC.seq (WC.region ?_)))
    refine sg 2 [] [0, 1, 9, 10, 11, 24, 25] [(0, (sv Aa p0 ca)), (1, (sv Ab p1 cb)), (9, (sv Aa p0 ca)), (10, (iv (p0.length : Int))), (11, (iv x3)), (24, (iv (rdD p0 x3 0))), (25, (iv (rdD p1 x3 0)))] (by kernel_rfl) ?_
    obtain ⟨t14, ht15, hl9⟩ := bind_some hl9
    refine WL.call (some 26) 72 #[(iv (rdD p0 x3 0)), (iv (rdD p1 x3 0))] (fun fb => by kernel_rfl) (cmp_Compare_int_calls (rdD p0 x3 0) (rdD p1 x3 0) t14 _ ht15) (fun v w16 hR17 => ?_)
    obtain ⟨rfl, hk_⟩ := hR17
    have hS18 := hS8.keepN hk_
    refine ⟨trivial, ?_⟩
    refine sg 4 [] [0, 1, 8, 9, 10, 11] [(0, (sv Aa p0 ca)), (1, (sv Ab p1 cb)), (8, (iv t14)), (9, (sv Aa p0 ca)), (10, (iv (p0.length : Int))), (11, (iv x3))] (by kernel_rfl) ?_
    refine WL.done rfl (WX.next (WC.seq (WC.region ?_)))
    refine sg 2 [] [0, 1, 8, 9, 10, 11, 28] [(0, (sv Aa p0 ca)), (1, (sv Ab p1 cb)), (8, (iv t14)), (9, (sv Aa p0 ca)), (10, (iv (p0.length : Int))), (11, (iv x3)), (28, (bv (t14 != 0)))] (by kernel_rfl) ?_
    refine WL.done rfl (WX.next ?_)
    rcases br_some hl9 with ⟨h19, hl9⟩ | ⟨h19, hl9⟩
    ·refine WC.condT2 (fun fb => by kernel_rfl) h19 ?_
     refine WC.seq (WC.region ?_)
     refine sg 2 [] [4] [(4, (iv t14))] (by kernel_rfl) ?_
     refine WL.done rfl (WX.next ?_)
     refine WC.ret ?_
     injection hl9 with hl9
     subst hl9
     injection hf with hf
     subst hf
     exact WX.blockR (WX.thenR (WX.thenR (WX.blockR (WX.thenR (WX.ret_ [] (iv t14) [] (fun fb => by kernel_rfl) trivial ⟨_, rfl, rfl, hS18.keep⟩)))))
    refine WC.condF2 (fun fb => by kernel_rfl) h19 ?_
    refine WC.skip ?_
    refine WX.blockN (WX.next ?_)
    refine WC.region ?_
    refine sg 2 [] [0, 1, 9, 10, 11] [(0, (sv Aa p0 ca)), (1, (sv Ab p1 cb)), (9, (sv Aa p0 ca)), (10, (iv (p0.length : Int))), (11, (iv (w64 (x3 + 1))))] (by kernel_rfl) ?_
    refine WL.done rfl ?_
    exact WX.again k6 (Nat.lt_succ_self _) (w64 (x3 + 1)) [0, 1, 9, 10, 11] rfl ⟨(hS18.subR [0, 1]).sub [] (by decide), hl9⟩
   refine WC.condF2 (fun fb => by kernel_rfl) h10 ?_
   refine WC.exit ?_
   injection hl9 with hl9
   exact WX.thenX (WX.thenX (WX.blockHere (WX.to Kx4 () [0, 1] rfl ⟨(hS8.subR [0, 1]).sub [] (by decide), hl9.symm⟩)))
 rintro y23 w20 ⟨hS21, hq22⟩
 subst hq22
 have hf := sum_inr hf
 refine WX.next (WC.seq (WC.seq (WC.region ?_)))
 refine sg 5 [] [35] [(35, (bv (decide ((p0.length : Int) < (p1.length : Int)))))] (by kernel_rfl) ?_
 refine WL.done rfl (WX.next ?_)
 rcases br_some hf with ⟨h24, hf⟩ | ⟨h24, hf⟩
 ·refine WC.condT2 (fun fb => by kernel_rfl) h24 ?_
  refine WC.seq (WC.region ?_)
  refine sg 1 [] [4] [(4, (iv (-1)))] (by kernel_rfl) ?_
  refine WL.done rfl (WX.next ?_)
  refine WC.ret ?_
  injection hf with hf
  subst hf
  exact WX.thenR (WX.ret_ [] (iv (-1)) [] (fun fb => by kernel_rfl) trivial ⟨_, rfl, rfl, hS21.keep⟩)
 refine WC.condF2 (fun fb => by kernel_rfl) h24 ?_
 refine WC.skip (WX.next (WC.seq (WC.region ?_)))
 refine sg 1 [] [4] [(4, (iv 0))] (by kernel_rfl) ?_
 refine WL.done rfl (WX.next ?_)
 refine WC.ret ?_
 injection hf with hf
 subst hf
 exact WX.ret_ [] (iv 0) [] (fun fb => by kernel_rfl) trivial ⟨_, rfl, rfl, hS21.keep⟩
theorem census_before_calls (k : Nat) (p0 : List Tile) (p1 : List Tile) (Aa : Option Addr) (ca : Nat) (Ab : Option Addr) (cb : Nat) (r : Int) (w : World) (hR0 : RO NoS w (rowR enc_Tile Aa ca p0)) (hR1 : RO NoS w (rowR enc_Tile Ab cb p1)) (hf : census_before k p0 p1 = some r) :
  CallsR Try.prog 38 #[(sv Aa p0 ca), (sv Ab p1 cb)] w (fun v w' => v = (iv r) ∧ Keeps NoS w w') := by
 have hS : St NoS w w [rowR enc_Tile Aa ca p0, rowR enc_Tile Ab cb p1] [] := St.init (ro_cons hR0 (ro_cons hR1 (ro_nil _ _)))
 refine enter 10 Try.func38 rfl Try.ntmps38 rfl ?_
 unfold census_before at hf
 refine WC.seq (WC.region ?_)
 refine sg 1 [] [0, 1] [(0, (sv Aa p0 ca)), (1, (sv Ab p1 cb))] (by kernel_rfl) ?_
 refine WL.done rfl (WX.next (WC.seq (WC.region ?_)))
 refine sg 1 [] [1, 5] [(1, (sv Ab p1 cb)), (5, (sv Aa p0 ca))] (by kernel_rfl) ?_
 obtain ⟨t2, ht3, hf⟩ := bind_some hf
 refine WL.call (some 6) 56 #[(sv Aa p0 ca)] (fun fb => by kernel_rfl) (census_numbers_calls _ p0 Aa ca t2 _ (hS.rd 0) ht3) (fun v w4 hR5 => ?_)
 obtain ⟨A7, c8, rfl, hk_⟩ := hR5
 have hS6 := hS.go w4 [rowO 3 encInt A7 c8 t2] (hS.call hk_ [] [] (fun g hg => hg.elim) (by simp) (by decide))
 refine ⟨trivial, ?_⟩
 refine sg 3 [] [6, 7] [(6, (sv A7 t2 c8)), (7, (sv Ab p1 cb))] (by kernel_rfl) ?_
 obtain ⟨t9, ht10, hf⟩ := bind_some hf
 refine WL.call (some 8) 56 #[(sv Ab p1 cb)] (fun fb => by kernel_rfl) (census_numbers_calls _ p1 Ab cb t9 _ (hS6.rd 1) ht10) (fun v w11 hR12 => ?_)
 obtain ⟨A14, c15, rfl, hk_⟩ := hR12
 have hS13 := hS6.go w11 [rowO 3 encInt A14 c15 t9, rowO 3 encInt A7 c8 t2] (hS6.call hk_ [] [0] (fun g hg => hg.elim) (by simp) (by decide))
 refine ⟨trivial, ?_⟩
 obtain ⟨t16, ht17, hf⟩ := bind_some hf
 refine WL.call (some 9) 55 #[(sv A7 t2 c8), (sv A14 t9 c15)] (fun fb => by kernel_rfl) (slices_Compare_int_int_calls _ t2 t9 A7 c8 A14 c15 t16 _ (hS13.ow 1).ofO (hS13.ow 0).ofO ht17) (fun v w18 hR19 => ?_)
 obtain ⟨rfl, hk_⟩ := hR19
 have hS20 := hS13.keepN hk_
 refine ⟨trivial, ?_⟩
 refine sg 6 [] [4] [(4, (iv t16))] (by kernel_rfl) ?_
 refine WL.done rfl (WX.next ?_)
 refine WC.ret ?_
 injection hf with hf
 subst hf
 exact WX.ret_ [] (iv t16) [] (fun fb => by kernel_rfl) trivial ⟨_, rfl, rfl, hS20.keep⟩
theorem slices_Clone_api_Tile_api_Tile_nil_calls (p0 : List Tile) (ca : Nat) (r : (List Tile)) (w : World) (hR0 : RO NoS w (rowR enc_Tile none ca ([] : List Tile))) (hf : slices_Clone_api_Tile_api_Tile_nil p0 = some r) :
  CallsR Try.prog 66 #[(sv none ([] : List Tile) ca)] w (fun v w' => ∃ (A1_ : Option Addr), ∃ (c1_ : Nat), v = (sv A1_ r c1_) ∧ St NoS w w' [] [rowO 48 enc_Tile A1_ c1_ r]) := by
 have hS : St NoS w w [rowR enc_Tile none ca ([] : List Tile)] [] := St.init (ro_cons hR0 (ro_nil _ _))
 refine enter 8 Try.func66 rfl Try.ntmps66 rfl ?_
 unfold slices_Clone_api_Tile_api_Tile_nil at hf
 refine WC.seq (WC.region ?_)
 refine sg 1 [] [0] [(0, (sv none ([] : List Tile) ca))] (by kernel_rfl) ?_
 refine WL.done rfl (WX.next (WC.seq (WC.seq (WC.region ?_))))
 refine sg 2 [] [0, 4] [(0, (sv none ([] : List Tile) ca)), (4, (bv true))] (by kernel_rfl) ?_
 refine WL.done rfl (WX.next ?_)
 refine WC.condT (fun fb => by kernel_rfl) ?_
 refine WC.seq (WC.region ?_)
 refine sg 1 [] [2] [(2, (.slice none 0 0))] (by kernel_rfl) ?_
 refine WL.done rfl (WX.next ?_)
 refine WC.ret ?_
 have hS2 := hS.nilrow 48 enc_Tile
 injection hf with hf
 subst hf
 exact WX.thenR (WX.ret_ [] (sv none ([] : List Tile) 0) [] (fun fb => by kernel_rfl) trivial ⟨_, rfl, none, 0, rfl, (hS2.sub [0] (by decide)).noR⟩)
theorem slices_Clone_api_Tile_api_Tile_some_calls (p0 : List Tile) (aa : Addr) (ca : Nat) (r : (List Tile)) (w : World) (hR0 : RO NoS w (rowR enc_Tile (some aa) ca p0)) (hf : slices_Clone_api_Tile_api_Tile_some p0 = some r) :
  CallsR Try.prog 66 #[(sv (some aa) p0 ca)] w (fun v w' => ∃ (A1_ : Option Addr), ∃ (c1_ : Nat), v = (sv A1_ r c1_) ∧ St NoS w w' [] [rowO 48 enc_Tile A1_ c1_ r]) := by
 have hS : St NoS w w [rowR enc_Tile (some aa) ca p0] [] := St.init (ro_cons hR0 (ro_nil _ _))
 refine enter 8 Try.func66 rfl Try.ntmps66 rfl ?_
 unfold slices_Clone_api_Tile_api_Tile_some at hf
 refine WC.seq (WC.region ?_)
 refine sg 1 [] [0] [(0, (sv (some aa) p0 ca))] (by kernel_rfl) ?_
 refine WL.done rfl (WX.next (WC.seq (WC.seq (WC.region ?_))))
 refine sg 2 [] [0, 4] [(0, (sv (some aa) p0 ca)), (4, (bv false))] (by kernel_rfl) ?_
 refine WL.done rfl (WX.next ?_)
 refine WC.condF (fun fb => by kernel_rfl) ?_
 refine WC.skip (WX.next (WC.seq (WC.region ?_)))
 refine WL.new hS 5 [] (fun g => (.slice (some ⟨g, 0, none⟩) 0 0)) (.cells #[] 48 (0, 0)) [] (fun fb g => by kernel_rfl) trivial (fun g3 w4 hS5 => ?_)
 refine ⟨trivial, ?_⟩
 have hS6 := hS.go w4 [rowO 48 enc_Tile (some ⟨g3, 0, none⟩) 0 ([] : List Tile)] (hS5.map1 0 _ (fun h => rowO.ofBlk h rfl (Nat.le_of_ble_eq_true (by kernel_rfl))) (fun _ h => by obtain ⟨_, h1, h2⟩ := h; injection h1 with h1; subst h1; exact h2) [] (by decide) (by decide))
 refine sg 2 [] [5, 6] [(5, (sv (some ⟨g3, 0, none⟩) ([] : List Tile) 0)), (6, (sv (some aa) p0 ca))] (by kernel_rfl) ?_
 obtain ⟨h7, hf⟩ := as_some hf
 refine WL.append hS6 0 (d := 7) (tS := 28) (z := (.agg #[(iv 0), (iv 0), (iv 0), (iv 0)])) (bytes := 32) (c2 := ca) rfl (fun fb => by kernel_rfl) (hS6.rd 0).1 (by kernel_rfl) (by kernel_rfl) rfl (by decide) h7 (by decide) [] (by decide) (by decide) (fun A8 c9 w10 hS11 => ?_)
 refine ⟨trivial, ?_⟩
 refine sg 4 [] [2] [(2, (sv A8 (([] : List Tile) ++ p0) c9))] (by kernel_rfl) ?_
 refine WL.done rfl (WX.next ?_)
 refine WC.ret ?_
 injection hf with hf
 subst hf
 exact WX.ret_ [] (sv A8 (([] : List Tile) ++ p0) c9) [] (fun fb => by kernel_rfl) trivial ⟨_, rfl, A8, c9, rfl, (hS11.sub [0] (by decide)).noR⟩
theorem slices_Clone_api_Tile_api_Tile_calls (p0 : List Tile) (Aa : Option Addr) (ca : Nat) (r : List Tile) (w : World) (hR0 : RO NoS w (rowR enc_Tile Aa ca p0)) (hf : slices_Clone_api_Tile_api_Tile p0 = some r) :
  CallsR Try.prog 66 #[(sv Aa p0 ca)] w (fun v w' => ∃ (A1_ : Option Addr), ∃ (c1_ : Nat), v = (sv A1_ r c1_) ∧ St NoS w w' [] [rowO 48 enc_Tile A1_ c1_ r]) := by
 unfold slices_Clone_api_Tile_api_Tile at hf
 cases Aa with
 | none =>
  have h3 : p0 = [] := by
   cases p0 with
   | nil => rfl
   | cons x xs => exact absurd (hR0.1.1 0 x rfl).1 (by simp)
  subst h3
  rw [slices_Clone_api_Tile_api_Tile_some] at hf
  obtain ⟨h4, hf⟩ := as_some hf
  injection hf with hf; subst hf
  exact slices_Clone_api_Tile_api_Tile_nil_calls [] ca [] w hR0 rfl
 | some a => exact slices_Clone_api_Tile_api_Tile_some_calls p0 a ca r w hR0 hf
theorem census_orders_1_1_y_calls {σ τ : Type} : ∀ (k : Nat) (p0 : Int) (f0 : List Tile) (yf : (List Tile) → σ → Option (σ × Bool)) (sY : σ) (ga : Nat) (Aa : Option Addr) (ca : Nat) (gb : Nat) (gc : Nat) (yl : Nat) (Y : σ → τ → Own) (tY : τ) (Rd : Own) (r : Bool × (List Tile) × σ) (w : World) (hR0 : RO (fpL [blk ga (.cells #[(sv Aa f0 ca)] 28 (0, 0)), rowO 48 enc_Tile Aa ca f0, Y sY tY]) w (Rd)) (hR1 : RO (fpL [blk ga (.cells #[(sv Aa f0 ca)] 28 (0, 0)), rowO 48 enc_Tile Aa ca f0, Y sY tY]) w (blk gb (.cells #[(.func (.yield yl) #[] #[])] 29 (0, 0)))) (hR2 : RO (fpL [blk ga (.cells #[(sv Aa f0 ca)] 28 (0, 0)), rowO 48 enc_Tile Aa ca f0, Y sY tY]) w (blk gc (.cells #[(.func (.func 67) #[] #[(pt ga), (pt gb), (pt gc)])] 32 (0, 0)))) (hI : IoOK w [blk ga (.cells #[(sv Aa f0 ca)] 28 (0, 0)), rowO 48 enc_Tile Aa ca f0, Y sY tY]) (hY : ∀ (x0_ : List Tile) (A0_ : Option Addr) (c0_ : Nat) (s_ : σ) (t_ : τ) (r_ : σ × Bool) (w_ : World), RO (fpL [Y s_ t_]) w_ (rowR enc_Tile A0_ c0_ x0_) → RO (fpL [Y s_ t_]) w_ Rd → IoOK w_ [Y s_ t_] → yf x0_ s_ = some r_ → YieldR Try.prog (.func (.yield yl) #[] #[]) #[(sv A0_ x0_ c0_)] w_ (fun v_ w' => ∃ t1_, v_ = .bool r_.2 ∧ St (fpL [Y s_ t_]) w_ w' [] [Y r_.1 t1_])) (hf : census_orders_1_1_y k p0 f0 yf sY = some r),
  CallsR Try.prog 67 #[(iv p0), (pt ga), (pt gb), (pt gc)] w (fun v w' => ∃ (A1_ : Option Addr), ∃ (c1_ : Nat), ∃ (t1_ : τ), v = (bv r.1) ∧ St (fpL [blk ga (.cells #[(sv Aa f0 ca)] 28 (0, 0)), rowO 48 enc_Tile Aa ca f0, Y sY tY]) w w' [] [blk ga (.cells #[(sv A1_ r.2.1 c1_)] 28 (0, 0)), rowO 48 enc_Tile A1_ c1_ r.2.1, Y r.2.2 t1_]) := by
 intro k
 induction k with
 | zero => intro p0 f0 yf sY ga Aa ca gb gc yl Y tY Rd r w hR0 hR1 hR2 hI hY hf; rw [census_orders_1_1_y] at hf; cases hf
 | succ k ih_ =>
 intro p0 f0 yf sY ga Aa ca gb gc yl Y tY Rd r w hR0 hR1 hR2 hI hY hf
 have hS : St (fpL [blk ga (.cells #[(sv Aa f0 ca)] 28 (0, 0)), rowO 48 enc_Tile Aa ca f0, Y sY tY]) w w [Rd, blk gb (.cells #[(.func (.yield yl) #[] #[])] 29 (0, 0)), blk gc (.cells #[(.func (.func 67) #[] #[(pt ga), (pt gb), (pt gc)])] 32 (0, 0))] [blk ga (.cells #[(sv Aa f0 ca)] 28 (0, 0)), rowO 48 enc_Tile Aa ca f0, Y sY tY] := St.initIO (ro_cons hR0 (ro_cons hR1 (ro_cons hR2 (ro_nil _ _)))) hI
 rw [census_orders_1_1_y] at hf
 generalize census_orders_1_1_y k = rc_ at hf ih_
 refine enter 56 Try.func67 rfl Try.ntmps67 rfl ?_
 refine WC.seq (WC.region ?_)
 refine sg 1 [] [0, 1, 2, 3] [(0, (iv p0)), (1, (pt ga)), (2, (pt gb)), (3, (pt gc))] (by kernel_rfl) ?_
 refine WL.done rfl (WX.next (WC.seq (WC.seq (WC.region ?_))))
 refine seg 4 [.v (sv Aa f0 ca)] [0, 1, 2, 3, 11] [(0, (iv p0)), (1, (pt ga)), (2, (pt gb)), (3, (pt gc)), (11, (bv (p0 == (f0.length : Int))))] [.cell ⟨ga, 0, none⟩ (sv Aa f0 ca)] (fun fb => by kernel_rfl) rfl ⟨hS.cell 0 rfl 0 rfl, trivial⟩ ?_
 refine WL.done rfl (WX.next ?_)
 rcases br_some hf with ⟨h3, hf⟩ | ⟨h3, hf⟩
 ·refine WC.condT2 (fun fb => by kernel_rfl) h3 ?_
  refine WC.seq (WC.region ?_)
  refine seg 2 [.v (.func (.yield yl) #[] #[]), .v (sv Aa f0 ca)] [1, 12, 13] [(1, (pt ga)), (12, (.func (.yield yl) #[] #[])), (13, (sv Aa f0 ca))] [.cell ⟨gb, 0, none⟩ (.func (.yield yl) #[] #[]), .cell ⟨ga, 0, none⟩ (sv Aa f0 ca)] (fun fb => by kernel_rfl) rfl ⟨blk_cell (hS.rd 1).1 0 rfl, hS.cell 0 rfl 0 rfl, trivial⟩ ?_
  obtain ⟨t4, ht5, hf⟩ := bind_some hf
  refine WL.yield (some 14) (.func (.yield yl) #[] #[]) #[(sv Aa f0 ca)] (fun fb => by kernel_rfl) (hY f0 Aa ca sY tY t4 _ (hS.owT [2] 1 (by decide)).ofO (hS.rdT [2] 0) (hS.io [2] (by decide)) ht5) (fun v w6 hR7 => ?_)
  obtain ⟨tt9, rfl, hk_⟩ := hR7
  have hS8 := hS.go w6 [Y t4.1 tt9, blk ga (.cells #[(sv Aa f0 ca)] 28 (0, 0)), rowO 48 enc_Tile Aa ca f0] (hS.call hk_ [2] [0, 1] (fun g hg => fpL_sel g hg) (by decide) (by decide))
  refine ⟨trivial, ?_⟩
  refine sg 4 [] [1, 5] [(1, (pt ga)), (5, (bv t4.2))] (by kernel_rfl) ?_
  refine WL.done rfl (WX.next ?_)
  refine WC.ret ?_
  injection hf with hf
  subst hf
  exact WX.thenR (WX.ret_ [] (bv t4.2) [] (fun fb => by kernel_rfl) trivial ⟨_, rfl, Aa, ca, tt9, rfl, (hS8.sub [1, 2, 0] (by decide)).noR⟩)
 refine WC.condF2 (fun fb => by kernel_rfl) h3 ?_
 refine WC.skip (WX.next (WC.seq (WC.seq (WC.region ?_))))
 refine sg 2 [] [0, 1, 3, 6] [(0, (iv p0)), (1, (pt ga)), (3, (pt gc)), (6, (iv p0))] (by kernel_rfl) ?_
 refine WL.done rfl (WX.next ?_)
 obtain ⟨x19, hx20, hf⟩ := bind_some hf
 refine WC.cutN (T := ((List Tile) × σ) × (Option Addr) × Nat × τ) (fun t => [(1, (pt ga))]) (fun t w1 => St (fpL [blk ga (.cells #[(sv Aa f0 ca)] 28 (0, 0)), rowO 48 enc_Tile Aa ca f0, Y sY tY]) w w1 [Rd, blk gb (.cells #[(.func (.yield yl) #[] #[])] 29 (0, 0)), blk gc (.cells #[(.func (.func 67) #[] #[(pt ga), (pt gb), (pt gc)])] 32 (0, 0))] [blk ga (.cells #[(sv t.2.1 t.1.1 t.2.2.1)] 28 (0, 0)), rowO 48 enc_Tile t.2.1 t.2.2.1 t.1.1, Y t.1.2 t.2.2.2] ∧ x19 = .inr t.1) (fun Kx19 => ?_) ?_
 ·
  refine WC.block ?_
  refine WC.loop (T := ((List Tile) × Int × σ) × (Option Addr) × Nat × τ) (fun t => [(0, (iv p0)), (1, (pt ga)), (3, (pt gc)), (6, (iv t.1.2.1))]) (fun n t w1 => St (fpL [blk ga (.cells #[(sv Aa f0 ca)] 28 (0, 0)), rowO 48 enc_Tile Aa ca f0, Y sY tY]) w w1 [Rd, blk gb (.cells #[(.func (.yield yl) #[] #[])] 29 (0, 0)), blk gc (.cells #[(.func (.func 67) #[] #[(pt ga), (pt gb), (pt gc)])] 32 (0, 0))] [blk ga (.cells #[(sv t.2.1 t.1.1 t.2.2.1)] 28 (0, 0)), rowO 48 enc_Tile t.2.1 t.2.2.1 t.1.1, Y t.1.2.2 t.2.2.2] ∧ census_orders_1_1_y.l0 n t.1.1 t.1.2.1 t.1.2.2 p0 yf rc_ = some x19) k ((f0, p0, sY), Aa, ca, tY) [0, 1, 3, 6] rfl ⟨(hS.subR [0, 1, 2]).sub [0, 1, 2] (by decide), hx20⟩ ?_
  rintro k21 ⟨⟨l12, x13, s14⟩, A10, c11, tt15⟩ w22 ⟨hS23, hl24⟩
  cases k21 with
  | zero => rw [census_orders_1_1_y.l0] at hl24; cases hl24
  | succ k21 =>
   rw [census_orders_1_1_y.l0] at hl24
   refine WC.seq (WC.seq (WC.region ?_))
   refine seg 4 [.v (sv A10 l12 c11)] [0, 1, 3, 6, 19] [(0, (iv p0)), (1, (pt ga)), (3, (pt gc)), (6, (iv x13)), (19, (bv (decide (x13 < (l12.length : Int)))))] [.cell ⟨ga, 0, none⟩ (sv A10 l12 c11)] (fun fb => by kernel_rfl) rfl ⟨hS23.cell 0 rfl 0 rfl, trivial⟩ ?_
   refine WL.done rfl (WX.next ?_)
   rcases br_some hl24 with ⟨h25, hl24⟩ | ⟨h25, hl24⟩
   ·refine WC.condT2 (fun fb => by kernel_rfl) h25 ?_
    refine WC.skip (WX.next (WC.seq (WC.block (WC.seq ?_))))
    obtain ⟨h28, hl24⟩ := as_some hl24
    obtain ⟨h29, hl24⟩ := as_some hl24
    refine WC.regionD ([(0, ⟨ga, 0, none⟩, (sv A10 l12 c11)), (2, ⟨ga, 0, none⟩, (sv A10 l12 c11)), (4, ⟨ga, 0, none⟩, (sv A10 l12 c11)), (7, ((adr A10).add ((x13).toNat * 4)), (iv ((rdD l12 x13 z_Tile).N))), (7, (((adr A10).add ((x13).toNat * 4)).add 1), (iv ((rdD l12 x13 z_Tile).E))), (7, (((adr A10).add ((x13).toNat * 4)).add 2), (iv ((rdD l12 x13 z_Tile).S))), (7, (((adr A10).add ((x13).toNat * 4)).add 3), (iv ((rdD l12 x13 z_Tile).W))), (8, ⟨ga, 0, none⟩, (sv A10 l12 c11)), (11, ((adr A10).add ((p0).toNat * 4)), (iv ((rdD l12 p0 z_Tile).N))), (11, (((adr A10).add ((p0).toNat * 4)).add 1), (iv ((rdD l12 p0 z_Tile).E))), (11, (((adr A10).add ((p0).toNat * 4)).add 2), (iv ((rdD l12 p0 z_Tile).S))), (11, (((adr A10).add ((p0).toNat * 4)).add 3), (iv ((rdD l12 p0 z_Tile).W)))], [0, 1, 2, 3, 4, 5, 6, 7, 8, 9, 10, 11, 12, 14], [[], [], [], [], [], [], [4, 5], [4, 5, 6], [], [], [8, 9], [8, 9, 10], [0, 1, 4, 5, 6, 7, 8, 9, 10, 11], [0, 1, 4, 5, 6, 7, 8, 9, 10, 11, 12], [0, 1, 2, 3, 4, 5, 6, 7, 8, 9, 10, 11, 12, 13], [0, 1, 2, 3, 4, 5, 6, 7, 8, 9, 10, 11, 12, 13, 14]]) [[0, 1, 2, 3, 4, 5, 6, 7, 8, 9, 10, 11, 12, 13, 14, 15]] (by kernel_rfl) (by kernel_rfl) (NoPanic.seq (NoPanic.block (NoPanic.seq (NoPanic.seq (NoPanic.block (NoPanic.seq (NoPanic.body))))))) ?_
    have hS27 := hS23.drew
    revert hS27
    generalize World.drew w22 = w26
    intro hS27
    refine ⟨⟨hS27.cell 0 rfl 0 rfl, hS27.cell 0 rfl 0 rfl, hS27.cell 0 rfl 0 rfl, rowR.cell (rowO.rd (hS27.own 1).1) z_Tile h28.1 h28.2 0 rfl, rowR.cell (rowO.rd (hS27.own 1).1) z_Tile h28.1 h28.2 1 rfl, rowR.cell (rowO.rd (hS27.own 1).1) z_Tile h28.1 h28.2 2 rfl, rowR.cell (rowO.rd (hS27.own 1).1) z_Tile h28.1 h28.2 3 rfl, hS27.cell 0 rfl 0 rfl, rowR.cell (rowO.rd (hS27.own 1).1) z_Tile h29.1 h29.2 0 rfl, rowR.cell (rowO.rd (hS27.own 1).1) z_Tile h29.1 h29.2 1 rfl, rowR.cell (rowO.rd (hS27.own 1).1) z_Tile h29.1 h29.2 2 rfl, rowR.cell (rowO.rd (hS27.own 1).1) z_Tile h29.1 h29.2 3 rfl, trivial⟩, forallC ?_ (forallN)⟩
    refine segF 13 [.v (sv A10 l12 c11), .v (sv A10 l12 c11), .v (sv A10 l12 c11), .v (iv ((rdD l12 x13 z_Tile).N)), .v (iv ((rdD l12 x13 z_Tile).E)), .v (iv ((rdD l12 x13 z_Tile).S)), .v (iv ((rdD l12 x13 z_Tile).W)), .v (sv A10 l12 c11), .v (iv ((rdD l12 p0 z_Tile).N)), .v (iv ((rdD l12 p0 z_Tile).E)), .v (iv ((rdD l12 p0 z_Tile).S)), .v (iv ((rdD l12 p0 z_Tile).W))] [0, 1, 3, 6, 24, 25, 29, 33, 34] [(0, (iv p0)), (1, (pt ga)), (3, (pt gc)), (6, (iv x13)), (24, (sv A10 l12 c11)), (25, (iv x13)), (29, (.agg #[(iv ((rdD l12 x13 z_Tile).N)), (iv ((rdD l12 x13 z_Tile).E)), (iv ((rdD l12 x13 z_Tile).S)), (iv ((rdD l12 x13 z_Tile).W))])), (33, (.agg #[(iv ((rdD l12 p0 z_Tile).N)), (iv ((rdD l12 p0 z_Tile).E)), (iv ((rdD l12 p0 z_Tile).S)), (iv ((rdD l12 p0 z_Tile).W))])), (34, (.pointer (some ((adr A10).add ((p0).toNat * 4)))))] [.idx A10 x13 l12.length, .idx A10 p0 l12.length, .idx A10 p0 l12.length] [0, 1, 2, 3, 4, 5, 6, 7, 8, 9, 10, 11] [(0, ⟨ga, 0, none⟩, (sv A10 l12 c11)), (2, ⟨ga, 0, none⟩, (sv A10 l12 c11)), (4, ⟨ga, 0, none⟩, (sv A10 l12 c11)), (7, ((adr A10).add ((x13).toNat * 4)), (iv ((rdD l12 x13 z_Tile).N))), (7, (((adr A10).add ((x13).toNat * 4)).add 1), (iv ((rdD l12 x13 z_Tile).E))), (7, (((adr A10).add ((x13).toNat * 4)).add 2), (iv ((rdD l12 x13 z_Tile).S))), (7, (((adr A10).add ((x13).toNat * 4)).add 3), (iv ((rdD l12 x13 z_Tile).W))), (8, ⟨ga, 0, none⟩, (sv A10 l12 c11)), (11, ((adr A10).add ((p0).toNat * 4)), (iv ((rdD l12 p0 z_Tile).N))), (11, (((adr A10).add ((p0).toNat * 4)).add 1), (iv ((rdD l12 p0 z_Tile).E))), (11, (((adr A10).add ((p0).toNat * 4)).add 2), (iv ((rdD l12 p0 z_Tile).S))), (11, (((adr A10).add ((p0).toNat * 4)).add 3), (iv ((rdD l12 p0 z_Tile).W)))] (fun fb => by kernel_rfl) rfl ⟨rowR.adr (rowO.rd (hS27.own 1).1) h28.1 h28.2, rowR.adr (rowO.rd (hS27.own 1).1) h29.1 h29.2, rowR.adr (rowO.rd (hS27.own 1).1) h29.1 h29.2, trivial⟩ rfl ?_
    refine WL.storeRow hS27 1 rfl (p0) ((rdD l12 x13 z_Tile)) (z_Tile) [(0, (iv ((rdD l12 x13 z_Tile).N))), (1, (iv ((rdD l12 x13 z_Tile).E))), (2, (iv ((rdD l12 x13 z_Tile).S))), (3, (iv ((rdD l12 x13 z_Tile).W)))] (fun fb => by kernel_rfl) h29.1 h29.2 (by kernel_rfl) rfl [0, 2] (by decide) (by decide) (fun w30 hS31 => ?_)
    refine ⟨⟨hS31.cell 1 rfl 0 rfl, trivial⟩, ?_⟩
    refine WL.reE [0, 1, 3, 6, 24, 25, 33] [(0, (iv p0)), (1, (pt ga)), (3, (pt gc)), (6, (iv x13)), (24, (.slice A10 l12.length c11)), (25, (iv x13)), (33, (.agg #[(iv ((rdD l12 p0 z_Tile).N)), (iv ((rdD l12 p0 z_Tile).E)), (iv ((rdD l12 p0 z_Tile).S)), (iv ((rdD l12 p0 z_Tile).W))]))] [(0, (iv p0)), (1, (pt ga)), (3, (pt gc)), (6, (iv x13)), (24, (.slice A10 (l12.set (p0).toNat (rdD l12 x13 z_Tile)).length c11)), (25, (iv x13)), (33, (.agg #[(iv ((rdD l12 p0 z_Tile).N)), (iv ((rdD l12 p0 z_Tile).E)), (iv ((rdD l12 p0 z_Tile).S)), (iv ((rdD l12 p0 z_Tile).W))]))] rfl (by simp only [List.length_set]) ?_
    have hS32 : St (fpL [blk ga (.cells #[(.slice Aa f0.length ca)] 28 (0, 0)), rowO 48 enc_Tile Aa ca f0, Y sY tY]) w w30 [Rd, blk gb (.cells #[(.func (.yield yl) #[] #[])] 29 (0, 0)), blk gc (.cells #[(.func (.func 67) #[] #[(pt ga), (pt gb), (pt gc)])] 32 (0, 0))] [rowO 48 enc_Tile A10 c11 (l12.set (p0).toNat (rdD l12 x13 z_Tile)), blk ga (.cells #[(.slice A10 (l12.set (p0).toNat (rdD l12 x13 z_Tile)).length c11)] 28 (0, 0)), Y s14 tt15] := by simpa only [List.length_set] using (show St (fpL [blk ga (.cells #[(.slice Aa f0.length ca)] 28 (0, 0)), rowO 48 enc_Tile Aa ca f0, Y sY tY]) w w30 [Rd, blk gb (.cells #[(.func (.yield yl) #[] #[])] 29 (0, 0)), blk gc (.cells #[(.func (.func 67) #[] #[(pt ga), (pt gb), (pt gc)])] 32 (0, 0))] [rowO 48 enc_Tile A10 c11 (l12.set (p0).toNat (rdD l12 x13 z_Tile)), blk ga (.cells #[(.slice A10 l12.length c11)] 28 (0, 0)), Y s14 tt15] from hS31)
    obtain ⟨h33, hl24⟩ := as_some hl24
    refine seg 15 [] [0, 1, 3, 6, 33, 35] [(0, (iv p0)), (1, (pt ga)), (3, (pt gc)), (6, (iv x13)), (33, (.agg #[(iv ((rdD l12 p0 z_Tile).N)), (iv ((rdD l12 p0 z_Tile).E)), (iv ((rdD l12 p0 z_Tile).S)), (iv ((rdD l12 p0 z_Tile).W))])), (35, (.pointer (some ((adr A10).add ((x13).toNat * 4)))))] [.idx A10 x13 (l12.set (p0).toNat (rdD l12 x13 z_Tile)).length] (fun fb => by kernel_rfl) rfl ⟨rowR.adr (rowO.rd (hS32.own 0).1) h33.1 h33.2, trivial⟩ ?_
    refine WL.storeRow hS32 0 rfl (x13) ((rdD l12 p0 z_Tile)) (z_Tile) [(0, (iv ((rdD l12 p0 z_Tile).N))), (1, (iv ((rdD l12 p0 z_Tile).E))), (2, (iv ((rdD l12 p0 z_Tile).S))), (3, (iv ((rdD l12 p0 z_Tile).W)))] (fun fb => by kernel_rfl) h33.1 h33.2 (by kernel_rfl) rfl [1, 2] (by decide) (by decide) (fun w34 hS35 => ?_)
    refine ⟨trivial, ?_⟩
    have hS36 := hS32.go w34 [rowO 48 enc_Tile A10 c11 ((l12.set (p0).toNat (rdD l12 x13 z_Tile)).set (x13).toNat (rdD l12 p0 z_Tile)), blk ga (.cells #[(.slice A10 ((l12.set (p0).toNat (rdD l12 x13 z_Tile)).set (x13).toNat (rdD l12 p0 z_Tile)).length c11)] 28 (0, 0)), Y s14 tt15] (by simpa only [List.length_set] using (show St (fpL [blk ga (.cells #[(.slice Aa f0.length ca)] 28 (0, 0)), rowO 48 enc_Tile Aa ca f0, Y sY tY]) w w34 [Rd, blk gb (.cells #[(.func (.yield yl) #[] #[])] 29 (0, 0)), blk gc (.cells #[(.func (.func 67) #[] #[(pt ga), (pt gb), (pt gc)])] 32 (0, 0))] [rowO 48 enc_Tile A10 c11 ((l12.set (p0).toNat (rdD l12 x13 z_Tile)).set (x13).toNat (rdD l12 p0 z_Tile)), blk ga (.cells #[(.slice A10 (l12.set (p0).toNat (rdD l12 x13 z_Tile)).length c11)] 28 (0, 0)), Y s14 tt15] from hS35))
    refine WL.done rfl (WX.next (WC.seq (WC.region ?_)))
    refine seg 3 [.v (.func (.func 67) #[] #[(pt ga), (pt gb), (pt gc)])] [0, 1, 3, 6, 36, 38] [(0, (iv p0)), (1, (pt ga)), (3, (pt gc)), (6, (iv x13)), (36, (.func (.func 67) #[] #[(pt ga), (pt gb), (pt gc)])), (38, (iv (w64 (p0 + 1))))] [.cell ⟨gc, 0, none⟩ (.func (.func 67) #[] #[(pt ga), (pt gb), (pt gc)])] (fun fb => by kernel_rfl) rfl ⟨blk_cell (hS36.rd 2).1 0 rfl, trivial⟩ ?_
    obtain ⟨t37, ht38, hl24⟩ := bind_some hl24
    refine WL.call (some 39) 67 #[(iv (w64 (p0 + 1))), (pt ga), (pt gb), (pt gc)] (fun fb => by kernel_rfl) (ih_ (w64 (p0 + 1)) ((l12.set (p0).toNat (rdD l12 x13 z_Tile)).set (x13).toNat (rdD l12 p0 z_Tile)) yf s14 ga A10 c11 gb gc yl Y tt15 Rd t37 _ (hS36.rdT [1, 0, 2] 0) (hS36.rdT [1, 0, 2] 1) (hS36.rdT [1, 0, 2] 2) (hS36.io [1, 0, 2] (by decide)) hY ht38) (fun v w39 hR40 => ?_)
    obtain ⟨A42, c43, tt44, rfl, hk_⟩ := hR40
    have hS41 := hS.go w39 [blk ga (.cells #[(sv A42 t37.2.1 c43)] 28 (0, 0)), rowO 48 enc_Tile A42 c43 t37.2.1, Y t37.2.2 tt44] (hS36.call hk_ [1, 0, 2] [] (fun g hg => fpL_sel g hg) (by decide) (by decide))
    refine ⟨trivial, ?_⟩
    refine sg 5 [] [0, 1, 3, 6, 7] [(0, (iv p0)), (1, (pt ga)), (3, (pt gc)), (6, (iv x13)), (7, (bv t37.1))] (by kernel_rfl) ?_
    refine WL.done rfl (WX.next (WC.seq ?_))
    obtain ⟨h47, hl24⟩ := as_some hl24
    obtain ⟨h48, hl24⟩ := as_some hl24
    refine WC.regionD ([(0, ⟨ga, 0, none⟩, (sv A42 t37.2.1 c43)), (2, ⟨ga, 0, none⟩, (sv A42 t37.2.1 c43)), (4, ⟨ga, 0, none⟩, (sv A42 t37.2.1 c43)), (7, ((adr A42).add ((x13).toNat * 4)), (iv ((rdD t37.2.1 x13 z_Tile).N))), (7, (((adr A42).add ((x13).toNat * 4)).add 1), (iv ((rdD t37.2.1 x13 z_Tile).E))), (7, (((adr A42).add ((x13).toNat * 4)).add 2), (iv ((rdD t37.2.1 x13 z_Tile).S))), (7, (((adr A42).add ((x13).toNat * 4)).add 3), (iv ((rdD t37.2.1 x13 z_Tile).W))), (8, ⟨ga, 0, none⟩, (sv A42 t37.2.1 c43)), (11, ((adr A42).add ((p0).toNat * 4)), (iv ((rdD t37.2.1 p0 z_Tile).N))), (11, (((adr A42).add ((p0).toNat * 4)).add 1), (iv ((rdD t37.2.1 p0 z_Tile).E))), (11, (((adr A42).add ((p0).toNat * 4)).add 2), (iv ((rdD t37.2.1 p0 z_Tile).S))), (11, (((adr A42).add ((p0).toNat * 4)).add 3), (iv ((rdD t37.2.1 p0 z_Tile).W)))], [0, 1, 2, 3, 4, 5, 6, 7, 8, 9, 10, 11, 12, 14], [[], [], [], [], [], [], [4, 5], [4, 5, 6], [], [], [8, 9], [8, 9, 10], [0, 1, 4, 5, 6, 7, 8, 9, 10, 11], [0, 1, 4, 5, 6, 7, 8, 9, 10, 11, 12], [0, 1, 2, 3, 4, 5, 6, 7, 8, 9, 10, 11, 12, 13], [0, 1, 2, 3, 4, 5, 6, 7, 8, 9, 10, 11, 12, 13, 14]]) [[0, 1, 2, 3, 4, 5, 6, 7, 8, 9, 10, 11, 12, 13, 14, 15]] (by kernel_rfl) (by kernel_rfl) (NoPanic.seq (NoPanic.block (NoPanic.seq (NoPanic.seq (NoPanic.block (NoPanic.seq (NoPanic.body))))))) ?_
    have hS46 := hS41.drew
    revert hS46
    generalize World.drew w39 = w45
    intro hS46
    refine ⟨⟨hS46.cell 0 rfl 0 rfl, hS46.cell 0 rfl 0 rfl, hS46.cell 0 rfl 0 rfl, rowR.cell (rowO.rd (hS46.own 1).1) z_Tile h47.1 h47.2 0 rfl, rowR.cell (rowO.rd (hS46.own 1).1) z_Tile h47.1 h47.2 1 rfl, rowR.cell (rowO.rd (hS46.own 1).1) z_Tile h47.1 h47.2 2 rfl, rowR.cell (rowO.rd (hS46.own 1).1) z_Tile h47.1 h47.2 3 rfl, hS46.cell 0 rfl 0 rfl, rowR.cell (rowO.rd (hS46.own 1).1) z_Tile h48.1 h48.2 0 rfl, rowR.cell (rowO.rd (hS46.own 1).1) z_Tile h48.1 h48.2 1 rfl, rowR.cell (rowO.rd (hS46.own 1).1) z_Tile h48.1 h48.2 2 rfl, rowR.cell (rowO.rd (hS46.own 1).1) z_Tile h48.1 h48.2 3 rfl, trivial⟩, forallC ?_ (forallN)⟩
    refine segF 13 [.v (sv A42 t37.2.1 c43), .v (sv A42 t37.2.1 c43), .v (sv A42 t37.2.1 c43), .v (iv ((rdD t37.2.1 x13 z_Tile).N)), .v (iv ((rdD t37.2.1 x13 z_Tile).E)), .v (iv ((rdD t37.2.1 x13 z_Tile).S)), .v (iv ((rdD t37.2.1 x13 z_Tile).W)), .v (sv A42 t37.2.1 c43), .v (iv ((rdD t37.2.1 p0 z_Tile).N)), .v (iv ((rdD t37.2.1 p0 z_Tile).E)), .v (iv ((rdD t37.2.1 p0 z_Tile).S)), .v (iv ((rdD t37.2.1 p0 z_Tile).W))] [0, 1, 3, 6, 7, 42, 43, 47, 51, 52] [(0, (iv p0)), (1, (pt ga)), (3, (pt gc)), (6, (iv x13)), (7, (bv t37.1)), (42, (sv A42 t37.2.1 c43)), (43, (iv x13)), (47, (.agg #[(iv ((rdD t37.2.1 x13 z_Tile).N)), (iv ((rdD t37.2.1 x13 z_Tile).E)), (iv ((rdD t37.2.1 x13 z_Tile).S)), (iv ((rdD t37.2.1 x13 z_Tile).W))])), (51, (.agg #[(iv ((rdD t37.2.1 p0 z_Tile).N)), (iv ((rdD t37.2.1 p0 z_Tile).E)), (iv ((rdD t37.2.1 p0 z_Tile).S)), (iv ((rdD t37.2.1 p0 z_Tile).W))])), (52, (.pointer (some ((adr A42).add ((p0).toNat * 4)))))] [.idx A42 x13 t37.2.1.length, .idx A42 p0 t37.2.1.length, .idx A42 p0 t37.2.1.length] [0, 1, 2, 3, 4, 5, 6, 7, 8, 9, 10, 11] [(0, ⟨ga, 0, none⟩, (sv A42 t37.2.1 c43)), (2, ⟨ga, 0, none⟩, (sv A42 t37.2.1 c43)), (4, ⟨ga, 0, none⟩, (sv A42 t37.2.1 c43)), (7, ((adr A42).add ((x13).toNat * 4)), (iv ((rdD t37.2.1 x13 z_Tile).N))), (7, (((adr A42).add ((x13).toNat * 4)).add 1), (iv ((rdD t37.2.1 x13 z_Tile).E))), (7, (((adr A42).add ((x13).toNat * 4)).add 2), (iv ((rdD t37.2.1 x13 z_Tile).S))), (7, (((adr A42).add ((x13).toNat * 4)).add 3), (iv ((rdD t37.2.1 x13 z_Tile).W))), (8, ⟨ga, 0, none⟩, (sv A42 t37.2.1 c43)), (11, ((adr A42).add ((p0).toNat * 4)), (iv ((rdD t37.2.1 p0 z_Tile).N))), (11, (((adr A42).add ((p0).toNat * 4)).add 1), (iv ((rdD t37.2.1 p0 z_Tile).E))), (11, (((adr A42).add ((p0).toNat * 4)).add 2), (iv ((rdD t37.2.1 p0 z_Tile).S))), (11, (((adr A42).add ((p0).toNat * 4)).add 3), (iv ((rdD t37.2.1 p0 z_Tile).W)))] (fun fb => by kernel_rfl) rfl ⟨rowR.adr (rowO.rd (hS46.own 1).1) h47.1 h47.2, rowR.adr (rowO.rd (hS46.own 1).1) h48.1 h48.2, rowR.adr (rowO.rd (hS46.own 1).1) h48.1 h48.2, trivial⟩ rfl ?_
    refine WL.storeRow hS46 1 rfl (p0) ((rdD t37.2.1 x13 z_Tile)) (z_Tile) [(0, (iv ((rdD t37.2.1 x13 z_Tile).N))), (1, (iv ((rdD t37.2.1 x13 z_Tile).E))), (2, (iv ((rdD t37.2.1 x13 z_Tile).S))), (3, (iv ((rdD t37.2.1 x13 z_Tile).W)))] (fun fb => by kernel_rfl) h48.1 h48.2 (by kernel_rfl) rfl [0, 2] (by decide) (by decide) (fun w49 hS50 => ?_)
    refine ⟨⟨hS50.cell 1 rfl 0 rfl, trivial⟩, ?_⟩
    refine WL.reE [0, 1, 3, 6, 7, 42, 43, 51] [(0, (iv p0)), (1, (pt ga)), (3, (pt gc)), (6, (iv x13)), (7, (.bool t37.1)), (42, (.slice A42 t37.2.1.length c43)), (43, (iv x13)), (51, (.agg #[(iv ((rdD t37.2.1 p0 z_Tile).N)), (iv ((rdD t37.2.1 p0 z_Tile).E)), (iv ((rdD t37.2.1 p0 z_Tile).S)), (iv ((rdD t37.2.1 p0 z_Tile).W))]))] [(0, (iv p0)), (1, (pt ga)), (3, (pt gc)), (6, (iv x13)), (7, (.bool t37.1)), (42, (.slice A42 (t37.2.1.set (p0).toNat (rdD t37.2.1 x13 z_Tile)).length c43)), (43, (iv x13)), (51, (.agg #[(iv ((rdD t37.2.1 p0 z_Tile).N)), (iv ((rdD t37.2.1 p0 z_Tile).E)), (iv ((rdD t37.2.1 p0 z_Tile).S)), (iv ((rdD t37.2.1 p0 z_Tile).W))]))] rfl (by simp only [List.length_set]) ?_
    have hS51 := hS36.go w49 [rowO 48 enc_Tile A42 c43 (t37.2.1.set (p0).toNat (rdD t37.2.1 x13 z_Tile)), blk ga (.cells #[(.slice A42 (t37.2.1.set (p0).toNat (rdD t37.2.1 x13 z_Tile)).length c43)] 28 (0, 0)), Y t37.2.2 tt44] (by simpa only [List.length_set] using (show St (fpL [blk ga (.cells #[(.slice Aa f0.length ca)] 28 (0, 0)), rowO 48 enc_Tile Aa ca f0, Y sY tY]) w w49 [Rd, blk gb (.cells #[(.func (.yield yl) #[] #[])] 29 (0, 0)), blk gc (.cells #[(.func (.func 67) #[] #[(pt ga), (pt gb), (pt gc)])] 32 (0, 0))] [rowO 48 enc_Tile A42 c43 (t37.2.1.set (p0).toNat (rdD t37.2.1 x13 z_Tile)), blk ga (.cells #[(.slice A42 t37.2.1.length c43)] 28 (0, 0)), Y t37.2.2 tt44] from hS50))
    obtain ⟨h52, hl24⟩ := as_some hl24
    refine seg 15 [] [0, 1, 3, 6, 7, 51, 53] [(0, (iv p0)), (1, (pt ga)), (3, (pt gc)), (6, (iv x13)), (7, (bv t37.1)), (51, (.agg #[(iv ((rdD t37.2.1 p0 z_Tile).N)), (iv ((rdD t37.2.1 p0 z_Tile).E)), (iv ((rdD t37.2.1 p0 z_Tile).S)), (iv ((rdD t37.2.1 p0 z_Tile).W))])), (53, (.pointer (some ((adr A42).add ((x13).toNat * 4)))))] [.idx A42 x13 (t37.2.1.set (p0).toNat (rdD t37.2.1 x13 z_Tile)).length] (fun fb => by kernel_rfl) rfl ⟨rowR.adr (rowO.rd (hS51.own 0).1) h52.1 h52.2, trivial⟩ ?_
    refine WL.storeRow hS51 0 rfl (x13) ((rdD t37.2.1 p0 z_Tile)) (z_Tile) [(0, (iv ((rdD t37.2.1 p0 z_Tile).N))), (1, (iv ((rdD t37.2.1 p0 z_Tile).E))), (2, (iv ((rdD t37.2.1 p0 z_Tile).S))), (3, (iv ((rdD t37.2.1 p0 z_Tile).W)))] (fun fb => by kernel_rfl) h52.1 h52.2 (by kernel_rfl) rfl [1, 2] (by decide) (by decide) (fun w53 hS54 => ?_)
    refine ⟨trivial, ?_⟩
    have hS55 := hS51.go w53 [rowO 48 enc_Tile A42 c43 ((t37.2.1.set (p0).toNat (rdD t37.2.1 x13 z_Tile)).set (x13).toNat (rdD t37.2.1 p0 z_Tile)), blk ga (.cells #[(.slice A42 ((t37.2.1.set (p0).toNat (rdD t37.2.1 x13 z_Tile)).set (x13).toNat (rdD t37.2.1 p0 z_Tile)).length c43)] 28 (0, 0)), Y t37.2.2 tt44] (by simpa only [List.length_set] using (show St (fpL [blk ga (.cells #[(.slice Aa f0.length ca)] 28 (0, 0)), rowO 48 enc_Tile Aa ca f0, Y sY tY]) w w53 [Rd, blk gb (.cells #[(.func (.yield yl) #[] #[])] 29 (0, 0)), blk gc (.cells #[(.func (.func 67) #[] #[(pt ga), (pt gb), (pt gc)])] 32 (0, 0))] [rowO 48 enc_Tile A42 c43 ((t37.2.1.set (p0).toNat (rdD t37.2.1 x13 z_Tile)).set (x13).toNat (rdD t37.2.1 p0 z_Tile)), blk ga (.cells #[(.slice A42 (t37.2.1.set (p0).toNat (rdD t37.2.1 x13 z_Tile)).length c43)] 28 (0, 0)), Y t37.2.2 tt44] from hS54))
    refine WL.done rfl (WX.next (WC.seq (WC.region ?_)))
    refine sg 2 [] [0, 1, 3, 6, 55] [(0, (iv p0)), (1, (pt ga)), (3, (pt gc)), (6, (iv x13)), (55, (bv (!t37.1)))] (by kernel_rfl) ?_
    refine WL.done rfl (WX.next ?_)
    rcases br_some hl24 with ⟨h56, hl24⟩ | ⟨h56, hl24⟩
    ·refine WC.condT2 (fun fb => by kernel_rfl) h56 ?_
     refine WC.seq (WC.region ?_)
     refine sg 1 [] [1, 5] [(1, (pt ga)), (5, (bv false))] (by kernel_rfl) ?_
     refine WL.done rfl (WX.next ?_)
     refine WC.ret ?_
     injection hl24 with hl24
     subst hl24
     injection hf with hf
     subst hf
     exact WX.blockR (WX.thenR (WX.thenR (WX.blockR (WX.thenR (WX.ret_ [] (bv false) [] (fun fb => by kernel_rfl) trivial ⟨_, rfl, A42, c43, tt44, rfl, (hS55.sub [1, 0, 2] (by decide)).noR⟩)))))
    refine WC.condF2 (fun fb => by kernel_rfl) h56 ?_
    refine WC.skip ?_
    refine WX.blockN (WX.next ?_)
    refine WC.region ?_
    refine sg 3 [] [0, 1, 3, 6] [(0, (iv p0)), (1, (pt ga)), (3, (pt gc)), (6, (iv (w64 (x13 + 1))))] (by kernel_rfl) ?_
    refine WL.done rfl ?_
    exact WX.again k21 (Nat.lt_succ_self _) (((t37.2.1.set (p0).toNat (rdD t37.2.1 x13 z_Tile)).set (x13).toNat (rdD t37.2.1 p0 z_Tile), w64 (x13 + 1), t37.2.2), A42, c43, tt44) [0, 1, 3, 6] rfl ⟨(hS55.subR [0, 1, 2]).sub [1, 0, 2] (by decide), hl24⟩
   refine WC.condF2 (fun fb => by kernel_rfl) h25 ?_
   refine WC.exit ?_
   injection hl24 with hl24
   exact WX.thenX (WX.thenX (WX.blockHere (WX.to Kx19 ((l12, s14), A10, c11, tt15) [1] rfl ⟨(hS23.subR [0, 1, 2]).sub [0, 1, 2] (by decide), hl24.symm⟩)))
 rintro ⟨y60, A16, c17, tt18⟩ w57 ⟨hS58, hq59⟩
 subst hq59
 have hf := sum_inr hf
 refine WX.next (WC.seq (WC.region ?_))
 refine sg 1 [] [1, 5] [(1, (pt ga)), (5, (bv true))] (by kernel_rfl) ?_
 refine WL.done rfl (WX.next ?_)
 refine WC.ret ?_
 injection hf with hf
 subst hf
 exact WX.ret_ [] (bv true) [] (fun fb => by kernel_rfl) trivial ⟨_, rfl, A16, c17, tt18, rfl, (hS58.sub [0, 1, 2] (by decide)).noR⟩
theorem census_orders_1_y_calls {σ τ : Type} (k : Nat) (f0 : List Tile) (yf : (List Tile) → σ → Option (σ × Bool)) (sY : σ) (ga : Nat) (Aa : Option Addr) (ca : Nat) (yl : Nat) (Y : σ → τ → Own) (tY : τ) (Rd : Own) (r : σ) (w : World) (hR0 : RO (fpL [Y sY tY]) w (Rd)) (hR1 : RO (fpL [Y sY tY]) w (blk ga (.cells #[(sv Aa f0 ca)] 28 (0, 0)))) (hR2 : RO (fpL [Y sY tY]) w (rowR enc_Tile Aa ca f0)) (hI : IoOK w [Y sY tY]) (hY : ∀ (x0_ : List Tile) (A0_ : Option Addr) (c0_ : Nat) (s_ : σ) (t_ : τ) (r_ : σ × Bool) (w_ : World), RO (fpL [Y s_ t_]) w_ (rowR enc_Tile A0_ c0_ x0_) → RO (fpL [Y s_ t_]) w_ Rd → IoOK w_ [Y s_ t_] → yf x0_ s_ = some r_ → YieldR Try.prog (.func (.yield yl) #[] #[]) #[(sv A0_ x0_ c0_)] w_ (fun v_ w' => ∃ t1_, v_ = .bool r_.2 ∧ St (fpL [Y s_ t_]) w_ w' [] [Y r_.1 t1_])) (hf : census_orders_1_y k f0 yf sY = some r) :
  CallsR Try.prog 65 #[(.func (.yield yl) #[] #[]), (pt ga)] w (fun v w' => ∃ (t1_ : τ), v = (.tuple #[]) ∧ St (fpL [Y sY tY]) w w' [] [Y r t1_]) := by
 have hS : St (fpL [Y sY tY]) w w [Rd, blk ga (.cells #[(sv Aa f0 ca)] 28 (0, 0)), rowR enc_Tile Aa ca f0] [Y sY tY] := St.initIO (ro_cons hR0 (ro_cons hR1 (ro_cons hR2 (ro_nil _ _)))) hI
 refine enter 10 Try.func65 rfl Try.ntmps65 rfl ?_
 unfold census_orders_1_y at hf
 refine WC.seq (WC.region ?_)
 refine WL.new hS 2 [] (fun g => (pt g)) (.cells #[(.func (.yield yl) #[] #[])] 29 (0, 0)) [] (fun fb g => by kernel_rfl) trivial (fun g3 w4 hS5 => ?_)
 refine ⟨trivial, ?_⟩
 refine WL.done rfl (WX.next (WC.seq (WC.region ?_)))
 refine seg 1 [.v (sv Aa f0 ca)] [2, 5] [(2, (pt g3)), (5, (sv Aa f0 ca))] [.cell ⟨ga, 0, none⟩ (sv Aa f0 ca)] (fun fb => by kernel_rfl) rfl ⟨blk_cell (hS5.rd 1).1 0 rfl, trivial⟩ ?_
 obtain ⟨t6, ht7, hf⟩ := bind_some hf
 refine WL.call (some 6) 66 #[(sv Aa f0 ca)] (fun fb => by kernel_rfl) (slices_Clone_api_Tile_api_Tile_calls f0 Aa ca t6 _ (hS5.rd 2) ht7) (fun v w8 hR9 => ?_)
 obtain ⟨A11, c12, rfl, hk_⟩ := hR9
 have hS10 : St (fpL [Y sY tY]) w w8 [Rd, blk ga (.cells #[(.slice Aa f0.length ca)] 28 (0, 0)), rowR enc_Tile Aa ca f0] [rowO 48 enc_Tile A11 c12 t6, blk g3 (.cells #[(.func (.yield yl) #[] #[])] 29 (0, 0)), Y sY tY] := hS5.call hk_ [] [0, 1] (fun g hg => hg.elim) (by simp) (by decide)
 refine ⟨trivial, ?_⟩
 refine WL.new hS10 3 [] (fun g => (pt g)) (.cells #[(.slice none 0 0)] 28 (0, 0)) [] (fun fb g => by kernel_rfl) trivial (fun g13 w14 hS15 => ?_)
 refine ⟨trivial, ?_⟩
 refine WL.store hS15 0 rfl [(0, (sv A11 t6 c12))] #[(sv A11 t6 c12)] (fun fb => by kernel_rfl) (by kernel_rfl) rfl [1, 2, 3] (by decide) (by decide) (fun w16 hS17 => ?_)
 refine ⟨trivial, ?_⟩
 refine WL.done rfl (WX.next (WC.seq (WC.region ?_)))
 refine WL.new hS17 4 [] (fun g => (pt g)) (.cells #[.nilFunc] 32 (0, 0)) [] (fun fb g => by kernel_rfl) trivial (fun g18 w19 hS20 => ?_)
 refine ⟨trivial, ?_⟩
 refine WL.done rfl (WX.next (WC.seq (WC.region ?_)))
 refine sg 1 [] [4, 7] [(4, (pt g18)), (7, (.func (.func 67) #[] #[(pt g13), (pt g3), (pt g18)]))] (by kernel_rfl) ?_
 refine WL.store hS20 0 rfl [(0, (.func (.func 67) #[] #[(pt g13), (pt g3), (pt g18)]))] #[(.func (.func 67) #[] #[(pt g13), (pt g3), (pt g18)])] (fun fb => by kernel_rfl) (by kernel_rfl) rfl [1, 2, 3, 4] (by decide) (by decide) (fun w21 hS22 => ?_)
 refine ⟨trivial, ?_⟩
 refine WL.done rfl (WX.next (WC.region ?_))
 refine seg 1 [.v (.func (.func 67) #[] #[(pt g13), (pt g3), (pt g18)])] [8] [(8, (.func (.func 67) #[] #[(pt g13), (pt g3), (pt g18)]))] [.cell ⟨g18, 0, none⟩ (.func (.func 67) #[] #[(pt g13), (pt g3), (pt g18)])] (fun fb => by kernel_rfl) rfl ⟨hS22.cell 0 rfl 0 rfl, trivial⟩ ?_
 obtain ⟨t23, ht24, hf⟩ := bind_some hf
 refine WL.call (some 9) 67 #[(iv 0), (pt g13), (pt g3), (pt g18)] (fun fb => by kernel_rfl) (census_orders_1_1_y_calls _ 0 t6 yf sY g13 A11 c12 g3 g18 yl Y tY Rd t23 _ (hS22.rdT [1, 2, 4] 0) (hS22.owT [1, 2, 4] 3 (by decide)) (hS22.owT [1, 2, 4] 0 (by decide)) (hS22.io [1, 2, 4] (by decide)) hY ht24) (fun v w25 hR26 => ?_)
 obtain ⟨A28, c29, tt30, rfl, hk_⟩ := hR26
 have hS27 := hS.go w25 [blk g13 (.cells #[(sv A28 t23.2.1 c29)] 28 (0, 0)), rowO 48 enc_Tile A28 c29 t23.2.1, Y t23.2.2 tt30, blk g18 (.cells #[(.func (.func 67) #[] #[(pt g13), (pt g3), (pt g18)])] 32 (0, 0)), blk g3 (.cells #[(.func (.yield yl) #[] #[])] 29 (0, 0))] (hS22.call hk_ [1, 2, 4] [0, 3] (fun g hg => fpL_sel g hg) (by decide) (by decide))
 refine ⟨trivial, ?_⟩
 refine WL.done rfl ?_
 injection hf with hf
 subst hf
 exact WX.end_ [] (.tuple #[]) [] (fun fb => by kernel_rfl) trivial ⟨_, rfl, tt30, rfl, (hS27.sub [2] (by decide)).noR⟩
theorem census_least_calls (k : Nat) (p0 : List Tile) (Aa : Option Addr) (ca : Nat) (r : (List Tile)) (w : World) (hR0 : RO NoS w (rowR enc_Tile Aa ca p0)) (hf : census_least k p0 = some r) :
  CallsR Try.prog 34 #[(sv Aa p0 ca)] w (fun v w' => ∃ (A1_ : Option Addr), ∃ (c1_ : Nat), v = (sv A1_ r c1_) ∧ St NoS w w' [] [rowO 48 enc_Tile A1_ c1_ r]) := by
 have hS : St NoS w w [rowR enc_Tile Aa ca p0] [] := St.init (ro_cons hR0 (ro_nil _ _))
 refine enter 21 Try.func34 rfl Try.ntmps34 rfl ?_
 unfold census_least at hf
 refine WC.seq (WC.region ?_)
 refine sg 1 [] [0] [(0, (sv Aa p0 ca))] (by kernel_rfl) ?_
 refine WL.done rfl (WX.next (WC.seq (WC.region ?_)))
 refine WL.new hS 3 [] (fun g => (pt g)) (.cells #[(.slice none 0 0)] 28 (0, 0)) [] (fun fb g => by kernel_rfl) trivial (fun g3 w4 hS5 => ?_)
 refine ⟨trivial, ?_⟩
 refine WL.done rfl (WX.next (WC.seq (WC.seq (WC.region ?_))))
 refine sg 1 [] [3, 6] [(3, (pt g3)), (6, (sv Aa p0 ca))] (by kernel_rfl) ?_
 obtain ⟨t6, ht7, hf⟩ := bind_some hf
 refine WL.call (some 7) 47 #[(sv Aa p0 ca)] (fun fb => by kernel_rfl) (census_orders_calls p0 Aa ca t6 _ (hS5.rd 0) ht7) (fun v w8 hR9 => ?_)
 obtain ⟨g11, rfl, hk_⟩ := hR9
 have hS10 := hS.go w8 [blk g11 (.cells #[(.slice Aa p0.length ca)] 28 (0, 0)), blk g3 (.cells #[(.slice none 0 0)] 28 (0, 0))] (hS5.call hk_ [] [0] (fun g hg => hg.elim) (by simp) (by decide))
 refine ⟨trivial, ?_⟩
 refine WL.done rfl (WX.next (WC.block ?_))
 have hS12 := hS10.nilrow 48 enc_Tile
 have hS13 := hS10.go w8 [flgO true 48 enc_Tile none 0 ([] : List Tile), blk g11 (.cells #[(sv Aa p0 ca)] 28 (0, 0)), blk g3 (.cells #[(sv none ([] : List Tile) 0)] 28 (0, 0))] (hS12.toFlg 0 rfl true (fun _ => rfl) [1, 2] (by decide) (by decide))
 refine WC.rangeO hS13 (fun _ _ h => h) rfl (gf := 65) (lb := [(pt g11)]) (fun fb => by kernel_rfl) (fun _ => by kernel_rfl) (fun LO18 LB19 LX20 l21 D22 w23 hK24 hS25 => ?_)
 have hS26 := hS13.go w23 [(fun (s_ : (Bool × (List Tile)) × Int) (t_ : (Option Addr) × Nat) => sepO (blk l21 (LO18 (pendN [] s_.2)) :: [blk g3 (.cells #[(sv t_.1 s_.1.2 t_.2)] 28 (0, 0)), flgO s_.1.1 48 enc_Tile t_.1 t_.2 s_.1.2])) ((true, ([] : List Tile)), (0 : Int)) (none, 0), blk D22 (.deferred (some [])), blk g11 (.cells #[(sv Aa p0 ca)] 28 (0, 0))] (hS25.pack [0, 4, 2] [1, 3] (by decide) (by decide) (by decide))
 have hY30 : ∀ (x0_ : List Tile) (A0_ : Option Addr) (c0_ : Nat) (s_ : (Bool × (List Tile)) × Int) (t_ : (Option Addr) × Nat) (r_ : ((Bool × (List Tile)) × Int) × Bool) (w_ : World), RO (fpL [(fun (s_ : (Bool × (List Tile)) × Int) (t_ : (Option Addr) × Nat) => sepO (blk l21 (LO18 (pendN [] s_.2)) :: [blk g3 (.cells #[(sv t_.1 s_.1.2 t_.2)] 28 (0, 0)), flgO s_.1.1 48 enc_Tile t_.1 t_.2 s_.1.2])) s_ t_]) w_ (rowR enc_Tile A0_ c0_ x0_) → RO (fpL [(fun (s_ : (Bool × (List Tile)) × Int) (t_ : (Option Addr) × Nat) => sepO (blk l21 (LO18 (pendN [] s_.2)) :: [blk g3 (.cells #[(sv t_.1 s_.1.2 t_.2)] 28 (0, 0)), flgO s_.1.1 48 enc_Tile t_.1 t_.2 s_.1.2])) s_ t_]) w_ (poolO [rowR enc_Tile Aa ca p0]) → IoOK w_ [(fun (s_ : (Bool × (List Tile)) × Int) (t_ : (Option Addr) × Nat) => sepO (blk l21 (LO18 (pendN [] s_.2)) :: [blk g3 (.cells #[(sv t_.1 s_.1.2 t_.2)] 28 (0, 0)), flgO s_.1.1 48 enc_Tile t_.1 t_.2 s_.1.2])) s_ t_] → census_least.b1 k  x0_ s_ = some r_ → YieldR Try.prog (.func (.yield l21) #[] #[]) #[(sv A0_ x0_ c0_)] w_ (fun v_ w' => ∃ t1_, v_ = .bool r_.2 ∧ St (fpL [(fun (s_ : (Bool × (List Tile)) × Int) (t_ : (Option Addr) × Nat) => sepO (blk l21 (LO18 (pendN [] s_.2)) :: [blk g3 (.cells #[(sv t_.1 s_.1.2 t_.2)] 28 (0, 0)), flgO s_.1.1 48 enc_Tile t_.1 t_.2 s_.1.2])) s_ t_]) w_ w' [] [(fun (s_ : (Bool × (List Tile)) × Int) (t_ : (Option Addr) × Nat) => sepO (blk l21 (LO18 (pendN [] s_.2)) :: [blk g3 (.cells #[(sv t_.1 s_.1.2 t_.2)] 28 (0, 0)), flgO s_.1.1 48 enc_Tile t_.1 t_.2 s_.1.2])) r_.1 t1_]) := by
  rintro x27 A28 c29 ⟨⟨b17, l16⟩, j31⟩ ⟨A14, c15⟩ r32 w33 hro39 hRd35 hI36 hf37
  rw [census_least.b1] at hf37
  replace hf37 := as_some hf37
  obtain ⟨hj40, hf37⟩ := hf37
  subst hj40
  have hRo41 := hRd35.openSep
  have hS38 : St (fpL [blk l21 (LO18 none), blk g3 (.cells #[(sv A14 l16 c15)] 28 (0, 0)), flgO b17 48 enc_Tile A14 c15 l16]) w33 w33 [rowR enc_Tile A28 c29 x27, rowR enc_Tile Aa ca p0] [blk l21 (LO18 none), blk g3 (.cells #[(sv A14 l16 c15)] 28 (0, 0)), flgO b17 48 enc_Tile A14 c15 l16] := St.initIO (ro_cons hro39.openSep (ro_cons (poolO.ro hRo41 0) (ro_nil _ _))) hI36.openSep
  refine YieldR.of_loop hK24 (hS38.blkAt 0 rfl) [(sv A28 x27 c29)] [3] [(3, (pt g3))] [(8, (sv A28 x27 c29)), (3, (pt g3))] rfl rfl rfl rfl rfl ?_
  refine WC.region ?_
  refine sg 1 [] [3, 4] [(3, (pt g3)), (4, (sv A28 x27 c29))] (by kernel_rfl) ?_
  refine WL.done rfl ?_
  refine WX.begin' hK24 (hS38.blkAt 0 rfl) ?_
  have hS42 := hS38.putO 0 rfl LB19 [1, 2] (by decide) (by decide)
  revert hS42
  generalize World.putObj _ _ _ = w43
  intro hS42
  have hS44 := hS38.go w43 [blk l21 LB19, blk g3 (.cells #[(sv A14 l16 c15)] 28 (0, 0)), flgO b17 48 enc_Tile A14 c15 l16] (hS42)
  refine WC.block (WC.seq (WC.region ?_))
  refine sg 1 [] [3, 9] [(3, (pt g3)), (9, (sv A28 x27 c29))] (by kernel_rfl) ?_
  obtain ⟨t45, ht46, hf37⟩ := bind_some hf37
  refine WL.call (some 10) 48 #[(sv A28 x27 c29)] (fun fb => by kernel_rfl) (census_renamed_calls _ x27 A28 c29 t45 _ (hS44.rd 0) ht46) (fun v w47 hR48 => ?_)
  obtain ⟨A50, c51, rfl, hk_⟩ := hR48
  have hS49 : St (fpL [blk l21 (LO18 none), blk g3 (.cells #[(.slice A14 l16.length c15)] 28 (0, 0)), flgO b17 48 enc_Tile A14 c15 l16]) w33 w47 [rowR enc_Tile A28 c29 x27, rowR enc_Tile Aa ca p0] [rowO 48 enc_Tile A50 c51 t45, blk l21 LB19, blk g3 (.cells #[(.slice A14 l16.length c15)] 28 (0, 0)), flgO b17 48 enc_Tile A14 c15 l16] := hS44.call hk_ [] [0, 1, 2] (fun g hg => hg.elim) (by simp) (by decide)
  refine ⟨trivial, ?_⟩
  refine sg 3 [] [3, 5] [(3, (pt g3)), (5, (sv A50 t45 c51))] (by kernel_rfl) ?_
  refine WL.done rfl (WX.next (WC.seq (WC.region ?_)))
  refine seg 1 [.v (sv A14 l16 c15)] [3, 5, 11] [(3, (pt g3)), (5, (sv A50 t45 c51)), (11, (sv A14 l16 c15))] [.cell ⟨g3, 0, none⟩ (sv A14 l16 c15)] (fun fb => by kernel_rfl) rfl ⟨hS49.cell 2 rfl 0 rfl, trivial⟩ ?_
  rcases nilM_some hf37 with ⟨hb52, hf37⟩ | ⟨hb52, hf37⟩
  ·
   obtain rfl := hS49.flg 3 rfl hb52
   have hS53 : St (fpL [blk l21 (LO18 none), blk g3 (.cells #[(sv none l16 c15)] 28 (0, 0)), flgO b17 48 enc_Tile none c15 l16]) w33 w47 [rowR enc_Tile A28 c29 x27, rowR enc_Tile Aa ca p0] [rowO 48 enc_Tile none c15 l16, rowO 48 enc_Tile A50 c51 t45, blk l21 LB19, blk g3 (.cells #[(sv none l16 c15)] 28 (0, 0))] := hS49.unFlg 3 rfl [0, 1, 2] (by decide) (by decide)
   refine sg 8 [] [3, 5, 18] [(3, (pt g3)), (5, (sv A50 t45 c51)), (18, (bv true))] (by kernel_rfl) ?_
   refine WL.done rfl (WX.next ?_)
   refine WC.condT (fun fb => by kernel_rfl) ?_
   refine WC.region ?_
   refine sg 1 [] [3, 19] [(3, (pt g3)), (19, (sv A50 t45 c51))] (by kernel_rfl) ?_
   refine WL.store hS53 3 rfl [(0, (sv A50 t45 c51))] #[(sv A50 t45 c51)] (fun fb => by kernel_rfl) (by kernel_rfl) rfl [0, 1, 2] (by decide) (by decide) (fun w54 hS55 => ?_)
   refine ⟨trivial, ?_⟩
   refine WL.done rfl ?_
   have hS56 := hS53.go w54 [flgO false 48 enc_Tile A50 c51 t45, blk g3 (.cells #[(sv A50 t45 c51)] 28 (0, 0)), rowO 48 enc_Tile none c15 l16, blk l21 LB19] (hS55.toFlg 2 rfl false (fun h => by cases h) [0, 1, 3] (by decide) (by decide))
   injection hf37 with hf37
   subst hf37
   exact WX.blockN (WX.roundN' hK24 (hS56.blkAt 3 rfl) ⟨(A50, c51), rfl, ((hS56.putO 3 rfl (LO18 none) [0, 1, 2] (by decide) (by decide)).sub [0, 2, 1] (by decide)).noR.closeSep⟩)
  obtain ⟨a57, rfl⟩ := hS49.flgSome 3 rfl hb52
  have hS58 : St (fpL [blk l21 (LO18 none), blk g3 (.cells #[(sv (some a57) l16 c15)] 28 (0, 0)), flgO b17 48 enc_Tile (some a57) c15 l16]) w33 w47 [rowR enc_Tile A28 c29 x27, rowR enc_Tile Aa ca p0] [rowO 48 enc_Tile (some a57) c15 l16, rowO 48 enc_Tile A50 c51 t45, blk l21 LB19, blk g3 (.cells #[(sv (some a57) l16 c15)] 28 (0, 0))] := hS49.unFlg 3 rfl [0, 1, 2] (by decide) (by decide)
  refine seg 5 [.v (sv (some a57) l16 c15)] [3, 5, 13, 14, 15] [(3, (pt g3)), (5, (sv A50 t45 c51)), (13, (bv false)), (14, (sv A50 t45 c51)), (15, (sv (some a57) l16 c15))] [.cell ⟨g3, 0, none⟩ (sv (some a57) l16 c15)] (fun fb => by kernel_rfl) rfl ⟨hS58.cell 3 rfl 0 rfl, trivial⟩ ?_
  obtain ⟨t59, ht60, hf37⟩ := bind_some hf37
  refine WL.call (some 16) 38 #[(sv A50 t45 c51), (sv (some a57) l16 c15)] (fun fb => by kernel_rfl) (census_before_calls _ t45 l16 A50 c51 (some a57) c15 t59 _ (hS58.ow 1).ofO (hS58.ow 0).ofO ht60) (fun v w61 hR62 => ?_)
  obtain ⟨rfl, hk_⟩ := hR62
  have hS63 := hS58.keepN hk_
  refine ⟨trivial, ?_⟩
  refine sg 8 [] [3, 5, 18] [(3, (pt g3)), (5, (sv A50 t45 c51)), (18, (bv (decide (t59 < 0))))] (by kernel_rfl) ?_
  refine WL.done rfl (WX.next ?_)
  obtain ⟨x66, hx67, hf37⟩ := bind_some hf37
  refine WC.cutN (T := (List Tile) × (Option Addr) × Nat) (fun t => [(3, (pt g3))]) (fun t w1 => St (fpL [blk l21 (LO18 none), blk g3 (.cells #[(sv (some a57) l16 c15)] 28 (0, 0)), flgO b17 48 enc_Tile (some a57) c15 l16]) w33 w1 [rowR enc_Tile A28 c29 x27, rowR enc_Tile Aa ca p0] [blk g3 (.cells #[(sv t.2.1 t.1 t.2.2)] 28 (0, 0)), rowO 48 enc_Tile t.2.1 t.2.2 t.1, blk l21 LB19] ∧ x66 = t.1) (fun Kx66 => ?_) ?_
  ·
   rcases br_some hx67 with ⟨h68, hx67⟩ | ⟨h68, hx67⟩
   ·refine WC.condT2 (fun fb => by kernel_rfl) h68 ?_
    refine WC.region ?_
    refine sg 1 [] [3, 19] [(3, (pt g3)), (19, (sv A50 t45 c51))] (by kernel_rfl) ?_
    refine WL.store hS63 3 rfl [(0, (sv A50 t45 c51))] #[(sv A50 t45 c51)] (fun fb => by kernel_rfl) (by kernel_rfl) rfl [0, 1, 2] (by decide) (by decide) (fun w69 hS70 => ?_)
    refine ⟨trivial, ?_⟩
    refine WL.done rfl ?_
    injection hx67 with hx67
    exact WX.to Kx66 (t45, A50, c51) [3] rfl ⟨(hS70.subR [0, 1]).sub [0, 2, 3] (by decide), hx67.symm⟩
   refine WC.condF2 (fun fb => by kernel_rfl) h68 ?_
   refine WC.skip ?_
   injection hx67 with hx67
   exact WX.to Kx66 (l16, (some a57), c15) [3] rfl ⟨(hS63.subR [0, 1]).sub [3, 0, 2] (by decide), hx67.symm⟩
  rintro ⟨y74, A64, c65⟩ w71 ⟨hS72, hq73⟩
  subst hq73
  have hS75 := hS58.go w71 [flgO false 48 enc_Tile A64 c65 x66, blk g3 (.cells #[(sv A64 x66 c65)] 28 (0, 0)), blk l21 LB19] (hS72.toFlg 1 rfl false (fun h => by cases h) [0, 2] (by decide) (by decide))
  injection hf37 with hf37
  subst hf37
  exact WX.blockN (WX.roundN' hK24 (hS75.blkAt 2 rfl) ⟨(A64, c65), rfl, ((hS75.putO 2 rfl (LO18 none) [0, 1] (by decide) (by decide)).sub [0, 2, 1] (by decide)).noR.closeSep⟩)
 obtain ⟨t76, ht77, hf⟩ := bind_some hf
 refine (census_orders_1_y_calls _ p0 (census_least.b1 k ) ((true, ([] : List Tile)), (0 : Int)) g11 Aa ca l21 (fun (s_ : (Bool × (List Tile)) × Int) (t_ : (Option Addr) × Nat) => sepO (blk l21 (LO18 (pendN [] s_.2)) :: [blk g3 (.cells #[(sv t_.1 s_.1.2 t_.2)] 28 (0, 0)), flgO s_.1.1 48 enc_Tile t_.1 t_.2 s_.1.2])) (none, 0) (poolO [rowR enc_Tile Aa ca p0]) t76 _ (hS26.rdP [0]) (hS26.owT [0] 2 (by decide)) (hS26.rdT [0] 0) (hS26.io [0] (by decide)) hY30 ht77).post (fun v w78 hR79 => ?_)
 obtain ⟨tt81, rfl, hk_⟩ := hR79
 have hS80 := hS26.go w78 [(fun (s_ : (Bool × (List Tile)) × Int) (t_ : (Option Addr) × Nat) => sepO (blk l21 (LO18 (pendN [] s_.2)) :: [blk g3 (.cells #[(sv t_.1 s_.1.2 t_.2)] 28 (0, 0)), flgO s_.1.1 48 enc_Tile t_.1 t_.2 s_.1.2])) t76 tt81, blk D22 (.deferred (some [])), blk g11 (.cells #[(sv Aa p0 ca)] 28 (0, 0))] (hS26.call hk_ [0] [1, 2] (fun g hg => fpL_sel g hg) (by decide) (by decide))
 have hS82 := hS80.go w78 [blk l21 (LO18 (pendN [] t76.2)), blk g3 (.cells #[(sv tt81.1 t76.1.2 tt81.2)] 28 (0, 0)), flgO t76.1.1 48 enc_Tile tt81.1 tt81.2 t76.1.2, blk D22 (.deferred (some [])), blk g11 (.cells #[(sv Aa p0 ca)] 28 (0, 0))] (hS80.unpack 0 rfl [1, 2] (by decide) (by decide))
 refine ⟨_, hS82.blkAt 0 rfl, ?_⟩
 have hS83 := (hS82.putO 0 rfl (LX20 (pendN [] t76.2)) [1, 2, 3, 4] (by decide) (by decide)).tail
 revert hS83
 generalize World.putObj _ _ _ = w84
 intro hS83
 have hS85 := hS82.go w84 [blk g3 (.cells #[(sv tt81.1 t76.1.2 tt81.2)] 28 (0, 0)), flgO t76.1.1 48 enc_Tile tt81.1 tt81.2 t76.1.2, blk D22 (.deferred (some [])), blk g11 (.cells #[(sv Aa p0 ca)] 28 (0, 0))] (hS83)
 obtain ⟨h86, hf⟩ := as_some hf
 rw [h86]
 refine WX.keep [3, 4294967295] [(3, (pt g3)), (4294967295, (.func (.yield D22) #[] #[]))] rfl ?_
 refine WX.blockN (WX.next ?_)
 refine WC.seq (WC.region ?_)
 refine seg 2 [.v (sv tt81.1 t76.1.2 tt81.2)] [2, 4294967295] [(2, (sv tt81.1 t76.1.2 tt81.2)), (4294967295, (.func (.yield D22) #[] #[]))] [.cell ⟨g3, 0, none⟩ (sv tt81.1 t76.1.2 tt81.2)] (fun fb => by kernel_rfl) rfl ⟨hS85.cell 0 rfl 0 rfl, trivial⟩ ?_
 refine WL.done rfl (WX.next ?_)
 refine WC.ret ?_
 have hS87 := hS85.go w84 [rowO 48 enc_Tile tt81.1 tt81.2 t76.1.2, blk g3 (.cells #[(sv tt81.1 t76.1.2 tt81.2)] 28 (0, 0)), blk D22 (.deferred (some [])), blk g11 (.cells #[(sv Aa p0 ca)] 28 (0, 0))] (hS85.unFlg 1 rfl [0, 2, 3] (by decide) (by decide))
 injection hf with hf
 subst hf
 exact WX.retM hS87 2 rfl rfl [0, 1, 3] (by decide) (by decide) [] (sv tt81.1 t76.1.2 tt81.2) [] (fun fb => by kernel_rfl) (fun w89 hS88 => ⟨trivial, ⟨tt81.1, tt81.2, rfl, (hS88.sub [0] (by decide)).noR⟩⟩)
theorem census_words_1_1_y_calls {σ τ : Type} : ∀ (k : Nat) (p0 : Int) (p1 : Int) (f0 : Int) (f2 : List Int) (yf : (List Int) → σ → Option (σ × Bool)) (sY : σ) (ga : Nat) (gb : Nat) (gc : Nat) (Aa : Option Addr) (ca : Nat) (gd : Nat) (yl : Nat) (Y : σ → τ → Own) (tY : τ) (Rd : Own) (r : Bool × σ × (List Int)) (w : World) (hR0 : RO (fpL [Y sY tY, blk gc (.cells #[(sv Aa f2 ca)] 37 (0, 0)), rowO 3 encInt Aa ca f2]) w (blk ga (.cells #[(iv f0)] 3 (0, 0)))) (hR1 : RO (fpL [Y sY tY, blk gc (.cells #[(sv Aa f2 ca)] 37 (0, 0)), rowO 3 encInt Aa ca f2]) w (Rd)) (hR2 : RO (fpL [Y sY tY, blk gc (.cells #[(sv Aa f2 ca)] 37 (0, 0)), rowO 3 encInt Aa ca f2]) w (blk gb (.cells #[(.func (.yield yl) #[] #[])] 86 (0, 0)))) (hR3 : RO (fpL [Y sY tY, blk gc (.cells #[(sv Aa f2 ca)] 37 (0, 0)), rowO 3 encInt Aa ca f2]) w (blk gd (.cells #[(.func (.func 54) #[] #[(pt ga), (pt gb), (pt gc), (pt gd)])] 87 (0, 0)))) (hI : IoOK w [Y sY tY, blk gc (.cells #[(sv Aa f2 ca)] 37 (0, 0)), rowO 3 encInt Aa ca f2]) (hY : ∀ (x0_ : List Int) (A0_ : Option Addr) (c0_ : Nat) (s_ : σ) (t_ : τ) (r_ : σ × Bool) (w_ : World), RO (fpL [Y s_ t_]) w_ (rowR encInt A0_ c0_ x0_) → RO (fpL [Y s_ t_]) w_ Rd → IoOK w_ [Y s_ t_] → yf x0_ s_ = some r_ → YieldR Try.prog (.func (.yield yl) #[] #[]) #[(sv A0_ x0_ c0_)] w_ (fun v_ w' => ∃ t1_, v_ = .bool r_.2 ∧ St (fpL [Y s_ t_]) w_ w' [] [Y r_.1 t1_])) (hf : census_words_1_1_y k p0 p1 f0 f2 yf sY = some r),
  CallsR Try.prog 54 #[(iv p0), (iv p1), (pt ga), (pt gb), (pt gc), (pt gd)] w (fun v w' => ∃ (t1_ : τ), ∃ (A1_ : Option Addr), ∃ (c1_ : Nat), v = (bv r.1) ∧ St (fpL [Y sY tY, blk gc (.cells #[(sv Aa f2 ca)] 37 (0, 0)), rowO 3 encInt Aa ca f2]) w w' [] [Y r.2.1 t1_, blk gc (.cells #[(sv A1_ r.2.2 c1_)] 37 (0, 0)), rowO 3 encInt A1_ c1_ r.2.2]) := by
 intro k
 induction k with
 | zero => intro p0 p1 f0 f2 yf sY ga gb gc Aa ca gd yl Y tY Rd r w hR0 hR1 hR2 hR3 hI hY hf; rw [census_words_1_1_y] at hf; cases hf
 | succ k ih_ =>
 intro p0 p1 f0 f2 yf sY ga gb gc Aa ca gd yl Y tY Rd r w hR0 hR1 hR2 hR3 hI hY hf
 have hS : St (fpL [Y sY tY, blk gc (.cells #[(sv Aa f2 ca)] 37 (0, 0)), rowO 3 encInt Aa ca f2]) w w [blk ga (.cells #[(iv f0)] 3 (0, 0)), Rd, blk gb (.cells #[(.func (.yield yl) #[] #[])] 86 (0, 0)), blk gd (.cells #[(.func (.func 54) #[] #[(pt ga), (pt gb), (pt gc), (pt gd)])] 87 (0, 0))] [Y sY tY, blk gc (.cells #[(sv Aa f2 ca)] 37 (0, 0)), rowO 3 encInt Aa ca f2] := St.initIO (ro_cons hR0 (ro_cons hR1 (ro_cons hR2 (ro_cons hR3 (ro_nil _ _))))) hI
 rw [census_words_1_1_y] at hf
 generalize census_words_1_1_y k = rc_ at hf ih_
 refine enter 35 Try.func54 rfl Try.ntmps54 rfl ?_
 refine WC.seq (WC.region ?_)
 refine sg 1 [] [0, 1, 2, 3, 4, 5] [(0, (iv p0)), (1, (iv p1)), (2, (pt ga)), (3, (pt gb)), (4, (pt gc)), (5, (pt gd))] (by kernel_rfl) ?_
 refine WL.done rfl (WX.next (WC.seq (WC.seq (WC.region ?_))))
 refine seg 3 [.v (iv f0)] [0, 1, 3, 4, 5, 12] [(0, (iv p0)), (1, (iv p1)), (3, (pt gb)), (4, (pt gc)), (5, (pt gd)), (12, (bv (p0 == f0)))] [.cell ⟨ga, 0, none⟩ (iv f0)] (fun fb => by kernel_rfl) rfl ⟨blk_cell (hS.rd 0).1 0 rfl, trivial⟩ ?_
 refine WL.done rfl (WX.next ?_)
 rcases br_some hf with ⟨h4, hf⟩ | ⟨h4, hf⟩
 ·refine WC.condT2 (fun fb => by kernel_rfl) h4 ?_
  refine WC.seq (WC.region ?_)
  refine seg 2 [.v (.func (.yield yl) #[] #[]), .v (sv Aa f2 ca)] [4, 13, 14] [(4, (pt gc)), (13, (.func (.yield yl) #[] #[])), (14, (sv Aa f2 ca))] [.cell ⟨gb, 0, none⟩ (.func (.yield yl) #[] #[]), .cell ⟨gc, 0, none⟩ (sv Aa f2 ca)] (fun fb => by kernel_rfl) rfl ⟨blk_cell (hS.rd 2).1 0 rfl, hS.cell 1 rfl 0 rfl, trivial⟩ ?_
  obtain ⟨t5, ht6, hf⟩ := bind_some hf
  refine WL.yield (some 15) (.func (.yield yl) #[] #[]) #[(sv Aa f2 ca)] (fun fb => by kernel_rfl) (hY f2 Aa ca sY tY t5 _ (hS.owT [0] 2 (by decide)).ofO (hS.rdT [0] 1) (hS.io [0] (by decide)) ht6) (fun v w7 hR8 => ?_)
  obtain ⟨tt10, rfl, hk_⟩ := hR8
  have hS9 := hS.go w7 [Y t5.1 tt10, blk gc (.cells #[(sv Aa f2 ca)] 37 (0, 0)), rowO 3 encInt Aa ca f2] (hS.call hk_ [0] [1, 2] (fun g hg => fpL_sel g hg) (by decide) (by decide))
  refine ⟨trivial, ?_⟩
  refine sg 4 [] [4, 8] [(4, (pt gc)), (8, (bv t5.2))] (by kernel_rfl) ?_
  refine WL.done rfl (WX.next ?_)
  refine WC.ret ?_
  injection hf with hf
  subst hf
  exact WX.thenR (WX.ret_ [] (bv t5.2) [] (fun fb => by kernel_rfl) trivial ⟨_, rfl, tt10, Aa, ca, rfl, (hS9.sub [0, 1, 2] (by decide)).noR⟩)
 refine WC.condF2 (fun fb => by kernel_rfl) h4 ?_
 refine WC.skip (WX.next (WC.seq (WC.seq (WC.region ?_))))
 refine sg 3 [] [0, 1, 4, 5, 17, 18] [(0, (iv p0)), (1, (iv p1)), (4, (pt gc)), (5, (pt gd)), (17, (iv (w64 (p1 + 1)))), (18, (iv 0))] (by kernel_rfl) ?_
 refine WL.done rfl (WX.next ?_)
 obtain ⟨x20, hx21, hf⟩ := bind_some hf
 refine WC.cutN (T := ((List Int) × σ) × (Option Addr) × Nat × τ) (fun t => [(4, (pt gc))]) (fun t w1 => St (fpL [Y sY tY, blk gc (.cells #[(sv Aa f2 ca)] 37 (0, 0)), rowO 3 encInt Aa ca f2]) w w1 [blk ga (.cells #[(iv f0)] 3 (0, 0)), Rd, blk gb (.cells #[(.func (.yield yl) #[] #[])] 86 (0, 0)), blk gd (.cells #[(.func (.func 54) #[] #[(pt ga), (pt gb), (pt gc), (pt gd)])] 87 (0, 0))] [blk gc (.cells #[(sv t.2.1 t.1.1 t.2.2.1)] 37 (0, 0)), rowO 3 encInt t.2.1 t.2.2.1 t.1.1, Y t.1.2 t.2.2.2] ∧ x20 = .inr t.1) (fun Kx20 => ?_) ?_
 ·
  refine WC.block ?_
  refine WC.loop (T := ((List Int) × Int × σ) × (Option Addr) × Nat × τ) (fun t => [(0, (iv p0)), (1, (iv p1)), (4, (pt gc)), (5, (pt gd)), (17, (iv (w64 (p1 + 1)))), (18, (iv t.1.2.1))]) (fun n t w1 => St (fpL [Y sY tY, blk gc (.cells #[(sv Aa f2 ca)] 37 (0, 0)), rowO 3 encInt Aa ca f2]) w w1 [blk ga (.cells #[(iv f0)] 3 (0, 0)), Rd, blk gb (.cells #[(.func (.yield yl) #[] #[])] 86 (0, 0)), blk gd (.cells #[(.func (.func 54) #[] #[(pt ga), (pt gb), (pt gc), (pt gd)])] 87 (0, 0))] [blk gc (.cells #[(sv t.2.1 t.1.1 t.2.2.1)] 37 (0, 0)), rowO 3 encInt t.2.1 t.2.2.1 t.1.1, Y t.1.2.2 t.2.2.2] ∧ census_words_1_1_y.l0 n t.1.1 t.1.2.1 t.1.2.2 p0 p1 f0 yf rc_ = some x20) k ((f2, 0, sY), Aa, ca, tY) [0, 1, 4, 5, 17, 18] rfl ⟨(hS.subR [0, 1, 2, 3]).sub [1, 2, 0] (by decide), hx21⟩ ?_
  rintro k22 ⟨⟨l13, x14, s15⟩, A11, c12, tt16⟩ w23 ⟨hS24, hl25⟩
  cases k22 with
  | zero => rw [census_words_1_1_y.l0] at hl25; cases hl25
  | succ k22 =>
   rw [census_words_1_1_y.l0] at hl25
   refine WC.seq (WC.region ?_)
   refine sg 1 [] [0, 1, 4, 5, 17, 18, 19] [(0, (iv p0)), (1, (iv p1)), (4, (pt gc)), (5, (pt gd)), (17, (iv (w64 (p1 + 1)))), (18, (iv x14)), (19, (bv (decide (x14 < w64 (p1 + 1)))))] (by kernel_rfl) ?_
   refine WL.done rfl (WX.next (WC.seq ?_))
   rcases br_some hl25 with ⟨h26, hl25⟩ | ⟨h26, hl25⟩
   ·refine WC.condT2 (fun fb => by kernel_rfl) h26 ?_
    refine WC.skip (WX.next (WC.seq (WC.block (WC.seq (WC.region ?_)))))
    refine sg 2 [] [0, 1, 4, 5, 9, 17, 18] [(0, (iv p0)), (1, (iv p1)), (4, (pt gc)), (5, (pt gd)), (9, (iv x14)), (17, (iv (w64 (p1 + 1)))), (18, (iv x14))] (by kernel_rfl) ?_
    refine WL.done rfl (WX.next (WC.seq (WC.region ?_)))
    refine seg 3 [.v (sv A11 l13 c12)] [0, 1, 4, 5, 9, 17, 18, 21, 22, 23] [(0, (iv p0)), (1, (iv p1)), (4, (pt gc)), (5, (pt gd)), (9, (iv x14)), (17, (iv (w64 (p1 + 1)))), (18, (iv x14)), (21, (sv A11 l13 c12)), (22, (iv p0)), (23, (iv x14))] [.cell ⟨gc, 0, none⟩ (sv A11 l13 c12)] (fun fb => by kernel_rfl) rfl ⟨hS24.cell 0 rfl 0 rfl, trivial⟩ ?_
    obtain ⟨h27, hl25⟩ := as_some hl25
    refine seg 4 [] [0, 1, 4, 5, 9, 17, 18, 23, 24] [(0, (iv p0)), (1, (iv p1)), (4, (pt gc)), (5, (pt gd)), (9, (iv x14)), (17, (iv (w64 (p1 + 1)))), (18, (iv x14)), (23, (iv x14)), (24, (.pointer (some ((adr A11).add ((p0).toNat * 1)))))] [.idx A11 p0 l13.length] (fun fb => by kernel_rfl) rfl ⟨rowR.adr (rowO.rd (hS24.own 1).1) h27.1 h27.2, trivial⟩ ?_
    refine WL.storeRow hS24 1 rfl (p0) (x14) (0) [(0, (iv x14))] (fun fb => by kernel_rfl) h27.1 h27.2 (by kernel_rfl) rfl [0, 2] (by decide) (by decide) (fun w28 hS29 => ?_)
    refine ⟨trivial, ?_⟩
    have hS30 : St (fpL [Y sY tY, blk gc (.cells #[(.slice Aa f2.length ca)] 37 (0, 0)), rowO 3 encInt Aa ca f2]) w w28 [blk ga (.cells #[(iv f0)] 3 (0, 0)), Rd, blk gb (.cells #[(.func (.yield yl) #[] #[])] 86 (0, 0)), blk gd (.cells #[(.func (.func 54) #[] #[(pt ga), (pt gb), (pt gc), (pt gd)])] 87 (0, 0))] [rowO 3 encInt A11 c12 (l13.set (p0).toNat x14), blk gc (.cells #[(.slice A11 (l13.set (p0).toNat x14).length c12)] 37 (0, 0)), Y s15 tt16] := by simpa only [List.length_set] using (show St (fpL [Y sY tY, blk gc (.cells #[(.slice Aa f2.length ca)] 37 (0, 0)), rowO 3 encInt Aa ca f2]) w w28 [blk ga (.cells #[(iv f0)] 3 (0, 0)), Rd, blk gb (.cells #[(.func (.yield yl) #[] #[])] 86 (0, 0)), blk gd (.cells #[(.func (.func 54) #[] #[(pt ga), (pt gb), (pt gc), (pt gd)])] 87 (0, 0))] [rowO 3 encInt A11 c12 (l13.set (p0).toNat x14), blk gc (.cells #[(.slice A11 l13.length c12)] 37 (0, 0)), Y s15 tt16] from hS29)
    refine WL.done rfl (WX.next (WC.seq (WC.region ?_)))
    refine seg 7 [.v (.func (.func 54) #[] #[(pt ga), (pt gb), (pt gc), (pt gd)])] [0, 1, 4, 5, 17, 18, 25, 27, 31] [(0, (iv p0)), (1, (iv p1)), (4, (pt gc)), (5, (pt gd)), (17, (iv (w64 (p1 + 1)))), (18, (iv x14)), (25, (.func (.func 54) #[] #[(pt ga), (pt gb), (pt gc), (pt gd)])), (27, (iv (w64 (p0 + 1)))), (31, (iv (maxI p1 (w64 (x14 + 1)))))] [.cell ⟨gd, 0, none⟩ (.func (.func 54) #[] #[(pt ga), (pt gb), (pt gc), (pt gd)])] (fun fb => by kernel_rfl) rfl ⟨blk_cell (hS30.rd 3).1 0 rfl, trivial⟩ ?_
    obtain ⟨t31, ht32, hl25⟩ := bind_some hl25
    refine WL.call (some 32) 54 #[(iv (w64 (p0 + 1))), (iv (maxI p1 (w64 (x14 + 1)))), (pt ga), (pt gb), (pt gc), (pt gd)] (fun fb => by kernel_rfl) (ih_ (w64 (p0 + 1)) (maxI p1 (w64 (x14 + 1))) f0 (l13.set (p0).toNat x14) yf s15 ga gb gc A11 c12 gd yl Y tt16 Rd t31 _ (hS30.rdT [2, 1, 0] 0) (hS30.rdT [2, 1, 0] 1) (hS30.rdT [2, 1, 0] 2) (hS30.rdT [2, 1, 0] 3) (hS30.io [2, 1, 0] (by decide)) hY ht32) (fun v w33 hR34 => ?_)
    obtain ⟨tt36, A37, c38, rfl, hk_⟩ := hR34
    have hS35 := hS.go w33 [Y t31.2.1 tt36, blk gc (.cells #[(sv A37 t31.2.2 c38)] 37 (0, 0)), rowO 3 encInt A37 c38 t31.2.2] (hS30.call hk_ [2, 1, 0] [] (fun g hg => fpL_sel g hg) (by decide) (by decide))
    refine ⟨trivial, ?_⟩
    refine sg 9 [] [0, 1, 4, 5, 17, 18, 33] [(0, (iv p0)), (1, (iv p1)), (4, (pt gc)), (5, (pt gd)), (17, (iv (w64 (p1 + 1)))), (18, (iv x14)), (33, (bv (!t31.1)))] (by kernel_rfl) ?_
    refine WL.done rfl (WX.next ?_)
    rcases br_some hl25 with ⟨h39, hl25⟩ | ⟨h39, hl25⟩
    ·refine WC.condT2 (fun fb => by kernel_rfl) h39 ?_
     refine WC.seq (WC.region ?_)
     refine sg 1 [] [4, 8] [(4, (pt gc)), (8, (bv false))] (by kernel_rfl) ?_
     refine WL.done rfl (WX.next ?_)
     refine WC.ret ?_
     injection hl25 with hl25
     subst hl25
     injection hf with hf
     subst hf
     exact WX.blockR (WX.thenR (WX.thenR (WX.blockR (WX.thenR (WX.ret_ [] (bv false) [] (fun fb => by kernel_rfl) trivial ⟨_, rfl, tt36, A37, c38, rfl, (hS35.sub [0, 1, 2] (by decide)).noR⟩)))))
    refine WC.condF2 (fun fb => by kernel_rfl) h39 ?_
    refine WC.skip ?_
    refine WX.blockN (WX.next ?_)
    refine WC.region ?_
    refine sg 2 [] [0, 1, 4, 5, 17, 18] [(0, (iv p0)), (1, (iv p1)), (4, (pt gc)), (5, (pt gd)), (17, (iv (w64 (p1 + 1)))), (18, (iv (w64 (x14 + 1))))] (by kernel_rfl) ?_
    refine WL.done rfl ?_
    exact WX.again k22 (Nat.lt_succ_self _) ((t31.2.2, w64 (x14 + 1), t31.2.1), A37, c38, tt36) [0, 1, 4, 5, 17, 18] rfl ⟨(hS35.subR [0, 1, 2, 3]).sub [1, 2, 0] (by decide), hl25⟩
   refine WC.condF2 (fun fb => by kernel_rfl) h26 ?_
   refine WC.exit ?_
   injection hl25 with hl25
   exact WX.thenX (WX.thenX (WX.blockHere (WX.to Kx20 ((l13, s15), A11, c12, tt16) [4] rfl ⟨(hS24.subR [0, 1, 2, 3]).sub [0, 1, 2] (by decide), hl25.symm⟩)))
 rintro ⟨y43, A17, c18, tt19⟩ w40 ⟨hS41, hq42⟩
 subst hq42
 have hf := sum_inr hf
 refine WX.next (WC.seq (WC.region ?_))
 refine sg 1 [] [4, 8] [(4, (pt gc)), (8, (bv true))] (by kernel_rfl) ?_
 refine WL.done rfl (WX.next ?_)
 refine WC.ret ?_
 injection hf with hf
 subst hf
 exact WX.ret_ [] (bv true) [] (fun fb => by kernel_rfl) trivial ⟨_, rfl, tt19, A17, c18, rfl, (hS41.sub [2, 0, 1] (by decide)).noR⟩
theorem census_words_1_y_calls {σ τ : Type} (k : Nat) (f0 : Int) (yf : (List Int) → σ → Option (σ × Bool)) (sY : σ) (ga : Nat) (yl : Nat) (Y : σ → τ → Own) (tY : τ) (Rd : Own) (r : σ) (w : World) (hR0 : RO (fpL [Y sY tY]) w (Rd)) (hR1 : RO (fpL [Y sY tY]) w (blk ga (.cells #[(iv f0)] 3 (0, 0)))) (hI : IoOK w [Y sY tY]) (hY : ∀ (x0_ : List Int) (A0_ : Option Addr) (c0_ : Nat) (s_ : σ) (t_ : τ) (r_ : σ × Bool) (w_ : World), RO (fpL [Y s_ t_]) w_ (rowR encInt A0_ c0_ x0_) → RO (fpL [Y s_ t_]) w_ Rd → IoOK w_ [Y s_ t_] → yf x0_ s_ = some r_ → YieldR Try.prog (.func (.yield yl) #[] #[]) #[(sv A0_ x0_ c0_)] w_ (fun v_ w' => ∃ t1_, v_ = .bool r_.2 ∧ St (fpL [Y s_ t_]) w_ w' [] [Y r_.1 t1_])) (hf : census_words_1_y k f0 yf sY = some r) :
  CallsR Try.prog 53 #[(.func (.yield yl) #[] #[]), (pt ga)] w (fun v w' => ∃ (t1_ : τ), v = (.tuple #[]) ∧ St (fpL [Y sY tY]) w w' [] [Y r t1_]) := by
 have hS : St (fpL [Y sY tY]) w w [Rd, blk ga (.cells #[(iv f0)] 3 (0, 0))] [Y sY tY] := St.initIO (ro_cons hR0 (ro_cons hR1 (ro_nil _ _))) hI
 refine enter 10 Try.func53 rfl Try.ntmps53 rfl ?_
 unfold census_words_1_y at hf
 refine WC.seq (WC.region ?_)
 refine WL.new hS 2 [] (fun g => (pt g)) (.cells #[(.func (.yield yl) #[] #[])] 86 (0, 0)) [] (fun fb g => by kernel_rfl) trivial (fun g3 w4 hS5 => ?_)
 refine ⟨trivial, ?_⟩
 refine WL.done rfl (WX.next (WC.seq (WC.region ?_)))
 refine seg 1 [.v (iv f0)] [1, 2, 5] [(1, (pt ga)), (2, (pt g3)), (5, (iv f0))] [.cell ⟨ga, 0, none⟩ (iv f0)] (fun fb => by kernel_rfl) rfl ⟨blk_cell (hS5.rd 1).1 0 rfl, trivial⟩ ?_
 obtain ⟨h6, hf⟩ := as_some hf
 refine WL.make hS5 (e := encInt) (T := 3) (tS := 37) (z := (iv 0)) (bytes := 8) (d := 6) (0 : Int) f0 (fun fb => by kernel_rfl) (by kernel_rfl) (by kernel_rfl) rfl (by decide) h6 (by decide) (fun g7 w8 hS9 => ?_)
 refine ⟨trivial, ?_⟩
 refine WL.new hS9 3 [] (fun g => (pt g)) (.cells #[(.slice none 0 0)] 37 (0, 0)) [] (fun fb g => by kernel_rfl) trivial (fun g10 w11 hS12 => ?_)
 refine ⟨trivial, ?_⟩
 refine WL.store hS12 0 rfl [(0, (sv (some ⟨g7, 0, none⟩) (List.replicate f0.toNat (0 : Int)) f0.toNat))] #[(sv (some ⟨g7, 0, none⟩) (List.replicate f0.toNat (0 : Int)) f0.toNat)] (fun fb => by kernel_rfl) (by kernel_rfl) rfl [1, 2, 3] (by decide) (by decide) (fun w13 hS14 => ?_)
 refine ⟨trivial, ?_⟩
 refine WL.done rfl (WX.next (WC.seq (WC.region ?_)))
 refine WL.new hS14 4 [] (fun g => (pt g)) (.cells #[.nilFunc] 87 (0, 0)) [] (fun fb g => by kernel_rfl) trivial (fun g15 w16 hS17 => ?_)
 refine ⟨trivial, ?_⟩
 refine WL.done rfl (WX.next (WC.seq (WC.region ?_)))
 refine sg 1 [] [4, 7] [(4, (pt g15)), (7, (.func (.func 54) #[] #[(pt ga), (pt g3), (pt g10), (pt g15)]))] (by kernel_rfl) ?_
 refine WL.store hS17 0 rfl [(0, (.func (.func 54) #[] #[(pt ga), (pt g3), (pt g10), (pt g15)]))] #[(.func (.func 54) #[] #[(pt ga), (pt g3), (pt g10), (pt g15)])] (fun fb => by kernel_rfl) (by kernel_rfl) rfl [1, 2, 3, 4] (by decide) (by decide) (fun w18 hS19 => ?_)
 refine ⟨trivial, ?_⟩
 refine WL.done rfl (WX.next (WC.region ?_))
 refine seg 1 [.v (.func (.func 54) #[] #[(pt ga), (pt g3), (pt g10), (pt g15)])] [8] [(8, (.func (.func 54) #[] #[(pt ga), (pt g3), (pt g10), (pt g15)]))] [.cell ⟨g15, 0, none⟩ (.func (.func 54) #[] #[(pt ga), (pt g3), (pt g10), (pt g15)])] (fun fb => by kernel_rfl) rfl ⟨hS19.cell 0 rfl 0 rfl, trivial⟩ ?_
 obtain ⟨t20, ht21, hf⟩ := bind_some hf
 refine WL.call (some 9) 54 #[(iv 0), (iv 0), (pt ga), (pt g3), (pt g10), (pt g15)] (fun fb => by kernel_rfl) (census_words_1_1_y_calls _ 0 0 f0 (List.replicate f0.toNat (0 : Int)) yf sY ga g3 g10 (some ⟨g7, 0, none⟩) f0.toNat g15 yl Y tY Rd t20 _ (hS19.rdT [4, 1, 2] 1) (hS19.rdT [4, 1, 2] 0) (hS19.owT [4, 1, 2] 3 (by decide)) (hS19.owT [4, 1, 2] 0 (by decide)) (hS19.io [4, 1, 2] (by decide)) hY ht21) (fun v w22 hR23 => ?_)
 obtain ⟨tt25, A26, c27, rfl, hk_⟩ := hR23
 have hS24 := hS.go w22 [Y t20.2.1 tt25, blk g10 (.cells #[(sv A26 t20.2.2 c27)] 37 (0, 0)), rowO 3 encInt A26 c27 t20.2.2, blk g15 (.cells #[(.func (.func 54) #[] #[(pt ga), (pt g3), (pt g10), (pt g15)])] 87 (0, 0)), blk g3 (.cells #[(.func (.yield yl) #[] #[])] 86 (0, 0))] (hS19.call hk_ [4, 1, 2] [0, 3] (fun g hg => fpL_sel g hg) (by decide) (by decide))
 refine ⟨trivial, ?_⟩
 refine WL.done rfl ?_
 injection hf with hf
 subst hf
 exact WX.end_ [] (.tuple #[]) [] (fun fb => by kernel_rfl) trivial ⟨_, rfl, tt25, rfl, (hS24.sub [0] (by decide)).noR⟩
theorem census_forms_calls (k : Nat) (p0 : Int)  (r : (List (List Tile))) (w : World)  (hf : census_forms k p0 = some r) :
  CallsR Try.prog 22 #[(iv p0)] w (fun v w' => ∃ (A1_ : Option Addr), ∃ (c1_ : Nat), ∃ (z1_ : HF), v = (sv A1_ r c1_) ∧ St NoS w w' [] [rowO 28 (encSl Tile) A1_ c1_ (tag z1_ r), rowsO 48 enc_Tile z1_ r]) := by
 have hS : St NoS w w [] [] := St.init (ro_nil _ _)
 refine enter 63 Try.func22 rfl Try.ntmps22 rfl ?_
 unfold census_forms at hf
 refine WC.seq (WC.region ?_)
 refine WL.new hS 1 [] (fun g => (pt g)) (.cells #[(iv p0)] 3 (0, 0)) [] (fun fb g => by kernel_rfl) trivial (fun g32 w33 hS34 => ?_)
 refine ⟨trivial, ?_⟩
 refine sg 2 [] [1] [(1, (pt g32))] (by kernel_rfl) ?_
 refine WL.done rfl (WX.next (WC.seq (WC.region ?_)))
 refine WL.new hS34 3 [] (fun g => (pt g)) (.cells #[(.slice none 0 0)] 22 (0, 0)) [] (fun fb g => by kernel_rfl) trivial (fun g36 w37 hS38 => ?_)
 refine ⟨trivial, ?_⟩
 refine WL.done rfl (WX.next (WC.seq (WC.seq (WC.region ?_))))
 refine seg 2 [.v (iv p0)] [1, 3, 9] [(1, (pt g32)), (3, (pt g36)), (9, (iv (w64 (2 * p0))))] [.cell ⟨g32, 0, none⟩ (iv p0)] (fun fb => by kernel_rfl) rfl ⟨hS38.cell 1 rfl 0 rfl, trivial⟩ ?_
 obtain ⟨t44, ht45, hf⟩ := bind_some hf
 refine WL.call (some 10) 37 #[(iv (w64 (2 * p0)))] (fun fb => by kernel_rfl) (census_words_calls (w64 (2 * p0)) t44 _ ht45) (fun v w46 hR47 => ?_)
 obtain ⟨g49, rfl, hk_⟩ := hR47
 have hS48 := hS.go w46 [blk g49 (.cells #[(iv (w64 (2 * p0)))] 3 (0, 0)), blk g36 (.cells #[(.slice none 0 0)] 22 (0, 0)), blk g32 (.cells #[(iv p0)] 3 (0, 0))] (hS38.call hk_ [] [0, 1] (fun g hg => hg.elim) (by simp) (by decide))
 refine ⟨trivial, ?_⟩
 refine WL.done rfl (WX.next (WC.block ?_))
 have hS4 := hS48.go w46 [rowO 28 (encSl Tile) none 0 (tag hf0 ([] : List (List Tile))), blk g49 (.cells #[(iv (w64 (2 * p0)))] 3 (0, 0)), blk g36 (.cells #[(.slice none 0 0)] 22 (0, 0)), blk g32 (.cells #[(iv p0)] 3 (0, 0))] (hS48.nilrow 28 (encSl Tile))
 have hS5 := hS4.go w46 [rowsO 48 enc_Tile hf0 ([] : List (List Tile)), rowO 28 (encSl Tile) none 0 (tag hf0 ([] : List (List Tile))), blk g49 (.cells #[(iv (w64 (2 * p0)))] 3 (0, 0)), blk g36 (.cells #[(.slice none 0 0)] 22 (0, 0)), blk g32 (.cells #[(iv p0)] 3 (0, 0))] (hS4.rowsNil 48 enc_Tile 0)
 refine WC.rangeO hS5 (fun _ _ h => h) rfl (gf := 53) (lb := [(pt g49)]) (fun fb => by kernel_rfl) (fun _ => by kernel_rfl) (fun LO10 LB11 LX12 l13 D14 w15 hK16 hS17 => ?_)
 have hS18 := hS5.go w15 [(fun (s_ : (List (List Tile)) × Int) (t_ : (Option Addr) × Nat × HF) => sepO (blk l13 (LO10 (pendN [] s_.2)) :: [blk g32 (.cells #[(iv p0)] 3 (0, 0)), blk g36 (.cells #[(sv t_.1 s_.1 t_.2.1)] 22 (0, 0)), rowO 28 (encSl Tile) t_.1 t_.2.1 (tag t_.2.2 s_.1), rowsO 48 enc_Tile t_.2.2 s_.1])) (([] : List (List Tile)), (0 : Int)) (none, 0, hf0), blk D14 (.deferred (some [])), blk g49 (.cells #[(iv (w64 (2 * p0)))] 3 (0, 0))] (hS17.pack [0, 6, 5, 3, 2] [1, 4] (by decide) (by decide) (by decide))
 have hY23 : ∀ (x0_ : List Int) (A0_ : Option Addr) (c0_ : Nat) (s_ : (List (List Tile)) × Int) (t_ : (Option Addr) × Nat × HF) (r_ : ((List (List Tile)) × Int) × Bool) (w_ : World), RO (fpL [(fun (s_ : (List (List Tile)) × Int) (t_ : (Option Addr) × Nat × HF) => sepO (blk l13 (LO10 (pendN [] s_.2)) :: [blk g32 (.cells #[(iv p0)] 3 (0, 0)), blk g36 (.cells #[(sv t_.1 s_.1 t_.2.1)] 22 (0, 0)), rowO 28 (encSl Tile) t_.1 t_.2.1 (tag t_.2.2 s_.1), rowsO 48 enc_Tile t_.2.2 s_.1])) s_ t_]) w_ (rowR encInt A0_ c0_ x0_) → RO (fpL [(fun (s_ : (List (List Tile)) × Int) (t_ : (Option Addr) × Nat × HF) => sepO (blk l13 (LO10 (pendN [] s_.2)) :: [blk g32 (.cells #[(iv p0)] 3 (0, 0)), blk g36 (.cells #[(sv t_.1 s_.1 t_.2.1)] 22 (0, 0)), rowO 28 (encSl Tile) t_.1 t_.2.1 (tag t_.2.2 s_.1), rowsO 48 enc_Tile t_.2.2 s_.1])) s_ t_]) w_ (poolO []) → IoOK w_ [(fun (s_ : (List (List Tile)) × Int) (t_ : (Option Addr) × Nat × HF) => sepO (blk l13 (LO10 (pendN [] s_.2)) :: [blk g32 (.cells #[(iv p0)] 3 (0, 0)), blk g36 (.cells #[(sv t_.1 s_.1 t_.2.1)] 22 (0, 0)), rowO 28 (encSl Tile) t_.1 t_.2.1 (tag t_.2.2 s_.1), rowsO 48 enc_Tile t_.2.2 s_.1])) s_ t_] → census_forms.b1 k p0 x0_ s_ = some r_ → YieldR Try.prog (.func (.yield l13) #[] #[]) #[(sv A0_ x0_ c0_)] w_ (fun v_ w' => ∃ t1_, v_ = .bool r_.2 ∧ St (fpL [(fun (s_ : (List (List Tile)) × Int) (t_ : (Option Addr) × Nat × HF) => sepO (blk l13 (LO10 (pendN [] s_.2)) :: [blk g32 (.cells #[(iv p0)] 3 (0, 0)), blk g36 (.cells #[(sv t_.1 s_.1 t_.2.1)] 22 (0, 0)), rowO 28 (encSl Tile) t_.1 t_.2.1 (tag t_.2.2 s_.1), rowsO 48 enc_Tile t_.2.2 s_.1])) s_ t_]) w_ w' [] [(fun (s_ : (List (List Tile)) × Int) (t_ : (Option Addr) × Nat × HF) => sepO (blk l13 (LO10 (pendN [] s_.2)) :: [blk g32 (.cells #[(iv p0)] 3 (0, 0)), blk g36 (.cells #[(sv t_.1 s_.1 t_.2.1)] 22 (0, 0)), rowO 28 (encSl Tile) t_.1 t_.2.1 (tag t_.2.2 s_.1), rowsO 48 enc_Tile t_.2.2 s_.1])) r_.1 t1_]) := by
  rintro x19 A20 c21 ⟨l8, j24⟩ ⟨A6, c7, H9⟩ r25 w26 hro31 hRd27 hI28 hf29
  rw [census_forms.b1] at hf29
  replace hf29 := as_some hf29
  obtain ⟨hj35, hf29⟩ := hf29
  subst hj35
  have hRo40 := hRd27.openSep
  have hS30 : St (fpL [blk l13 (LO10 none), blk g32 (.cells #[(iv p0)] 3 (0, 0)), blk g36 (.cells #[(sv A6 l8 c7)] 22 (0, 0)), rowO 28 (encSl Tile) A6 c7 (tag H9 l8), rowsO 48 enc_Tile H9 l8]) w26 w26 [rowR encInt A20 c21 x19] [blk l13 (LO10 none), blk g32 (.cells #[(iv p0)] 3 (0, 0)), blk g36 (.cells #[(sv A6 l8 c7)] 22 (0, 0)), rowO 28 (encSl Tile) A6 c7 (tag H9 l8), rowsO 48 enc_Tile H9 l8] := St.initIO (ro_cons hro31.openSep (ro_nil _ _)) hI28.openSep
  refine YieldR.of_loop hK16 (hS30.blkAt 0 rfl) [(sv A20 x19 c21)] [1, 3] [(1, (pt g32)), (3, (pt g36))] [(11, (sv A20 x19 c21)), (1, (pt g32)), (3, (pt g36))] rfl rfl rfl rfl rfl ?_
  refine WC.region ?_
  refine WL.new hS30 4 [] (fun g => (pt g)) (.cells #[(.slice none 0 0)] 37 (0, 0)) [] (fun fb g => by kernel_rfl) trivial (fun g41 w42 hS43 => ?_)
  refine ⟨trivial, ?_⟩
  refine WL.store hS43 0 rfl [(0, (sv A20 x19 c21))] #[(sv A20 x19 c21)] (fun fb => by kernel_rfl) (by kernel_rfl) rfl [1, 2, 3, 4, 5] (by decide) (by decide) (fun w50 hS51 => ?_)
  refine ⟨trivial, ?_⟩
  refine WL.done rfl ?_
  refine WX.begin' hK16 (hS51.blkAt 1 rfl) ?_
  have hS52 := hS51.putO 1 rfl LB11 [0, 2, 3, 4, 5] (by decide) (by decide)
  revert hS52
  generalize World.putObj _ _ _ = w53
  intro hS52
  have hS54 := hS30.go w53 [blk l13 LB11, blk g41 (.cells #[(sv A20 x19 c21)] 37 (0, 0)), blk g32 (.cells #[(iv p0)] 3 (0, 0)), blk g36 (.cells #[(sv A6 l8 c7)] 22 (0, 0)), rowO 28 (encSl Tile) A6 c7 (tag H9 l8), rowsO 48 enc_Tile H9 l8] (hS52)
  refine WC.block (WC.seq (WC.region ?_))
  refine seg 2 [.v (iv p0)] [1, 3, 4, 13] [(1, (pt g32)), (3, (pt g36)), (4, (pt g41)), (13, (iv (w64 (2 * p0))))] [.cell ⟨g32, 0, none⟩ (iv p0)] (fun fb => by kernel_rfl) rfl ⟨hS54.cell 2 rfl 0 rfl, trivial⟩ ?_
  obtain ⟨t55, ht56, hf29⟩ := bind_some hf29
  refine WL.call (some 14) 37 #[(iv (w64 (2 * p0)))] (fun fb => by kernel_rfl) (census_words_calls (w64 (2 * p0)) t55 _ ht56) (fun v w57 hR58 => ?_)
  obtain ⟨g60, rfl, hk_⟩ := hR58
  have hS59 : St (fpL [blk l13 (LO10 none), blk g32 (.cells #[(iv p0)] 3 (0, 0)), blk g36 (.cells #[(.slice A6 l8.length c7)] 22 (0, 0)), rowO 28 (encSl Tile) A6 c7 (tag H9 l8), rowsO 48 enc_Tile H9 l8]) w26 w57 [rowR encInt A20 c21 x19] [blk g60 (.cells #[(iv (w64 (2 * p0)))] 3 (0, 0)), blk l13 LB11, blk g41 (.cells #[(.slice A20 x19.length c21)] 37 (0, 0)), blk g32 (.cells #[(iv p0)] 3 (0, 0)), blk g36 (.cells #[(.slice A6 l8.length c7)] 22 (0, 0)), rowO 28 (encSl Tile) A6 c7 (tag H9 l8), rowsO 48 enc_Tile H9 l8] := hS54.call hk_ [] [0, 1, 2, 3, 4, 5] (fun g hg => hg.elim) (by simp) (by decide)
  refine ⟨trivial, ?_⟩
  refine WL.done rfl (WX.next (WC.block ?_))
  refine WC.rangeI hS59 hK16 (fun l w => ⟨fun h => markA_inj h, fun h => by subst h; rfl⟩) (hS59.blkAt 1 rfl) rfl (gf := 53) (lb := [(pt g60)]) (fun fb => by kernel_rfl) (fun _ => by kernel_rfl) (fun LO66 LB67 LX68 l69 w70 hK71 hS72 => ?_)
  have hS73 := hS54.go w70 [(fun (s_ : (List (List Tile)) × Int) (t_ : (Option Addr) × Nat × HF) => sepO (blk l69 (LO66 (pendN [] s_.2)) :: [blk g32 (.cells #[(iv p0)] 3 (0, 0)), blk g36 (.cells #[(sv t_.1 s_.1 t_.2.1)] 22 (0, 0)), rowO 28 (encSl Tile) t_.1 t_.2.1 (tag t_.2.2 s_.1), rowsO 48 enc_Tile t_.2.2 s_.1, blk g41 (.cells #[(sv A20 x19 c21)] 37 (0, 0)), blk l13 LB11])) (l8, (0 : Int)) (A6, c7, H9), blk g60 (.cells #[(iv (w64 (2 * p0)))] 3 (0, 0))] (hS72.pack [0, 4, 5, 6, 7, 3, 2] [1] (by decide) (by decide) (by decide))
  have hY77 : ∀ (x0_ : List Int) (A0_ : Option Addr) (c0_ : Nat) (s_ : (List (List Tile)) × Int) (t_ : (Option Addr) × Nat × HF) (r_ : ((List (List Tile)) × Int) × Bool) (w_ : World), RO (fpL [(fun (s_ : (List (List Tile)) × Int) (t_ : (Option Addr) × Nat × HF) => sepO (blk l69 (LO66 (pendN [] s_.2)) :: [blk g32 (.cells #[(iv p0)] 3 (0, 0)), blk g36 (.cells #[(sv t_.1 s_.1 t_.2.1)] 22 (0, 0)), rowO 28 (encSl Tile) t_.1 t_.2.1 (tag t_.2.2 s_.1), rowsO 48 enc_Tile t_.2.2 s_.1, blk g41 (.cells #[(sv A20 x19 c21)] 37 (0, 0)), blk l13 LB11])) s_ t_]) w_ (rowR encInt A0_ c0_ x0_) → RO (fpL [(fun (s_ : (List (List Tile)) × Int) (t_ : (Option Addr) × Nat × HF) => sepO (blk l69 (LO66 (pendN [] s_.2)) :: [blk g32 (.cells #[(iv p0)] 3 (0, 0)), blk g36 (.cells #[(sv t_.1 s_.1 t_.2.1)] 22 (0, 0)), rowO 28 (encSl Tile) t_.1 t_.2.1 (tag t_.2.2 s_.1), rowsO 48 enc_Tile t_.2.2 s_.1, blk g41 (.cells #[(sv A20 x19 c21)] 37 (0, 0)), blk l13 LB11])) s_ t_]) w_ (poolO [rowR encInt A20 c21 x19]) → IoOK w_ [(fun (s_ : (List (List Tile)) × Int) (t_ : (Option Addr) × Nat × HF) => sepO (blk l69 (LO66 (pendN [] s_.2)) :: [blk g32 (.cells #[(iv p0)] 3 (0, 0)), blk g36 (.cells #[(sv t_.1 s_.1 t_.2.1)] 22 (0, 0)), rowO 28 (encSl Tile) t_.1 t_.2.1 (tag t_.2.2 s_.1), rowsO 48 enc_Tile t_.2.2 s_.1, blk g41 (.cells #[(sv A20 x19 c21)] 37 (0, 0)), blk l13 LB11])) s_ t_] → census_forms.b2 k p0 x19 x0_ s_ = some r_ → YieldR Try.prog (.func (.yield l69) #[] #[]) #[(sv A0_ x0_ c0_)] w_ (fun v_ w' => ∃ t1_, v_ = .bool r_.2 ∧ St (fpL [(fun (s_ : (List (List Tile)) × Int) (t_ : (Option Addr) × Nat × HF) => sepO (blk l69 (LO66 (pendN [] s_.2)) :: [blk g32 (.cells #[(iv p0)] 3 (0, 0)), blk g36 (.cells #[(sv t_.1 s_.1 t_.2.1)] 22 (0, 0)), rowO 28 (encSl Tile) t_.1 t_.2.1 (tag t_.2.2 s_.1), rowsO 48 enc_Tile t_.2.2 s_.1, blk g41 (.cells #[(sv A20 x19 c21)] 37 (0, 0)), blk l13 LB11])) s_ t_]) w_ w' [] [(fun (s_ : (List (List Tile)) × Int) (t_ : (Option Addr) × Nat × HF) => sepO (blk l69 (LO66 (pendN [] s_.2)) :: [blk g32 (.cells #[(iv p0)] 3 (0, 0)), blk g36 (.cells #[(sv t_.1 s_.1 t_.2.1)] 22 (0, 0)), rowO 28 (encSl Tile) t_.1 t_.2.1 (tag t_.2.2 s_.1), rowsO 48 enc_Tile t_.2.2 s_.1, blk g41 (.cells #[(sv A20 x19 c21)] 37 (0, 0)), blk l13 LB11])) r_.1 t1_]) := by
   rintro x74 A75 c76 ⟨l63, j78⟩ ⟨A61, c62, H65⟩ r79 w80 hro85 hRd81 hI82 hf83
   rw [census_forms.b2] at hf83
   replace hf83 := as_some hf83
   obtain ⟨hj86, hf83⟩ := hf83
   subst hj86
   have hRo87 := hRd81.openSep
   have hS84 : St (fpL [blk l69 (LO66 none), blk g32 (.cells #[(iv p0)] 3 (0, 0)), blk g36 (.cells #[(sv A61 l63 c62)] 22 (0, 0)), rowO 28 (encSl Tile) A61 c62 (tag H65 l63), rowsO 48 enc_Tile H65 l63, blk g41 (.cells #[(sv A20 x19 c21)] 37 (0, 0)), blk l13 LB11]) w80 w80 [rowR encInt A75 c76 x74, rowR encInt A20 c21 x19] [blk l69 (LO66 none), blk g32 (.cells #[(iv p0)] 3 (0, 0)), blk g36 (.cells #[(sv A61 l63 c62)] 22 (0, 0)), rowO 28 (encSl Tile) A61 c62 (tag H65 l63), rowsO 48 enc_Tile H65 l63, blk g41 (.cells #[(sv A20 x19 c21)] 37 (0, 0)), blk l13 LB11] := St.initIO (ro_cons hro85.openSep (ro_cons (poolO.ro hRo87 0) (ro_nil _ _))) hI82.openSep
   refine YieldR.of_loop hK71 (hS84.blkAt 0 rfl) [(sv A75 x74 c76)] [1, 3, 4] [(1, (pt g32)), (3, (pt g36)), (4, (pt g41))] [(15, (sv A75 x74 c76)), (1, (pt g32)), (3, (pt g36)), (4, (pt g41))] rfl rfl rfl rfl rfl ?_
   refine WC.region ?_
   refine sg 1 [] [1, 3, 4, 5] [(1, (pt g32)), (3, (pt g36)), (4, (pt g41)), (5, (sv A75 x74 c76))] (by kernel_rfl) ?_
   refine WL.done rfl ?_
   refine WX.begin' hK71 (hS84.blkAt 0 rfl) ?_
   have hS88 := hS84.putO 0 rfl LB67 [1, 2, 3, 4, 5, 6] (by decide) (by decide)
   revert hS88
   generalize World.putObj _ _ _ = w89
   intro hS88
   have hS90 := hS84.go w89 [blk l69 LB67, blk g32 (.cells #[(iv p0)] 3 (0, 0)), blk g36 (.cells #[(sv A61 l63 c62)] 22 (0, 0)), rowO 28 (encSl Tile) A61 c62 (tag H65 l63), rowsO 48 enc_Tile H65 l63, blk g41 (.cells #[(sv A20 x19 c21)] 37 (0, 0)), blk l13 LB11] (hS88)
   refine WC.block (WC.seq (WC.region ?_))
   refine sg 1 [] [1, 3, 4, 5, 6] [(1, (pt g32)), (3, (pt g36)), (4, (pt g41)), (5, (sv A75 x74 c76)), (6, (.slice none 0 0))] (by kernel_rfl) ?_
   refine WL.done rfl (WX.next (WC.seq (WC.seq (WC.region ?_))))
   refine seg 2 [.v (iv p0)] [1, 3, 4, 5, 6, 16, 17] [(1, (pt g32)), (3, (pt g36)), (4, (pt g41)), (5, (sv A75 x74 c76)), (6, (.slice none 0 0)), (16, (iv p0)), (17, (iv 0))] [.cell ⟨g32, 0, none⟩ (iv p0)] (fun fb => by kernel_rfl) rfl ⟨hS90.cell 1 rfl 0 rfl, trivial⟩ ?_
   refine WL.done rfl (WX.next ?_)
   have hS91 := hS90.nilrow 48 enc_Tile
   obtain ⟨x98, hx99, hf83⟩ := bind_some hf83
   refine WC.cutN (T := (List Tile) × (Option Addr) × Nat) (fun t => [(1, (pt g32)), (3, (pt g36)), (4, (pt g41)), (6, (sv t.2.1 t.1 t.2.2))]) (fun t w1 => St (fpL [blk l69 (LO66 none), blk g32 (.cells #[(iv p0)] 3 (0, 0)), blk g36 (.cells #[(sv A61 l63 c62)] 22 (0, 0)), rowO 28 (encSl Tile) A61 c62 (tag H65 l63), rowsO 48 enc_Tile H65 l63, blk g41 (.cells #[(sv A20 x19 c21)] 37 (0, 0)), blk l13 LB11]) w80 w1 [rowR encInt A75 c76 x74, rowR encInt A20 c21 x19] [blk g32 (.cells #[(iv p0)] 3 (0, 0)), blk g36 (.cells #[(sv A61 l63 c62)] 22 (0, 0)), rowO 28 (encSl Tile) A61 c62 (tag H65 l63), rowsO 48 enc_Tile H65 l63, blk g41 (.cells #[(sv A20 x19 c21)] 37 (0, 0)), rowO 48 enc_Tile t.2.1 t.2.2 t.1, blk l13 LB11, blk l69 LB67] ∧ x98 = t.1) (fun Kx98 => ?_) ?_
   ·
    refine WC.block ?_
    refine WC.loop (T := ((List Tile) × Int) × (Option Addr) × Nat) (fun t => [(1, (pt g32)), (3, (pt g36)), (4, (pt g41)), (5, (sv A75 x74 c76)), (6, (sv t.2.1 t.1.1 t.2.2)), (16, (iv p0)), (17, (iv t.1.2))]) (fun n t w1 => St (fpL [blk l69 (LO66 none), blk g32 (.cells #[(iv p0)] 3 (0, 0)), blk g36 (.cells #[(sv A61 l63 c62)] 22 (0, 0)), rowO 28 (encSl Tile) A61 c62 (tag H65 l63), rowsO 48 enc_Tile H65 l63, blk g41 (.cells #[(sv A20 x19 c21)] 37 (0, 0)), blk l13 LB11]) w80 w1 [rowR encInt A75 c76 x74, rowR encInt A20 c21 x19] [blk g32 (.cells #[(iv p0)] 3 (0, 0)), blk g36 (.cells #[(sv A61 l63 c62)] 22 (0, 0)), rowO 28 (encSl Tile) A61 c62 (tag H65 l63), rowsO 48 enc_Tile H65 l63, blk g41 (.cells #[(sv A20 x19 c21)] 37 (0, 0)), rowO 48 enc_Tile t.2.1 t.2.2 t.1.1, blk l13 LB11, blk l69 LB67] ∧ census_forms.l0 n t.1.1 t.1.2 p0 x19 x74 = some x98) k ((([] : List Tile), 0), none, 0) [1, 3, 4, 5, 6, 16, 17] rfl ⟨(hS91.subR [0, 1]).sub [2, 3, 4, 5, 6, 0, 7, 1] (by decide), hx99⟩ ?_
    rintro k100 ⟨⟨l94, x95⟩, A92, c93⟩ w101 ⟨hS102, hl103⟩
    cases k100 with
    | zero => rw [census_forms.l0] at hl103; cases hl103
    | succ k100 =>
     rw [census_forms.l0] at hl103
     refine WC.seq (WC.region ?_)
     refine sg 1 [] [1, 3, 4, 5, 6, 16, 17, 18] [(1, (pt g32)), (3, (pt g36)), (4, (pt g41)), (5, (sv A75 x74 c76)), (6, (sv A92 l94 c93)), (16, (iv p0)), (17, (iv x95)), (18, (bv (decide (x95 < p0))))] (by kernel_rfl) ?_
     refine WL.done rfl (WX.next (WC.seq ?_))
     rcases br_some hl103 with ⟨h104, hl103⟩ | ⟨h104, hl103⟩
     ·refine WC.condT2 (fun fb => by kernel_rfl) h104 ?_
      refine WC.skip (WX.next (WC.seq (WC.block (WC.seq (WC.region ?_)))))
      refine sg 2 [] [1, 3, 4, 5, 6, 7, 16, 17] [(1, (pt g32)), (3, (pt g36)), (4, (pt g41)), (5, (sv A75 x74 c76)), (6, (sv A92 l94 c93)), (7, (iv x95)), (16, (iv p0)), (17, (iv x95))] (by kernel_rfl) ?_
      refine WL.done rfl (WX.next ?_)
      obtain ⟨h107, hl103⟩ := as_some hl103
      obtain ⟨h108, hl103⟩ := as_some hl103
      obtain ⟨h109, hl103⟩ := as_some hl103
      obtain ⟨h110, hl103⟩ := as_some hl103
      refine WC.regionD ([(1, ⟨g41, 0, none⟩, (sv A20 x19 c21)), (5, ((adr A20).add ((w64 (2 * x95)).toNat * 1)), (iv (rdD x19 (w64 (2 * x95)) 0))), (10, ((adr A75).add ((w64 (2 * x95)).toNat * 1)), (iv (rdD x74 (w64 (2 * x95)) 0))), (11, ⟨g41, 0, none⟩, (sv A20 x19 c21)), (16, ((adr A20).add ((w64 ((w64 (2 * x95)) + 1)).toNat * 1)), (iv (rdD x19 (w64 ((w64 (2 * x95)) + 1)) 0))), (22, ((adr A75).add ((w64 ((w64 (2 * x95)) + 1)).toNat * 1)), (iv (rdD x74 (w64 ((w64 (2 * x95)) + 1)) 0)))], [0, 1, 2, 3, 4, 5, 6, 7, 8, 9, 10, 11, 12, 13, 14, 15, 16, 17, 18, 19, 20, 21, 22, 23, 26], [[], [], [], [2], [1, 2, 3], [1, 2, 3, 4], [], [], [7], [6, 7, 8], [6, 7, 8, 9], [], [], [12], [12, 13], [11, 12, 13, 14], [11, 12, 13, 14, 15], [], [], [18], [18, 19], [17, 18, 19, 20], [17, 18, 19, 20, 21], [1, 2, 3, 4, 5, 6, 7, 8, 9, 10, 11, 12, 13, 14, 15, 16, 17, 18, 19, 20, 21, 22], [1, 2, 3, 4, 5, 6, 7, 8, 9, 10, 11, 12, 13, 14, 15, 16, 17, 18, 19, 20, 21, 22, 23], [0, 1, 2, 3, 4, 5, 6, 7, 8, 9, 10, 11, 12, 13, 14, 15, 16, 17, 18, 19, 20, 21, 22, 23, 24], [0, 1, 2, 3, 4, 5, 6, 7, 8, 9, 10, 11, 12, 13, 14, 15, 16, 17, 18, 19, 20, 21, 22, 23, 24, 25]]) [[0, 1, 2, 3, 4, 5, 6, 7, 8, 9, 10, 11, 12, 13, 14, 15, 16, 17, 18, 19, 20, 21, 22, 23, 24, 25, 26]] (by kernel_rfl) (by kernel_rfl) (NoPanic.block (NoPanic.seq (NoPanic.seq (NoPanic.block (NoPanic.seq (NoPanic.block (NoPanic.round))))))) ?_
      have hS106 := hS102.drew
      revert hS106
      generalize World.drew w101 = w105
      intro hS106
      refine ⟨⟨hS106.cell 4 rfl 0 rfl, rowR.cell (hS106.rd 1).1 0 h107.1 h107.2 0 rfl, rowR.cell (hS106.rd 0).1 0 h108.1 h108.2 0 rfl, hS106.cell 4 rfl 0 rfl, rowR.cell (hS106.rd 1).1 0 h109.1 h109.2 0 rfl, rowR.cell (hS106.rd 0).1 0 h110.1 h110.2 0 rfl, trivial⟩, forallC ?_ (forallN)⟩
      refine segF 24 [.v (sv A20 x19 c21), .v (iv (rdD x19 (w64 (2 * x95)) 0)), .v (iv (rdD x74 (w64 (2 * x95)) 0)), .v (sv A20 x19 c21), .v (iv (rdD x19 (w64 ((w64 (2 * x95)) + 1)) 0)), .v (iv (rdD x74 (w64 ((w64 (2 * x95)) + 1)) 0))] [1, 3, 4, 5, 16, 17, 20, 43] [(1, (pt g32)), (3, (pt g36)), (4, (pt g41)), (5, (sv A75 x74 c76)), (16, (iv p0)), (17, (iv x95)), (20, (sv A92 l94 c93)), (43, (.agg #[(iv (rdD x19 (w64 (2 * x95)) 0)), (iv (rdD x74 (w64 (2 * x95)) 0)), (iv (rdD x19 (w64 ((w64 (2 * x95)) + 1)) 0)), (iv (rdD x74 (w64 ((w64 (2 * x95)) + 1)) 0))]))] [.idx A20 (w64 (2 * x95)) x19.length, .idx A75 (w64 (2 * x95)) x74.length, .idx A20 (w64 ((w64 (2 * x95)) + 1)) x19.length, .idx A75 (w64 ((w64 (2 * x95)) + 1)) x74.length] [0, 1, 2, 3, 4, 5] [(1, ⟨g41, 0, none⟩, (sv A20 x19 c21)), (5, ((adr A20).add ((w64 (2 * x95)).toNat * 1)), (iv (rdD x19 (w64 (2 * x95)) 0))), (10, ((adr A75).add ((w64 (2 * x95)).toNat * 1)), (iv (rdD x74 (w64 (2 * x95)) 0))), (11, ⟨g41, 0, none⟩, (sv A20 x19 c21)), (16, ((adr A20).add ((w64 ((w64 (2 * x95)) + 1)).toNat * 1)), (iv (rdD x19 (w64 ((w64 (2 * x95)) + 1)) 0))), (22, ((adr A75).add ((w64 ((w64 (2 * x95)) + 1)).toNat * 1)), (iv (rdD x74 (w64 ((w64 (2 * x95)) + 1)) 0)))] (fun fb => by kernel_rfl) rfl ⟨rowR.adr (hS106.rd 1).1 h107.1 h107.2, rowR.adr (hS106.rd 0).1 h108.1 h108.2, rowR.adr (hS106.rd 1).1 h109.1 h109.2, rowR.adr (hS106.rd 0).1 h110.1 h110.2, trivial⟩ rfl ?_
      refine WL.new hS106 44 [] (fun g => (.slice (some ⟨g, 0, none⟩) 1 1)) (.cells #[(iv (rdD x19 (w64 (2 * x95)) 0)), (iv (rdD x74 (w64 (2 * x95)) 0)), (iv (rdD x19 (w64 ((w64 (2 * x95)) + 1)) 0)), (iv (rdD x74 (w64 ((w64 (2 * x95)) + 1)) 0))] 48 (0, 0)) [] (fun fb g => by kernel_rfl) trivial (fun g111 w112 hS113 => ?_)
      refine ⟨trivial, ?_⟩
      have hS114 := hS90.go w112 [rowO 48 enc_Tile (some ⟨g111, 0, none⟩) 1 [(Tile.mk (rdD x19 (w64 (2 * x95)) 0) (rdD x74 (w64 (2 * x95)) 0) (rdD x19 (w64 ((w64 (2 * x95)) + 1)) 0) (rdD x74 (w64 ((w64 (2 * x95)) + 1)) 0))], blk g32 (.cells #[(iv p0)] 3 (0, 0)), blk g36 (.cells #[(sv A61 l63 c62)] 22 (0, 0)), rowO 28 (encSl Tile) A61 c62 (tag H65 l63), rowsO 48 enc_Tile H65 l63, blk g41 (.cells #[(sv A20 x19 c21)] 37 (0, 0)), rowO 48 enc_Tile A92 c93 l94, blk l13 LB11, blk l69 LB67] (hS113.map1 0 _ (fun h => rowO.ofBlk h rfl (Nat.le_of_ble_eq_true (by kernel_rfl))) (fun _ h => by obtain ⟨_, h1, h2⟩ := h; injection h1 with h1; subst h1; exact h2) [1, 2, 3, 4, 5, 6, 7, 8] (by decide) (by decide))
      obtain ⟨h115, hl103⟩ := as_some hl103
      refine WL.append hS114 6 (d := 45) (tS := 28) (z := (.agg #[(iv 0), (iv 0), (iv 0), (iv 0)])) (bytes := 32) (c2 := 1) rfl (fun fb => by kernel_rfl) (rowO.rd (hS114.own 0).1) (by kernel_rfl) (by kernel_rfl) rfl (by decide) h115 (by decide) [0, 1, 2, 3, 4, 5, 7, 8] (by decide) (by decide) (fun A116 c117 w118 hS119 => ?_)
      refine ⟨trivial, ?_⟩
      refine sg 27 [] [1, 3, 4, 5, 6, 16, 17] [(1, (pt g32)), (3, (pt g36)), (4, (pt g41)), (5, (sv A75 x74 c76)), (6, (sv A116 (l94 ++ [(Tile.mk (rdD x19 (w64 (2 * x95)) 0) (rdD x74 (w64 (2 * x95)) 0) (rdD x19 (w64 ((w64 (2 * x95)) + 1)) 0) (rdD x74 (w64 ((w64 (2 * x95)) + 1)) 0))]) c117)), (16, (iv p0)), (17, (iv x95))] (by kernel_rfl) ?_
      refine WL.done rfl ?_
      refine WX.blockN (WX.next ?_)
      refine WC.region ?_
      refine sg 2 [] [1, 3, 4, 5, 6, 16, 17] [(1, (pt g32)), (3, (pt g36)), (4, (pt g41)), (5, (sv A75 x74 c76)), (6, (sv A116 (l94 ++ [(Tile.mk (rdD x19 (w64 (2 * x95)) 0) (rdD x74 (w64 (2 * x95)) 0) (rdD x19 (w64 ((w64 (2 * x95)) + 1)) 0) (rdD x74 (w64 ((w64 (2 * x95)) + 1)) 0))]) c117)), (16, (iv p0)), (17, (iv (w64 (x95 + 1))))] (by kernel_rfl) ?_
      refine WL.done rfl ?_
      exact WX.again k100 (Nat.lt_succ_self _) ((l94 ++ [(Tile.mk (rdD x19 (w64 (2 * x95)) 0) (rdD x74 (w64 (2 * x95)) 0) (rdD x19 (w64 ((w64 (2 * x95)) + 1)) 0) (rdD x74 (w64 ((w64 (2 * x95)) + 1)) 0))], w64 (x95 + 1)), A116, c117) [1, 3, 4, 5, 6, 16, 17] rfl ⟨(hS119.subR [0, 1]).sub [2, 3, 4, 5, 6, 0, 7, 8] (by decide), hl103⟩
     refine WC.condF2 (fun fb => by kernel_rfl) h104 ?_
     refine WC.exit ?_
     injection hl103 with hl103
     exact WX.thenX (WX.thenX (WX.blockHere (WX.to Kx98 (l94, A92, c93) [1, 3, 4, 6] rfl ⟨(hS102.subR [0, 1]).sub [0, 1, 2, 3, 4, 5, 6, 7] (by decide), hl103.symm⟩)))
   rintro ⟨y123, A96, c97⟩ w120 ⟨hS121, hq122⟩
   subst hq122
   refine WX.next (WC.seq (WC.region ?_))
   refine sg 1 [] [1, 3, 4, 6, 47] [(1, (pt g32)), (3, (pt g36)), (4, (pt g41)), (6, (sv A96 x98 c97)), (47, (sv A96 x98 c97))] (by kernel_rfl) ?_
   obtain ⟨t124, ht125, hf83⟩ := bind_some hf83
   refine WL.call (some 48) 33 #[(sv A96 x98 c97)] (fun fb => by kernel_rfl) (tile_Valid_calls _ x98 A96 c97 t124 _ (hS121.ow 5).ofO ht125) (fun v w126 hR127 => ?_)
   obtain ⟨rfl, hk_⟩ := hR127
   have hS128 := hS121.keepN hk_
   refine ⟨trivial, ?_⟩
   refine sg 3 [] [1, 3, 4, 6, 49] [(1, (pt g32)), (3, (pt g36)), (4, (pt g41)), (6, (sv A96 x98 c97)), (49, (bv t124))] (by kernel_rfl) ?_
   obtain ⟨x129, hx130, hf83⟩ := bind_some hf83
   refine WL.cutW (T := Bool) 9 (fun t => [(1, (pt g32)), (3, (pt g36)), (4, (pt g41)), (6, (sv A96 x98 c97)), (55, (bv t))]) (fun t w1 => (St (fpL [blk l69 (LO66 none), blk g32 (.cells #[(iv p0)] 3 (0, 0)), blk g36 (.cells #[(sv A61 l63 c62)] 22 (0, 0)), rowO 28 (encSl Tile) A61 c62 (tag H65 l63), rowsO 48 enc_Tile H65 l63, blk g41 (.cells #[(sv A20 x19 c21)] 37 (0, 0)), blk l13 LB11]) w80 w1 [rowR encInt A75 c76 x74, rowR encInt A20 c21 x19] [blk g32 (.cells #[(iv p0)] 3 (0, 0)), blk g36 (.cells #[(sv A61 l63 c62)] 22 (0, 0)), rowO 28 (encSl Tile) A61 c62 (tag H65 l63), rowsO 48 enc_Tile H65 l63, blk g41 (.cells #[(sv A20 x19 c21)] 37 (0, 0)), rowO 48 enc_Tile A96 c97 x98, blk l13 LB11, blk l69 LB67] ∧ x129 = t) ∧ CellsOK [] w1) (fun K => ?_) ?_
   ·
    rcases br_some hx130 with ⟨h131, hx130⟩ | ⟨h131, hx130⟩
    ·
     refine WL.setB 49 h131 rfl ?_
     refine sg 4 [] [1, 3, 4, 6, 49, 50] [(1, (pt g32)), (3, (pt g36)), (4, (pt g41)), (6, (sv A96 x98 c97)), (49, (bv true)), (50, (sv A96 x98 c97))] (by kernel_rfl) ?_
     obtain ⟨t132, ht133, hx130⟩ := bind_some hx130
     refine WL.call (some 51) 34 #[(sv A96 x98 c97)] (fun fb => by kernel_rfl) (census_least_calls _ x98 A96 c97 t132 _ (hS128.ow 5).ofO ht133) (fun v w134 hR135 => ?_)
     obtain ⟨A137, c138, rfl, hk_⟩ := hR135
     have hS136 : St (fpL [blk l69 (LO66 none), blk g32 (.cells #[(iv p0)] 3 (0, 0)), blk g36 (.cells #[(.slice A61 l63.length c62)] 22 (0, 0)), rowO 28 (encSl Tile) A61 c62 (tag H65 l63), rowsO 48 enc_Tile H65 l63, blk g41 (.cells #[(.slice A20 x19.length c21)] 37 (0, 0)), blk l13 LB11]) w80 w134 [rowR encInt A75 c76 x74, rowR encInt A20 c21 x19] [rowO 48 enc_Tile A137 c138 t132, blk g32 (.cells #[(iv p0)] 3 (0, 0)), blk g36 (.cells #[(.slice A61 l63.length c62)] 22 (0, 0)), rowO 28 (encSl Tile) A61 c62 (tag H65 l63), rowsO 48 enc_Tile H65 l63, blk g41 (.cells #[(.slice A20 x19.length c21)] 37 (0, 0)), rowO 48 enc_Tile A96 c97 x98, blk l13 LB11, blk l69 LB67] := hS128.call hk_ [] [0, 1, 2, 3, 4, 5, 6, 7] (fun g hg => hg.elim) (by simp) (by decide)
     refine ⟨trivial, ?_⟩
     refine sg 6 [] [1, 3, 4, 6, 49, 51, 52] [(1, (pt g32)), (3, (pt g36)), (4, (pt g41)), (6, (sv A96 x98 c97)), (49, (bv true)), (51, (sv A137 t132 c138)), (52, (sv A96 x98 c97))] (by kernel_rfl) ?_
     obtain ⟨t139, ht140, hx130⟩ := bind_some hx130
     refine WL.call (some 53) 38 #[(sv A137 t132 c138), (sv A96 x98 c97)] (fun fb => by kernel_rfl) (census_before_calls _ t132 x98 A137 c138 A96 c97 t139 _ (hS136.ow 0).ofO (hS136.ow 6).ofO ht140) (fun v w141 hR142 => ?_)
     obtain ⟨rfl, hk_⟩ := hR142
     have hS143 := hS136.keepN hk_
     refine ⟨trivial, ?_⟩
     refine sg 9 [] [1, 3, 4, 6, 55] [(1, (pt g32)), (3, (pt g36)), (4, (pt g41)), (6, (sv A96 x98 c97)), (55, (bv (t139 == 0)))] (by kernel_rfl) ?_
     injection hx130 with hx130
     exact WL.to K (t139 == 0) [1, 3, 4, 6, 55] rfl ⟨⟨(hS143.subR [0, 1]).sub [1, 2, 3, 4, 5, 6, 7, 8] (by decide), hx130.symm⟩, trivial⟩
    refine WL.setB 49 h131 rfl ?_
    refine sg 9 [] [1, 3, 4, 6, 55] [(1, (pt g32)), (3, (pt g36)), (4, (pt g41)), (6, (sv A96 x98 c97)), (55, (bv false))] (by kernel_rfl) ?_
    injection hx130 with hx130
    exact WL.to K false [1, 3, 4, 6, 55] rfl ⟨⟨(hS128.subR [0, 1]).sub [0, 1, 2, 3, 4, 5, 6, 7] (by decide), hx130.symm⟩, trivial⟩
   rintro y144 w146 ⟨⟨hS147, hq145⟩, hF148⟩
   subst hq145
   refine WL.done rfl (WX.next ?_)
   obtain ⟨x152, hx153, hf83⟩ := bind_some hf83
   refine WC.cutN (T := (List (List Tile)) × (Option Addr) × Nat × HF) (fun t => [(1, (pt g32)), (3, (pt g36)), (4, (pt g41))]) (fun t w1 => St (fpL [blk l69 (LO66 none), blk g32 (.cells #[(iv p0)] 3 (0, 0)), blk g36 (.cells #[(sv A61 l63 c62)] 22 (0, 0)), rowO 28 (encSl Tile) A61 c62 (tag H65 l63), rowsO 48 enc_Tile H65 l63, blk g41 (.cells #[(sv A20 x19 c21)] 37 (0, 0)), blk l13 LB11]) w80 w1 [rowR encInt A75 c76 x74, rowR encInt A20 c21 x19] [blk g32 (.cells #[(iv p0)] 3 (0, 0)), blk g36 (.cells #[(sv t.2.1 t.1 t.2.2.1)] 22 (0, 0)), rowO 28 (encSl Tile) t.2.1 t.2.2.1 (tag t.2.2.2 t.1), rowsO 48 enc_Tile t.2.2.2 t.1, blk g41 (.cells #[(sv A20 x19 c21)] 37 (0, 0)), blk l13 LB11, blk l69 LB67] ∧ x152 = t.1) (fun Kx152 => ?_) ?_
   ·
    rcases br_some hx153 with ⟨h154, hx153⟩ | ⟨h154, hx153⟩
    ·refine WC.condT2 (fun fb => by kernel_rfl) h154 ?_
     refine WC.region ?_
     refine seg 2 [.v (sv A61 l63 c62)] [1, 3, 4, 56, 57] [(1, (pt g32)), (3, (pt g36)), (4, (pt g41)), (56, (sv A61 l63 c62)), (57, (sv A96 x98 c97))] [.cell ⟨g36, 0, none⟩ (sv A61 l63 c62)] (fun fb => by kernel_rfl) rfl ⟨hS147.cell 1 rfl 0 rfl, trivial⟩ ?_
     refine WL.new hS147 58 [] (fun g => (.slice (some ⟨g, 0, none⟩) 1 1)) (.cells #[(sv A96 x98 c97)] 28 (0, 0)) [] (fun fb g => by kernel_rfl) trivial (fun g155 w156 hS157 => ?_)
     refine ⟨trivial, ?_⟩
     have hS158 := hS90.go w156 [rowO 28 (encSl Tile) (some ⟨g155, 0, none⟩) 1 (tag (fun _ => (A96, c97)) [x98]), blk g32 (.cells #[(iv p0)] 3 (0, 0)), blk g36 (.cells #[(sv A61 l63 c62)] 22 (0, 0)), rowO 28 (encSl Tile) A61 c62 (tag H65 l63), rowsO 48 enc_Tile H65 l63, blk g41 (.cells #[(sv A20 x19 c21)] 37 (0, 0)), rowO 48 enc_Tile A96 c97 x98, blk l13 LB11, blk l69 LB67] (hS157.map1 0 _ (fun h => rowO.ofBlk h rfl (Nat.le_of_ble_eq_true (by kernel_rfl))) (fun _ h => by obtain ⟨_, h1, h2⟩ := h; injection h1 with h1; subst h1; exact h2) [1, 2, 3, 4, 5, 6, 7, 8] (by decide) (by decide))
     have hS159 := hS158.go w156 [rowsO 48 enc_Tile (fun _ => (A96, c97)) [x98], rowO 28 (encSl Tile) (some ⟨g155, 0, none⟩) 1 (tag (fun _ => (A96, c97)) [x98]), blk g32 (.cells #[(iv p0)] 3 (0, 0)), blk g36 (.cells #[(sv A61 l63 c62)] 22 (0, 0)), rowO 28 (encSl Tile) A61 c62 (tag H65 l63), rowsO 48 enc_Tile H65 l63, blk g41 (.cells #[(sv A20 x19 c21)] 37 (0, 0)), blk l13 LB11, blk l69 LB67] (hS158.rowsOne 6 rfl [0, 1, 2, 3, 4, 5, 7, 8] (by decide) (by decide))
     obtain ⟨h160, hx153⟩ := as_some hx153
     refine WL.appendN hS159 4 (d := 59) (tS := 22) (z := (.slice none 0 0)) (bytes := 24) (c2 := 1) (hx := (A96, c97)) (x := x98) rfl (fun fb => by kernel_rfl) (rowO.rd (hS159.own 1).1) (by kernel_rfl) (by kernel_rfl) rfl (by decide) h160 (by decide) [0, 1, 2, 3, 5, 6, 7, 8] (by decide) (by decide) (fun A161 c162 w163 hS164 => ?_)
     have hS165 := hS159.go w163 [rowsO 48 enc_Tile (updH H65 l63.length (A96, c97)) (l63 ++ [x98]), rowO 28 (encSl Tile) A161 c162 (tag (updH H65 l63.length (A96, c97)) (l63 ++ [x98])), rowO 28 (encSl Tile) (some ⟨g155, 0, none⟩) 1 (tag (fun _ => (A96, c97)) [x98]), blk g32 (.cells #[(iv p0)] 3 (0, 0)), blk g36 (.cells #[(sv A61 l63 c62)] 22 (0, 0)), blk g41 (.cells #[(sv A20 x19 c21)] 37 (0, 0)), blk l13 LB11, blk l69 LB67] (hS164.rowsPush 5 1 rfl rfl (by decide) [0, 2, 3, 4, 6, 7, 8] (by decide) (by decide))
     refine ⟨trivial, ?_⟩
     refine WL.store hS165 4 rfl [(0, (sv A161 (l63 ++ [x98]) c162))] #[(sv A161 (l63 ++ [x98]) c162)] (fun fb => by kernel_rfl) (by kernel_rfl) rfl [0, 1, 2, 3, 5, 6, 7] (by decide) (by decide) (fun w166 hS167 => ?_)
     refine ⟨trivial, ?_⟩
     refine WL.done rfl ?_
     injection hx153 with hx153
     exact WX.to Kx152 (l63 ++ [x98], A161, c162, (updH H65 l63.length (A96, c97))) [1, 3, 4] rfl ⟨(hS167.subR [0, 1]).sub [4, 0, 2, 1, 5, 6, 7] (by decide), hx153.symm⟩
    refine WC.condF2 (fun fb => by kernel_rfl) h154 ?_
    refine WC.skip ?_
    injection hx153 with hx153
    exact WX.to Kx152 (l63, A61, c62, H65) [1, 3, 4] rfl ⟨(hS147.subR [0, 1]).sub [0, 1, 2, 3, 4, 6, 7] (by decide), hx153.symm⟩
   rintro ⟨y171, A149, c150, H151⟩ w168 ⟨hS169, hq170⟩
   subst hq170
   injection hf83 with hf83
   subst hf83
   exact WX.blockN (WX.roundN' hK71 (hS169.blkAt 6 rfl) ⟨(A149, c150, H151), rfl, ((hS169.putO 6 rfl (LO66 none) [0, 1, 2, 3, 4, 5] (by decide) (by decide)).sub [0, 1, 2, 3, 4, 5, 6] (by decide)).noR.closeSep⟩)
  obtain ⟨t172, ht173, hf29⟩ := bind_some hf29
  refine (census_words_1_y_calls _ (w64 (2 * p0)) (census_forms.b2 k p0 x19) (l8, (0 : Int)) g60 l69 (fun (s_ : (List (List Tile)) × Int) (t_ : (Option Addr) × Nat × HF) => sepO (blk l69 (LO66 (pendN [] s_.2)) :: [blk g32 (.cells #[(iv p0)] 3 (0, 0)), blk g36 (.cells #[(sv t_.1 s_.1 t_.2.1)] 22 (0, 0)), rowO 28 (encSl Tile) t_.1 t_.2.1 (tag t_.2.2 s_.1), rowsO 48 enc_Tile t_.2.2 s_.1, blk g41 (.cells #[(sv A20 x19 c21)] 37 (0, 0)), blk l13 LB11])) (A6, c7, H9) (poolO [rowR encInt A20 c21 x19]) t172 _ (hS73.rdP [0]) (hS73.owT [0] 1 (by decide)) (hS73.io [0] (by decide)) hY77 ht173).post (fun v w174 hR175 => ?_)
  obtain ⟨tt177, rfl, hk_⟩ := hR175
  have hS176 := hS73.go w174 [(fun (s_ : (List (List Tile)) × Int) (t_ : (Option Addr) × Nat × HF) => sepO (blk l69 (LO66 (pendN [] s_.2)) :: [blk g32 (.cells #[(iv p0)] 3 (0, 0)), blk g36 (.cells #[(sv t_.1 s_.1 t_.2.1)] 22 (0, 0)), rowO 28 (encSl Tile) t_.1 t_.2.1 (tag t_.2.2 s_.1), rowsO 48 enc_Tile t_.2.2 s_.1, blk g41 (.cells #[(sv A20 x19 c21)] 37 (0, 0)), blk l13 LB11])) t172 tt177, blk g60 (.cells #[(iv (w64 (2 * p0)))] 3 (0, 0))] (hS73.call hk_ [0] [1] (fun g hg => fpL_sel g hg) (by decide) (by decide))
  have hS178 := hS176.go w174 [blk l69 (LO66 (pendN [] t172.2)), blk g32 (.cells #[(iv p0)] 3 (0, 0)), blk g36 (.cells #[(sv tt177.1 t172.1 tt177.2.1)] 22 (0, 0)), rowO 28 (encSl Tile) tt177.1 tt177.2.1 (tag tt177.2.2 t172.1), rowsO 48 enc_Tile tt177.2.2 t172.1, blk g41 (.cells #[(sv A20 x19 c21)] 37 (0, 0)), blk l13 LB11, blk g60 (.cells #[(iv (w64 (2 * p0)))] 3 (0, 0))] (hS176.unpack 0 rfl [1] (by decide) (by decide))
  refine ⟨_, hS178.blkAt 0 rfl, ?_⟩
  have hS179 := (hS178.putO 0 rfl (LX68 (pendN [] t172.2)) [1, 2, 3, 4, 5, 6, 7] (by decide) (by decide)).tail
  revert hS179
  generalize World.putObj _ _ _ = w180
  intro hS179
  have hS181 := hS178.go w180 [blk g32 (.cells #[(iv p0)] 3 (0, 0)), blk g36 (.cells #[(sv tt177.1 t172.1 tt177.2.1)] 22 (0, 0)), rowO 28 (encSl Tile) tt177.1 tt177.2.1 (tag tt177.2.2 t172.1), rowsO 48 enc_Tile tt177.2.2 t172.1, blk g41 (.cells #[(sv A20 x19 c21)] 37 (0, 0)), blk l13 LB11, blk g60 (.cells #[(iv (w64 (2 * p0)))] 3 (0, 0))] (hS179)
  obtain ⟨h182, hf29⟩ := as_some hf29
  rw [h182]
  refine WX.keep [1, 3, 4] [(1, (pt g32)), (3, (pt g36)), (4, (pt g41))] rfl ?_
  injection hf29 with hf29
  subst hf29
  exact WX.blockN (WX.blockN (WX.roundN' hK16 (hS181.blkAt 5 rfl) ⟨(tt177.1, tt177.2.1, tt177.2.2), rfl, ((hS181.putO 5 rfl (LO10 none) [0, 1, 2, 3, 4, 6] (by decide) (by decide)).sub [0, 1, 2, 3, 4] (by decide)).noR.closeSep⟩))
 obtain ⟨t183, ht184, hf⟩ := bind_some hf
 refine (census_words_1_y_calls _ (w64 (2 * p0)) (census_forms.b1 k p0) (([] : List (List Tile)), (0 : Int)) g49 l13 (fun (s_ : (List (List Tile)) × Int) (t_ : (Option Addr) × Nat × HF) => sepO (blk l13 (LO10 (pendN [] s_.2)) :: [blk g32 (.cells #[(iv p0)] 3 (0, 0)), blk g36 (.cells #[(sv t_.1 s_.1 t_.2.1)] 22 (0, 0)), rowO 28 (encSl Tile) t_.1 t_.2.1 (tag t_.2.2 s_.1), rowsO 48 enc_Tile t_.2.2 s_.1])) (none, 0, hf0) (poolO []) t183 _ (hS18.rdP [0]) (hS18.owT [0] 2 (by decide)) (hS18.io [0] (by decide)) hY23 ht184).post (fun v w185 hR186 => ?_)
 obtain ⟨tt188, rfl, hk_⟩ := hR186
 have hS187 := hS18.go w185 [(fun (s_ : (List (List Tile)) × Int) (t_ : (Option Addr) × Nat × HF) => sepO (blk l13 (LO10 (pendN [] s_.2)) :: [blk g32 (.cells #[(iv p0)] 3 (0, 0)), blk g36 (.cells #[(sv t_.1 s_.1 t_.2.1)] 22 (0, 0)), rowO 28 (encSl Tile) t_.1 t_.2.1 (tag t_.2.2 s_.1), rowsO 48 enc_Tile t_.2.2 s_.1])) t183 tt188, blk D14 (.deferred (some [])), blk g49 (.cells #[(iv (w64 (2 * p0)))] 3 (0, 0))] (hS18.call hk_ [0] [1, 2] (fun g hg => fpL_sel g hg) (by decide) (by decide))
 have hS189 := hS187.go w185 [blk l13 (LO10 (pendN [] t183.2)), blk g32 (.cells #[(iv p0)] 3 (0, 0)), blk g36 (.cells #[(sv tt188.1 t183.1 tt188.2.1)] 22 (0, 0)), rowO 28 (encSl Tile) tt188.1 tt188.2.1 (tag tt188.2.2 t183.1), rowsO 48 enc_Tile tt188.2.2 t183.1, blk D14 (.deferred (some [])), blk g49 (.cells #[(iv (w64 (2 * p0)))] 3 (0, 0))] (hS187.unpack 0 rfl [1, 2] (by decide) (by decide))
 refine ⟨_, hS189.blkAt 0 rfl, ?_⟩
 have hS190 := (hS189.putO 0 rfl (LX12 (pendN [] t183.2)) [1, 2, 3, 4, 5, 6] (by decide) (by decide)).tail
 revert hS190
 generalize World.putObj _ _ _ = w191
 intro hS190
 have hS192 := hS189.go w191 [blk g32 (.cells #[(iv p0)] 3 (0, 0)), blk g36 (.cells #[(sv tt188.1 t183.1 tt188.2.1)] 22 (0, 0)), rowO 28 (encSl Tile) tt188.1 tt188.2.1 (tag tt188.2.2 t183.1), rowsO 48 enc_Tile tt188.2.2 t183.1, blk D14 (.deferred (some [])), blk g49 (.cells #[(iv (w64 (2 * p0)))] 3 (0, 0))] (hS190)
 obtain ⟨h193, hf⟩ := as_some hf
 rw [h193]
 refine WX.keep [1, 3, 4294967295] [(1, (pt g32)), (3, (pt g36)), (4294967295, (.func (.yield D14) #[] #[]))] rfl ?_
 refine WX.blockN (WX.next ?_)
 refine WC.seq (WC.region ?_)
 refine seg 1 [.v (sv tt188.1 t183.1 tt188.2.1)] [3, 60, 4294967295] [(3, (pt g36)), (60, (sv tt188.1 t183.1 tt188.2.1)), (4294967295, (.func (.yield D14) #[] #[]))] [.cell ⟨g36, 0, none⟩ (sv tt188.1 t183.1 tt188.2.1)] (fun fb => by kernel_rfl) rfl ⟨hS192.cell 1 rfl 0 rfl, trivial⟩ ?_
 obtain ⟨t194, ht195, hf⟩ := bind_some hf
 refine WL.call (some 61) 39 #[(sv tt188.1 t183.1 tt188.2.1), (.func (.func 38) #[] #[])] (fun fb => by kernel_rfl) (sort_calls Try.sortT39 _ 38 _ (enters_of Try.func38 (by kernel_rfl) rfl) (fun x y Ax cx Ay cy r w h1 h2 h3 => census_before_calls _ x y Ax cx Ay cy r w h1 h2 h3) drT t183.1 t194 tt188.1 tt188.2.1 tt188.2.2 _ (hS192.io [2, 3] (by decide)) ht195) (fun v w196 hR197 => ?_)
 obtain ⟨H199, rfl, hk_⟩ := hR197
 have hS198 := hS192.go w196 [rowO 28 (encSl Tile) tt188.1 tt188.2.1 (tag H199 t194), rowsO 48 enc_Tile H199 t194, blk g32 (.cells #[(iv p0)] 3 (0, 0)), blk g36 (.cells #[(sv tt188.1 t183.1 tt188.2.1)] 22 (0, 0)), blk D14 (.deferred (some [])), blk g49 (.cells #[(iv (w64 (2 * p0)))] 3 (0, 0))] (hS192.call hk_ [2, 3] [0, 1, 4, 5] (fun g hg => fpL_sel g hg) (by decide) (by decide))
 refine ⟨trivial, ?_⟩
 have hl200 := sortP_len ht195
 have hS201 := hS198.go w196 [rowO 28 (encSl Tile) tt188.1 tt188.2.1 (tag H199 t194), rowsO 48 enc_Tile H199 t194, blk g32 (.cells #[(iv p0)] 3 (0, 0)), blk g36 (.cells #[(.slice tt188.1 t194.length tt188.2.1)] 22 (0, 0)), blk D14 (.deferred (some [])), blk g49 (.cells #[(iv (w64 (2 * p0)))] 3 (0, 0))] (by simpa only [hl200] using (show St NoS w w196 [] [rowO 28 (encSl Tile) tt188.1 tt188.2.1 (tag H199 t194), rowsO 48 enc_Tile H199 t194, blk g32 (.cells #[(iv p0)] 3 (0, 0)), blk g36 (.cells #[(.slice tt188.1 t183.1.length tt188.2.1)] 22 (0, 0)), blk D14 (.deferred (some [])), blk g49 (.cells #[(iv (w64 (2 * p0)))] 3 (0, 0))] from hS198))
 refine WL.done rfl (WX.next (WC.seq (WC.region ?_)))
 refine seg 2 [.v (sv tt188.1 t194 tt188.2.1)] [2, 4294967295] [(2, (sv tt188.1 t194 tt188.2.1)), (4294967295, (.func (.yield D14) #[] #[]))] [.cell ⟨g36, 0, none⟩ (sv tt188.1 t194 tt188.2.1)] (fun fb => by kernel_rfl) rfl ⟨hS201.cell 3 rfl 0 rfl, trivial⟩ ?_
 refine WL.done rfl (WX.next ?_)
 refine WC.ret ?_
 injection hf with hf
 subst hf
 exact WX.retM hS201 4 rfl rfl [0, 1, 2, 3, 5] (by decide) (by decide) [] (sv tt188.1 t194 tt188.2.1) [] (fun fb => by kernel_rfl) (fun w203 hS202 => ⟨trivial, ⟨tt188.1, tt188.2.1, H199, rfl, (hS202.sub [0, 1] (by decide)).noR⟩⟩)
theorem decide_asks_calls (k : Nat) (p0 : List Tile) (Aa : Option Addr) (ca : Nat) (r : Int) (w : World) (hR0 : RO NoS w (rowR enc_Tile Aa ca p0)) (hf : decide_asks k p0 = some r) :
  CallsR Try.prog 30 #[(sv Aa p0 ca)] w (fun v w' => v = (iv r) ∧ Keeps NoS w w') := by
 have hS : St NoS w w [rowR enc_Tile Aa ca p0] [] := St.init (ro_cons hR0 (ro_nil _ _))
 refine enter 11 Try.func30 rfl Try.ntmps30 rfl ?_
 unfold decide_asks at hf
 refine WC.seq (WC.region ?_)
 refine sg 1 [] [0] [(0, (sv Aa p0 ca))] (by kernel_rfl) ?_
 refine WL.done rfl (WX.next (WC.seq (WC.block (WC.seq (WC.region ?_)))))
 refine sg 1 [] [0, 4] [(0, (sv Aa p0 ca)), (4, (sv Aa p0 ca))] (by kernel_rfl) ?_
 obtain ⟨t1, ht3, hf⟩ := bind_some hf
 refine WL.call (some 5) 33 #[(sv Aa p0 ca)] (fun fb => by kernel_rfl) (tile_Valid_calls _ p0 Aa ca t1 _ (hS.rd 0) ht3) (fun v w4 hR5 => ?_)
 obtain ⟨rfl, hk_⟩ := hR5
 have hS6 := hS.keepN hk_
 refine ⟨trivial, ?_⟩
 refine sg 4 [] [0, 3] [(0, (sv Aa p0 ca)), (3, (bv (!t1)))] (by kernel_rfl) ?_
 refine WL.done rfl (WX.next ?_)
 rcases br_some hf with ⟨h7, hf⟩ | ⟨h7, hf⟩
 ·refine WC.condT2 (fun fb => by kernel_rfl) h7 ?_
  refine WC.seq (WC.region ?_)
  refine sg 1 [] [2] [(2, (iv 1))] (by kernel_rfl) ?_
  refine WL.done rfl (WX.next ?_)
  refine WC.ret ?_
  injection hf with hf
  subst hf
  exact WX.blockR (WX.thenR (WX.ret_ [] (iv 1) [] (fun fb => by kernel_rfl) trivial ⟨_, rfl, rfl, hS6.keep⟩))
 refine WC.condF2 (fun fb => by kernel_rfl) h7 ?_
 refine WC.seq (WC.region ?_)
 refine sg 4 [] [7] [(7, (bv (decide ((p0.length : Int) > 3))))] (by kernel_rfl) ?_
 refine WL.done rfl (WX.next ?_)
 rcases br_some hf with ⟨h8, hf⟩ | ⟨h8, hf⟩
 ·refine WC.condT2 (fun fb => by kernel_rfl) h8 ?_
  refine WC.seq (WC.region ?_)
  refine sg 1 [] [2] [(2, (iv 2))] (by kernel_rfl) ?_
  refine WL.done rfl (WX.next ?_)
  refine WC.ret ?_
  injection hf with hf
  subst hf
  exact WX.blockR (WX.thenR (WX.ret_ [] (iv 2) [] (fun fb => by kernel_rfl) trivial ⟨_, rfl, rfl, hS6.keep⟩))
 refine WC.condF2 (fun fb => by kernel_rfl) h8 ?_
 refine WC.skip ?_
 refine WX.blockN (WX.next ?_)
 refine WC.seq (WC.region ?_)
 refine sg 1 [] [2] [(2, (iv 0))] (by kernel_rfl) ?_
 refine WL.done rfl (WX.next ?_)
 refine WC.ret ?_
 injection hf with hf
 subst hf
 exact WX.ret_ [] (iv 0) [] (fun fb => by kernel_rfl) trivial ⟨_, rfl, rfl, hS6.keep⟩
theorem decide_sides_calls (p0 : List Tile) (Aa : Option Addr) (ca : Nat) (r : Unit) (w : World) (hR0 : RO NoS w (rowR enc_Tile Aa ca p0)) (hf : decide_sides p0 = some r) :
  CallsR Try.prog 31 #[(sv Aa p0 ca)] w (fun v w' => ∃ (g1_ : Nat), v = (.func (.func 42) #[] #[(pt g1_)]) ∧ St NoS w w' [] [blk g1_ (.cells #[(sv Aa p0 ca)] 28 (0, 0))]) := by
 have hS : St NoS w w [rowR enc_Tile Aa ca p0] [] := St.init (ro_cons hR0 (ro_nil _ _))
 refine enter 4 Try.func31 rfl Try.ntmps31 rfl ?_
 unfold decide_sides at hf
 refine WC.seq (WC.region ?_)
 refine WL.new hS 1 [] (fun g => (pt g)) (.cells #[(sv Aa p0 ca)] 28 (0, 0)) [] (fun fb g => by kernel_rfl) trivial (fun g2 w3 hS4 => ?_)
 refine ⟨trivial, ?_⟩
 refine sg 2 [] [1] [(1, (pt g2))] (by kernel_rfl) ?_
 refine WL.done rfl (WX.next (WC.seq (WC.region ?_)))
 refine sg 2 [] [2] [(2, (.func (.func 42) #[] #[(pt g2)]))] (by kernel_rfl) ?_
 refine WL.done rfl (WX.next ?_)
 refine WC.ret ?_
 injection hf with hf
 subst hf
 exact WX.ret_ [] (.func (.func 42) #[] #[(pt g2)]) [] (fun fb => by kernel_rfl) trivial ⟨_, rfl, g2, rfl, (hS4.sub [0] (by decide)).noR⟩
theorem rows_Few_calls (k : Nat) (p0 : List Tile) (p1 : Int) (Aa : Option Addr) (ca : Nat) (r : Bool) (w : World) (hR0 : RO NoS w (rowR enc_Tile Aa ca p0)) (hf : rows_Few k p0 p1 = some r) :
  CallsR Try.prog 44 #[(sv Aa p0 ca), (iv p1)] w (fun v w' => v = (bv r) ∧ Keeps NoS w w') := by
 have hS : St NoS w w [rowR enc_Tile Aa ca p0] [] := St.init (ro_cons hR0 (ro_nil _ _))
 refine enter 17 Try.func44 rfl Try.ntmps44 rfl ?_
 unfold rows_Few at hf
 refine WC.seq (WC.region ?_)
 refine sg 1 [] [0, 1] [(0, (sv Aa p0 ca)), (1, (iv p1))] (by kernel_rfl) ?_
 refine WL.done rfl (WX.next (WC.seq (WC.region ?_)))
 refine sg 1 [] [0, 1, 5] [(0, (sv Aa p0 ca)), (1, (iv p1)), (5, (iv 1))] (by kernel_rfl) ?_
 refine WL.done rfl (WX.next (WC.seq (WC.seq (WC.region ?_))))
 refine sg 2 [] [0, 5, 6, 7] [(0, (sv Aa p0 ca)), (5, (iv 1)), (6, (iv p1)), (7, (iv 0))] (by kernel_rfl) ?_
 refine WL.done rfl (WX.next ?_)
 obtain ⟨x5, hx6, hf⟩ := bind_some hf
 refine WC.cutN (T := Unit) (fun t => []) (fun t w1 => St NoS w w1 [rowR enc_Tile Aa ca p0] [] ∧ x5 = .inr t) (fun Kx5 => ?_) ?_
 ·
  refine WC.block ?_
  refine WC.loop (T := Int × Int) (fun t => [(0, (sv Aa p0 ca)), (5, (iv t.1)), (6, (iv p1)), (7, (iv t.2))]) (fun n t w1 => St NoS w w1 [rowR enc_Tile Aa ca p0] [] ∧ rows_Few.l0 n t.1 t.2 p0 p1 = some x5) k (1, 0) [0, 5, 6, 7] rfl ⟨(hS.subR [0]).sub [] (by decide), hx6⟩ ?_
  rintro k7 ⟨x3, x4⟩ w8 ⟨hS9, hl10⟩
  cases k7 with
  | zero => rw [rows_Few.l0] at hl10; cases hl10
  | succ k7 =>
   rw [rows_Few.l0] at hl10
   refine WC.seq (WC.region ?_)
   refine sg 1 [] [0, 5, 6, 7, 8] [(0, (sv Aa p0 ca)), (5, (iv x3)), (6, (iv p1)), (7, (iv x4)), (8, (bv (decide (x4 < p1))))] (by kernel_rfl) ?_
   refine WL.done rfl (WX.next (WC.seq ?_))
   rcases br_some hl10 with ⟨h11, hl10⟩ | ⟨h11, hl10⟩
   ·refine WC.condT2 (fun fb => by kernel_rfl) h11 ?_
    refine WC.skip (WX.next (WC.seq (WC.block (WC.seq (WC.region ?_)))))
    refine sg 6 [] [0, 5, 6, 7] [(0, (sv Aa p0 ca)), (5, (iv (w64 (x3 * (maxI (p0.length : Int) 1))))), (6, (iv p1)), (7, (iv x4))] (by kernel_rfl) ?_
    refine WL.done rfl (WX.next (WC.seq (WC.region ?_)))
    refine sg 2 [] [0, 5, 6, 7, 15] [(0, (sv Aa p0 ca)), (5, (iv (w64 (x3 * (maxI (p0.length : Int) 1))))), (6, (iv p1)), (7, (iv x4)), (15, (bv (decide (w64 (x3 * (maxI (p0.length : Int) 1)) > 5000))))] (by kernel_rfl) ?_
    refine WL.done rfl (WX.next ?_)
    rcases br_some hl10 with ⟨h12, hl10⟩ | ⟨h12, hl10⟩
    ·refine WC.condT2 (fun fb => by kernel_rfl) h12 ?_
     refine WC.seq (WC.region ?_)
     refine sg 1 [] [4] [(4, (bv false))] (by kernel_rfl) ?_
     refine WL.done rfl (WX.next ?_)
     refine WC.ret ?_
     injection hl10 with hl10
     subst hl10
     injection hf with hf
     subst hf
     exact WX.blockR (WX.thenR (WX.thenR (WX.blockR (WX.thenR (WX.ret_ [] (bv false) [] (fun fb => by kernel_rfl) trivial ⟨_, rfl, rfl, hS9.keep⟩)))))
    refine WC.condF2 (fun fb => by kernel_rfl) h12 ?_
    refine WC.skip ?_
    refine WX.blockN (WX.next ?_)
    refine WC.region ?_
    refine sg 2 [] [0, 5, 6, 7] [(0, (sv Aa p0 ca)), (5, (iv (w64 (x3 * (maxI (p0.length : Int) 1))))), (6, (iv p1)), (7, (iv (w64 (x4 + 1))))] (by kernel_rfl) ?_
    refine WL.done rfl ?_
    exact WX.again k7 (Nat.lt_succ_self _) (w64 (x3 * (maxI (p0.length : Int) 1)), w64 (x4 + 1)) [0, 5, 6, 7] rfl ⟨(hS9.subR [0]).sub [] (by decide), hl10⟩
   refine WC.condF2 (fun fb => by kernel_rfl) h11 ?_
   refine WC.exit ?_
   injection hl10 with hl10
   exact WX.thenX (WX.thenX (WX.blockHere (WX.to Kx5 () [] rfl ⟨(hS9.subR [0]).sub [] (by decide), hl10.symm⟩)))
 rintro y16 w13 ⟨hS14, hq15⟩
 subst hq15
 have hf := sum_inr hf
 refine WX.next (WC.seq (WC.region ?_))
 refine sg 1 [] [4] [(4, (bv true))] (by kernel_rfl) ?_
 refine WL.done rfl (WX.next ?_)
 refine WC.ret ?_
 injection hf with hf
 subst hf
 exact WX.ret_ [] (bv true) [] (fun fb => by kernel_rfl) trivial ⟨_, rfl, rfl, hS14.keep⟩
theorem square_check_calls (k : Nat) (p0 : List Tile) (p1 : Int) (Aa : Option Addr) (ca : Nat) (r : Int) (w : World) (hR0 : RO NoS w (rowR enc_Tile Aa ca p0)) (hf : square_check k p0 p1 = some r) :
  CallsR Try.prog 59 #[(sv Aa p0 ca), (iv p1)] w (fun v w' => v = (iv r) ∧ Keeps NoS w w') := by
 have hS : St NoS w w [rowR enc_Tile Aa ca p0] [] := St.init (ro_cons hR0 (ro_nil _ _))
 refine enter 21 Try.func59 rfl Try.ntmps59 rfl ?_
 unfold square_check at hf
 refine WC.seq (WC.region ?_)
 refine sg 1 [] [0, 1] [(0, (sv Aa p0 ca)), (1, (iv p1))] (by kernel_rfl) ?_
 refine WL.done rfl (WX.next (WC.seq (WC.block (WC.seq (WC.region ?_)))))
 refine sg 1 [] [0, 1, 6] [(0, (sv Aa p0 ca)), (1, (iv p1)), (6, (sv Aa p0 ca))] (by kernel_rfl) ?_
 obtain ⟨t3, ht4, hf⟩ := bind_some hf
 refine WL.call (some 7) 33 #[(sv Aa p0 ca)] (fun fb => by kernel_rfl) (tile_Valid_calls _ p0 Aa ca t3 _ (hS.rd 0) ht4) (fun v w5 hR6 => ?_)
 obtain ⟨rfl, hk_⟩ := hR6
 have hS7 := hS.keepN hk_
 refine ⟨trivial, ?_⟩
 refine sg 4 [] [0, 1, 5] [(0, (sv Aa p0 ca)), (1, (iv p1)), (5, (bv (!t3)))] (by kernel_rfl) ?_
 refine WL.done rfl (WX.next ?_)
 rcases br_some hf with ⟨h8, hf⟩ | ⟨h8, hf⟩
 ·refine WC.condT2 (fun fb => by kernel_rfl) h8 ?_
  refine WC.seq (WC.region ?_)
  refine sg 1 [] [4] [(4, (iv 1))] (by kernel_rfl) ?_
  refine WL.done rfl (WX.next ?_)
  refine WC.ret ?_
  injection hf with hf
  subst hf
  exact WX.blockR (WX.thenR (WX.ret_ [] (iv 1) [] (fun fb => by kernel_rfl) trivial ⟨_, rfl, rfl, hS7.keep⟩))
 refine WC.condF2 (fun fb => by kernel_rfl) h8 ?_
 refine WC.seq (WC.region ?_)
 refine sg 3 [] [0, 1, 12] [(0, (sv Aa p0 ca)), (1, (iv p1)), (12, (bv (decide (p1 < 1))))] (by kernel_rfl) ?_
 refine WL.cutV (T := Bool) 6 (fun t => [(15, (bv t)), (0, (sv Aa p0 ca)), (1, (iv p1))]) (fun t => ((decide (p1 < 1)) || (decide (p1 > 8))) = t) (fun K => ?_) ?_
 ·
  rcases Bool.eq_false_or_eq_true (decide (p1 < 1)) with h9 | h9
  ·
   refine WL.setB 12 h9 rfl ?_
   refine sg 6 [] [0, 1, 15] [(0, (sv Aa p0 ca)), (1, (iv p1)), (15, (bv true))] (by kernel_rfl) ?_
   exact WL.toV K true [15, 0, 1] rfl (by first | (rw [h9]; done) | (rw [h9]; rfl))
  refine WL.setB 12 h9 rfl ?_
  refine sg 6 [] [0, 1, 15] [(0, (sv Aa p0 ca)), (1, (iv p1)), (15, (bv (decide (p1 > 8))))] (by kernel_rfl) ?_
  exact WL.toV K (decide (p1 > 8)) [15, 0, 1] rfl (by first | (rw [h9]; done) | (rw [h9]; rfl))
 rintro b10 rfl
 refine sg 7 [] [0, 1, 9] [(0, (sv Aa p0 ca)), (1, (iv p1)), (9, (bv ((decide (p1 < 1)) || (decide (p1 > 8)))))] (by kernel_rfl) ?_
 refine WL.done rfl (WX.next ?_)
 rcases br_some hf with ⟨h11, hf⟩ | ⟨h11, hf⟩
 ·refine WC.condT2 (fun fb => by kernel_rfl) h11 ?_
  refine WC.seq (WC.region ?_)
  refine sg 1 [] [4] [(4, (iv 2))] (by kernel_rfl) ?_
  refine WL.done rfl (WX.next ?_)
  refine WC.ret ?_
  injection hf with hf
  subst hf
  exact WX.blockR (WX.thenR (WX.ret_ [] (iv 2) [] (fun fb => by kernel_rfl) trivial ⟨_, rfl, rfl, hS7.keep⟩))
 refine WC.condF2 (fun fb => by kernel_rfl) h11 ?_
 refine WC.seq (WC.region ?_)
 refine sg 2 [] [17, 18] [(17, (sv Aa p0 ca)), (18, (iv p1))] (by kernel_rfl) ?_
 obtain ⟨t12, ht13, hf⟩ := bind_some hf
 refine WL.call (some 19) 44 #[(sv Aa p0 ca), (iv p1)] (fun fb => by kernel_rfl) (rows_Few_calls _ p0 p1 Aa ca t12 _ (hS7.rd 0) ht13) (fun v w14 hR15 => ?_)
 obtain ⟨rfl, hk_⟩ := hR15
 have hS16 := hS7.keepN hk_
 refine ⟨trivial, ?_⟩
 refine sg 5 [] [16] [(16, (bv (!t12)))] (by kernel_rfl) ?_
 refine WL.done rfl (WX.next ?_)
 rcases br_some hf with ⟨h17, hf⟩ | ⟨h17, hf⟩
 ·refine WC.condT2 (fun fb => by kernel_rfl) h17 ?_
  refine WC.seq (WC.region ?_)
  refine sg 1 [] [4] [(4, (iv 4))] (by kernel_rfl) ?_
  refine WL.done rfl (WX.next ?_)
  refine WC.ret ?_
  injection hf with hf
  subst hf
  exact WX.blockR (WX.thenR (WX.ret_ [] (iv 4) [] (fun fb => by kernel_rfl) trivial ⟨_, rfl, rfl, hS16.keep⟩))
 refine WC.condF2 (fun fb => by kernel_rfl) h17 ?_
 refine WC.skip ?_
 refine WX.blockN (WX.next ?_)
 refine WC.seq (WC.region ?_)
 refine sg 1 [] [4] [(4, (iv 0))] (by kernel_rfl) ?_
 refine WL.done rfl (WX.next ?_)
 refine WC.ret ?_
 injection hf with hf
 subst hf
 exact WX.ret_ [] (iv 0) [] (fun fb => by kernel_rfl) trivial ⟨_, rfl, rfl, hS16.keep⟩
end Gp
