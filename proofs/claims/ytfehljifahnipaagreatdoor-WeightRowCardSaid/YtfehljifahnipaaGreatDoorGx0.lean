/- Walks: each function of the program computes its plain function. -/
import Derived.Test.YtfehljifahnipaaGreatDoorGp
set_option linter.unusedVariables false
set_option linter.unusedSimpArgs false
set_option maxHeartbeats 4000000
set_option maxRecDepth 8000
namespace Gp
open Go Gw Go.Proofs
theorem law06_wide_calls (p0 : List Tile) (p1 : Weights) (Aa : Option Addr) (ca : Nat) (Ab : Option Addr) (cb : Nat) (Ac : Option Addr) (cc : Nat) (Ad : Option Addr) (cd : Nat) (Ae : Option Addr) (ce : Nat) (Af : Option Addr) (cf : Nat) (r : Bool) (w : World) (hR0 : RO NoS w (rowR enc_Tile Aa ca p0)) (hR1 : RO NoS w (rowR enc_Frac Ab cb p1.Values)) (hR2 : RO NoS w (rowR enc_Frac Ac cc p1.Carries)) (hR3 : RO NoS w (rowR enc_Frac Ad cd p1.Factors)) (hR4 : RO NoS w (rowR encInt Ae ce p1.Primes)) (hR5 : RO NoS w (rowR encInt Af cf p1.Logs)) (hf : law06_wide p0 p1 = some r) :
  CallsR Tryz.prog 8 #[(sv Aa p0 ca), (.agg #[(sv Ab p1.Values cb), (sv Ac p1.Carries cc), (sv Ad p1.Factors cd), (sv Ae p1.Primes ce), (sv Af p1.Logs cf)])] w (fun v w' => v = (bv r) ∧ Keeps NoS w w') := by
 have hS : St NoS w w [rowR enc_Tile Aa ca p0, rowR enc_Frac Ab cb p1.Values, rowR enc_Frac Ac cc p1.Carries, rowR enc_Frac Ad cd p1.Factors, rowR encInt Ae ce p1.Primes, rowR encInt Af cf p1.Logs] [] := St.init (ro_cons hR0 (ro_cons hR1 (ro_cons hR2 (ro_cons hR3 (ro_cons hR4 (ro_cons hR5 (ro_nil _ _)))))))
 refine enter 32 Tryz.func8 rfl Tryz.ntmps8 rfl ?_
 unfold law06_wide at hf
 refine WC.seq (WC.region ?_)
 refine WL.new hS 3 [] (fun g => (pt g)) (.cells #[(sv Ab p1.Values cb), (sv Ac p1.Carries cc), (sv Ad p1.Factors cd), (sv Ae p1.Primes ce), (sv Af p1.Logs cf)] 26 (0, 0)) [] (fun fb g => by kernel_rfl) trivial (fun g5 w6 hS7 => ?_)
 refine ⟨trivial, ?_⟩
 refine sg 2 [] [0, 3] [(0, (sv Aa p0 ca)), (3, (pt g5))] (by kernel_rfl) ?_
 refine WL.done rfl (WX.next (WC.seq (WC.region ?_)))
 refine sg 4 [] [3, 8] [(3, (pt g5)), (8, (bv (decide ((p0.length : Int) > 1100))))] (by kernel_rfl) ?_
 let e3 := ((p1.Values.length : Int) + (p1.Carries.length : Int))
 refine WL.cutV (T := Bool) 17 (fun t => [(21, (bv t)), (3, (pt g5))]) (fun t => ((decide ((p0.length : Int) > 1100)) || (decide (w64 ((w64 e3) + (p1.Factors.length : Int)) > 4000))) = t) (fun K => ?_) ?_
 ·
  rcases Bool.eq_false_or_eq_true (decide ((p0.length : Int) > 1100)) with h9 | h9
  ·
   refine WL.setB 8 h9 rfl ?_
   refine sg 17 [] [3, 21] [(3, (pt g5)), (21, (bv true))] (by kernel_rfl) ?_
   exact WL.toV K true [21, 3] rfl (by first | (rw [h9]; done) | (rw [h9]; rfl))
  refine WL.setB 8 h9 rfl ?_
  refine seg 17 [.v (sv Ab p1.Values cb), .v (sv Ac p1.Carries cc), .v (sv Ad p1.Factors cd)] [3, 21] [(3, (pt g5)), (21, (bv (decide (w64 ((w64 e3) + (p1.Factors.length : Int)) > 4000))))] [.cell ⟨g5, 0, none⟩ (sv Ab p1.Values cb), .cell ⟨g5, 1, none⟩ (sv Ac p1.Carries cc), .cell ⟨g5, 2, none⟩ (sv Ad p1.Factors cd)] (fun fb => by kernel_rfl) rfl ⟨hS7.cell 0 rfl 0 rfl, hS7.cell 0 rfl 1 rfl, hS7.cell 0 rfl 2 rfl, trivial⟩ ?_
  exact WL.toV K (decide (w64 ((w64 ((p1.Values.length : Int) + (p1.Carries.length : Int))) + (p1.Factors.length : Int)) > 4000)) [21, 3] rfl (by first | (rw [h9]; done) | (rw [h9]; rfl))
 rintro b10 rfl
 refine sg 18 [] [3, 22] [(3, (pt g5)), (22, (bv ((decide ((p0.length : Int) > 1100)) || (decide (w64 ((w64 e3) + (p1.Factors.length : Int)) > 4000)))))] (by kernel_rfl) ?_
 let e1 := (decide (w64 ((w64 e3) + (p1.Factors.length : Int)) > 4000))
 let e2 := (decide (w64 ((p1.Primes.length : Int) + (p1.Logs.length : Int)) > 100))
 refine WL.cutV (T := Bool) 27 (fun t => [(31, (bv t))]) (fun t => (((decide ((p0.length : Int) > 1100)) || e1) || e2) = t) (fun K => ?_) ?_
 ·
  rcases Bool.eq_false_or_eq_true ((decide ((p0.length : Int) > 1100)) || e1) with h11 | h11
  ·
   refine WL.setB 22 h11 rfl ?_
   refine sg 27 [] [31] [(31, (bv true))] (by kernel_rfl) ?_
   exact WL.toV K true [31] rfl (by first | (rw [h11]; done) | (rw [h11]; rfl))
  refine WL.setB 22 h11 rfl ?_
  refine seg 27 [.v (sv Ae p1.Primes ce), .v (sv Af p1.Logs cf)] [31] [(31, (bv e2))] [.cell ⟨g5, 3, none⟩ (sv Ae p1.Primes ce), .cell ⟨g5, 4, none⟩ (sv Af p1.Logs cf)] (fun fb => by kernel_rfl) rfl ⟨hS7.cell 0 rfl 3 rfl, hS7.cell 0 rfl 4 rfl, trivial⟩ ?_
  exact WL.toV K (decide (w64 ((p1.Primes.length : Int) + (p1.Logs.length : Int)) > 100)) [31] rfl (by first | (rw [h11]; done) | (rw [h11]; rfl))
 rintro b12 rfl
 refine sg 28 [] [4] [(4, (bv (((decide ((p0.length : Int) > 1100)) || e1) || e2)))] (by kernel_rfl) ?_
 refine WL.done rfl (WX.next ?_)
 refine WC.ret ?_
 injection hf with hf
 subst hf
 exact WX.ret_ [] (bv (((decide ((p0.length : Int) > 1100)) || e1) || e2)) [] (fun fb => by kernel_rfl) trivial ⟨_, rfl, rfl, hS7.keep⟩
theorem tile_colour_1_calls (p0 : Int)  (r : Bool) (w : World)  (hf : tile_colour_1 p0 = some r) :
  CallsR Tryz.prog 89 #[(iv p0)] w (fun v w' => v = (bv r) ∧ Keeps NoS w w') := by
 have hS : St NoS w w [] [] := St.init (ro_nil _ _)
 refine enter 9 Tryz.func89 rfl Tryz.ntmps89 rfl ?_
 unfold tile_colour_1 at hf
 refine WC.seq (WC.region ?_)
 refine sg 1 [] [0] [(0, (iv p0))] (by kernel_rfl) ?_
 refine WL.done rfl (WX.next (WC.seq (WC.region ?_)))
 refine sg 3 [] [0, 5] [(0, (iv p0)), (5, (bv (decide (p0 < 0))))] (by kernel_rfl) ?_
 refine WL.cutV (T := Bool) 6 (fun t => [(8, (bv t))]) (fun t => ((decide (p0 < 0)) || (decide (p0 ≥ 1000))) = t) (fun K => ?_) ?_
 ·
  rcases Bool.eq_false_or_eq_true (decide (p0 < 0)) with h2 | h2
  ·
   refine WL.setB 5 h2 rfl ?_
   refine sg 6 [] [8] [(8, (bv true))] (by kernel_rfl) ?_
   exact WL.toV K true [8] rfl (by first | (rw [h2]; done) | (rw [h2]; rfl))
  refine WL.setB 5 h2 rfl ?_
  refine sg 6 [] [8] [(8, (bv (decide (p0 ≥ 1000))))] (by kernel_rfl) ?_
  exact WL.toV K (decide (p0 ≥ 1000)) [8] rfl (by first | (rw [h2]; done) | (rw [h2]; rfl))
 rintro b3 rfl
 refine sg 7 [] [2] [(2, (bv ((decide (p0 < 0)) || (decide (p0 ≥ 1000)))))] (by kernel_rfl) ?_
 refine WL.done rfl (WX.next ?_)
 refine WC.ret ?_
 injection hf with hf
 subst hf
 exact WX.ret_ [] (bv ((decide (p0 < 0)) || (decide (p0 ≥ 1000)))) [] (fun fb => by kernel_rfl) trivial ⟨_, rfl, rfl, hS.keep⟩
theorem slices_IndexFunc_int_int_with_tile_colour_1_calls (k : Nat) (p0 : List Int) (Aa : Option Addr) (ca : Nat) (r : Int) (w : World) (hR0 : RO NoS w (rowR encInt Aa ca p0)) (hf : slices_IndexFunc_int_int_with_tile_colour_1 k p0 = some r) :
  CallsR Tryz.prog 91 #[(sv Aa p0 ca), (.func (.func 89) #[] #[])] w (fun v w' => v = (iv r) ∧ Keeps NoS w w') := by
 have hS : St NoS w w [rowR encInt Aa ca p0] [] := St.init (ro_cons hR0 (ro_nil _ _))
 refine enter 19 Tryz.func91 rfl Tryz.ntmps91 rfl ?_
 unfold slices_IndexFunc_int_int_with_tile_colour_1 at hf
 refine WC.seq (WC.region ?_)
 refine sg 1 [] [0, 1] [(0, (sv Aa p0 ca)), (1, (.func (.func 89) #[] #[]))] (by kernel_rfl) ?_
 refine WL.done rfl (WX.next (WC.seq (WC.seq (WC.region ?_))))
 refine sg 3 [] [0, 1, 7, 8] [(0, (sv Aa p0 ca)), (1, (.func (.func 89) #[] #[])), (7, (iv (p0.length : Int))), (8, (iv 0))] (by kernel_rfl) ?_
 refine WL.done rfl (WX.next ?_)
 obtain ⟨x4, hx5, hf⟩ := bind_some hf
 let e1 : Nat × Value := (7, (iv (p0.length : Int)))
 let e2 : Nat × Value := (0, (sv Aa p0 ca))
 refine WC.cutN (T := Unit) (fun t => []) (fun t w1 => St NoS w w1 [rowR encInt Aa ca p0] [] ∧ x4 = .inr t) (fun Kx4 => ?_) ?_
 ·
  refine WC.block ?_
  refine WC.loop (T := Int) (fun t => [e2, (1, (.func (.func 89) #[] #[])), e1, (8, (iv t))]) (fun n t w1 => St NoS w w1 [rowR encInt Aa ca p0] [] ∧ slices_IndexFunc_int_int_with_tile_colour_1.l0 n t p0 = some x4) k 0 [0, 1, 7, 8] rfl ⟨(hS.subR [0]).sub [] (by decide), hx5⟩ ?_
  rintro k6 x3 w7 ⟨hS8, hl9⟩
  cases k6 with
  | zero => rw [slices_IndexFunc_int_int_with_tile_colour_1.l0] at hl9; cases hl9
  | succ k6 =>
   rw [slices_IndexFunc_int_int_with_tile_colour_1.l0] at hl9
   refine WC.seq (WC.region ?_)
   refine sg 1 [] [0, 1, 7, 8, 9] [e2, (1, (.func (.func 89) #[] #[])), e1, (8, (iv x3)), (9, (bv (decide (x3 < (p0.length : Int)))))] (by kernel_rfl) ?_
   refine WL.done rfl (WX.next (WC.seq ?_))
   rcases br_some hl9 with ⟨h10, hl9⟩ | ⟨h10, hl9⟩
   ·refine WC.condT2 (fun fb => by kernel_rfl) h10 ?_
    refine WC.skip (WX.next (WC.seq (WC.block (WC.seq (WC.region ?_)))))
    refine sg 2 [] [0, 1, 5, 7, 8] [e2, (1, (.func (.func 89) #[] #[])), (5, (iv x3)), e1, (8, (iv x3))] (by kernel_rfl) ?_
    refine WL.done rfl (WX.next (WC.seq (WC.region ?_)))
    refine sg 3 [] [0, 1, 5, 7, 8, 11, 12, 13] [e2, (1, (.func (.func 89) #[] #[])), (5, (iv x3)), e1, (8, (iv x3)), (11, (.func (.func 89) #[] #[])), (12, (sv Aa p0 ca)), (13, (iv x3))] (by kernel_rfl) ?_
    obtain ⟨h11, hl9⟩ := as_some hl9
    refine seg 5 [.v (iv (rdD p0 x3 0))] [0, 1, 5, 7, 8, 11, 15] [e2, (1, (.func (.func 89) #[] #[])), (5, (iv x3)), e1, (8, (iv x3)), (11, (.func (.func 89) #[] #[])), (15, (iv (rdD p0 x3 0)))] [.idx Aa x3 p0.length, .cell ((adr Aa).add ((x3).toNat * 1)) (iv (rdD p0 x3 0))] (fun fb => by kernel_rfl) rfl ⟨rowR.adr (hS8.rd 0).1 h11.1 h11.2, rowR.cell (hS8.rd 0).1 0 h11.1 h11.2 0 rfl, trivial⟩ ?_
    obtain ⟨t12, ht13, hl9⟩ := bind_some hl9
    refine WL.call (some 16) 89 #[(iv (rdD p0 x3 0))] (fun fb => by kernel_rfl) (tile_colour_1_calls (rdD p0 x3 0) t12 _ ht13) (fun v w14 hR15 => ?_)
    obtain ⟨rfl, hk_⟩ := hR15
    have hS16 := hS8.keepN hk_
    refine ⟨trivial, ?_⟩
    refine WL.done rfl (WX.next ?_)
    rcases br_some hl9 with ⟨h17, hl9⟩ | ⟨h17, hl9⟩
    ·refine WC.condT2 (fun fb => by kernel_rfl) h17 ?_
     refine WC.seq (WC.region ?_)
     refine sg 2 [] [4] [(4, (iv x3))] (by kernel_rfl) ?_
     refine WL.done rfl (WX.next ?_)
     refine WC.ret ?_
     injection hl9 with hl9
     subst hl9
     injection hf with hf
     subst hf
     exact WX.blockR (WX.thenR (WX.thenR (WX.blockR (WX.thenR (WX.ret_ [] (iv x3) [] (fun fb => by kernel_rfl) trivial ⟨_, rfl, rfl, hS16.keep⟩)))))
    refine WC.condF2 (fun fb => by kernel_rfl) h17 ?_
    refine WC.skip ?_
    refine WX.blockN (WX.next ?_)
    refine WC.region ?_
    refine sg 2 [] [0, 1, 7, 8] [e2, (1, (.func (.func 89) #[] #[])), e1, (8, (iv (w64 (x3 + 1))))] (by kernel_rfl) ?_
    refine WL.done rfl ?_
    exact WX.again k6 (Nat.lt_succ_self _) (w64 (x3 + 1)) [0, 1, 7, 8] rfl ⟨(hS16.subR [0]).sub [] (by decide), hl9⟩
   refine WC.condF2 (fun fb => by kernel_rfl) h10 ?_
   refine WC.exit ?_
   injection hl9 with hl9
   exact WX.thenX (WX.thenX (WX.blockHere (WX.to Kx4 () [] rfl ⟨(hS8.subR [0]).sub [] (by decide), hl9.symm⟩)))
 rintro y21 w18 ⟨hS19, hq20⟩
 subst hq20
 have hf := sum_inr hf
 refine WX.next (WC.seq (WC.region ?_))
 refine sg 1 [] [4] [(4, (iv (-1)))] (by kernel_rfl) ?_
 refine WL.done rfl (WX.next ?_)
 refine WC.ret ?_
 injection hf with hf
 subst hf
 exact WX.ret_ [] (iv (-1)) [] (fun fb => by kernel_rfl) trivial ⟨_, rfl, rfl, hS19.keep⟩
theorem slices_ContainsFunc_int_int_with_tile_colour_1_calls (k : Nat) (p0 : List Int) (Aa : Option Addr) (ca : Nat) (r : Bool) (w : World) (hR0 : RO NoS w (rowR encInt Aa ca p0)) (hf : slices_ContainsFunc_int_int_with_tile_colour_1 k p0 = some r) :
  CallsR Tryz.prog 78 #[(sv Aa p0 ca), (.func (.func 89) #[] #[])] w (fun v w' => v = (bv r) ∧ Keeps NoS w w') := by
 have hS : St NoS w w [rowR encInt Aa ca p0] [] := St.init (ro_cons hR0 (ro_nil _ _))
 refine enter 9 Tryz.func78 rfl Tryz.ntmps78 rfl ?_
 unfold slices_ContainsFunc_int_int_with_tile_colour_1 at hf
 refine WC.seq (WC.region ?_)
 refine sg 1 [] [0, 1] [(0, (sv Aa p0 ca)), (1, (.func (.func 89) #[] #[]))] (by kernel_rfl) ?_
 refine WL.done rfl (WX.next (WC.seq (WC.region ?_)))
 refine sg 2 [] [5, 6] [(5, (sv Aa p0 ca)), (6, (.func (.func 89) #[] #[]))] (by kernel_rfl) ?_
 obtain ⟨t2, ht3, hf⟩ := bind_some hf
 refine WL.call (some 7) 91 #[(sv Aa p0 ca), (.func (.func 89) #[] #[])] (fun fb => by kernel_rfl) (slices_IndexFunc_int_int_with_tile_colour_1_calls _ p0 Aa ca t2 _ (hS.rd 0) ht3) (fun v w4 hR5 => ?_)
 obtain ⟨rfl, hk_⟩ := hR5
 have hS6 := hS.keepN hk_
 refine ⟨trivial, ?_⟩
 refine sg 5 [] [4] [(4, (bv (decide (t2 ≥ 0))))] (by kernel_rfl) ?_
 refine WL.done rfl (WX.next ?_)
 refine WC.ret ?_
 injection hf with hf
 subst hf
 exact WX.ret_ [] (bv (decide (t2 ≥ 0))) [] (fun fb => by kernel_rfl) trivial ⟨_, rfl, rfl, hS6.keep⟩
theorem tile_colour_calls (k : Nat) (p0 : List Int) (Aa : Option Addr) (ca : Nat) (r : Bool) (w : World) (hR0 : RO NoS w (rowR encInt Aa ca p0)) (hf : tile_colour k p0 = some r) :
  CallsR Tryz.prog 69 #[(sv Aa p0 ca)] w (fun v w' => v = (bv r) ∧ Keeps NoS w w') := by
 have hS : St NoS w w [rowR encInt Aa ca p0] [] := St.init (ro_cons hR0 (ro_nil _ _))
 refine enter 6 Tryz.func69 rfl Tryz.ntmps69 rfl ?_
 unfold tile_colour at hf
 refine WC.seq (WC.region ?_)
 refine sg 1 [] [0] [(0, (sv Aa p0 ca))] (by kernel_rfl) ?_
 refine WL.done rfl (WX.next (WC.seq (WC.region ?_)))
 refine sg 1 [] [3] [(3, (sv Aa p0 ca))] (by kernel_rfl) ?_
 obtain ⟨t2, ht3, hf⟩ := bind_some hf
 refine WL.call (some 4) 78 #[(sv Aa p0 ca), (.func (.func 89) #[] #[])] (fun fb => by kernel_rfl) (slices_ContainsFunc_int_int_with_tile_colour_1_calls _ p0 Aa ca t2 _ (hS.rd 0) ht3) (fun v w4 hR5 => ?_)
 obtain ⟨rfl, hk_⟩ := hR5
 have hS6 := hS.keepN hk_
 refine ⟨trivial, ?_⟩
 refine sg 4 [] [2] [(2, (bv (!t2)))] (by kernel_rfl) ?_
 refine WL.done rfl (WX.next ?_)
 refine WC.ret ?_
 injection hf with hf
 subst hf
 exact WX.ret_ [] (bv (!t2)) [] (fun fb => by kernel_rfl) trivial ⟨_, rfl, rfl, hS6.keep⟩
theorem tile_Valid_key44 : KeyK Tryz.prog 44 (aggI ints_Tile) := KeyK.struct (n := 4) (by kernel_rfl) ints_Tile (fun _ => rfl) (fun x y h => by cases x; cases y; simp only [ints_Tile, List.cons.injEq, and_true] at h; obtain ⟨rfl, rfl, rfl, rfl⟩ := h; rfl)
theorem tile_Valid_calls (k : Nat) (p0 : List Tile) (Aa : Option Addr) (ca : Nat) (r : Bool) (w : World) (hR0 : RO NoS w (rowR enc_Tile Aa ca p0)) (hf : tile_Valid k p0 = some r) :
  CallsR Tryz.prog 37 #[(sv Aa p0 ca)] w (fun v w' => v = (bv r) ∧ Keeps NoS w w') := by
 have hS : St NoS w w [rowR enc_Tile Aa ca p0] [] := St.init (ro_cons hR0 (ro_nil _ _))
 refine enter 35 Tryz.func37 rfl Tryz.ntmps37 rfl ?_
 unfold tile_Valid at hf
 refine WC.seq (WC.region ?_)
 refine sg 1 [] [0] [(0, (sv Aa p0 ca))] (by kernel_rfl) ?_
 refine WL.done rfl (WX.next (WC.seq (WC.seq (WC.region ?_))))
 refine sg 3 [] [0, 8] [(0, (sv Aa p0 ca)), (8, (bv (decide ((p0.length : Int) > 1000))))] (by kernel_rfl) ?_
 refine WL.done rfl (WX.next ?_)
 rcases br_some hf with ⟨h3, hf⟩ | ⟨h3, hf⟩
 ·refine WC.condT2 (fun fb => by kernel_rfl) h3 ?_
  refine WC.seq (WC.region ?_)
  refine sg 1 [] [2] [(2, (bv false))] (by kernel_rfl) ?_
  refine WL.done rfl (WX.next ?_)
  refine WC.ret ?_
  injection hf with hf
  subst hf
  exact WX.thenR (WX.ret_ [] (bv false) [] (fun fb => by kernel_rfl) trivial ⟨_, rfl, rfl, hS.keep⟩)
 refine WC.condF2 (fun fb => by kernel_rfl) h3 ?_
 refine WC.skip (WX.next (WC.seq (WC.region ?_)))
 refine WL.new hS 9 [] (fun g => (.map (some g))) (mapObj (aggI ints_Tile) vB ([] : List (Tile × Bool))) [] (fun fb g => by kernel_rfl) trivial (fun g4 w5 hS6 => ?_)
 refine ⟨trivial, ?_⟩
 refine sg 2 [] [0, 3] [(0, (sv Aa p0 ca)), (3, (.map (some g4)))] (by kernel_rfl) ?_
 refine WL.done rfl (WX.next (WC.seq (WC.seq (WC.region ?_))))
 refine sg 3 [] [3, 10, 11, 12] [(3, (.map (some g4))), (10, (sv Aa p0 ca)), (11, (iv (p0.length : Int))), (12, (iv 0))] (by kernel_rfl) ?_
 refine WL.done rfl (WX.next ?_)
 obtain ⟨x9, hx10, hf⟩ := bind_some hf
 let e3 : Nat × Value := (11, (iv (p0.length : Int)))
 let e4 : Nat × Value := (10, (sv Aa p0 ca))
 let e11 : List Nat := [3, 5, 10, 11, 12, 31]
 let e12 := aggI ints_Tile
 refine WC.cutN (T := Unit) (fun t => []) (fun t w1 => St NoS w w1 [rowR enc_Tile Aa ca p0] [] ∧ x9 = .inr t) (fun Kx9 => ?_) ?_
 ·
  refine WC.block ?_
  refine WC.loop (T := (List (Tile × Bool)) × Int) (fun t => [(3, (.map (some g4))), e4, e3, (12, (iv t.2))]) (fun n t w1 => St NoS w w1 [rowR enc_Tile Aa ca p0] [blk g4 (mapObj e12 vB t.1)] ∧ tile_Valid.l0 n t.1 t.2 p0 = some x9) k (([] : List (Tile × Bool)), 0) [3, 10, 11, 12] rfl ⟨(hS6.subR [0]).sub [0] (by decide), hx10⟩ ?_
  rintro k11 ⟨l7, x8⟩ w12 ⟨hS13, hl14⟩
  let e1 := rdD p0 x8 z_Tile
  let e2 : Array Value := #[(iv (e1.N)), (iv (e1.E)), (iv (e1.S)), (iv (e1.W))]
  let e5 := (adr Aa).add ((x8).toNat * 4)
  let e6 : Nat × Value := (12, (iv x8))
  let e7 := iv (e1.N)
  let e8 := iv (e1.E)
  let e9 := iv (e1.S)
  let e10 := iv (e1.W)
  cases k11 with
  | zero => rw [tile_Valid.l0] at hl14; cases hl14
  | succ k11 =>
   rw [tile_Valid.l0] at hl14
   refine WC.seq (WC.region ?_)
   refine sg 1 [] [3, 10, 11, 12, 13] [(3, (.map (some g4))), e4, e3, e6, (13, (bv (decide (x8 < (p0.length : Int)))))] (by kernel_rfl) ?_
   refine WL.done rfl (WX.next (WC.seq ?_))
   rcases br_some hl14 with ⟨h15, hl14⟩ | ⟨h15, hl14⟩
   ·refine WC.condT2 (fun fb => by kernel_rfl) h15 ?_
    refine WC.skip (WX.next (WC.seq (WC.block (WC.seq (WC.region ?_)))))
    obtain ⟨h16, hl14⟩ := as_some hl14
    refine seg 2 [.v e7, .v e8, .v e9, .v e10] [3, 10, 11, 12, 15] [(3, (.map (some g4))), e4, e3, e6, (15, (.agg e2))] [.idx Aa x8 p0.length, .cell e5 e7, .cell (e5.add 1) e8, .cell (e5.add 2) e9, .cell (e5.add 3) e10] (fun fb => by kernel_rfl) rfl ⟨rowR.adr (hS13.rd 0).1 h16.1 h16.2, rowR.cell (hS13.rd 0).1 z_Tile h16.1 h16.2 0 rfl, rowR.cell (hS13.rd 0).1 z_Tile h16.1 h16.2 1 rfl, rowR.cell (hS13.rd 0).1 z_Tile h16.1 h16.2 2 rfl, rowR.cell (hS13.rd 0).1 z_Tile h16.1 h16.2 3 rfl, trivial⟩ ?_
    refine WL.new hS13 5 [] (fun g => (pt g)) (.cells #[(iv 0), (iv 0), (iv 0), (iv 0)] 44 (0, 0)) [] (fun fb g => by kernel_rfl) trivial (fun g17 w18 hS19 => ?_)
    refine ⟨trivial, ?_⟩
    refine WL.store hS19 0 rfl [(0, e7), (1, e8), (2, e9), (3, e10)] e2 (fun fb => by kernel_rfl) (by kernel_rfl) rfl [1] (by decide) (by decide) (fun w20 hS21 => ?_)
    refine ⟨trivial, ?_⟩
    refine WL.done rfl (WX.next (WC.seq (WC.seq (WC.region ?_))))
    refine seg 2 [.v e7, .v e8, .v e9, .v e10] [3, 5, 10, 11, 12, 16, 17] [(3, (.map (some g4))), (5, (pt g17)), e4, e3, e6, (16, (.map (some g4))), (17, (.agg e2))] [.cell ⟨g17, 0, none⟩ e7, .cell ⟨g17, 1, none⟩ e8, .cell ⟨g17, 2, none⟩ e9, .cell ⟨g17, 3, none⟩ e10] (fun fb => by kernel_rfl) rfl ⟨hS21.cell 0 rfl 0 rfl, hS21.cell 0 rfl 1 rfl, hS21.cell 0 rfl 2 rfl, hS21.cell 0 rfl 3 rfl, trivial⟩ ?_
    refine WL.lookup (hS21.own 1).1 e1 (d := 18) (c := false) (t := 96) (kT := 44) (eT := 4) (z := false) (kE := e12) (vE := vB) (l := l7) (bv (mget e1 false l7)) (fun fb => by kernel_rfl) tile_Valid_key44 (by kernel_rfl) (fun _ => by kernel_rfl) rfl ?_
    refine ⟨trivial, ?_⟩
    refine sg 4 [] [3, 5, 10, 11, 12, 19] [(3, (.map (some g4))), (5, (pt g17)), e4, e3, e6, (19, (bv (mget e1 false l7)))] (by kernel_rfl) ?_
    obtain ⟨x22, hx23, hl14⟩ := bind_some hl14
    refine WL.cutW (T := Bool) 16 (fun t => [(3, (.map (some g4))), (5, (pt g17)), e4, e3, e6, (31, (bv t))]) (fun t w1 => (St NoS w w1 [rowR enc_Tile Aa ca p0] [blk g4 (mapObj e12 vB l7), blk g17 (.cells e2 44 (0, 0))] ∧ x22 = t) ∧ CellsOK [] w1) (fun K => ?_) ?_
    ·
     rcases br_some hx23 with ⟨h24, hx23⟩ | ⟨h24, hx23⟩
     ·
      refine WL.setB 19 h24 rfl ?_
      refine sg 16 [] e11 [(3, (.map (some g4))), (5, (pt g17)), e4, e3, e6, (31, (bv true))] (by kernel_rfl) ?_
      injection hx23 with hx23
      exact WL.to K true e11 rfl ⟨⟨(hS21.subR [0]).sub [1, 0] (by decide), hx23.symm⟩, trivial⟩
     refine WL.setB 19 h24 rfl ?_
     refine seg 12 [.v e7, .v e8, .v e9, .v e10] [3, 5, 10, 11, 12, 19, 21, 23, 25, 27] [(3, (.map (some g4))), (5, (pt g17)), e4, e3, e6, (19, (bv false)), (21, e7), (23, e8), (25, e9), (27, e10)] [.cell ⟨g17, 0, none⟩ e7, .cell ⟨g17, 1, none⟩ e8, .cell ⟨g17, 2, none⟩ e9, .cell ⟨g17, 3, none⟩ e10] (fun fb => by kernel_rfl) rfl ⟨hS21.cell 0 rfl 0 rfl, hS21.cell 0 rfl 1 rfl, hS21.cell 0 rfl 2 rfl, hS21.cell 0 rfl 3 rfl, trivial⟩ ?_
     refine WL.new hS21 28 [] (fun g => (.slice (some ⟨g, 0, none⟩) 4 4)) (.cells e2 3 (0, 0)) [] (fun fb g => by kernel_rfl) trivial (fun g25 w26 hS27 => ?_)
     refine ⟨trivial, ?_⟩
     have hS28 := hS.go w26 [rowO 3 encInt (some ⟨g25, 0, none⟩) 4 [e1.N, e1.E, e1.S, e1.W], blk g17 (.cells e2 44 (0, 0)), blk g4 (mapObj e12 vB l7)] (hS27.map1 0 _ (fun h => rowO.ofBlk h rfl (Nat.le_of_ble_eq_true (by kernel_rfl))) (fun _ h => by obtain ⟨_, h1, h2⟩ := h; injection h1 with h1; subst h1; exact h2) [1, 2] (by decide) (by decide))
     obtain ⟨t29, ht30, hx23⟩ := bind_some hx23
     refine WL.call (some 29) 69 #[(sv (some ⟨g25, 0, none⟩) [e1.N, e1.E, e1.S, e1.W] 4)] (fun fb => by kernel_rfl) (tile_colour_calls _ [e1.N, e1.E, e1.S, e1.W] (some ⟨g25, 0, none⟩) 4 t29 _ (hS28.ow 0).ofO ht30) (fun v w31 hR32 => ?_)
     obtain ⟨rfl, hk_⟩ := hR32
     have hS33 := hS28.keepN hk_
     refine ⟨trivial, ?_⟩
     refine sg 16 [] e11 [(3, (.map (some g4))), (5, (pt g17)), e4, e3, e6, (31, (bv (!t29)))] (by kernel_rfl) ?_
     injection hx23 with hx23
     exact WL.to K (!t29) e11 rfl ⟨⟨(hS33.subR [0]).sub [2, 1] (by decide), hx23.symm⟩, trivial⟩
    rintro y34 w36 ⟨⟨hS38, hq35⟩, hF39⟩
    subst hq35
    refine WL.done rfl (WX.next ?_)
    rcases br_some hl14 with ⟨h40, hl14⟩ | ⟨h40, hl14⟩
    ·refine WC.condT2 (fun fb => by kernel_rfl) h40 ?_
     refine WC.seq (WC.region ?_)
     refine sg 1 [] [2] [(2, (bv false))] (by kernel_rfl) ?_
     refine WL.done rfl (WX.next ?_)
     refine WC.ret ?_
     injection hl14 with hl14
     subst hl14
     injection hf with hf
     subst hf
     exact WX.thenR (WX.blockR (WX.thenR (WX.thenR (WX.blockR (WX.thenR (WX.ret_ [] (bv false) [] (fun fb => by kernel_rfl) trivial ⟨_, rfl, rfl, hS38.keep⟩))))))
    refine WC.condF2 (fun fb => by kernel_rfl) h40 ?_
    refine WC.skip (WX.next (WC.region ?_))
    refine seg 2 [.v e7, .v e8, .v e9, .v e10] [3, 10, 11, 12, 32, 33] [(3, (.map (some g4))), e4, e3, e6, (32, (.map (some g4))), (33, (.agg e2))] [.cell ⟨g17, 0, none⟩ e7, .cell ⟨g17, 1, none⟩ e8, .cell ⟨g17, 2, none⟩ e9, .cell ⟨g17, 3, none⟩ e10] (fun fb => by kernel_rfl) rfl ⟨hS38.cell 1 rfl 0 rfl, hS38.cell 1 rfl 1 rfl, hS38.cell 1 rfl 2 rfl, hS38.cell 1 rfl 3 rfl, trivial⟩ ?_
    refine WL.mapput hS38 0 (t := 96) (kT := 44) (eT := 4) (kE := e12) (vE := vB) (l := l7) rfl e1 true (fun fb => by kernel_rfl) tile_Valid_key44 (by kernel_rfl) [1] (by decide) (by decide) (fun w41 hS42 => ?_)
    refine ⟨trivial, ?_⟩
    refine WL.done rfl ?_
    refine WX.blockN (WX.next ?_)
    refine WC.region ?_
    refine sg 2 [] [3, 10, 11, 12] [(3, (.map (some g4))), e4, e3, (12, (iv (w64 (x8 + 1))))] (by kernel_rfl) ?_
    refine WL.done rfl ?_
    exact WX.again k11 (Nat.lt_succ_self _) (mput e1 true l7, w64 (x8 + 1)) [3, 10, 11, 12] rfl ⟨(hS42.subR [0]).sub [0] (by decide), hl14⟩
   refine WC.condF2 (fun fb => by kernel_rfl) h15 ?_
   refine WC.exit ?_
   injection hl14 with hl14
   exact WX.thenX (WX.thenX (WX.blockHere (WX.to Kx9 () [] rfl ⟨(hS13.subR [0]).sub [] (by decide), hl14.symm⟩)))
 rintro y47 w43 ⟨hS45, hq46⟩
 subst hq46
 have hf := sum_inr hf
 refine WX.next (WC.seq (WC.region ?_))
 refine sg 1 [] [2] [(2, (bv true))] (by kernel_rfl) ?_
 refine WL.done rfl (WX.next ?_)
 refine WC.ret ?_
 injection hf with hf
 subst hf
 exact WX.ret_ [] (bv true) [] (fun fb => by kernel_rfl) trivial ⟨_, rfl, rfl, hS45.keep⟩
theorem tile_write_calls (k : Nat) (p0 : List Tile) (Aa : Option Addr) (ca : Nat) (mG : Glo) (r : ByteArray) (w : World) (hR0 : RO NoS w (rowR enc_Tile Aa ca p0)) (hR1 : RO NoS w (gloO Tryz.prog 5 8 3 4 mG)) (hf : tile_write k p0 = some r) :
  CallsR Tryz.prog 62 #[(sv Aa p0 ca)] w (fun v w' => v = (.string r) ∧ Keeps NoS w w') := by
 have hS : St NoS w w [rowR enc_Tile Aa ca p0, gloO Tryz.prog 5 8 3 4 mG] [] := St.init (ro_cons hR0 (ro_cons hR1 (ro_nil _ _)))
 refine enter 41 Tryz.func62 rfl Tryz.ntmps62 rfl ?_
 unfold tile_write at hf
 refine WC.seq (WC.region ?_)
 refine sg 1 [] [0] [(0, (sv Aa p0 ca))] (by kernel_rfl) ?_
 refine WL.done rfl (WX.next (WC.seq (WC.region ?_)))
 refine sg 1 [] [0, 3] [(0, (sv Aa p0 ca)), (3, (.slice none 0 0))] (by kernel_rfl) ?_
 refine WL.done rfl (WX.next (WC.seq (WC.seq (WC.region ?_))))
 refine sg 3 [] [3, 9, 10, 11] [(3, (.slice none 0 0)), (9, (sv Aa p0 ca)), (10, (iv (p0.length : Int))), (11, (iv 0))] (by kernel_rfl) ?_
 refine WL.done rfl (WX.next ?_)
 have hS3 := hS.nilrow 9 encStr
 obtain ⟨x10, hx11, hf⟩ := bind_some hf
 let e2 : Nat × Value := (10, (iv (p0.length : Int)))
 let e4 : Nat × Value := (9, (sv Aa p0 ca))
 let e6 : List Nat := [3, 6, 9, 10, 11, 23, 24]
 let e9 : List Own := [rowR enc_Tile Aa ca p0, gloO Tryz.prog 5 8 3 4 mG]
 let e12 : List Nat := [3, 9, 10, 11, 23, 24, 27, 28]
 let e13 : List Nat := [3, 6, 9, 10, 11, 23, 24, 26]
 let e14 : List Nat := [3, 6, 8, 9, 10, 11, 23, 24]
 refine WC.cutN (T := (List ByteArray) × (Option Addr) × Nat) (fun t => [(3, (sv t.2.1 t.1 t.2.2))]) (fun t w1 => St NoS w w1 e9 [rowO 9 encStr t.2.1 t.2.2 t.1] ∧ x10 = t.1) (fun Kx10 => ?_) ?_
 ·
  refine WC.block ?_
  refine WC.loop (T := ((List ByteArray) × Int) × (Option Addr) × Nat) (fun t => [(3, (sv t.2.1 t.1.1 t.2.2)), e4, e2, (11, (iv t.1.2))]) (fun n t w1 => St NoS w w1 e9 [rowO 9 encStr t.2.1 t.2.2 t.1.1] ∧ tile_write.l0 n t.1.1 t.1.2 p0 = some x10) k ((([] : List ByteArray), 0), none, 0) [3, 9, 10, 11] rfl ⟨(hS3.subR [0, 1]).sub [0] (by decide), hx11⟩ ?_
  rintro k12 ⟨⟨l6, x7⟩, A4, c5⟩ w13 ⟨hS14, hl15⟩
  let e1 : Array Value := #[(iv ((rdD p0 x7 z_Tile).N)), (iv ((rdD p0 x7 z_Tile).E)), (iv ((rdD p0 x7 z_Tile).S)), (iv ((rdD p0 x7 z_Tile).W))]
  let e3 := rdD p0 x7 z_Tile
  let e5 : Nat × Value := (3, (sv A4 l6 c5))
  let e7 : Nat × Value := (11, (iv x7))
  let e11 := (adr Aa).add ((x7).toNat * 4)
  let e16 := iv (e3.N)
  let e17 := iv (e3.E)
  let e18 := iv (e3.S)
  let e19 := iv (e3.W)
  cases k12 with
  | zero => rw [tile_write.l0] at hl15; cases hl15
  | succ k12 =>
   rw [tile_write.l0] at hl15
   refine WC.seq (WC.region ?_)
   refine sg 1 [] [3, 9, 10, 11, 12] [e5, e4, e2, e7, (12, (bv (decide (x7 < (p0.length : Int)))))] (by kernel_rfl) ?_
   refine WL.done rfl (WX.next (WC.seq ?_))
   rcases br_some hl15 with ⟨h16, hl15⟩ | ⟨h16, hl15⟩
   ·refine WC.condT2 (fun fb => by kernel_rfl) h16 ?_
    refine WC.skip (WX.next (WC.seq (WC.block (WC.seq (WC.region ?_)))))
    obtain ⟨h17, hl15⟩ := as_some hl15
    refine seg 2 [.v e16, .v e17, .v e18, .v e19] [3, 9, 10, 11, 14] [e5, e4, e2, e7, (14, (.agg e1))] [.idx Aa x7 p0.length, .cell e11 e16, .cell (e11.add 1) e17, .cell (e11.add 2) e18, .cell (e11.add 3) e19] (fun fb => by kernel_rfl) rfl ⟨rowR.adr (hS14.rd 0).1 h17.1 h17.2, rowR.cell (hS14.rd 0).1 z_Tile h17.1 h17.2 0 rfl, rowR.cell (hS14.rd 0).1 z_Tile h17.1 h17.2 1 rfl, rowR.cell (hS14.rd 0).1 z_Tile h17.1 h17.2 2 rfl, rowR.cell (hS14.rd 0).1 z_Tile h17.1 h17.2 3 rfl, trivial⟩ ?_
    refine WL.new hS14 5 [] (fun g => (pt g)) (.cells #[(iv 0), (iv 0), (iv 0), (iv 0)] 44 (0, 0)) [] (fun fb g => by kernel_rfl) trivial (fun g18 w19 hS20 => ?_)
    refine ⟨trivial, ?_⟩
    refine WL.store hS20 0 rfl [(0, e16), (1, e17), (2, e18), (3, e19)] e1 (fun fb => by kernel_rfl) (by kernel_rfl) rfl [1] (by decide) (by decide) (fun w21 hS22 => ?_)
    refine ⟨trivial, ?_⟩
    refine WL.done rfl (WX.next (WC.seq (WC.region ?_)))
    refine sg 1 [] [3, 5, 6, 9, 10, 11] [e5, (5, (pt g18)), (6, (.slice none 0 0)), e4, e2, e7] (by kernel_rfl) ?_
    refine WL.done rfl (WX.next (WC.seq (WC.seq (WC.region ?_))))
    refine seg 10 [.v e16, .v e17, .v e18, .v e19] e6 [e5, (6, (.slice none 0 0)), e4, e2, e7, (23, (.agg e1)), (24, (iv 0))] [.cell ⟨g18, 0, none⟩ e16, .cell ⟨g18, 1, none⟩ e17, .cell ⟨g18, 2, none⟩ e18, .cell ⟨g18, 3, none⟩ e19] (fun fb => by kernel_rfl) rfl ⟨hS22.cell 0 rfl 0 rfl, hS22.cell 0 rfl 1 rfl, hS22.cell 0 rfl 2 rfl, hS22.cell 0 rfl 3 rfl, trivial⟩ ?_
    refine WL.done rfl (WX.next ?_)
    have hS23 := hS22.nilrow 9 encStr
    obtain ⟨x30, hx31, hl15⟩ := bind_some hl15
    refine WC.cutN (T := (List ByteArray) × (Option Addr) × Nat) (fun t => [e5, (6, (sv t.2.1 t.1 t.2.2)), e4, e2, e7]) (fun t w1 => St NoS w w1 e9 [rowO 9 encStr A4 c5 l6, rowO 9 encStr t.2.1 t.2.2 t.1] ∧ x30 = t.1) (fun Kx30 => ?_) ?_
    ·
     refine WC.block ?_
     refine WC.loop (T := ((List ByteArray) × Int) × (Option Addr) × Nat) (fun t => [e5, (6, (sv t.2.1 t.1.1 t.2.2)), e4, e2, e7, (23, (.agg e1)), (24, (iv t.1.2))]) (fun n t w1 => St NoS w w1 e9 [rowO 9 encStr A4 c5 l6, rowO 9 encStr t.2.1 t.2.2 t.1.1] ∧ tile_write.l1 n t.1.1 t.1.2 p0 x7 = some x30) k12 ((([] : List ByteArray), 0), none, 0) e6 rfl ⟨(hS23.subR [0, 1]).sub [2, 0] (by decide), hx31⟩ ?_
     rintro k32 ⟨⟨l26, x27⟩, A24, c25⟩ w33 ⟨hS34, hl35⟩
     let e8 := sv A24 l26 c25
     let e10 : Nat × Value := (24, (iv x27))
     let e15 : Nat × Value := (24, (iv (w64 (x27 + 1))))
     cases k32 with
     | zero => rw [tile_write.l1] at hl35; cases hl35
     | succ k32 =>
      rw [tile_write.l1] at hl35
      refine WC.seq (WC.region ?_)
      refine sg 1 [] [3, 6, 9, 10, 11, 23, 24, 25] [e5, (6, e8), e4, e2, e7, (23, (.agg e1)), e10, (25, (bv (decide (x27 < 4))))] (by kernel_rfl) ?_
      refine WL.done rfl (WX.next (WC.seq ?_))
      rcases br_some hl35 with ⟨h36, hl35⟩ | ⟨h36, hl35⟩
      ·refine WC.condT2 (fun fb => by kernel_rfl) h36 ?_
       refine WC.skip (WX.next (WC.seq (WC.block (WC.seq (WC.region ?_)))))
       rcases br_some hl35 with ⟨h37, hl35⟩ | ⟨h37, hl35⟩
       ·
        refine WL.setI 24 (eq_of_beq h37) rfl ?_
        refine sg 1 [] e13 [e5, (6, e8), e4, e2, e7, (23, (.agg e1)), (24, (iv 0)), (26, e16)] (by kernel_rfl) ?_
        refine WL.setI 24 (eq_of_beq h37).symm rfl ?_
        refine sg 2 [] e14 [e5, (6, e8), (8, e16), e4, e2, e7, (23, (.agg e1)), e10] (by kernel_rfl) ?_
        refine WL.done rfl (WX.next (WC.region ?_))
        refine sg 2 [] e12 [e5, e4, e2, e7, (23, (.agg e1)), e10, (27, e8), (28, e16)] (by kernel_rfl) ?_
        obtain ⟨t41, ht42, hl35⟩ := bind_some hl35
        refine WL.call (some 29) 83 #[e16] (fun fb => by kernel_rfl) (itoaN_calls Tryz.strconv_Itoa (e3.N) t41 _ (hS34.rd 1) ht42) (fun v w39 hR38 => ?_)
        obtain ⟨rfl, hk_⟩ := hR38
        have hS40 := hS34.keepN hk_
        refine ⟨trivial, ?_⟩
        refine WL.new hS40 30 [] (fun g => (.slice (some ⟨g, 0, none⟩) 1 1)) (.cells #[(.string t41)] 9 (0, 0)) [] (fun fb g => by kernel_rfl) trivial (fun g43 w44 hS45 => ?_)
        refine ⟨trivial, ?_⟩
        have hS46 := hS.go w44 [rowO 9 encStr (some ⟨g43, 0, none⟩) 1 [t41], rowO 9 encStr A4 c5 l6, rowO 9 encStr A24 c25 l26] (hS45.map1 0 _ (fun h => rowO.ofBlk h rfl (Nat.le_of_ble_eq_true (by kernel_rfl))) (fun _ h => by obtain ⟨_, h1, h2⟩ := h; injection h1 with h1; subst h1; exact h2) [1, 2] (by decide) (by decide))
        obtain ⟨h47, hl35⟩ := as_some hl35
        refine WL.append hS46 2 (d := 31) (tS := 79) (z := (.string ByteArray.empty)) (bytes := 16) (c2 := 1) rfl (fun fb => by kernel_rfl) (rowO.rd (hS46.own 0).1) (by kernel_rfl) (by kernel_rfl) rfl (by decide) h47 (by decide) [0, 1] (by decide) (by decide) (fun A48 c49 w50 hS51 => ?_)
        refine ⟨trivial, ?_⟩
        refine sg 6 [] e6 [e5, (6, (sv A48 (l26 ++ [t41]) c49)), e4, e2, e7, (23, (.agg e1)), e10] (by kernel_rfl) ?_
        refine WL.done rfl ?_
        refine WX.blockN (WX.next ?_)
        refine WC.region ?_
        refine sg 2 [] e6 [e5, (6, (sv A48 (l26 ++ [t41]) c49)), e4, e2, e7, (23, (.agg e1)), e15] (by kernel_rfl) ?_
        refine WL.done rfl ?_
        exact WX.again k32 (Nat.lt_succ_self _) ((l26 ++ [t41], w64 (x27 + 1)), A48, c49) e6 rfl ⟨(hS51.subR [0, 1]).sub [2, 0] (by decide), hl35⟩
       rcases br_some hl35 with ⟨h52, hl35⟩ | ⟨h52, hl35⟩
       ·
        refine WL.setI 24 (eq_of_beq h52) rfl ?_
        refine sg 1 [] e13 [e5, (6, e8), e4, e2, e7, (23, (.agg e1)), (24, (iv 1)), (26, e17)] (by kernel_rfl) ?_
        refine WL.setI 24 (eq_of_beq h52).symm rfl ?_
        refine sg 2 [] e14 [e5, (6, e8), (8, e17), e4, e2, e7, (23, (.agg e1)), e10] (by kernel_rfl) ?_
        refine WL.done rfl (WX.next (WC.region ?_))
        refine sg 2 [] e12 [e5, e4, e2, e7, (23, (.agg e1)), e10, (27, e8), (28, e17)] (by kernel_rfl) ?_
        obtain ⟨t56, ht57, hl35⟩ := bind_some hl35
        refine WL.call (some 29) 83 #[e17] (fun fb => by kernel_rfl) (itoaN_calls Tryz.strconv_Itoa (e3.E) t56 _ (hS34.rd 1) ht57) (fun v w54 hR53 => ?_)
        obtain ⟨rfl, hk_⟩ := hR53
        have hS55 := hS34.keepN hk_
        refine ⟨trivial, ?_⟩
        refine WL.new hS55 30 [] (fun g => (.slice (some ⟨g, 0, none⟩) 1 1)) (.cells #[(.string t56)] 9 (0, 0)) [] (fun fb g => by kernel_rfl) trivial (fun g58 w59 hS60 => ?_)
        refine ⟨trivial, ?_⟩
        have hS61 := hS.go w59 [rowO 9 encStr (some ⟨g58, 0, none⟩) 1 [t56], rowO 9 encStr A4 c5 l6, rowO 9 encStr A24 c25 l26] (hS60.map1 0 _ (fun h => rowO.ofBlk h rfl (Nat.le_of_ble_eq_true (by kernel_rfl))) (fun _ h => by obtain ⟨_, h1, h2⟩ := h; injection h1 with h1; subst h1; exact h2) [1, 2] (by decide) (by decide))
        obtain ⟨h63, hl35⟩ := as_some hl35
        refine WL.append hS61 2 (d := 31) (tS := 79) (z := (.string ByteArray.empty)) (bytes := 16) (c2 := 1) rfl (fun fb => by kernel_rfl) (rowO.rd (hS61.own 0).1) (by kernel_rfl) (by kernel_rfl) rfl (by decide) h63 (by decide) [0, 1] (by decide) (by decide) (fun A65 c66 w67 hS68 => ?_)
        refine ⟨trivial, ?_⟩
        refine sg 6 [] e6 [e5, (6, (sv A65 (l26 ++ [t56]) c66)), e4, e2, e7, (23, (.agg e1)), e10] (by kernel_rfl) ?_
        refine WL.done rfl ?_
        refine WX.blockN (WX.next ?_)
        refine WC.region ?_
        refine sg 2 [] e6 [e5, (6, (sv A65 (l26 ++ [t56]) c66)), e4, e2, e7, (23, (.agg e1)), e15] (by kernel_rfl) ?_
        refine WL.done rfl ?_
        exact WX.again k32 (Nat.lt_succ_self _) ((l26 ++ [t56], w64 (x27 + 1)), A65, c66) e6 rfl ⟨(hS68.subR [0, 1]).sub [2, 0] (by decide), hl35⟩
       rcases br_some hl35 with ⟨h69, hl35⟩ | ⟨h69, hl35⟩
       ·
        refine WL.setI 24 (eq_of_beq h69) rfl ?_
        refine sg 1 [] e13 [e5, (6, e8), e4, e2, e7, (23, (.agg e1)), (24, (iv 2)), (26, e18)] (by kernel_rfl) ?_
        refine WL.setI 24 (eq_of_beq h69).symm rfl ?_
        refine sg 2 [] e14 [e5, (6, e8), (8, e18), e4, e2, e7, (23, (.agg e1)), e10] (by kernel_rfl) ?_
        refine WL.done rfl (WX.next (WC.region ?_))
        refine sg 2 [] e12 [e5, e4, e2, e7, (23, (.agg e1)), e10, (27, e8), (28, e18)] (by kernel_rfl) ?_
        obtain ⟨t73, ht74, hl35⟩ := bind_some hl35
        refine WL.call (some 29) 83 #[e18] (fun fb => by kernel_rfl) (itoaN_calls Tryz.strconv_Itoa (e3.S) t73 _ (hS34.rd 1) ht74) (fun v w71 hR70 => ?_)
        obtain ⟨rfl, hk_⟩ := hR70
        have hS72 := hS34.keepN hk_
        refine ⟨trivial, ?_⟩
        refine WL.new hS72 30 [] (fun g => (.slice (some ⟨g, 0, none⟩) 1 1)) (.cells #[(.string t73)] 9 (0, 0)) [] (fun fb g => by kernel_rfl) trivial (fun g75 w76 hS77 => ?_)
        refine ⟨trivial, ?_⟩
        have hS78 := hS.go w76 [rowO 9 encStr (some ⟨g75, 0, none⟩) 1 [t73], rowO 9 encStr A4 c5 l6, rowO 9 encStr A24 c25 l26] (hS77.map1 0 _ (fun h => rowO.ofBlk h rfl (Nat.le_of_ble_eq_true (by kernel_rfl))) (fun _ h => by obtain ⟨_, h1, h2⟩ := h; injection h1 with h1; subst h1; exact h2) [1, 2] (by decide) (by decide))
        obtain ⟨h79, hl35⟩ := as_some hl35
        refine WL.append hS78 2 (d := 31) (tS := 79) (z := (.string ByteArray.empty)) (bytes := 16) (c2 := 1) rfl (fun fb => by kernel_rfl) (rowO.rd (hS78.own 0).1) (by kernel_rfl) (by kernel_rfl) rfl (by decide) h79 (by decide) [0, 1] (by decide) (by decide) (fun A80 c81 w82 hS83 => ?_)
        refine ⟨trivial, ?_⟩
        refine sg 6 [] e6 [e5, (6, (sv A80 (l26 ++ [t73]) c81)), e4, e2, e7, (23, (.agg e1)), e10] (by kernel_rfl) ?_
        refine WL.done rfl ?_
        refine WX.blockN (WX.next ?_)
        refine WC.region ?_
        refine sg 2 [] e6 [e5, (6, (sv A80 (l26 ++ [t73]) c81)), e4, e2, e7, (23, (.agg e1)), e15] (by kernel_rfl) ?_
        refine WL.done rfl ?_
        exact WX.again k32 (Nat.lt_succ_self _) ((l26 ++ [t73], w64 (x27 + 1)), A80, c81) e6 rfl ⟨(hS83.subR [0, 1]).sub [2, 0] (by decide), hl35⟩
       rcases br_some hl35 with ⟨h84, hl35⟩ | ⟨h84, hl35⟩
       ·
        refine WL.setI 24 (eq_of_beq h84) rfl ?_
        refine sg 1 [] e13 [e5, (6, e8), e4, e2, e7, (23, (.agg e1)), (24, (iv 3)), (26, e19)] (by kernel_rfl) ?_
        refine WL.setI 24 (eq_of_beq h84).symm rfl ?_
        refine sg 2 [] e14 [e5, (6, e8), (8, e19), e4, e2, e7, (23, (.agg e1)), e10] (by kernel_rfl) ?_
        refine WL.done rfl (WX.next (WC.region ?_))
        refine sg 2 [] e12 [e5, e4, e2, e7, (23, (.agg e1)), e10, (27, e8), (28, e19)] (by kernel_rfl) ?_
        obtain ⟨t88, ht89, hl35⟩ := bind_some hl35
        refine WL.call (some 29) 83 #[e19] (fun fb => by kernel_rfl) (itoaN_calls Tryz.strconv_Itoa (e3.W) t88 _ (hS34.rd 1) ht89) (fun v w86 hR85 => ?_)
        obtain ⟨rfl, hk_⟩ := hR85
        have hS87 := hS34.keepN hk_
        refine ⟨trivial, ?_⟩
        refine WL.new hS87 30 [] (fun g => (.slice (some ⟨g, 0, none⟩) 1 1)) (.cells #[(.string t88)] 9 (0, 0)) [] (fun fb g => by kernel_rfl) trivial (fun g90 w91 hS92 => ?_)
        refine ⟨trivial, ?_⟩
        have hS93 := hS.go w91 [rowO 9 encStr (some ⟨g90, 0, none⟩) 1 [t88], rowO 9 encStr A4 c5 l6, rowO 9 encStr A24 c25 l26] (hS92.map1 0 _ (fun h => rowO.ofBlk h rfl (Nat.le_of_ble_eq_true (by kernel_rfl))) (fun _ h => by obtain ⟨_, h1, h2⟩ := h; injection h1 with h1; subst h1; exact h2) [1, 2] (by decide) (by decide))
        obtain ⟨h94, hl35⟩ := as_some hl35
        refine WL.append hS93 2 (d := 31) (tS := 79) (z := (.string ByteArray.empty)) (bytes := 16) (c2 := 1) rfl (fun fb => by kernel_rfl) (rowO.rd (hS93.own 0).1) (by kernel_rfl) (by kernel_rfl) rfl (by decide) h94 (by decide) [0, 1] (by decide) (by decide) (fun A95 c96 w97 hS98 => ?_)
        refine ⟨trivial, ?_⟩
        refine sg 6 [] e6 [e5, (6, (sv A95 (l26 ++ [t88]) c96)), e4, e2, e7, (23, (.agg e1)), e10] (by kernel_rfl) ?_
        refine WL.done rfl ?_
        refine WX.blockN (WX.next ?_)
        refine WC.region ?_
        refine sg 2 [] e6 [e5, (6, (sv A95 (l26 ++ [t88]) c96)), e4, e2, e7, (23, (.agg e1)), e15] (by kernel_rfl) ?_
        refine WL.done rfl ?_
        exact WX.again k32 (Nat.lt_succ_self _) ((l26 ++ [t88], w64 (x27 + 1)), A95, c96) e6 rfl ⟨(hS98.subR [0, 1]).sub [2, 0] (by decide), hl35⟩
       cases hl35
      refine WC.condF2 (fun fb => by kernel_rfl) h36 ?_
      refine WC.exit ?_
      injection hl35 with hl35
      exact WX.thenX (WX.thenX (WX.blockHere (WX.to Kx30 (l26, A24, c25) [3, 6, 9, 10, 11] rfl ⟨(hS34.subR [0, 1]).sub [0, 1] (by decide), hl35.symm⟩)))
    rintro ⟨y102, A28, c29⟩ w99 ⟨hS100, hq101⟩
    subst hq101
    refine WX.next (WC.region ?_)
    refine sg 2 [] [9, 10, 11, 33, 34] [e4, e2, e7, (33, (sv A4 l6 c5)), (34, (sv A28 x30 c29))] (by kernel_rfl) ?_
    obtain ⟨t106, ht107, hl15⟩ := bind_some hl15
    refine WL.call (some 35) 84 #[(sv A28 x30 c29), (.string (⟨#[46]⟩ : ByteArray))] (fun fb => by kernel_rfl) (join_calls Tryz.strings_Join Tryz.strings_Join_none x30 (⟨#[46]⟩ : ByteArray) A28 c29 t106 _ (hS100.ow 1) ht107) (fun v w104 hR103 => ?_)
    obtain ⟨rfl, hk_⟩ := hR103
    have hS105 := hS100.keepN hk_
    refine ⟨trivial, ?_⟩
    refine WL.new hS105 36 [] (fun g => (.slice (some ⟨g, 0, none⟩) 1 1)) (.cells #[(.string t106)] 9 (0, 0)) [] (fun fb g => by kernel_rfl) trivial (fun g108 w109 hS110 => ?_)
    refine ⟨trivial, ?_⟩
    have hS111 := hS.go w109 [rowO 9 encStr (some ⟨g108, 0, none⟩) 1 [t106], rowO 9 encStr A4 c5 l6, rowO 9 encStr A28 c29 x30] (hS110.map1 0 _ (fun h => rowO.ofBlk h rfl (Nat.le_of_ble_eq_true (by kernel_rfl))) (fun _ h => by obtain ⟨_, h1, h2⟩ := h; injection h1 with h1; subst h1; exact h2) [1, 2] (by decide) (by decide))
    obtain ⟨h112, hl15⟩ := as_some hl15
    refine WL.append hS111 1 (d := 37) (tS := 79) (z := (.string ByteArray.empty)) (bytes := 16) (c2 := 1) rfl (fun fb => by kernel_rfl) (rowO.rd (hS111.own 0).1) (by kernel_rfl) (by kernel_rfl) rfl (by decide) h112 (by decide) [0, 2] (by decide) (by decide) (fun A113 c114 w115 hS116 => ?_)
    refine ⟨trivial, ?_⟩
    refine sg 6 [] [3, 9, 10, 11] [(3, (sv A113 (l6 ++ [t106]) c114)), e4, e2, e7] (by kernel_rfl) ?_
    refine WL.done rfl ?_
    refine WX.blockN (WX.next ?_)
    refine WC.region ?_
    refine sg 2 [] [3, 9, 10, 11] [(3, (sv A113 (l6 ++ [t106]) c114)), e4, e2, (11, (iv (w64 (x7 + 1))))] (by kernel_rfl) ?_
    refine WL.done rfl ?_
    exact WX.again k12 (Nat.lt_succ_self _) ((l6 ++ [t106], w64 (x7 + 1)), A113, c114) [3, 9, 10, 11] rfl ⟨(hS116.subR [0, 1]).sub [0] (by decide), hl15⟩
   refine WC.condF2 (fun fb => by kernel_rfl) h16 ?_
   refine WC.exit ?_
   injection hl15 with hl15
   exact WX.thenX (WX.thenX (WX.blockHere (WX.to Kx10 (l6, A4, c5) [3] rfl ⟨(hS14.subR [0, 1]).sub [0] (by decide), hl15.symm⟩)))
 rintro ⟨y120, A8, c9⟩ w117 ⟨hS118, hq119⟩
 subst hq119
 refine WX.next (WC.seq (WC.region ?_))
 refine sg 1 [] [39] [(39, (sv A8 x10 c9))] (by kernel_rfl) ?_
 obtain ⟨t124, ht125, hf⟩ := bind_some hf
 refine WL.call (some 40) 84 #[(sv A8 x10 c9), (.string (⟨#[32]⟩ : ByteArray))] (fun fb => by kernel_rfl) (join_calls Tryz.strings_Join Tryz.strings_Join_none x10 (⟨#[32]⟩ : ByteArray) A8 c9 t124 _ (hS118.ow 0) ht125) (fun v w122 hR121 => ?_)
 obtain ⟨rfl, hk_⟩ := hR121
 have hS123 := hS118.keepN hk_
 refine ⟨trivial, ?_⟩
 refine sg 3 [] [2] [(2, (.string t124))] (by kernel_rfl) ?_
 refine WL.done rfl (WX.next ?_)
 refine WC.ret ?_
 injection hf with hf
 subst hf
 exact WX.ret_ [] (.string t124) [] (fun fb => by kernel_rfl) trivial ⟨_, rfl, rfl, hS123.keep⟩
theorem tile_Parse_calls (k : Nat) (p0 : ByteArray) (mG : Glo) (r : (List Tile) × Int) (w : World) (hR0 : RO NoS w (gloO Tryz.prog 5 8 3 4 mG)) (hf : tile_Parse k p0 = some r) :
  CallsR Tryz.prog 26 #[(.string p0)] w (fun v w' => ∃ (A1_ : Option Addr), ∃ (c1_ : Nat), v = (.tuple #[(sv A1_ r.1 c1_), (iv r.2)]) ∧ St NoS w w' [] [rowO 44 enc_Tile A1_ c1_ r.1]) := by
 have hS : St NoS w w [gloO Tryz.prog 5 8 3 4 mG] [] := St.init (ro_cons hR0 (ro_nil _ _))
 refine enter 76 Tryz.func26 rfl Tryz.ntmps26 rfl ?_
 unfold tile_Parse at hf
 refine WC.seq (WC.region ?_)
 refine sg 2 [] [0] [(0, (.string p0))] (by kernel_rfl) ?_
 refine WL.done rfl (WX.next (WC.seq (WC.region ?_)))
 refine sg 1 [] [0, 4] [(0, (.string p0)), (4, (.slice none 0 0))] (by kernel_rfl) ?_
 refine WL.done rfl (WX.next (WC.seq (WC.seq (WC.region ?_))))
 refine sg 1 [] [0, 4, 13] [(0, (.string p0)), (4, (.slice none 0 0)), (13, (.string p0))] (by kernel_rfl) ?_
 refine sg 2 [] [0, 4, 14] [(0, (.string p0)), (4, (.slice none 0 0)), (14, (bv (p0.toList == (⟨#[]⟩ : ByteArray).toList)))] (by kernel_rfl) ?_
 refine WL.setB 14 (strEq_raw p0 (⟨#[]⟩ : ByteArray)) rfl ?_
 refine WL.done rfl (WX.next ?_)
 rcases br_some hf with ⟨h21, hf⟩ | ⟨h21, hf⟩
 ·refine WC.condT2 (fun fb => by kernel_rfl) h21 ?_
  refine WC.seq (WC.region ?_)
  refine sg 2 [] [2, 3] [(2, (.slice none 0 0)), (3, (iv 0))] (by kernel_rfl) ?_
  refine WL.done rfl (WX.next ?_)
  refine WC.ret ?_
  have hS22 := hS.nilrow 44 enc_Tile
  injection hf with hf
  subst hf
  exact WX.thenR (WX.ret_ [] (.tuple #[(sv none ([] : List Tile) 0), (iv 0)]) [] (fun fb => by kernel_rfl) trivial ⟨_, rfl, none, 0, rfl, (hS22.sub [0] (by decide)).noR⟩)
 refine WC.condF2 (fun fb => by kernel_rfl) h21 ?_
 refine WC.skip (WX.next (WC.seq (WC.seq (WC.region ?_))))
 refine sg 3 [] [0, 4, 17] [(0, (.string p0)), (4, (.slice none 0 0)), (17, (bv (decide ((p0.size : Int) > 16000))))] (by kernel_rfl) ?_
 refine WL.done rfl (WX.next ?_)
 rcases br_some hf with ⟨h23, hf⟩ | ⟨h23, hf⟩
 ·refine WC.condT2 (fun fb => by kernel_rfl) h23 ?_
  refine WC.seq (WC.region ?_)
  refine sg 2 [] [2, 3] [(2, (.slice none 0 0)), (3, (iv 3))] (by kernel_rfl) ?_
  refine WL.done rfl (WX.next ?_)
  refine WC.ret ?_
  have hS24 := hS.nilrow 44 enc_Tile
  injection hf with hf
  subst hf
  exact WX.thenR (WX.ret_ [] (.tuple #[(sv none ([] : List Tile) 0), (iv 3)]) [] (fun fb => by kernel_rfl) trivial ⟨_, rfl, none, 0, rfl, (hS24.sub [0] (by decide)).noR⟩)
 refine WC.condF2 (fun fb => by kernel_rfl) h23 ?_
 refine WC.skip (WX.next (WC.seq (WC.seq (WC.region ?_))))
 refine sg 1 [] [0, 4, 18] [(0, (.string p0)), (4, (.slice none 0 0)), (18, (.string p0))] (by kernel_rfl) ?_
 obtain ⟨h28, hf⟩ := as_some hf
 refine WL.call (some 19) 60 #[(.string p0), (.string (⟨#[32]⟩ : ByteArray))] (fun fb => by kernel_rfl) (split_calls Tryz.strings_Split p0 (⟨#[32]⟩ : ByteArray) mG.m _ (gloO.cel (hS.rd 0)) h28) (fun v w26 hR25 => ?_)
 obtain ⟨A29, c30, rfl, hk_⟩ := hR25
 have hS27 := hS.go w26 [rowO 9 encStr A29 c30 (splitP p0 (⟨#[32]⟩ : ByteArray))] (hS.call hk_ [] [] (fun g hg => hg.elim) (by simp) (by decide))
 refine ⟨trivial, ?_⟩
 refine sg 4 [] [0, 4, 19, 20, 21] [(0, (.string p0)), (4, (.slice none 0 0)), (19, (sv A29 (splitP p0 (⟨#[32]⟩ : ByteArray)) c30)), (20, (iv ((splitP p0 (⟨#[32]⟩ : ByteArray)).length : Int))), (21, (iv 0))] (by kernel_rfl) ?_
 refine WL.done rfl (WX.next ?_)
 have hS3 := hS27.nilrow 44 enc_Tile
 obtain ⟨x10, hx11, hf⟩ := bind_some hf
 let e3 : List Nat := [0, 4, 8, 19, 20, 21, 35, 36, 37]
 let e6 : List Nat := [0, 4, 8, 19, 20, 21, 35, 36, 37, 50, 51]
 let e8 := [gloO Tryz.prog 5 8 3 4 mG]
 refine WC.cutN (T := (List Tile) × (Option Addr) × Nat) (fun t => [(0, (.string p0)), (4, (sv t.2.1 t.1 t.2.2))]) (fun t w1 => St NoS w w1 e8 [rowO 44 enc_Tile t.2.1 t.2.2 t.1] ∧ x10 = .inr t.1) (fun Kx10 => ?_) ?_
 ·
  refine WC.block ?_
  refine WC.loop (T := ((List Tile) × Int) × (Option Addr) × Nat) (fun t => [(0, (.string p0)), (4, (sv t.2.1 t.1.1 t.2.2)), (19, (sv A29 (splitP p0 (⟨#[32]⟩ : ByteArray)) c30)), (20, (iv ((splitP p0 (⟨#[32]⟩ : ByteArray)).length : Int))), (21, (iv t.1.2))]) (fun n t w1 => St NoS w w1 e8 [rowO 44 enc_Tile t.2.1 t.2.2 t.1.1, rowO 9 encStr A29 c30 (splitP p0 (⟨#[32]⟩ : ByteArray))] ∧ tile_Parse.l0 n t.1.1 t.1.2 p0 = some x10) k ((([] : List Tile), 0), none, 0) [0, 4, 19, 20, 21] rfl ⟨(hS3.subR [0]).sub [0, 1] (by decide), hx11⟩ ?_
  rintro k12 ⟨⟨l6, x7⟩, A4, c5⟩ w13 ⟨hS14, hl15⟩
  let e1 : Nat × Value := (4, (sv A4 l6 c5))
  let e2 : Nat × Value := (21, (iv x7))
  cases k12 with
  | zero => rw [tile_Parse.l0] at hl15; cases hl15
  | succ k12 =>
   rw [tile_Parse.l0] at hl15
   refine WC.seq (WC.region ?_)
   refine sg 1 [] [0, 4, 19, 20, 21, 22] [(0, (.string p0)), e1, (19, (sv A29 (splitP p0 (⟨#[32]⟩ : ByteArray)) c30)), (20, (iv ((splitP p0 (⟨#[32]⟩ : ByteArray)).length : Int))), e2, (22, (bv (decide (x7 < ((splitP p0 (⟨#[32]⟩ : ByteArray)).length : Int)))))] (by kernel_rfl) ?_
   refine WL.done rfl (WX.next (WC.seq ?_))
   rcases br_some hl15 with ⟨h16, hl15⟩ | ⟨h16, hl15⟩
   ·refine WC.condT2 (fun fb => by kernel_rfl) h16 ?_
    refine WC.skip (WX.next (WC.seq (WC.block (WC.seq (WC.region ?_)))))
    obtain ⟨h17, hl15⟩ := as_some hl15
    refine seg 3 [.v (.string (rdD (splitP p0 (⟨#[32]⟩ : ByteArray)) x7 ByteArray.empty))] [0, 4, 6, 19, 20, 21] [(0, (.string p0)), e1, (6, (.string (rdD (splitP p0 (⟨#[32]⟩ : ByteArray)) x7 ByteArray.empty))), (19, (sv A29 (splitP p0 (⟨#[32]⟩ : ByteArray)) c30)), (20, (iv ((splitP p0 (⟨#[32]⟩ : ByteArray)).length : Int))), e2] [.idx A29 x7 (splitP p0 (⟨#[32]⟩ : ByteArray)).length, .cell ((adr A29).add ((x7).toNat * 1)) (.string (rdD (splitP p0 (⟨#[32]⟩ : ByteArray)) x7 ByteArray.empty))] (fun fb => by kernel_rfl) rfl ⟨rowR.adr (rowO.rd (hS14.own 1).1) h17.1 h17.2, rowR.cell (rowO.rd (hS14.own 1).1) ByteArray.empty h17.1 h17.2 0 rfl, trivial⟩ ?_
    refine WL.done rfl (WX.next (WC.seq (WC.region ?_)))
    refine sg 1 [] [0, 4, 19, 20, 21, 25] [(0, (.string p0)), e1, (19, (sv A29 (splitP p0 (⟨#[32]⟩ : ByteArray)) c30)), (20, (iv ((splitP p0 (⟨#[32]⟩ : ByteArray)).length : Int))), e2, (25, (.string (rdD (splitP p0 (⟨#[32]⟩ : ByteArray)) x7 ByteArray.empty)))] (by kernel_rfl) ?_
    obtain ⟨h31, hl15⟩ := as_some hl15
    refine WL.call (some 26) 60 #[(.string (rdD (splitP p0 (⟨#[32]⟩ : ByteArray)) x7 ByteArray.empty)), (.string (⟨#[46]⟩ : ByteArray))] (fun fb => by kernel_rfl) (split_calls Tryz.strings_Split (rdD (splitP p0 (⟨#[32]⟩ : ByteArray)) x7 ByteArray.empty) (⟨#[46]⟩ : ByteArray) mG.m _ (gloO.cel (hS14.rd 0)) h31) (fun v w19 hR18 => ?_)
    obtain ⟨A32, c33, rfl, hk_⟩ := hR18
    have hS20 := hS27.go w19 [rowO 9 encStr A32 c33 (splitP (rdD (splitP p0 (⟨#[32]⟩ : ByteArray)) x7 ByteArray.empty) (⟨#[46]⟩ : ByteArray)), rowO 44 enc_Tile A4 c5 l6, rowO 9 encStr A29 c30 (splitP p0 (⟨#[32]⟩ : ByteArray))] (hS14.call hk_ [] [0, 1] (fun g hg => hg.elim) (by simp) (by decide))
    refine ⟨trivial, ?_⟩
    refine sg 3 [] [0, 4, 7, 19, 20, 21] [(0, (.string p0)), e1, (7, (sv A32 (splitP (rdD (splitP p0 (⟨#[32]⟩ : ByteArray)) x7 ByteArray.empty) (⟨#[46]⟩ : ByteArray)) c33)), (19, (sv A29 (splitP p0 (⟨#[32]⟩ : ByteArray)) c30)), (20, (iv ((splitP p0 (⟨#[32]⟩ : ByteArray)).length : Int))), e2] (by kernel_rfl) ?_
    refine WL.done rfl (WX.next (WC.seq (WC.seq (WC.region ?_))))
    refine sg 4 [] [0, 4, 7, 19, 20, 21, 30] [(0, (.string p0)), e1, (7, (sv A32 (splitP (rdD (splitP p0 (⟨#[32]⟩ : ByteArray)) x7 ByteArray.empty) (⟨#[46]⟩ : ByteArray)) c33)), (19, (sv A29 (splitP p0 (⟨#[32]⟩ : ByteArray)) c30)), (20, (iv ((splitP p0 (⟨#[32]⟩ : ByteArray)).length : Int))), e2, (30, (bv (((splitP (rdD (splitP p0 (⟨#[32]⟩ : ByteArray)) x7 ByteArray.empty) (⟨#[46]⟩ : ByteArray)).length : Int) != 4)))] (by kernel_rfl) ?_
    refine WL.cutV (T := Bool) 8 (fun t => [(34, (bv t)), (0, (.string p0)), e1, (7, (sv A32 (splitP (rdD (splitP p0 (⟨#[32]⟩ : ByteArray)) x7 ByteArray.empty) (⟨#[46]⟩ : ByteArray)) c33)), (19, (sv A29 (splitP p0 (⟨#[32]⟩ : ByteArray)) c30)), (20, (iv ((splitP p0 (⟨#[32]⟩ : ByteArray)).length : Int))), e2]) (fun t => ((((splitP (rdD (splitP p0 (⟨#[32]⟩ : ByteArray)) x7 ByteArray.empty) (⟨#[46]⟩ : ByteArray)).length : Int) != 4) || (decide ((l6.length : Int) > 1000))) = t) (fun K => ?_) ?_
    ·
     rcases Bool.eq_false_or_eq_true (((splitP (rdD (splitP p0 (⟨#[32]⟩ : ByteArray)) x7 ByteArray.empty) (⟨#[46]⟩ : ByteArray)).length : Int) != 4) with h34 | h34
     ·
      refine WL.setB 30 h34 rfl ?_
      refine sg 8 [] [0, 4, 7, 19, 20, 21, 34] [(0, (.string p0)), e1, (7, (sv A32 (splitP (rdD (splitP p0 (⟨#[32]⟩ : ByteArray)) x7 ByteArray.empty) (⟨#[46]⟩ : ByteArray)) c33)), (19, (sv A29 (splitP p0 (⟨#[32]⟩ : ByteArray)) c30)), (20, (iv ((splitP p0 (⟨#[32]⟩ : ByteArray)).length : Int))), e2, (34, (bv true))] (by kernel_rfl) ?_
      exact WL.toV K true [34, 0, 4, 7, 19, 20, 21] rfl (by first | (rw [h34]; done) | (rw [h34]; rfl))
     refine WL.setB 30 h34 rfl ?_
     refine sg 8 [] [0, 4, 7, 19, 20, 21, 34] [(0, (.string p0)), e1, (7, (sv A32 (splitP (rdD (splitP p0 (⟨#[32]⟩ : ByteArray)) x7 ByteArray.empty) (⟨#[46]⟩ : ByteArray)) c33)), (19, (sv A29 (splitP p0 (⟨#[32]⟩ : ByteArray)) c30)), (20, (iv ((splitP p0 (⟨#[32]⟩ : ByteArray)).length : Int))), e2, (34, (bv (decide ((l6.length : Int) > 1000))))] (by kernel_rfl) ?_
     exact WL.toV K (decide ((l6.length : Int) > 1000)) [34, 0, 4, 7, 19, 20, 21] rfl (by first | (rw [h34]; done) | (rw [h34]; rfl))
    rintro b35 rfl
    refine WL.done rfl (WX.next ?_)
    rcases br_some hl15 with ⟨h36, hl15⟩ | ⟨h36, hl15⟩
    ·refine WC.condT2 (fun fb => by kernel_rfl) h36 ?_
     refine WC.seq (WC.region ?_)
     refine sg 2 [] [2, 3] [(2, (.slice none 0 0)), (3, (iv 3))] (by kernel_rfl) ?_
     refine WL.done rfl (WX.next ?_)
     refine WC.ret ?_
     have hS37 := hS20.nilrow 44 enc_Tile
     injection hl15 with hl15
     subst hl15
     injection hf with hf
     subst hf
     exact WX.thenR (WX.blockR (WX.thenR (WX.thenR (WX.blockR (WX.thenR (WX.ret_ [] (.tuple #[(sv none ([] : List Tile) 0), (iv 3)]) [] (fun fb => by kernel_rfl) trivial ⟨_, rfl, none, 0, rfl, (hS37.sub [0] (by decide)).noR⟩))))))
    refine WC.condF2 (fun fb => by kernel_rfl) h36 ?_
    refine WC.skip (WX.next (WC.seq (WC.region ?_)))
    refine WL.new hS20 8 [] (fun g => (pt g)) (.cells #[(iv 0), (iv 0), (iv 0), (iv 0)] 81 (0, 0)) [] (fun fb g => by kernel_rfl) trivial (fun g38 w39 hS40 => ?_)
    refine ⟨trivial, ?_⟩
    refine WL.done rfl (WX.next (WC.seq (WC.seq (WC.region ?_))))
    refine sg 3 [] e3 [(0, (.string p0)), e1, (8, (pt g38)), (19, (sv A29 (splitP p0 (⟨#[32]⟩ : ByteArray)) c30)), (20, (iv ((splitP p0 (⟨#[32]⟩ : ByteArray)).length : Int))), e2, (35, (sv A32 (splitP (rdD (splitP p0 (⟨#[32]⟩ : ByteArray)) x7 ByteArray.empty) (⟨#[46]⟩ : ByteArray)) c33)), (36, (iv ((splitP (rdD (splitP p0 (⟨#[32]⟩ : ByteArray)) x7 ByteArray.empty) (⟨#[46]⟩ : ByteArray)).length : Int))), (37, (iv 0))] (by kernel_rfl) ?_
    refine WL.done rfl (WX.next ?_)
    obtain ⟨x46, hx47, hl15⟩ := bind_some hl15
    let e4 : Nat × Value := (8, (pt g38))
    refine WC.cutN (T := Int × Int × Int × Int) (fun t => [(0, (.string p0)), e1, e4, (19, (sv A29 (splitP p0 (⟨#[32]⟩ : ByteArray)) c30)), (20, (iv ((splitP p0 (⟨#[32]⟩ : ByteArray)).length : Int))), e2]) (fun t w1 => St NoS w w1 e8 [rowO 44 enc_Tile A4 c5 l6, blk g38 (.cells #[(iv t.1), (iv t.2.1), (iv t.2.2.1), (iv t.2.2.2)] 81 (0, 0)), rowO 9 encStr A29 c30 (splitP p0 (⟨#[32]⟩ : ByteArray))] ∧ x46 = .inr t) (fun Kx46 => ?_) ?_
    ·
     refine WC.block ?_
     refine WC.loop (T := Int × Int × Int × Int × Int) (fun t => [(0, (.string p0)), e1, e4, (19, (sv A29 (splitP p0 (⟨#[32]⟩ : ByteArray)) c30)), (20, (iv ((splitP p0 (⟨#[32]⟩ : ByteArray)).length : Int))), e2, (35, (sv A32 (splitP (rdD (splitP p0 (⟨#[32]⟩ : ByteArray)) x7 ByteArray.empty) (⟨#[46]⟩ : ByteArray)) c33)), (36, (iv ((splitP (rdD (splitP p0 (⟨#[32]⟩ : ByteArray)) x7 ByteArray.empty) (⟨#[46]⟩ : ByteArray)).length : Int))), (37, (iv t.2.2.2.2))]) (fun n t w1 => St NoS w w1 e8 [rowO 44 enc_Tile A4 c5 l6, blk g38 (.cells #[(iv t.1), (iv t.2.1), (iv t.2.2.1), (iv t.2.2.2.1)] 81 (0, 0)), rowO 9 encStr A29 c30 (splitP p0 (⟨#[32]⟩ : ByteArray)), rowO 9 encStr A32 c33 (splitP (rdD (splitP p0 (⟨#[32]⟩ : ByteArray)) x7 ByteArray.empty) (⟨#[46]⟩ : ByteArray))] ∧ tile_Parse.l1 n t.1 t.2.1 t.2.2.1 t.2.2.2.1 t.2.2.2.2 p0 x7 = some x46) k12 (0, 0, 0, 0, 0) e3 rfl ⟨(hS40.subR [0]).sub [2, 0, 3, 1] (by decide), hx47⟩ ?_
     rintro k48 ⟨x41, x42, x43, x44, x45⟩ w49 ⟨hS50, hl51⟩
     let e5 : Nat × Value := (37, (iv x45))
     let e9 : Nat × Value := (37, (iv (w64 (x45 + 1))))
     cases k48 with
     | zero => rw [tile_Parse.l1] at hl51; cases hl51
     | succ k48 =>
      rw [tile_Parse.l1] at hl51
      refine WC.seq (WC.region ?_)
      refine sg 1 [] [0, 4, 8, 19, 20, 21, 35, 36, 37, 38] [(0, (.string p0)), e1, e4, (19, (sv A29 (splitP p0 (⟨#[32]⟩ : ByteArray)) c30)), (20, (iv ((splitP p0 (⟨#[32]⟩ : ByteArray)).length : Int))), e2, (35, (sv A32 (splitP (rdD (splitP p0 (⟨#[32]⟩ : ByteArray)) x7 ByteArray.empty) (⟨#[46]⟩ : ByteArray)) c33)), (36, (iv ((splitP (rdD (splitP p0 (⟨#[32]⟩ : ByteArray)) x7 ByteArray.empty) (⟨#[46]⟩ : ByteArray)).length : Int))), e5, (38, (bv (decide (x45 < ((splitP (rdD (splitP p0 (⟨#[32]⟩ : ByteArray)) x7 ByteArray.empty) (⟨#[46]⟩ : ByteArray)).length : Int)))))] (by kernel_rfl) ?_
      refine WL.done rfl (WX.next (WC.seq ?_))
      rcases br_some hl51 with ⟨h52, hl51⟩ | ⟨h52, hl51⟩
      ·refine WC.condT2 (fun fb => by kernel_rfl) h52 ?_
       refine WC.skip (WX.next (WC.seq (WC.block (WC.seq (WC.region ?_)))))
       refine sg 1 [] [0, 4, 8, 19, 20, 21, 35, 36, 37, 39] [(0, (.string p0)), e1, e4, (19, (sv A29 (splitP p0 (⟨#[32]⟩ : ByteArray)) c30)), (20, (iv ((splitP p0 (⟨#[32]⟩ : ByteArray)).length : Int))), e2, (35, (sv A32 (splitP (rdD (splitP p0 (⟨#[32]⟩ : ByteArray)) x7 ByteArray.empty) (⟨#[46]⟩ : ByteArray)) c33)), (36, (iv ((splitP (rdD (splitP p0 (⟨#[32]⟩ : ByteArray)) x7 ByteArray.empty) (⟨#[46]⟩ : ByteArray)).length : Int))), e5, (39, (iv x45))] (by kernel_rfl) ?_
       obtain ⟨h53, hl51⟩ := as_some hl51
       refine seg 5 [.v (.string (rdD (splitP (rdD (splitP p0 (⟨#[32]⟩ : ByteArray)) x7 ByteArray.empty) (⟨#[46]⟩ : ByteArray)) x45 ByteArray.empty))] [0, 4, 8, 9, 10, 19, 20, 21, 35, 36, 37] [(0, (.string p0)), e1, e4, (9, (iv x45)), (10, (.string (rdD (splitP (rdD (splitP p0 (⟨#[32]⟩ : ByteArray)) x7 ByteArray.empty) (⟨#[46]⟩ : ByteArray)) x45 ByteArray.empty))), (19, (sv A29 (splitP p0 (⟨#[32]⟩ : ByteArray)) c30)), (20, (iv ((splitP p0 (⟨#[32]⟩ : ByteArray)).length : Int))), e2, (35, (sv A32 (splitP (rdD (splitP p0 (⟨#[32]⟩ : ByteArray)) x7 ByteArray.empty) (⟨#[46]⟩ : ByteArray)) c33)), (36, (iv ((splitP (rdD (splitP p0 (⟨#[32]⟩ : ByteArray)) x7 ByteArray.empty) (⟨#[46]⟩ : ByteArray)).length : Int))), e5] [.idx A32 x45 (splitP (rdD (splitP p0 (⟨#[32]⟩ : ByteArray)) x7 ByteArray.empty) (⟨#[46]⟩ : ByteArray)).length, .cell ((adr A32).add ((x45).toNat * 1)) (.string (rdD (splitP (rdD (splitP p0 (⟨#[32]⟩ : ByteArray)) x7 ByteArray.empty) (⟨#[46]⟩ : ByteArray)) x45 ByteArray.empty))] (fun fb => by kernel_rfl) rfl ⟨rowR.adr (rowO.rd (hS50.own 3).1) h53.1 h53.2, rowR.cell (rowO.rd (hS50.own 3).1) ByteArray.empty h53.1 h53.2 0 rfl, trivial⟩ ?_
       refine WL.done rfl (WX.next (WC.seq (WC.region ?_)))
       refine sg 1 [] [0, 4, 8, 9, 19, 20, 21, 35, 36, 37, 43] [(0, (.string p0)), e1, e4, (9, (iv x45)), (19, (sv A29 (splitP p0 (⟨#[32]⟩ : ByteArray)) c30)), (20, (iv ((splitP p0 (⟨#[32]⟩ : ByteArray)).length : Int))), e2, (35, (sv A32 (splitP (rdD (splitP p0 (⟨#[32]⟩ : ByteArray)) x7 ByteArray.empty) (⟨#[46]⟩ : ByteArray)) c33)), (36, (iv ((splitP (rdD (splitP p0 (⟨#[32]⟩ : ByteArray)) x7 ByteArray.empty) (⟨#[46]⟩ : ByteArray)).length : Int))), e5, (43, (.string (rdD (splitP (rdD (splitP p0 (⟨#[32]⟩ : ByteArray)) x7 ByteArray.empty) (⟨#[46]⟩ : ByteArray)) x45 ByteArray.empty)))] (by kernel_rfl) ?_
       obtain ⟨t57, ht58, hl51⟩ := bind_some hl51
       refine WL.call (some 44) 61 #[(.string (rdD (splitP (rdD (splitP p0 (⟨#[32]⟩ : ByteArray)) x7 ByteArray.empty) (⟨#[46]⟩ : ByteArray)) x45 ByteArray.empty))] (fun fb => by kernel_rfl) (atoiN_calls Tryz.strconv_Atoi_ok Tryz.strconv_Atoi_syntax Tryz.strconv_Atoi_range (rdD (splitP (rdD (splitP p0 (⟨#[32]⟩ : ByteArray)) x7 ByteArray.empty) (⟨#[46]⟩ : ByteArray)) x45 ByteArray.empty) t57 _ (hS50.rd 0) ht58) (fun v w55 hR54 => ?_)
       obtain ⟨x59, rfl, hx60, hk_⟩ := hR54
       have hS56 := hS50.keepN hk_
       refine ⟨trivial, ?_⟩
       rcases br_some hl51 with ⟨h61, hl51⟩ | ⟨h61, hl51⟩
       ·
        obtain ⟨te62, pe63, rfl⟩ := errV_true h61 hx60
        refine sg 7 [] [0, 4, 8, 9, 11, 12, 19, 20, 21, 35, 36, 37] [(0, (.string p0)), e1, e4, (9, (iv x45)), (11, (iv t57.1)), (12, (.iface te62 pe63)), (19, (sv A29 (splitP p0 (⟨#[32]⟩ : ByteArray)) c30)), (20, (iv ((splitP p0 (⟨#[32]⟩ : ByteArray)).length : Int))), e2, (35, (sv A32 (splitP (rdD (splitP p0 (⟨#[32]⟩ : ByteArray)) x7 ByteArray.empty) (⟨#[46]⟩ : ByteArray)) c33)), (36, (iv ((splitP (rdD (splitP p0 (⟨#[32]⟩ : ByteArray)) x7 ByteArray.empty) (⟨#[46]⟩ : ByteArray)).length : Int))), e5] (by kernel_rfl) ?_
        refine WL.done rfl (WX.next (WC.seq (WC.seq (WC.region ?_))))
        refine sg 2 [] [0, 4, 8, 9, 11, 19, 20, 21, 35, 36, 37, 48] [(0, (.string p0)), e1, e4, (9, (iv x45)), (11, (iv t57.1)), (19, (sv A29 (splitP p0 (⟨#[32]⟩ : ByteArray)) c30)), (20, (iv ((splitP p0 (⟨#[32]⟩ : ByteArray)).length : Int))), e2, (35, (sv A32 (splitP (rdD (splitP p0 (⟨#[32]⟩ : ByteArray)) x7 ByteArray.empty) (⟨#[46]⟩ : ByteArray)) c33)), (36, (iv ((splitP (rdD (splitP p0 (⟨#[32]⟩ : ByteArray)) x7 ByteArray.empty) (⟨#[46]⟩ : ByteArray)).length : Int))), e5, (48, (bv true))] (by kernel_rfl) ?_
        refine WL.done rfl (WX.next ?_)
        refine WC.condT (fun fb => by kernel_rfl) ?_
        refine WC.seq (WC.region ?_)
        refine sg 2 [] [2, 3] [(2, (.slice none 0 0)), (3, (iv 3))] (by kernel_rfl) ?_
        refine WL.done rfl (WX.next ?_)
        refine WC.ret ?_
        have hS65 := hS56.nilrow 44 enc_Tile
        injection hl51 with hl51
        subst hl51
        injection hl15 with hl15
        subst hl15
        injection hf with hf
        subst hf
        exact WX.thenR (WX.blockR (WX.thenR (WX.thenR (WX.blockR (WX.thenR (WX.blockR (WX.thenR (WX.thenR (WX.blockR (WX.thenR (WX.ret_ [] (.tuple #[(sv none ([] : List Tile) 0), (iv 3)]) [] (fun fb => by kernel_rfl) trivial ⟨_, rfl, none, 0, rfl, (hS65.sub [0] (by decide)).noR⟩)))))))))))
       obtain rfl := errV_false h61 hx60
       refine sg 7 [] [0, 4, 8, 9, 11, 12, 19, 20, 21, 35, 36, 37] [(0, (.string p0)), e1, e4, (9, (iv x45)), (11, (iv t57.1)), (12, .nilIface), (19, (sv A29 (splitP p0 (⟨#[32]⟩ : ByteArray)) c30)), (20, (iv ((splitP p0 (⟨#[32]⟩ : ByteArray)).length : Int))), e2, (35, (sv A32 (splitP (rdD (splitP p0 (⟨#[32]⟩ : ByteArray)) x7 ByteArray.empty) (⟨#[46]⟩ : ByteArray)) c33)), (36, (iv ((splitP (rdD (splitP p0 (⟨#[32]⟩ : ByteArray)) x7 ByteArray.empty) (⟨#[46]⟩ : ByteArray)).length : Int))), e5] (by kernel_rfl) ?_
       refine WL.done rfl (WX.next (WC.seq (WC.seq (WC.region ?_))))
       refine sg 2 [] [0, 4, 8, 9, 11, 19, 20, 21, 35, 36, 37, 48] [(0, (.string p0)), e1, e4, (9, (iv x45)), (11, (iv t57.1)), (19, (sv A29 (splitP p0 (⟨#[32]⟩ : ByteArray)) c30)), (20, (iv ((splitP p0 (⟨#[32]⟩ : ByteArray)).length : Int))), e2, (35, (sv A32 (splitP (rdD (splitP p0 (⟨#[32]⟩ : ByteArray)) x7 ByteArray.empty) (⟨#[46]⟩ : ByteArray)) c33)), (36, (iv ((splitP (rdD (splitP p0 (⟨#[32]⟩ : ByteArray)) x7 ByteArray.empty) (⟨#[46]⟩ : ByteArray)).length : Int))), e5, (48, (bv false))] (by kernel_rfl) ?_
       refine WL.done rfl (WX.next ?_)
       refine WC.condF (fun fb => by kernel_rfl) ?_
       refine WC.skip (WX.next (WC.region ?_))
       refine sg 2 [] [0, 4, 8, 19, 20, 21, 35, 36, 37, 49, 50] [(0, (.string p0)), e1, e4, (19, (sv A29 (splitP p0 (⟨#[32]⟩ : ByteArray)) c30)), (20, (iv ((splitP p0 (⟨#[32]⟩ : ByteArray)).length : Int))), e2, (35, (sv A32 (splitP (rdD (splitP p0 (⟨#[32]⟩ : ByteArray)) x7 ByteArray.empty) (⟨#[46]⟩ : ByteArray)) c33)), (36, (iv ((splitP (rdD (splitP p0 (⟨#[32]⟩ : ByteArray)) x7 ByteArray.empty) (⟨#[46]⟩ : ByteArray)).length : Int))), e5, (49, (iv x45)), (50, (iv t57.1))] (by kernel_rfl) ?_
       rcases br_some hl51 with ⟨h66, hl51⟩ | ⟨h66, hl51⟩
       ·
        refine WL.setI 49 (eq_of_beq h66) rfl ?_
        refine sg 3 [] e6 [(0, (.string p0)), e1, e4, (19, (sv A29 (splitP p0 (⟨#[32]⟩ : ByteArray)) c30)), (20, (iv ((splitP p0 (⟨#[32]⟩ : ByteArray)).length : Int))), e2, (35, (sv A32 (splitP (rdD (splitP p0 (⟨#[32]⟩ : ByteArray)) x7 ByteArray.empty) (⟨#[46]⟩ : ByteArray)) c33)), (36, (iv ((splitP (rdD (splitP p0 (⟨#[32]⟩ : ByteArray)) x7 ByteArray.empty) (⟨#[46]⟩ : ByteArray)).length : Int))), e5, (50, (iv t57.1)), (51, (pt g38))] (by kernel_rfl) ?_
        refine WL.store hS56 1 rfl [(0, (iv t57.1))] #[(iv t57.1), (iv x42), (iv x43), (iv x44)] (fun fb => by kernel_rfl) (by kernel_rfl) rfl [0, 2, 3] (by decide) (by decide) (fun w67 hS68 => ?_)
        refine ⟨trivial, ?_⟩
        refine WL.done rfl ?_
        refine WX.blockN (WX.next ?_)
        refine WC.region ?_
        refine sg 2 [] e3 [(0, (.string p0)), e1, e4, (19, (sv A29 (splitP p0 (⟨#[32]⟩ : ByteArray)) c30)), (20, (iv ((splitP p0 (⟨#[32]⟩ : ByteArray)).length : Int))), e2, (35, (sv A32 (splitP (rdD (splitP p0 (⟨#[32]⟩ : ByteArray)) x7 ByteArray.empty) (⟨#[46]⟩ : ByteArray)) c33)), (36, (iv ((splitP (rdD (splitP p0 (⟨#[32]⟩ : ByteArray)) x7 ByteArray.empty) (⟨#[46]⟩ : ByteArray)).length : Int))), e9] (by kernel_rfl) ?_
        refine WL.done rfl ?_
        exact WX.again k48 (Nat.lt_succ_self _) (t57.1, x42, x43, x44, w64 (x45 + 1)) e3 rfl ⟨(hS68.subR [0]).sub [1, 0, 2, 3] (by decide), hl51⟩
       rcases br_some hl51 with ⟨h69, hl51⟩ | ⟨h69, hl51⟩
       ·
        refine WL.setI 49 (eq_of_beq h69) rfl ?_
        refine sg 3 [] e6 [(0, (.string p0)), e1, e4, (19, (sv A29 (splitP p0 (⟨#[32]⟩ : ByteArray)) c30)), (20, (iv ((splitP p0 (⟨#[32]⟩ : ByteArray)).length : Int))), e2, (35, (sv A32 (splitP (rdD (splitP p0 (⟨#[32]⟩ : ByteArray)) x7 ByteArray.empty) (⟨#[46]⟩ : ByteArray)) c33)), (36, (iv ((splitP (rdD (splitP p0 (⟨#[32]⟩ : ByteArray)) x7 ByteArray.empty) (⟨#[46]⟩ : ByteArray)).length : Int))), e5, (50, (iv t57.1)), (51, (.pointer (some ⟨g38, 1, none⟩)))] (by kernel_rfl) ?_
        refine WL.store hS56 1 rfl [(1, (iv t57.1))] #[(iv x41), (iv t57.1), (iv x43), (iv x44)] (fun fb => by kernel_rfl) (by kernel_rfl) rfl [0, 2, 3] (by decide) (by decide) (fun w70 hS71 => ?_)
        refine ⟨trivial, ?_⟩
        refine WL.done rfl ?_
        refine WX.blockN (WX.next ?_)
        refine WC.region ?_
        refine sg 2 [] e3 [(0, (.string p0)), e1, e4, (19, (sv A29 (splitP p0 (⟨#[32]⟩ : ByteArray)) c30)), (20, (iv ((splitP p0 (⟨#[32]⟩ : ByteArray)).length : Int))), e2, (35, (sv A32 (splitP (rdD (splitP p0 (⟨#[32]⟩ : ByteArray)) x7 ByteArray.empty) (⟨#[46]⟩ : ByteArray)) c33)), (36, (iv ((splitP (rdD (splitP p0 (⟨#[32]⟩ : ByteArray)) x7 ByteArray.empty) (⟨#[46]⟩ : ByteArray)).length : Int))), e9] (by kernel_rfl) ?_
        refine WL.done rfl ?_
        exact WX.again k48 (Nat.lt_succ_self _) (x41, t57.1, x43, x44, w64 (x45 + 1)) e3 rfl ⟨(hS71.subR [0]).sub [1, 0, 2, 3] (by decide), hl51⟩
       rcases br_some hl51 with ⟨h72, hl51⟩ | ⟨h72, hl51⟩
       ·
        refine WL.setI 49 (eq_of_beq h72) rfl ?_
        refine sg 3 [] e6 [(0, (.string p0)), e1, e4, (19, (sv A29 (splitP p0 (⟨#[32]⟩ : ByteArray)) c30)), (20, (iv ((splitP p0 (⟨#[32]⟩ : ByteArray)).length : Int))), e2, (35, (sv A32 (splitP (rdD (splitP p0 (⟨#[32]⟩ : ByteArray)) x7 ByteArray.empty) (⟨#[46]⟩ : ByteArray)) c33)), (36, (iv ((splitP (rdD (splitP p0 (⟨#[32]⟩ : ByteArray)) x7 ByteArray.empty) (⟨#[46]⟩ : ByteArray)).length : Int))), e5, (50, (iv t57.1)), (51, (.pointer (some ⟨g38, 2, none⟩)))] (by kernel_rfl) ?_
        refine WL.store hS56 1 rfl [(2, (iv t57.1))] #[(iv x41), (iv x42), (iv t57.1), (iv x44)] (fun fb => by kernel_rfl) (by kernel_rfl) rfl [0, 2, 3] (by decide) (by decide) (fun w73 hS74 => ?_)
        refine ⟨trivial, ?_⟩
        refine WL.done rfl ?_
        refine WX.blockN (WX.next ?_)
        refine WC.region ?_
        refine sg 2 [] e3 [(0, (.string p0)), e1, e4, (19, (sv A29 (splitP p0 (⟨#[32]⟩ : ByteArray)) c30)), (20, (iv ((splitP p0 (⟨#[32]⟩ : ByteArray)).length : Int))), e2, (35, (sv A32 (splitP (rdD (splitP p0 (⟨#[32]⟩ : ByteArray)) x7 ByteArray.empty) (⟨#[46]⟩ : ByteArray)) c33)), (36, (iv ((splitP (rdD (splitP p0 (⟨#[32]⟩ : ByteArray)) x7 ByteArray.empty) (⟨#[46]⟩ : ByteArray)).length : Int))), e9] (by kernel_rfl) ?_
        refine WL.done rfl ?_
        exact WX.again k48 (Nat.lt_succ_self _) (x41, x42, t57.1, x44, w64 (x45 + 1)) e3 rfl ⟨(hS74.subR [0]).sub [1, 0, 2, 3] (by decide), hl51⟩
       rcases br_some hl51 with ⟨h75, hl51⟩ | ⟨h75, hl51⟩
       ·
        refine WL.setI 49 (eq_of_beq h75) rfl ?_
        refine sg 3 [] e6 [(0, (.string p0)), e1, e4, (19, (sv A29 (splitP p0 (⟨#[32]⟩ : ByteArray)) c30)), (20, (iv ((splitP p0 (⟨#[32]⟩ : ByteArray)).length : Int))), e2, (35, (sv A32 (splitP (rdD (splitP p0 (⟨#[32]⟩ : ByteArray)) x7 ByteArray.empty) (⟨#[46]⟩ : ByteArray)) c33)), (36, (iv ((splitP (rdD (splitP p0 (⟨#[32]⟩ : ByteArray)) x7 ByteArray.empty) (⟨#[46]⟩ : ByteArray)).length : Int))), e5, (50, (iv t57.1)), (51, (.pointer (some ⟨g38, 3, none⟩)))] (by kernel_rfl) ?_
        refine WL.store hS56 1 rfl [(3, (iv t57.1))] #[(iv x41), (iv x42), (iv x43), (iv t57.1)] (fun fb => by kernel_rfl) (by kernel_rfl) rfl [0, 2, 3] (by decide) (by decide) (fun w76 hS77 => ?_)
        refine ⟨trivial, ?_⟩
        refine WL.done rfl ?_
        refine WX.blockN (WX.next ?_)
        refine WC.region ?_
        refine sg 2 [] e3 [(0, (.string p0)), e1, e4, (19, (sv A29 (splitP p0 (⟨#[32]⟩ : ByteArray)) c30)), (20, (iv ((splitP p0 (⟨#[32]⟩ : ByteArray)).length : Int))), e2, (35, (sv A32 (splitP (rdD (splitP p0 (⟨#[32]⟩ : ByteArray)) x7 ByteArray.empty) (⟨#[46]⟩ : ByteArray)) c33)), (36, (iv ((splitP (rdD (splitP p0 (⟨#[32]⟩ : ByteArray)) x7 ByteArray.empty) (⟨#[46]⟩ : ByteArray)).length : Int))), e9] (by kernel_rfl) ?_
        refine WL.done rfl ?_
        exact WX.again k48 (Nat.lt_succ_self _) (x41, x42, x43, t57.1, w64 (x45 + 1)) e3 rfl ⟨(hS77.subR [0]).sub [1, 0, 2, 3] (by decide), hl51⟩
       cases hl51
      refine WC.condF2 (fun fb => by kernel_rfl) h52 ?_
      refine WC.exit ?_
      injection hl51 with hl51
      exact WX.thenX (WX.thenX (WX.blockHere (WX.to Kx46 (x41, x42, x43, x44) [0, 4, 8, 19, 20, 21] rfl ⟨(hS50.subR [0]).sub [0, 1, 2] (by decide), hl51.symm⟩)))
    rintro y81 w78 ⟨hS79, hq80⟩
    subst hq80
    have hl15 := sum_inr hl15
    refine WX.next (WC.region ?_)
    refine seg 10 [.v (iv y81.1), .v (iv y81.2.1), .v (iv y81.2.2.1), .v (iv y81.2.2.2)] [0, 19, 20, 21, 53, 62] [(0, (.string p0)), (19, (sv A29 (splitP p0 (⟨#[32]⟩ : ByteArray)) c30)), (20, (iv ((splitP p0 (⟨#[32]⟩ : ByteArray)).length : Int))), e2, (53, (sv A4 l6 c5)), (62, (.agg #[(iv y81.1), (iv y81.2.1), (iv y81.2.2.1), (iv y81.2.2.2)]))] [.cell ⟨g38, 0, none⟩ (iv y81.1), .cell ⟨g38, 1, none⟩ (iv y81.2.1), .cell ⟨g38, 2, none⟩ (iv y81.2.2.1), .cell ⟨g38, 3, none⟩ (iv y81.2.2.2)] (fun fb => by kernel_rfl) rfl ⟨hS79.cell 1 rfl 0 rfl, hS79.cell 1 rfl 1 rfl, hS79.cell 1 rfl 2 rfl, hS79.cell 1 rfl 3 rfl, trivial⟩ ?_
    refine WL.new hS79 63 [] (fun g => (.slice (some ⟨g, 0, none⟩) 1 1)) (.cells #[(iv y81.1), (iv y81.2.1), (iv y81.2.2.1), (iv y81.2.2.2)] 44 (0, 0)) [] (fun fb g => by kernel_rfl) trivial (fun g82 w83 hS84 => ?_)
    refine ⟨trivial, ?_⟩
    have hS85 := hS20.go w83 [rowO 44 enc_Tile (some ⟨g82, 0, none⟩) 1 [(Tile.mk y81.1 y81.2.1 y81.2.2.1 y81.2.2.2)], rowO 44 enc_Tile A4 c5 l6, blk g38 (.cells #[(iv y81.1), (iv y81.2.1), (iv y81.2.2.1), (iv y81.2.2.2)] 81 (0, 0)), rowO 9 encStr A29 c30 (splitP p0 (⟨#[32]⟩ : ByteArray))] (hS84.map1 0 _ (fun h => rowO.ofBlk h rfl (Nat.le_of_ble_eq_true (by kernel_rfl))) (fun _ h => by obtain ⟨_, h1, h2⟩ := h; injection h1 with h1; subst h1; exact h2) [1, 2, 3] (by decide) (by decide))
    obtain ⟨h86, hl15⟩ := as_some hl15
    refine WL.append hS85 1 (d := 64) (tS := 22) (z := (.agg #[(iv 0), (iv 0), (iv 0), (iv 0)])) (bytes := 32) (c2 := 1) rfl (fun fb => by kernel_rfl) (rowO.rd (hS85.own 0).1) (by kernel_rfl) (by kernel_rfl) rfl (by decide) h86 (by decide) [0, 2, 3] (by decide) (by decide) (fun A87 c88 w89 hS90 => ?_)
    refine ⟨trivial, ?_⟩
    refine sg 13 [] [0, 4, 19, 20, 21] [(0, (.string p0)), (4, (sv A87 (l6 ++ [(Tile.mk y81.1 y81.2.1 y81.2.2.1 y81.2.2.2)]) c88)), (19, (sv A29 (splitP p0 (⟨#[32]⟩ : ByteArray)) c30)), (20, (iv ((splitP p0 (⟨#[32]⟩ : ByteArray)).length : Int))), e2] (by kernel_rfl) ?_
    refine WL.done rfl ?_
    refine WX.blockN (WX.next ?_)
    refine WC.region ?_
    refine sg 2 [] [0, 4, 19, 20, 21] [(0, (.string p0)), (4, (sv A87 (l6 ++ [(Tile.mk y81.1 y81.2.1 y81.2.2.1 y81.2.2.2)]) c88)), (19, (sv A29 (splitP p0 (⟨#[32]⟩ : ByteArray)) c30)), (20, (iv ((splitP p0 (⟨#[32]⟩ : ByteArray)).length : Int))), (21, (iv (w64 (x7 + 1))))] (by kernel_rfl) ?_
    refine WL.done rfl ?_
    exact WX.again k12 (Nat.lt_succ_self _) ((l6 ++ [(Tile.mk y81.1 y81.2.1 y81.2.2.1 y81.2.2.2)], w64 (x7 + 1)), A87, c88) [0, 4, 19, 20, 21] rfl ⟨(hS90.subR [0]).sub [0, 3] (by decide), hl15⟩
   refine WC.condF2 (fun fb => by kernel_rfl) h16 ?_
   refine WC.exit ?_
   injection hl15 with hl15
   exact WX.thenX (WX.thenX (WX.blockHere (WX.to Kx10 (l6, A4, c5) [0, 4] rfl ⟨(hS14.subR [0]).sub [0] (by decide), hl15.symm⟩)))
 rintro ⟨y94, A8, c9⟩ w91 ⟨hS92, hq93⟩
 subst hq93
 have hf := sum_inr hf
 refine WX.next (WC.seq (WC.seq (WC.region ?_)))
 refine sg 1 [] [0, 4, 66] [(0, (.string p0)), (4, (sv A8 y94 c9)), (66, (sv A8 y94 c9))] (by kernel_rfl) ?_
 obtain ⟨t95, ht96, hf⟩ := bind_some hf
 refine WL.call (some 67) 37 #[(sv A8 y94 c9)] (fun fb => by kernel_rfl) (tile_Valid_calls _ y94 A8 c9 t95 _ (hS92.ow 0).ofO ht96) (fun v w97 hR98 => ?_)
 obtain ⟨rfl, hk_⟩ := hR98
 have hS99 := hS92.keepN hk_
 refine ⟨trivial, ?_⟩
 refine sg 4 [] [0, 4, 69] [(0, (.string p0)), (4, (sv A8 y94 c9)), (69, (bv (!t95)))] (by kernel_rfl) ?_
 obtain ⟨x100, hx101, hf⟩ := bind_some hf
 let e7 : Nat × Value := (4, (sv A8 y94 c9))
 refine WL.cutW (T := Bool) 9 (fun t => [e7, (74, (bv t))]) (fun t w1 => (St NoS w w1 e8 [rowO 44 enc_Tile A8 c9 y94] ∧ x100 = t) ∧ CellsOK [] w1) (fun K => ?_) ?_
 ·
  rcases br_some hx101 with ⟨h102, hx101⟩ | ⟨h102, hx101⟩
  ·
   refine WL.setB 69 h102 rfl ?_
   refine sg 9 [] [4, 74] [e7, (74, (bv true))] (by kernel_rfl) ?_
   injection hx101 with hx101
   exact WL.to K true [4, 74] rfl ⟨⟨(hS99.subR [0]).sub [0] (by decide), hx101.symm⟩, trivial⟩
  refine WL.setB 69 h102 rfl ?_
  refine sg 5 [] [0, 4, 69, 70] [(0, (.string p0)), e7, (69, (bv false)), (70, (sv A8 y94 c9))] (by kernel_rfl) ?_
  obtain ⟨t103, ht104, hx101⟩ := bind_some hx101
  refine WL.call (some 71) 62 #[(sv A8 y94 c9)] (fun fb => by kernel_rfl) (tile_write_calls _ y94 A8 c9 mG t103 _ (hS99.ow 0).ofO (hS99.rd 0) ht104) (fun v w105 hR106 => ?_)
  obtain ⟨rfl, hk_⟩ := hR106
  have hS107 := hS99.keepN hk_
  refine ⟨trivial, ?_⟩
  refine sg 7 [] [4, 69, 71, 72] [e7, (69, (bv false)), (71, (.string t103)), (72, (.string p0))] (by kernel_rfl) ?_
  refine sg 8 [] [4, 69, 73] [e7, (69, (bv false)), (73, (bv (!(t103.toList == p0.toList))))] (by kernel_rfl) ?_
  refine WL.setB 73 (congrArg not (strEq_raw t103 p0)) rfl ?_
  refine sg 9 [] [4, 74] [e7, (74, (bv (!(strEq t103 p0))))] (by kernel_rfl) ?_
  injection hx101 with hx101
  exact WL.to K (!(strEq t103 p0)) [4, 74] rfl ⟨⟨(hS107.subR [0]).sub [0] (by decide), hx101.symm⟩, trivial⟩
 rintro y108 w110 ⟨⟨hS111, hq109⟩, hF112⟩
 subst hq109
 refine WL.done rfl (WX.next ?_)
 rcases br_some hf with ⟨h113, hf⟩ | ⟨h113, hf⟩
 ·refine WC.condT2 (fun fb => by kernel_rfl) h113 ?_
  refine WC.seq (WC.region ?_)
  refine sg 2 [] [2, 3] [(2, (.slice none 0 0)), (3, (iv 3))] (by kernel_rfl) ?_
  refine WL.done rfl (WX.next ?_)
  refine WC.ret ?_
  have hS114 := hS111.nilrow 44 enc_Tile
  injection hf with hf
  subst hf
  exact WX.thenR (WX.ret_ [] (.tuple #[(sv none ([] : List Tile) 0), (iv 3)]) [] (fun fb => by kernel_rfl) trivial ⟨_, rfl, none, 0, rfl, (hS114.sub [0] (by decide)).noR⟩)
 refine WC.condF2 (fun fb => by kernel_rfl) h113 ?_
 refine WC.skip (WX.next (WC.seq (WC.region ?_)))
 refine sg 3 [] [2, 3] [(2, (sv A8 y94 c9)), (3, (iv 0))] (by kernel_rfl) ?_
 refine WL.done rfl (WX.next ?_)
 refine WC.ret ?_
 injection hf with hf
 subst hf
 exact WX.ret_ [] (.tuple #[(sv A8 y94 c9), (iv 0)]) [] (fun fb => by kernel_rfl) trivial ⟨_, rfl, A8, c9, rfl, (hS111.sub [0] (by decide)).noR⟩
theorem weight_needed_calls (k : Nat) (p0 : List Tile) (Aa : Option Addr) (ca : Nat) (r : Int × Int) (w : World) (hR0 : RO NoS w (rowR enc_Tile Aa ca p0)) (hf : weight_needed k p0 = some r) :
  CallsR Tryz.prog 38 #[(sv Aa p0 ca)] w (fun v w' => v = (.tuple #[(iv r.1), (iv r.2)]) ∧ Keeps NoS w w') := by
 have hS : St NoS w w [rowR enc_Tile Aa ca p0] [] := St.init (ro_cons hR0 (ro_nil _ _))
 refine enter 33 Tryz.func38 rfl Tryz.ntmps38 rfl ?_
 unfold weight_needed at hf
 refine WC.seq (WC.region ?_)
 refine sg 2 [] [0] [(0, (sv Aa p0 ca))] (by kernel_rfl) ?_
 refine WL.done rfl (WX.next (WC.seq (WC.region ?_)))
 refine sg 2 [] [0, 4, 5] [(0, (sv Aa p0 ca)), (4, (iv 0)), (5, (iv 0))] (by kernel_rfl) ?_
 refine WL.done rfl (WX.next (WC.seq (WC.seq (WC.region ?_))))
 refine sg 3 [] [4, 5, 8, 9, 10] [(4, (iv 0)), (5, (iv 0)), (8, (sv Aa p0 ca)), (9, (iv (p0.length : Int))), (10, (iv 0))] (by kernel_rfl) ?_
 refine WL.done rfl (WX.next ?_)
 obtain ⟨x6, hx7, hf⟩ := bind_some hf
 let e2 : Nat × Value := (9, (iv (p0.length : Int)))
 let e4 : Nat × Value := (8, (sv Aa p0 ca))
 let e7 : List Nat := [0, 1, 2, 3, 4, 5, 6, 7, 8, 9, 10, 11, 12, 13, 14, 15, 16, 17]
 refine WC.cutN (T := Int × Int) (fun t => [(4, (iv t.1)), (5, (iv t.2))]) (fun t w1 => St NoS w w1 [rowR enc_Tile Aa ca p0] [] ∧ x6 = t) (fun Kx6 => ?_) ?_
 ·
  refine WC.block ?_
  refine WC.loop (T := Int × Int × Int) (fun t => [(4, (iv t.1)), (5, (iv t.2.1)), e4, e2, (10, (iv t.2.2))]) (fun n t w1 => St NoS w w1 [rowR enc_Tile Aa ca p0] [] ∧ weight_needed.l0 n t.1 t.2.1 t.2.2 p0 = some x6) k (0, 0, 0) [4, 5, 8, 9, 10] rfl ⟨(hS.subR [0]).sub [] (by decide), hx7⟩ ?_
  rintro k8 ⟨x3, x4, x5⟩ w9 ⟨hS10, hl11⟩
  let e1 := rdD p0 x5 z_Tile
  let e3 := (adr Aa).add ((x5).toNat * 4)
  let e5 : Nat × Value := (4, (iv (maxI (maxI x3 (w64 ((e1.N) + 1))) (w64 ((e1.S) + 1)))))
  let e6 : Nat × Value := (5, (iv (maxI (maxI x4 (w64 ((e1.E) + 1))) (w64 ((e1.W) + 1)))))
  let e8 := iv (e1.N)
  let e9 := iv (e1.E)
  let e10 := iv (e1.S)
  let e11 := iv (e1.W)
  cases k8 with
  | zero => rw [weight_needed.l0] at hl11; cases hl11
  | succ k8 =>
   rw [weight_needed.l0] at hl11
   refine WC.seq (WC.region ?_)
   refine sg 1 [] [4, 5, 8, 9, 10, 11] [(4, (iv x3)), (5, (iv x4)), e4, e2, (10, (iv x5)), (11, (bv (decide (x5 < (p0.length : Int)))))] (by kernel_rfl) ?_
   refine WL.done rfl (WX.next (WC.seq ?_))
   rcases br_some hl11 with ⟨h12, hl11⟩ | ⟨h12, hl11⟩
   ·refine WC.condT2 (fun fb => by kernel_rfl) h12 ?_
    refine WC.skip (WX.next (WC.seq (WC.block (WC.seq (WC.region ?_)))))
    obtain ⟨h13, hl11⟩ := as_some hl11
    refine seg 2 [.v e8, .v e9, .v e10, .v e11] [4, 5, 8, 9, 10, 13] [(4, (iv x3)), (5, (iv x4)), e4, e2, (10, (iv x5)), (13, (.agg #[e8, e9, e10, e11]))] [.idx Aa x5 p0.length, .cell e3 e8, .cell (e3.add 1) e9, .cell (e3.add 2) e10, .cell (e3.add 3) e11] (fun fb => by kernel_rfl) rfl ⟨rowR.adr (hS10.rd 0).1 h13.1 h13.2, rowR.cell (hS10.rd 0).1 z_Tile h13.1 h13.2 0 rfl, rowR.cell (hS10.rd 0).1 z_Tile h13.1 h13.2 1 rfl, rowR.cell (hS10.rd 0).1 z_Tile h13.1 h13.2 2 rfl, rowR.cell (hS10.rd 0).1 z_Tile h13.1 h13.2 3 rfl, trivial⟩ ?_
    refine WL.new hS10 7 [] (fun g => (pt g)) (.cells #[(iv 0), (iv 0), (iv 0), (iv 0)] 44 (0, 0)) [] (fun fb g => by kernel_rfl) trivial (fun g14 w15 hS16 => ?_)
    refine ⟨trivial, ?_⟩
    refine WL.store hS16 0 rfl [(0, e8), (1, e9), (2, e10), (3, e11)] #[e8, e9, e10, e11] (fun fb => by kernel_rfl) (by kernel_rfl) rfl [] (by decide) (by decide) (fun w17 hS18 => ?_)
    refine ⟨trivial, ?_⟩
    refine WL.done rfl (WX.next ?_)
    refine WC.regionD ([(2, ⟨g14, 0, none⟩, e8), (5, ⟨g14, 2, none⟩, e10), (10, ⟨g14, 1, none⟩, e9), (13, ⟨g14, 3, none⟩, e11)], e7, [[], [], [1], [1, 2], [], [4], [4, 5], [0, 1, 2, 3, 4, 5, 6], [], [], [9], [9, 10], [], [12], [12, 13], [8, 9, 10, 11, 12, 13, 14], [0, 1, 2, 3, 4, 5, 6, 7], [0, 1, 2, 3, 4, 5, 6, 7, 8, 9, 10, 11, 12, 13, 14, 15, 16]]) [e7] (by kernel_rfl) (by kernel_rfl) (NoPanic.block (NoPanic.seq (NoPanic.seq (NoPanic.block (NoPanic.seq (NoPanic.body)))))) ?_
    have hS20 := hS18.drew
    revert hS20
    generalize World.drew w17 = w19
    intro hS20
    refine ⟨⟨hS20.cell 0 rfl 0 rfl, hS20.cell 0 rfl 2 rfl, hS20.cell 0 rfl 1 rfl, hS20.cell 0 rfl 3 rfl, trivial⟩, forallC ?_ (forallN)⟩
    refine segF 18 [.v e8, .v e10, .v e9, .v e11] [4, 5, 8, 9, 10] [e5, e6, e4, e2, (10, (iv x5))] [] [0, 1, 2, 3] [(2, ⟨g14, 0, none⟩, e8), (5, ⟨g14, 2, none⟩, e10), (10, ⟨g14, 1, none⟩, e9), (13, ⟨g14, 3, none⟩, e11)] (fun fb => by kernel_rfl) rfl trivial rfl ?_
    refine WL.done rfl ?_
    refine WX.blockN (WX.next ?_)
    refine WC.region ?_
    refine sg 2 [] [4, 5, 8, 9, 10] [e5, e6, e4, e2, (10, (iv (w64 (x5 + 1))))] (by kernel_rfl) ?_
    refine WL.done rfl ?_
    exact WX.again k8 (Nat.lt_succ_self _) (maxI (maxI x3 (w64 ((e1.N) + 1))) (w64 ((e1.S) + 1)), maxI (maxI x4 (w64 ((e1.E) + 1))) (w64 ((e1.W) + 1)), w64 (x5 + 1)) [4, 5, 8, 9, 10] rfl ⟨(hS20.subR [0]).sub [] (by decide), hl11⟩
   refine WC.condF2 (fun fb => by kernel_rfl) h12 ?_
   refine WC.exit ?_
   injection hl11 with hl11
   exact WX.thenX (WX.thenX (WX.blockHere (WX.to Kx6 (x3, x4) [4, 5] rfl ⟨(hS10.subR [0]).sub [] (by decide), hl11.symm⟩)))
 rintro y24 w21 ⟨hS22, hq23⟩
 subst hq23
 refine WX.next (WC.seq (WC.region ?_))
 refine sg 4 [] [2, 3] [(2, (iv x6.1)), (3, (iv x6.2))] (by kernel_rfl) ?_
 refine WL.done rfl (WX.next ?_)
 refine WC.ret ?_
 injection hf with hf
 subst hf
 exact WX.ret_ [] (.tuple #[(iv x6.1), (iv x6.2)]) [] (fun fb => by kernel_rfl) trivial ⟨_, rfl, rfl, hS22.keep⟩
theorem weight_fraction_valid_calls (p0 : Fraction)  (r : Bool) (w : World)  (hf : weight_fraction_valid p0 = some r) :
  CallsR Tryz.prog 39 #[(.agg #[(iv p0.Num), (iv p0.Den)])] w (fun v w' => v = (bv r) ∧ Keeps NoS w w') := by
 have hS : St NoS w w [] [] := St.init (ro_nil _ _)
 refine enter 21 Tryz.func39 rfl Tryz.ntmps39 rfl ?_
 unfold weight_fraction_valid at hf
 refine WC.seq (WC.region ?_)
 refine WL.new hS 1 [] (fun g => (pt g)) (.cells #[(iv p0.Num), (iv p0.Den)] 63 (0, 0)) [] (fun fb g => by kernel_rfl) trivial (fun g1 w2 hS3 => ?_)
 refine ⟨trivial, ?_⟩
 refine sg 2 [] [1] [(1, (pt g1))] (by kernel_rfl) ?_
 refine WL.done rfl (WX.next (WC.seq (WC.region ?_)))
 refine seg 4 [.v (iv p0.Den)] [1, 6] [(1, (pt g1)), (6, (bv (decide (p0.Den ≥ 1))))] [.cell ⟨g1, 1, none⟩ (iv p0.Den)] (fun fb => by kernel_rfl) rfl ⟨hS3.cell 0 rfl 1 rfl, trivial⟩ ?_
 refine WL.cutV (T := Bool) 8 (fun t => [(10, (bv t)), (1, (pt g1))]) (fun t => ((decide (p0.Den ≥ 1)) && (decide (p0.Den ≤ 1000000))) = t) (fun K => ?_) ?_
 ·
  rcases Bool.eq_false_or_eq_true (decide (p0.Den ≥ 1)) with h4 | h4
  ·
   refine WL.setB 6 h4 rfl ?_
   refine seg 8 [.v (iv p0.Den)] [1, 10] [(1, (pt g1)), (10, (bv (decide (p0.Den ≤ 1000000))))] [.cell ⟨g1, 1, none⟩ (iv p0.Den)] (fun fb => by kernel_rfl) rfl ⟨hS3.cell 0 rfl 1 rfl, trivial⟩ ?_
   exact WL.toV K (decide (p0.Den ≤ 1000000)) [10, 1] rfl (by first | (rw [h4]; done) | (rw [h4]; rfl))
  refine WL.setB 6 h4 rfl ?_
  refine sg 8 [] [1, 10] [(1, (pt g1)), (10, (bv false))] (by kernel_rfl) ?_
  exact WL.toV K false [10, 1] rfl (by first | (rw [h4]; done) | (rw [h4]; rfl))
 rintro b5 rfl
 refine sg 9 [] [1, 11] [(1, (pt g1)), (11, (bv ((decide (p0.Den ≥ 1)) && (decide (p0.Den ≤ 1000000)))))] (by kernel_rfl) ?_
 refine WL.cutV (T := Bool) 13 (fun t => [(15, (bv t)), (1, (pt g1))]) (fun t => (((decide (p0.Den ≥ 1)) && (decide (p0.Den ≤ 1000000))) && (decide (p0.Num ≥ (-1000000)))) = t) (fun K => ?_) ?_
 ·
  rcases Bool.eq_false_or_eq_true ((decide (p0.Den ≥ 1)) && (decide (p0.Den ≤ 1000000))) with h6 | h6
  ·
   refine WL.setB 11 h6 rfl ?_
   refine seg 13 [.v (iv p0.Num)] [1, 15] [(1, (pt g1)), (15, (bv (decide (p0.Num ≥ (-1000000)))))] [.cell ⟨g1, 0, none⟩ (iv p0.Num)] (fun fb => by kernel_rfl) rfl ⟨hS3.cell 0 rfl 0 rfl, trivial⟩ ?_
   exact WL.toV K (decide (p0.Num ≥ (-1000000))) [15, 1] rfl (by first | (rw [h6]; done) | (rw [h6]; rfl))
  refine WL.setB 11 h6 rfl ?_
  refine sg 13 [] [1, 15] [(1, (pt g1)), (15, (bv false))] (by kernel_rfl) ?_
  exact WL.toV K false [15, 1] rfl (by first | (rw [h6]; done) | (rw [h6]; rfl))
 rintro b7 rfl
 refine sg 14 [] [1, 16] [(1, (pt g1)), (16, (bv (((decide (p0.Den ≥ 1)) && (decide (p0.Den ≤ 1000000))) && (decide (p0.Num ≥ (-1000000))))))] (by kernel_rfl) ?_
 refine WL.cutV (T := Bool) 18 (fun t => [(20, (bv t))]) (fun t => ((((decide (p0.Den ≥ 1)) && (decide (p0.Den ≤ 1000000))) && (decide (p0.Num ≥ (-1000000)))) && (decide (p0.Num ≤ 1000000))) = t) (fun K => ?_) ?_
 ·
  rcases Bool.eq_false_or_eq_true (((decide (p0.Den ≥ 1)) && (decide (p0.Den ≤ 1000000))) && (decide (p0.Num ≥ (-1000000)))) with h8 | h8
  ·
   refine WL.setB 16 h8 rfl ?_
   refine seg 18 [.v (iv p0.Num)] [20] [(20, (bv (decide (p0.Num ≤ 1000000))))] [.cell ⟨g1, 0, none⟩ (iv p0.Num)] (fun fb => by kernel_rfl) rfl ⟨hS3.cell 0 rfl 0 rfl, trivial⟩ ?_
   exact WL.toV K (decide (p0.Num ≤ 1000000)) [20] rfl (by first | (rw [h8]; done) | (rw [h8]; rfl))
  refine WL.setB 16 h8 rfl ?_
  refine sg 18 [] [20] [(20, (bv false))] (by kernel_rfl) ?_
  exact WL.toV K false [20] rfl (by first | (rw [h8]; done) | (rw [h8]; rfl))
 rintro b9 rfl
 refine sg 19 [] [2] [(2, (bv ((((decide (p0.Den ≥ 1)) && (decide (p0.Den ≤ 1000000))) && (decide (p0.Num ≥ (-1000000)))) && (decide (p0.Num ≤ 1000000)))))] (by kernel_rfl) ?_
 refine WL.done rfl (WX.next ?_)
 refine WC.ret ?_
 injection hf with hf
 subst hf
 exact WX.ret_ [] (bv ((((decide (p0.Den ≥ 1)) && (decide (p0.Den ≤ 1000000))) && (decide (p0.Num ≥ (-1000000)))) && (decide (p0.Num ≤ 1000000)))) [] (fun fb => by kernel_rfl) trivial ⟨_, rfl, rfl, hS3.keep⟩
theorem weight_all_1_of_weight_fraction_valid_calls (p0 : Frac) (ga : Nat) (r : Bool) (w : World) (hR0 : RO NoS w (blk ga (.cells #[(.func (.func 39) #[] #[])] 65 (0, 0)))) (hf : weight_all_1_of_weight_fraction_valid p0 = some r) :
  CallsR Tryz.prog 68 #[(.agg #[(iv p0.Num), (iv p0.Den)]), (pt ga)] w (fun v w' => v = (bv r) ∧ Keeps NoS w w') := by
 have hS : St NoS w w [blk ga (.cells #[(.func (.func 39) #[] #[])] 65 (0, 0))] [] := St.init (ro_cons hR0 (ro_nil _ _))
 refine enter 8 Tryz.func68 rfl Tryz.ntmps68 rfl ?_
 unfold weight_all_1_of_weight_fraction_valid at hf
 refine WC.seq (WC.region ?_)
 refine WL.new hS 2 [] (fun g => (pt g)) (.cells #[(iv p0.Num), (iv p0.Den)] 33 (0, 0)) [] (fun fb g => by kernel_rfl) trivial (fun g2 w3 hS4 => ?_)
 refine ⟨trivial, ?_⟩
 refine sg 2 [] [1, 2] [(1, (pt ga)), (2, (pt g2))] (by kernel_rfl) ?_
 refine WL.done rfl (WX.next (WC.seq (WC.region ?_)))
 refine seg 2 [.v (.func (.func 39) #[] #[]), .v (iv p0.Num), .v (iv p0.Den)] [4, 5] [(4, (.func (.func 39) #[] #[])), (5, (.agg #[(iv p0.Num), (iv p0.Den)]))] [.cell ⟨ga, 0, none⟩ (.func (.func 39) #[] #[]), .cell ⟨g2, 0, none⟩ (iv p0.Num), .cell ⟨g2, 1, none⟩ (iv p0.Den)] (fun fb => by kernel_rfl) rfl ⟨blk_cell (hS4.rd 0).1 0 rfl, hS4.cell 0 rfl 0 rfl, hS4.cell 0 rfl 1 rfl, trivial⟩ ?_
 obtain ⟨t5, ht6, hf⟩ := bind_some hf
 refine WL.call (some 6) 39 #[(.agg #[(iv p0.Num), (iv p0.Den)])] (fun fb => by kernel_rfl) (weight_fraction_valid_calls (Fraction.mk p0.Num p0.Den) t5 _ ht6) (fun v w7 hR8 => ?_)
 obtain ⟨rfl, hk_⟩ := hR8
 have hS9 := hS4.keepN hk_
 refine ⟨trivial, ?_⟩
 refine sg 5 [] [3] [(3, (bv (!t5)))] (by kernel_rfl) ?_
 refine WL.done rfl (WX.next ?_)
 refine WC.ret ?_
 injection hf with hf
 subst hf
 exact WX.ret_ [] (bv (!t5)) [] (fun fb => by kernel_rfl) trivial ⟨_, rfl, rfl, hS9.keep⟩
theorem slices_IndexFunc_api_Frac_api_Frac_with_weight_all_1_of_weight_fraction_valid_calls (k : Nat) (p0 : List Frac) (Aa : Option Addr) (ca : Nat) (ga : Nat) (r : Int) (w : World) (hR0 : RO NoS w (rowR enc_Frac Aa ca p0)) (hR1 : RO NoS w (blk ga (.cells #[(.func (.func 39) #[] #[])] 65 (0, 0)))) (hf : slices_IndexFunc_api_Frac_api_Frac_with_weight_all_1_of_weight_fraction_valid k p0 = some r) :
  CallsR Tryz.prog 88 #[(sv Aa p0 ca), (.func (.func 68) #[] #[(pt ga)])] w (fun v w' => v = (iv r) ∧ Keeps NoS w w') := by
 have hS : St NoS w w [rowR enc_Frac Aa ca p0, blk ga (.cells #[(.func (.func 39) #[] #[])] 65 (0, 0))] [] := St.init (ro_cons hR0 (ro_cons hR1 (ro_nil _ _)))
 refine enter 19 Tryz.func88 rfl Tryz.ntmps88 rfl ?_
 unfold slices_IndexFunc_api_Frac_api_Frac_with_weight_all_1_of_weight_fraction_valid at hf
 refine WC.seq (WC.region ?_)
 refine sg 1 [] [0, 1] [(0, (sv Aa p0 ca)), (1, (.func (.func 68) #[] #[(pt ga)]))] (by kernel_rfl) ?_
 refine WL.done rfl (WX.next (WC.seq (WC.seq (WC.region ?_))))
 refine sg 3 [] [0, 1, 7, 8] [(0, (sv Aa p0 ca)), (1, (.func (.func 68) #[] #[(pt ga)])), (7, (iv (p0.length : Int))), (8, (iv 0))] (by kernel_rfl) ?_
 refine WL.done rfl (WX.next ?_)
 obtain ⟨x4, hx5, hf⟩ := bind_some hf
 let e1 : Nat × Value := (7, (iv (p0.length : Int)))
 let e3 : Nat × Value := (0, (sv Aa p0 ca))
 refine WC.cutN (T := Unit) (fun t => []) (fun t w1 => St NoS w w1 [rowR enc_Frac Aa ca p0, blk ga (.cells #[(.func (.func 39) #[] #[])] 65 (0, 0))] [] ∧ x4 = .inr t) (fun Kx4 => ?_) ?_
 ·
  refine WC.block ?_
  refine WC.loop (T := Int) (fun t => [e3, (1, (.func (.func 68) #[] #[(pt ga)])), e1, (8, (iv t))]) (fun n t w1 => St NoS w w1 [rowR enc_Frac Aa ca p0, blk ga (.cells #[(.func (.func 39) #[] #[])] 65 (0, 0))] [] ∧ slices_IndexFunc_api_Frac_api_Frac_with_weight_all_1_of_weight_fraction_valid.l0 n t p0 = some x4) k 0 [0, 1, 7, 8] rfl ⟨(hS.subR [0, 1]).sub [] (by decide), hx5⟩ ?_
  rintro k6 x3 w7 ⟨hS8, hl9⟩
  let e2 := rdD p0 x3 z_Frac
  cases k6 with
  | zero => rw [slices_IndexFunc_api_Frac_api_Frac_with_weight_all_1_of_weight_fraction_valid.l0] at hl9; cases hl9
  | succ k6 =>
   rw [slices_IndexFunc_api_Frac_api_Frac_with_weight_all_1_of_weight_fraction_valid.l0] at hl9
   refine WC.seq (WC.region ?_)
   refine sg 1 [] [0, 1, 7, 8, 9] [e3, (1, (.func (.func 68) #[] #[(pt ga)])), e1, (8, (iv x3)), (9, (bv (decide (x3 < (p0.length : Int)))))] (by kernel_rfl) ?_
   refine WL.done rfl (WX.next (WC.seq ?_))
   rcases br_some hl9 with ⟨h10, hl9⟩ | ⟨h10, hl9⟩
   ·refine WC.condT2 (fun fb => by kernel_rfl) h10 ?_
    refine WC.skip (WX.next (WC.seq (WC.block (WC.seq (WC.region ?_)))))
    refine sg 2 [] [0, 1, 5, 7, 8] [e3, (1, (.func (.func 68) #[] #[(pt ga)])), (5, (iv x3)), e1, (8, (iv x3))] (by kernel_rfl) ?_
    refine WL.done rfl (WX.next (WC.seq (WC.region ?_)))
    refine sg 3 [] [0, 1, 5, 7, 8, 11, 12, 13] [e3, (1, (.func (.func 68) #[] #[(pt ga)])), (5, (iv x3)), e1, (8, (iv x3)), (11, (.func (.func 68) #[] #[(pt ga)])), (12, (sv Aa p0 ca)), (13, (iv x3))] (by kernel_rfl) ?_
    obtain ⟨h11, hl9⟩ := as_some hl9
    refine seg 5 [.v (iv (e2.Num)), .v (iv (e2.Den))] [0, 1, 5, 7, 8, 11, 15] [e3, (1, (.func (.func 68) #[] #[(pt ga)])), (5, (iv x3)), e1, (8, (iv x3)), (11, (.func (.func 68) #[] #[(pt ga)])), (15, (.agg #[(iv (e2.Num)), (iv (e2.Den))]))] [.idx Aa x3 p0.length, .cell ((adr Aa).add ((x3).toNat * 2)) (iv (e2.Num)), .cell (((adr Aa).add ((x3).toNat * 2)).add 1) (iv (e2.Den))] (fun fb => by kernel_rfl) rfl ⟨rowR.adr (hS8.rd 0).1 h11.1 h11.2, rowR.cell (hS8.rd 0).1 z_Frac h11.1 h11.2 0 rfl, rowR.cell (hS8.rd 0).1 z_Frac h11.1 h11.2 1 rfl, trivial⟩ ?_
    obtain ⟨t12, ht13, hl9⟩ := bind_some hl9
    refine WL.call (some 16) 68 #[(.agg #[(iv (e2.Num)), (iv (e2.Den))]), (pt ga)] (fun fb => by kernel_rfl) (weight_all_1_of_weight_fraction_valid_calls e2 ga t12 _ (hS8.rd 1) ht13) (fun v w14 hR15 => ?_)
    obtain ⟨rfl, hk_⟩ := hR15
    have hS16 := hS8.keepN hk_
    refine ⟨trivial, ?_⟩
    refine WL.done rfl (WX.next ?_)
    rcases br_some hl9 with ⟨h17, hl9⟩ | ⟨h17, hl9⟩
    ·refine WC.condT2 (fun fb => by kernel_rfl) h17 ?_
     refine WC.seq (WC.region ?_)
     refine sg 2 [] [4] [(4, (iv x3))] (by kernel_rfl) ?_
     refine WL.done rfl (WX.next ?_)
     refine WC.ret ?_
     injection hl9 with hl9
     subst hl9
     injection hf with hf
     subst hf
     exact WX.blockR (WX.thenR (WX.thenR (WX.blockR (WX.thenR (WX.ret_ [] (iv x3) [] (fun fb => by kernel_rfl) trivial ⟨_, rfl, rfl, hS16.keep⟩)))))
    refine WC.condF2 (fun fb => by kernel_rfl) h17 ?_
    refine WC.skip ?_
    refine WX.blockN (WX.next ?_)
    refine WC.region ?_
    refine sg 2 [] [0, 1, 7, 8] [e3, (1, (.func (.func 68) #[] #[(pt ga)])), e1, (8, (iv (w64 (x3 + 1))))] (by kernel_rfl) ?_
    refine WL.done rfl ?_
    exact WX.again k6 (Nat.lt_succ_self _) (w64 (x3 + 1)) [0, 1, 7, 8] rfl ⟨(hS16.subR [0, 1]).sub [] (by decide), hl9⟩
   refine WC.condF2 (fun fb => by kernel_rfl) h10 ?_
   refine WC.exit ?_
   injection hl9 with hl9
   exact WX.thenX (WX.thenX (WX.blockHere (WX.to Kx4 () [] rfl ⟨(hS8.subR [0, 1]).sub [] (by decide), hl9.symm⟩)))
 rintro y21 w18 ⟨hS19, hq20⟩
 subst hq20
 have hf := sum_inr hf
 refine WX.next (WC.seq (WC.region ?_))
 refine sg 1 [] [4] [(4, (iv (-1)))] (by kernel_rfl) ?_
 refine WL.done rfl (WX.next ?_)
 refine WC.ret ?_
 injection hf with hf
 subst hf
 exact WX.ret_ [] (iv (-1)) [] (fun fb => by kernel_rfl) trivial ⟨_, rfl, rfl, hS19.keep⟩
theorem slices_ContainsFunc_api_Frac_api_Frac_with_weight_all_1_of_weight_fraction_valid_calls (k : Nat) (p0 : List Frac) (Aa : Option Addr) (ca : Nat) (ga : Nat) (r : Bool) (w : World) (hR0 : RO NoS w (rowR enc_Frac Aa ca p0)) (hR1 : RO NoS w (blk ga (.cells #[(.func (.func 39) #[] #[])] 65 (0, 0)))) (hf : slices_ContainsFunc_api_Frac_api_Frac_with_weight_all_1_of_weight_fraction_valid k p0 = some r) :
  CallsR Tryz.prog 67 #[(sv Aa p0 ca), (.func (.func 68) #[] #[(pt ga)])] w (fun v w' => v = (bv r) ∧ Keeps NoS w w') := by
 have hS : St NoS w w [rowR enc_Frac Aa ca p0, blk ga (.cells #[(.func (.func 39) #[] #[])] 65 (0, 0))] [] := St.init (ro_cons hR0 (ro_cons hR1 (ro_nil _ _)))
 refine enter 9 Tryz.func67 rfl Tryz.ntmps67 rfl ?_
 unfold slices_ContainsFunc_api_Frac_api_Frac_with_weight_all_1_of_weight_fraction_valid at hf
 refine WC.seq (WC.region ?_)
 refine sg 1 [] [0, 1] [(0, (sv Aa p0 ca)), (1, (.func (.func 68) #[] #[(pt ga)]))] (by kernel_rfl) ?_
 refine WL.done rfl (WX.next (WC.seq (WC.region ?_)))
 refine sg 2 [] [5, 6] [(5, (sv Aa p0 ca)), (6, (.func (.func 68) #[] #[(pt ga)]))] (by kernel_rfl) ?_
 obtain ⟨t2, ht3, hf⟩ := bind_some hf
 refine WL.call (some 7) 88 #[(sv Aa p0 ca), (.func (.func 68) #[] #[(pt ga)])] (fun fb => by kernel_rfl) (slices_IndexFunc_api_Frac_api_Frac_with_weight_all_1_of_weight_fraction_valid_calls _ p0 Aa ca ga t2 _ (hS.rd 0) (hS.rd 1) ht3) (fun v w4 hR5 => ?_)
 obtain ⟨rfl, hk_⟩ := hR5
 have hS6 := hS.keepN hk_
 refine ⟨trivial, ?_⟩
 refine sg 5 [] [4] [(4, (bv (decide (t2 ≥ 0))))] (by kernel_rfl) ?_
 refine WL.done rfl (WX.next ?_)
 refine WC.ret ?_
 injection hf with hf
 subst hf
 exact WX.ret_ [] (bv (decide (t2 ≥ 0))) [] (fun fb => by kernel_rfl) trivial ⟨_, rfl, rfl, hS6.keep⟩
theorem weight_all_with_weight_fraction_valid_calls (k : Nat) (p0 : List Frac) (Aa : Option Addr) (ca : Nat) (r : Bool) (w : World) (hR0 : RO NoS w (rowR enc_Frac Aa ca p0)) (hf : weight_all_with_weight_fraction_valid k p0 = some r) :
  CallsR Tryz.prog 34 #[(sv Aa p0 ca), (.func (.func 39) #[] #[])] w (fun v w' => v = (bv r) ∧ Keeps NoS w w') := by
 have hS : St NoS w w [rowR enc_Frac Aa ca p0] [] := St.init (ro_cons hR0 (ro_nil _ _))
 refine enter 9 Tryz.func34 rfl Tryz.ntmps34 rfl ?_
 unfold weight_all_with_weight_fraction_valid at hf
 refine WC.seq (WC.region ?_)
 refine WL.new hS 3 [] (fun g => (pt g)) (.cells #[(.func (.func 39) #[] #[])] 65 (0, 0)) [] (fun fb g => by kernel_rfl) trivial (fun g2 w3 hS4 => ?_)
 refine ⟨trivial, ?_⟩
 refine sg 2 [] [0, 3] [(0, (sv Aa p0 ca)), (3, (pt g2))] (by kernel_rfl) ?_
 refine WL.done rfl (WX.next (WC.seq (WC.region ?_)))
 refine sg 2 [] [5, 6] [(5, (sv Aa p0 ca)), (6, (.func (.func 68) #[] #[(pt g2)]))] (by kernel_rfl) ?_
 obtain ⟨t5, ht6, hf⟩ := bind_some hf
 refine WL.call (some 7) 67 #[(sv Aa p0 ca), (.func (.func 68) #[] #[(pt g2)])] (fun fb => by kernel_rfl) (slices_ContainsFunc_api_Frac_api_Frac_with_weight_all_1_of_weight_fraction_valid_calls _ p0 Aa ca g2 t5 _ (hS4.rd 0) (hS4.ow 0) ht6) (fun v w7 hR8 => ?_)
 obtain ⟨rfl, hk_⟩ := hR8
 have hS9 := hS4.keepN hk_
 refine ⟨trivial, ?_⟩
 refine sg 5 [] [4] [(4, (bv (!t5)))] (by kernel_rfl) ?_
 refine WL.done rfl (WX.next ?_)
 refine WC.ret ?_
 injection hf with hf
 subst hf
 exact WX.ret_ [] (bv (!t5)) [] (fun fb => by kernel_rfl) trivial ⟨_, rfl, rfl, hS9.keep⟩
theorem weight_Valid_1_calls (p0 : Fraction)  (r : Bool) (w : World)  (hf : weight_Valid_1 p0 = some r) :
  CallsR Tryz.prog 40 #[(.agg #[(iv p0.Num), (iv p0.Den)])] w (fun v w' => v = (bv r) ∧ Keeps NoS w w') := by
 have hS : St NoS w w [] [] := St.init (ro_nil _ _)
 refine enter 6 Tryz.func40 rfl Tryz.ntmps40 rfl ?_
 unfold weight_Valid_1 at hf
 refine WC.seq (WC.region ?_)
 refine WL.new hS 1 [] (fun g => (pt g)) (.cells #[(iv p0.Num), (iv p0.Den)] 63 (0, 0)) [] (fun fb g => by kernel_rfl) trivial (fun g2 w3 hS4 => ?_)
 refine ⟨trivial, ?_⟩
 refine sg 2 [] [1] [(1, (pt g2))] (by kernel_rfl) ?_
 refine WL.done rfl (WX.next (WC.seq (WC.region ?_)))
 refine seg 4 [.v (iv p0.Num)] [2] [(2, (bv (decide (p0.Num ≥ 0))))] [.cell ⟨g2, 0, none⟩ (iv p0.Num)] (fun fb => by kernel_rfl) rfl ⟨hS4.cell 0 rfl 0 rfl, trivial⟩ ?_
 refine WL.done rfl (WX.next ?_)
 refine WC.ret ?_
 injection hf with hf
 subst hf
 exact WX.ret_ [] (bv (decide (p0.Num ≥ 0))) [] (fun fb => by kernel_rfl) trivial ⟨_, rfl, rfl, hS4.keep⟩
theorem weight_all_1_of_weight_Valid_1_calls (p0 : Frac) (ga : Nat) (r : Bool) (w : World) (hR0 : RO NoS w (blk ga (.cells #[(.func (.func 40) #[] #[])] 65 (0, 0)))) (hf : weight_all_1_of_weight_Valid_1 p0 = some r) :
  CallsR Tryz.prog 68 #[(.agg #[(iv p0.Num), (iv p0.Den)]), (pt ga)] w (fun v w' => v = (bv r) ∧ Keeps NoS w w') := by
 have hS : St NoS w w [blk ga (.cells #[(.func (.func 40) #[] #[])] 65 (0, 0))] [] := St.init (ro_cons hR0 (ro_nil _ _))
 refine enter 8 Tryz.func68 rfl Tryz.ntmps68 rfl ?_
 unfold weight_all_1_of_weight_Valid_1 at hf
 refine WC.seq (WC.region ?_)
 refine WL.new hS 2 [] (fun g => (pt g)) (.cells #[(iv p0.Num), (iv p0.Den)] 33 (0, 0)) [] (fun fb g => by kernel_rfl) trivial (fun g2 w3 hS4 => ?_)
 refine ⟨trivial, ?_⟩
 refine sg 2 [] [1, 2] [(1, (pt ga)), (2, (pt g2))] (by kernel_rfl) ?_
 refine WL.done rfl (WX.next (WC.seq (WC.region ?_)))
 refine seg 2 [.v (.func (.func 40) #[] #[]), .v (iv p0.Num), .v (iv p0.Den)] [4, 5] [(4, (.func (.func 40) #[] #[])), (5, (.agg #[(iv p0.Num), (iv p0.Den)]))] [.cell ⟨ga, 0, none⟩ (.func (.func 40) #[] #[]), .cell ⟨g2, 0, none⟩ (iv p0.Num), .cell ⟨g2, 1, none⟩ (iv p0.Den)] (fun fb => by kernel_rfl) rfl ⟨blk_cell (hS4.rd 0).1 0 rfl, hS4.cell 0 rfl 0 rfl, hS4.cell 0 rfl 1 rfl, trivial⟩ ?_
 obtain ⟨t5, ht6, hf⟩ := bind_some hf
 refine WL.call (some 6) 40 #[(.agg #[(iv p0.Num), (iv p0.Den)])] (fun fb => by kernel_rfl) (weight_Valid_1_calls (Fraction.mk p0.Num p0.Den) t5 _ ht6) (fun v w7 hR8 => ?_)
 obtain ⟨rfl, hk_⟩ := hR8
 have hS9 := hS4.keepN hk_
 refine ⟨trivial, ?_⟩
 refine sg 5 [] [3] [(3, (bv (!t5)))] (by kernel_rfl) ?_
 refine WL.done rfl (WX.next ?_)
 refine WC.ret ?_
 injection hf with hf
 subst hf
 exact WX.ret_ [] (bv (!t5)) [] (fun fb => by kernel_rfl) trivial ⟨_, rfl, rfl, hS9.keep⟩
theorem slices_IndexFunc_api_Frac_api_Frac_with_weight_all_1_of_weight_Valid_1_calls (k : Nat) (p0 : List Frac) (Aa : Option Addr) (ca : Nat) (ga : Nat) (r : Int) (w : World) (hR0 : RO NoS w (rowR enc_Frac Aa ca p0)) (hR1 : RO NoS w (blk ga (.cells #[(.func (.func 40) #[] #[])] 65 (0, 0)))) (hf : slices_IndexFunc_api_Frac_api_Frac_with_weight_all_1_of_weight_Valid_1 k p0 = some r) :
  CallsR Tryz.prog 88 #[(sv Aa p0 ca), (.func (.func 68) #[] #[(pt ga)])] w (fun v w' => v = (iv r) ∧ Keeps NoS w w') := by
 have hS : St NoS w w [rowR enc_Frac Aa ca p0, blk ga (.cells #[(.func (.func 40) #[] #[])] 65 (0, 0))] [] := St.init (ro_cons hR0 (ro_cons hR1 (ro_nil _ _)))
 refine enter 19 Tryz.func88 rfl Tryz.ntmps88 rfl ?_
 unfold slices_IndexFunc_api_Frac_api_Frac_with_weight_all_1_of_weight_Valid_1 at hf
 refine WC.seq (WC.region ?_)
 refine sg 1 [] [0, 1] [(0, (sv Aa p0 ca)), (1, (.func (.func 68) #[] #[(pt ga)]))] (by kernel_rfl) ?_
 refine WL.done rfl (WX.next (WC.seq (WC.seq (WC.region ?_))))
 refine sg 3 [] [0, 1, 7, 8] [(0, (sv Aa p0 ca)), (1, (.func (.func 68) #[] #[(pt ga)])), (7, (iv (p0.length : Int))), (8, (iv 0))] (by kernel_rfl) ?_
 refine WL.done rfl (WX.next ?_)
 obtain ⟨x4, hx5, hf⟩ := bind_some hf
 let e1 : Nat × Value := (7, (iv (p0.length : Int)))
 let e3 : Nat × Value := (0, (sv Aa p0 ca))
 refine WC.cutN (T := Unit) (fun t => []) (fun t w1 => St NoS w w1 [rowR enc_Frac Aa ca p0, blk ga (.cells #[(.func (.func 40) #[] #[])] 65 (0, 0))] [] ∧ x4 = .inr t) (fun Kx4 => ?_) ?_
 ·
  refine WC.block ?_
  refine WC.loop (T := Int) (fun t => [e3, (1, (.func (.func 68) #[] #[(pt ga)])), e1, (8, (iv t))]) (fun n t w1 => St NoS w w1 [rowR enc_Frac Aa ca p0, blk ga (.cells #[(.func (.func 40) #[] #[])] 65 (0, 0))] [] ∧ slices_IndexFunc_api_Frac_api_Frac_with_weight_all_1_of_weight_Valid_1.l0 n t p0 = some x4) k 0 [0, 1, 7, 8] rfl ⟨(hS.subR [0, 1]).sub [] (by decide), hx5⟩ ?_
  rintro k6 x3 w7 ⟨hS8, hl9⟩
  let e2 := rdD p0 x3 z_Frac
  cases k6 with
  | zero => rw [slices_IndexFunc_api_Frac_api_Frac_with_weight_all_1_of_weight_Valid_1.l0] at hl9; cases hl9
  | succ k6 =>
   rw [slices_IndexFunc_api_Frac_api_Frac_with_weight_all_1_of_weight_Valid_1.l0] at hl9
   refine WC.seq (WC.region ?_)
   refine sg 1 [] [0, 1, 7, 8, 9] [e3, (1, (.func (.func 68) #[] #[(pt ga)])), e1, (8, (iv x3)), (9, (bv (decide (x3 < (p0.length : Int)))))] (by kernel_rfl) ?_
   refine WL.done rfl (WX.next (WC.seq ?_))
   rcases br_some hl9 with ⟨h10, hl9⟩ | ⟨h10, hl9⟩
   ·refine WC.condT2 (fun fb => by kernel_rfl) h10 ?_
    refine WC.skip (WX.next (WC.seq (WC.block (WC.seq (WC.region ?_)))))
    refine sg 2 [] [0, 1, 5, 7, 8] [e3, (1, (.func (.func 68) #[] #[(pt ga)])), (5, (iv x3)), e1, (8, (iv x3))] (by kernel_rfl) ?_
    refine WL.done rfl (WX.next (WC.seq (WC.region ?_)))
    refine sg 3 [] [0, 1, 5, 7, 8, 11, 12, 13] [e3, (1, (.func (.func 68) #[] #[(pt ga)])), (5, (iv x3)), e1, (8, (iv x3)), (11, (.func (.func 68) #[] #[(pt ga)])), (12, (sv Aa p0 ca)), (13, (iv x3))] (by kernel_rfl) ?_
    obtain ⟨h11, hl9⟩ := as_some hl9
    refine seg 5 [.v (iv (e2.Num)), .v (iv (e2.Den))] [0, 1, 5, 7, 8, 11, 15] [e3, (1, (.func (.func 68) #[] #[(pt ga)])), (5, (iv x3)), e1, (8, (iv x3)), (11, (.func (.func 68) #[] #[(pt ga)])), (15, (.agg #[(iv (e2.Num)), (iv (e2.Den))]))] [.idx Aa x3 p0.length, .cell ((adr Aa).add ((x3).toNat * 2)) (iv (e2.Num)), .cell (((adr Aa).add ((x3).toNat * 2)).add 1) (iv (e2.Den))] (fun fb => by kernel_rfl) rfl ⟨rowR.adr (hS8.rd 0).1 h11.1 h11.2, rowR.cell (hS8.rd 0).1 z_Frac h11.1 h11.2 0 rfl, rowR.cell (hS8.rd 0).1 z_Frac h11.1 h11.2 1 rfl, trivial⟩ ?_
    obtain ⟨t12, ht13, hl9⟩ := bind_some hl9
    refine WL.call (some 16) 68 #[(.agg #[(iv (e2.Num)), (iv (e2.Den))]), (pt ga)] (fun fb => by kernel_rfl) (weight_all_1_of_weight_Valid_1_calls e2 ga t12 _ (hS8.rd 1) ht13) (fun v w14 hR15 => ?_)
    obtain ⟨rfl, hk_⟩ := hR15
    have hS16 := hS8.keepN hk_
    refine ⟨trivial, ?_⟩
    refine WL.done rfl (WX.next ?_)
    rcases br_some hl9 with ⟨h17, hl9⟩ | ⟨h17, hl9⟩
    ·refine WC.condT2 (fun fb => by kernel_rfl) h17 ?_
     refine WC.seq (WC.region ?_)
     refine sg 2 [] [4] [(4, (iv x3))] (by kernel_rfl) ?_
     refine WL.done rfl (WX.next ?_)
     refine WC.ret ?_
     injection hl9 with hl9
     subst hl9
     injection hf with hf
     subst hf
     exact WX.blockR (WX.thenR (WX.thenR (WX.blockR (WX.thenR (WX.ret_ [] (iv x3) [] (fun fb => by kernel_rfl) trivial ⟨_, rfl, rfl, hS16.keep⟩)))))
    refine WC.condF2 (fun fb => by kernel_rfl) h17 ?_
    refine WC.skip ?_
    refine WX.blockN (WX.next ?_)
    refine WC.region ?_
    refine sg 2 [] [0, 1, 7, 8] [e3, (1, (.func (.func 68) #[] #[(pt ga)])), e1, (8, (iv (w64 (x3 + 1))))] (by kernel_rfl) ?_
    refine WL.done rfl ?_
    exact WX.again k6 (Nat.lt_succ_self _) (w64 (x3 + 1)) [0, 1, 7, 8] rfl ⟨(hS16.subR [0, 1]).sub [] (by decide), hl9⟩
   refine WC.condF2 (fun fb => by kernel_rfl) h10 ?_
   refine WC.exit ?_
   injection hl9 with hl9
   exact WX.thenX (WX.thenX (WX.blockHere (WX.to Kx4 () [] rfl ⟨(hS8.subR [0, 1]).sub [] (by decide), hl9.symm⟩)))
 rintro y21 w18 ⟨hS19, hq20⟩
 subst hq20
 have hf := sum_inr hf
 refine WX.next (WC.seq (WC.region ?_))
 refine sg 1 [] [4] [(4, (iv (-1)))] (by kernel_rfl) ?_
 refine WL.done rfl (WX.next ?_)
 refine WC.ret ?_
 injection hf with hf
 subst hf
 exact WX.ret_ [] (iv (-1)) [] (fun fb => by kernel_rfl) trivial ⟨_, rfl, rfl, hS19.keep⟩
theorem slices_ContainsFunc_api_Frac_api_Frac_with_weight_all_1_of_weight_Valid_1_calls (k : Nat) (p0 : List Frac) (Aa : Option Addr) (ca : Nat) (ga : Nat) (r : Bool) (w : World) (hR0 : RO NoS w (rowR enc_Frac Aa ca p0)) (hR1 : RO NoS w (blk ga (.cells #[(.func (.func 40) #[] #[])] 65 (0, 0)))) (hf : slices_ContainsFunc_api_Frac_api_Frac_with_weight_all_1_of_weight_Valid_1 k p0 = some r) :
  CallsR Tryz.prog 67 #[(sv Aa p0 ca), (.func (.func 68) #[] #[(pt ga)])] w (fun v w' => v = (bv r) ∧ Keeps NoS w w') := by
 have hS : St NoS w w [rowR enc_Frac Aa ca p0, blk ga (.cells #[(.func (.func 40) #[] #[])] 65 (0, 0))] [] := St.init (ro_cons hR0 (ro_cons hR1 (ro_nil _ _)))
 refine enter 9 Tryz.func67 rfl Tryz.ntmps67 rfl ?_
 unfold slices_ContainsFunc_api_Frac_api_Frac_with_weight_all_1_of_weight_Valid_1 at hf
 refine WC.seq (WC.region ?_)
 refine sg 1 [] [0, 1] [(0, (sv Aa p0 ca)), (1, (.func (.func 68) #[] #[(pt ga)]))] (by kernel_rfl) ?_
 refine WL.done rfl (WX.next (WC.seq (WC.region ?_)))
 refine sg 2 [] [5, 6] [(5, (sv Aa p0 ca)), (6, (.func (.func 68) #[] #[(pt ga)]))] (by kernel_rfl) ?_
 obtain ⟨t2, ht3, hf⟩ := bind_some hf
 refine WL.call (some 7) 88 #[(sv Aa p0 ca), (.func (.func 68) #[] #[(pt ga)])] (fun fb => by kernel_rfl) (slices_IndexFunc_api_Frac_api_Frac_with_weight_all_1_of_weight_Valid_1_calls _ p0 Aa ca ga t2 _ (hS.rd 0) (hS.rd 1) ht3) (fun v w4 hR5 => ?_)
 obtain ⟨rfl, hk_⟩ := hR5
 have hS6 := hS.keepN hk_
 refine ⟨trivial, ?_⟩
 refine sg 5 [] [4] [(4, (bv (decide (t2 ≥ 0))))] (by kernel_rfl) ?_
 refine WL.done rfl (WX.next ?_)
 refine WC.ret ?_
 injection hf with hf
 subst hf
 exact WX.ret_ [] (bv (decide (t2 ≥ 0))) [] (fun fb => by kernel_rfl) trivial ⟨_, rfl, rfl, hS6.keep⟩
theorem weight_all_with_weight_Valid_1_calls (k : Nat) (p0 : List Frac) (Aa : Option Addr) (ca : Nat) (r : Bool) (w : World) (hR0 : RO NoS w (rowR enc_Frac Aa ca p0)) (hf : weight_all_with_weight_Valid_1 k p0 = some r) :
  CallsR Tryz.prog 34 #[(sv Aa p0 ca), (.func (.func 40) #[] #[])] w (fun v w' => v = (bv r) ∧ Keeps NoS w w') := by
 have hS : St NoS w w [rowR enc_Frac Aa ca p0] [] := St.init (ro_cons hR0 (ro_nil _ _))
 refine enter 9 Tryz.func34 rfl Tryz.ntmps34 rfl ?_
 unfold weight_all_with_weight_Valid_1 at hf
 refine WC.seq (WC.region ?_)
 refine WL.new hS 3 [] (fun g => (pt g)) (.cells #[(.func (.func 40) #[] #[])] 65 (0, 0)) [] (fun fb g => by kernel_rfl) trivial (fun g2 w3 hS4 => ?_)
 refine ⟨trivial, ?_⟩
 refine sg 2 [] [0, 3] [(0, (sv Aa p0 ca)), (3, (pt g2))] (by kernel_rfl) ?_
 refine WL.done rfl (WX.next (WC.seq (WC.region ?_)))
 refine sg 2 [] [5, 6] [(5, (sv Aa p0 ca)), (6, (.func (.func 68) #[] #[(pt g2)]))] (by kernel_rfl) ?_
 obtain ⟨t5, ht6, hf⟩ := bind_some hf
 refine WL.call (some 7) 67 #[(sv Aa p0 ca), (.func (.func 68) #[] #[(pt g2)])] (fun fb => by kernel_rfl) (slices_ContainsFunc_api_Frac_api_Frac_with_weight_all_1_of_weight_Valid_1_calls _ p0 Aa ca g2 t5 _ (hS4.rd 0) (hS4.ow 0) ht6) (fun v w7 hR8 => ?_)
 obtain ⟨rfl, hk_⟩ := hR8
 have hS9 := hS4.keepN hk_
 refine ⟨trivial, ?_⟩
 refine sg 5 [] [4] [(4, (bv (!t5)))] (by kernel_rfl) ?_
 refine WL.done rfl (WX.next ?_)
 refine WC.ret ?_
 injection hf with hf
 subst hf
 exact WX.ret_ [] (bv (!t5)) [] (fun fb => by kernel_rfl) trivial ⟨_, rfl, rfl, hS9.keep⟩
theorem weight_Valid_2_calls (p0 : Fraction)  (r : Bool) (w : World)  (hf : weight_Valid_2 p0 = some r) :
  CallsR Tryz.prog 41 #[(.agg #[(iv p0.Num), (iv p0.Den)])] w (fun v w' => v = (bv r) ∧ Keeps NoS w w') := by
 have hS : St NoS w w [] [] := St.init (ro_nil _ _)
 refine enter 6 Tryz.func41 rfl Tryz.ntmps41 rfl ?_
 unfold weight_Valid_2 at hf
 refine WC.seq (WC.region ?_)
 refine WL.new hS 1 [] (fun g => (pt g)) (.cells #[(iv p0.Num), (iv p0.Den)] 63 (0, 0)) [] (fun fb g => by kernel_rfl) trivial (fun g1 w3 hS4 => ?_)
 refine ⟨trivial, ?_⟩
 refine sg 2 [] [1] [(1, (pt g1))] (by kernel_rfl) ?_
 refine WL.done rfl (WX.next (WC.seq (WC.region ?_)))
 refine seg 4 [.v (iv p0.Num)] [2] [(2, (bv (decide (p0.Num > 0))))] [.cell ⟨g1, 0, none⟩ (iv p0.Num)] (fun fb => by kernel_rfl) rfl ⟨hS4.cell 0 rfl 0 rfl, trivial⟩ ?_
 refine WL.done rfl (WX.next ?_)
 refine WC.ret ?_
 injection hf with hf
 subst hf
 exact WX.ret_ [] (bv (decide (p0.Num > 0))) [] (fun fb => by kernel_rfl) trivial ⟨_, rfl, rfl, hS4.keep⟩
theorem weight_all_1_of_weight_Valid_2_calls (p0 : Frac) (ga : Nat) (r : Bool) (w : World) (hR0 : RO NoS w (blk ga (.cells #[(.func (.func 41) #[] #[])] 65 (0, 0)))) (hf : weight_all_1_of_weight_Valid_2 p0 = some r) :
  CallsR Tryz.prog 68 #[(.agg #[(iv p0.Num), (iv p0.Den)]), (pt ga)] w (fun v w' => v = (bv r) ∧ Keeps NoS w w') := by
 have hS : St NoS w w [blk ga (.cells #[(.func (.func 41) #[] #[])] 65 (0, 0))] [] := St.init (ro_cons hR0 (ro_nil _ _))
 refine enter 8 Tryz.func68 rfl Tryz.ntmps68 rfl ?_
 unfold weight_all_1_of_weight_Valid_2 at hf
 refine WC.seq (WC.region ?_)
 refine WL.new hS 2 [] (fun g => (pt g)) (.cells #[(iv p0.Num), (iv p0.Den)] 33 (0, 0)) [] (fun fb g => by kernel_rfl) trivial (fun g3 w4 hS5 => ?_)
 refine ⟨trivial, ?_⟩
 refine sg 2 [] [1, 2] [(1, (pt ga)), (2, (pt g3))] (by kernel_rfl) ?_
 refine WL.done rfl (WX.next (WC.seq (WC.region ?_)))
 refine seg 2 [.v (.func (.func 41) #[] #[]), .v (iv p0.Num), .v (iv p0.Den)] [4, 5] [(4, (.func (.func 41) #[] #[])), (5, (.agg #[(iv p0.Num), (iv p0.Den)]))] [.cell ⟨ga, 0, none⟩ (.func (.func 41) #[] #[]), .cell ⟨g3, 0, none⟩ (iv p0.Num), .cell ⟨g3, 1, none⟩ (iv p0.Den)] (fun fb => by kernel_rfl) rfl ⟨blk_cell (hS5.rd 0).1 0 rfl, hS5.cell 0 rfl 0 rfl, hS5.cell 0 rfl 1 rfl, trivial⟩ ?_
 obtain ⟨t6, ht7, hf⟩ := bind_some hf
 refine WL.call (some 6) 41 #[(.agg #[(iv p0.Num), (iv p0.Den)])] (fun fb => by kernel_rfl) (weight_Valid_2_calls (Fraction.mk p0.Num p0.Den) t6 _ ht7) (fun v w8 hR9 => ?_)
 obtain ⟨rfl, hk_⟩ := hR9
 have hS10 := hS5.keepN hk_
 refine ⟨trivial, ?_⟩
 refine sg 5 [] [3] [(3, (bv (!t6)))] (by kernel_rfl) ?_
 refine WL.done rfl (WX.next ?_)
 refine WC.ret ?_
 injection hf with hf
 subst hf
 exact WX.ret_ [] (bv (!t6)) [] (fun fb => by kernel_rfl) trivial ⟨_, rfl, rfl, hS10.keep⟩
theorem slices_IndexFunc_api_Frac_api_Frac_with_weight_all_1_of_weight_Valid_2_calls (k : Nat) (p0 : List Frac) (Aa : Option Addr) (ca : Nat) (ga : Nat) (r : Int) (w : World) (hR0 : RO NoS w (rowR enc_Frac Aa ca p0)) (hR1 : RO NoS w (blk ga (.cells #[(.func (.func 41) #[] #[])] 65 (0, 0)))) (hf : slices_IndexFunc_api_Frac_api_Frac_with_weight_all_1_of_weight_Valid_2 k p0 = some r) :
  CallsR Tryz.prog 88 #[(sv Aa p0 ca), (.func (.func 68) #[] #[(pt ga)])] w (fun v w' => v = (iv r) ∧ Keeps NoS w w') := by
 have hS : St NoS w w [rowR enc_Frac Aa ca p0, blk ga (.cells #[(.func (.func 41) #[] #[])] 65 (0, 0))] [] := St.init (ro_cons hR0 (ro_cons hR1 (ro_nil _ _)))
 refine enter 19 Tryz.func88 rfl Tryz.ntmps88 rfl ?_
 unfold slices_IndexFunc_api_Frac_api_Frac_with_weight_all_1_of_weight_Valid_2 at hf
 refine WC.seq (WC.region ?_)
 refine sg 1 [] [0, 1] [(0, (sv Aa p0 ca)), (1, (.func (.func 68) #[] #[(pt ga)]))] (by kernel_rfl) ?_
 refine WL.done rfl (WX.next (WC.seq (WC.seq (WC.region ?_))))
 refine sg 3 [] [0, 1, 7, 8] [(0, (sv Aa p0 ca)), (1, (.func (.func 68) #[] #[(pt ga)])), (7, (iv (p0.length : Int))), (8, (iv 0))] (by kernel_rfl) ?_
 refine WL.done rfl (WX.next ?_)
 obtain ⟨x4, hx5, hf⟩ := bind_some hf
 let e1 : Nat × Value := (7, (iv (p0.length : Int)))
 let e3 : Nat × Value := (0, (sv Aa p0 ca))
 refine WC.cutN (T := Unit) (fun t => []) (fun t w1 => St NoS w w1 [rowR enc_Frac Aa ca p0, blk ga (.cells #[(.func (.func 41) #[] #[])] 65 (0, 0))] [] ∧ x4 = .inr t) (fun Kx4 => ?_) ?_
 ·
  refine WC.block ?_
  refine WC.loop (T := Int) (fun t => [e3, (1, (.func (.func 68) #[] #[(pt ga)])), e1, (8, (iv t))]) (fun n t w1 => St NoS w w1 [rowR enc_Frac Aa ca p0, blk ga (.cells #[(.func (.func 41) #[] #[])] 65 (0, 0))] [] ∧ slices_IndexFunc_api_Frac_api_Frac_with_weight_all_1_of_weight_Valid_2.l0 n t p0 = some x4) k 0 [0, 1, 7, 8] rfl ⟨(hS.subR [0, 1]).sub [] (by decide), hx5⟩ ?_
  rintro k6 x3 w7 ⟨hS8, hl9⟩
  let e2 := rdD p0 x3 z_Frac
  cases k6 with
  | zero => rw [slices_IndexFunc_api_Frac_api_Frac_with_weight_all_1_of_weight_Valid_2.l0] at hl9; cases hl9
  | succ k6 =>
   rw [slices_IndexFunc_api_Frac_api_Frac_with_weight_all_1_of_weight_Valid_2.l0] at hl9
   refine WC.seq (WC.region ?_)
   refine sg 1 [] [0, 1, 7, 8, 9] [e3, (1, (.func (.func 68) #[] #[(pt ga)])), e1, (8, (iv x3)), (9, (bv (decide (x3 < (p0.length : Int)))))] (by kernel_rfl) ?_
   refine WL.done rfl (WX.next (WC.seq ?_))
   rcases br_some hl9 with ⟨h10, hl9⟩ | ⟨h10, hl9⟩
   ·refine WC.condT2 (fun fb => by kernel_rfl) h10 ?_
    refine WC.skip (WX.next (WC.seq (WC.block (WC.seq (WC.region ?_)))))
    refine sg 2 [] [0, 1, 5, 7, 8] [e3, (1, (.func (.func 68) #[] #[(pt ga)])), (5, (iv x3)), e1, (8, (iv x3))] (by kernel_rfl) ?_
    refine WL.done rfl (WX.next (WC.seq (WC.region ?_)))
    refine sg 3 [] [0, 1, 5, 7, 8, 11, 12, 13] [e3, (1, (.func (.func 68) #[] #[(pt ga)])), (5, (iv x3)), e1, (8, (iv x3)), (11, (.func (.func 68) #[] #[(pt ga)])), (12, (sv Aa p0 ca)), (13, (iv x3))] (by kernel_rfl) ?_
    obtain ⟨h11, hl9⟩ := as_some hl9
    refine seg 5 [.v (iv (e2.Num)), .v (iv (e2.Den))] [0, 1, 5, 7, 8, 11, 15] [e3, (1, (.func (.func 68) #[] #[(pt ga)])), (5, (iv x3)), e1, (8, (iv x3)), (11, (.func (.func 68) #[] #[(pt ga)])), (15, (.agg #[(iv (e2.Num)), (iv (e2.Den))]))] [.idx Aa x3 p0.length, .cell ((adr Aa).add ((x3).toNat * 2)) (iv (e2.Num)), .cell (((adr Aa).add ((x3).toNat * 2)).add 1) (iv (e2.Den))] (fun fb => by kernel_rfl) rfl ⟨rowR.adr (hS8.rd 0).1 h11.1 h11.2, rowR.cell (hS8.rd 0).1 z_Frac h11.1 h11.2 0 rfl, rowR.cell (hS8.rd 0).1 z_Frac h11.1 h11.2 1 rfl, trivial⟩ ?_
    obtain ⟨t12, ht13, hl9⟩ := bind_some hl9
    refine WL.call (some 16) 68 #[(.agg #[(iv (e2.Num)), (iv (e2.Den))]), (pt ga)] (fun fb => by kernel_rfl) (weight_all_1_of_weight_Valid_2_calls e2 ga t12 _ (hS8.rd 1) ht13) (fun v w14 hR15 => ?_)
    obtain ⟨rfl, hk_⟩ := hR15
    have hS16 := hS8.keepN hk_
    refine ⟨trivial, ?_⟩
    refine WL.done rfl (WX.next ?_)
    rcases br_some hl9 with ⟨h17, hl9⟩ | ⟨h17, hl9⟩
    ·refine WC.condT2 (fun fb => by kernel_rfl) h17 ?_
     refine WC.seq (WC.region ?_)
     refine sg 2 [] [4] [(4, (iv x3))] (by kernel_rfl) ?_
     refine WL.done rfl (WX.next ?_)
     refine WC.ret ?_
     injection hl9 with hl9
     subst hl9
     injection hf with hf
     subst hf
     exact WX.blockR (WX.thenR (WX.thenR (WX.blockR (WX.thenR (WX.ret_ [] (iv x3) [] (fun fb => by kernel_rfl) trivial ⟨_, rfl, rfl, hS16.keep⟩)))))
    refine WC.condF2 (fun fb => by kernel_rfl) h17 ?_
    refine WC.skip ?_
    refine WX.blockN (WX.next ?_)
    refine WC.region ?_
    refine sg 2 [] [0, 1, 7, 8] [e3, (1, (.func (.func 68) #[] #[(pt ga)])), e1, (8, (iv (w64 (x3 + 1))))] (by kernel_rfl) ?_
    refine WL.done rfl ?_
    exact WX.again k6 (Nat.lt_succ_self _) (w64 (x3 + 1)) [0, 1, 7, 8] rfl ⟨(hS16.subR [0, 1]).sub [] (by decide), hl9⟩
   refine WC.condF2 (fun fb => by kernel_rfl) h10 ?_
   refine WC.exit ?_
   injection hl9 with hl9
   exact WX.thenX (WX.thenX (WX.blockHere (WX.to Kx4 () [] rfl ⟨(hS8.subR [0, 1]).sub [] (by decide), hl9.symm⟩)))
 rintro y21 w18 ⟨hS19, hq20⟩
 subst hq20
 have hf := sum_inr hf
 refine WX.next (WC.seq (WC.region ?_))
 refine sg 1 [] [4] [(4, (iv (-1)))] (by kernel_rfl) ?_
 refine WL.done rfl (WX.next ?_)
 refine WC.ret ?_
 injection hf with hf
 subst hf
 exact WX.ret_ [] (iv (-1)) [] (fun fb => by kernel_rfl) trivial ⟨_, rfl, rfl, hS19.keep⟩
theorem slices_ContainsFunc_api_Frac_api_Frac_with_weight_all_1_of_weight_Valid_2_calls (k : Nat) (p0 : List Frac) (Aa : Option Addr) (ca : Nat) (ga : Nat) (r : Bool) (w : World) (hR0 : RO NoS w (rowR enc_Frac Aa ca p0)) (hR1 : RO NoS w (blk ga (.cells #[(.func (.func 41) #[] #[])] 65 (0, 0)))) (hf : slices_ContainsFunc_api_Frac_api_Frac_with_weight_all_1_of_weight_Valid_2 k p0 = some r) :
  CallsR Tryz.prog 67 #[(sv Aa p0 ca), (.func (.func 68) #[] #[(pt ga)])] w (fun v w' => v = (bv r) ∧ Keeps NoS w w') := by
 have hS : St NoS w w [rowR enc_Frac Aa ca p0, blk ga (.cells #[(.func (.func 41) #[] #[])] 65 (0, 0))] [] := St.init (ro_cons hR0 (ro_cons hR1 (ro_nil _ _)))
 refine enter 9 Tryz.func67 rfl Tryz.ntmps67 rfl ?_
 unfold slices_ContainsFunc_api_Frac_api_Frac_with_weight_all_1_of_weight_Valid_2 at hf
 refine WC.seq (WC.region ?_)
 refine sg 1 [] [0, 1] [(0, (sv Aa p0 ca)), (1, (.func (.func 68) #[] #[(pt ga)]))] (by kernel_rfl) ?_
 refine WL.done rfl (WX.next (WC.seq (WC.region ?_)))
 refine sg 2 [] [5, 6] [(5, (sv Aa p0 ca)), (6, (.func (.func 68) #[] #[(pt ga)]))] (by kernel_rfl) ?_
 obtain ⟨t2, ht3, hf⟩ := bind_some hf
 refine WL.call (some 7) 88 #[(sv Aa p0 ca), (.func (.func 68) #[] #[(pt ga)])] (fun fb => by kernel_rfl) (slices_IndexFunc_api_Frac_api_Frac_with_weight_all_1_of_weight_Valid_2_calls _ p0 Aa ca ga t2 _ (hS.rd 0) (hS.rd 1) ht3) (fun v w4 hR5 => ?_)
 obtain ⟨rfl, hk_⟩ := hR5
 have hS6 := hS.keepN hk_
 refine ⟨trivial, ?_⟩
 refine sg 5 [] [4] [(4, (bv (decide (t2 ≥ 0))))] (by kernel_rfl) ?_
 refine WL.done rfl (WX.next ?_)
 refine WC.ret ?_
 injection hf with hf
 subst hf
 exact WX.ret_ [] (bv (decide (t2 ≥ 0))) [] (fun fb => by kernel_rfl) trivial ⟨_, rfl, rfl, hS6.keep⟩
theorem weight_all_with_weight_Valid_2_calls (k : Nat) (p0 : List Frac) (Aa : Option Addr) (ca : Nat) (r : Bool) (w : World) (hR0 : RO NoS w (rowR enc_Frac Aa ca p0)) (hf : weight_all_with_weight_Valid_2 k p0 = some r) :
  CallsR Tryz.prog 34 #[(sv Aa p0 ca), (.func (.func 41) #[] #[])] w (fun v w' => v = (bv r) ∧ Keeps NoS w w') := by
 have hS : St NoS w w [rowR enc_Frac Aa ca p0] [] := St.init (ro_cons hR0 (ro_nil _ _))
 refine enter 9 Tryz.func34 rfl Tryz.ntmps34 rfl ?_
 unfold weight_all_with_weight_Valid_2 at hf
 refine WC.seq (WC.region ?_)
 refine WL.new hS 3 [] (fun g => (pt g)) (.cells #[(.func (.func 41) #[] #[])] 65 (0, 0)) [] (fun fb g => by kernel_rfl) trivial (fun g3 w4 hS5 => ?_)
 refine ⟨trivial, ?_⟩
 refine sg 2 [] [0, 3] [(0, (sv Aa p0 ca)), (3, (pt g3))] (by kernel_rfl) ?_
 refine WL.done rfl (WX.next (WC.seq (WC.region ?_)))
 refine sg 2 [] [5, 6] [(5, (sv Aa p0 ca)), (6, (.func (.func 68) #[] #[(pt g3)]))] (by kernel_rfl) ?_
 obtain ⟨t6, ht7, hf⟩ := bind_some hf
 refine WL.call (some 7) 67 #[(sv Aa p0 ca), (.func (.func 68) #[] #[(pt g3)])] (fun fb => by kernel_rfl) (slices_ContainsFunc_api_Frac_api_Frac_with_weight_all_1_of_weight_Valid_2_calls _ p0 Aa ca g3 t6 _ (hS5.rd 0) (hS5.ow 0) ht7) (fun v w8 hR9 => ?_)
 obtain ⟨rfl, hk_⟩ := hR9
 have hS10 := hS5.keepN hk_
 refine ⟨trivial, ?_⟩
 refine sg 5 [] [4] [(4, (bv (!t6)))] (by kernel_rfl) ?_
 refine WL.done rfl (WX.next ?_)
 refine WC.ret ?_
 injection hf with hf
 subst hf
 exact WX.ret_ [] (bv (!t6)) [] (fun fb => by kernel_rfl) trivial ⟨_, rfl, rfl, hS10.keep⟩
theorem weight_prime_calls (k : Nat) (p0 : Int)  (r : Bool) (w : World)  (hf : weight_prime k p0 = some r) :
  CallsR Tryz.prog 42 #[(iv p0)] w (fun v w' => v = (bv r) ∧ Keeps NoS w w') := by
 have hS : St NoS w w [] [] := St.init (ro_nil _ _)
 refine enter 17 Tryz.func42 rfl Tryz.ntmps42 rfl ?_
 unfold weight_prime at hf
 refine WC.seq (WC.region ?_)
 refine sg 1 [] [0] [(0, (iv p0))] (by kernel_rfl) ?_
 refine WL.done rfl (WX.next (WC.seq (WC.seq (WC.region ?_))))
 refine sg 1 [] [0, 3] [(0, (iv p0)), (3, (iv 2))] (by kernel_rfl) ?_
 refine WL.done rfl (WX.next ?_)
 obtain ⟨x4, hx5, hf⟩ := bind_some hf
 refine WC.cutN (T := Unit) (fun t => [(0, (iv p0))]) (fun t w1 => St NoS w w1 [] [] ∧ x4 = .inr t) (fun Kx4 => ?_) ?_
 ·
  refine WC.block ?_
  refine WC.loop (T := Int) (fun t => [(0, (iv p0)), (3, (iv t))]) (fun n t w1 => St NoS w w1 [] [] ∧ weight_prime.l0 n t p0 = some x4) k 2 [0, 3] rfl ⟨(hS.subR []).sub [] (by decide), hx5⟩ ?_
  rintro k6 x3 w7 ⟨hS8, hl9⟩
  cases k6 with
  | zero => rw [weight_prime.l0] at hl9; cases hl9
  | succ k6 =>
   rw [weight_prime.l0] at hl9
   refine WC.seq (WC.seq (WC.region ?_))
   refine sg 5 [] [0, 3, 8] [(0, (iv p0)), (3, (iv x3)), (8, (bv (decide (w64 (x3 * x3) ≤ p0))))] (by kernel_rfl) ?_
   refine WL.done rfl (WX.next ?_)
   rcases br_some hl9 with ⟨h10, hl9⟩ | ⟨h10, hl9⟩
   ·refine WC.condT2 (fun fb => by kernel_rfl) h10 ?_
    refine WC.skip (WX.next (WC.seq (WC.block (WC.seq (WC.region ?_)))))
    refine sg 2 [] [0, 3, 11, 12] [(0, (iv p0)), (3, (iv x3)), (11, (iv p0)), (12, (iv x3))] (by kernel_rfl) ?_
    obtain ⟨h11, hl9⟩ := as_some hl9
    refine seg 4 [] [0, 3, 14] [(0, (iv p0)), (3, (iv x3)), (14, (bv ((Int.tmod p0 x3) == 0)))] [.ne x3] (fun fb => by kernel_rfl) rfl ⟨h11, trivial⟩ ?_
    refine WL.done rfl (WX.next ?_)
    rcases br_some hl9 with ⟨h12, hl9⟩ | ⟨h12, hl9⟩
    ·refine WC.condT2 (fun fb => by kernel_rfl) h12 ?_
     refine WC.seq (WC.region ?_)
     refine sg 1 [] [2] [(2, (bv false))] (by kernel_rfl) ?_
     refine WL.done rfl (WX.next ?_)
     refine WC.ret ?_
     injection hl9 with hl9
     subst hl9
     injection hf with hf
     subst hf
     exact WX.blockR (WX.thenR (WX.thenR (WX.blockR (WX.thenR (WX.ret_ [] (bv false) [] (fun fb => by kernel_rfl) trivial ⟨_, rfl, rfl, hS8.keep⟩)))))
    refine WC.condF2 (fun fb => by kernel_rfl) h12 ?_
    refine WC.skip ?_
    refine WX.blockN (WX.next ?_)
    refine WC.region ?_
    refine sg 3 [] [0, 3] [(0, (iv p0)), (3, (iv (w64 (x3 + 1))))] (by kernel_rfl) ?_
    refine WL.done rfl ?_
    exact WX.again k6 (Nat.lt_succ_self _) (w64 (x3 + 1)) [0, 3] rfl ⟨(hS8.subR []).sub [] (by decide), hl9⟩
   refine WC.condF2 (fun fb => by kernel_rfl) h10 ?_
   refine WC.exit ?_
   injection hl9 with hl9
   exact WX.thenX (WX.thenX (WX.blockHere (WX.to Kx4 () [0] rfl ⟨(hS8.subR []).sub [] (by decide), hl9.symm⟩)))
 rintro y16 w13 ⟨hS14, hq15⟩
 subst hq15
 have hf := sum_inr hf
 refine WX.next (WC.seq (WC.region ?_))
 refine sg 3 [] [2] [(2, (bv (decide (p0 ≥ 2))))] (by kernel_rfl) ?_
 refine WL.done rfl (WX.next ?_)
 refine WC.ret ?_
 injection hf with hf
 subst hf
 exact WX.ret_ [] (bv (decide (p0 ≥ 2))) [] (fun fb => by kernel_rfl) trivial ⟨_, rfl, rfl, hS14.keep⟩
theorem slices_Index_int_int_calls (k : Nat) (p0 : List Int) (p1 : Int) (Aa : Option Addr) (ca : Nat) (r : Int) (w : World) (hR0 : RO NoS w (rowR encInt Aa ca p0)) (hf : slices_Index_int_int k p0 p1 = some r) :
  CallsR Tryz.prog 70 #[(sv Aa p0 ca), (iv p1)] w (fun v w' => v = (iv r) ∧ Keeps NoS w w') := by
 have hS : St NoS w w [rowR encInt Aa ca p0] [] := St.init (ro_cons hR0 (ro_nil _ _))
 refine enter 19 Tryz.func70 rfl Tryz.ntmps70 rfl ?_
 unfold slices_Index_int_int at hf
 refine WC.seq (WC.region ?_)
 refine sg 1 [] [0, 1] [(0, (sv Aa p0 ca)), (1, (iv p1))] (by kernel_rfl) ?_
 refine WL.done rfl (WX.next (WC.seq (WC.seq (WC.region ?_))))
 refine sg 3 [] [0, 1, 7, 8] [(0, (sv Aa p0 ca)), (1, (iv p1)), (7, (iv (p0.length : Int))), (8, (iv 0))] (by kernel_rfl) ?_
 refine WL.done rfl (WX.next ?_)
 obtain ⟨x4, hx5, hf⟩ := bind_some hf
 let e1 : Nat × Value := (7, (iv (p0.length : Int)))
 let e2 : Nat × Value := (0, (sv Aa p0 ca))
 refine WC.cutN (T := Unit) (fun t => []) (fun t w1 => St NoS w w1 [rowR encInt Aa ca p0] [] ∧ x4 = .inr t) (fun Kx4 => ?_) ?_
 ·
  refine WC.block ?_
  refine WC.loop (T := Int) (fun t => [e2, (1, (iv p1)), e1, (8, (iv t))]) (fun n t w1 => St NoS w w1 [rowR encInt Aa ca p0] [] ∧ slices_Index_int_int.l0 n t p0 p1 = some x4) k 0 [0, 1, 7, 8] rfl ⟨(hS.subR [0]).sub [] (by decide), hx5⟩ ?_
  rintro k6 x3 w7 ⟨hS8, hl9⟩
  cases k6 with
  | zero => rw [slices_Index_int_int.l0] at hl9; cases hl9
  | succ k6 =>
   rw [slices_Index_int_int.l0] at hl9
   refine WC.seq (WC.region ?_)
   refine sg 1 [] [0, 1, 7, 8, 9] [e2, (1, (iv p1)), e1, (8, (iv x3)), (9, (bv (decide (x3 < (p0.length : Int)))))] (by kernel_rfl) ?_
   refine WL.done rfl (WX.next (WC.seq ?_))
   rcases br_some hl9 with ⟨h10, hl9⟩ | ⟨h10, hl9⟩
   ·refine WC.condT2 (fun fb => by kernel_rfl) h10 ?_
    refine WC.skip (WX.next (WC.seq (WC.block (WC.seq (WC.region ?_)))))
    refine sg 2 [] [0, 1, 5, 7, 8] [e2, (1, (iv p1)), (5, (iv x3)), e1, (8, (iv x3))] (by kernel_rfl) ?_
    refine WL.done rfl (WX.next (WC.seq (WC.region ?_)))
    refine sg 3 [] [0, 1, 5, 7, 8, 11, 12, 13] [e2, (1, (iv p1)), (5, (iv x3)), e1, (8, (iv x3)), (11, (iv p1)), (12, (sv Aa p0 ca)), (13, (iv x3))] (by kernel_rfl) ?_
    obtain ⟨h11, hl9⟩ := as_some hl9
    refine seg 6 [.v (iv (rdD p0 x3 0))] [0, 1, 5, 7, 8, 16] [e2, (1, (iv p1)), (5, (iv x3)), e1, (8, (iv x3)), (16, (bv (p1 == (rdD p0 x3 0))))] [.idx Aa x3 p0.length, .cell ((adr Aa).add ((x3).toNat * 1)) (iv (rdD p0 x3 0))] (fun fb => by kernel_rfl) rfl ⟨rowR.adr (hS8.rd 0).1 h11.1 h11.2, rowR.cell (hS8.rd 0).1 0 h11.1 h11.2 0 rfl, trivial⟩ ?_
    refine WL.done rfl (WX.next ?_)
    rcases br_some hl9 with ⟨h12, hl9⟩ | ⟨h12, hl9⟩
    ·refine WC.condT2 (fun fb => by kernel_rfl) h12 ?_
     refine WC.seq (WC.region ?_)
     refine sg 2 [] [4] [(4, (iv x3))] (by kernel_rfl) ?_
     refine WL.done rfl (WX.next ?_)
     refine WC.ret ?_
     injection hl9 with hl9
     subst hl9
     injection hf with hf
     subst hf
     exact WX.blockR (WX.thenR (WX.thenR (WX.blockR (WX.thenR (WX.ret_ [] (iv x3) [] (fun fb => by kernel_rfl) trivial ⟨_, rfl, rfl, hS8.keep⟩)))))
    refine WC.condF2 (fun fb => by kernel_rfl) h12 ?_
    refine WC.skip ?_
    refine WX.blockN (WX.next ?_)
    refine WC.region ?_
    refine sg 2 [] [0, 1, 7, 8] [e2, (1, (iv p1)), e1, (8, (iv (w64 (x3 + 1))))] (by kernel_rfl) ?_
    refine WL.done rfl ?_
    exact WX.again k6 (Nat.lt_succ_self _) (w64 (x3 + 1)) [0, 1, 7, 8] rfl ⟨(hS8.subR [0]).sub [] (by decide), hl9⟩
   refine WC.condF2 (fun fb => by kernel_rfl) h10 ?_
   refine WC.exit ?_
   injection hl9 with hl9
   exact WX.thenX (WX.thenX (WX.blockHere (WX.to Kx4 () [] rfl ⟨(hS8.subR [0]).sub [] (by decide), hl9.symm⟩)))
 rintro y16 w13 ⟨hS14, hq15⟩
 subst hq15
 have hf := sum_inr hf
 refine WX.next (WC.seq (WC.region ?_))
 refine sg 1 [] [4] [(4, (iv (-1)))] (by kernel_rfl) ?_
 refine WL.done rfl (WX.next ?_)
 refine WC.ret ?_
 injection hf with hf
 subst hf
 exact WX.ret_ [] (iv (-1)) [] (fun fb => by kernel_rfl) trivial ⟨_, rfl, rfl, hS14.keep⟩
theorem slices_Contains_int_int_calls (k : Nat) (p0 : List Int) (p1 : Int) (Aa : Option Addr) (ca : Nat) (r : Bool) (w : World) (hR0 : RO NoS w (rowR encInt Aa ca p0)) (hf : slices_Contains_int_int k p0 p1 = some r) :
  CallsR Tryz.prog 43 #[(sv Aa p0 ca), (iv p1)] w (fun v w' => v = (bv r) ∧ Keeps NoS w w') := by
 have hS : St NoS w w [rowR encInt Aa ca p0] [] := St.init (ro_cons hR0 (ro_nil _ _))
 refine enter 9 Tryz.func43 rfl Tryz.ntmps43 rfl ?_
 unfold slices_Contains_int_int at hf
 refine WC.seq (WC.region ?_)
 refine sg 1 [] [0, 1] [(0, (sv Aa p0 ca)), (1, (iv p1))] (by kernel_rfl) ?_
 refine WL.done rfl (WX.next (WC.seq (WC.region ?_)))
 refine sg 2 [] [5, 6] [(5, (sv Aa p0 ca)), (6, (iv p1))] (by kernel_rfl) ?_
 obtain ⟨t2, ht3, hf⟩ := bind_some hf
 refine WL.call (some 7) 70 #[(sv Aa p0 ca), (iv p1)] (fun fb => by kernel_rfl) (slices_Index_int_int_calls _ p0 p1 Aa ca t2 _ (hS.rd 0) ht3) (fun v w4 hR5 => ?_)
 obtain ⟨rfl, hk_⟩ := hR5
 have hS6 := hS.keepN hk_
 refine ⟨trivial, ?_⟩
 refine sg 5 [] [4] [(4, (bv (decide (t2 ≥ 0))))] (by kernel_rfl) ?_
 refine WL.done rfl (WX.next ?_)
 refine WC.ret ?_
 injection hf with hf
 subst hf
 exact WX.ret_ [] (bv (decide (t2 ≥ 0))) [] (fun fb => by kernel_rfl) trivial ⟨_, rfl, rfl, hS6.keep⟩
theorem weight_Valid_calls (k : Nat) (p0 : List Tile) (p1 : Weights) (Aa : Option Addr) (ca : Nat) (Ab : Option Addr) (cb : Nat) (Ac : Option Addr) (cc : Nat) (Ad : Option Addr) (cd : Nat) (Ae : Option Addr) (ce : Nat) (Af : Option Addr) (cf : Nat) (r : Bool) (w : World) (hR0 : RO NoS w (rowR enc_Tile Aa ca p0)) (hR1 : RO NoS w (rowR enc_Frac Ab cb p1.Values)) (hR2 : RO NoS w (rowR enc_Frac Ac cc p1.Carries)) (hR3 : RO NoS w (rowR enc_Frac Ad cd p1.Factors)) (hR4 : RO NoS w (rowR encInt Ae ce p1.Primes)) (hR5 : RO NoS w (rowR encInt Af cf p1.Logs)) (hf : weight_Valid k p0 p1 = some r) :
  CallsR Tryz.prog 12 #[(sv Aa p0 ca), (.agg #[(sv Ab p1.Values cb), (sv Ac p1.Carries cc), (sv Ad p1.Factors cd), (sv Ae p1.Primes ce), (sv Af p1.Logs cf)])] w (fun v w' => v = (bv r) ∧ Keeps NoS w w') := by
 have hS : St NoS w w [rowR enc_Tile Aa ca p0, rowR enc_Frac Ab cb p1.Values, rowR enc_Frac Ac cc p1.Carries, rowR enc_Frac Ad cd p1.Factors, rowR encInt Ae ce p1.Primes, rowR encInt Af cf p1.Logs] [] := St.init (ro_cons hR0 (ro_cons hR1 (ro_cons hR2 (ro_cons hR3 (ro_cons hR4 (ro_cons hR5 (ro_nil _ _)))))))
 refine enter 122 Tryz.func12 rfl Tryz.ntmps12 rfl ?_
 unfold weight_Valid at hf
 refine WC.seq (WC.region ?_)
 refine WL.new hS 3 [] (fun g => (pt g)) (.cells #[(sv Ab p1.Values cb), (sv Ac p1.Carries cc), (sv Ad p1.Factors cd), (sv Ae p1.Primes ce), (sv Af p1.Logs cf)] 26 (0, 0)) [] (fun fb g => by kernel_rfl) trivial (fun g6 w7 hS8 => ?_)
 refine ⟨trivial, ?_⟩
 refine sg 2 [] [0, 3] [(0, (sv Aa p0 ca)), (3, (pt g6))] (by kernel_rfl) ?_
 refine WL.done rfl (WX.next (WC.seq (WC.seq (WC.region ?_))))
 refine sg 1 [] [0, 3, 9] [(0, (sv Aa p0 ca)), (3, (pt g6)), (9, (sv Aa p0 ca))] (by kernel_rfl) ?_
 obtain ⟨t9, ht10, hf⟩ := bind_some hf
 refine WL.call (some 10) 37 #[(sv Aa p0 ca)] (fun fb => by kernel_rfl) (tile_Valid_calls _ p0 Aa ca t9 _ (hS8.rd 0) ht10) (fun v w11 hR13 => ?_)
 obtain ⟨rfl, hk_⟩ := hR13
 have hS14 := hS8.keepN hk_
 refine ⟨trivial, ?_⟩
 refine sg 3 [] [0, 3, 11] [(0, (sv Aa p0 ca)), (3, (pt g6)), (11, (bv (!t9)))] (by kernel_rfl) ?_
 refine WL.done rfl (WX.next ?_)
 rcases br_some hf with ⟨h15, hf⟩ | ⟨h15, hf⟩
 ·refine WC.condT2 (fun fb => by kernel_rfl) h15 ?_
  refine WC.seq (WC.region ?_)
  refine sg 1 [] [4] [(4, (bv false))] (by kernel_rfl) ?_
  refine WL.done rfl (WX.next ?_)
  refine WC.ret ?_
  injection hf with hf
  subst hf
  exact WX.thenR (WX.ret_ [] (bv false) [] (fun fb => by kernel_rfl) trivial ⟨_, rfl, rfl, hS14.keep⟩)
 refine WC.condF2 (fun fb => by kernel_rfl) h15 ?_
 refine WC.skip (WX.next (WC.seq (WC.region ?_)))
 refine sg 1 [] [0, 3, 13] [(0, (sv Aa p0 ca)), (3, (pt g6)), (13, (sv Aa p0 ca))] (by kernel_rfl) ?_
 obtain ⟨t16, ht17, hf⟩ := bind_some hf
 refine WL.call (some 14) 38 #[(sv Aa p0 ca)] (fun fb => by kernel_rfl) (weight_needed_calls _ p0 Aa ca t16 _ (hS14.rd 0) ht17) (fun v w18 hR19 => ?_)
 obtain ⟨rfl, hk_⟩ := hR19
 have hS20 := hS14.keepN hk_
 refine ⟨trivial, ?_⟩
 refine sg 7 [] [0, 3, 5, 6] [(0, (sv Aa p0 ca)), (3, (pt g6)), (5, (iv t16.1)), (6, (iv t16.2))] (by kernel_rfl) ?_
 refine WL.done rfl (WX.next (WC.seq (WC.seq (WC.region ?_))))
 refine seg 6 [.v (sv Ab p1.Values cb)] [0, 3, 6, 22] [(0, (sv Aa p0 ca)), (3, (pt g6)), (6, (iv t16.2)), (22, (bv ((p1.Values.length : Int) != t16.1)))] [.cell ⟨g6, 0, none⟩ (sv Ab p1.Values cb)] (fun fb => by kernel_rfl) rfl ⟨hS20.cell 0 rfl 0 rfl, trivial⟩ ?_
 refine WL.cutV (T := Bool) 12 (fun t => [(28, (bv t)), (0, (sv Aa p0 ca)), (3, (pt g6))]) (fun t => (((p1.Values.length : Int) != t16.1) || ((p1.Carries.length : Int) != t16.2)) = t) (fun K => ?_) ?_
 ·
  rcases Bool.eq_false_or_eq_true ((p1.Values.length : Int) != t16.1) with h21 | h21
  ·
   refine WL.setB 22 h21 rfl ?_
   refine sg 12 [] [0, 3, 28] [(0, (sv Aa p0 ca)), (3, (pt g6)), (28, (bv true))] (by kernel_rfl) ?_
   exact WL.toV K true [28, 0, 3] rfl (by first | (rw [h21]; done) | (rw [h21]; rfl))
  refine WL.setB 22 h21 rfl ?_
  refine seg 12 [.v (sv Ac p1.Carries cc)] [0, 3, 28] [(0, (sv Aa p0 ca)), (3, (pt g6)), (28, (bv ((p1.Carries.length : Int) != t16.2)))] [.cell ⟨g6, 1, none⟩ (sv Ac p1.Carries cc)] (fun fb => by kernel_rfl) rfl ⟨hS20.cell 0 rfl 1 rfl, trivial⟩ ?_
  exact WL.toV K ((p1.Carries.length : Int) != t16.2) [28, 0, 3] rfl (by first | (rw [h21]; done) | (rw [h21]; rfl))
 rintro b22 rfl
 refine sg 13 [] [0, 3, 29] [(0, (sv Aa p0 ca)), (3, (pt g6)), (29, (bv (((p1.Values.length : Int) != t16.1) || ((p1.Carries.length : Int) != t16.2))))] (by kernel_rfl) ?_
 refine WL.cutV (T := Bool) 20 (fun t => [(36, (bv t)), (3, (pt g6))]) (fun t => ((((p1.Values.length : Int) != t16.1) || ((p1.Carries.length : Int) != t16.2)) || ((p1.Factors.length : Int) != (p0.length : Int))) = t) (fun K => ?_) ?_
 ·
  rcases Bool.eq_false_or_eq_true (((p1.Values.length : Int) != t16.1) || ((p1.Carries.length : Int) != t16.2)) with h23 | h23
  ·
   refine WL.setB 29 h23 rfl ?_
   refine sg 20 [] [3, 36] [(3, (pt g6)), (36, (bv true))] (by kernel_rfl) ?_
   exact WL.toV K true [36, 3] rfl (by first | (rw [h23]; done) | (rw [h23]; rfl))
  refine WL.setB 29 h23 rfl ?_
  refine seg 20 [.v (sv Ad p1.Factors cd)] [3, 36] [(3, (pt g6)), (36, (bv ((p1.Factors.length : Int) != (p0.length : Int))))] [.cell ⟨g6, 2, none⟩ (sv Ad p1.Factors cd)] (fun fb => by kernel_rfl) rfl ⟨hS20.cell 0 rfl 2 rfl, trivial⟩ ?_
  exact WL.toV K ((p1.Factors.length : Int) != (p0.length : Int)) [36, 3] rfl (by first | (rw [h23]; done) | (rw [h23]; rfl))
 rintro b24 rfl
 refine sg 21 [] [3, 37] [(3, (pt g6)), (37, (bv ((((p1.Values.length : Int) != t16.1) || ((p1.Carries.length : Int) != t16.2)) || ((p1.Factors.length : Int) != (p0.length : Int)))))] (by kernel_rfl) ?_
 refine WL.cutV (T := Bool) 26 (fun t => [(42, (bv t)), (3, (pt g6))]) (fun t => (((((p1.Values.length : Int) != t16.1) || ((p1.Carries.length : Int) != t16.2)) || ((p1.Factors.length : Int) != (p0.length : Int))) || (decide ((p1.Primes.length : Int) > 12))) = t) (fun K => ?_) ?_
 ·
  rcases Bool.eq_false_or_eq_true ((((p1.Values.length : Int) != t16.1) || ((p1.Carries.length : Int) != t16.2)) || ((p1.Factors.length : Int) != (p0.length : Int))) with h25 | h25
  ·
   refine WL.setB 37 h25 rfl ?_
   refine sg 26 [] [3, 42] [(3, (pt g6)), (42, (bv true))] (by kernel_rfl) ?_
   exact WL.toV K true [42, 3] rfl (by first | (rw [h25]; done) | (rw [h25]; rfl))
  refine WL.setB 37 h25 rfl ?_
  refine seg 26 [.v (sv Ae p1.Primes ce)] [3, 42] [(3, (pt g6)), (42, (bv (decide ((p1.Primes.length : Int) > 12))))] [.cell ⟨g6, 3, none⟩ (sv Ae p1.Primes ce)] (fun fb => by kernel_rfl) rfl ⟨hS20.cell 0 rfl 3 rfl, trivial⟩ ?_
  exact WL.toV K (decide ((p1.Primes.length : Int) > 12)) [42, 3] rfl (by first | (rw [h25]; done) | (rw [h25]; rfl))
 rintro b26 rfl
 refine sg 27 [] [3, 43] [(3, (pt g6)), (43, (bv (((((p1.Values.length : Int) != t16.1) || ((p1.Carries.length : Int) != t16.2)) || ((p1.Factors.length : Int) != (p0.length : Int))) || (decide ((p1.Primes.length : Int) > 12)))))] (by kernel_rfl) ?_
 let e16 := (p1.Primes.length : Int)
 refine WL.cutV (T := Bool) 35 (fun t => [(51, (bv t)), (3, (pt g6))]) (fun t => ((((((p1.Values.length : Int) != t16.1) || ((p1.Carries.length : Int) != t16.2)) || ((p1.Factors.length : Int) != (p0.length : Int))) || (decide (e16 > 12))) || ((p1.Logs.length : Int) != e16)) = t) (fun K => ?_) ?_
 ·
  rcases Bool.eq_false_or_eq_true (((((p1.Values.length : Int) != t16.1) || ((p1.Carries.length : Int) != t16.2)) || ((p1.Factors.length : Int) != (p0.length : Int))) || (decide (e16 > 12))) with h27 | h27
  ·
   refine WL.setB 43 h27 rfl ?_
   refine sg 35 [] [3, 51] [(3, (pt g6)), (51, (bv true))] (by kernel_rfl) ?_
   exact WL.toV K true [51, 3] rfl (by first | (rw [h27]; done) | (rw [h27]; rfl))
  refine WL.setB 43 h27 rfl ?_
  refine seg 35 [.v (sv Af p1.Logs cf), .v (sv Ae p1.Primes ce)] [3, 51] [(3, (pt g6)), (51, (bv ((p1.Logs.length : Int) != e16)))] [.cell ⟨g6, 4, none⟩ (sv Af p1.Logs cf), .cell ⟨g6, 3, none⟩ (sv Ae p1.Primes ce)] (fun fb => by kernel_rfl) rfl ⟨hS20.cell 0 rfl 4 rfl, hS20.cell 0 rfl 3 rfl, trivial⟩ ?_
  exact WL.toV K ((p1.Logs.length : Int) != (p1.Primes.length : Int)) [51, 3] rfl (by first | (rw [h27]; done) | (rw [h27]; rfl))
 rintro b28 rfl
 refine WL.done rfl (WX.next ?_)
 rcases br_some hf with ⟨h29, hf⟩ | ⟨h29, hf⟩
 ·refine WC.condT2 (fun fb => by kernel_rfl) h29 ?_
  refine WC.seq (WC.region ?_)
  refine sg 1 [] [4] [(4, (bv false))] (by kernel_rfl) ?_
  refine WL.done rfl (WX.next ?_)
  refine WC.ret ?_
  injection hf with hf
  subst hf
  exact WX.thenR (WX.ret_ [] (bv false) [] (fun fb => by kernel_rfl) trivial ⟨_, rfl, rfl, hS20.keep⟩)
 refine WC.condF2 (fun fb => by kernel_rfl) h29 ?_
 refine WC.skip (WX.next (WC.seq (WC.seq (WC.region ?_))))
 refine seg 2 [.v (sv Ab p1.Values cb)] [3, 53] [(3, (pt g6)), (53, (sv Ab p1.Values cb))] [.cell ⟨g6, 0, none⟩ (sv Ab p1.Values cb)] (fun fb => by kernel_rfl) rfl ⟨hS20.cell 0 rfl 0 rfl, trivial⟩ ?_
 obtain ⟨t30, ht31, hf⟩ := bind_some hf
 refine WL.call (some 54) 34 #[(sv Ab p1.Values cb), (.func (.func 39) #[] #[])] (fun fb => by kernel_rfl) (weight_all_with_weight_fraction_valid_calls _ p1.Values Ab cb t30 _ (hS20.rd 1) ht31) (fun v w32 hR33 => ?_)
 obtain ⟨rfl, hk_⟩ := hR33
 have hS34 := hS20.keepN hk_
 refine ⟨trivial, ?_⟩
 refine sg 5 [] [3, 56] [(3, (pt g6)), (56, (bv (!t30)))] (by kernel_rfl) ?_
 obtain ⟨x35, hx36, hf⟩ := bind_some hf
 let e13 := sv Ac p1.Carries cc
 refine WL.cutW (T := Bool) 10 (fun t => [(3, (pt g6)), (61, (bv t))]) (fun t w1 => (St NoS w w1 [rowR enc_Tile Aa ca p0, rowR enc_Frac Ab cb p1.Values, rowR enc_Frac Ac cc p1.Carries, rowR enc_Frac Ad cd p1.Factors, rowR encInt Ae ce p1.Primes, rowR encInt Af cf p1.Logs] [blk g6 (.cells #[(sv Ab p1.Values cb), e13, (sv Ad p1.Factors cd), (sv Ae p1.Primes ce), (sv Af p1.Logs cf)] 26 (0, 0))] ∧ x35 = t) ∧ CellsOK [] w1) (fun K => ?_) ?_
 ·
  rcases br_some hx36 with ⟨h37, hx36⟩ | ⟨h37, hx36⟩
  ·
   refine WL.setB 56 h37 rfl ?_
   refine sg 10 [] [3, 61] [(3, (pt g6)), (61, (bv true))] (by kernel_rfl) ?_
   injection hx36 with hx36
   exact WL.to K true [3, 61] rfl ⟨⟨(hS34.subR [0, 1, 2, 3, 4, 5]).sub [0] (by decide), hx36.symm⟩, trivial⟩
  refine WL.setB 56 h37 rfl ?_
  refine seg 7 [.v e13] [3, 56, 58] [(3, (pt g6)), (56, (bv false)), (58, e13)] [.cell ⟨g6, 1, none⟩ e13] (fun fb => by kernel_rfl) rfl ⟨hS34.cell 0 rfl 1 rfl, trivial⟩ ?_
  obtain ⟨t38, ht39, hx36⟩ := bind_some hx36
  refine WL.call (some 59) 34 #[e13, (.func (.func 39) #[] #[])] (fun fb => by kernel_rfl) (weight_all_with_weight_fraction_valid_calls _ p1.Carries Ac cc t38 _ (hS34.rd 2) ht39) (fun v w40 hR41 => ?_)
  obtain ⟨rfl, hk_⟩ := hR41
  have hS42 := hS34.keepN hk_
  refine ⟨trivial, ?_⟩
  refine sg 10 [] [3, 61] [(3, (pt g6)), (61, (bv (!t38)))] (by kernel_rfl) ?_
  injection hx36 with hx36
  exact WL.to K (!t38) [3, 61] rfl ⟨⟨(hS42.subR [0, 1, 2, 3, 4, 5]).sub [0] (by decide), hx36.symm⟩, trivial⟩
 rintro y43 w45 ⟨⟨hS46, hq44⟩, hF47⟩
 subst hq44
 refine sg 11 [] [3, 62] [(3, (pt g6)), (62, (bv x35))] (by kernel_rfl) ?_
 obtain ⟨x48, hx49, hf⟩ := bind_some hf
 let e14 := sv Ad p1.Factors cd
 refine WL.cutW (T := Bool) 16 (fun t => [(3, (pt g6)), (67, (bv t))]) (fun t w1 => (St NoS w w1 [rowR enc_Tile Aa ca p0, rowR enc_Frac Ab cb p1.Values, rowR enc_Frac Ac cc p1.Carries, rowR enc_Frac Ad cd p1.Factors, rowR encInt Ae ce p1.Primes, rowR encInt Af cf p1.Logs] [blk g6 (.cells #[(sv Ab p1.Values cb), e13, e14, (sv Ae p1.Primes ce), (sv Af p1.Logs cf)] 26 (0, 0))] ∧ x48 = t) ∧ CellsOK [] w1) (fun K => ?_) ?_
 ·
  rcases br_some hx49 with ⟨h50, hx49⟩ | ⟨h50, hx49⟩
  ·
   refine WL.setB 62 h50 rfl ?_
   refine sg 16 [] [3, 67] [(3, (pt g6)), (67, (bv true))] (by kernel_rfl) ?_
   injection hx49 with hx49
   exact WL.to K true [3, 67] rfl ⟨⟨(hS46.subR [0, 1, 2, 3, 4, 5]).sub [0] (by decide), hx49.symm⟩, trivial⟩
  refine WL.setB 62 h50 rfl ?_
  refine seg 13 [.v e14] [3, 62, 64] [(3, (pt g6)), (62, (bv false)), (64, e14)] [.cell ⟨g6, 2, none⟩ e14] (fun fb => by kernel_rfl) rfl ⟨hS46.cell 0 rfl 2 rfl, trivial⟩ ?_
  obtain ⟨t51, ht52, hx49⟩ := bind_some hx49
  refine WL.call (some 65) 34 #[e14, (.func (.func 39) #[] #[])] (fun fb => by kernel_rfl) (weight_all_with_weight_fraction_valid_calls _ p1.Factors Ad cd t51 _ (hS46.rd 3) ht52) (fun v w53 hR54 => ?_)
  obtain ⟨rfl, hk_⟩ := hR54
  have hS55 := hS46.keepN hk_
  refine ⟨trivial, ?_⟩
  refine sg 16 [] [3, 67] [(3, (pt g6)), (67, (bv (!t51)))] (by kernel_rfl) ?_
  injection hx49 with hx49
  exact WL.to K (!t51) [3, 67] rfl ⟨⟨(hS55.subR [0, 1, 2, 3, 4, 5]).sub [0] (by decide), hx49.symm⟩, trivial⟩
 rintro y56 w58 ⟨⟨hS59, hq57⟩, hF60⟩
 subst hq57
 refine WL.done rfl (WX.next ?_)
 rcases br_some hf with ⟨h61, hf⟩ | ⟨h61, hf⟩
 ·refine WC.condT2 (fun fb => by kernel_rfl) h61 ?_
  refine WC.seq (WC.region ?_)
  refine sg 1 [] [4] [(4, (bv false))] (by kernel_rfl) ?_
  refine WL.done rfl (WX.next ?_)
  refine WC.ret ?_
  injection hf with hf
  subst hf
  exact WX.thenR (WX.ret_ [] (bv false) [] (fun fb => by kernel_rfl) trivial ⟨_, rfl, rfl, hS59.keep⟩)
 refine WC.condF2 (fun fb => by kernel_rfl) h61 ?_
 refine WC.skip (WX.next (WC.seq (WC.seq (WC.region ?_))))
 refine seg 2 [.v (sv Ab p1.Values cb)] [3, 69] [(3, (pt g6)), (69, (sv Ab p1.Values cb))] [.cell ⟨g6, 0, none⟩ (sv Ab p1.Values cb)] (fun fb => by kernel_rfl) rfl ⟨hS59.cell 0 rfl 0 rfl, trivial⟩ ?_
 obtain ⟨t62, ht63, hf⟩ := bind_some hf
 refine WL.call (some 70) 34 #[(sv Ab p1.Values cb), (.func (.func 40) #[] #[])] (fun fb => by kernel_rfl) (weight_all_with_weight_Valid_1_calls _ p1.Values Ab cb t62 _ (hS59.rd 1) ht63) (fun v w65 hR66 => ?_)
 obtain ⟨rfl, hk_⟩ := hR66
 have hS67 := hS59.keepN hk_
 refine ⟨trivial, ?_⟩
 refine sg 5 [] [3, 72] [(3, (pt g6)), (72, (bv (!t62)))] (by kernel_rfl) ?_
 obtain ⟨x68, hx69, hf⟩ := bind_some hf
 refine WL.cutW (T := Bool) 10 (fun t => [(3, (pt g6)), (77, (bv t))]) (fun t w1 => (St NoS w w1 [rowR enc_Tile Aa ca p0, rowR enc_Frac Ab cb p1.Values, rowR enc_Frac Ac cc p1.Carries, rowR enc_Frac Ad cd p1.Factors, rowR encInt Ae ce p1.Primes, rowR encInt Af cf p1.Logs] [blk g6 (.cells #[(sv Ab p1.Values cb), e13, e14, (sv Ae p1.Primes ce), (sv Af p1.Logs cf)] 26 (0, 0))] ∧ x68 = t) ∧ CellsOK [] w1) (fun K => ?_) ?_
 ·
  rcases br_some hx69 with ⟨h70, hx69⟩ | ⟨h70, hx69⟩
  ·
   refine WL.setB 72 h70 rfl ?_
   refine sg 10 [] [3, 77] [(3, (pt g6)), (77, (bv true))] (by kernel_rfl) ?_
   injection hx69 with hx69
   exact WL.to K true [3, 77] rfl ⟨⟨(hS67.subR [0, 1, 2, 3, 4, 5]).sub [0] (by decide), hx69.symm⟩, trivial⟩
  refine WL.setB 72 h70 rfl ?_
  refine seg 7 [.v e14] [3, 72, 74] [(3, (pt g6)), (72, (bv false)), (74, e14)] [.cell ⟨g6, 2, none⟩ e14] (fun fb => by kernel_rfl) rfl ⟨hS67.cell 0 rfl 2 rfl, trivial⟩ ?_
  obtain ⟨t71, ht72, hx69⟩ := bind_some hx69
  refine WL.call (some 75) 34 #[e14, (.func (.func 41) #[] #[])] (fun fb => by kernel_rfl) (weight_all_with_weight_Valid_2_calls _ p1.Factors Ad cd t71 _ (hS67.rd 3) ht72) (fun v w73 hR74 => ?_)
  obtain ⟨rfl, hk_⟩ := hR74
  have hS75 := hS67.keepN hk_
  refine ⟨trivial, ?_⟩
  refine sg 10 [] [3, 77] [(3, (pt g6)), (77, (bv (!t71)))] (by kernel_rfl) ?_
  injection hx69 with hx69
  exact WL.to K (!t71) [3, 77] rfl ⟨⟨(hS75.subR [0, 1, 2, 3, 4, 5]).sub [0] (by decide), hx69.symm⟩, trivial⟩
 rintro y76 w78 ⟨⟨hS79, hq77⟩, hF80⟩
 subst hq77
 refine WL.done rfl (WX.next ?_)
 rcases br_some hf with ⟨h81, hf⟩ | ⟨h81, hf⟩
 ·refine WC.condT2 (fun fb => by kernel_rfl) h81 ?_
  refine WC.seq (WC.region ?_)
  refine sg 1 [] [4] [(4, (bv false))] (by kernel_rfl) ?_
  refine WL.done rfl (WX.next ?_)
  refine WC.ret ?_
  injection hf with hf
  subst hf
  exact WX.thenR (WX.ret_ [] (bv false) [] (fun fb => by kernel_rfl) trivial ⟨_, rfl, rfl, hS79.keep⟩)
 refine WC.condF2 (fun fb => by kernel_rfl) h81 ?_
 refine WC.skip (WX.next (WC.seq (WC.seq (WC.region ?_))))
 refine seg 4 [.v (sv Ae p1.Primes ce)] [3, 79, 80, 81] [(3, (pt g6)), (79, (sv Ae p1.Primes ce)), (80, (iv e16)), (81, (iv 0))] [.cell ⟨g6, 3, none⟩ (sv Ae p1.Primes ce)] (fun fb => by kernel_rfl) rfl ⟨hS79.cell 0 rfl 3 rfl, trivial⟩ ?_
 refine WL.done rfl (WX.next ?_)
 obtain ⟨x83, hx84, hf⟩ := bind_some hf
 let e1 : Nat × Value := (80, (iv e16))
 let e2 : Nat × Value := (79, (sv Ae p1.Primes ce))
 let e3 : List Own := [rowR enc_Tile Aa ca p0, rowR enc_Frac Ab cb p1.Values, rowR enc_Frac Ac cc p1.Carries, rowR enc_Frac Ad cd p1.Factors, rowR encInt Ae ce p1.Primes, rowR encInt Af cf p1.Logs]
 let e5 : Nat × Value := (3, (pt g6))
 let e7 : Array Value := #[(sv Ab p1.Values cb), e13, e14, (sv Ae p1.Primes ce), (sv Af p1.Logs cf)]
 let e11 : List Nat := [0, 1, 2, 3, 4, 5]
 let e12 := sv Af p1.Logs cf
 let e15 : List Nat := [3, 7, 8, 79, 80, 81, 96]
 let e17 : List Nat := [3, 7, 79, 80, 81, 104]
 let e18 := (subA Ae ce (0 : Int).toNat 1)
 refine WC.cutN (T := Unit) (fun t => []) (fun t w1 => St NoS w w1 e3 [] ∧ x83 = .inr t) (fun Kx83 => ?_) ?_
 ·
  refine WC.block ?_
  refine WC.loop (T := Int) (fun t => [e5, e2, e1, (81, (iv t))]) (fun n t w1 => St NoS w w1 e3 [blk g6 (.cells e7 26 (0, 0))] ∧ weight_Valid.l0 n t p1 = some x83) k 0 [3, 79, 80, 81] rfl ⟨(hS79.subR e11).sub [0] (by decide), hx84⟩ ?_
  rintro k85 x82 w86 ⟨hS87, hl88⟩
  let e4 : Nat × Value := (81, (iv x82))
  let e6 : Nat × Value := (7, (iv x82))
  let e10 := (sv e18 (cut p1.Primes (0 : Int) x82) (ce - (0 : Int).toNat))
  cases k85 with
  | zero => rw [weight_Valid.l0] at hl88; cases hl88
  | succ k85 =>
   rw [weight_Valid.l0] at hl88
   refine WC.seq (WC.region ?_)
   refine sg 1 [] [3, 79, 80, 81, 82] [e5, e2, e1, e4, (82, (bv (decide (x82 < e16))))] (by kernel_rfl) ?_
   refine WL.done rfl (WX.next (WC.seq ?_))
   rcases br_some hl88 with ⟨h89, hl88⟩ | ⟨h89, hl88⟩
   ·refine WC.condT2 (fun fb => by kernel_rfl) h89 ?_
    refine WC.skip (WX.next (WC.seq (WC.block (WC.seq (WC.region ?_)))))
    refine sg 1 [] [3, 79, 80, 81, 83] [e5, e2, e1, e4, (83, (iv x82))] (by kernel_rfl) ?_
    obtain ⟨h90, hl88⟩ := as_some hl88
    refine seg 5 [.v (iv (rdD p1.Primes x82 0))] [3, 7, 8, 79, 80, 81] [e5, e6, (8, (iv (rdD p1.Primes x82 0))), e2, e1, e4] [.idx Ae x82 p1.Primes.length, .cell ((adr Ae).add ((x82).toNat * 1)) (iv (rdD p1.Primes x82 0))] (fun fb => by kernel_rfl) rfl ⟨rowR.adr (hS87.rd 4).1 h90.1 h90.2, rowR.cell (hS87.rd 4).1 0 h90.1 h90.2 0 rfl, trivial⟩ ?_
    refine WL.done rfl (WX.next (WC.seq (WC.region ?_)))
    refine sg 3 [] [3, 7, 8, 79, 80, 81, 88] [e5, e6, (8, (iv (rdD p1.Primes x82 0))), e2, e1, e4, (88, (bv (decide ((rdD p1.Primes x82 0) < 2))))] (by kernel_rfl) ?_
    let e9 := rdD p1.Primes x82 0
    refine WL.cutV (T := Bool) 6 (fun t => [(91, (bv t)), e5, e6, (8, (iv e9)), e2, e1, e4]) (fun t => ((decide (e9 < 2)) || (decide (e9 > 1000000))) = t) (fun K => ?_) ?_
    ·
     rcases Bool.eq_false_or_eq_true (decide (e9 < 2)) with h91 | h91
     ·
      refine WL.setB 88 h91 rfl ?_
      refine sg 6 [] [3, 7, 8, 79, 80, 81, 91] [e5, e6, (8, (iv e9)), e2, e1, e4, (91, (bv true))] (by kernel_rfl) ?_
      exact WL.toV K true [91, 3, 7, 8, 79, 80, 81] rfl (by first | (rw [h91]; done) | (rw [h91]; rfl))
     refine WL.setB 88 h91 rfl ?_
     refine sg 6 [] [3, 7, 8, 79, 80, 81, 91] [e5, e6, (8, (iv e9)), e2, e1, e4, (91, (bv (decide (e9 > 1000000))))] (by kernel_rfl) ?_
     exact WL.toV K (decide ((rdD p1.Primes x82 0) > 1000000)) [91, 3, 7, 8, 79, 80, 81] rfl (by first | (rw [h91]; done) | (rw [h91]; rfl))
    rintro b92 rfl
    refine sg 7 [] [3, 7, 8, 79, 80, 81, 92] [e5, e6, (8, (iv e9)), e2, e1, e4, (92, (bv ((decide (e9 < 2)) || (decide (e9 > 1000000)))))] (by kernel_rfl) ?_
    obtain ⟨x93, hx94, hl88⟩ := bind_some hl88
    let e8 := iv e9
    refine WL.cutW (T := Bool) 11 (fun t => [e5, e6, (8, e8), e2, e1, e4, (96, (bv t))]) (fun t w1 => (St NoS w w1 e3 [blk g6 (.cells e7 26 (0, 0))] ∧ x93 = t) ∧ CellsOK [] w1) (fun K => ?_) ?_
    ·
     rcases br_some hx94 with ⟨h95, hx94⟩ | ⟨h95, hx94⟩
     ·
      refine WL.setB 92 h95 rfl ?_
      refine sg 11 [] e15 [e5, e6, (8, e8), e2, e1, e4, (96, (bv true))] (by kernel_rfl) ?_
      injection hx94 with hx94
      exact WL.to K true e15 rfl ⟨⟨(hS87.subR e11).sub [0] (by decide), hx94.symm⟩, trivial⟩
     refine WL.setB 92 h95 rfl ?_
     refine sg 8 [] [3, 7, 8, 79, 80, 81, 92, 93] [e5, e6, (8, e8), e2, e1, e4, (92, (bv false)), (93, e8)] (by kernel_rfl) ?_
     obtain ⟨t96, ht97, hx94⟩ := bind_some hx94
     refine WL.call (some 94) 42 #[e8] (fun fb => by kernel_rfl) (weight_prime_calls _ e9 t96 _ ht97) (fun v w98 hR99 => ?_)
     obtain ⟨rfl, hk_⟩ := hR99
     have hS100 := hS87.keepN hk_
     refine ⟨trivial, ?_⟩
     refine sg 11 [] e15 [e5, e6, (8, e8), e2, e1, e4, (96, (bv (!t96)))] (by kernel_rfl) ?_
     injection hx94 with hx94
     exact WL.to K (!t96) e15 rfl ⟨⟨(hS100.subR e11).sub [0] (by decide), hx94.symm⟩, trivial⟩
    rintro y101 w103 ⟨⟨hS104, hq102⟩, hF105⟩
    subst hq102
    refine sg 12 [] [3, 7, 8, 79, 80, 81, 97] [e5, e6, (8, e8), e2, e1, e4, (97, (bv x93))] (by kernel_rfl) ?_
    obtain ⟨x106, hx107, hl88⟩ := bind_some hl88
    refine WL.cutW (T := Bool) 19 (fun t => [e5, e6, e2, e1, e4, (104, (bv t))]) (fun t w1 => (St NoS w w1 e3 [blk g6 (.cells e7 26 (0, 0))] ∧ x106 = t) ∧ CellsOK [] w1) (fun K => ?_) ?_
    ·
     rcases br_some hx107 with ⟨h108, hx107⟩ | ⟨h108, hx107⟩
     ·
      refine WL.setB 97 h108 rfl ?_
      refine sg 19 [] e17 [e5, e6, e2, e1, e4, (104, (bv true))] (by kernel_rfl) ?_
      injection hx107 with hx107
      exact WL.to K true e17 rfl ⟨⟨(hS104.subR e11).sub [0] (by decide), hx107.symm⟩, trivial⟩
     refine WL.setB 97 h108 rfl ?_
     refine seg 15 [.v (sv Ae p1.Primes ce)] [3, 7, 8, 79, 80, 81, 97, 99, 100] [e5, e6, (8, e8), e2, e1, e4, (97, (bv false)), (99, (sv Ae p1.Primes ce)), (100, (iv x82))] [.cell ⟨g6, 3, none⟩ (sv Ae p1.Primes ce)] (fun fb => by kernel_rfl) rfl ⟨hS104.cell 0 rfl 3 rfl, trivial⟩ ?_
     obtain ⟨h109, hx107⟩ := as_some hx107
     refine seg 16 [] [3, 7, 8, 79, 80, 81, 97, 101] [e5, e6, (8, e8), e2, e1, e4, (97, (bv false)), (101, (.slice e18 (x82.toNat - (0 : Int).toNat) (ce - (0 : Int).toNat)))] [.idx (some ⟨0, 0, none⟩) (0 : Int) (x82.toNat + 1), .idx (some ⟨0, 0, none⟩) x82 (ce + 1)] (fun fb => by kernel_rfl) rfl ⟨cut1 h109.1 h109.2.1, cut2 h109.1 h109.2.1 h109.2.2 (hS104.rd 4).1.2, trivial⟩ ?_
     refine WL.reE [3, 7, 8, 79, 80, 81, 97, 101] [(3, (pt g6)), (7, (iv x82)), (8, (iv (rdD p1.Primes x82 0))), (79, (.slice Ae p1.Primes.length ce)), (80, (iv (p1.Primes.length : Int))), (81, (iv x82)), (97, (.bool false)), (101, (.slice (subA Ae ce (0 : Int).toNat 1) (x82.toNat - (0 : Int).toNat) (ce - (0 : Int).toNat)))] [(3, (pt g6)), (7, (iv x82)), (8, (iv (rdD p1.Primes x82 0))), (79, (.slice Ae p1.Primes.length ce)), (80, (iv (p1.Primes.length : Int))), (81, (iv x82)), (97, (.bool false)), (101, (.slice (subA Ae ce (0 : Int).toNat 1) (cut p1.Primes (0 : Int) x82).length (ce - (0 : Int).toNat)))] rfl (by rw [cut_length h109.1 h109.2.1 h109.2.2]) ?_
     have hS110 := hS104.cutR 4 rfl h109.1 h109.2.1 h109.2.2
     refine sg 17 [] [3, 7, 79, 80, 81, 97, 101, 102] [e5, e6, e2, e1, e4, (97, (bv false)), (101, e10), (102, e8)] (by kernel_rfl) ?_
     obtain ⟨t111, ht112, hx107⟩ := bind_some hx107
     refine WL.call (some 103) 43 #[e10, e8] (fun fb => by kernel_rfl) (slices_Contains_int_int_calls _ (cut p1.Primes (0 : Int) x82) e9 e18 (ce - (0 : Int).toNat) t111 _ (hS110.rd 0) ht112) (fun v w113 hR114 => ?_)
     obtain ⟨rfl, hk_⟩ := hR114
     have hS115 := hS110.keepN hk_
     refine ⟨trivial, ?_⟩
     refine sg 19 [] e17 [e5, e6, e2, e1, e4, (104, (bv t111))] (by kernel_rfl) ?_
     injection hx107 with hx107
     exact WL.to K t111 e17 rfl ⟨⟨(hS115.subR [1, 2, 3, 4, 5, 6]).sub [0] (by decide), hx107.symm⟩, trivial⟩
    rintro y116 w118 ⟨⟨hS119, hq117⟩, hF120⟩
    subst hq117
    refine sg 20 [] [3, 7, 79, 80, 81, 105] [e5, e6, e2, e1, e4, (105, (bv x106))] (by kernel_rfl) ?_
    obtain ⟨b121, hv122, hl88⟩ := bind_some hl88
    refine WL.cutV (T := Unit) 27 (fun t => [(112, (bv b121)), e5, e6, e2, e1, e4]) (fun t => True) (fun K => ?_) ?_
    ·
     rcases br_some hv122 with ⟨h123, hv122⟩ | ⟨h123, hv122⟩
     ·
      refine WL.setB 105 h123 rfl ?_
      refine sg 27 [] [3, 7, 79, 80, 81, 112] [e5, e6, e2, e1, e4, (112, (bv true))] (by kernel_rfl) ?_
      injection hv122 with hv122
      subst hv122
      exact WL.toV K () [112, 3, 7, 79, 80, 81] rfl trivial
     refine WL.setB 105 h123 rfl ?_
     refine seg 23 [.v e12] [3, 7, 79, 80, 81, 105, 107, 108] [e5, e6, e2, e1, e4, (105, (bv false)), (107, e12), (108, (iv x82))] [.cell ⟨g6, 4, none⟩ e12] (fun fb => by kernel_rfl) rfl ⟨hS119.cell 0 rfl 4 rfl, trivial⟩ ?_
     obtain ⟨h124, hv122⟩ := as_some hv122
     refine seg 27 [.v (iv (rdD p1.Logs x82 0))] [3, 7, 79, 80, 81, 112] [e5, e6, e2, e1, e4, (112, (bv (decide ((rdD p1.Logs x82 0) < (-1000)))))] [.idx Af x82 p1.Logs.length, .cell ((adr Af).add ((x82).toNat * 1)) (iv (rdD p1.Logs x82 0))] (fun fb => by kernel_rfl) rfl ⟨rowR.adr (hS119.rd 5).1 h124.1 h124.2, rowR.cell (hS119.rd 5).1 0 h124.1 h124.2 0 rfl, trivial⟩ ?_
     injection hv122 with hv122
     subst hv122
     exact WL.toV K () [112, 3, 7, 79, 80, 81] rfl trivial
    rintro _ _
    refine sg 28 [] [3, 7, 79, 80, 81, 113] [e5, e6, e2, e1, e4, (113, (bv b121))] (by kernel_rfl) ?_
    obtain ⟨b125, hv126, hl88⟩ := bind_some hl88
    refine WL.cutV (T := Unit) 35 (fun t => [(120, (bv b125)), e5, e2, e1, e4]) (fun t => True) (fun K => ?_) ?_
    ·
     rcases br_some hv126 with ⟨h127, hv126⟩ | ⟨h127, hv126⟩
     ·
      refine WL.setB 113 h127 rfl ?_
      refine sg 35 [] [3, 79, 80, 81, 120] [e5, e2, e1, e4, (120, (bv true))] (by kernel_rfl) ?_
      injection hv126 with hv126
      subst hv126
      exact WL.toV K () [120, 3, 79, 80, 81] rfl trivial
     refine WL.setB 113 h127 rfl ?_
     refine seg 31 [.v e12] [3, 79, 80, 81, 113, 115, 116] [e5, e2, e1, e4, (113, (bv false)), (115, e12), (116, (iv x82))] [.cell ⟨g6, 4, none⟩ e12] (fun fb => by kernel_rfl) rfl ⟨hS119.cell 0 rfl 4 rfl, trivial⟩ ?_
     obtain ⟨h128, hv126⟩ := as_some hv126
     refine seg 35 [.v (iv (rdD p1.Logs x82 0))] [3, 79, 80, 81, 120] [e5, e2, e1, e4, (120, (bv (decide ((rdD p1.Logs x82 0) > 1000))))] [.idx Af x82 p1.Logs.length, .cell ((adr Af).add ((x82).toNat * 1)) (iv (rdD p1.Logs x82 0))] (fun fb => by kernel_rfl) rfl ⟨rowR.adr (hS119.rd 5).1 h128.1 h128.2, rowR.cell (hS119.rd 5).1 0 h128.1 h128.2 0 rfl, trivial⟩ ?_
     injection hv126 with hv126
     subst hv126
     exact WL.toV K () [120, 3, 79, 80, 81] rfl trivial
    rintro _ _
    refine WL.done rfl (WX.next ?_)
    rcases br_some hl88 with ⟨h129, hl88⟩ | ⟨h129, hl88⟩
    ·refine WC.condT2 (fun fb => by kernel_rfl) h129 ?_
     refine WC.seq (WC.region ?_)
     refine sg 1 [] [4] [(4, (bv false))] (by kernel_rfl) ?_
     refine WL.done rfl (WX.next ?_)
     refine WC.ret ?_
     injection hl88 with hl88
     subst hl88
     injection hf with hf
     subst hf
     exact WX.blockR (WX.thenR (WX.thenR (WX.blockR (WX.thenR (WX.ret_ [] (bv false) [] (fun fb => by kernel_rfl) trivial ⟨_, rfl, rfl, hS119.keep⟩)))))
    refine WC.condF2 (fun fb => by kernel_rfl) h129 ?_
    refine WC.skip ?_
    refine WX.blockN (WX.next ?_)
    refine WC.region ?_
    refine sg 2 [] [3, 79, 80, 81] [e5, e2, e1, (81, (iv (w64 (x82 + 1))))] (by kernel_rfl) ?_
    refine WL.done rfl ?_
    exact WX.again k85 (Nat.lt_succ_self _) (w64 (x82 + 1)) [3, 79, 80, 81] rfl ⟨(hS119.subR e11).sub [0] (by decide), hl88⟩
   refine WC.condF2 (fun fb => by kernel_rfl) h89 ?_
   refine WC.exit ?_
   injection hl88 with hl88
   exact WX.thenX (WX.thenX (WX.blockHere (WX.to Kx83 () [] rfl ⟨(hS87.subR e11).sub [] (by decide), hl88.symm⟩)))
 rintro y133 w130 ⟨hS131, hq132⟩
 subst hq132
 have hf := sum_inr hf
 refine WX.next (WC.seq (WC.region ?_))
 refine sg 1 [] [4] [(4, (bv true))] (by kernel_rfl) ?_
 refine WL.done rfl (WX.next ?_)
 refine WC.ret ?_
 injection hf with hf
 subst hf
 exact WX.ret_ [] (bv true) [] (fun fb => by kernel_rfl) trivial ⟨_, rfl, rfl, hS131.keep⟩
theorem bits_Mul64_calls (p0 : Int) (p1 : Int)  (r : Int × Int) (w : World)  (hf : bits_Mul64 p0 p1 = some r) :
  CallsR Tryz.prog 85 #[(.int .u64 p0), (.int .u64 p1)] w (fun v w' => v = (.tuple #[(.int .u64 r.1), (.int .u64 r.2)]) ∧ Keeps NoS w w') := by
 have hS : St NoS w w [] [] := St.init (ro_nil _ _)
 refine enter 51 Tryz.func85 rfl Tryz.ntmps85 rfl ?_
 unfold bits_Mul64 at hf
 refine WC.seq (WC.region ?_)
 refine sg 2 [] [0, 1] [(0, (.int .u64 p0)), (1, (.int .u64 p1))] (by kernel_rfl) ?_
 refine WL.done rfl (WX.next (WC.seq (WC.region ?_)))
 refine sg 3 [] [0, 1, 6] [(0, (.int .u64 p0)), (1, (.int .u64 p1)), (6, (.int .u64 (andV p0 4294967295)))] (by kernel_rfl) ?_
 refine WL.done rfl (WX.next (WC.seq (WC.region ?_)))
 refine seg 3 [] [0, 1, 6, 7] [(0, (.int .u64 p0)), (1, (.int .u64 p1)), (6, (.int .u64 (andV p0 4294967295))), (7, (.int .u64 (shrV p0 32)))] [.idx (some ⟨0, 0, none⟩) 32 64] (fun fb => by kernel_rfl) rfl ⟨⟨by decide, by decide, rfl⟩, trivial⟩ ?_
 refine WL.done rfl (WX.next (WC.seq (WC.region ?_)))
 refine sg 3 [] [0, 1, 6, 7, 8] [(0, (.int .u64 p0)), (1, (.int .u64 p1)), (6, (.int .u64 (andV p0 4294967295))), (7, (.int .u64 (shrV p0 32))), (8, (.int .u64 (andV p1 4294967295)))] (by kernel_rfl) ?_
 refine WL.done rfl (WX.next (WC.seq (WC.region ?_)))
 refine seg 3 [] [0, 1, 6, 7, 8, 9] [(0, (.int .u64 p0)), (1, (.int .u64 p1)), (6, (.int .u64 (andV p0 4294967295))), (7, (.int .u64 (shrV p0 32))), (8, (.int .u64 (andV p1 4294967295))), (9, (.int .u64 (shrV p1 32)))] [.idx (some ⟨0, 0, none⟩) 32 64] (fun fb => by kernel_rfl) rfl ⟨⟨by decide, by decide, rfl⟩, trivial⟩ ?_
 refine WL.done rfl (WX.next (WC.seq (WC.region ?_)))
 refine sg 4 [] [0, 1, 6, 7, 8, 9, 10] [(0, (.int .u64 p0)), (1, (.int .u64 p1)), (6, (.int .u64 (andV p0 4294967295))), (7, (.int .u64 (shrV p0 32))), (8, (.int .u64 (andV p1 4294967295))), (9, (.int .u64 (shrV p1 32))), (10, (.int .u64 (IntKind.wrap .u64 ((andV p0 4294967295) * (andV p1 4294967295)))))] (by kernel_rfl) ?_
 refine WL.done rfl (WX.next (WC.seq (WC.region ?_)))
 refine seg 7 [] [0, 1, 6, 7, 9, 11] [(0, (.int .u64 p0)), (1, (.int .u64 p1)), (6, (.int .u64 (andV p0 4294967295))), (7, (.int .u64 (shrV p0 32))), (9, (.int .u64 (shrV p1 32))), (11, (.int .u64 (IntKind.wrap .u64 ((IntKind.wrap .u64 ((shrV p0 32) * (andV p1 4294967295))) + (shrV (IntKind.wrap .u64 ((andV p0 4294967295) * (andV p1 4294967295))) 32)))))] [.idx (some ⟨0, 0, none⟩) 32 64] (fun fb => by kernel_rfl) rfl ⟨⟨by decide, by decide, rfl⟩, trivial⟩ ?_
 refine WL.done rfl (WX.next (WC.seq (WC.region ?_)))
 let e1 := andV p1 4294967295
 refine sg 3 [] [0, 1, 6, 7, 9, 11, 12] [(0, (.int .u64 p0)), (1, (.int .u64 p1)), (6, (.int .u64 (andV p0 4294967295))), (7, (.int .u64 (shrV p0 32))), (9, (.int .u64 (shrV p1 32))), (11, (.int .u64 (IntKind.wrap .u64 ((IntKind.wrap .u64 ((shrV p0 32) * e1)) + (shrV (IntKind.wrap .u64 ((andV p0 4294967295) * e1)) 32))))), (12, (.int .u64 (andV (IntKind.wrap .u64 ((IntKind.wrap .u64 ((shrV p0 32) * e1)) + (shrV (IntKind.wrap .u64 ((andV p0 4294967295) * e1)) 32))) 4294967295)))] (by kernel_rfl) ?_
 refine WL.done rfl (WX.next (WC.seq (WC.region ?_)))
 refine seg 3 [] [0, 1, 6, 7, 9, 12, 13] [(0, (.int .u64 p0)), (1, (.int .u64 p1)), (6, (.int .u64 (andV p0 4294967295))), (7, (.int .u64 (shrV p0 32))), (9, (.int .u64 (shrV p1 32))), (12, (.int .u64 (andV (IntKind.wrap .u64 ((IntKind.wrap .u64 ((shrV p0 32) * e1)) + (shrV (IntKind.wrap .u64 ((andV p0 4294967295) * e1)) 32))) 4294967295))), (13, (.int .u64 (shrV (IntKind.wrap .u64 ((IntKind.wrap .u64 ((shrV p0 32) * e1)) + (shrV (IntKind.wrap .u64 ((andV p0 4294967295) * e1)) 32))) 32)))] [.idx (some ⟨0, 0, none⟩) 32 64] (fun fb => by kernel_rfl) rfl ⟨⟨by decide, by decide, rfl⟩, trivial⟩ ?_
 refine WL.done rfl (WX.next (WC.seq (WC.region ?_)))
 refine sg 6 [] [0, 1, 7, 9, 12, 13] [(0, (.int .u64 p0)), (1, (.int .u64 p1)), (7, (.int .u64 (shrV p0 32))), (9, (.int .u64 (shrV p1 32))), (12, (.int .u64 (IntKind.wrap .u64 ((andV (IntKind.wrap .u64 ((IntKind.wrap .u64 ((shrV p0 32) * e1)) + (shrV (IntKind.wrap .u64 ((andV p0 4294967295) * e1)) 32))) 4294967295) + (IntKind.wrap .u64 ((andV p0 4294967295) * (shrV p1 32))))))), (13, (.int .u64 (shrV (IntKind.wrap .u64 ((IntKind.wrap .u64 ((shrV p0 32) * e1)) + (shrV (IntKind.wrap .u64 ((andV p0 4294967295) * e1)) 32))) 32)))] (by kernel_rfl) ?_
 refine WL.done rfl (WX.next (WC.seq (WC.region ?_)))
 refine seg 9 [] [0, 1, 4] [(0, (.int .u64 p0)), (1, (.int .u64 p1)), (4, (.int .u64 (IntKind.wrap .u64 ((IntKind.wrap .u64 ((IntKind.wrap .u64 ((shrV p0 32) * (shrV p1 32))) + (shrV (IntKind.wrap .u64 ((IntKind.wrap .u64 ((shrV p0 32) * e1)) + (shrV (IntKind.wrap .u64 ((andV p0 4294967295) * e1)) 32))) 32))) + (shrV (IntKind.wrap .u64 ((andV (IntKind.wrap .u64 ((IntKind.wrap .u64 ((shrV p0 32) * e1)) + (shrV (IntKind.wrap .u64 ((andV p0 4294967295) * e1)) 32))) 4294967295) + (IntKind.wrap .u64 ((andV p0 4294967295) * (shrV p1 32))))) 32)))))] [.idx (some ⟨0, 0, none⟩) 32 64] (fun fb => by kernel_rfl) rfl ⟨⟨by decide, by decide, rfl⟩, trivial⟩ ?_
 refine WL.done rfl (WX.next (WC.seq (WC.region ?_)))
 refine sg 4 [] [4, 5] [(4, (.int .u64 (IntKind.wrap .u64 ((IntKind.wrap .u64 ((IntKind.wrap .u64 ((shrV p0 32) * (shrV p1 32))) + (shrV (IntKind.wrap .u64 ((IntKind.wrap .u64 ((shrV p0 32) * e1)) + (shrV (IntKind.wrap .u64 ((andV p0 4294967295) * e1)) 32))) 32))) + (shrV (IntKind.wrap .u64 ((andV (IntKind.wrap .u64 ((IntKind.wrap .u64 ((shrV p0 32) * e1)) + (shrV (IntKind.wrap .u64 ((andV p0 4294967295) * e1)) 32))) 4294967295) + (IntKind.wrap .u64 ((andV p0 4294967295) * (shrV p1 32))))) 32))))), (5, (.int .u64 (IntKind.wrap .u64 (p0 * p1))))] (by kernel_rfl) ?_
 refine WL.done rfl (WX.next ?_)
 refine WC.ret ?_
 injection hf with hf
 subst hf
 exact WX.ret_ [] (.tuple #[(.int .u64 (IntKind.wrap .u64 ((IntKind.wrap .u64 ((IntKind.wrap .u64 ((shrV p0 32) * (shrV p1 32))) + (shrV (IntKind.wrap .u64 ((IntKind.wrap .u64 ((shrV p0 32) * e1)) + (shrV (IntKind.wrap .u64 ((andV p0 4294967295) * e1)) 32))) 32))) + (shrV (IntKind.wrap .u64 ((andV (IntKind.wrap .u64 ((IntKind.wrap .u64 ((shrV p0 32) * e1)) + (shrV (IntKind.wrap .u64 ((andV p0 4294967295) * e1)) 32))) 4294967295) + (IntKind.wrap .u64 ((andV p0 4294967295) * (shrV p1 32))))) 32)))), (.int .u64 (IntKind.wrap .u64 (p0 * p1)))]) [] (fun fb => by kernel_rfl) trivial ⟨_, rfl, rfl, hS.keep⟩
theorem bits_Len64_calls (p0 : Int)  (r : Int) (w : World)  (hf : bits_Len64 p0 = some r) :
  CallsR Tryz.prog 117 #[(.int .u64 p0)] w (fun v w' => v = (iv r) ∧ Keeps NoS w w') := by
 have hS : St NoS w w [] [] := St.init (ro_nil _ _)
 refine enter 25 Tryz.func117 rfl Tryz.ntmps117 rfl ?_
 unfold bits_Len64 at hf
 refine WC.seq (WC.region ?_)
 refine sg 1 [] [0, 2] [(0, (.int .u64 p0)), (2, (iv 0))] (by kernel_rfl) ?_
 refine WL.done rfl (WX.next (WC.seq (WC.seq (WC.region ?_))))
 refine sg 2 [] [0, 2, 4] [(0, (.int .u64 p0)), (2, (iv 0)), (4, (bv (decide (p0 ≥ 4294967296))))] (by kernel_rfl) ?_
 refine WL.done rfl (WX.next ?_)
 obtain ⟨x3, hx4, hf⟩ := bind_some hf
 refine WC.cutN (T := Int × Int) (fun t => [(0, (.int .u64 t.1)), (2, (iv t.2))]) (fun t w1 => St NoS w w1 [] [] ∧ x3 = t) (fun Kx3 => ?_) ?_
 ·
  rcases br_some hx4 with ⟨h5, hx4⟩ | ⟨h5, hx4⟩
  ·refine WC.condT2 (fun fb => by kernel_rfl) h5 ?_
   refine WC.seq (WC.region ?_)
   refine seg 3 [] [0] [(0, (.int .u64 (shrV p0 32)))] [.idx (some ⟨0, 0, none⟩) 32 64] (fun fb => by kernel_rfl) rfl ⟨⟨by decide, by decide, rfl⟩, trivial⟩ ?_
   refine WL.done rfl (WX.next (WC.region ?_))
   refine sg 1 [] [0, 2] [(0, (.int .u64 (shrV p0 32))), (2, (iv 32))] (by kernel_rfl) ?_
   refine WL.done rfl ?_
   injection hx4 with hx4
   exact WX.to Kx3 (shrV p0 32, 32) [0, 2] rfl ⟨(hS.subR []).sub [] (by decide), hx4.symm⟩
  refine WC.condF2 (fun fb => by kernel_rfl) h5 ?_
  refine WC.skip ?_
  injection hx4 with hx4
  exact WX.to Kx3 (p0, 0) [0, 2] rfl ⟨(hS.subR []).sub [] (by decide), hx4.symm⟩
 rintro y10 w6 ⟨hS7, hq9⟩
 subst hq9
 refine WX.next (WC.seq (WC.seq (WC.region ?_)))
 refine sg 2 [] [0, 2, 8] [(0, (.int .u64 x3.1)), (2, (iv x3.2)), (8, (bv (decide (x3.1 ≥ 65536))))] (by kernel_rfl) ?_
 refine WL.done rfl (WX.next ?_)
 obtain ⟨x11, hx12, hf⟩ := bind_some hf
 refine WC.cutN (T := Int × Int) (fun t => [(0, (.int .u64 t.1)), (2, (iv t.2))]) (fun t w1 => St NoS w w1 [] [] ∧ x11 = t) (fun Kx11 => ?_) ?_
 ·
  rcases br_some hx12 with ⟨h13, hx12⟩ | ⟨h13, hx12⟩
  ·refine WC.condT2 (fun fb => by kernel_rfl) h13 ?_
   refine WC.seq (WC.region ?_)
   refine seg 3 [] [0, 2] [(0, (.int .u64 (shrV x3.1 16))), (2, (iv x3.2))] [.idx (some ⟨0, 0, none⟩) 16 64] (fun fb => by kernel_rfl) rfl ⟨⟨by decide, by decide, rfl⟩, trivial⟩ ?_
   refine WL.done rfl (WX.next (WC.region ?_))
   refine sg 3 [] [0, 2] [(0, (.int .u64 (shrV x3.1 16))), (2, (iv (w64 (x3.2 + 16))))] (by kernel_rfl) ?_
   refine WL.done rfl ?_
   injection hx12 with hx12
   exact WX.to Kx11 (shrV x3.1 16, w64 (x3.2 + 16)) [0, 2] rfl ⟨(hS7.subR []).sub [] (by decide), hx12.symm⟩
  refine WC.condF2 (fun fb => by kernel_rfl) h13 ?_
  refine WC.skip ?_
  injection hx12 with hx12
  exact WX.to Kx11 (x3.1, x3.2) [0, 2] rfl ⟨(hS7.subR []).sub [] (by decide), hx12.symm⟩
 rintro y17 w14 ⟨hS15, hq16⟩
 subst hq16
 refine WX.next (WC.seq (WC.seq (WC.region ?_)))
 refine sg 2 [] [0, 2, 14] [(0, (.int .u64 x11.1)), (2, (iv x11.2)), (14, (bv (decide (x11.1 ≥ 256))))] (by kernel_rfl) ?_
 refine WL.done rfl (WX.next ?_)
 obtain ⟨x18, hx19, hf⟩ := bind_some hf
 refine WC.cutN (T := Int × Int) (fun t => [(0, (.int .u64 t.1)), (2, (iv t.2))]) (fun t w1 => St NoS w w1 [] [] ∧ x18 = t) (fun Kx18 => ?_) ?_
 ·
  rcases br_some hx19 with ⟨h20, hx19⟩ | ⟨h20, hx19⟩
  ·refine WC.condT2 (fun fb => by kernel_rfl) h20 ?_
   refine WC.seq (WC.region ?_)
   refine seg 3 [] [0, 2] [(0, (.int .u64 (shrV x11.1 8))), (2, (iv x11.2))] [.idx (some ⟨0, 0, none⟩) 8 64] (fun fb => by kernel_rfl) rfl ⟨⟨by decide, by decide, rfl⟩, trivial⟩ ?_
   refine WL.done rfl (WX.next (WC.region ?_))
   refine sg 3 [] [0, 2] [(0, (.int .u64 (shrV x11.1 8))), (2, (iv (w64 (x11.2 + 8))))] (by kernel_rfl) ?_
   refine WL.done rfl ?_
   injection hx19 with hx19
   exact WX.to Kx18 (shrV x11.1 8, w64 (x11.2 + 8)) [0, 2] rfl ⟨(hS15.subR []).sub [] (by decide), hx19.symm⟩
  refine WC.condF2 (fun fb => by kernel_rfl) h20 ?_
  refine WC.skip ?_
  injection hx19 with hx19
  exact WX.to Kx18 (x11.1, x11.2) [0, 2] rfl ⟨(hS15.subR []).sub [] (by decide), hx19.symm⟩
 rintro y24 w21 ⟨hS22, hq23⟩
 subst hq23
 refine WX.next (WC.seq (WC.region ?_))
 refine sg 3 [] [19, 21] [(19, (iv x18.2)), (21, (.int .u8 (IntKind.wrap .u8 (x18.1))))] (by kernel_rfl) ?_
 obtain ⟨h25, hf⟩ := as_some hf
 refine seg 7 [] [2] [(2, (iv (w64 (x18.2 + (w64 (strAt (⟨#[0, 1, 2, 2, 3, 3, 3, 3, 4, 4, 4, 4, 4, 4, 4, 4, 5, 5, 5, 5, 5, 5, 5, 5, 5, 5, 5, 5, 5, 5, 5, 5, 6, 6, 6, 6, 6, 6, 6, 6, 6, 6, 6, 6, 6, 6, 6, 6, 6, 6, 6, 6, 6, 6, 6, 6, 6, 6, 6, 6, 6, 6, 6, 6, 7, 7, 7, 7, 7, 7, 7, 7, 7, 7, 7, 7, 7, 7, 7, 7, 7, 7, 7, 7, 7, 7, 7, 7, 7, 7, 7, 7, 7, 7, 7, 7, 7, 7, 7, 7, 7, 7, 7, 7, 7, 7, 7, 7, 7, 7, 7, 7, 7, 7, 7, 7, 7, 7, 7, 7, 7, 7, 7, 7, 7, 7, 7, 7, 8, 8, 8, 8, 8, 8, 8, 8, 8, 8, 8, 8, 8, 8, 8, 8, 8, 8, 8, 8, 8, 8, 8, 8, 8, 8, 8, 8, 8, 8, 8, 8, 8, 8, 8, 8, 8, 8, 8, 8, 8, 8, 8, 8, 8, 8, 8, 8, 8, 8, 8, 8, 8, 8, 8, 8, 8, 8, 8, 8, 8, 8, 8, 8, 8, 8, 8, 8, 8, 8, 8, 8, 8, 8, 8, 8, 8, 8, 8, 8, 8, 8, 8, 8, 8, 8, 8, 8, 8, 8, 8, 8, 8, 8, 8, 8, 8, 8, 8, 8, 8, 8, 8, 8, 8, 8, 8, 8, 8, 8, 8, 8, 8, 8, 8, 8, 8, 8, 8, 8, 8, 8, 8, 8, 8, 8, 8, 8]⟩ : ByteArray) (IntKind.wrap .u8 (x18.1))))))))] [.idx (some ⟨0, 0, none⟩) (IntKind.wrap .u8 (x18.1)) (⟨#[0, 1, 2, 2, 3, 3, 3, 3, 4, 4, 4, 4, 4, 4, 4, 4, 5, 5, 5, 5, 5, 5, 5, 5, 5, 5, 5, 5, 5, 5, 5, 5, 6, 6, 6, 6, 6, 6, 6, 6, 6, 6, 6, 6, 6, 6, 6, 6, 6, 6, 6, 6, 6, 6, 6, 6, 6, 6, 6, 6, 6, 6, 6, 6, 7, 7, 7, 7, 7, 7, 7, 7, 7, 7, 7, 7, 7, 7, 7, 7, 7, 7, 7, 7, 7, 7, 7, 7, 7, 7, 7, 7, 7, 7, 7, 7, 7, 7, 7, 7, 7, 7, 7, 7, 7, 7, 7, 7, 7, 7, 7, 7, 7, 7, 7, 7, 7, 7, 7, 7, 7, 7, 7, 7, 7, 7, 7, 7, 8, 8, 8, 8, 8, 8, 8, 8, 8, 8, 8, 8, 8, 8, 8, 8, 8, 8, 8, 8, 8, 8, 8, 8, 8, 8, 8, 8, 8, 8, 8, 8, 8, 8, 8, 8, 8, 8, 8, 8, 8, 8, 8, 8, 8, 8, 8, 8, 8, 8, 8, 8, 8, 8, 8, 8, 8, 8, 8, 8, 8, 8, 8, 8, 8, 8, 8, 8, 8, 8, 8, 8, 8, 8, 8, 8, 8, 8, 8, 8, 8, 8, 8, 8, 8, 8, 8, 8, 8, 8, 8, 8, 8, 8, 8, 8, 8, 8, 8, 8, 8, 8, 8, 8, 8, 8, 8, 8, 8, 8, 8, 8, 8, 8, 8, 8, 8, 8, 8, 8, 8, 8, 8, 8, 8, 8, 8, 8]⟩ : ByteArray).size] (fun fb => by kernel_rfl) rfl ⟨⟨h25.1, h25.2, rfl⟩, trivial⟩ ?_
 refine WL.done rfl (WX.next ?_)
 refine WC.ret ?_
 injection hf with hf
 subst hf
 exact WX.ret_ [] (iv (w64 (x18.2 + (w64 (strAt (⟨#[0, 1, 2, 2, 3, 3, 3, 3, 4, 4, 4, 4, 4, 4, 4, 4, 5, 5, 5, 5, 5, 5, 5, 5, 5, 5, 5, 5, 5, 5, 5, 5, 6, 6, 6, 6, 6, 6, 6, 6, 6, 6, 6, 6, 6, 6, 6, 6, 6, 6, 6, 6, 6, 6, 6, 6, 6, 6, 6, 6, 6, 6, 6, 6, 7, 7, 7, 7, 7, 7, 7, 7, 7, 7, 7, 7, 7, 7, 7, 7, 7, 7, 7, 7, 7, 7, 7, 7, 7, 7, 7, 7, 7, 7, 7, 7, 7, 7, 7, 7, 7, 7, 7, 7, 7, 7, 7, 7, 7, 7, 7, 7, 7, 7, 7, 7, 7, 7, 7, 7, 7, 7, 7, 7, 7, 7, 7, 7, 8, 8, 8, 8, 8, 8, 8, 8, 8, 8, 8, 8, 8, 8, 8, 8, 8, 8, 8, 8, 8, 8, 8, 8, 8, 8, 8, 8, 8, 8, 8, 8, 8, 8, 8, 8, 8, 8, 8, 8, 8, 8, 8, 8, 8, 8, 8, 8, 8, 8, 8, 8, 8, 8, 8, 8, 8, 8, 8, 8, 8, 8, 8, 8, 8, 8, 8, 8, 8, 8, 8, 8, 8, 8, 8, 8, 8, 8, 8, 8, 8, 8, 8, 8, 8, 8, 8, 8, 8, 8, 8, 8, 8, 8, 8, 8, 8, 8, 8, 8, 8, 8, 8, 8, 8, 8, 8, 8, 8, 8, 8, 8, 8, 8, 8, 8, 8, 8, 8, 8, 8, 8, 8, 8, 8, 8, 8, 8]⟩ : ByteArray) (IntKind.wrap .u8 (x18.1))))))) [] (fun fb => by kernel_rfl) trivial ⟨_, rfl, rfl, hS22.keep⟩
theorem bits_LeadingZeros64_calls (p0 : Int)  (r : Int) (w : World)  (hf : bits_LeadingZeros64 p0 = some r) :
  CallsR Tryz.prog 104 #[(.int .u64 p0)] w (fun v w' => v = (iv r) ∧ Keeps NoS w w') := by
 have hS : St NoS w w [] [] := St.init (ro_nil _ _)
 refine enter 6 Tryz.func104 rfl Tryz.ntmps104 rfl ?_
 unfold bits_LeadingZeros64 at hf
 refine WC.seq (WC.region ?_)
 refine sg 1 [] [0] [(0, (.int .u64 p0))] (by kernel_rfl) ?_
 refine WL.done rfl (WX.next (WC.seq (WC.region ?_)))
 refine sg 1 [] [3] [(3, (.int .u64 p0))] (by kernel_rfl) ?_
 obtain ⟨t1, ht2, hf⟩ := bind_some hf
 refine WL.call (some 4) 117 #[(.int .u64 p0)] (fun fb => by kernel_rfl) (bits_Len64_calls p0 t1 _ ht2) (fun v w3 hR4 => ?_)
 obtain ⟨rfl, hk_⟩ := hR4
 have hS5 := hS.keepN hk_
 refine ⟨trivial, ?_⟩
 refine sg 4 [] [2] [(2, (iv (w64 (64 - t1))))] (by kernel_rfl) ?_
 refine WL.done rfl (WX.next ?_)
 refine WC.ret ?_
 injection hf with hf
 subst hf
 exact WX.ret_ [] (iv (w64 (64 - t1))) [] (fun fb => by kernel_rfl) trivial ⟨_, rfl, rfl, hS5.keep⟩
end Gp
