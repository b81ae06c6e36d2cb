/- Walks: each function of the program computes its plain function. -/
import Derived.Test.YtfehljifahnipaaGreatDoorGx0
set_option linter.unusedVariables false
set_option linter.unusedSimpArgs false
set_option maxHeartbeats 4000000
set_option maxRecDepth 8000
namespace Gp
open Go Gw Go.Proofs
theorem weight_Valid_calls (k : Nat) (p0 : List Tile) (p1 : Weights) (Aa : Option Addr) (ca : Nat) (Ab : Option Addr) (cb : Nat) (Ac : Option Addr) (cc : Nat) (Ad : Option Addr) (cd : Nat) (Ae : Option Addr) (ce : Nat) (Af : Option Addr) (cf : Nat) (r : Bool) (w : World) (hR0 : RO NoS w (rowR enc_Tile Aa ca p0)) (hR1 : RO NoS w (rowR enc_Frac Ab cb p1.Values)) (hR2 : RO NoS w (rowR enc_Frac Ac cc p1.Carries)) (hR3 : RO NoS w (rowR enc_Frac Ad cd p1.Factors)) (hR4 : RO NoS w (rowR encInt Ae ce p1.Primes)) (hR5 : RO NoS w (rowR encInt Af cf p1.Logs)) (hf : weight_Valid k p0 p1 = some r) :
  CallsR Tryz.prog 12 #[(sv Aa p0 ca), (.agg #[(sv Ab p1.Values cb), (sv Ac p1.Carries cc), (sv Ad p1.Factors cd), (sv Ae p1.Primes ce), (sv Af p1.Logs cf)])] w (fun v w' => v = (bv r) ∧ Keeps NoS w w') := by
 have hS : St NoS w w [rowR enc_Tile Aa ca p0, rowR enc_Frac Ab cb p1.Values, rowR enc_Frac Ac cc p1.Carries, rowR enc_Frac Ad cd p1.Factors, rowR encInt Ae ce p1.Primes, rowR encInt Af cf p1.Logs] [] := St.init (ro_cons hR0 (ro_cons hR1 (ro_cons hR2 (ro_cons hR3 (ro_cons hR4 (ro_cons hR5 (ro_nil _ _)))))))
 refine enter 122 Tryz.func12 rfl Tryz.ntmps12 rfl ?_
 unfold weight_Valid at hf
 refine WC.seq (WC.region ?_)
 refine WL.new hS 3 [] (fun g => (pt g)) (.cells #[(sv Ab p1.Values cb), (sv Ac p1.Carries cc), (sv Ad p1.Factors cd), (sv Ae p1.Primes ce), (sv Af p1.Logs cf)] 26 (0, 0)) [] (fun fb g => by kernel_rfl) trivial (fun g6 w7 hS8 => ?_)
 refine ⟨trivial, ?_⟩
 refine sg 2 [] [0, 3] [(0, (sv Aa p0 ca)), (3, (pt g6))] (by kernel_rfl) ?_
 refine WL.done rfl (WX.next (WC.seq (WC.seq (WC.region ?_))))
 refine sg 1 [] [0, 3, 9] [(0, (sv Aa p0 ca)), (3, (pt g6)), (9, (sv Aa p0 ca))] (by kernel_rfl) ?_
 obtain ⟨t9, ht10, hf⟩ := bind_some hf
 refine WL.call (some 10) 37 #[(sv Aa p0 ca)] (fun fb => by kernel_rfl) (tile_Valid_calls _ p0 Aa ca t9 _ (hS8.rd 0) ht10) (fun v w11 hR13 => ?_)
 obtain ⟨rfl, hk_⟩ := hR13
 have hS14 := hS8.keepN hk_
 refine ⟨trivial, ?_⟩
 refine sg 3 [] [0, 3, 11] [(0, (sv Aa p0 ca)), (3, (pt g6)), (11, (bv (!t9)))] (by kernel_rfl) ?_
 refine WL.done rfl (WX.next ?_)
 rcases br_some hf with ⟨h15, hf⟩ | ⟨h15, hf⟩
 ·refine WC.condT2 (fun fb => by kernel_rfl) h15 ?_
  refine WC.seq (WC.region ?_)
  refine sg 1 [] [4] [(4, (bv false))] (by kernel_rfl) ?_
  refine WL.done rfl (WX.next ?_)
  refine WC.ret ?_
  injection hf with hf
  subst hf
  exact WX.thenR (WX.ret_ [] (bv false) [] (fun fb => by kernel_rfl) trivial ⟨_, rfl, rfl, hS14.keep⟩)
 refine WC.condF2 (fun fb => by kernel_rfl) h15 ?_
 refine WC.skip (WX.next (WC.seq (WC.region ?_)))
 refine sg 1 [] [0, 3, 13] [(0, (sv Aa p0 ca)), (3, (pt g6)), (13, (sv Aa p0 ca))] (by kernel_rfl) ?_
 obtain ⟨t16, ht17, hf⟩ := bind_some hf
 refine WL.call (some 14) 38 #[(sv Aa p0 ca)] (fun fb => by kernel_rfl) (weight_needed_calls _ p0 Aa ca t16 _ (hS14.rd 0) ht17) (fun v w18 hR19 => ?_)
 obtain ⟨rfl, hk_⟩ := hR19
 have hS20 := hS14.keepN hk_
 refine ⟨trivial, ?_⟩
 refine sg 7 [] [0, 3, 5, 6] [(0, (sv Aa p0 ca)), (3, (pt g6)), (5, (iv t16.1)), (6, (iv t16.2))] (by kernel_rfl) ?_
 refine WL.done rfl (WX.next (WC.seq (WC.seq (WC.region ?_))))
 refine seg 6 [.v (sv Ab p1.Values cb)] [0, 3, 6, 22] [(0, (sv Aa p0 ca)), (3, (pt g6)), (6, (iv t16.2)), (22, (bv ((p1.Values.length : Int) != t16.1)))] [.cell ⟨g6, 0, none⟩ (sv Ab p1.Values cb)] (fun fb => by kernel_rfl) rfl ⟨hS20.cell 0 rfl 0 rfl, trivial⟩ ?_
 refine WL.cutV (T := Bool) 12 (fun t => [(28, (bv t)), (0, (sv Aa p0 ca)), (3, (pt g6))]) (fun t => (((p1.Values.length : Int) != t16.1) || ((p1.Carries.length : Int) != t16.2)) = t) (fun K => ?_) ?_
 ·
  rcases Bool.eq_false_or_eq_true ((p1.Values.length : Int) != t16.1) with h21 | h21
  ·
   refine WL.setB 22 h21 rfl ?_
   refine sg 12 [] [0, 3, 28] [(0, (sv Aa p0 ca)), (3, (pt g6)), (28, (bv true))] (by kernel_rfl) ?_
   exact WL.toV K true [28, 0, 3] rfl (by first | (rw [h21]; done) | (rw [h21]; rfl))
  refine WL.setB 22 h21 rfl ?_
  refine seg 12 [.v (sv Ac p1.Carries cc)] [0, 3, 28] [(0, (sv Aa p0 ca)), (3, (pt g6)), (28, (bv ((p1.Carries.length : Int) != t16.2)))] [.cell ⟨g6, 1, none⟩ (sv Ac p1.Carries cc)] (fun fb => by kernel_rfl) rfl ⟨hS20.cell 0 rfl 1 rfl, trivial⟩ ?_
  exact WL.toV K ((p1.Carries.length : Int) != t16.2) [28, 0, 3] rfl (by first | (rw [h21]; done) | (rw [h21]; rfl))
 rintro b22 rfl
 refine sg 13 [] [0, 3, 29] [(0, (sv Aa p0 ca)), (3, (pt g6)), (29, (bv (((p1.Values.length : Int) != t16.1) || ((p1.Carries.length : Int) != t16.2))))] (by kernel_rfl) ?_
 refine WL.cutV (T := Bool) 20 (fun t => [(36, (bv t)), (3, (pt g6))]) (fun t => ((((p1.Values.length : Int) != t16.1) || ((p1.Carries.length : Int) != t16.2)) || ((p1.Factors.length : Int) != (p0.length : Int))) = t) (fun K => ?_) ?_
 ·
  rcases Bool.eq_false_or_eq_true (((p1.Values.length : Int) != t16.1) || ((p1.Carries.length : Int) != t16.2)) with h23 | h23
  ·
   refine WL.setB 29 h23 rfl ?_
   refine sg 20 [] [3, 36] [(3, (pt g6)), (36, (bv true))] (by kernel_rfl) ?_
   exact WL.toV K true [36, 3] rfl (by first | (rw [h23]; done) | (rw [h23]; rfl))
  refine WL.setB 29 h23 rfl ?_
  refine seg 20 [.v (sv Ad p1.Factors cd)] [3, 36] [(3, (pt g6)), (36, (bv ((p1.Factors.length : Int) != (p0.length : Int))))] [.cell ⟨g6, 2, none⟩ (sv Ad p1.Factors cd)] (fun fb => by kernel_rfl) rfl ⟨hS20.cell 0 rfl 2 rfl, trivial⟩ ?_
  exact WL.toV K ((p1.Factors.length : Int) != (p0.length : Int)) [36, 3] rfl (by first | (rw [h23]; done) | (rw [h23]; rfl))
 rintro b24 rfl
 refine sg 21 [] [3, 37] [(3, (pt g6)), (37, (bv ((((p1.Values.length : Int) != t16.1) || ((p1.Carries.length : Int) != t16.2)) || ((p1.Factors.length : Int) != (p0.length : Int)))))] (by kernel_rfl) ?_
 refine WL.cutV (T := Bool) 26 (fun t => [(42, (bv t)), (3, (pt g6))]) (fun t => (((((p1.Values.length : Int) != t16.1) || ((p1.Carries.length : Int) != t16.2)) || ((p1.Factors.length : Int) != (p0.length : Int))) || (decide ((p1.Primes.length : Int) > 12))) = t) (fun K => ?_) ?_
 ·
  rcases Bool.eq_false_or_eq_true ((((p1.Values.length : Int) != t16.1) || ((p1.Carries.length : Int) != t16.2)) || ((p1.Factors.length : Int) != (p0.length : Int))) with h25 | h25
  ·
   refine WL.setB 37 h25 rfl ?_
   refine sg 26 [] [3, 42] [(3, (pt g6)), (42, (bv true))] (by kernel_rfl) ?_
   exact WL.toV K true [42, 3] rfl (by first | (rw [h25]; done) | (rw [h25]; rfl))
  refine WL.setB 37 h25 rfl ?_
  refine seg 26 [.v (sv Ae p1.Primes ce)] [3, 42] [(3, (pt g6)), (42, (bv (decide ((p1.Primes.length : Int) > 12))))] [.cell ⟨g6, 3, none⟩ (sv Ae p1.Primes ce)] (fun fb => by kernel_rfl) rfl ⟨hS20.cell 0 rfl 3 rfl, trivial⟩ ?_
  exact WL.toV K (decide ((p1.Primes.length : Int) > 12)) [42, 3] rfl (by first | (rw [h25]; done) | (rw [h25]; rfl))
 rintro b26 rfl
 refine sg 27 [] [3, 43] [(3, (pt g6)), (43, (bv (((((p1.Values.length : Int) != t16.1) || ((p1.Carries.length : Int) != t16.2)) || ((p1.Factors.length : Int) != (p0.length : Int))) || (decide ((p1.Primes.length : Int) > 12)))))] (by kernel_rfl) ?_
 let e16 := (p1.Primes.length : Int)
 refine WL.cutV (T := Bool) 35 (fun t => [(51, (bv t)), (3, (pt g6))]) (fun t => ((((((p1.Values.length : Int) != t16.1) || ((p1.Carries.length : Int) != t16.2)) || ((p1.Factors.length : Int) != (p0.length : Int))) || (decide (e16 > 12))) || ((p1.Logs.length : Int) != e16)) = t) (fun K => ?_) ?_
 ·
  rcases Bool.eq_false_or_eq_true (((((p1.Values.length : Int) != t16.1) || ((p1.Carries.length : Int) != t16.2)) || ((p1.Factors.length : Int) != (p0.length : Int))) || (decide (e16 > 12))) with h27 | h27
  ·
   refine WL.setB 43 h27 rfl ?_
   refine sg 35 [] [3, 51] [(3, (pt g6)), (51, (bv true))] (by kernel_rfl) ?_
   exact WL.toV K true [51, 3] rfl (by first | (rw [h27]; done) | (rw [h27]; rfl))
  refine WL.setB 43 h27 rfl ?_
  refine seg 35 [.v (sv Af p1.Logs cf), .v (sv Ae p1.Primes ce)] [3, 51] [(3, (pt g6)), (51, (bv ((p1.Logs.length : Int) != e16)))] [.cell ⟨g6, 4, none⟩ (sv Af p1.Logs cf), .cell ⟨g6, 3, none⟩ (sv Ae p1.Primes ce)] (fun fb => by kernel_rfl) rfl ⟨hS20.cell 0 rfl 4 rfl, hS20.cell 0 rfl 3 rfl, trivial⟩ ?_
  exact WL.toV K ((p1.Logs.length : Int) != (p1.Primes.length : Int)) [51, 3] rfl (by first | (rw [h27]; done) | (rw [h27]; rfl))
 rintro b28 rfl
 refine WL.done rfl (WX.next ?_)
 rcases br_some hf with ⟨h29, hf⟩ | ⟨h29, hf⟩
 ·refine WC.condT2 (fun fb => by kernel_rfl) h29 ?_
  refine WC.seq (WC.region ?_)
  refine sg 1 [] [4] [(4, (bv false))] (by kernel_rfl) ?_
  refine WL.done rfl (WX.next ?_)
  refine WC.ret ?_
  injection hf with hf
  subst hf
  exact WX.thenR (WX.ret_ [] (bv false) [] (fun fb => by kernel_rfl) trivial ⟨_, rfl, rfl, hS20.keep⟩)
 refine WC.condF2 (fun fb => by kernel_rfl) h29 ?_
 refine WC.skip (WX.next (WC.seq (WC.seq (WC.region ?_))))
 refine seg 2 [.v (sv Ab p1.Values cb)] [3, 53] [(3, (pt g6)), (53, (sv Ab p1.Values cb))] [.cell ⟨g6, 0, none⟩ (sv Ab p1.Values cb)] (fun fb => by kernel_rfl) rfl ⟨hS20.cell 0 rfl 0 rfl, trivial⟩ ?_
 obtain ⟨t30, ht31, hf⟩ := bind_some hf
 refine WL.call (some 54) 34 #[(sv Ab p1.Values cb), (.func (.func 39) #[] #[])] (fun fb => by kernel_rfl) (weight_all_with_weight_fraction_valid_calls _ p1.Values Ab cb t30 _ (hS20.rd 1) ht31) (fun v w32 hR33 => ?_)
 obtain ⟨rfl, hk_⟩ := hR33
 have hS34 := hS20.keepN hk_
 refine ⟨trivial, ?_⟩
 refine sg 5 [] [3, 56] [(3, (pt g6)), (56, (bv (!t30)))] (by kernel_rfl) ?_
 obtain ⟨x35, hx36, hf⟩ := bind_some hf
 let e13 := sv Ac p1.Carries cc
 refine WL.cutW (T := Bool) 10 (fun t => [(3, (pt g6)), (61, (bv t))]) (fun t w1 => (St NoS w w1 [rowR enc_Tile Aa ca p0, rowR enc_Frac Ab cb p1.Values, rowR enc_Frac Ac cc p1.Carries, rowR enc_Frac Ad cd p1.Factors, rowR encInt Ae ce p1.Primes, rowR encInt Af cf p1.Logs] [blk g6 (.cells #[(sv Ab p1.Values cb), e13, (sv Ad p1.Factors cd), (sv Ae p1.Primes ce), (sv Af p1.Logs cf)] 26 (0, 0))] ∧ x35 = t) ∧ CellsOK [] w1) (fun K => ?_) ?_
 ·
  rcases br_some hx36 with ⟨h37, hx36⟩ | ⟨h37, hx36⟩
  ·
   refine WL.setB 56 h37 rfl ?_
   refine sg 10 [] [3, 61] [(3, (pt g6)), (61, (bv true))] (by kernel_rfl) ?_
   injection hx36 with hx36
   exact WL.to K true [3, 61] rfl ⟨⟨(hS34.subR [0, 1, 2, 3, 4, 5]).sub [0] (by decide), hx36.symm⟩, trivial⟩
  refine WL.setB 56 h37 rfl ?_
  refine seg 7 [.v e13] [3, 56, 58] [(3, (pt g6)), (56, (bv false)), (58, e13)] [.cell ⟨g6, 1, none⟩ e13] (fun fb => by kernel_rfl) rfl ⟨hS34.cell 0 rfl 1 rfl, trivial⟩ ?_
  obtain ⟨t38, ht39, hx36⟩ := bind_some hx36
  refine WL.call (some 59) 34 #[e13, (.func (.func 39) #[] #[])] (fun fb => by kernel_rfl) (weight_all_with_weight_fraction_valid_calls _ p1.Carries Ac cc t38 _ (hS34.rd 2) ht39) (fun v w40 hR41 => ?_)
  obtain ⟨rfl, hk_⟩ := hR41
  have hS42 := hS34.keepN hk_
  refine ⟨trivial, ?_⟩
  refine sg 10 [] [3, 61] [(3, (pt g6)), (61, (bv (!t38)))] (by kernel_rfl) ?_
  injection hx36 with hx36
  exact WL.to K (!t38) [3, 61] rfl ⟨⟨(hS42.subR [0, 1, 2, 3, 4, 5]).sub [0] (by decide), hx36.symm⟩, trivial⟩
 rintro y43 w45 ⟨⟨hS46, hq44⟩, hF47⟩
 subst hq44
 refine sg 11 [] [3, 62] [(3, (pt g6)), (62, (bv x35))] (by kernel_rfl) ?_
 obtain ⟨x48, hx49, hf⟩ := bind_some hf
 let e14 := sv Ad p1.Factors cd
 refine WL.cutW (T := Bool) 16 (fun t => [(3, (pt g6)), (67, (bv t))]) (fun t w1 => (St NoS w w1 [rowR enc_Tile Aa ca p0, rowR enc_Frac Ab cb p1.Values, rowR enc_Frac Ac cc p1.Carries, rowR enc_Frac Ad cd p1.Factors, rowR encInt Ae ce p1.Primes, rowR encInt Af cf p1.Logs] [blk g6 (.cells #[(sv Ab p1.Values cb), e13, e14, (sv Ae p1.Primes ce), (sv Af p1.Logs cf)] 26 (0, 0))] ∧ x48 = t) ∧ CellsOK [] w1) (fun K => ?_) ?_
 ·
  rcases br_some hx49 with ⟨h50, hx49⟩ | ⟨h50, hx49⟩
  ·
   refine WL.setB 62 h50 rfl ?_
   refine sg 16 [] [3, 67] [(3, (pt g6)), (67, (bv true))] (by kernel_rfl) ?_
   injection hx49 with hx49
   exact WL.to K true [3, 67] rfl ⟨⟨(hS46.subR [0, 1, 2, 3, 4, 5]).sub [0] (by decide), hx49.symm⟩, trivial⟩
  refine WL.setB 62 h50 rfl ?_
  refine seg 13 [.v e14] [3, 62, 64] [(3, (pt g6)), (62, (bv false)), (64, e14)] [.cell ⟨g6, 2, none⟩ e14] (fun fb => by kernel_rfl) rfl ⟨hS46.cell 0 rfl 2 rfl, trivial⟩ ?_
  obtain ⟨t51, ht52, hx49⟩ := bind_some hx49
  refine WL.call (some 65) 34 #[e14, (.func (.func 39) #[] #[])] (fun fb => by kernel_rfl) (weight_all_with_weight_fraction_valid_calls _ p1.Factors Ad cd t51 _ (hS46.rd 3) ht52) (fun v w53 hR54 => ?_)
  obtain ⟨rfl, hk_⟩ := hR54
  have hS55 := hS46.keepN hk_
  refine ⟨trivial, ?_⟩
  refine sg 16 [] [3, 67] [(3, (pt g6)), (67, (bv (!t51)))] (by kernel_rfl) ?_
  injection hx49 with hx49
  exact WL.to K (!t51) [3, 67] rfl ⟨⟨(hS55.subR [0, 1, 2, 3, 4, 5]).sub [0] (by decide), hx49.symm⟩, trivial⟩
 rintro y56 w58 ⟨⟨hS59, hq57⟩, hF60⟩
 subst hq57
 refine WL.done rfl (WX.next ?_)
 rcases br_some hf with ⟨h61, hf⟩ | ⟨h61, hf⟩
 ·refine WC.condT2 (fun fb => by kernel_rfl) h61 ?_
  refine WC.seq (WC.region ?_)
  refine sg 1 [] [4] [(4, (bv false))] (by kernel_rfl) ?_
  refine WL.done rfl (WX.next ?_)
  refine WC.ret ?_
  injection hf with hf
  subst hf
  exact WX.thenR (WX.ret_ [] (bv false) [] (fun fb => by kernel_rfl) trivial ⟨_, rfl, rfl, hS59.keep⟩)
 refine WC.condF2 (fun fb => by kernel_rfl) h61 ?_
 refine WC.skip (WX.next (WC.seq (WC.seq (WC.region ?_))))
 refine seg 2 [.v (sv Ab p1.Values cb)] [3, 69] [(3, (pt g6)), (69, (sv Ab p1.Values cb))] [.cell ⟨g6, 0, none⟩ (sv Ab p1.Values cb)] (fun fb => by kernel_rfl) rfl ⟨hS59.cell 0 rfl 0 rfl, trivial⟩ ?_
 obtain ⟨t62, ht63, hf⟩ := bind_some hf
 refine WL.call (some 70) 34 #[(sv Ab p1.Values cb), (.func (.func 40) #[] #[])] (fun fb => by kernel_rfl) (weight_all_with_weight_Valid_1_calls _ p1.Values Ab cb t62 _ (hS59.rd 1) ht63) (fun v w65 hR66 => ?_)
 obtain ⟨rfl, hk_⟩ := hR66
 have hS67 := hS59.keepN hk_
 refine ⟨trivial, ?_⟩
 refine sg 5 [] [3, 72] [(3, (pt g6)), (72, (bv (!t62)))] (by kernel_rfl) ?_
 obtain ⟨x68, hx69, hf⟩ := bind_some hf
 refine WL.cutW (T := Bool) 10 (fun t => [(3, (pt g6)), (77, (bv t))]) (fun t w1 => (St NoS w w1 [rowR enc_Tile Aa ca p0, rowR enc_Frac Ab cb p1.Values, rowR enc_Frac Ac cc p1.Carries, rowR enc_Frac Ad cd p1.Factors, rowR encInt Ae ce p1.Primes, rowR encInt Af cf p1.Logs] [blk g6 (.cells #[(sv Ab p1.Values cb), e13, e14, (sv Ae p1.Primes ce), (sv Af p1.Logs cf)] 26 (0, 0))] ∧ x68 = t) ∧ CellsOK [] w1) (fun K => ?_) ?_
 ·
  rcases br_some hx69 with ⟨h70, hx69⟩ | ⟨h70, hx69⟩
  ·
   refine WL.setB 72 h70 rfl ?_
   refine sg 10 [] [3, 77] [(3, (pt g6)), (77, (bv true))] (by kernel_rfl) ?_
   injection hx69 with hx69
   exact WL.to K true [3, 77] rfl ⟨⟨(hS67.subR [0, 1, 2, 3, 4, 5]).sub [0] (by decide), hx69.symm⟩, trivial⟩
  refine WL.setB 72 h70 rfl ?_
  refine seg 7 [.v e14] [3, 72, 74] [(3, (pt g6)), (72, (bv false)), (74, e14)] [.cell ⟨g6, 2, none⟩ e14] (fun fb => by kernel_rfl) rfl ⟨hS67.cell 0 rfl 2 rfl, trivial⟩ ?_
  obtain ⟨t71, ht72, hx69⟩ := bind_some hx69
  refine WL.call (some 75) 34 #[e14, (.func (.func 41) #[] #[])] (fun fb => by kernel_rfl) (weight_all_with_weight_Valid_2_calls _ p1.Factors Ad cd t71 _ (hS67.rd 3) ht72) (fun v w73 hR74 => ?_)
  obtain ⟨rfl, hk_⟩ := hR74
  have hS75 := hS67.keepN hk_
  refine ⟨trivial, ?_⟩
  refine sg 10 [] [3, 77] [(3, (pt g6)), (77, (bv (!t71)))] (by kernel_rfl) ?_
  injection hx69 with hx69
  exact WL.to K (!t71) [3, 77] rfl ⟨⟨(hS75.subR [0, 1, 2, 3, 4, 5]).sub [0] (by decide), hx69.symm⟩, trivial⟩
 rintro y76 w78 ⟨⟨hS79, hq77⟩, hF80⟩
 subst hq77
 refine WL.done rfl (WX.next ?_)
 rcases br_some hf with ⟨h81, hf⟩ | ⟨h81, hf⟩
 ·refine WC.condT2 (fun fb => by kernel_rfl) h81 ?_
  refine WC.seq (WC.region ?_)
  refine sg 1 [] [4] [(4, (bv false))] (by kernel_rfl) ?_
  refine WL.done rfl (WX.next ?_)
  refine WC.ret ?_
  injection hf with hf
  subst hf
  exact WX.thenR (WX.ret_ [] (bv false) [] (fun fb => by kernel_rfl) trivial ⟨_, rfl, rfl, hS79.keep⟩)
 refine WC.condF2 (fun fb => by kernel_rfl) h81 ?_
 refine WC.skip (WX.next (WC.seq (WC.seq (WC.region ?_))))
 refine seg 4 [.v (sv Ae p1.Primes ce)] [3, 79, 80, 81] [(3, (pt g6)), (79, (sv Ae p1.Primes ce)), (80, (iv e16)), (81, (iv 0))] [.cell ⟨g6, 3, none⟩ (sv Ae p1.Primes ce)] (fun fb => by kernel_rfl) rfl ⟨hS79.cell 0 rfl 3 rfl, trivial⟩ ?_
 refine WL.done rfl (WX.next ?_)
 obtain ⟨x83, hx84, hf⟩ := bind_some hf
 let e1 : Nat × Value := (80, (iv e16))
 let e2 : Nat × Value := (79, (sv Ae p1.Primes ce))
 let e3 : List Own := [rowR enc_Tile Aa ca p0, rowR enc_Frac Ab cb p1.Values, rowR enc_Frac Ac cc p1.Carries, rowR enc_Frac Ad cd p1.Factors, rowR encInt Ae ce p1.Primes, rowR encInt Af cf p1.Logs]
 let e5 : Nat × Value := (3, (pt g6))
 let e7 : Array Value := #[(sv Ab p1.Values cb), e13, e14, (sv Ae p1.Primes ce), (sv Af p1.Logs cf)]
 let e11 : List Nat := [0, 1, 2, 3, 4, 5]
 let e12 := sv Af p1.Logs cf
 let e15 : List Nat := [3, 7, 8, 79, 80, 81, 96]
 let e17 : List Nat := [3, 7, 79, 80, 81, 104]
 let e18 := (subA Ae ce (0 : Int).toNat 1)
 refine WC.cutN (T := Unit) (fun t => []) (fun t w1 => St NoS w w1 e3 [] ∧ x83 = .inr t) (fun Kx83 => ?_) ?_
 ·
  refine WC.block ?_
  refine WC.loop (T := Int) (fun t => [e5, e2, e1, (81, (iv t))]) (fun n t w1 => St NoS w w1 e3 [blk g6 (.cells e7 26 (0, 0))] ∧ weight_Valid.l0 n t p1 = some x83) k 0 [3, 79, 80, 81] rfl ⟨(hS79.subR e11).sub [0] (by decide), hx84⟩ ?_
  rintro k85 x82 w86 ⟨hS87, hl88⟩
  let e4 : Nat × Value := (81, (iv x82))
  let e6 : Nat × Value := (7, (iv x82))
  let e10 := (sv e18 (cut p1.Primes (0 : Int) x82) (ce - (0 : Int).toNat))
  cases k85 with
  | zero => rw [weight_Valid.l0] at hl88; cases hl88
  | succ k85 =>
   rw [weight_Valid.l0] at hl88
   refine WC.seq (WC.region ?_)
   refine sg 1 [] [3, 79, 80, 81, 82] [e5, e2, e1, e4, (82, (bv (decide (x82 < e16))))] (by kernel_rfl) ?_
   refine WL.done rfl (WX.next (WC.seq ?_))
   rcases br_some hl88 with ⟨h89, hl88⟩ | ⟨h89, hl88⟩
   ·refine WC.condT2 (fun fb => by kernel_rfl) h89 ?_
    refine WC.skip (WX.next (WC.seq (WC.block (WC.seq (WC.region ?_)))))
    refine sg 1 [] [3, 79, 80, 81, 83] [e5, e2, e1, e4, (83, (iv x82))] (by kernel_rfl) ?_
    obtain ⟨h90, hl88⟩ := as_some hl88
    refine seg 5 [.v (iv (rdD p1.Primes x82 0))] [3, 7, 8, 79, 80, 81] [e5, e6, (8, (iv (rdD p1.Primes x82 0))), e2, e1, e4] [.idx Ae x82 p1.Primes.length, .cell ((adr Ae).add ((x82).toNat * 1)) (iv (rdD p1.Primes x82 0))] (fun fb => by kernel_rfl) rfl ⟨rowR.adr (hS87.rd 4).1 h90.1 h90.2, rowR.cell (hS87.rd 4).1 0 h90.1 h90.2 0 rfl, trivial⟩ ?_
    refine WL.done rfl (WX.next (WC.seq (WC.region ?_)))
    refine sg 3 [] [3, 7, 8, 79, 80, 81, 88] [e5, e6, (8, (iv (rdD p1.Primes x82 0))), e2, e1, e4, (88, (bv (decide ((rdD p1.Primes x82 0) < 2))))] (by kernel_rfl) ?_
    let e9 := rdD p1.Primes x82 0
    refine WL.cutV (T := Bool) 6 (fun t => [(91, (bv t)), e5, e6, (8, (iv e9)), e2, e1, e4]) (fun t => ((decide (e9 < 2)) || (decide (e9 > 1000000))) = t) (fun K => ?_) ?_
    ·
     rcases Bool.eq_false_or_eq_true (decide (e9 < 2)) with h91 | h91
     ·
      refine WL.setB 88 h91 rfl ?_
      refine sg 6 [] [3, 7, 8, 79, 80, 81, 91] [e5, e6, (8, (iv e9)), e2, e1, e4, (91, (bv true))] (by kernel_rfl) ?_
      exact WL.toV K true [91, 3, 7, 8, 79, 80, 81] rfl (by first | (rw [h91]; done) | (rw [h91]; rfl))
     refine WL.setB 88 h91 rfl ?_
     refine sg 6 [] [3, 7, 8, 79, 80, 81, 91] [e5, e6, (8, (iv e9)), e2, e1, e4, (91, (bv (decide (e9 > 1000000))))] (by kernel_rfl) ?_
     exact WL.toV K (decide ((rdD p1.Primes x82 0) > 1000000)) [91, 3, 7, 8, 79, 80, 81] rfl (by first | (rw [h91]; done) | (rw [h91]; rfl))
    rintro b92 rfl
    refine sg 7 [] [3, 7, 8, 79, 80, 81, 92] [e5, e6, (8, (iv e9)), e2, e1, e4, (92, (bv ((decide (e9 < 2)) || (decide (e9 > 1000000)))))] (by kernel_rfl) ?_
    obtain ⟨x93, hx94, hl88⟩ := bind_some hl88
    let e8 := iv e9
    refine WL.cutW (T := Bool) 11 (fun t => [e5, e6, (8, e8), e2, e1, e4, (96, (bv t))]) (fun t w1 => (St NoS w w1 e3 [blk g6 (.cells e7 26 (0, 0))] ∧ x93 = t) ∧ CellsOK [] w1) (fun K => ?_) ?_
    ·
     rcases br_some hx94 with ⟨h95, hx94⟩ | ⟨h95, hx94⟩
     ·
      refine WL.setB 92 h95 rfl ?_
      refine sg 11 [] e15 [e5, e6, (8, e8), e2, e1, e4, (96, (bv true))] (by kernel_rfl) ?_
      injection hx94 with hx94
      exact WL.to K true e15 rfl ⟨⟨(hS87.subR e11).sub [0] (by decide), hx94.symm⟩, trivial⟩
     refine WL.setB 92 h95 rfl ?_
     refine sg 8 [] [3, 7, 8, 79, 80, 81, 92, 93] [e5, e6, (8, e8), e2, e1, e4, (92, (bv false)), (93, e8)] (by kernel_rfl) ?_
     obtain ⟨t96, ht97, hx94⟩ := bind_some hx94
     refine WL.call (some 94) 42 #[e8] (fun fb => by kernel_rfl) (weight_prime_calls _ e9 t96 _ ht97) (fun v w98 hR99 => ?_)
     obtain ⟨rfl, hk_⟩ := hR99
     have hS100 := hS87.keepN hk_
     refine ⟨trivial, ?_⟩
     refine sg 11 [] e15 [e5, e6, (8, e8), e2, e1, e4, (96, (bv (!t96)))] (by kernel_rfl) ?_
     injection hx94 with hx94
     exact WL.to K (!t96) e15 rfl ⟨⟨(hS100.subR e11).sub [0] (by decide), hx94.symm⟩, trivial⟩
    rintro y101 w103 ⟨⟨hS104, hq102⟩, hF105⟩
    subst hq102
    refine sg 12 [] [3, 7, 8, 79, 80, 81, 97] [e5, e6, (8, e8), e2, e1, e4, (97, (bv x93))] (by kernel_rfl) ?_
    obtain ⟨x106, hx107, hl88⟩ := bind_some hl88
    refine WL.cutW (T := Bool) 19 (fun t => [e5, e6, e2, e1, e4, (104, (bv t))]) (fun t w1 => (St NoS w w1 e3 [blk g6 (.cells e7 26 (0, 0))] ∧ x106 = t) ∧ CellsOK [] w1) (fun K => ?_) ?_
    ·
     rcases br_some hx107 with ⟨h108, hx107⟩ | ⟨h108, hx107⟩
     ·
      refine WL.setB 97 h108 rfl ?_
      refine sg 19 [] e17 [e5, e6, e2, e1, e4, (104, (bv true))] (by kernel_rfl) ?_
      injection hx107 with hx107
      exact WL.to K true e17 rfl ⟨⟨(hS104.subR e11).sub [0] (by decide), hx107.symm⟩, trivial⟩
     refine WL.setB 97 h108 rfl ?_
     refine seg 15 [.v (sv Ae p1.Primes ce)] [3, 7, 8, 79, 80, 81, 97, 99, 100] [e5, e6, (8, e8), e2, e1, e4, (97, (bv false)), (99, (sv Ae p1.Primes ce)), (100, (iv x82))] [.cell ⟨g6, 3, none⟩ (sv Ae p1.Primes ce)] (fun fb => by kernel_rfl) rfl ⟨hS104.cell 0 rfl 3 rfl, trivial⟩ ?_
     obtain ⟨h109, hx107⟩ := as_some hx107
     refine seg 16 [] [3, 7, 8, 79, 80, 81, 97, 101] [e5, e6, (8, e8), e2, e1, e4, (97, (bv false)), (101, (.slice e18 (x82.toNat - (0 : Int).toNat) (ce - (0 : Int).toNat)))] [.idx (some ⟨0, 0, none⟩) (0 : Int) (x82.toNat + 1), .idx (some ⟨0, 0, none⟩) x82 (ce + 1)] (fun fb => by kernel_rfl) rfl ⟨cut1 h109.1 h109.2.1, cut2 h109.1 h109.2.1 h109.2.2 (hS104.rd 4).1.2, trivial⟩ ?_
     refine WL.reE [3, 7, 8, 79, 80, 81, 97, 101] [(3, (pt g6)), (7, (iv x82)), (8, (iv (rdD p1.Primes x82 0))), (79, (.slice Ae p1.Primes.length ce)), (80, (iv (p1.Primes.length : Int))), (81, (iv x82)), (97, (.bool false)), (101, (.slice (subA Ae ce (0 : Int).toNat 1) (x82.toNat - (0 : Int).toNat) (ce - (0 : Int).toNat)))] [(3, (pt g6)), (7, (iv x82)), (8, (iv (rdD p1.Primes x82 0))), (79, (.slice Ae p1.Primes.length ce)), (80, (iv (p1.Primes.length : Int))), (81, (iv x82)), (97, (.bool false)), (101, (.slice (subA Ae ce (0 : Int).toNat 1) (cut p1.Primes (0 : Int) x82).length (ce - (0 : Int).toNat)))] rfl (by rw [cut_length h109.1 h109.2.1 h109.2.2]) ?_
     have hS110 := hS104.cutR 4 rfl h109.1 h109.2.1 h109.2.2
     refine sg 17 [] [3, 7, 79, 80, 81, 97, 101, 102] [e5, e6, e2, e1, e4, (97, (bv false)), (101, e10), (102, e8)] (by kernel_rfl) ?_
     obtain ⟨t111, ht112, hx107⟩ := bind_some hx107
     refine WL.call (some 103) 43 #[e10, e8] (fun fb => by kernel_rfl) (slices_Contains_int_int_calls _ (cut p1.Primes (0 : Int) x82) e9 e18 (ce - (0 : Int).toNat) t111 _ (hS110.rd 0) ht112) (fun v w113 hR114 => ?_)
     obtain ⟨rfl, hk_⟩ := hR114
     have hS115 := hS110.keepN hk_
     refine ⟨trivial, ?_⟩
     refine sg 19 [] e17 [e5, e6, e2, e1, e4, (104, (bv t111))] (by kernel_rfl) ?_
     injection hx107 with hx107
     exact WL.to K t111 e17 rfl ⟨⟨(hS115.subR [1, 2, 3, 4, 5, 6]).sub [0] (by decide), hx107.symm⟩, trivial⟩
    rintro y116 w118 ⟨⟨hS119, hq117⟩, hF120⟩
    subst hq117
    refine sg 20 [] [3, 7, 79, 80, 81, 105] [e5, e6, e2, e1, e4, (105, (bv x106))] (by kernel_rfl) ?_
    obtain ⟨b121, hv122, hl88⟩ := bind_some hl88
    refine WL.cutV (T := Unit) 27 (fun t => [(112, (bv b121)), e5, e6, e2, e1, e4]) (fun t => True) (fun K => ?_) ?_
    ·
     rcases br_some hv122 with ⟨h123, hv122⟩ | ⟨h123, hv122⟩
     ·
      refine WL.setB 105 h123 rfl ?_
      refine sg 27 [] [3, 7, 79, 80, 81, 112] [e5, e6, e2, e1, e4, (112, (bv true))] (by kernel_rfl) ?_
      injection hv122 with hv122
      subst hv122
      exact WL.toV K () [112, 3, 7, 79, 80, 81] rfl trivial
     refine WL.setB 105 h123 rfl ?_
     refine seg 23 [.v e12] [3, 7, 79, 80, 81, 105, 107, 108] [e5, e6, e2, e1, e4, (105, (bv false)), (107, e12), (108, (iv x82))] [.cell ⟨g6, 4, none⟩ e12] (fun fb => by kernel_rfl) rfl ⟨hS119.cell 0 rfl 4 rfl, trivial⟩ ?_
     obtain ⟨h124, hv122⟩ := as_some hv122
     refine seg 27 [.v (iv (rdD p1.Logs x82 0))] [3, 7, 79, 80, 81, 112] [e5, e6, e2, e1, e4, (112, (bv (decide ((rdD p1.Logs x82 0) < (-1000)))))] [.idx Af x82 p1.Logs.length, .cell ((adr Af).add ((x82).toNat * 1)) (iv (rdD p1.Logs x82 0))] (fun fb => by kernel_rfl) rfl ⟨rowR.adr (hS119.rd 5).1 h124.1 h124.2, rowR.cell (hS119.rd 5).1 0 h124.1 h124.2 0 rfl, trivial⟩ ?_
     injection hv122 with hv122
     subst hv122
     exact WL.toV K () [112, 3, 7, 79, 80, 81] rfl trivial
    rintro _ _
    refine sg 28 [] [3, 7, 79, 80, 81, 113] [e5, e6, e2, e1, e4, (113, (bv b121))] (by kernel_rfl) ?_
    obtain ⟨b125, hv126, hl88⟩ := bind_some hl88
    refine WL.cutV (T := Unit) 35 (fun t => [(120, (bv b125)), e5, e2, e1, e4]) (fun t => True) (fun K => ?_) ?_
    ·
     rcases br_some hv126 with ⟨h127, hv126⟩ | ⟨h127, hv126⟩
     ·
      refine WL.setB 113 h127 rfl ?_
      refine sg 35 [] [3, 79, 80, 81, 120] [e5, e2, e1, e4, (120, (bv true))] (by kernel_rfl) ?_
      injection hv126 with hv126
      subst hv126
      exact WL.toV K () [120, 3, 79, 80, 81] rfl trivial
     refine WL.setB 113 h127 rfl ?_
     refine seg 31 [.v e12] [3, 79, 80, 81, 113, 115, 116] [e5, e2, e1, e4, (113, (bv false)), (115, e12), (116, (iv x82))] [.cell ⟨g6, 4, none⟩ e12] (fun fb => by kernel_rfl) rfl ⟨hS119.cell 0 rfl 4 rfl, trivial⟩ ?_
     obtain ⟨h128, hv126⟩ := as_some hv126
     refine seg 35 [.v (iv (rdD p1.Logs x82 0))] [3, 79, 80, 81, 120] [e5, e2, e1, e4, (120, (bv (decide ((rdD p1.Logs x82 0) > 1000))))] [.idx Af x82 p1.Logs.length, .cell ((adr Af).add ((x82).toNat * 1)) (iv (rdD p1.Logs x82 0))] (fun fb => by kernel_rfl) rfl ⟨rowR.adr (hS119.rd 5).1 h128.1 h128.2, rowR.cell (hS119.rd 5).1 0 h128.1 h128.2 0 rfl, trivial⟩ ?_
     injection hv126 with hv126
     subst hv126
     exact WL.toV K () [120, 3, 79, 80, 81] rfl trivial
    rintro _ _
    refine WL.done rfl (WX.next ?_)
    rcases br_some hl88 with ⟨h129, hl88⟩ | ⟨h129, hl88⟩
    ·refine WC.condT2 (fun fb => by kernel_rfl) h129 ?_
     refine WC.seq (WC.region ?_)
     refine sg 1 [] [4] [(4, (bv false))] (by kernel_rfl) ?_
     refine WL.done rfl (WX.next ?_)
     refine WC.ret ?_
     injection hl88 with hl88
     subst hl88
     injection hf with hf
     subst hf
     exact WX.blockR (WX.thenR (WX.thenR (WX.blockR (WX.thenR (WX.ret_ [] (bv false) [] (fun fb => by kernel_rfl) trivial ⟨_, rfl, rfl, hS119.keep⟩)))))
    refine WC.condF2 (fun fb => by kernel_rfl) h129 ?_
    refine WC.skip ?_
    refine WX.blockN (WX.next ?_)
    refine WC.region ?_
    refine sg 2 [] [3, 79, 80, 81] [e5, e2, e1, (81, (iv (w64 (x82 + 1))))] (by kernel_rfl) ?_
    refine WL.done rfl ?_
    exact WX.again k85 (Nat.lt_succ_self _) (w64 (x82 + 1)) [3, 79, 80, 81] rfl ⟨(hS119.subR e11).sub [0] (by decide), hl88⟩
   refine WC.condF2 (fun fb => by kernel_rfl) h89 ?_
   refine WC.exit ?_
   injection hl88 with hl88
   exact WX.thenX (WX.thenX (WX.blockHere (WX.to Kx83 () [] rfl ⟨(hS87.subR e11).sub [] (by decide), hl88.symm⟩)))
 rintro y133 w130 ⟨hS131, hq132⟩
 subst hq132
 have hf := sum_inr hf
 refine WX.next (WC.seq (WC.region ?_))
 refine sg 1 [] [4] [(4, (bv true))] (by kernel_rfl) ?_
 refine WL.done rfl (WX.next ?_)
 refine WC.ret ?_
 injection hf with hf
 subst hf
 exact WX.ret_ [] (bv true) [] (fun fb => by kernel_rfl) trivial ⟨_, rfl, rfl, hS131.keep⟩
theorem bits_Mul64_calls (p0 : Int) (p1 : Int)  (r : Int × Int) (w : World)  (hf : bits_Mul64 p0 p1 = some r) :
  CallsR Tryz.prog 85 #[(.int .u64 p0), (.int .u64 p1)] w (fun v w' => v = (.tuple #[(.int .u64 r.1), (.int .u64 r.2)]) ∧ Keeps NoS w w') := by
 have hS : St NoS w w [] [] := St.init (ro_nil _ _)
 refine enter 51 Tryz.func85 rfl Tryz.ntmps85 rfl ?_
 unfold bits_Mul64 at hf
 refine WC.seq (WC.region ?_)
 refine sg 2 [] [0, 1] [(0, (.int .u64 p0)), (1, (.int .u64 p1))] (by kernel_rfl) ?_
 refine WL.done rfl (WX.next (WC.seq (WC.region ?_)))
 refine sg 3 [] [0, 1, 6] [(0, (.int .u64 p0)), (1, (.int .u64 p1)), (6, (.int .u64 (andV p0 4294967295)))] (by kernel_rfl) ?_
 refine WL.done rfl (WX.next (WC.seq (WC.region ?_)))
 refine seg 3 [] [0, 1, 6, 7] [(0, (.int .u64 p0)), (1, (.int .u64 p1)), (6, (.int .u64 (andV p0 4294967295))), (7, (.int .u64 (shrV p0 32)))] [.idx (some ⟨0, 0, none⟩) 32 64] (fun fb => by kernel_rfl) rfl ⟨⟨by decide, by decide, rfl⟩, trivial⟩ ?_
 refine WL.done rfl (WX.next (WC.seq (WC.region ?_)))
 refine sg 3 [] [0, 1, 6, 7, 8] [(0, (.int .u64 p0)), (1, (.int .u64 p1)), (6, (.int .u64 (andV p0 4294967295))), (7, (.int .u64 (shrV p0 32))), (8, (.int .u64 (andV p1 4294967295)))] (by kernel_rfl) ?_
 refine WL.done rfl (WX.next (WC.seq (WC.region ?_)))
 refine seg 3 [] [0, 1, 6, 7, 8, 9] [(0, (.int .u64 p0)), (1, (.int .u64 p1)), (6, (.int .u64 (andV p0 4294967295))), (7, (.int .u64 (shrV p0 32))), (8, (.int .u64 (andV p1 4294967295))), (9, (.int .u64 (shrV p1 32)))] [.idx (some ⟨0, 0, none⟩) 32 64] (fun fb => by kernel_rfl) rfl ⟨⟨by decide, by decide, rfl⟩, trivial⟩ ?_
 refine WL.done rfl (WX.next (WC.seq (WC.region ?_)))
 refine sg 4 [] [0, 1, 6, 7, 8, 9, 10] [(0, (.int .u64 p0)), (1, (.int .u64 p1)), (6, (.int .u64 (andV p0 4294967295))), (7, (.int .u64 (shrV p0 32))), (8, (.int .u64 (andV p1 4294967295))), (9, (.int .u64 (shrV p1 32))), (10, (.int .u64 (IntKind.wrap .u64 ((andV p0 4294967295) * (andV p1 4294967295)))))] (by kernel_rfl) ?_
 refine WL.done rfl (WX.next (WC.seq (WC.region ?_)))
 refine seg 7 [] [0, 1, 6, 7, 9, 11] [(0, (.int .u64 p0)), (1, (.int .u64 p1)), (6, (.int .u64 (andV p0 4294967295))), (7, (.int .u64 (shrV p0 32))), (9, (.int .u64 (shrV p1 32))), (11, (.int .u64 (IntKind.wrap .u64 ((IntKind.wrap .u64 ((shrV p0 32) * (andV p1 4294967295))) + (shrV (IntKind.wrap .u64 ((andV p0 4294967295) * (andV p1 4294967295))) 32)))))] [.idx (some ⟨0, 0, none⟩) 32 64] (fun fb => by kernel_rfl) rfl ⟨⟨by decide, by decide, rfl⟩, trivial⟩ ?_
 refine WL.done rfl (WX.next (WC.seq (WC.region ?_)))
 let e1 := andV p1 4294967295
 refine sg 3 [] [0, 1, 6, 7, 9, 11, 12] [(0, (.int .u64 p0)), (1, (.int .u64 p1)), (6, (.int .u64 (andV p0 4294967295))), (7, (.int .u64 (shrV p0 32))), (9, (.int .u64 (shrV p1 32))), (11, (.int .u64 (IntKind.wrap .u64 ((IntKind.wrap .u64 ((shrV p0 32) * e1)) + (shrV (IntKind.wrap .u64 ((andV p0 4294967295) * e1)) 32))))), (12, (.int .u64 (andV (IntKind.wrap .u64 ((IntKind.wrap .u64 ((shrV p0 32) * e1)) + (shrV (IntKind.wrap .u64 ((andV p0 4294967295) * e1)) 32))) 4294967295)))] (by kernel_rfl) ?_
 refine WL.done rfl (WX.next (WC.seq (WC.region ?_)))
 refine seg 3 [] [0, 1, 6, 7, 9, 12, 13] [(0, (.int .u64 p0)), (1, (.int .u64 p1)), (6, (.int .u64 (andV p0 4294967295))), (7, (.int .u64 (shrV p0 32))), (9, (.int .u64 (shrV p1 32))), (12, (.int .u64 (andV (IntKind.wrap .u64 ((IntKind.wrap .u64 ((shrV p0 32) * e1)) + (shrV (IntKind.wrap .u64 ((andV p0 4294967295) * e1)) 32))) 4294967295))), (13, (.int .u64 (shrV (IntKind.wrap .u64 ((IntKind.wrap .u64 ((shrV p0 32) * e1)) + (shrV (IntKind.wrap .u64 ((andV p0 4294967295) * e1)) 32))) 32)))] [.idx (some ⟨0, 0, none⟩) 32 64] (fun fb => by kernel_rfl) rfl ⟨⟨by decide, by decide, rfl⟩, trivial⟩ ?_
 refine WL.done rfl (WX.next (WC.seq (WC.region ?_)))
 refine sg 6 [] [0, 1, 7, 9, 12, 13] [(0, (.int .u64 p0)), (1, (.int .u64 p1)), (7, (.int .u64 (shrV p0 32))), (9, (.int .u64 (shrV p1 32))), (12, (.int .u64 (IntKind.wrap .u64 ((andV (IntKind.wrap .u64 ((IntKind.wrap .u64 ((shrV p0 32) * e1)) + (shrV (IntKind.wrap .u64 ((andV p0 4294967295) * e1)) 32))) 4294967295) + (IntKind.wrap .u64 ((andV p0 4294967295) * (shrV p1 32))))))), (13, (.int .u64 (shrV (IntKind.wrap .u64 ((IntKind.wrap .u64 ((shrV p0 32) * e1)) + (shrV (IntKind.wrap .u64 ((andV p0 4294967295) * e1)) 32))) 32)))] (by kernel_rfl) ?_
 refine WL.done rfl (WX.next (WC.seq (WC.region ?_)))
 refine seg 9 [] [0, 1, 4] [(0, (.int .u64 p0)), (1, (.int .u64 p1)), (4, (.int .u64 (IntKind.wrap .u64 ((IntKind.wrap .u64 ((IntKind.wrap .u64 ((shrV p0 32) * (shrV p1 32))) + (shrV (IntKind.wrap .u64 ((IntKind.wrap .u64 ((shrV p0 32) * e1)) + (shrV (IntKind.wrap .u64 ((andV p0 4294967295) * e1)) 32))) 32))) + (shrV (IntKind.wrap .u64 ((andV (IntKind.wrap .u64 ((IntKind.wrap .u64 ((shrV p0 32) * e1)) + (shrV (IntKind.wrap .u64 ((andV p0 4294967295) * e1)) 32))) 4294967295) + (IntKind.wrap .u64 ((andV p0 4294967295) * (shrV p1 32))))) 32)))))] [.idx (some ⟨0, 0, none⟩) 32 64] (fun fb => by kernel_rfl) rfl ⟨⟨by decide, by decide, rfl⟩, trivial⟩ ?_
 refine WL.done rfl (WX.next (WC.seq (WC.region ?_)))
 refine sg 4 [] [4, 5] [(4, (.int .u64 (IntKind.wrap .u64 ((IntKind.wrap .u64 ((IntKind.wrap .u64 ((shrV p0 32) * (shrV p1 32))) + (shrV (IntKind.wrap .u64 ((IntKind.wrap .u64 ((shrV p0 32) * e1)) + (shrV (IntKind.wrap .u64 ((andV p0 4294967295) * e1)) 32))) 32))) + (shrV (IntKind.wrap .u64 ((andV (IntKind.wrap .u64 ((IntKind.wrap .u64 ((shrV p0 32) * e1)) + (shrV (IntKind.wrap .u64 ((andV p0 4294967295) * e1)) 32))) 4294967295) + (IntKind.wrap .u64 ((andV p0 4294967295) * (shrV p1 32))))) 32))))), (5, (.int .u64 (IntKind.wrap .u64 (p0 * p1))))] (by kernel_rfl) ?_
 refine WL.done rfl (WX.next ?_)
 refine WC.ret ?_
 injection hf with hf
 subst hf
 exact WX.ret_ [] (.tuple #[(.int .u64 (IntKind.wrap .u64 ((IntKind.wrap .u64 ((IntKind.wrap .u64 ((shrV p0 32) * (shrV p1 32))) + (shrV (IntKind.wrap .u64 ((IntKind.wrap .u64 ((shrV p0 32) * e1)) + (shrV (IntKind.wrap .u64 ((andV p0 4294967295) * e1)) 32))) 32))) + (shrV (IntKind.wrap .u64 ((andV (IntKind.wrap .u64 ((IntKind.wrap .u64 ((shrV p0 32) * e1)) + (shrV (IntKind.wrap .u64 ((andV p0 4294967295) * e1)) 32))) 4294967295) + (IntKind.wrap .u64 ((andV p0 4294967295) * (shrV p1 32))))) 32)))), (.int .u64 (IntKind.wrap .u64 (p0 * p1)))]) [] (fun fb => by kernel_rfl) trivial ⟨_, rfl, rfl, hS.keep⟩
theorem bits_Len64_calls (p0 : Int)  (r : Int) (w : World)  (hf : bits_Len64 p0 = some r) :
  CallsR Tryz.prog 117 #[(.int .u64 p0)] w (fun v w' => v = (iv r) ∧ Keeps NoS w w') := by
 have hS : St NoS w w [] [] := St.init (ro_nil _ _)
 refine enter 25 Tryz.func117 rfl Tryz.ntmps117 rfl ?_
 unfold bits_Len64 at hf
 refine WC.seq (WC.region ?_)
 refine sg 1 [] [0, 2] [(0, (.int .u64 p0)), (2, (iv 0))] (by kernel_rfl) ?_
 refine WL.done rfl (WX.next (WC.seq (WC.seq (WC.region ?_))))
 refine sg 2 [] [0, 2, 4] [(0, (.int .u64 p0)), (2, (iv 0)), (4, (bv (decide (p0 ≥ 4294967296))))] (by kernel_rfl) ?_
 refine WL.done rfl (WX.next ?_)
 obtain ⟨x3, hx4, hf⟩ := bind_some hf
 refine WC.cutN (T := Int × Int) (fun t => [(0, (.int .u64 t.1)), (2, (iv t.2))]) (fun t w1 => St NoS w w1 [] [] ∧ x3 = t) (fun Kx3 => ?_) ?_
 ·
  rcases br_some hx4 with ⟨h5, hx4⟩ | ⟨h5, hx4⟩
  ·refine WC.condT2 (fun fb => by kernel_rfl) h5 ?_
   refine WC.seq (WC.region ?_)
   refine seg 3 [] [0] [(0, (.int .u64 (shrV p0 32)))] [.idx (some ⟨0, 0, none⟩) 32 64] (fun fb => by kernel_rfl) rfl ⟨⟨by decide, by decide, rfl⟩, trivial⟩ ?_
   refine WL.done rfl (WX.next (WC.region ?_))
   refine sg 1 [] [0, 2] [(0, (.int .u64 (shrV p0 32))), (2, (iv 32))] (by kernel_rfl) ?_
   refine WL.done rfl ?_
   injection hx4 with hx4
   exact WX.to Kx3 (shrV p0 32, 32) [0, 2] rfl ⟨(hS.subR []).sub [] (by decide), hx4.symm⟩
  refine WC.condF2 (fun fb => by kernel_rfl) h5 ?_
  refine WC.skip ?_
  injection hx4 with hx4
  exact WX.to Kx3 (p0, 0) [0, 2] rfl ⟨(hS.subR []).sub [] (by decide), hx4.symm⟩
 rintro y10 w6 ⟨hS7, hq9⟩
 subst hq9
 refine WX.next (WC.seq (WC.seq (WC.region ?_)))
 refine sg 2 [] [0, 2, 8] [(0, (.int .u64 x3.1)), (2, (iv x3.2)), (8, (bv (decide (x3.1 ≥ 65536))))] (by kernel_rfl) ?_
 refine WL.done rfl (WX.next ?_)
 obtain ⟨x11, hx12, hf⟩ := bind_some hf
 refine WC.cutN (T := Int × Int) (fun t => [(0, (.int .u64 t.1)), (2, (iv t.2))]) (fun t w1 => St NoS w w1 [] [] ∧ x11 = t) (fun Kx11 => ?_) ?_
 ·
  rcases br_some hx12 with ⟨h13, hx12⟩ | ⟨h13, hx12⟩
  ·refine WC.condT2 (fun fb => by kernel_rfl) h13 ?_
   refine WC.seq (WC.region ?_)
   refine seg 3 [] [0, 2] [(0, (.int .u64 (shrV x3.1 16))), (2, (iv x3.2))] [.idx (some ⟨0, 0, none⟩) 16 64] (fun fb => by kernel_rfl) rfl ⟨⟨by decide, by decide, rfl⟩, trivial⟩ ?_
   refine WL.done rfl (WX.next (WC.region ?_))
   refine sg 3 [] [0, 2] [(0, (.int .u64 (shrV x3.1 16))), (2, (iv (w64 (x3.2 + 16))))] (by kernel_rfl) ?_
   refine WL.done rfl ?_
   injection hx12 with hx12
   exact WX.to Kx11 (shrV x3.1 16, w64 (x3.2 + 16)) [0, 2] rfl ⟨(hS7.subR []).sub [] (by decide), hx12.symm⟩
  refine WC.condF2 (fun fb => by kernel_rfl) h13 ?_
  refine WC.skip ?_
  injection hx12 with hx12
  exact WX.to Kx11 (x3.1, x3.2) [0, 2] rfl ⟨(hS7.subR []).sub [] (by decide), hx12.symm⟩
 rintro y17 w14 ⟨hS15, hq16⟩
 subst hq16
 refine WX.next (WC.seq (WC.seq (WC.region ?_)))
 refine sg 2 [] [0, 2, 14] [(0, (.int .u64 x11.1)), (2, (iv x11.2)), (14, (bv (decide (x11.1 ≥ 256))))] (by kernel_rfl) ?_
 refine WL.done rfl (WX.next ?_)
 obtain ⟨x18, hx19, hf⟩ := bind_some hf
 refine WC.cutN (T := Int × Int) (fun t => [(0, (.int .u64 t.1)), (2, (iv t.2))]) (fun t w1 => St NoS w w1 [] [] ∧ x18 = t) (fun Kx18 => ?_) ?_
 ·
  rcases br_some hx19 with ⟨h20, hx19⟩ | ⟨h20, hx19⟩
  ·refine WC.condT2 (fun fb => by kernel_rfl) h20 ?_
   refine WC.seq (WC.region ?_)
   refine seg 3 [] [0, 2] [(0, (.int .u64 (shrV x11.1 8))), (2, (iv x11.2))] [.idx (some ⟨0, 0, none⟩) 8 64] (fun fb => by kernel_rfl) rfl ⟨⟨by decide, by decide, rfl⟩, trivial⟩ ?_
   refine WL.done rfl (WX.next (WC.region ?_))
   refine sg 3 [] [0, 2] [(0, (.int .u64 (shrV x11.1 8))), (2, (iv (w64 (x11.2 + 8))))] (by kernel_rfl) ?_
   refine WL.done rfl ?_
   injection hx19 with hx19
   exact WX.to Kx18 (shrV x11.1 8, w64 (x11.2 + 8)) [0, 2] rfl ⟨(hS15.subR []).sub [] (by decide), hx19.symm⟩
  refine WC.condF2 (fun fb => by kernel_rfl) h20 ?_
  refine WC.skip ?_
  injection hx19 with hx19
  exact WX.to Kx18 (x11.1, x11.2) [0, 2] rfl ⟨(hS15.subR []).sub [] (by decide), hx19.symm⟩
 rintro y24 w21 ⟨hS22, hq23⟩
 subst hq23
 refine WX.next (WC.seq (WC.region ?_))
 refine sg 3 [] [19, 21] [(19, (iv x18.2)), (21, (.int .u8 (IntKind.wrap .u8 (x18.1))))] (by kernel_rfl) ?_
 obtain ⟨h25, hf⟩ := as_some hf
 refine seg 7 [] [2] [(2, (iv (w64 (x18.2 + (w64 (strAt (⟨#[0, 1, 2, 2, 3, 3, 3, 3, 4, 4, 4, 4, 4, 4, 4, 4, 5, 5, 5, 5, 5, 5, 5, 5, 5, 5, 5, 5, 5, 5, 5, 5, 6, 6, 6, 6, 6, 6, 6, 6, 6, 6, 6, 6, 6, 6, 6, 6, 6, 6, 6, 6, 6, 6, 6, 6, 6, 6, 6, 6, 6, 6, 6, 6, 7, 7, 7, 7, 7, 7, 7, 7, 7, 7, 7, 7, 7, 7, 7, 7, 7, 7, 7, 7, 7, 7, 7, 7, 7, 7, 7, 7, 7, 7, 7, 7, 7, 7, 7, 7, 7, 7, 7, 7, 7, 7, 7, 7, 7, 7, 7, 7, 7, 7, 7, 7, 7, 7, 7, 7, 7, 7, 7, 7, 7, 7, 7, 7, 8, 8, 8, 8, 8, 8, 8, 8, 8, 8, 8, 8, 8, 8, 8, 8, 8, 8, 8, 8, 8, 8, 8, 8, 8, 8, 8, 8, 8, 8, 8, 8, 8, 8, 8, 8, 8, 8, 8, 8, 8, 8, 8, 8, 8, 8, 8, 8, 8, 8, 8, 8, 8, 8, 8, 8, 8, 8, 8, 8, 8, 8, 8, 8, 8, 8, 8, 8, 8, 8, 8, 8, 8, 8, 8, 8, 8, 8, 8, 8, 8, 8, 8, 8, 8, 8, 8, 8, 8, 8, 8, 8, 8, 8, 8, 8, 8, 8, 8, 8, 8, 8, 8, 8, 8, 8, 8, 8, 8, 8, 8, 8, 8, 8, 8, 8, 8, 8, 8, 8, 8, 8, 8, 8, 8, 8, 8, 8]⟩ : ByteArray) (IntKind.wrap .u8 (x18.1))))))))] [.idx (some ⟨0, 0, none⟩) (IntKind.wrap .u8 (x18.1)) (⟨#[0, 1, 2, 2, 3, 3, 3, 3, 4, 4, 4, 4, 4, 4, 4, 4, 5, 5, 5, 5, 5, 5, 5, 5, 5, 5, 5, 5, 5, 5, 5, 5, 6, 6, 6, 6, 6, 6, 6, 6, 6, 6, 6, 6, 6, 6, 6, 6, 6, 6, 6, 6, 6, 6, 6, 6, 6, 6, 6, 6, 6, 6, 6, 6, 7, 7, 7, 7, 7, 7, 7, 7, 7, 7, 7, 7, 7, 7, 7, 7, 7, 7, 7, 7, 7, 7, 7, 7, 7, 7, 7, 7, 7, 7, 7, 7, 7, 7, 7, 7, 7, 7, 7, 7, 7, 7, 7, 7, 7, 7, 7, 7, 7, 7, 7, 7, 7, 7, 7, 7, 7, 7, 7, 7, 7, 7, 7, 7, 8, 8, 8, 8, 8, 8, 8, 8, 8, 8, 8, 8, 8, 8, 8, 8, 8, 8, 8, 8, 8, 8, 8, 8, 8, 8, 8, 8, 8, 8, 8, 8, 8, 8, 8, 8, 8, 8, 8, 8, 8, 8, 8, 8, 8, 8, 8, 8, 8, 8, 8, 8, 8, 8, 8, 8, 8, 8, 8, 8, 8, 8, 8, 8, 8, 8, 8, 8, 8, 8, 8, 8, 8, 8, 8, 8, 8, 8, 8, 8, 8, 8, 8, 8, 8, 8, 8, 8, 8, 8, 8, 8, 8, 8, 8, 8, 8, 8, 8, 8, 8, 8, 8, 8, 8, 8, 8, 8, 8, 8, 8, 8, 8, 8, 8, 8, 8, 8, 8, 8, 8, 8, 8, 8, 8, 8, 8, 8]⟩ : ByteArray).size] (fun fb => by kernel_rfl) rfl ⟨⟨h25.1, h25.2, rfl⟩, trivial⟩ ?_
 refine WL.done rfl (WX.next ?_)
 refine WC.ret ?_
 injection hf with hf
 subst hf
 exact WX.ret_ [] (iv (w64 (x18.2 + (w64 (strAt (⟨#[0, 1, 2, 2, 3, 3, 3, 3, 4, 4, 4, 4, 4, 4, 4, 4, 5, 5, 5, 5, 5, 5, 5, 5, 5, 5, 5, 5, 5, 5, 5, 5, 6, 6, 6, 6, 6, 6, 6, 6, 6, 6, 6, 6, 6, 6, 6, 6, 6, 6, 6, 6, 6, 6, 6, 6, 6, 6, 6, 6, 6, 6, 6, 6, 7, 7, 7, 7, 7, 7, 7, 7, 7, 7, 7, 7, 7, 7, 7, 7, 7, 7, 7, 7, 7, 7, 7, 7, 7, 7, 7, 7, 7, 7, 7, 7, 7, 7, 7, 7, 7, 7, 7, 7, 7, 7, 7, 7, 7, 7, 7, 7, 7, 7, 7, 7, 7, 7, 7, 7, 7, 7, 7, 7, 7, 7, 7, 7, 8, 8, 8, 8, 8, 8, 8, 8, 8, 8, 8, 8, 8, 8, 8, 8, 8, 8, 8, 8, 8, 8, 8, 8, 8, 8, 8, 8, 8, 8, 8, 8, 8, 8, 8, 8, 8, 8, 8, 8, 8, 8, 8, 8, 8, 8, 8, 8, 8, 8, 8, 8, 8, 8, 8, 8, 8, 8, 8, 8, 8, 8, 8, 8, 8, 8, 8, 8, 8, 8, 8, 8, 8, 8, 8, 8, 8, 8, 8, 8, 8, 8, 8, 8, 8, 8, 8, 8, 8, 8, 8, 8, 8, 8, 8, 8, 8, 8, 8, 8, 8, 8, 8, 8, 8, 8, 8, 8, 8, 8, 8, 8, 8, 8, 8, 8, 8, 8, 8, 8, 8, 8, 8, 8, 8, 8, 8, 8]⟩ : ByteArray) (IntKind.wrap .u8 (x18.1))))))) [] (fun fb => by kernel_rfl) trivial ⟨_, rfl, rfl, hS22.keep⟩
theorem bits_LeadingZeros64_calls (p0 : Int)  (r : Int) (w : World)  (hf : bits_LeadingZeros64 p0 = some r) :
  CallsR Tryz.prog 104 #[(.int .u64 p0)] w (fun v w' => v = (iv r) ∧ Keeps NoS w w') := by
 have hS : St NoS w w [] [] := St.init (ro_nil _ _)
 refine enter 6 Tryz.func104 rfl Tryz.ntmps104 rfl ?_
 unfold bits_LeadingZeros64 at hf
 refine WC.seq (WC.region ?_)
 refine sg 1 [] [0] [(0, (.int .u64 p0))] (by kernel_rfl) ?_
 refine WL.done rfl (WX.next (WC.seq (WC.region ?_)))
 refine sg 1 [] [3] [(3, (.int .u64 p0))] (by kernel_rfl) ?_
 obtain ⟨t1, ht2, hf⟩ := bind_some hf
 refine WL.call (some 4) 117 #[(.int .u64 p0)] (fun fb => by kernel_rfl) (bits_Len64_calls p0 t1 _ ht2) (fun v w3 hR4 => ?_)
 obtain ⟨rfl, hk_⟩ := hR4
 have hS5 := hS.keepN hk_
 refine ⟨trivial, ?_⟩
 refine sg 4 [] [2] [(2, (iv (w64 (64 - t1))))] (by kernel_rfl) ?_
 refine WL.done rfl (WX.next ?_)
 refine WC.ret ?_
 injection hf with hf
 subst hf
 exact WX.ret_ [] (iv (w64 (64 - t1))) [] (fun fb => by kernel_rfl) trivial ⟨_, rfl, rfl, hS5.keep⟩
theorem bits_Div64_calls (k : Nat) (p0 : Int) (p1 : Int) (p2 : Int)  (r : Int × Int) (w : World)  (hf : bits_Div64 k p0 p1 p2 = some r) :
  CallsR Tryz.prog 86 #[(.int .u64 p0), (.int .u64 p1), (.int .u64 p2)] w (fun v w' => v = (.tuple #[(.int .u64 r.1), (.int .u64 r.2)]) ∧ Keeps NoS w w') := by
 have hS : St NoS w w [] [] := St.init (ro_nil _ _)
 refine enter 135 Tryz.func86 rfl Tryz.ntmps86 rfl ?_
 unfold bits_Div64 at hf
 refine WC.seq (WC.region ?_)
 refine sg 2 [] [0, 1, 2] [(0, (.int .u64 p0)), (1, (.int .u64 p1)), (2, (.int .u64 p2))] (by kernel_rfl) ?_
 refine WL.done rfl (WX.next (WC.seq (WC.seq (WC.region ?_))))
 refine sg 2 [] [0, 1, 2, 20] [(0, (.int .u64 p0)), (1, (.int .u64 p1)), (2, (.int .u64 p2)), (20, (bv (p2 == 0)))] (by kernel_rfl) ?_
 refine WL.done rfl (WX.next ?_)
 rcases br_some hf with ⟨h3, hf⟩ | ⟨h3, hf⟩
 ·refine WC.condT2 (fun fb => by kernel_rfl) h3 ?_
  cases hf
 refine WC.condF2 (fun fb => by kernel_rfl) h3 ?_
 refine WC.skip (WX.next (WC.seq (WC.seq (WC.region ?_))))
 refine sg 3 [] [0, 1, 2, 24] [(0, (.int .u64 p0)), (1, (.int .u64 p1)), (2, (.int .u64 p2)), (24, (bv (decide (p2 ≤ p0))))] (by kernel_rfl) ?_
 refine WL.done rfl (WX.next ?_)
 rcases br_some hf with ⟨h4, hf⟩ | ⟨h4, hf⟩
 ·refine WC.condT2 (fun fb => by kernel_rfl) h4 ?_
  cases hf
 refine WC.condF2 (fun fb => by kernel_rfl) h4 ?_
 refine WC.skip (WX.next (WC.seq (WC.seq (WC.region ?_))))
 refine sg 2 [] [0, 1, 2, 27] [(0, (.int .u64 p0)), (1, (.int .u64 p1)), (2, (.int .u64 p2)), (27, (bv (p0 == 0)))] (by kernel_rfl) ?_
 refine WL.done rfl (WX.next ?_)
 rcases br_some hf with ⟨h5, hf⟩ | ⟨h5, hf⟩
 ·refine WC.condT2 (fun fb => by kernel_rfl) h5 ?_
  refine WC.seq ?_
  obtain ⟨h8, hf⟩ := as_some hf
  refine WC.regionD ([], [0, 1, 2, 3, 4, 5, 6, 7], [[], [], [0, 1], [], [], [3, 4], [0, 1, 2], [0, 1, 2, 3, 4, 5, 6]]) [[0, 1, 2, 3, 4, 5, 6, 7]] (by kernel_rfl) (by kernel_rfl) (NoPanic.seq (NoPanic.seq (NoPanic.body))) ?_
  have hS7 := hS.drew
  revert hS7
  generalize World.drew w = w6
  intro hS7
  refine ⟨trivial, forallC ?_ (forallN)⟩
  refine seg 8 [] [6, 7] [(6, (.int .u64 (IntKind.wrap .u64 (Int.tdiv p1 p2)))), (7, (.int .u64 (Int.tmod p1 p2)))] [.ne p2, .ne p2] (fun fb => by kernel_rfl) rfl ⟨h8, h8, trivial⟩ ?_
  refine WL.done rfl (WX.next ?_)
  refine WC.ret ?_
  injection hf with hf
  subst hf
  exact WX.thenR (WX.ret_ [] (.tuple #[(.int .u64 (IntKind.wrap .u64 (Int.tdiv p1 p2))), (.int .u64 (Int.tmod p1 p2))]) [] (fun fb => by kernel_rfl) trivial ⟨_, rfl, rfl, hS7.keep⟩)
 refine WC.condF2 (fun fb => by kernel_rfl) h5 ?_
 refine WC.skip (WX.next (WC.seq (WC.region ?_)))
 refine sg 1 [] [0, 1, 2, 34] [(0, (.int .u64 p0)), (1, (.int .u64 p1)), (2, (.int .u64 p2)), (34, (.int .u64 p2))] (by kernel_rfl) ?_
 obtain ⟨t9, ht10, hf⟩ := bind_some hf
 refine WL.call (some 35) 104 #[(.int .u64 p2)] (fun fb => by kernel_rfl) (bits_LeadingZeros64_calls p2 t9 _ ht10) (fun v w11 hR12 => ?_)
 obtain ⟨rfl, hk_⟩ := hR12
 have hS13 := hS.keepN hk_
 refine ⟨trivial, ?_⟩
 refine sg 4 [] [0, 1, 2, 8] [(0, (.int .u64 p0)), (1, (.int .u64 p1)), (2, (.int .u64 p2)), (8, (.int .u64 (IntKind.wrap .u64 (t9))))] (by kernel_rfl) ?_
 refine WL.done rfl (WX.next (WC.seq (WC.region ?_)))
 refine sg 2 [] [0, 1, 8, 37, 38] [(0, (.int .u64 p0)), (1, (.int .u64 p1)), (8, (.int .u64 (IntKind.wrap .u64 (t9)))), (37, (.int .u64 p2)), (38, (.int .u64 (IntKind.wrap .u64 (t9))))] (by kernel_rfl) ?_
 obtain ⟨h14, hf⟩ := as_some hf
 refine seg 4 [] [0, 1, 2, 8] [(0, (.int .u64 p0)), (1, (.int .u64 p1)), (2, (.int .u64 (shlV p2 (IntKind.wrap .u64 (t9))))), (8, (.int .u64 (IntKind.wrap .u64 (t9))))] [.idx (some ⟨0, 0, none⟩) (IntKind.wrap .u64 (t9)) 64] (fun fb => by kernel_rfl) rfl ⟨⟨h14.1, h14.2, rfl⟩, trivial⟩ ?_
 refine WL.done rfl (WX.next (WC.seq (WC.region ?_)))
 refine seg 3 [] [0, 1, 2, 8, 9] [(0, (.int .u64 p0)), (1, (.int .u64 p1)), (2, (.int .u64 (shlV p2 (IntKind.wrap .u64 (t9))))), (8, (.int .u64 (IntKind.wrap .u64 (t9)))), (9, (.int .u64 (shrV (shlV p2 (IntKind.wrap .u64 (t9))) 32)))] [.idx (some ⟨0, 0, none⟩) 32 64] (fun fb => by kernel_rfl) rfl ⟨⟨by decide, by decide, rfl⟩, trivial⟩ ?_
 refine WL.done rfl (WX.next (WC.seq (WC.region ?_)))
 refine sg 3 [] [0, 1, 2, 8, 9, 10] [(0, (.int .u64 p0)), (1, (.int .u64 p1)), (2, (.int .u64 (shlV p2 (IntKind.wrap .u64 (t9))))), (8, (.int .u64 (IntKind.wrap .u64 (t9)))), (9, (.int .u64 (shrV (shlV p2 (IntKind.wrap .u64 (t9))) 32))), (10, (.int .u64 (andV (shlV p2 (IntKind.wrap .u64 (t9))) 4294967295)))] (by kernel_rfl) ?_
 refine WL.done rfl (WX.next (WC.seq (WC.region ?_)))
 refine seg 6 [] [1, 2, 8, 9, 10, 46, 47, 49] [(1, (.int .u64 p1)), (2, (.int .u64 (shlV p2 (IntKind.wrap .u64 (t9))))), (8, (.int .u64 (IntKind.wrap .u64 (t9)))), (9, (.int .u64 (shrV (shlV p2 (IntKind.wrap .u64 (t9))) 32))), (10, (.int .u64 (andV (shlV p2 (IntKind.wrap .u64 (t9))) 4294967295))), (46, (.int .u64 (shlV p0 (IntKind.wrap .u64 (t9))))), (47, (.int .u64 p1)), (49, (.int .u64 (IntKind.wrap .u64 (64 - (IntKind.wrap .u64 (t9))))))] [.idx (some ⟨0, 0, none⟩) (IntKind.wrap .u64 (t9)) 64] (fun fb => by kernel_rfl) rfl ⟨⟨h14.1, h14.2, rfl⟩, trivial⟩ ?_
 obtain ⟨h15, hf⟩ := as_some hf
 refine seg 9 [] [1, 2, 8, 9, 10, 11] [(1, (.int .u64 p1)), (2, (.int .u64 (shlV p2 (IntKind.wrap .u64 (t9))))), (8, (.int .u64 (IntKind.wrap .u64 (t9)))), (9, (.int .u64 (shrV (shlV p2 (IntKind.wrap .u64 (t9))) 32))), (10, (.int .u64 (andV (shlV p2 (IntKind.wrap .u64 (t9))) 4294967295))), (11, (.int .u64 (orV (shlV p0 (IntKind.wrap .u64 (t9))) (shrV p1 (IntKind.wrap .u64 (64 - (IntKind.wrap .u64 (t9))))))))] [.idx (some ⟨0, 0, none⟩) (IntKind.wrap .u64 (64 - (IntKind.wrap .u64 (t9)))) 64] (fun fb => by kernel_rfl) rfl ⟨⟨h15.1, h15.2, rfl⟩, trivial⟩ ?_
 refine WL.done rfl (WX.next (WC.seq (WC.region ?_)))
 refine seg 4 [] [2, 8, 9, 10, 11, 12] [(2, (.int .u64 (shlV p2 (IntKind.wrap .u64 (t9))))), (8, (.int .u64 (IntKind.wrap .u64 (t9)))), (9, (.int .u64 (shrV (shlV p2 (IntKind.wrap .u64 (t9))) 32))), (10, (.int .u64 (andV (shlV p2 (IntKind.wrap .u64 (t9))) 4294967295))), (11, (.int .u64 (orV (shlV p0 (IntKind.wrap .u64 (t9))) (shrV p1 (IntKind.wrap .u64 (64 - (IntKind.wrap .u64 (t9)))))))), (12, (.int .u64 (shlV p1 (IntKind.wrap .u64 (t9)))))] [.idx (some ⟨0, 0, none⟩) (IntKind.wrap .u64 (t9)) 64] (fun fb => by kernel_rfl) rfl ⟨⟨h14.1, h14.2, rfl⟩, trivial⟩ ?_
 refine WL.done rfl (WX.next (WC.seq (WC.region ?_)))
 refine seg 3 [] [2, 8, 9, 10, 11, 12, 13] [(2, (.int .u64 (shlV p2 (IntKind.wrap .u64 (t9))))), (8, (.int .u64 (IntKind.wrap .u64 (t9)))), (9, (.int .u64 (shrV (shlV p2 (IntKind.wrap .u64 (t9))) 32))), (10, (.int .u64 (andV (shlV p2 (IntKind.wrap .u64 (t9))) 4294967295))), (11, (.int .u64 (orV (shlV p0 (IntKind.wrap .u64 (t9))) (shrV p1 (IntKind.wrap .u64 (64 - (IntKind.wrap .u64 (t9)))))))), (12, (.int .u64 (shlV p1 (IntKind.wrap .u64 (t9))))), (13, (.int .u64 (shrV (shlV p1 (IntKind.wrap .u64 (t9))) 32)))] [.idx (some ⟨0, 0, none⟩) 32 64] (fun fb => by kernel_rfl) rfl ⟨⟨by decide, by decide, rfl⟩, trivial⟩ ?_
 refine WL.done rfl (WX.next (WC.seq (WC.region ?_)))
 refine sg 3 [] [2, 8, 9, 10, 11, 13, 14] [(2, (.int .u64 (shlV p2 (IntKind.wrap .u64 (t9))))), (8, (.int .u64 (IntKind.wrap .u64 (t9)))), (9, (.int .u64 (shrV (shlV p2 (IntKind.wrap .u64 (t9))) 32))), (10, (.int .u64 (andV (shlV p2 (IntKind.wrap .u64 (t9))) 4294967295))), (11, (.int .u64 (orV (shlV p0 (IntKind.wrap .u64 (t9))) (shrV p1 (IntKind.wrap .u64 (64 - (IntKind.wrap .u64 (t9)))))))), (13, (.int .u64 (shrV (shlV p1 (IntKind.wrap .u64 (t9))) 32))), (14, (.int .u64 (andV (shlV p1 (IntKind.wrap .u64 (t9))) 4294967295)))] (by kernel_rfl) ?_
 refine WL.done rfl (WX.next (WC.seq (WC.region ?_)))
 refine sg 2 [] [2, 8, 9, 10, 11, 13, 14, 59, 60] [(2, (.int .u64 (shlV p2 (IntKind.wrap .u64 (t9))))), (8, (.int .u64 (IntKind.wrap .u64 (t9)))), (9, (.int .u64 (shrV (shlV p2 (IntKind.wrap .u64 (t9))) 32))), (10, (.int .u64 (andV (shlV p2 (IntKind.wrap .u64 (t9))) 4294967295))), (11, (.int .u64 (orV (shlV p0 (IntKind.wrap .u64 (t9))) (shrV p1 (IntKind.wrap .u64 (64 - (IntKind.wrap .u64 (t9)))))))), (13, (.int .u64 (shrV (shlV p1 (IntKind.wrap .u64 (t9))) 32))), (14, (.int .u64 (andV (shlV p1 (IntKind.wrap .u64 (t9))) 4294967295))), (59, (.int .u64 (orV (shlV p0 (IntKind.wrap .u64 (t9))) (shrV p1 (IntKind.wrap .u64 (64 - (IntKind.wrap .u64 (t9)))))))), (60, (.int .u64 (shrV (shlV p2 (IntKind.wrap .u64 (t9))) 32)))] (by kernel_rfl) ?_
 obtain ⟨h16, hf⟩ := as_some hf
 refine seg 4 [] [2, 8, 9, 10, 11, 13, 14, 15] [(2, (.int .u64 (shlV p2 (IntKind.wrap .u64 (t9))))), (8, (.int .u64 (IntKind.wrap .u64 (t9)))), (9, (.int .u64 (shrV (shlV p2 (IntKind.wrap .u64 (t9))) 32))), (10, (.int .u64 (andV (shlV p2 (IntKind.wrap .u64 (t9))) 4294967295))), (11, (.int .u64 (orV (shlV p0 (IntKind.wrap .u64 (t9))) (shrV p1 (IntKind.wrap .u64 (64 - (IntKind.wrap .u64 (t9)))))))), (13, (.int .u64 (shrV (shlV p1 (IntKind.wrap .u64 (t9))) 32))), (14, (.int .u64 (andV (shlV p1 (IntKind.wrap .u64 (t9))) 4294967295))), (15, (.int .u64 (IntKind.wrap .u64 (Int.tdiv (orV (shlV p0 (IntKind.wrap .u64 (t9))) (shrV p1 (IntKind.wrap .u64 (64 - (IntKind.wrap .u64 (t9)))))) (shrV (shlV p2 (IntKind.wrap .u64 (t9))) 32)))))] [.ne (shrV (shlV p2 (IntKind.wrap .u64 (t9))) 32)] (fun fb => by kernel_rfl) rfl ⟨h16, trivial⟩ ?_
 refine WL.done rfl (WX.next (WC.seq (WC.region ?_)))
 refine sg 6 [] [2, 8, 9, 10, 11, 13, 14, 15, 16] [(2, (.int .u64 (shlV p2 (IntKind.wrap .u64 (t9))))), (8, (.int .u64 (IntKind.wrap .u64 (t9)))), (9, (.int .u64 (shrV (shlV p2 (IntKind.wrap .u64 (t9))) 32))), (10, (.int .u64 (andV (shlV p2 (IntKind.wrap .u64 (t9))) 4294967295))), (11, (.int .u64 (orV (shlV p0 (IntKind.wrap .u64 (t9))) (shrV p1 (IntKind.wrap .u64 (64 - (IntKind.wrap .u64 (t9)))))))), (13, (.int .u64 (shrV (shlV p1 (IntKind.wrap .u64 (t9))) 32))), (14, (.int .u64 (andV (shlV p1 (IntKind.wrap .u64 (t9))) 4294967295))), (15, (.int .u64 (IntKind.wrap .u64 (Int.tdiv (orV (shlV p0 (IntKind.wrap .u64 (t9))) (shrV p1 (IntKind.wrap .u64 (64 - (IntKind.wrap .u64 (t9)))))) (shrV (shlV p2 (IntKind.wrap .u64 (t9))) 32))))), (16, (.int .u64 (IntKind.wrap .u64 ((orV (shlV p0 (IntKind.wrap .u64 (t9))) (shrV p1 (IntKind.wrap .u64 (64 - (IntKind.wrap .u64 (t9)))))) - (IntKind.wrap .u64 ((IntKind.wrap .u64 (Int.tdiv (orV (shlV p0 (IntKind.wrap .u64 (t9))) (shrV p1 (IntKind.wrap .u64 (64 - (IntKind.wrap .u64 (t9)))))) (shrV (shlV p2 (IntKind.wrap .u64 (t9))) 32))) * (shrV (shlV p2 (IntKind.wrap .u64 (t9))) 32)))))))] (by kernel_rfl) ?_
 refine WL.done rfl (WX.next (WC.seq ?_))
 obtain ⟨x19, hx20, hf⟩ := bind_some hf
 let e1 : List Nat := [2, 8, 9, 10, 11, 13, 14, 15, 16]
 refine WC.cutN (T := Int) (fun t => [(2, (.int .u64 (shlV p2 (IntKind.wrap .u64 (t9))))), (8, (.int .u64 (IntKind.wrap .u64 (t9)))), (9, (.int .u64 (shrV (shlV p2 (IntKind.wrap .u64 (t9))) 32))), (10, (.int .u64 (andV (shlV p2 (IntKind.wrap .u64 (t9))) 4294967295))), (11, (.int .u64 (orV (shlV p0 (IntKind.wrap .u64 (t9))) (shrV p1 (IntKind.wrap .u64 (64 - (IntKind.wrap .u64 (t9)))))))), (13, (.int .u64 (shrV (shlV p1 (IntKind.wrap .u64 (t9))) 32))), (14, (.int .u64 (andV (shlV p1 (IntKind.wrap .u64 (t9))) 4294967295))), (15, (.int .u64 t))]) (fun t w1 => St NoS w w1 [] [] ∧ x19 = t) (fun Kx19 => ?_) ?_
 ·
  refine WC.block ?_
  refine WC.loop (T := Int × Int) (fun t => [(2, (.int .u64 (shlV p2 (IntKind.wrap .u64 (t9))))), (8, (.int .u64 (IntKind.wrap .u64 (t9)))), (9, (.int .u64 (shrV (shlV p2 (IntKind.wrap .u64 (t9))) 32))), (10, (.int .u64 (andV (shlV p2 (IntKind.wrap .u64 (t9))) 4294967295))), (11, (.int .u64 (orV (shlV p0 (IntKind.wrap .u64 (t9))) (shrV p1 (IntKind.wrap .u64 (64 - (IntKind.wrap .u64 (t9)))))))), (13, (.int .u64 (shrV (shlV p1 (IntKind.wrap .u64 (t9))) 32))), (14, (.int .u64 (andV (shlV p1 (IntKind.wrap .u64 (t9))) 4294967295))), (15, (.int .u64 t.1)), (16, (.int .u64 t.2))]) (fun n t w1 => St NoS w w1 [] [] ∧ bits_Div64.l0 n t.1 t.2 p1 p2 t9 = some x19) k (IntKind.wrap .u64 (Int.tdiv (orV (shlV p0 (IntKind.wrap .u64 (t9))) (shrV p1 (IntKind.wrap .u64 (64 - (IntKind.wrap .u64 (t9)))))) (shrV (shlV p2 (IntKind.wrap .u64 (t9))) 32)), IntKind.wrap .u64 ((orV (shlV p0 (IntKind.wrap .u64 (t9))) (shrV p1 (IntKind.wrap .u64 (64 - (IntKind.wrap .u64 (t9)))))) - (IntKind.wrap .u64 ((IntKind.wrap .u64 (Int.tdiv (orV (shlV p0 (IntKind.wrap .u64 (t9))) (shrV p1 (IntKind.wrap .u64 (64 - (IntKind.wrap .u64 (t9)))))) (shrV (shlV p2 (IntKind.wrap .u64 (t9))) 32))) * (shrV (shlV p2 (IntKind.wrap .u64 (t9))) 32))))) e1 rfl ⟨(hS13.subR []).sub [] (by decide), hx20⟩ ?_
  rintro k21 ⟨x17, x18⟩ w22 ⟨hS23, hl24⟩
  let e3 := decide (x17 ≥ 4294967296)
  cases k21 with
  | zero => rw [bits_Div64.l0] at hl24; cases hl24
  | succ k21 =>
   rw [bits_Div64.l0] at hl24
   refine WC.seq (WC.seq (WC.region ?_))
   refine sg 3 [] [2, 8, 9, 10, 11, 13, 14, 15, 16, 69] [(2, (.int .u64 (shlV p2 (IntKind.wrap .u64 (t9))))), (8, (.int .u64 (IntKind.wrap .u64 (t9)))), (9, (.int .u64 (shrV (shlV p2 (IntKind.wrap .u64 (t9))) 32))), (10, (.int .u64 (andV (shlV p2 (IntKind.wrap .u64 (t9))) 4294967295))), (11, (.int .u64 (orV (shlV p0 (IntKind.wrap .u64 (t9))) (shrV p1 (IntKind.wrap .u64 (64 - (IntKind.wrap .u64 (t9)))))))), (13, (.int .u64 (shrV (shlV p1 (IntKind.wrap .u64 (t9))) 32))), (14, (.int .u64 (andV (shlV p1 (IntKind.wrap .u64 (t9))) 4294967295))), (15, (.int .u64 x17)), (16, (.int .u64 x18)), (69, (bv e3))] (by kernel_rfl) ?_
   refine WL.cutV (T := Bool) 12 (fun t => [(78, (bv t)), (2, (.int .u64 (shlV p2 (IntKind.wrap .u64 (t9))))), (8, (.int .u64 (IntKind.wrap .u64 (t9)))), (9, (.int .u64 (shrV (shlV p2 (IntKind.wrap .u64 (t9))) 32))), (10, (.int .u64 (andV (shlV p2 (IntKind.wrap .u64 (t9))) 4294967295))), (11, (.int .u64 (orV (shlV p0 (IntKind.wrap .u64 (t9))) (shrV p1 (IntKind.wrap .u64 (64 - (IntKind.wrap .u64 (t9)))))))), (13, (.int .u64 (shrV (shlV p1 (IntKind.wrap .u64 (t9))) 32))), (14, (.int .u64 (andV (shlV p1 (IntKind.wrap .u64 (t9))) 4294967295))), (15, (.int .u64 x17)), (16, (.int .u64 x18))]) (fun t => (e3 || (decide (IntKind.wrap .u64 (x17 * (andV (shlV p2 (IntKind.wrap .u64 (t9))) 4294967295)) > IntKind.wrap .u64 ((IntKind.wrap .u64 (4294967296 * x18)) + (shrV (shlV p1 (IntKind.wrap .u64 (t9))) 32))))) = t) (fun K => ?_) ?_
   ·
    rcases Bool.eq_false_or_eq_true e3 with h25 | h25
    ·
     refine WL.setB 69 h25 rfl ?_
     refine sg 12 [] [2, 8, 9, 10, 11, 13, 14, 15, 16, 78] [(2, (.int .u64 (shlV p2 (IntKind.wrap .u64 (t9))))), (8, (.int .u64 (IntKind.wrap .u64 (t9)))), (9, (.int .u64 (shrV (shlV p2 (IntKind.wrap .u64 (t9))) 32))), (10, (.int .u64 (andV (shlV p2 (IntKind.wrap .u64 (t9))) 4294967295))), (11, (.int .u64 (orV (shlV p0 (IntKind.wrap .u64 (t9))) (shrV p1 (IntKind.wrap .u64 (64 - (IntKind.wrap .u64 (t9)))))))), (13, (.int .u64 (shrV (shlV p1 (IntKind.wrap .u64 (t9))) 32))), (14, (.int .u64 (andV (shlV p1 (IntKind.wrap .u64 (t9))) 4294967295))), (15, (.int .u64 x17)), (16, (.int .u64 x18)), (78, (bv true))] (by kernel_rfl) ?_
     exact WL.toV K true [78, 2, 8, 9, 10, 11, 13, 14, 15, 16] rfl (by first | (rw [h25]; done) | (rw [h25]; rfl))
    refine WL.setB 69 h25 rfl ?_
    refine sg 12 [] [2, 8, 9, 10, 11, 13, 14, 15, 16, 78] [(2, (.int .u64 (shlV p2 (IntKind.wrap .u64 (t9))))), (8, (.int .u64 (IntKind.wrap .u64 (t9)))), (9, (.int .u64 (shrV (shlV p2 (IntKind.wrap .u64 (t9))) 32))), (10, (.int .u64 (andV (shlV p2 (IntKind.wrap .u64 (t9))) 4294967295))), (11, (.int .u64 (orV (shlV p0 (IntKind.wrap .u64 (t9))) (shrV p1 (IntKind.wrap .u64 (64 - (IntKind.wrap .u64 (t9)))))))), (13, (.int .u64 (shrV (shlV p1 (IntKind.wrap .u64 (t9))) 32))), (14, (.int .u64 (andV (shlV p1 (IntKind.wrap .u64 (t9))) 4294967295))), (15, (.int .u64 x17)), (16, (.int .u64 x18)), (78, (bv (decide (IntKind.wrap .u64 (x17 * (andV (shlV p2 (IntKind.wrap .u64 (t9))) 4294967295)) > IntKind.wrap .u64 ((IntKind.wrap .u64 (4294967296 * x18)) + (shrV (shlV p1 (IntKind.wrap .u64 (t9))) 32))))))] (by kernel_rfl) ?_
    exact WL.toV K (decide (IntKind.wrap .u64 (x17 * (andV (shlV p2 (IntKind.wrap .u64 (t9))) 4294967295)) > IntKind.wrap .u64 ((IntKind.wrap .u64 (4294967296 * x18)) + (shrV (shlV p1 (IntKind.wrap .u64 (t9))) 32)))) [78, 2, 8, 9, 10, 11, 13, 14, 15, 16] rfl (by first | (rw [h25]; done) | (rw [h25]; rfl))
   rintro b26 rfl
   refine WL.done rfl (WX.next ?_)
   rcases br_some hl24 with ⟨h27, hl24⟩ | ⟨h27, hl24⟩
   ·refine WC.condT2 (fun fb => by kernel_rfl) h27 ?_
    refine WC.skip (WX.next (WC.block (WC.seq (WC.region ?_))))
    refine sg 3 [] e1 [(2, (.int .u64 (shlV p2 (IntKind.wrap .u64 (t9))))), (8, (.int .u64 (IntKind.wrap .u64 (t9)))), (9, (.int .u64 (shrV (shlV p2 (IntKind.wrap .u64 (t9))) 32))), (10, (.int .u64 (andV (shlV p2 (IntKind.wrap .u64 (t9))) 4294967295))), (11, (.int .u64 (orV (shlV p0 (IntKind.wrap .u64 (t9))) (shrV p1 (IntKind.wrap .u64 (64 - (IntKind.wrap .u64 (t9)))))))), (13, (.int .u64 (shrV (shlV p1 (IntKind.wrap .u64 (t9))) 32))), (14, (.int .u64 (andV (shlV p1 (IntKind.wrap .u64 (t9))) 4294967295))), (15, (.int .u64 (IntKind.wrap .u64 (x17 - 1)))), (16, (.int .u64 x18))] (by kernel_rfl) ?_
    refine WL.done rfl (WX.next (WC.seq (WC.region ?_)))
    refine sg 4 [] e1 [(2, (.int .u64 (shlV p2 (IntKind.wrap .u64 (t9))))), (8, (.int .u64 (IntKind.wrap .u64 (t9)))), (9, (.int .u64 (shrV (shlV p2 (IntKind.wrap .u64 (t9))) 32))), (10, (.int .u64 (andV (shlV p2 (IntKind.wrap .u64 (t9))) 4294967295))), (11, (.int .u64 (orV (shlV p0 (IntKind.wrap .u64 (t9))) (shrV p1 (IntKind.wrap .u64 (64 - (IntKind.wrap .u64 (t9)))))))), (13, (.int .u64 (shrV (shlV p1 (IntKind.wrap .u64 (t9))) 32))), (14, (.int .u64 (andV (shlV p1 (IntKind.wrap .u64 (t9))) 4294967295))), (15, (.int .u64 (IntKind.wrap .u64 (x17 - 1)))), (16, (.int .u64 (IntKind.wrap .u64 (x18 + (shrV (shlV p2 (IntKind.wrap .u64 (t9))) 32)))))] (by kernel_rfl) ?_
    refine WL.done rfl (WX.next (WC.seq (WC.region ?_)))
    refine sg 2 [] [2, 8, 9, 10, 11, 13, 14, 15, 16, 85] [(2, (.int .u64 (shlV p2 (IntKind.wrap .u64 (t9))))), (8, (.int .u64 (IntKind.wrap .u64 (t9)))), (9, (.int .u64 (shrV (shlV p2 (IntKind.wrap .u64 (t9))) 32))), (10, (.int .u64 (andV (shlV p2 (IntKind.wrap .u64 (t9))) 4294967295))), (11, (.int .u64 (orV (shlV p0 (IntKind.wrap .u64 (t9))) (shrV p1 (IntKind.wrap .u64 (64 - (IntKind.wrap .u64 (t9)))))))), (13, (.int .u64 (shrV (shlV p1 (IntKind.wrap .u64 (t9))) 32))), (14, (.int .u64 (andV (shlV p1 (IntKind.wrap .u64 (t9))) 4294967295))), (15, (.int .u64 (IntKind.wrap .u64 (x17 - 1)))), (16, (.int .u64 (IntKind.wrap .u64 (x18 + (shrV (shlV p2 (IntKind.wrap .u64 (t9))) 32))))), (85, (bv (decide (IntKind.wrap .u64 (x18 + (shrV (shlV p2 (IntKind.wrap .u64 (t9))) 32)) ≥ 4294967296))))] (by kernel_rfl) ?_
    refine WL.done rfl (WX.next ?_)
    rcases br_some hl24 with ⟨h28, hl24⟩ | ⟨h28, hl24⟩
    ·refine WC.condT2 (fun fb => by kernel_rfl) h28 ?_
     refine WC.exit ?_
     injection hl24 with hl24
     exact WX.blockPast (by decide) (WX.thenX (WX.blockHere (WX.to Kx19 (IntKind.wrap .u64 (x17 - 1)) [2, 8, 9, 10, 11, 13, 14, 15] rfl ⟨(hS23.subR []).sub [] (by decide), hl24.symm⟩)))
    refine WC.condF2 (fun fb => by kernel_rfl) h28 ?_
    refine WC.skip ?_
    exact WX.blockN (WX.again k21 (Nat.lt_succ_self _) (IntKind.wrap .u64 (x17 - 1), IntKind.wrap .u64 (x18 + (shrV (shlV p2 (IntKind.wrap .u64 (t9))) 32))) e1 rfl ⟨(hS23.subR []).sub [] (by decide), hl24⟩)
   refine WC.condF2 (fun fb => by kernel_rfl) h27 ?_
   refine WC.exit ?_
   injection hl24 with hl24
   exact WX.thenX (WX.thenX (WX.blockHere (WX.to Kx19 x17 [2, 8, 9, 10, 11, 13, 14, 15] rfl ⟨(hS23.subR []).sub [] (by decide), hl24.symm⟩)))
 rintro y32 w29 ⟨hS30, hq31⟩
 subst hq31
 refine WX.next (WC.seq (WC.region ?_))
 refine sg 9 [] [2, 8, 9, 10, 14, 15, 17] [(2, (.int .u64 (shlV p2 (IntKind.wrap .u64 (t9))))), (8, (.int .u64 (IntKind.wrap .u64 (t9)))), (9, (.int .u64 (shrV (shlV p2 (IntKind.wrap .u64 (t9))) 32))), (10, (.int .u64 (andV (shlV p2 (IntKind.wrap .u64 (t9))) 4294967295))), (14, (.int .u64 (andV (shlV p1 (IntKind.wrap .u64 (t9))) 4294967295))), (15, (.int .u64 x19)), (17, (.int .u64 (IntKind.wrap .u64 ((IntKind.wrap .u64 ((IntKind.wrap .u64 ((orV (shlV p0 (IntKind.wrap .u64 (t9))) (shrV p1 (IntKind.wrap .u64 (64 - (IntKind.wrap .u64 (t9)))))) * 4294967296)) + (shrV (shlV p1 (IntKind.wrap .u64 (t9))) 32))) - (IntKind.wrap .u64 (x19 * (shlV p2 (IntKind.wrap .u64 (t9)))))))))] (by kernel_rfl) ?_
 refine WL.done rfl (WX.next (WC.seq (WC.region ?_)))
 refine seg 4 [] [2, 8, 9, 10, 14, 15, 17, 18] [(2, (.int .u64 (shlV p2 (IntKind.wrap .u64 (t9))))), (8, (.int .u64 (IntKind.wrap .u64 (t9)))), (9, (.int .u64 (shrV (shlV p2 (IntKind.wrap .u64 (t9))) 32))), (10, (.int .u64 (andV (shlV p2 (IntKind.wrap .u64 (t9))) 4294967295))), (14, (.int .u64 (andV (shlV p1 (IntKind.wrap .u64 (t9))) 4294967295))), (15, (.int .u64 x19)), (17, (.int .u64 (IntKind.wrap .u64 ((IntKind.wrap .u64 ((IntKind.wrap .u64 ((orV (shlV p0 (IntKind.wrap .u64 (t9))) (shrV p1 (IntKind.wrap .u64 (64 - (IntKind.wrap .u64 (t9)))))) * 4294967296)) + (shrV (shlV p1 (IntKind.wrap .u64 (t9))) 32))) - (IntKind.wrap .u64 (x19 * (shlV p2 (IntKind.wrap .u64 (t9))))))))), (18, (.int .u64 (IntKind.wrap .u64 (Int.tdiv (IntKind.wrap .u64 ((IntKind.wrap .u64 ((IntKind.wrap .u64 ((orV (shlV p0 (IntKind.wrap .u64 (t9))) (shrV p1 (IntKind.wrap .u64 (64 - (IntKind.wrap .u64 (t9)))))) * 4294967296)) + (shrV (shlV p1 (IntKind.wrap .u64 (t9))) 32))) - (IntKind.wrap .u64 (x19 * (shlV p2 (IntKind.wrap .u64 (t9))))))) (shrV (shlV p2 (IntKind.wrap .u64 (t9))) 32)))))] [.ne (shrV (shlV p2 (IntKind.wrap .u64 (t9))) 32)] (fun fb => by kernel_rfl) rfl ⟨h16, trivial⟩ ?_
 refine WL.done rfl (WX.next (WC.seq (WC.region ?_)))
 refine sg 6 [] [2, 8, 9, 10, 14, 15, 16, 17, 18] [(2, (.int .u64 (shlV p2 (IntKind.wrap .u64 (t9))))), (8, (.int .u64 (IntKind.wrap .u64 (t9)))), (9, (.int .u64 (shrV (shlV p2 (IntKind.wrap .u64 (t9))) 32))), (10, (.int .u64 (andV (shlV p2 (IntKind.wrap .u64 (t9))) 4294967295))), (14, (.int .u64 (andV (shlV p1 (IntKind.wrap .u64 (t9))) 4294967295))), (15, (.int .u64 x19)), (16, (.int .u64 (IntKind.wrap .u64 ((IntKind.wrap .u64 ((IntKind.wrap .u64 ((IntKind.wrap .u64 ((orV (shlV p0 (IntKind.wrap .u64 (t9))) (shrV p1 (IntKind.wrap .u64 (64 - (IntKind.wrap .u64 (t9)))))) * 4294967296)) + (shrV (shlV p1 (IntKind.wrap .u64 (t9))) 32))) - (IntKind.wrap .u64 (x19 * (shlV p2 (IntKind.wrap .u64 (t9))))))) - (IntKind.wrap .u64 ((IntKind.wrap .u64 (Int.tdiv (IntKind.wrap .u64 ((IntKind.wrap .u64 ((IntKind.wrap .u64 ((orV (shlV p0 (IntKind.wrap .u64 (t9))) (shrV p1 (IntKind.wrap .u64 (64 - (IntKind.wrap .u64 (t9)))))) * 4294967296)) + (shrV (shlV p1 (IntKind.wrap .u64 (t9))) 32))) - (IntKind.wrap .u64 (x19 * (shlV p2 (IntKind.wrap .u64 (t9))))))) (shrV (shlV p2 (IntKind.wrap .u64 (t9))) 32))) * (shrV (shlV p2 (IntKind.wrap .u64 (t9))) 32))))))), (17, (.int .u64 (IntKind.wrap .u64 ((IntKind.wrap .u64 ((IntKind.wrap .u64 ((orV (shlV p0 (IntKind.wrap .u64 (t9))) (shrV p1 (IntKind.wrap .u64 (64 - (IntKind.wrap .u64 (t9)))))) * 4294967296)) + (shrV (shlV p1 (IntKind.wrap .u64 (t9))) 32))) - (IntKind.wrap .u64 (x19 * (shlV p2 (IntKind.wrap .u64 (t9))))))))), (18, (.int .u64 (IntKind.wrap .u64 (Int.tdiv (IntKind.wrap .u64 ((IntKind.wrap .u64 ((IntKind.wrap .u64 ((orV (shlV p0 (IntKind.wrap .u64 (t9))) (shrV p1 (IntKind.wrap .u64 (64 - (IntKind.wrap .u64 (t9)))))) * 4294967296)) + (shrV (shlV p1 (IntKind.wrap .u64 (t9))) 32))) - (IntKind.wrap .u64 (x19 * (shlV p2 (IntKind.wrap .u64 (t9))))))) (shrV (shlV p2 (IntKind.wrap .u64 (t9))) 32)))))] (by kernel_rfl) ?_
 refine WL.done rfl (WX.next (WC.seq ?_))
 obtain ⟨x35, hx36, hf⟩ := bind_some hf
 let e2 : List Nat := [2, 8, 9, 10, 14, 15, 16, 17, 18]
 refine WC.cutN (T := Int) (fun t => [(2, (.int .u64 (shlV p2 (IntKind.wrap .u64 (t9))))), (8, (.int .u64 (IntKind.wrap .u64 (t9)))), (14, (.int .u64 (andV (shlV p1 (IntKind.wrap .u64 (t9))) 4294967295))), (15, (.int .u64 x19)), (17, (.int .u64 (IntKind.wrap .u64 ((IntKind.wrap .u64 ((IntKind.wrap .u64 ((orV (shlV p0 (IntKind.wrap .u64 (t9))) (shrV p1 (IntKind.wrap .u64 (64 - (IntKind.wrap .u64 (t9)))))) * 4294967296)) + (shrV (shlV p1 (IntKind.wrap .u64 (t9))) 32))) - (IntKind.wrap .u64 (x19 * (shlV p2 (IntKind.wrap .u64 (t9))))))))), (18, (.int .u64 t))]) (fun t w1 => St NoS w w1 [] [] ∧ x35 = t) (fun Kx35 => ?_) ?_
 ·
  refine WC.block ?_
  refine WC.loop (T := Int × Int) (fun t => [(2, (.int .u64 (shlV p2 (IntKind.wrap .u64 (t9))))), (8, (.int .u64 (IntKind.wrap .u64 (t9)))), (9, (.int .u64 (shrV (shlV p2 (IntKind.wrap .u64 (t9))) 32))), (10, (.int .u64 (andV (shlV p2 (IntKind.wrap .u64 (t9))) 4294967295))), (14, (.int .u64 (andV (shlV p1 (IntKind.wrap .u64 (t9))) 4294967295))), (15, (.int .u64 x19)), (16, (.int .u64 t.1)), (17, (.int .u64 (IntKind.wrap .u64 ((IntKind.wrap .u64 ((IntKind.wrap .u64 ((orV (shlV p0 (IntKind.wrap .u64 (t9))) (shrV p1 (IntKind.wrap .u64 (64 - (IntKind.wrap .u64 (t9)))))) * 4294967296)) + (shrV (shlV p1 (IntKind.wrap .u64 (t9))) 32))) - (IntKind.wrap .u64 (x19 * (shlV p2 (IntKind.wrap .u64 (t9))))))))), (18, (.int .u64 t.2))]) (fun n t w1 => St NoS w w1 [] [] ∧ bits_Div64.l1 n t.1 t.2 p1 p2 t9 = some x35) k (IntKind.wrap .u64 ((IntKind.wrap .u64 ((IntKind.wrap .u64 ((IntKind.wrap .u64 ((orV (shlV p0 (IntKind.wrap .u64 (t9))) (shrV p1 (IntKind.wrap .u64 (64 - (IntKind.wrap .u64 (t9)))))) * 4294967296)) + (shrV (shlV p1 (IntKind.wrap .u64 (t9))) 32))) - (IntKind.wrap .u64 (x19 * (shlV p2 (IntKind.wrap .u64 (t9))))))) - (IntKind.wrap .u64 ((IntKind.wrap .u64 (Int.tdiv (IntKind.wrap .u64 ((IntKind.wrap .u64 ((IntKind.wrap .u64 ((orV (shlV p0 (IntKind.wrap .u64 (t9))) (shrV p1 (IntKind.wrap .u64 (64 - (IntKind.wrap .u64 (t9)))))) * 4294967296)) + (shrV (shlV p1 (IntKind.wrap .u64 (t9))) 32))) - (IntKind.wrap .u64 (x19 * (shlV p2 (IntKind.wrap .u64 (t9))))))) (shrV (shlV p2 (IntKind.wrap .u64 (t9))) 32))) * (shrV (shlV p2 (IntKind.wrap .u64 (t9))) 32)))), IntKind.wrap .u64 (Int.tdiv (IntKind.wrap .u64 ((IntKind.wrap .u64 ((IntKind.wrap .u64 ((orV (shlV p0 (IntKind.wrap .u64 (t9))) (shrV p1 (IntKind.wrap .u64 (64 - (IntKind.wrap .u64 (t9)))))) * 4294967296)) + (shrV (shlV p1 (IntKind.wrap .u64 (t9))) 32))) - (IntKind.wrap .u64 (x19 * (shlV p2 (IntKind.wrap .u64 (t9))))))) (shrV (shlV p2 (IntKind.wrap .u64 (t9))) 32))) e2 rfl ⟨(hS30.subR []).sub [] (by decide), hx36⟩ ?_
  rintro k37 ⟨x33, x34⟩ w38 ⟨hS39, hl40⟩
  let e4 := decide (x34 ≥ 4294967296)
  cases k37 with
  | zero => rw [bits_Div64.l1] at hl40; cases hl40
  | succ k37 =>
   rw [bits_Div64.l1] at hl40
   refine WC.seq (WC.seq (WC.region ?_))
   refine sg 3 [] [2, 8, 9, 10, 14, 15, 16, 17, 18, 104] [(2, (.int .u64 (shlV p2 (IntKind.wrap .u64 (t9))))), (8, (.int .u64 (IntKind.wrap .u64 (t9)))), (9, (.int .u64 (shrV (shlV p2 (IntKind.wrap .u64 (t9))) 32))), (10, (.int .u64 (andV (shlV p2 (IntKind.wrap .u64 (t9))) 4294967295))), (14, (.int .u64 (andV (shlV p1 (IntKind.wrap .u64 (t9))) 4294967295))), (15, (.int .u64 x19)), (16, (.int .u64 x33)), (17, (.int .u64 (IntKind.wrap .u64 ((IntKind.wrap .u64 ((IntKind.wrap .u64 ((orV (shlV p0 (IntKind.wrap .u64 (t9))) (shrV p1 (IntKind.wrap .u64 (64 - (IntKind.wrap .u64 (t9)))))) * 4294967296)) + (shrV (shlV p1 (IntKind.wrap .u64 (t9))) 32))) - (IntKind.wrap .u64 (x19 * (shlV p2 (IntKind.wrap .u64 (t9))))))))), (18, (.int .u64 x34)), (104, (bv e4))] (by kernel_rfl) ?_
   refine WL.cutV (T := Bool) 12 (fun t => [(113, (bv t)), (2, (.int .u64 (shlV p2 (IntKind.wrap .u64 (t9))))), (8, (.int .u64 (IntKind.wrap .u64 (t9)))), (9, (.int .u64 (shrV (shlV p2 (IntKind.wrap .u64 (t9))) 32))), (10, (.int .u64 (andV (shlV p2 (IntKind.wrap .u64 (t9))) 4294967295))), (14, (.int .u64 (andV (shlV p1 (IntKind.wrap .u64 (t9))) 4294967295))), (15, (.int .u64 x19)), (16, (.int .u64 x33)), (17, (.int .u64 (IntKind.wrap .u64 ((IntKind.wrap .u64 ((IntKind.wrap .u64 ((orV (shlV p0 (IntKind.wrap .u64 (t9))) (shrV p1 (IntKind.wrap .u64 (64 - (IntKind.wrap .u64 (t9)))))) * 4294967296)) + (shrV (shlV p1 (IntKind.wrap .u64 (t9))) 32))) - (IntKind.wrap .u64 (x19 * (shlV p2 (IntKind.wrap .u64 (t9))))))))), (18, (.int .u64 x34))]) (fun t => (e4 || (decide (IntKind.wrap .u64 (x34 * (andV (shlV p2 (IntKind.wrap .u64 (t9))) 4294967295)) > IntKind.wrap .u64 ((IntKind.wrap .u64 (4294967296 * x33)) + (andV (shlV p1 (IntKind.wrap .u64 (t9))) 4294967295))))) = t) (fun K => ?_) ?_
   ·
    rcases Bool.eq_false_or_eq_true e4 with h41 | h41
    ·
     refine WL.setB 104 h41 rfl ?_
     refine sg 12 [] [2, 8, 9, 10, 14, 15, 16, 17, 18, 113] [(2, (.int .u64 (shlV p2 (IntKind.wrap .u64 (t9))))), (8, (.int .u64 (IntKind.wrap .u64 (t9)))), (9, (.int .u64 (shrV (shlV p2 (IntKind.wrap .u64 (t9))) 32))), (10, (.int .u64 (andV (shlV p2 (IntKind.wrap .u64 (t9))) 4294967295))), (14, (.int .u64 (andV (shlV p1 (IntKind.wrap .u64 (t9))) 4294967295))), (15, (.int .u64 x19)), (16, (.int .u64 x33)), (17, (.int .u64 (IntKind.wrap .u64 ((IntKind.wrap .u64 ((IntKind.wrap .u64 ((orV (shlV p0 (IntKind.wrap .u64 (t9))) (shrV p1 (IntKind.wrap .u64 (64 - (IntKind.wrap .u64 (t9)))))) * 4294967296)) + (shrV (shlV p1 (IntKind.wrap .u64 (t9))) 32))) - (IntKind.wrap .u64 (x19 * (shlV p2 (IntKind.wrap .u64 (t9))))))))), (18, (.int .u64 x34)), (113, (bv true))] (by kernel_rfl) ?_
     exact WL.toV K true [113, 2, 8, 9, 10, 14, 15, 16, 17, 18] rfl (by first | (rw [h41]; done) | (rw [h41]; rfl))
    refine WL.setB 104 h41 rfl ?_
    refine sg 12 [] [2, 8, 9, 10, 14, 15, 16, 17, 18, 113] [(2, (.int .u64 (shlV p2 (IntKind.wrap .u64 (t9))))), (8, (.int .u64 (IntKind.wrap .u64 (t9)))), (9, (.int .u64 (shrV (shlV p2 (IntKind.wrap .u64 (t9))) 32))), (10, (.int .u64 (andV (shlV p2 (IntKind.wrap .u64 (t9))) 4294967295))), (14, (.int .u64 (andV (shlV p1 (IntKind.wrap .u64 (t9))) 4294967295))), (15, (.int .u64 x19)), (16, (.int .u64 x33)), (17, (.int .u64 (IntKind.wrap .u64 ((IntKind.wrap .u64 ((IntKind.wrap .u64 ((orV (shlV p0 (IntKind.wrap .u64 (t9))) (shrV p1 (IntKind.wrap .u64 (64 - (IntKind.wrap .u64 (t9)))))) * 4294967296)) + (shrV (shlV p1 (IntKind.wrap .u64 (t9))) 32))) - (IntKind.wrap .u64 (x19 * (shlV p2 (IntKind.wrap .u64 (t9))))))))), (18, (.int .u64 x34)), (113, (bv (decide (IntKind.wrap .u64 (x34 * (andV (shlV p2 (IntKind.wrap .u64 (t9))) 4294967295)) > IntKind.wrap .u64 ((IntKind.wrap .u64 (4294967296 * x33)) + (andV (shlV p1 (IntKind.wrap .u64 (t9))) 4294967295))))))] (by kernel_rfl) ?_
    exact WL.toV K (decide (IntKind.wrap .u64 (x34 * (andV (shlV p2 (IntKind.wrap .u64 (t9))) 4294967295)) > IntKind.wrap .u64 ((IntKind.wrap .u64 (4294967296 * x33)) + (andV (shlV p1 (IntKind.wrap .u64 (t9))) 4294967295)))) [113, 2, 8, 9, 10, 14, 15, 16, 17, 18] rfl (by first | (rw [h41]; done) | (rw [h41]; rfl))
   rintro b42 rfl
   refine WL.done rfl (WX.next ?_)
   rcases br_some hl40 with ⟨h43, hl40⟩ | ⟨h43, hl40⟩
   ·refine WC.condT2 (fun fb => by kernel_rfl) h43 ?_
    refine WC.skip (WX.next (WC.block (WC.seq (WC.region ?_))))
    refine sg 3 [] e2 [(2, (.int .u64 (shlV p2 (IntKind.wrap .u64 (t9))))), (8, (.int .u64 (IntKind.wrap .u64 (t9)))), (9, (.int .u64 (shrV (shlV p2 (IntKind.wrap .u64 (t9))) 32))), (10, (.int .u64 (andV (shlV p2 (IntKind.wrap .u64 (t9))) 4294967295))), (14, (.int .u64 (andV (shlV p1 (IntKind.wrap .u64 (t9))) 4294967295))), (15, (.int .u64 x19)), (16, (.int .u64 x33)), (17, (.int .u64 (IntKind.wrap .u64 ((IntKind.wrap .u64 ((IntKind.wrap .u64 ((orV (shlV p0 (IntKind.wrap .u64 (t9))) (shrV p1 (IntKind.wrap .u64 (64 - (IntKind.wrap .u64 (t9)))))) * 4294967296)) + (shrV (shlV p1 (IntKind.wrap .u64 (t9))) 32))) - (IntKind.wrap .u64 (x19 * (shlV p2 (IntKind.wrap .u64 (t9))))))))), (18, (.int .u64 (IntKind.wrap .u64 (x34 - 1))))] (by kernel_rfl) ?_
    refine WL.done rfl (WX.next (WC.seq (WC.region ?_)))
    refine sg 4 [] e2 [(2, (.int .u64 (shlV p2 (IntKind.wrap .u64 (t9))))), (8, (.int .u64 (IntKind.wrap .u64 (t9)))), (9, (.int .u64 (shrV (shlV p2 (IntKind.wrap .u64 (t9))) 32))), (10, (.int .u64 (andV (shlV p2 (IntKind.wrap .u64 (t9))) 4294967295))), (14, (.int .u64 (andV (shlV p1 (IntKind.wrap .u64 (t9))) 4294967295))), (15, (.int .u64 x19)), (16, (.int .u64 (IntKind.wrap .u64 (x33 + (shrV (shlV p2 (IntKind.wrap .u64 (t9))) 32))))), (17, (.int .u64 (IntKind.wrap .u64 ((IntKind.wrap .u64 ((IntKind.wrap .u64 ((orV (shlV p0 (IntKind.wrap .u64 (t9))) (shrV p1 (IntKind.wrap .u64 (64 - (IntKind.wrap .u64 (t9)))))) * 4294967296)) + (shrV (shlV p1 (IntKind.wrap .u64 (t9))) 32))) - (IntKind.wrap .u64 (x19 * (shlV p2 (IntKind.wrap .u64 (t9))))))))), (18, (.int .u64 (IntKind.wrap .u64 (x34 - 1))))] (by kernel_rfl) ?_
    refine WL.done rfl (WX.next (WC.seq (WC.region ?_)))
    refine sg 2 [] [2, 8, 9, 10, 14, 15, 16, 17, 18, 120] [(2, (.int .u64 (shlV p2 (IntKind.wrap .u64 (t9))))), (8, (.int .u64 (IntKind.wrap .u64 (t9)))), (9, (.int .u64 (shrV (shlV p2 (IntKind.wrap .u64 (t9))) 32))), (10, (.int .u64 (andV (shlV p2 (IntKind.wrap .u64 (t9))) 4294967295))), (14, (.int .u64 (andV (shlV p1 (IntKind.wrap .u64 (t9))) 4294967295))), (15, (.int .u64 x19)), (16, (.int .u64 (IntKind.wrap .u64 (x33 + (shrV (shlV p2 (IntKind.wrap .u64 (t9))) 32))))), (17, (.int .u64 (IntKind.wrap .u64 ((IntKind.wrap .u64 ((IntKind.wrap .u64 ((orV (shlV p0 (IntKind.wrap .u64 (t9))) (shrV p1 (IntKind.wrap .u64 (64 - (IntKind.wrap .u64 (t9)))))) * 4294967296)) + (shrV (shlV p1 (IntKind.wrap .u64 (t9))) 32))) - (IntKind.wrap .u64 (x19 * (shlV p2 (IntKind.wrap .u64 (t9))))))))), (18, (.int .u64 (IntKind.wrap .u64 (x34 - 1)))), (120, (bv (decide (IntKind.wrap .u64 (x33 + (shrV (shlV p2 (IntKind.wrap .u64 (t9))) 32)) ≥ 4294967296))))] (by kernel_rfl) ?_
    refine WL.done rfl (WX.next ?_)
    rcases br_some hl40 with ⟨h44, hl40⟩ | ⟨h44, hl40⟩
    ·refine WC.condT2 (fun fb => by kernel_rfl) h44 ?_
     refine WC.exit ?_
     injection hl40 with hl40
     exact WX.blockPast (by decide) (WX.thenX (WX.blockHere (WX.to Kx35 (IntKind.wrap .u64 (x34 - 1)) [2, 8, 14, 15, 17, 18] rfl ⟨(hS39.subR []).sub [] (by decide), hl40.symm⟩)))
    refine WC.condF2 (fun fb => by kernel_rfl) h44 ?_
    refine WC.skip ?_
    exact WX.blockN (WX.again k37 (Nat.lt_succ_self _) (IntKind.wrap .u64 (x33 + (shrV (shlV p2 (IntKind.wrap .u64 (t9))) 32)), IntKind.wrap .u64 (x34 - 1)) e2 rfl ⟨(hS39.subR []).sub [] (by decide), hl40⟩)
   refine WC.condF2 (fun fb => by kernel_rfl) h43 ?_
   refine WC.exit ?_
   injection hl40 with hl40
   exact WX.thenX (WX.thenX (WX.blockHere (WX.to Kx35 x34 [2, 8, 14, 15, 17, 18] rfl ⟨(hS39.subR []).sub [] (by decide), hl40.symm⟩)))
 rintro y48 w45 ⟨hS46, hq47⟩
 subst hq47
 refine WX.next (WC.seq (WC.region ?_))
 refine seg 16 [] [6, 7] [(6, (.int .u64 (IntKind.wrap .u64 ((IntKind.wrap .u64 (x19 * 4294967296)) + x35)))), (7, (.int .u64 (shrV (IntKind.wrap .u64 ((IntKind.wrap .u64 ((IntKind.wrap .u64 ((IntKind.wrap .u64 ((IntKind.wrap .u64 ((IntKind.wrap .u64 ((orV (shlV p0 (IntKind.wrap .u64 (t9))) (shrV p1 (IntKind.wrap .u64 (64 - (IntKind.wrap .u64 (t9)))))) * 4294967296)) + (shrV (shlV p1 (IntKind.wrap .u64 (t9))) 32))) - (IntKind.wrap .u64 (x19 * (shlV p2 (IntKind.wrap .u64 (t9))))))) * 4294967296)) + (andV (shlV p1 (IntKind.wrap .u64 (t9))) 4294967295))) - (IntKind.wrap .u64 (x35 * (shlV p2 (IntKind.wrap .u64 (t9))))))) (IntKind.wrap .u64 (t9)))))] [.idx (some ⟨0, 0, none⟩) (IntKind.wrap .u64 (t9)) 64] (fun fb => by kernel_rfl) rfl ⟨⟨h14.1, h14.2, rfl⟩, trivial⟩ ?_
 refine WL.done rfl (WX.next ?_)
 refine WC.ret ?_
 injection hf with hf
 subst hf
 exact WX.ret_ [] (.tuple #[(.int .u64 (IntKind.wrap .u64 ((IntKind.wrap .u64 (x19 * 4294967296)) + x35))), (.int .u64 (shrV (IntKind.wrap .u64 ((IntKind.wrap .u64 ((IntKind.wrap .u64 ((IntKind.wrap .u64 ((IntKind.wrap .u64 ((IntKind.wrap .u64 ((orV (shlV p0 (IntKind.wrap .u64 (t9))) (shrV p1 (IntKind.wrap .u64 (64 - (IntKind.wrap .u64 (t9)))))) * 4294967296)) + (shrV (shlV p1 (IntKind.wrap .u64 (t9))) 32))) - (IntKind.wrap .u64 (x19 * (shlV p2 (IntKind.wrap .u64 (t9))))))) * 4294967296)) + (andV (shlV p1 (IntKind.wrap .u64 (t9))) 4294967295))) - (IntKind.wrap .u64 (x35 * (shlV p2 (IntKind.wrap .u64 (t9))))))) (IntKind.wrap .u64 (t9))))]) [] (fun fb => by kernel_rfl) trivial ⟨_, rfl, rfl, hS46.keep⟩
theorem weight_product_calls (k : Nat) (p0 : Int) (p1 : Int) (p2 : List Int) (Aa : Option Addr) (ca : Nat) (r : Int) (w : World) (hR0 : RO NoS w (rowR encInt Aa ca p2)) (hf : weight_product k p0 p1 p2 = some r) :
  CallsR Tryz.prog 63 #[(.int .u64 p0), (iv p1), (sv Aa p2 ca)] w (fun v w' => v = (.int .u64 r) ∧ Keeps NoS w w') := by
 have hS : St NoS w w [rowR encInt Aa ca p2] [] := St.init (ro_cons hR0 (ro_nil _ _))
 refine enter 56 Tryz.func63 rfl Tryz.ntmps63 rfl ?_
 unfold weight_product at hf
 refine WC.seq (WC.region ?_)
 refine sg 1 [] [0, 1, 2] [(0, (.int .u64 p0)), (1, (iv p1)), (2, (sv Aa p2 ca))] (by kernel_rfl) ?_
 refine WL.done rfl (WX.next (WC.seq (WC.region ?_)))
 refine sg 1 [] [0, 1, 2, 7] [(0, (.int .u64 p0)), (1, (iv p1)), (2, (sv Aa p2 ca)), (7, (.int .u64 1))] (by kernel_rfl) ?_
 refine WL.done rfl (WX.next (WC.seq (WC.seq (WC.region ?_))))
 refine sg 3 [] [0, 1, 7, 13, 14, 15] [(0, (.int .u64 p0)), (1, (iv p1)), (7, (.int .u64 1)), (13, (sv Aa p2 ca)), (14, (iv (p2.length : Int))), (15, (iv 0))] (by kernel_rfl) ?_
 refine WL.done rfl (WX.next ?_)
 obtain ⟨x6, hx7, hf⟩ := bind_some hf
 let e1 : Nat × Value := (14, (iv (p2.length : Int)))
 let e3 : Nat × Value := (13, (sv Aa p2 ca))
 let e6 : List Nat := [0, 1, 7, 13, 14, 15]
 refine WC.cutN (T := Int × Int) (fun t => [(0, (.int .u64 p0)), (1, (iv t.1)), (7, (.int .u64 t.2))]) (fun t w1 => St NoS w w1 [rowR encInt Aa ca p2] [] ∧ x6 = t) (fun Kx6 => ?_) ?_
 ·
  refine WC.block ?_
  refine WC.loop (T := Int × Int × Int) (fun t => [(0, (.int .u64 p0)), (1, (iv t.1)), (7, (.int .u64 t.2.1)), e3, e1, (15, (iv t.2.2))]) (fun n t w1 => St NoS w w1 [rowR encInt Aa ca p2] [] ∧ weight_product.l0 n t.1 t.2.1 t.2.2 p0 p2 = some x6) k (p1, 1, 0) e6 rfl ⟨(hS.subR [0]).sub [] (by decide), hx7⟩ ?_
  rintro k8 ⟨x3, x4, x5⟩ w9 ⟨hS10, hl11⟩
  let e2 := maxI (rdD p2 x5 0) (w64 (0 - (rdD p2 x5 0)))
  let e4 : Nat × Value := (15, (iv x5))
  let e5 := iv (rdD p2 x5 0)
  cases k8 with
  | zero => rw [weight_product.l0] at hl11; cases hl11
  | succ k8 =>
   rw [weight_product.l0] at hl11
   refine WC.seq (WC.region ?_)
   refine sg 1 [] [0, 1, 7, 13, 14, 15, 16] [(0, (.int .u64 p0)), (1, (iv x3)), (7, (.int .u64 x4)), e3, e1, e4, (16, (bv (decide (x5 < (p2.length : Int)))))] (by kernel_rfl) ?_
   refine WL.done rfl (WX.next (WC.seq ?_))
   rcases br_some hl11 with ⟨h12, hl11⟩ | ⟨h12, hl11⟩
   ·refine WC.condT2 (fun fb => by kernel_rfl) h12 ?_
    refine WC.skip (WX.next (WC.seq (WC.block (WC.seq (WC.region ?_)))))
    obtain ⟨h13, hl11⟩ := as_some hl11
    refine seg 3 [.v e5] [0, 1, 7, 9, 13, 14, 15] [(0, (.int .u64 p0)), (1, (iv x3)), (7, (.int .u64 x4)), (9, e5), e3, e1, e4] [.idx Aa x5 p2.length, .cell ((adr Aa).add ((x5).toNat * 1)) e5] (fun fb => by kernel_rfl) rfl ⟨rowR.adr (hS10.rd 0).1 h13.1 h13.2, rowR.cell (hS10.rd 0).1 0 h13.1 h13.2 0 rfl, trivial⟩ ?_
    refine WL.done rfl (WX.next (WC.seq (WC.region ?_)))
    refine sg 6 [] [0, 1, 7, 9, 13, 14, 15, 23, 24] [(0, (.int .u64 p0)), (1, (iv x3)), (7, (.int .u64 x4)), (9, e5), e3, e1, e4, (23, (.int .u64 (IntKind.wrap .u64 e2))), (24, (.int .u64 p0))] (by kernel_rfl) ?_
    obtain ⟨h14, hl11⟩ := as_some hl11
    refine seg 8 [] [0, 1, 7, 9, 10, 13, 14, 15] [(0, (.int .u64 p0)), (1, (iv x3)), (7, (.int .u64 x4)), (9, e5), (10, (.int .u64 (Int.tmod (IntKind.wrap .u64 e2) p0))), e3, e1, e4] [.ne p0] (fun fb => by kernel_rfl) rfl ⟨h14, trivial⟩ ?_
    refine WL.done rfl (WX.next (WC.seq (WC.seq (WC.region ?_))))
    refine sg 2 [] [0, 1, 7, 10, 13, 14, 15, 27] [(0, (.int .u64 p0)), (1, (iv x3)), (7, (.int .u64 x4)), (10, (.int .u64 (Int.tmod (IntKind.wrap .u64 e2) p0))), e3, e1, e4, (27, (bv (decide ((rdD p2 x5 0) < 0))))] (by kernel_rfl) ?_
    refine WL.done rfl (WX.next ?_)
    obtain ⟨x15, hx16, hl11⟩ := bind_some hl11
    refine WC.cutN (T := Int) (fun t => [(0, (.int .u64 p0)), (1, (iv t)), (7, (.int .u64 x4)), (10, (.int .u64 (Int.tmod (IntKind.wrap .u64 e2) p0))), e3, e1, e4]) (fun t w1 => St NoS w w1 [rowR encInt Aa ca p2] [] ∧ x15 = t) (fun Kx15 => ?_) ?_
    ·
     rcases br_some hx16 with ⟨h17, hx16⟩ | ⟨h17, hx16⟩
     ·refine WC.condT2 (fun fb => by kernel_rfl) h17 ?_
      refine WC.region ?_
      refine sg 3 [] [0, 1, 7, 10, 13, 14, 15] [(0, (.int .u64 p0)), (1, (iv (w64 (0 - x3)))), (7, (.int .u64 x4)), (10, (.int .u64 (Int.tmod (IntKind.wrap .u64 e2) p0))), e3, e1, e4] (by kernel_rfl) ?_
      refine WL.done rfl ?_
      injection hx16 with hx16
      exact WX.to Kx15 (w64 (0 - x3)) [0, 1, 7, 10, 13, 14, 15] rfl ⟨(hS10.subR [0]).sub [] (by decide), hx16.symm⟩
     refine WC.condF2 (fun fb => by kernel_rfl) h17 ?_
     refine WC.skip ?_
     injection hx16 with hx16
     exact WX.to Kx15 x3 [0, 1, 7, 10, 13, 14, 15] rfl ⟨(hS10.subR [0]).sub [] (by decide), hx16.symm⟩
    rintro y21 w18 ⟨hS19, hq20⟩
    subst hq20
    refine WX.next (WC.seq (WC.region ?_))
    refine sg 2 [] [0, 1, 13, 14, 15, 31, 32] [(0, (.int .u64 p0)), (1, (iv x15)), e3, e1, e4, (31, (.int .u64 x4)), (32, (.int .u64 (Int.tmod (IntKind.wrap .u64 e2) p0)))] (by kernel_rfl) ?_
    obtain ⟨t22, ht23, hl11⟩ := bind_some hl11
    refine WL.call (some 33) 85 #[(.int .u64 x4), (.int .u64 (Int.tmod (IntKind.wrap .u64 e2) p0))] (fun fb => by kernel_rfl) (bits_Mul64_calls x4 (Int.tmod (IntKind.wrap .u64 e2) p0) t22 _ ht23) (fun v w24 hR25 => ?_)
    obtain ⟨rfl, hk_⟩ := hR25
    have hS26 := hS19.keepN hk_
    refine ⟨trivial, ?_⟩
    refine sg 8 [] [0, 1, 11, 12, 13, 14, 15] [(0, (.int .u64 p0)), (1, (iv x15)), (11, (.int .u64 t22.1)), (12, (.int .u64 t22.2)), e3, e1, e4] (by kernel_rfl) ?_
    refine WL.done rfl (WX.next (WC.region ?_))
    refine seg 5 [] [0, 1, 13, 14, 15, 39, 40, 41] [(0, (.int .u64 p0)), (1, (iv x15)), e3, e1, e4, (39, (.int .u64 (Int.tmod t22.1 p0))), (40, (.int .u64 t22.2)), (41, (.int .u64 p0))] [.ne p0] (fun fb => by kernel_rfl) rfl ⟨h14, trivial⟩ ?_
    obtain ⟨t27, ht28, hl11⟩ := bind_some hl11
    refine WL.call (some 42) 86 #[(.int .u64 (Int.tmod t22.1 p0)), (.int .u64 t22.2), (.int .u64 p0)] (fun fb => by kernel_rfl) (bits_Div64_calls _ (Int.tmod t22.1 p0) t22.2 p0 t27 _ ht28) (fun v w29 hR30 => ?_)
    obtain ⟨rfl, hk_⟩ := hR30
    have hS31 := hS26.keepN hk_
    refine ⟨trivial, ?_⟩
    refine sg 10 [] e6 [(0, (.int .u64 p0)), (1, (iv x15)), (7, (.int .u64 t27.2)), e3, e1, e4] (by kernel_rfl) ?_
    refine WL.done rfl ?_
    refine WX.blockN (WX.next ?_)
    refine WC.region ?_
    refine sg 2 [] e6 [(0, (.int .u64 p0)), (1, (iv x15)), (7, (.int .u64 t27.2)), e3, e1, (15, (iv (w64 (x5 + 1))))] (by kernel_rfl) ?_
    refine WL.done rfl ?_
    exact WX.again k8 (Nat.lt_succ_self _) (x15, t27.2, w64 (x5 + 1)) e6 rfl ⟨(hS31.subR [0]).sub [] (by decide), hl11⟩
   refine WC.condF2 (fun fb => by kernel_rfl) h12 ?_
   refine WC.exit ?_
   injection hl11 with hl11
   exact WX.thenX (WX.thenX (WX.blockHere (WX.to Kx6 (x3, x4) [0, 1, 7] rfl ⟨(hS10.subR [0]).sub [] (by decide), hl11.symm⟩)))
 rintro y35 w32 ⟨hS33, hq34⟩
 subst hq34
 refine WX.next (WC.seq (WC.seq (WC.region ?_)))
 refine sg 3 [] [0, 7, 48] [(0, (.int .u64 p0)), (7, (.int .u64 x6.2)), (48, (bv (decide (x6.1 < 0))))] (by kernel_rfl) ?_
 refine WL.cutV (T := Bool) 6 (fun t => [(51, (bv t)), (0, (.int .u64 p0)), (7, (.int .u64 x6.2))]) (fun t => ((decide (x6.1 < 0)) && (x6.2 != 0)) = t) (fun K => ?_) ?_
 ·
  rcases Bool.eq_false_or_eq_true (decide (x6.1 < 0)) with h36 | h36
  ·
   refine WL.setB 48 h36 rfl ?_
   refine sg 6 [] [0, 7, 51] [(0, (.int .u64 p0)), (7, (.int .u64 x6.2)), (51, (bv (x6.2 != 0)))] (by kernel_rfl) ?_
   exact WL.toV K (x6.2 != 0) [51, 0, 7] rfl (by first | (rw [h36]; done) | (rw [h36]; rfl))
  refine WL.setB 48 h36 rfl ?_
  refine sg 6 [] [0, 7, 51] [(0, (.int .u64 p0)), (7, (.int .u64 x6.2)), (51, (bv false))] (by kernel_rfl) ?_
  exact WL.toV K false [51, 0, 7] rfl (by first | (rw [h36]; done) | (rw [h36]; rfl))
 rintro b37 rfl
 refine WL.done rfl (WX.next ?_)
 obtain ⟨x38, hx39, hf⟩ := bind_some hf
 refine WC.cutN (T := Int) (fun t => [(7, (.int .u64 t))]) (fun t w1 => St NoS w w1 [rowR encInt Aa ca p2] [] ∧ x38 = t) (fun Kx38 => ?_) ?_
 ·
  rcases br_some hx39 with ⟨h40, hx39⟩ | ⟨h40, hx39⟩
  ·refine WC.condT2 (fun fb => by kernel_rfl) h40 ?_
   refine WC.region ?_
   refine sg 4 [] [7] [(7, (.int .u64 (IntKind.wrap .u64 (p0 - x6.2))))] (by kernel_rfl) ?_
   refine WL.done rfl ?_
   injection hx39 with hx39
   exact WX.to Kx38 (IntKind.wrap .u64 (p0 - x6.2)) [7] rfl ⟨(hS33.subR [0]).sub [] (by decide), hx39.symm⟩
  refine WC.condF2 (fun fb => by kernel_rfl) h40 ?_
  refine WC.skip ?_
  injection hx39 with hx39
  exact WX.to Kx38 x6.2 [7] rfl ⟨(hS33.subR [0]).sub [] (by decide), hx39.symm⟩
 rintro y44 w41 ⟨hS42, hq43⟩
 subst hq43
 refine WX.next (WC.seq (WC.region ?_))
 refine sg 2 [] [6] [(6, (.int .u64 x38))] (by kernel_rfl) ?_
 refine WL.done rfl (WX.next ?_)
 refine WC.ret ?_
 injection hf with hf
 subst hf
 exact WX.ret_ [] (.int .u64 x38) [] (fun fb => by kernel_rfl) trivial ⟨_, rfl, rfl, hS42.keep⟩
end Gp
