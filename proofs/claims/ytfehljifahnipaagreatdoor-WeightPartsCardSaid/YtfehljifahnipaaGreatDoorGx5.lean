/- Walks: each function of the program computes its plain function. -/
import Derived.Test.YtfehljifahnipaaGreatDoorGx4
set_option linter.unusedVariables false
set_option linter.unusedSimpArgs false
set_option maxHeartbeats 4000000
set_option maxRecDepth 8000
namespace Gp
open Go Gw Go.Proofs
theorem law06_WeightParts_calls (k : Nat) (p0 : List Tile) (p1 : Weights) (p2 : Int) (Aa : Option Addr) (ca : Nat) (Ab : Option Addr) (cb : Nat) (Ac : Option Addr) (cc : Nat) (Ad : Option Addr) (cd : Nat) (Ae : Option Addr) (ce : Nat) (Af : Option Addr) (cf : Nat) (mG : Glo) (r : Bool) (w : World) (hR0 : RO NoS w (rowR enc_Tile Aa ca p0)) (hR1 : RO NoS w (rowR enc_Frac Ab cb p1.Values)) (hR2 : RO NoS w (rowR enc_Frac Ac cc p1.Carries)) (hR3 : RO NoS w (rowR enc_Frac Ad cd p1.Factors)) (hR4 : RO NoS w (rowR encInt Ae ce p1.Primes)) (hR5 : RO NoS w (rowR encInt Af cf p1.Logs)) (hR6 : RO NoS w (tabO 0 md0)) (hR7 : RO NoS w (gloO Tryz.prog 5 8 3 4 mG)) (hf : law06_WeightParts k p0 p1 p2 = some r) :
  CallsR Tryz.prog 6 #[(sv Aa p0 ca), (.agg #[(sv Ab p1.Values cb), (sv Ac p1.Carries cc), (sv Ad p1.Factors cd), (sv Ae p1.Primes ce), (sv Af p1.Logs cf)]), (.int .u8 p2)] w (fun v w' => v = (bv r) ∧ Keeps NoS w w') := by
 have hS : St NoS w w [rowR enc_Tile Aa ca p0, rowR enc_Frac Ab cb p1.Values, rowR enc_Frac Ac cc p1.Carries, rowR enc_Frac Ad cd p1.Factors, rowR encInt Ae ce p1.Primes, rowR encInt Af cf p1.Logs, tabO 0 md0, gloO Tryz.prog 5 8 3 4 mG] [] := St.init (ro_cons hR0 (ro_cons hR1 (ro_cons hR2 (ro_cons hR3 (ro_cons hR4 (ro_cons hR5 (ro_cons hR6 (ro_cons hR7 (ro_nil _ _)))))))))
 refine enter 114 Tryz.func6 rfl Tryz.ntmps6 rfl ?_
 unfold law06_WeightParts at hf
 refine WC.seq (WC.region ?_)
 refine WL.new hS 4 [] (fun g => (pt g)) (.cells #[(sv Ab p1.Values cb), (sv Ac p1.Carries cc), (sv Ad p1.Factors cd), (sv Ae p1.Primes ce), (sv Af p1.Logs cf)] 26 (0, 0)) [] (fun fb g => by kernel_rfl) trivial (fun g1 w2 hS3 => ?_)
 refine ⟨trivial, ?_⟩
 refine sg 2 [] [0, 2, 4] [(0, (sv Aa p0 ca)), (2, (.int .u8 p2)), (4, (pt g1))] (by kernel_rfl) ?_
 refine WL.done rfl (WX.next (WC.seq (WC.seq (WC.region ?_))))
 refine sg 4 [] [0, 2, 4, 17] [(0, (sv Aa p0 ca)), (2, (.int .u8 p2)), (4, (pt g1)), (17, (bv (decide ((p0.length : Int) > 60))))] (by kernel_rfl) ?_
 refine WL.cutV (T := Bool) 8 (fun t => [(21, (bv t)), (0, (sv Aa p0 ca)), (2, (.int .u8 p2)), (4, (pt g1))]) (fun t => ((decide ((p0.length : Int) > 60)) || ((p0.length : Int) == 0)) = t) (fun K => ?_) ?_
 ·
  rcases Bool.eq_false_or_eq_true (decide ((p0.length : Int) > 60)) with h5 | h5
  ·
   refine WL.setB 17 h5 rfl ?_
   refine sg 8 [] [0, 2, 4, 21] [(0, (sv Aa p0 ca)), (2, (.int .u8 p2)), (4, (pt g1)), (21, (bv true))] (by kernel_rfl) ?_
   exact WL.toV K true [21, 0, 2, 4] rfl (by first | (rw [h5]; done) | (rw [h5]; rfl))
  refine WL.setB 17 h5 rfl ?_
  refine sg 8 [] [0, 2, 4, 21] [(0, (sv Aa p0 ca)), (2, (.int .u8 p2)), (4, (pt g1)), (21, (bv ((p0.length : Int) == 0)))] (by kernel_rfl) ?_
  exact WL.toV K ((p0.length : Int) == 0) [21, 0, 2, 4] rfl (by first | (rw [h5]; done) | (rw [h5]; rfl))
 rintro b6 rfl
 refine sg 9 [] [0, 2, 4, 22] [(0, (sv Aa p0 ca)), (2, (.int .u8 p2)), (4, (pt g1)), (22, (bv ((decide ((p0.length : Int) > 60)) || ((p0.length : Int) == 0))))] (by kernel_rfl) ?_
 obtain ⟨x21, hx22, hf⟩ := bind_some hf
 let e18 : Array Value := #[(sv Ab p1.Values cb), (sv Ac p1.Carries cc), (sv Ad p1.Factors cd), (sv Ae p1.Primes ce), (sv Af p1.Logs cf)]
 let e54 := sv Aa p0 ca
 refine WL.cutW (T := Bool) 13 (fun t => [(0, e54), (2, (.int .u8 p2)), (4, (pt g1)), (26, (bv t))]) (fun t w1 => (St NoS w w1 [rowR enc_Tile Aa ca p0, rowR enc_Frac Ab cb p1.Values, rowR enc_Frac Ac cc p1.Carries, rowR enc_Frac Ad cd p1.Factors, rowR encInt Ae ce p1.Primes, rowR encInt Af cf p1.Logs, tabO 0 md0, gloO Tryz.prog 5 8 3 4 mG] [blk g1 (.cells e18 26 (0, 0))] ∧ x21 = t) ∧ CellsOK [] w1) (fun K => ?_) ?_
 ·
  rcases br_some hx22 with ⟨h23, hx22⟩ | ⟨h23, hx22⟩
  ·
   refine WL.setB 22 h23 rfl ?_
   refine sg 13 [] [0, 2, 4, 26] [(0, e54), (2, (.int .u8 p2)), (4, (pt g1)), (26, (bv true))] (by kernel_rfl) ?_
   injection hx22 with hx22
   exact WL.to K true [0, 2, 4, 26] rfl ⟨⟨(hS3.subR [0, 1, 2, 3, 4, 5, 6, 7]).sub [0] (by decide), hx22.symm⟩, trivial⟩
  refine WL.setB 22 h23 rfl ?_
  refine seg 11 [.v (sv Ab p1.Values cb), .v (sv Ac p1.Carries cc), .v (sv Ad p1.Factors cd), .v (sv Ae p1.Primes ce), .v (sv Af p1.Logs cf)] [0, 2, 4, 22, 23, 24] [(0, e54), (2, (.int .u8 p2)), (4, (pt g1)), (22, (bv false)), (23, e54), (24, (.agg e18))] [.cell ⟨g1, 0, none⟩ (sv Ab p1.Values cb), .cell ⟨g1, 1, none⟩ (sv Ac p1.Carries cc), .cell ⟨g1, 2, none⟩ (sv Ad p1.Factors cd), .cell ⟨g1, 3, none⟩ (sv Ae p1.Primes ce), .cell ⟨g1, 4, none⟩ (sv Af p1.Logs cf)] (fun fb => by kernel_rfl) rfl ⟨hS3.cell 0 rfl 0 rfl, hS3.cell 0 rfl 1 rfl, hS3.cell 0 rfl 2 rfl, hS3.cell 0 rfl 3 rfl, hS3.cell 0 rfl 4 rfl, trivial⟩ ?_
  obtain ⟨t24, ht25, hx22⟩ := bind_some hx22
  refine WL.call (some 25) 8 #[e54, (.agg e18)] (fun fb => by kernel_rfl) (law06_wide_calls p0 p1 Aa ca Ab cb Ac cc Ad cd Ae ce Af cf t24 _ (hS3.rd 0) (hS3.rd 1) (hS3.rd 2) (hS3.rd 3) (hS3.rd 4) (hS3.rd 5) ht25) (fun v w26 hR27 => ?_)
  obtain ⟨rfl, hk_⟩ := hR27
  have hS28 := hS3.keepN hk_
  refine ⟨trivial, ?_⟩
  refine sg 13 [] [0, 2, 4, 26] [(0, e54), (2, (.int .u8 p2)), (4, (pt g1)), (26, (bv t24))] (by kernel_rfl) ?_
  injection hx22 with hx22
  exact WL.to K t24 [0, 2, 4, 26] rfl ⟨⟨(hS28.subR [0, 1, 2, 3, 4, 5, 6, 7]).sub [0] (by decide), hx22.symm⟩, trivial⟩
 rintro y29 w31 ⟨⟨hS32, hq30⟩, hF33⟩
 subst hq30
 refine WL.done rfl (WX.next ?_)
 rcases br_some hf with ⟨h34, hf⟩ | ⟨h34, hf⟩
 ·refine WC.condT2 (fun fb => by kernel_rfl) h34 ?_
  refine WC.seq (WC.region ?_)
  obtain ⟨t9, ht10, hf⟩ := bind_some hf
  refine WL.call (some 27) 10 #[] (fun fb => by kernel_rfl) (law06_awake_calls _ mG t9 _ (hS32.rd 6) (hS32.rd 7) ht10) (fun v w11 hR12 => ?_)
  obtain ⟨rfl, hk_⟩ := hR12
  have hS13 := hS32.keepN hk_
  refine ⟨trivial, ?_⟩
  refine sg 2 [] [6] [(6, (bv t9))] (by kernel_rfl) ?_
  refine WL.done rfl (WX.next ?_)
  refine WC.ret ?_
  injection hf with hf
  subst hf
  exact WX.thenR (WX.ret_ [] (bv t9) [] (fun fb => by kernel_rfl) trivial ⟨_, rfl, rfl, hS13.keep⟩)
 refine WC.condF2 (fun fb => by kernel_rfl) h34 ?_
 refine WC.skip (WX.next (WC.seq (WC.region ?_)))
 refine seg 2 [.v (sv Ab p1.Values cb), .v (sv Ac p1.Carries cc), .v (sv Ad p1.Factors cd), .v (sv Ae p1.Primes ce), .v (sv Af p1.Logs cf)] [0, 2, 4, 29, 30] [(0, e54), (2, (.int .u8 p2)), (4, (pt g1)), (29, e54), (30, (.agg e18))] [.cell ⟨g1, 0, none⟩ (sv Ab p1.Values cb), .cell ⟨g1, 1, none⟩ (sv Ac p1.Carries cc), .cell ⟨g1, 2, none⟩ (sv Ad p1.Factors cd), .cell ⟨g1, 3, none⟩ (sv Ae p1.Primes ce), .cell ⟨g1, 4, none⟩ (sv Af p1.Logs cf)] (fun fb => by kernel_rfl) rfl ⟨hS32.cell 0 rfl 0 rfl, hS32.cell 0 rfl 1 rfl, hS32.cell 0 rfl 2 rfl, hS32.cell 0 rfl 3 rfl, hS32.cell 0 rfl 4 rfl, trivial⟩ ?_
 obtain ⟨t14, ht15, hf⟩ := bind_some hf
 refine WL.call (some 31) 11 #[e54, (.agg e18)] (fun fb => by kernel_rfl) (weight_Check_calls _ p0 p1 Aa ca Ab cb Ac cc Ad cd Ae ce Af cf t14 _ (hS32.rd 0) (hS32.rd 1) (hS32.rd 2) (hS32.rd 3) (hS32.rd 4) (hS32.rd 5) (hS32.rd 6) ht15) (fun v w16 hR17 => ?_)
 obtain ⟨rfl, hk_⟩ := hR17
 have hS18 := hS32.keepN hk_
 refine ⟨trivial, ?_⟩
 refine sg 8 [] [0, 2, 4, 7, 8] [(0, e54), (2, (.int .u8 p2)), (4, (pt g1)), (7, (bv t14.1)), (8, (iv t14.2))] (by kernel_rfl) ?_
 refine WL.done rfl (WX.next (WC.seq (WC.seq (WC.region ?_))))
 refine sg 3 [] [0, 2, 4, 7, 8, 36] [(0, e54), (2, (.int .u8 p2)), (4, (pt g1)), (7, (bv t14.1)), (8, (iv t14.2)), (36, (bv (t14.2 != 0)))] (by kernel_rfl) ?_
 refine WL.cutV (T := Bool) 6 (fun t => [(39, (bv t)), (0, e54), (2, (.int .u8 p2)), (4, (pt g1)), (8, (iv t14.2))]) (fun t => ((t14.2 != 0) || (!t14.1)) = t) (fun K => ?_) ?_
 ·
  rcases Bool.eq_false_or_eq_true (t14.2 != 0) with h19 | h19
  ·
   refine WL.setB 36 h19 rfl ?_
   refine sg 6 [] [0, 2, 4, 8, 39] [(0, e54), (2, (.int .u8 p2)), (4, (pt g1)), (8, (iv t14.2)), (39, (bv true))] (by kernel_rfl) ?_
   exact WL.toV K true [39, 0, 2, 4, 8] rfl (by first | (rw [h19]; done) | (rw [h19]; rfl))
  refine WL.setB 36 h19 rfl ?_
  refine sg 6 [] [0, 2, 4, 8, 39] [(0, e54), (2, (.int .u8 p2)), (4, (pt g1)), (8, (iv t14.2)), (39, (bv (!t14.1)))] (by kernel_rfl) ?_
  exact WL.toV K (!t14.1) [39, 0, 2, 4, 8] rfl (by first | (rw [h19]; done) | (rw [h19]; rfl))
 rintro b20 rfl
 refine sg 7 [] [0, 2, 4, 8, 40] [(0, e54), (2, (.int .u8 p2)), (4, (pt g1)), (8, (iv t14.2)), (40, (bv ((t14.2 != 0) || (!t14.1))))] (by kernel_rfl) ?_
 obtain ⟨x35, hx36, hf⟩ := bind_some hf
 refine WL.cutW (T := Bool) 12 (fun t => [(0, e54), (2, (.int .u8 p2)), (4, (pt g1)), (8, (iv t14.2)), (45, (bv t))]) (fun t w1 => (St NoS w w1 [rowR enc_Tile Aa ca p0, rowR enc_Frac Ab cb p1.Values, rowR enc_Frac Ac cc p1.Carries, rowR enc_Frac Ad cd p1.Factors, rowR encInt Ae ce p1.Primes, rowR encInt Af cf p1.Logs, tabO 0 md0, gloO Tryz.prog 5 8 3 4 mG] [blk g1 (.cells e18 26 (0, 0))] ∧ x35 = t) ∧ CellsOK [] w1) (fun K => ?_) ?_
 ·
  rcases br_some hx36 with ⟨h37, hx36⟩ | ⟨h37, hx36⟩
  ·
   refine WL.setB 40 h37 rfl ?_
   refine sg 12 [] [0, 2, 4, 8, 45] [(0, e54), (2, (.int .u8 p2)), (4, (pt g1)), (8, (iv t14.2)), (45, (bv true))] (by kernel_rfl) ?_
   injection hx36 with hx36
   exact WL.to K true [0, 2, 4, 8, 45] rfl ⟨⟨(hS18.subR [0, 1, 2, 3, 4, 5, 6, 7]).sub [0] (by decide), hx36.symm⟩, trivial⟩
  refine WL.setB 40 h37 rfl ?_
  refine seg 9 [.v (sv Ab p1.Values cb), .v (sv Ac p1.Carries cc), .v (sv Ad p1.Factors cd), .v (sv Ae p1.Primes ce), .v (sv Af p1.Logs cf)] [0, 2, 4, 8, 40, 41, 42] [(0, e54), (2, (.int .u8 p2)), (4, (pt g1)), (8, (iv t14.2)), (40, (bv false)), (41, e54), (42, (.agg e18))] [.cell ⟨g1, 0, none⟩ (sv Ab p1.Values cb), .cell ⟨g1, 1, none⟩ (sv Ac p1.Carries cc), .cell ⟨g1, 2, none⟩ (sv Ad p1.Factors cd), .cell ⟨g1, 3, none⟩ (sv Ae p1.Primes ce), .cell ⟨g1, 4, none⟩ (sv Af p1.Logs cf)] (fun fb => by kernel_rfl) rfl ⟨hS18.cell 0 rfl 0 rfl, hS18.cell 0 rfl 1 rfl, hS18.cell 0 rfl 2 rfl, hS18.cell 0 rfl 3 rfl, hS18.cell 0 rfl 4 rfl, trivial⟩ ?_
  obtain ⟨t38, ht39, hx36⟩ := bind_some hx36
  refine WL.call (some 43) 9 #[e54, (.agg e18)] (fun fb => by kernel_rfl) (ref06_Valid_calls _ p0 p1 Aa ca Ab cb Ac cc Ad cd Ae ce Af cf t38 _ (hS18.rd 0) (hS18.rd 1) (hS18.rd 2) (hS18.rd 3) (hS18.rd 4) (hS18.rd 5) ht39) (fun v w40 hR41 => ?_)
  obtain ⟨rfl, hk_⟩ := hR41
  have hS42 := hS18.keepN hk_
  refine ⟨trivial, ?_⟩
  refine sg 12 [] [0, 2, 4, 8, 45] [(0, e54), (2, (.int .u8 p2)), (4, (pt g1)), (8, (iv t14.2)), (45, (bv (!t38)))] (by kernel_rfl) ?_
  injection hx36 with hx36
  exact WL.to K (!t38) [0, 2, 4, 8, 45] rfl ⟨⟨(hS42.subR [0, 1, 2, 3, 4, 5, 6, 7]).sub [0] (by decide), hx36.symm⟩, trivial⟩
 rintro y43 w45 ⟨⟨hS46, hq44⟩, hF47⟩
 subst hq44
 refine WL.done rfl (WX.next ?_)
 rcases br_some hf with ⟨h48, hf⟩ | ⟨h48, hf⟩
 ·refine WC.condT2 (fun fb => by kernel_rfl) h48 ?_
  refine WC.seq (WC.region ?_)
  refine sg 3 [] [8, 48] [(8, (iv t14.2)), (48, (bv (t14.2 == 0)))] (by kernel_rfl) ?_
  refine WL.cutV (T := Bool) 6 (fun t => [(51, (bv t))]) (fun t => ((t14.2 == 0) || (t14.2 == 1)) = t) (fun K => ?_) ?_
  ·
   rcases Bool.eq_false_or_eq_true (t14.2 == 0) with h49 | h49
   ·
    refine WL.setB 48 h49 rfl ?_
    refine sg 6 [] [51] [(51, (bv true))] (by kernel_rfl) ?_
    exact WL.toV K true [51] rfl (by first | (rw [h49]; done) | (rw [h49]; rfl))
   refine WL.setB 48 h49 rfl ?_
   refine sg 6 [] [51] [(51, (bv (t14.2 == 1)))] (by kernel_rfl) ?_
   exact WL.toV K (t14.2 == 1) [51] rfl (by first | (rw [h49]; done) | (rw [h49]; rfl))
  rintro b50 rfl
  refine sg 7 [] [52] [(52, (bv ((t14.2 == 0) || (t14.2 == 1))))] (by kernel_rfl) ?_
  obtain ⟨x51, hx52, hf⟩ := bind_some hf
  refine WL.cutW (T := Bool) 9 (fun t => [(54, (bv t))]) (fun t w1 => (St NoS w w1 [rowR enc_Tile Aa ca p0, rowR enc_Frac Ab cb p1.Values, rowR enc_Frac Ac cc p1.Carries, rowR enc_Frac Ad cd p1.Factors, rowR encInt Ae ce p1.Primes, rowR encInt Af cf p1.Logs, tabO 0 md0, gloO Tryz.prog 5 8 3 4 mG] [] ∧ x51 = t) ∧ CellsOK [] w1) (fun K => ?_) ?_
  ·
   rcases br_some hx52 with ⟨h53, hx52⟩ | ⟨h53, hx52⟩
   ·
    refine WL.setB 52 h53 rfl ?_
    obtain ⟨t54, ht55, hx52⟩ := bind_some hx52
    refine WL.call (some 53) 10 #[] (fun fb => by kernel_rfl) (law06_awake_calls _ mG t54 _ (hS46.rd 6) (hS46.rd 7) ht55) (fun v w56 hR57 => ?_)
    obtain ⟨rfl, hk_⟩ := hR57
    have hS58 := hS46.keepN hk_
    refine ⟨trivial, ?_⟩
    refine sg 9 [] [54] [(54, (bv t54))] (by kernel_rfl) ?_
    injection hx52 with hx52
    exact WL.to K t54 [54] rfl ⟨⟨(hS58.subR [0, 1, 2, 3, 4, 5, 6, 7]).sub [] (by decide), hx52.symm⟩, trivial⟩
   refine WL.setB 52 h53 rfl ?_
   refine sg 9 [] [54] [(54, (bv false))] (by kernel_rfl) ?_
   injection hx52 with hx52
   exact WL.to K false [54] rfl ⟨⟨(hS46.subR [0, 1, 2, 3, 4, 5, 6, 7]).sub [] (by decide), hx52.symm⟩, trivial⟩
  rintro y59 w61 ⟨⟨hS62, hq60⟩, hF63⟩
  subst hq60
  refine sg 10 [] [6] [(6, (bv x51))] (by kernel_rfl) ?_
  refine WL.done rfl (WX.next ?_)
  refine WC.ret ?_
  injection hf with hf
  subst hf
  exact WX.thenR (WX.ret_ [] (bv x51) [] (fun fb => by kernel_rfl) trivial ⟨_, rfl, rfl, hS62.keep⟩)
 refine WC.condF2 (fun fb => by kernel_rfl) h48 ?_
 refine WC.skip (WX.next (WC.seq (WC.region ?_)))
 refine sg 4 [] [0, 4, 56, 58] [(0, e54), (4, (pt g1)), (56, (iv (w64 (p2)))), (58, (iv (p0.length : Int)))] (by kernel_rfl) ?_
 obtain ⟨h65, hf⟩ := as_some hf
 refine seg 6 [] [0, 4, 9] [(0, e54), (4, (pt g1)), (9, (iv (Int.tmod (w64 (p2)) (p0.length : Int))))] [.ne (p0.length : Int)] (fun fb => by kernel_rfl) rfl ⟨h65, trivial⟩ ?_
 refine WL.done rfl (WX.next (WC.seq ?_))
 obtain ⟨h68, hf⟩ := as_some hf
 obtain ⟨h69, hf⟩ := as_some hf
 refine WC.regionD ([], [1, 2, 3, 5, 6, 7, 8, 10], [[], [], [], [1, 2], [0, 1, 2, 3], [], [], [6], [5, 6, 7], [0, 1, 2, 3, 4, 5, 6, 7, 8], [0, 1, 2, 3, 4, 5, 6, 7, 8, 9]]) [[1, 2, 3, 5, 6, 7, 8, 0, 4, 9, 10]] (by kernel_rfl) (by kernel_rfl) (NoPanic.seq (NoPanic.body)) ?_
 have hS67 := hS46.drew
 revert hS67
 generalize World.drew w45 = w66
 intro hS67
 refine ⟨trivial, forallC ?_ (forallN)⟩
 refine sg 2 [] [0, 4, 9, 61, 62] [(0, e54), (4, (pt g1)), (9, (iv (Int.tmod (w64 (p2)) (p0.length : Int)))), (61, e54), (62, (iv (Int.tmod (w64 (p2)) (p0.length : Int))))] (by kernel_rfl) ?_
 let e29 := (Int.tmod (w64 (p2)) (p0.length : Int))
 refine seg 3 [] [0, 4, 9, 63] [(0, e54), (4, (pt g1)), (9, (iv e29)), (63, (.slice (subA Aa ca (0 : Int).toNat 4) (e29.toNat - (0 : Int).toNat) (ca - (0 : Int).toNat)))] [.idx (some ⟨0, 0, none⟩) (0 : Int) (e29.toNat + 1), .idx (some ⟨0, 0, none⟩) e29 (ca + 1)] (fun fb => by kernel_rfl) rfl ⟨cut1 h68.1 h68.2.1, cut2 h68.1 h68.2.1 h68.2.2 (hS67.rd 0).1.2, trivial⟩ ?_
 refine WL.reE [0, 4, 9, 63] [(0, (.slice Aa p0.length ca)), (4, (pt g1)), (9, (iv (Int.tmod (w64 (p2)) (p0.length : Int)))), (63, (.slice (subA Aa ca (0 : Int).toNat 4) ((Int.tmod (w64 (p2)) (p0.length : Int)).toNat - (0 : Int).toNat) (ca - (0 : Int).toNat)))] [(0, (.slice Aa p0.length ca)), (4, (pt g1)), (9, (iv (Int.tmod (w64 (p2)) (p0.length : Int)))), (63, (.slice (subA Aa ca (0 : Int).toNat 4) (cut p0 (0 : Int) (Int.tmod (w64 (p2)) (p0.length : Int))).length (ca - (0 : Int).toNat)))] rfl (by rw [cut_length h68.1 h68.2.1 h68.2.2]) ?_
 have hS70 := hS67.cutR 0 rfl h68.1 h68.2.1 h68.2.2
 refine sg 6 [] [4, 9, 63, 65, 67] [(4, (pt g1)), (9, (iv e29)), (63, (sv (subA Aa ca (0 : Int).toNat 4) (cut p0 (0 : Int) e29) (ca - (0 : Int).toNat))), (65, e54), (67, (iv (w64 (e29 + 1))))] (by kernel_rfl) ?_
 let e22 := e29
 refine seg 7 [] [4, 9, 63, 68] [(4, (pt g1)), (9, (iv e22)), (63, (sv (subA Aa ca (0 : Int).toNat 4) (cut p0 (0 : Int) e22) (ca - (0 : Int).toNat))), (68, (.slice (subA Aa ca (w64 (e22 + 1)).toNat 4) ((p0.length : Int).toNat - (w64 (e22 + 1)).toNat) (ca - (w64 (e22 + 1)).toNat)))] [.idx (some ⟨0, 0, none⟩) (w64 (e22 + 1)) ((p0.length : Int).toNat + 1), .idx (some ⟨0, 0, none⟩) (p0.length : Int) (ca + 1)] (fun fb => by kernel_rfl) rfl ⟨cut1 h69.1 h69.2.1, cut2 h69.1 h69.2.1 h69.2.2 (hS70.rd 1).1.2, trivial⟩ ?_
 refine WL.reE [4, 9, 63, 68] [(4, (pt g1)), (9, (iv (Int.tmod (w64 (p2)) (p0.length : Int)))), (63, (.slice (subA Aa ca (0 : Int).toNat 4) (cut p0 (0 : Int) (Int.tmod (w64 (p2)) (p0.length : Int))).length (ca - (0 : Int).toNat))), (68, (.slice (subA Aa ca (w64 ((Int.tmod (w64 (p2)) (p0.length : Int)) + 1)).toNat 4) ((p0.length : Int).toNat - (w64 ((Int.tmod (w64 (p2)) (p0.length : Int)) + 1)).toNat) (ca - (w64 ((Int.tmod (w64 (p2)) (p0.length : Int)) + 1)).toNat)))] [(4, (pt g1)), (9, (iv (Int.tmod (w64 (p2)) (p0.length : Int)))), (63, (.slice (subA Aa ca (0 : Int).toNat 4) (cut p0 (0 : Int) (Int.tmod (w64 (p2)) (p0.length : Int))).length (ca - (0 : Int).toNat))), (68, (.slice (subA Aa ca (w64 ((Int.tmod (w64 (p2)) (p0.length : Int)) + 1)).toNat 4) (cut p0 (w64 ((Int.tmod (w64 (p2)) (p0.length : Int)) + 1)) (p0.length : Int)).length (ca - (w64 ((Int.tmod (w64 (p2)) (p0.length : Int)) + 1)).toNat)))] rfl (by rw [cut_length h69.1 h69.2.1 h69.2.2]) ?_
 have hS71 := hS70.cutR 1 rfl h69.1 h69.2.1 h69.2.2
 refine WL.new hS71 60 [] (fun g => (.slice (some ⟨g, 0, none⟩) 0 0)) (.cells #[] 44 (0, 0)) [] (fun fb g => by kernel_rfl) trivial (fun g72 w73 hS74 => ?_)
 refine ⟨trivial, ?_⟩
 have hS75 : St NoS w w73 [rowR enc_Tile (subA Aa ca (w64 (e22 + 1)).toNat 4) (ca - (w64 (e22 + 1)).toNat) (cut p0 (w64 (e22 + 1)) (p0.length : Int)), rowR enc_Tile (subA Aa ca (0 : Int).toNat 4) (ca - (0 : Int).toNat) (cut p0 (0 : Int) e22), rowR enc_Tile Aa ca p0, rowR enc_Frac Ab cb p1.Values, rowR enc_Frac Ac cc p1.Carries, rowR enc_Frac Ad cd p1.Factors, rowR encInt Ae ce p1.Primes, rowR encInt Af cf p1.Logs, tabO 0 md0, gloO Tryz.prog 5 8 3 4 mG] [rowO 44 enc_Tile (some ⟨g72, 0, none⟩) 0 ([] : List Tile), blk g1 (.cells e18 26 (0, 0))] := hS74.map1 0 _ (fun h => rowO.ofBlk h rfl (Nat.le_of_ble_eq_true (by kernel_rfl))) (fun _ h => by obtain ⟨_, h1, h2⟩ := h; injection h1 with h1; subst h1; exact h2) [1] (by decide) (by decide)
 obtain ⟨h76, hf⟩ := as_some hf
 refine WL.append hS75 0 (d := 64) (tS := 22) (z := (.agg #[(iv 0), (iv 0), (iv 0), (iv 0)])) (bytes := 32) (c2 := (ca - (0 : Int).toNat)) rfl (fun fb => by kernel_rfl) (hS75.rd 1).1 (by kernel_rfl) (by kernel_rfl) rfl (by decide) h76 (by decide) [1] (by decide) (by decide) (fun A77 c78 w79 hS80 => ?_)
 refine ⟨trivial, ?_⟩
 obtain ⟨h81, hf⟩ := as_some hf
 refine WL.append hS80 0 (d := 69) (tS := 22) (z := (.agg #[(iv 0), (iv 0), (iv 0), (iv 0)])) (bytes := 32) (c2 := (ca - (w64 (e22 + 1)).toNat)) rfl (fun fb => by kernel_rfl) (hS80.rd 0).1 (by kernel_rfl) (by kernel_rfl) rfl (by decide) h81 (by decide) [1] (by decide) (by decide) (fun A82 c83 w84 hS85 => ?_)
 refine ⟨trivial, ?_⟩
 refine sg 11 [] [4, 9, 10] [(4, (pt g1)), (9, (iv e22)), (10, (sv A82 ((([] : List Tile) ++ (cut p0 (0 : Int) e22)) ++ (cut p0 (w64 (e22 + 1)) (p0.length : Int))) c83))] (by kernel_rfl) ?_
 refine WL.done rfl (WX.next (WC.seq (WC.region ?_)))
 refine sg 1 [] [4, 9, 10, 71] [(4, (pt g1)), (9, (iv e22)), (10, (sv A82 ((([] : List Tile) ++ (cut p0 (0 : Int) e22)) ++ (cut p0 (w64 (e22 + 1)) (p0.length : Int))) c83)), (71, (sv A82 ((([] : List Tile) ++ (cut p0 (0 : Int) e22)) ++ (cut p0 (w64 (e22 + 1)) (p0.length : Int))) c83))] (by kernel_rfl) ?_
 obtain ⟨t86, ht87, hf⟩ := bind_some hf
 refine WL.call (some 72) 21 #[(sv A82 ((([] : List Tile) ++ (cut p0 (0 : Int) e22)) ++ (cut p0 (w64 (e22 + 1)) (p0.length : Int))) c83)] (fun fb => by kernel_rfl) (ref06_Colours_calls _ ((([] : List Tile) ++ (cut p0 (0 : Int) e22)) ++ (cut p0 (w64 (e22 + 1)) (p0.length : Int))) A82 c83 t86 _ (hS85.ow 0).ofO ht87) (fun v w88 hR89 => ?_)
 obtain ⟨rfl, hk_⟩ := hR89
 have hS90 := hS85.keepN hk_
 refine ⟨trivial, ?_⟩
 refine sg 7 [] [4, 9, 10, 11, 12] [(4, (pt g1)), (9, (iv e22)), (10, (sv A82 ((([] : List Tile) ++ (cut p0 (0 : Int) e22)) ++ (cut p0 (w64 (e22 + 1)) (p0.length : Int))) c83)), (11, (iv t86.1)), (12, (iv t86.2))] (by kernel_rfl) ?_
 refine WL.done rfl (WX.next (WC.seq ?_))
 obtain ⟨x102, hx103, hf⟩ := bind_some hf
 let e1 := e22
 let e2 := (sv (subA Ab cb (0 : Int).toNat 2) (cut p1.Values (0 : Int) t86.1) (cb - (0 : Int).toNat))
 let e3 := (sv (subA Ac cc (0 : Int).toNat 2) (cut p1.Carries (0 : Int) t86.2) (cc - (0 : Int).toNat))
 let e53 := w64 (e1 + 1)
 let e4 : List Own := [rowR enc_Frac (subA Ad cd e53.toNat 2) (cd - e53.toNat) (cut p1.Factors e53 (p1.Factors.length : Int)), rowR enc_Frac (subA Ad cd (0 : Int).toNat 2) (cd - (0 : Int).toNat) (cut p1.Factors (0 : Int) e1), rowR enc_Frac (subA Ac cc (0 : Int).toNat 2) (cc - (0 : Int).toNat) (cut p1.Carries (0 : Int) t86.2), rowR enc_Frac (subA Ab cb (0 : Int).toNat 2) (cb - (0 : Int).toNat) (cut p1.Values (0 : Int) t86.1), rowR enc_Tile (subA Aa ca e53.toNat 4) (ca - e53.toNat) (cut p0 e53 (p0.length : Int)), rowR enc_Tile (subA Aa ca (0 : Int).toNat 4) (ca - (0 : Int).toNat) (cut p0 (0 : Int) e1), rowR enc_Tile Aa ca p0, rowR enc_Frac Ab cb p1.Values, rowR enc_Frac Ac cc p1.Carries, rowR enc_Frac Ad cd p1.Factors, rowR encInt Ae ce p1.Primes, rowR encInt Af cf p1.Logs, tabO 0 md0, gloO Tryz.prog 5 8 3 4 mG]
 let e5 := (cut p0 e53 (p0.length : Int))
 let e6 := (cut p1.Factors e53 (p1.Factors.length : Int))
 let e7 : Nat × Value := (87, (sv (subA Ad cd (0 : Int).toNat 2) (cut p1.Factors (0 : Int) e1) (cd - (0 : Int).toNat)))
 let e8 := (cut p0 (0 : Int) e1)
 let e9 := sv Ad p1.Factors cd
 let e10 := sv Ae p1.Primes ce
 let e11 := sv Af p1.Logs cf
 let e12 := (cut p1.Factors (0 : Int) e1)
 let e13 := w64 (e1 + 1)
 let e14 := sv Ac p1.Carries cc
 let e15 : Nat × Value := (4, (pt g1))
 let e16 := sv Ab p1.Values cb
 let e17 := (p1.Factors.length : Int)
 let e19 : Nat × Value := (9, (iv e1))
 let e20 := (subA Ab cb (0 : Int).toNat 2)
 let e21 := (subA Ac cc (0 : Int).toNat 2)
 let e23 : List (Nat × Addr × Value) := [(21, ⟨g1, 3, none⟩, e10), (23, ⟨g1, 4, none⟩, e11)]
 let e24 : Nat × Value := (93, (sv (subA Ad cd e13.toNat 2) e6 (cd - e13.toNat)))
 let e25 : List Nat := [3, 2, 10, 11, 4, 5, 6, 7, 8, 9, 10, 11, 12, 13]
 let e26 := (cb - (0 : Int).toNat)
 let e27 := (cc - (0 : Int).toNat)
 let e28 := (cd - (0 : Int).toNat)
 let e30 : Array Value := #[(iv 0), (iv 0)]
 let e31 : Nat × Addr × Value := (1, ⟨g1, 0, none⟩, e16)
 let e32 : Nat × Addr × Value := (5, ⟨g1, 1, none⟩, e14)
 let e33 : Nat × Addr × Value := (10, ⟨g1, 2, none⟩, e9)
 let e34 : Nat × Addr × Value := (15, ⟨g1, 2, none⟩, e9)
 let e35 : Nat × Value := (12, (iv t86.2))
 let e36 := cd - e13.toNat
 let e37 := (cut p1.Carries (0 : Int) t86.2)
 let e38 := (t86.1.toNat - (0 : Int).toNat)
 let e39 := (t86.2.toNat - (0 : Int).toNat)
 let e40 := (cut p1.Values (0 : Int) t86.1)
 let e41 := (subA Ad cd (0 : Int).toNat 2)
 let e42 := (e1.toNat - (0 : Int).toNat)
 let e43 : List Nat := [10, 78, 82, 87, 93, 96, 98]
 let e44 : List Nat := [4, 10, 78, 82, 87, 90, 92]
 let e45 : List Nat := [4, 9, 10, 78, 82, 85, 86]
 let e46 : Array Value := #[e16, e14, e9, e10, e11]
 let e47 := subA Ad cd e13.toNat 2
 let e48 : List Nat := [4, 10, 78, 82, 87, 93]
 let e49 := e17.toNat - e13.toNat
 let e50 : List Nat := [4, 9, 10, 12, 76, 77]
 let e51 : List Nat := [4, 9, 10, 78, 80, 81]
 let e52 : List Nat := [4, 9, 10, 78, 82, 87]
 refine WC.cutN (T := ((List Frac) × (List Frac) × (List Frac) × (List Int) × (List Int)) × Nat × (Option Addr) × Nat × (Option Addr) × Nat × (Option Addr) × Nat × (Option Addr) × Nat × (Option Addr) × Nat) (fun t => [(10, (sv A82 ((([] : List Tile) ++ e8) ++ e5) c83)), (13, (.pointer (some ⟨t.2.1, 0, none⟩)))]) (fun t w1 => St NoS w w1 [rowR enc_Frac t.2.2.1 t.2.2.2.1 t.1.1, rowR enc_Frac t.2.2.2.2.1 t.2.2.2.2.2.1 t.1.2.1, rowR encInt t.2.2.2.2.2.2.2.2.1 t.2.2.2.2.2.2.2.2.2.1 t.1.2.2.2.1, rowR encInt t.2.2.2.2.2.2.2.2.2.2.1 t.2.2.2.2.2.2.2.2.2.2.2 t.1.2.2.2.2, rowR enc_Tile (subA Aa ca e13.toNat 4) (ca - e13.toNat) e5, rowR enc_Tile (subA Aa ca (0 : Int).toNat 4) (ca - (0 : Int).toNat) e8, rowR enc_Tile Aa ca p0, rowR enc_Frac Ab cb p1.Values, rowR enc_Frac Ac cc p1.Carries, rowR enc_Frac Ad cd p1.Factors, rowR encInt Ae ce p1.Primes, rowR encInt Af cf p1.Logs, tabO 0 md0, gloO Tryz.prog 5 8 3 4 mG] [rowO 44 enc_Tile A82 c83 ((([] : List Tile) ++ e8) ++ e5), blk t.2.1 (.cells #[(sv t.2.2.1 t.1.1 t.2.2.2.1), (sv t.2.2.2.2.1 t.1.2.1 t.2.2.2.2.2.1), (sv t.2.2.2.2.2.2.1 t.1.2.2.1 t.2.2.2.2.2.2.2.1), (sv t.2.2.2.2.2.2.2.2.1 t.1.2.2.2.1 t.2.2.2.2.2.2.2.2.2.1), (sv t.2.2.2.2.2.2.2.2.2.2.1 t.1.2.2.2.2 t.2.2.2.2.2.2.2.2.2.2.2)] 26 (0, 0)), rowO 33 enc_Frac t.2.2.2.2.2.2.1 t.2.2.2.2.2.2.2.1 t.1.2.2.1] ∧ x102 = t.1) (fun Kx102 => ?_) ?_
 ·
  obtain ⟨h106, hx103⟩ := as_some hx103
  obtain ⟨h107, hx103⟩ := as_some hx103
  obtain ⟨h108, hx103⟩ := as_some hx103
  obtain ⟨h109, hx103⟩ := as_some hx103
  refine WC.regionD ([e31, e32, e33, e34, (21, ⟨g1, 3, none⟩, e10), (23, ⟨g1, 4, none⟩, e11)], [0, 1, 2, 3, 4, 5, 6, 7, 9, 10, 11, 12, 14, 15, 16, 17, 18, 20, 21, 22, 23, 24], [[], [0], [], [0, 1, 2], [], [4], [], [4, 5, 6], [], [], [9], [], [9, 10, 11], [8, 9, 10, 11, 12], [], [14], [], [16], [14, 15, 16, 17], [8, 9, 10, 11, 12, 13, 14, 15, 16, 17, 18], [], [20], [], [22], [0, 1, 2, 3, 4, 5, 6, 7, 8, 9, 10, 11, 12, 13, 14, 15, 16, 17, 18, 19, 20, 21, 22, 23], [], [0, 1, 2, 3, 4, 5, 6, 7, 8, 9, 10, 11, 12, 13, 14, 15, 16, 17, 18, 19, 20, 21, 22, 23, 24, 25]]) [[0, 1, 2, 3, 4, 5, 6, 7, 9, 10, 11, 12, 14, 15, 16, 17, 18, 20, 21, 22, 23, 8, 13, 19, 24, 25, 26], [0, 1, 2, 3, 4, 5, 6, 7, 9, 10, 11, 12, 14, 15, 16, 17, 18, 20, 21, 22, 23, 8, 13, 25, 19, 24, 26], [0, 1, 2, 3, 4, 5, 6, 7, 9, 10, 11, 12, 14, 15, 16, 17, 18, 20, 21, 22, 23, 8, 25, 13, 19, 24, 26], [0, 1, 2, 3, 4, 5, 6, 7, 9, 10, 11, 12, 14, 15, 16, 17, 18, 20, 21, 22, 23, 25, 8, 13, 19, 24, 26]] (by kernel_rfl) (by kernel_rfl) (NoPanic.seq (NoPanic.body)) ?_
  have hS105 := hS90.drew
  revert hS105
  generalize World.drew w88 = w104
  intro hS105
  refine ⟨⟨hS105.cell 1 rfl 0 rfl, hS105.cell 1 rfl 1 rfl, hS105.cell 1 rfl 2 rfl, hS105.cell 1 rfl 2 rfl, hS105.cell 1 rfl 3 rfl, hS105.cell 1 rfl 4 rfl, trivial⟩, forallC ?_ (forallC ?_ (forallC ?_ (forallC ?_ (forallN))))⟩
  ·
   refine segF 3 [.v e16] e50 [e15, e19, (10, (sv A82 ((([] : List Tile) ++ e8) ++ e5) c83)), e35, (76, e16), (77, (iv t86.1))] [] [0] [e31] (fun fb => by kernel_rfl) rfl trivial rfl ?_
   refine seg 4 [] [4, 9, 10, 12, 78] [e15, e19, (10, (sv A82 ((([] : List Tile) ++ e8) ++ e5) c83)), e35, (78, (.slice e20 e38 e26))] [.idx (some ⟨0, 0, none⟩) (0 : Int) (t86.1.toNat + 1), .idx (some ⟨0, 0, none⟩) t86.1 (cb + 1)] (fun fb => by kernel_rfl) rfl ⟨cut1 h106.1 h106.2.1, cut2 h106.1 h106.2.1 h106.2.2 (hS105.rd 3).1.2, trivial⟩ ?_
   refine WL.reE [4, 9, 10, 12, 78] [(4, (pt g1)), (9, (iv (Int.tmod (w64 (p2)) (p0.length : Int)))), (10, (.slice A82 ((([] : List Tile) ++ (cut p0 (0 : Int) (Int.tmod (w64 (p2)) (p0.length : Int)))) ++ (cut p0 (w64 ((Int.tmod (w64 (p2)) (p0.length : Int)) + 1)) (p0.length : Int))).length c83)), (12, (iv t86.2)), (78, (.slice (subA Ab cb (0 : Int).toNat 2) (t86.1.toNat - (0 : Int).toNat) (cb - (0 : Int).toNat)))] [(4, (pt g1)), (9, (iv (Int.tmod (w64 (p2)) (p0.length : Int)))), (10, (.slice A82 ((([] : List Tile) ++ (cut p0 (0 : Int) (Int.tmod (w64 (p2)) (p0.length : Int)))) ++ (cut p0 (w64 ((Int.tmod (w64 (p2)) (p0.length : Int)) + 1)) (p0.length : Int))).length c83)), (12, (iv t86.2)), (78, (.slice (subA Ab cb (0 : Int).toNat 2) (cut p1.Values (0 : Int) t86.1).length (cb - (0 : Int).toNat)))] rfl (by rw [cut_length h106.1 h106.2.1 h106.2.2]) ?_
   have hS110 := hS105.cutR 3 rfl h106.1 h106.2.1 h106.2.2
   refine segF 7 [.v e14] e51 [e15, e19, (10, (sv A82 ((([] : List Tile) ++ e8) ++ e5) c83)), (78, e2), (80, e14), (81, (iv t86.2))] [] [1] [e32] (fun fb => by kernel_rfl) rfl trivial rfl ?_
   refine seg 8 [] [4, 9, 10, 78, 82] [e15, e19, (10, (sv A82 ((([] : List Tile) ++ e8) ++ e5) c83)), (78, e2), (82, (.slice e21 e39 e27))] [.idx (some ⟨0, 0, none⟩) (0 : Int) (t86.2.toNat + 1), .idx (some ⟨0, 0, none⟩) t86.2 (cc + 1)] (fun fb => by kernel_rfl) rfl ⟨cut1 h107.1 h107.2.1, cut2 h107.1 h107.2.1 h107.2.2 (hS110.rd 5).1.2, trivial⟩ ?_
   refine WL.reE [4, 9, 10, 78, 82] [(4, (pt g1)), (9, (iv (Int.tmod (w64 (p2)) (p0.length : Int)))), (10, (.slice A82 ((([] : List Tile) ++ (cut p0 (0 : Int) (Int.tmod (w64 (p2)) (p0.length : Int)))) ++ (cut p0 (w64 ((Int.tmod (w64 (p2)) (p0.length : Int)) + 1)) (p0.length : Int))).length c83)), (78, (.slice (subA Ab cb (0 : Int).toNat 2) (cut p1.Values (0 : Int) t86.1).length (cb - (0 : Int).toNat))), (82, (.slice (subA Ac cc (0 : Int).toNat 2) (t86.2.toNat - (0 : Int).toNat) (cc - (0 : Int).toNat)))] [(4, (pt g1)), (9, (iv (Int.tmod (w64 (p2)) (p0.length : Int)))), (10, (.slice A82 ((([] : List Tile) ++ (cut p0 (0 : Int) (Int.tmod (w64 (p2)) (p0.length : Int)))) ++ (cut p0 (w64 ((Int.tmod (w64 (p2)) (p0.length : Int)) + 1)) (p0.length : Int))).length c83)), (78, (.slice (subA Ab cb (0 : Int).toNat 2) (cut p1.Values (0 : Int) t86.1).length (cb - (0 : Int).toNat))), (82, (.slice (subA Ac cc (0 : Int).toNat 2) (cut p1.Carries (0 : Int) t86.2).length (cc - (0 : Int).toNat)))] rfl (by rw [cut_length h107.1 h107.2.1 h107.2.2]) ?_
   have hS111 := hS110.cutR 5 rfl h107.1 h107.2.1 h107.2.2
   refine segF 11 [.v e9] e45 [e15, e19, (10, (sv A82 ((([] : List Tile) ++ e8) ++ e5) c83)), (78, e2), (82, e3), (85, e9), (86, (iv e1))] [] [2] [e33] (fun fb => by kernel_rfl) rfl trivial rfl ?_
   refine seg 12 [] e52 [e15, e19, (10, (sv A82 ((([] : List Tile) ++ e8) ++ e5) c83)), (78, e2), (82, e3), (87, (.slice e41 e42 e28))] [.idx (some ⟨0, 0, none⟩) (0 : Int) (e1.toNat + 1), .idx (some ⟨0, 0, none⟩) e1 (cd + 1)] (fun fb => by kernel_rfl) rfl ⟨cut1 h108.1 h108.2.1, cut2 h108.1 h108.2.1 h108.2.2 (hS111.rd 7).1.2, trivial⟩ ?_
   refine WL.reE [4, 9, 10, 78, 82, 87] [(4, (pt g1)), (9, (iv (Int.tmod (w64 (p2)) (p0.length : Int)))), (10, (.slice A82 ((([] : List Tile) ++ (cut p0 (0 : Int) (Int.tmod (w64 (p2)) (p0.length : Int)))) ++ (cut p0 (w64 ((Int.tmod (w64 (p2)) (p0.length : Int)) + 1)) (p0.length : Int))).length c83)), (78, (.slice (subA Ab cb (0 : Int).toNat 2) (cut p1.Values (0 : Int) t86.1).length (cb - (0 : Int).toNat))), (82, (.slice (subA Ac cc (0 : Int).toNat 2) (cut p1.Carries (0 : Int) t86.2).length (cc - (0 : Int).toNat))), (87, (.slice (subA Ad cd (0 : Int).toNat 2) ((Int.tmod (w64 (p2)) (p0.length : Int)).toNat - (0 : Int).toNat) (cd - (0 : Int).toNat)))] [(4, (pt g1)), (9, (iv (Int.tmod (w64 (p2)) (p0.length : Int)))), (10, (.slice A82 ((([] : List Tile) ++ (cut p0 (0 : Int) (Int.tmod (w64 (p2)) (p0.length : Int)))) ++ (cut p0 (w64 ((Int.tmod (w64 (p2)) (p0.length : Int)) + 1)) (p0.length : Int))).length c83)), (78, (.slice (subA Ab cb (0 : Int).toNat 2) (cut p1.Values (0 : Int) t86.1).length (cb - (0 : Int).toNat))), (82, (.slice (subA Ac cc (0 : Int).toNat 2) (cut p1.Carries (0 : Int) t86.2).length (cc - (0 : Int).toNat))), (87, (.slice (subA Ad cd (0 : Int).toNat 2) (cut p1.Factors (0 : Int) (Int.tmod (w64 (p2)) (p0.length : Int))).length (cd - (0 : Int).toNat)))] rfl (by rw [cut_length h108.1 h108.2.1 h108.2.2]) ?_
   have hS112 := hS111.cutR 7 rfl h108.1 h108.2.1 h108.2.2
   refine segF 16 [.v e9] e44 [e15, (10, (sv A82 ((([] : List Tile) ++ e8) ++ e5) c83)), (78, e2), (82, e3), e7, (90, e9), (92, (iv e13))] [] [3] [e34] (fun fb => by kernel_rfl) rfl trivial rfl ?_
   refine seg 17 [] e48 [e15, (10, (sv A82 ((([] : List Tile) ++ e8) ++ e5) c83)), (78, e2), (82, e3), e7, (93, (.slice e47 e49 e36))] [.idx (some ⟨0, 0, none⟩) e13 (e17.toNat + 1), .idx (some ⟨0, 0, none⟩) e17 (cd + 1)] (fun fb => by kernel_rfl) rfl ⟨cut1 h109.1 h109.2.1, cut2 h109.1 h109.2.1 h109.2.2 (hS112.rd 8).1.2, trivial⟩ ?_
   refine WL.reE [4, 10, 78, 82, 87, 93] [(4, (pt g1)), (10, (.slice A82 ((([] : List Tile) ++ (cut p0 (0 : Int) (Int.tmod (w64 (p2)) (p0.length : Int)))) ++ (cut p0 (w64 ((Int.tmod (w64 (p2)) (p0.length : Int)) + 1)) (p0.length : Int))).length c83)), (78, (.slice (subA Ab cb (0 : Int).toNat 2) (cut p1.Values (0 : Int) t86.1).length (cb - (0 : Int).toNat))), (82, (.slice (subA Ac cc (0 : Int).toNat 2) (cut p1.Carries (0 : Int) t86.2).length (cc - (0 : Int).toNat))), (87, (.slice (subA Ad cd (0 : Int).toNat 2) (cut p1.Factors (0 : Int) (Int.tmod (w64 (p2)) (p0.length : Int))).length (cd - (0 : Int).toNat))), (93, (.slice (subA Ad cd (w64 ((Int.tmod (w64 (p2)) (p0.length : Int)) + 1)).toNat 2) ((p1.Factors.length : Int).toNat - (w64 ((Int.tmod (w64 (p2)) (p0.length : Int)) + 1)).toNat) (cd - (w64 ((Int.tmod (w64 (p2)) (p0.length : Int)) + 1)).toNat)))] [(4, (pt g1)), (10, (.slice A82 ((([] : List Tile) ++ (cut p0 (0 : Int) (Int.tmod (w64 (p2)) (p0.length : Int)))) ++ (cut p0 (w64 ((Int.tmod (w64 (p2)) (p0.length : Int)) + 1)) (p0.length : Int))).length c83)), (78, (.slice (subA Ab cb (0 : Int).toNat 2) (cut p1.Values (0 : Int) t86.1).length (cb - (0 : Int).toNat))), (82, (.slice (subA Ac cc (0 : Int).toNat 2) (cut p1.Carries (0 : Int) t86.2).length (cc - (0 : Int).toNat))), (87, (.slice (subA Ad cd (0 : Int).toNat 2) (cut p1.Factors (0 : Int) (Int.tmod (w64 (p2)) (p0.length : Int))).length (cd - (0 : Int).toNat))), (93, (.slice (subA Ad cd (w64 ((Int.tmod (w64 (p2)) (p0.length : Int)) + 1)).toNat 2) (cut p1.Factors (w64 ((Int.tmod (w64 (p2)) (p0.length : Int)) + 1)) (p1.Factors.length : Int)).length (cd - (w64 ((Int.tmod (w64 (p2)) (p0.length : Int)) + 1)).toNat)))] rfl (by rw [cut_length h109.1 h109.2.1 h109.2.2]) ?_
   have hS113 := hS112.cutR 8 rfl h109.1 h109.2.1 h109.2.2
   refine segF 21 [.v e10, .v e11] e43 [(10, (sv A82 ((([] : List Tile) ++ e8) ++ e5) c83)), (78, e2), (82, e3), e7, e24, (96, e10), (98, e11)] [] [4, 5] e23 (fun fb => by kernel_rfl) rfl trivial rfl ?_
   refine WL.new hS113 83 [] (fun g => (.slice (some ⟨g, 0, none⟩) 0 0)) (.cells #[] 33 (0, 0)) [] (fun fb g => by kernel_rfl) trivial (fun g114 w115 hS116 => ?_)
   refine ⟨⟨hS116.cell 2 rfl 0 rfl, hS116.cell 2 rfl 1 rfl, hS116.cell 2 rfl 2 rfl, hS116.cell 2 rfl 2 rfl, hS116.cell 2 rfl 3 rfl, hS116.cell 2 rfl 4 rfl, trivial⟩, ?_⟩
   have hS117 : St NoS w w115 e4 [rowO 33 enc_Frac (some ⟨g114, 0, none⟩) 0 ([] : List Frac), rowO 44 enc_Tile A82 c83 ((([] : List Tile) ++ e8) ++ e5), blk g1 (.cells e46 26 (0, 0))] := hS116.map1 0 _ (fun h => rowO.ofBlk h rfl (Nat.le_of_ble_eq_true (by kernel_rfl))) (fun _ h => by obtain ⟨_, h1, h2⟩ := h; injection h1 with h1; subst h1; exact h2) [1, 2] (by decide) (by decide)
   obtain ⟨h118, hx103⟩ := as_some hx103
   refine WL.append hS117 0 (d := 88) (tS := 23) (z := (.agg e30)) (bytes := 16) (c2 := e28) rfl (fun fb => by kernel_rfl) (hS117.rd 1).1 (by kernel_rfl) (by kernel_rfl) rfl (by decide) h118 (by decide) [1, 2] (by decide) (by decide) (fun A119 c120 w121 hS122 => ?_)
   refine ⟨⟨hS122.cell 2 rfl 0 rfl, hS122.cell 2 rfl 1 rfl, hS122.cell 2 rfl 2 rfl, hS122.cell 2 rfl 3 rfl, hS122.cell 2 rfl 4 rfl, trivial⟩, ?_⟩
   obtain ⟨h123, hx103⟩ := as_some hx103
   refine WL.append hS122 0 (d := 94) (tS := 23) (z := (.agg e30)) (bytes := 16) (c2 := e36) rfl (fun fb => by kernel_rfl) (hS122.rd 0).1 (by kernel_rfl) (by kernel_rfl) rfl (by decide) h123 (by decide) [1, 2] (by decide) (by decide) (fun A124 c125 w126 hS127 => ?_)
   refine ⟨⟨hS127.cell 2 rfl 0 rfl, hS127.cell 2 rfl 1 rfl, hS127.cell 2 rfl 3 rfl, hS127.cell 2 rfl 4 rfl, trivial⟩, ?_⟩
   refine sg 25 [] [10, 99] [(10, (sv A82 ((([] : List Tile) ++ e8) ++ e5) c83)), (99, (.agg #[e2, e3, (sv A124 ((([] : List Frac) ++ e12) ++ e6) c125), e10, e11]))] (by kernel_rfl) ?_
   refine WL.new hS127 13 [] (fun g => (pt g)) (.cells #[(.slice none 0 0), (.slice none 0 0), (.slice none 0 0), (.slice none 0 0), (.slice none 0 0)] 26 (0, 0)) [] (fun fb g => by kernel_rfl) trivial (fun g128 w129 hS130 => ?_)
   refine ⟨⟨hS130.cell 3 rfl 0 rfl, hS130.cell 3 rfl 1 rfl, hS130.cell 3 rfl 2 rfl, hS130.cell 3 rfl 2 rfl, hS130.cell 3 rfl 3 rfl, hS130.cell 3 rfl 4 rfl, trivial⟩, ?_⟩
   refine WL.store hS130 0 rfl [(0, e2), (1, e3), (2, (sv A124 ((([] : List Frac) ++ e12) ++ e6) c125)), (3, e10), (4, e11)] #[e2, e3, (sv A124 ((([] : List Frac) ++ e12) ++ e6) c125), e10, e11] (fun fb => by kernel_rfl) (by kernel_rfl) rfl [1, 2, 3] (by decide) (by decide) (fun w131 hS132 => ?_)
   refine ⟨trivial, ?_⟩
   refine WL.done rfl ?_
   injection hx103 with hx103
   exact WX.to Kx102 ((e40, e37, (([] : List Frac) ++ e12) ++ e6, p1.Primes, p1.Logs), g128, e20, e26, e21, e27, A124, c125, Ae, ce, Af, cf) [10, 13] rfl ⟨(hS132.subR e25).sub [2, 0, 1] (by decide), hx103.symm⟩
  ·
   refine segF 3 [.v e16] e50 [e15, e19, (10, (sv A82 ((([] : List Tile) ++ e8) ++ e5) c83)), e35, (76, e16), (77, (iv t86.1))] [] [0] [e31] (fun fb => by kernel_rfl) rfl trivial rfl ?_
   refine seg 4 [] [4, 9, 10, 12, 78] [e15, e19, (10, (sv A82 ((([] : List Tile) ++ e8) ++ e5) c83)), e35, (78, (.slice e20 e38 e26))] [.idx (some ⟨0, 0, none⟩) (0 : Int) (t86.1.toNat + 1), .idx (some ⟨0, 0, none⟩) t86.1 (cb + 1)] (fun fb => by kernel_rfl) rfl ⟨cut1 h106.1 h106.2.1, cut2 h106.1 h106.2.1 h106.2.2 (hS105.rd 3).1.2, trivial⟩ ?_
   refine WL.reE [4, 9, 10, 12, 78] [(4, (pt g1)), (9, (iv (Int.tmod (w64 (p2)) (p0.length : Int)))), (10, (.slice A82 ((([] : List Tile) ++ (cut p0 (0 : Int) (Int.tmod (w64 (p2)) (p0.length : Int)))) ++ (cut p0 (w64 ((Int.tmod (w64 (p2)) (p0.length : Int)) + 1)) (p0.length : Int))).length c83)), (12, (iv t86.2)), (78, (.slice (subA Ab cb (0 : Int).toNat 2) (t86.1.toNat - (0 : Int).toNat) (cb - (0 : Int).toNat)))] [(4, (pt g1)), (9, (iv (Int.tmod (w64 (p2)) (p0.length : Int)))), (10, (.slice A82 ((([] : List Tile) ++ (cut p0 (0 : Int) (Int.tmod (w64 (p2)) (p0.length : Int)))) ++ (cut p0 (w64 ((Int.tmod (w64 (p2)) (p0.length : Int)) + 1)) (p0.length : Int))).length c83)), (12, (iv t86.2)), (78, (.slice (subA Ab cb (0 : Int).toNat 2) (cut p1.Values (0 : Int) t86.1).length (cb - (0 : Int).toNat)))] rfl (by rw [cut_length h106.1 h106.2.1 h106.2.2]) ?_
   have hS133 := hS105.cutR 3 rfl h106.1 h106.2.1 h106.2.2
   refine segF 7 [.v e14] e51 [e15, e19, (10, (sv A82 ((([] : List Tile) ++ e8) ++ e5) c83)), (78, e2), (80, e14), (81, (iv t86.2))] [] [1] [e32] (fun fb => by kernel_rfl) rfl trivial rfl ?_
   refine seg 8 [] [4, 9, 10, 78, 82] [e15, e19, (10, (sv A82 ((([] : List Tile) ++ e8) ++ e5) c83)), (78, e2), (82, (.slice e21 e39 e27))] [.idx (some ⟨0, 0, none⟩) (0 : Int) (t86.2.toNat + 1), .idx (some ⟨0, 0, none⟩) t86.2 (cc + 1)] (fun fb => by kernel_rfl) rfl ⟨cut1 h107.1 h107.2.1, cut2 h107.1 h107.2.1 h107.2.2 (hS133.rd 5).1.2, trivial⟩ ?_
   refine WL.reE [4, 9, 10, 78, 82] [(4, (pt g1)), (9, (iv (Int.tmod (w64 (p2)) (p0.length : Int)))), (10, (.slice A82 ((([] : List Tile) ++ (cut p0 (0 : Int) (Int.tmod (w64 (p2)) (p0.length : Int)))) ++ (cut p0 (w64 ((Int.tmod (w64 (p2)) (p0.length : Int)) + 1)) (p0.length : Int))).length c83)), (78, (.slice (subA Ab cb (0 : Int).toNat 2) (cut p1.Values (0 : Int) t86.1).length (cb - (0 : Int).toNat))), (82, (.slice (subA Ac cc (0 : Int).toNat 2) (t86.2.toNat - (0 : Int).toNat) (cc - (0 : Int).toNat)))] [(4, (pt g1)), (9, (iv (Int.tmod (w64 (p2)) (p0.length : Int)))), (10, (.slice A82 ((([] : List Tile) ++ (cut p0 (0 : Int) (Int.tmod (w64 (p2)) (p0.length : Int)))) ++ (cut p0 (w64 ((Int.tmod (w64 (p2)) (p0.length : Int)) + 1)) (p0.length : Int))).length c83)), (78, (.slice (subA Ab cb (0 : Int).toNat 2) (cut p1.Values (0 : Int) t86.1).length (cb - (0 : Int).toNat))), (82, (.slice (subA Ac cc (0 : Int).toNat 2) (cut p1.Carries (0 : Int) t86.2).length (cc - (0 : Int).toNat)))] rfl (by rw [cut_length h107.1 h107.2.1 h107.2.2]) ?_
   have hS134 := hS133.cutR 5 rfl h107.1 h107.2.1 h107.2.2
   refine segF 11 [.v e9] e45 [e15, e19, (10, (sv A82 ((([] : List Tile) ++ e8) ++ e5) c83)), (78, e2), (82, e3), (85, e9), (86, (iv e1))] [] [2] [e33] (fun fb => by kernel_rfl) rfl trivial rfl ?_
   refine seg 12 [] e52 [e15, e19, (10, (sv A82 ((([] : List Tile) ++ e8) ++ e5) c83)), (78, e2), (82, e3), (87, (.slice e41 e42 e28))] [.idx (some ⟨0, 0, none⟩) (0 : Int) (e1.toNat + 1), .idx (some ⟨0, 0, none⟩) e1 (cd + 1)] (fun fb => by kernel_rfl) rfl ⟨cut1 h108.1 h108.2.1, cut2 h108.1 h108.2.1 h108.2.2 (hS134.rd 7).1.2, trivial⟩ ?_
   refine WL.reE [4, 9, 10, 78, 82, 87] [(4, (pt g1)), (9, (iv (Int.tmod (w64 (p2)) (p0.length : Int)))), (10, (.slice A82 ((([] : List Tile) ++ (cut p0 (0 : Int) (Int.tmod (w64 (p2)) (p0.length : Int)))) ++ (cut p0 (w64 ((Int.tmod (w64 (p2)) (p0.length : Int)) + 1)) (p0.length : Int))).length c83)), (78, (.slice (subA Ab cb (0 : Int).toNat 2) (cut p1.Values (0 : Int) t86.1).length (cb - (0 : Int).toNat))), (82, (.slice (subA Ac cc (0 : Int).toNat 2) (cut p1.Carries (0 : Int) t86.2).length (cc - (0 : Int).toNat))), (87, (.slice (subA Ad cd (0 : Int).toNat 2) ((Int.tmod (w64 (p2)) (p0.length : Int)).toNat - (0 : Int).toNat) (cd - (0 : Int).toNat)))] [(4, (pt g1)), (9, (iv (Int.tmod (w64 (p2)) (p0.length : Int)))), (10, (.slice A82 ((([] : List Tile) ++ (cut p0 (0 : Int) (Int.tmod (w64 (p2)) (p0.length : Int)))) ++ (cut p0 (w64 ((Int.tmod (w64 (p2)) (p0.length : Int)) + 1)) (p0.length : Int))).length c83)), (78, (.slice (subA Ab cb (0 : Int).toNat 2) (cut p1.Values (0 : Int) t86.1).length (cb - (0 : Int).toNat))), (82, (.slice (subA Ac cc (0 : Int).toNat 2) (cut p1.Carries (0 : Int) t86.2).length (cc - (0 : Int).toNat))), (87, (.slice (subA Ad cd (0 : Int).toNat 2) (cut p1.Factors (0 : Int) (Int.tmod (w64 (p2)) (p0.length : Int))).length (cd - (0 : Int).toNat)))] rfl (by rw [cut_length h108.1 h108.2.1 h108.2.2]) ?_
   have hS135 := hS134.cutR 7 rfl h108.1 h108.2.1 h108.2.2
   refine segF 16 [.v e9] e44 [e15, (10, (sv A82 ((([] : List Tile) ++ e8) ++ e5) c83)), (78, e2), (82, e3), e7, (90, e9), (92, (iv e13))] [] [3] [e34] (fun fb => by kernel_rfl) rfl trivial rfl ?_
   refine seg 17 [] e48 [e15, (10, (sv A82 ((([] : List Tile) ++ e8) ++ e5) c83)), (78, e2), (82, e3), e7, (93, (.slice e47 e49 e36))] [.idx (some ⟨0, 0, none⟩) e13 (e17.toNat + 1), .idx (some ⟨0, 0, none⟩) e17 (cd + 1)] (fun fb => by kernel_rfl) rfl ⟨cut1 h109.1 h109.2.1, cut2 h109.1 h109.2.1 h109.2.2 (hS135.rd 8).1.2, trivial⟩ ?_
   refine WL.reE [4, 10, 78, 82, 87, 93] [(4, (pt g1)), (10, (.slice A82 ((([] : List Tile) ++ (cut p0 (0 : Int) (Int.tmod (w64 (p2)) (p0.length : Int)))) ++ (cut p0 (w64 ((Int.tmod (w64 (p2)) (p0.length : Int)) + 1)) (p0.length : Int))).length c83)), (78, (.slice (subA Ab cb (0 : Int).toNat 2) (cut p1.Values (0 : Int) t86.1).length (cb - (0 : Int).toNat))), (82, (.slice (subA Ac cc (0 : Int).toNat 2) (cut p1.Carries (0 : Int) t86.2).length (cc - (0 : Int).toNat))), (87, (.slice (subA Ad cd (0 : Int).toNat 2) (cut p1.Factors (0 : Int) (Int.tmod (w64 (p2)) (p0.length : Int))).length (cd - (0 : Int).toNat))), (93, (.slice (subA Ad cd (w64 ((Int.tmod (w64 (p2)) (p0.length : Int)) + 1)).toNat 2) ((p1.Factors.length : Int).toNat - (w64 ((Int.tmod (w64 (p2)) (p0.length : Int)) + 1)).toNat) (cd - (w64 ((Int.tmod (w64 (p2)) (p0.length : Int)) + 1)).toNat)))] [(4, (pt g1)), (10, (.slice A82 ((([] : List Tile) ++ (cut p0 (0 : Int) (Int.tmod (w64 (p2)) (p0.length : Int)))) ++ (cut p0 (w64 ((Int.tmod (w64 (p2)) (p0.length : Int)) + 1)) (p0.length : Int))).length c83)), (78, (.slice (subA Ab cb (0 : Int).toNat 2) (cut p1.Values (0 : Int) t86.1).length (cb - (0 : Int).toNat))), (82, (.slice (subA Ac cc (0 : Int).toNat 2) (cut p1.Carries (0 : Int) t86.2).length (cc - (0 : Int).toNat))), (87, (.slice (subA Ad cd (0 : Int).toNat 2) (cut p1.Factors (0 : Int) (Int.tmod (w64 (p2)) (p0.length : Int))).length (cd - (0 : Int).toNat))), (93, (.slice (subA Ad cd (w64 ((Int.tmod (w64 (p2)) (p0.length : Int)) + 1)).toNat 2) (cut p1.Factors (w64 ((Int.tmod (w64 (p2)) (p0.length : Int)) + 1)) (p1.Factors.length : Int)).length (cd - (w64 ((Int.tmod (w64 (p2)) (p0.length : Int)) + 1)).toNat)))] rfl (by rw [cut_length h109.1 h109.2.1 h109.2.2]) ?_
   have hS136 := hS135.cutR 8 rfl h109.1 h109.2.1 h109.2.2
   refine segF 21 [.v e10, .v e11] e43 [(10, (sv A82 ((([] : List Tile) ++ e8) ++ e5) c83)), (78, e2), (82, e3), e7, e24, (96, e10), (98, e11)] [] [4, 5] e23 (fun fb => by kernel_rfl) rfl trivial rfl ?_
   refine WL.new hS136 83 [] (fun g => (.slice (some ⟨g, 0, none⟩) 0 0)) (.cells #[] 33 (0, 0)) [] (fun fb g => by kernel_rfl) trivial (fun g137 w138 hS139 => ?_)
   refine ⟨⟨hS139.cell 2 rfl 0 rfl, hS139.cell 2 rfl 1 rfl, hS139.cell 2 rfl 2 rfl, hS139.cell 2 rfl 2 rfl, hS139.cell 2 rfl 3 rfl, hS139.cell 2 rfl 4 rfl, trivial⟩, ?_⟩
   have hS140 : St NoS w w138 e4 [rowO 33 enc_Frac (some ⟨g137, 0, none⟩) 0 ([] : List Frac), rowO 44 enc_Tile A82 c83 ((([] : List Tile) ++ e8) ++ e5), blk g1 (.cells e46 26 (0, 0))] := hS139.map1 0 _ (fun h => rowO.ofBlk h rfl (Nat.le_of_ble_eq_true (by kernel_rfl))) (fun _ h => by obtain ⟨_, h1, h2⟩ := h; injection h1 with h1; subst h1; exact h2) [1, 2] (by decide) (by decide)
   obtain ⟨h141, hx103⟩ := as_some hx103
   refine WL.append hS140 0 (d := 88) (tS := 23) (z := (.agg e30)) (bytes := 16) (c2 := e28) rfl (fun fb => by kernel_rfl) (hS140.rd 1).1 (by kernel_rfl) (by kernel_rfl) rfl (by decide) h141 (by decide) [1, 2] (by decide) (by decide) (fun A142 c143 w144 hS145 => ?_)
   refine ⟨⟨hS145.cell 2 rfl 0 rfl, hS145.cell 2 rfl 1 rfl, hS145.cell 2 rfl 2 rfl, hS145.cell 2 rfl 3 rfl, hS145.cell 2 rfl 4 rfl, trivial⟩, ?_⟩
   refine WL.new hS145 13 [] (fun g => (pt g)) (.cells #[(.slice none 0 0), (.slice none 0 0), (.slice none 0 0), (.slice none 0 0), (.slice none 0 0)] 26 (0, 0)) [] (fun fb g => by kernel_rfl) trivial (fun g146 w147 hS148 => ?_)
   refine ⟨⟨hS148.cell 3 rfl 0 rfl, hS148.cell 3 rfl 1 rfl, hS148.cell 3 rfl 2 rfl, hS148.cell 3 rfl 2 rfl, hS148.cell 3 rfl 3 rfl, hS148.cell 3 rfl 4 rfl, trivial⟩, ?_⟩
   obtain ⟨h149, hx103⟩ := as_some hx103
   refine WL.append hS148 1 (d := 94) (tS := 23) (z := (.agg e30)) (bytes := 16) (c2 := e36) rfl (fun fb => by kernel_rfl) (hS148.rd 0).1 (by kernel_rfl) (by kernel_rfl) rfl (by decide) h149 (by decide) [0, 2, 3] (by decide) (by decide) (fun A150 c151 w152 hS153 => ?_)
   refine ⟨⟨hS153.cell 3 rfl 0 rfl, hS153.cell 3 rfl 1 rfl, hS153.cell 3 rfl 3 rfl, hS153.cell 3 rfl 4 rfl, trivial⟩, ?_⟩
   refine sg 26 [] [10, 13, 99] [(10, (sv A82 ((([] : List Tile) ++ e8) ++ e5) c83)), (13, (pt g146)), (99, (.agg #[e2, e3, (sv A150 ((([] : List Frac) ++ e12) ++ e6) c151), e10, e11]))] (by kernel_rfl) ?_
   refine WL.store hS153 1 rfl [(0, e2), (1, e3), (2, (sv A150 ((([] : List Frac) ++ e12) ++ e6) c151)), (3, e10), (4, e11)] #[e2, e3, (sv A150 ((([] : List Frac) ++ e12) ++ e6) c151), e10, e11] (fun fb => by kernel_rfl) (by kernel_rfl) rfl [0, 2, 3] (by decide) (by decide) (fun w154 hS155 => ?_)
   refine ⟨trivial, ?_⟩
   refine WL.done rfl ?_
   injection hx103 with hx103
   exact WX.to Kx102 ((e40, e37, (([] : List Frac) ++ e12) ++ e6, p1.Primes, p1.Logs), g146, e20, e26, e21, e27, A150, c151, Ae, ce, Af, cf) [10, 13] rfl ⟨(hS155.subR e25).sub [2, 0, 1] (by decide), hx103.symm⟩
  ·
   refine segF 3 [.v e16] e50 [e15, e19, (10, (sv A82 ((([] : List Tile) ++ e8) ++ e5) c83)), e35, (76, e16), (77, (iv t86.1))] [] [0] [e31] (fun fb => by kernel_rfl) rfl trivial rfl ?_
   refine seg 4 [] [4, 9, 10, 12, 78] [e15, e19, (10, (sv A82 ((([] : List Tile) ++ e8) ++ e5) c83)), e35, (78, (.slice e20 e38 e26))] [.idx (some ⟨0, 0, none⟩) (0 : Int) (t86.1.toNat + 1), .idx (some ⟨0, 0, none⟩) t86.1 (cb + 1)] (fun fb => by kernel_rfl) rfl ⟨cut1 h106.1 h106.2.1, cut2 h106.1 h106.2.1 h106.2.2 (hS105.rd 3).1.2, trivial⟩ ?_
   refine WL.reE [4, 9, 10, 12, 78] [(4, (pt g1)), (9, (iv (Int.tmod (w64 (p2)) (p0.length : Int)))), (10, (.slice A82 ((([] : List Tile) ++ (cut p0 (0 : Int) (Int.tmod (w64 (p2)) (p0.length : Int)))) ++ (cut p0 (w64 ((Int.tmod (w64 (p2)) (p0.length : Int)) + 1)) (p0.length : Int))).length c83)), (12, (iv t86.2)), (78, (.slice (subA Ab cb (0 : Int).toNat 2) (t86.1.toNat - (0 : Int).toNat) (cb - (0 : Int).toNat)))] [(4, (pt g1)), (9, (iv (Int.tmod (w64 (p2)) (p0.length : Int)))), (10, (.slice A82 ((([] : List Tile) ++ (cut p0 (0 : Int) (Int.tmod (w64 (p2)) (p0.length : Int)))) ++ (cut p0 (w64 ((Int.tmod (w64 (p2)) (p0.length : Int)) + 1)) (p0.length : Int))).length c83)), (12, (iv t86.2)), (78, (.slice (subA Ab cb (0 : Int).toNat 2) (cut p1.Values (0 : Int) t86.1).length (cb - (0 : Int).toNat)))] rfl (by rw [cut_length h106.1 h106.2.1 h106.2.2]) ?_
   have hS156 := hS105.cutR 3 rfl h106.1 h106.2.1 h106.2.2
   refine segF 7 [.v e14] e51 [e15, e19, (10, (sv A82 ((([] : List Tile) ++ e8) ++ e5) c83)), (78, e2), (80, e14), (81, (iv t86.2))] [] [1] [e32] (fun fb => by kernel_rfl) rfl trivial rfl ?_
   refine seg 8 [] [4, 9, 10, 78, 82] [e15, e19, (10, (sv A82 ((([] : List Tile) ++ e8) ++ e5) c83)), (78, e2), (82, (.slice e21 e39 e27))] [.idx (some ⟨0, 0, none⟩) (0 : Int) (t86.2.toNat + 1), .idx (some ⟨0, 0, none⟩) t86.2 (cc + 1)] (fun fb => by kernel_rfl) rfl ⟨cut1 h107.1 h107.2.1, cut2 h107.1 h107.2.1 h107.2.2 (hS156.rd 5).1.2, trivial⟩ ?_
   refine WL.reE [4, 9, 10, 78, 82] [(4, (pt g1)), (9, (iv (Int.tmod (w64 (p2)) (p0.length : Int)))), (10, (.slice A82 ((([] : List Tile) ++ (cut p0 (0 : Int) (Int.tmod (w64 (p2)) (p0.length : Int)))) ++ (cut p0 (w64 ((Int.tmod (w64 (p2)) (p0.length : Int)) + 1)) (p0.length : Int))).length c83)), (78, (.slice (subA Ab cb (0 : Int).toNat 2) (cut p1.Values (0 : Int) t86.1).length (cb - (0 : Int).toNat))), (82, (.slice (subA Ac cc (0 : Int).toNat 2) (t86.2.toNat - (0 : Int).toNat) (cc - (0 : Int).toNat)))] [(4, (pt g1)), (9, (iv (Int.tmod (w64 (p2)) (p0.length : Int)))), (10, (.slice A82 ((([] : List Tile) ++ (cut p0 (0 : Int) (Int.tmod (w64 (p2)) (p0.length : Int)))) ++ (cut p0 (w64 ((Int.tmod (w64 (p2)) (p0.length : Int)) + 1)) (p0.length : Int))).length c83)), (78, (.slice (subA Ab cb (0 : Int).toNat 2) (cut p1.Values (0 : Int) t86.1).length (cb - (0 : Int).toNat))), (82, (.slice (subA Ac cc (0 : Int).toNat 2) (cut p1.Carries (0 : Int) t86.2).length (cc - (0 : Int).toNat)))] rfl (by rw [cut_length h107.1 h107.2.1 h107.2.2]) ?_
   have hS157 := hS156.cutR 5 rfl h107.1 h107.2.1 h107.2.2
   refine segF 11 [.v e9] e45 [e15, e19, (10, (sv A82 ((([] : List Tile) ++ e8) ++ e5) c83)), (78, e2), (82, e3), (85, e9), (86, (iv e1))] [] [2] [e33] (fun fb => by kernel_rfl) rfl trivial rfl ?_
   refine seg 12 [] e52 [e15, e19, (10, (sv A82 ((([] : List Tile) ++ e8) ++ e5) c83)), (78, e2), (82, e3), (87, (.slice e41 e42 e28))] [.idx (some ⟨0, 0, none⟩) (0 : Int) (e1.toNat + 1), .idx (some ⟨0, 0, none⟩) e1 (cd + 1)] (fun fb => by kernel_rfl) rfl ⟨cut1 h108.1 h108.2.1, cut2 h108.1 h108.2.1 h108.2.2 (hS157.rd 7).1.2, trivial⟩ ?_
   refine WL.reE [4, 9, 10, 78, 82, 87] [(4, (pt g1)), (9, (iv (Int.tmod (w64 (p2)) (p0.length : Int)))), (10, (.slice A82 ((([] : List Tile) ++ (cut p0 (0 : Int) (Int.tmod (w64 (p2)) (p0.length : Int)))) ++ (cut p0 (w64 ((Int.tmod (w64 (p2)) (p0.length : Int)) + 1)) (p0.length : Int))).length c83)), (78, (.slice (subA Ab cb (0 : Int).toNat 2) (cut p1.Values (0 : Int) t86.1).length (cb - (0 : Int).toNat))), (82, (.slice (subA Ac cc (0 : Int).toNat 2) (cut p1.Carries (0 : Int) t86.2).length (cc - (0 : Int).toNat))), (87, (.slice (subA Ad cd (0 : Int).toNat 2) ((Int.tmod (w64 (p2)) (p0.length : Int)).toNat - (0 : Int).toNat) (cd - (0 : Int).toNat)))] [(4, (pt g1)), (9, (iv (Int.tmod (w64 (p2)) (p0.length : Int)))), (10, (.slice A82 ((([] : List Tile) ++ (cut p0 (0 : Int) (Int.tmod (w64 (p2)) (p0.length : Int)))) ++ (cut p0 (w64 ((Int.tmod (w64 (p2)) (p0.length : Int)) + 1)) (p0.length : Int))).length c83)), (78, (.slice (subA Ab cb (0 : Int).toNat 2) (cut p1.Values (0 : Int) t86.1).length (cb - (0 : Int).toNat))), (82, (.slice (subA Ac cc (0 : Int).toNat 2) (cut p1.Carries (0 : Int) t86.2).length (cc - (0 : Int).toNat))), (87, (.slice (subA Ad cd (0 : Int).toNat 2) (cut p1.Factors (0 : Int) (Int.tmod (w64 (p2)) (p0.length : Int))).length (cd - (0 : Int).toNat)))] rfl (by rw [cut_length h108.1 h108.2.1 h108.2.2]) ?_
   have hS158 := hS157.cutR 7 rfl h108.1 h108.2.1 h108.2.2
   refine segF 16 [.v e9] e44 [e15, (10, (sv A82 ((([] : List Tile) ++ e8) ++ e5) c83)), (78, e2), (82, e3), e7, (90, e9), (92, (iv e13))] [] [3] [e34] (fun fb => by kernel_rfl) rfl trivial rfl ?_
   refine seg 17 [] e48 [e15, (10, (sv A82 ((([] : List Tile) ++ e8) ++ e5) c83)), (78, e2), (82, e3), e7, (93, (.slice e47 e49 e36))] [.idx (some ⟨0, 0, none⟩) e13 (e17.toNat + 1), .idx (some ⟨0, 0, none⟩) e17 (cd + 1)] (fun fb => by kernel_rfl) rfl ⟨cut1 h109.1 h109.2.1, cut2 h109.1 h109.2.1 h109.2.2 (hS158.rd 8).1.2, trivial⟩ ?_
   refine WL.reE [4, 10, 78, 82, 87, 93] [(4, (pt g1)), (10, (.slice A82 ((([] : List Tile) ++ (cut p0 (0 : Int) (Int.tmod (w64 (p2)) (p0.length : Int)))) ++ (cut p0 (w64 ((Int.tmod (w64 (p2)) (p0.length : Int)) + 1)) (p0.length : Int))).length c83)), (78, (.slice (subA Ab cb (0 : Int).toNat 2) (cut p1.Values (0 : Int) t86.1).length (cb - (0 : Int).toNat))), (82, (.slice (subA Ac cc (0 : Int).toNat 2) (cut p1.Carries (0 : Int) t86.2).length (cc - (0 : Int).toNat))), (87, (.slice (subA Ad cd (0 : Int).toNat 2) (cut p1.Factors (0 : Int) (Int.tmod (w64 (p2)) (p0.length : Int))).length (cd - (0 : Int).toNat))), (93, (.slice (subA Ad cd (w64 ((Int.tmod (w64 (p2)) (p0.length : Int)) + 1)).toNat 2) ((p1.Factors.length : Int).toNat - (w64 ((Int.tmod (w64 (p2)) (p0.length : Int)) + 1)).toNat) (cd - (w64 ((Int.tmod (w64 (p2)) (p0.length : Int)) + 1)).toNat)))] [(4, (pt g1)), (10, (.slice A82 ((([] : List Tile) ++ (cut p0 (0 : Int) (Int.tmod (w64 (p2)) (p0.length : Int)))) ++ (cut p0 (w64 ((Int.tmod (w64 (p2)) (p0.length : Int)) + 1)) (p0.length : Int))).length c83)), (78, (.slice (subA Ab cb (0 : Int).toNat 2) (cut p1.Values (0 : Int) t86.1).length (cb - (0 : Int).toNat))), (82, (.slice (subA Ac cc (0 : Int).toNat 2) (cut p1.Carries (0 : Int) t86.2).length (cc - (0 : Int).toNat))), (87, (.slice (subA Ad cd (0 : Int).toNat 2) (cut p1.Factors (0 : Int) (Int.tmod (w64 (p2)) (p0.length : Int))).length (cd - (0 : Int).toNat))), (93, (.slice (subA Ad cd (w64 ((Int.tmod (w64 (p2)) (p0.length : Int)) + 1)).toNat 2) (cut p1.Factors (w64 ((Int.tmod (w64 (p2)) (p0.length : Int)) + 1)) (p1.Factors.length : Int)).length (cd - (w64 ((Int.tmod (w64 (p2)) (p0.length : Int)) + 1)).toNat)))] rfl (by rw [cut_length h109.1 h109.2.1 h109.2.2]) ?_
   have hS159 := hS158.cutR 8 rfl h109.1 h109.2.1 h109.2.2
   refine segF 21 [.v e10, .v e11] e43 [(10, (sv A82 ((([] : List Tile) ++ e8) ++ e5) c83)), (78, e2), (82, e3), e7, e24, (96, e10), (98, e11)] [] [4, 5] e23 (fun fb => by kernel_rfl) rfl trivial rfl ?_
   refine WL.new hS159 83 [] (fun g => (.slice (some ⟨g, 0, none⟩) 0 0)) (.cells #[] 33 (0, 0)) [] (fun fb g => by kernel_rfl) trivial (fun g160 w161 hS162 => ?_)
   refine ⟨⟨hS162.cell 2 rfl 0 rfl, hS162.cell 2 rfl 1 rfl, hS162.cell 2 rfl 2 rfl, hS162.cell 2 rfl 2 rfl, hS162.cell 2 rfl 3 rfl, hS162.cell 2 rfl 4 rfl, trivial⟩, ?_⟩
   have hS163 : St NoS w w161 e4 [rowO 33 enc_Frac (some ⟨g160, 0, none⟩) 0 ([] : List Frac), rowO 44 enc_Tile A82 c83 ((([] : List Tile) ++ e8) ++ e5), blk g1 (.cells e46 26 (0, 0))] := hS162.map1 0 _ (fun h => rowO.ofBlk h rfl (Nat.le_of_ble_eq_true (by kernel_rfl))) (fun _ h => by obtain ⟨_, h1, h2⟩ := h; injection h1 with h1; subst h1; exact h2) [1, 2] (by decide) (by decide)
   refine WL.new hS163 13 [] (fun g => (pt g)) (.cells #[(.slice none 0 0), (.slice none 0 0), (.slice none 0 0), (.slice none 0 0), (.slice none 0 0)] 26 (0, 0)) [] (fun fb g => by kernel_rfl) trivial (fun g164 w165 hS166 => ?_)
   refine ⟨⟨hS166.cell 3 rfl 0 rfl, hS166.cell 3 rfl 1 rfl, hS166.cell 3 rfl 2 rfl, hS166.cell 3 rfl 2 rfl, hS166.cell 3 rfl 3 rfl, hS166.cell 3 rfl 4 rfl, trivial⟩, ?_⟩
   obtain ⟨h167, hx103⟩ := as_some hx103
   refine WL.append hS166 1 (d := 88) (tS := 23) (z := (.agg e30)) (bytes := 16) (c2 := e28) rfl (fun fb => by kernel_rfl) (hS166.rd 1).1 (by kernel_rfl) (by kernel_rfl) rfl (by decide) h167 (by decide) [0, 2, 3] (by decide) (by decide) (fun A168 c169 w170 hS171 => ?_)
   refine ⟨⟨hS171.cell 3 rfl 0 rfl, hS171.cell 3 rfl 1 rfl, hS171.cell 3 rfl 2 rfl, hS171.cell 3 rfl 3 rfl, hS171.cell 3 rfl 4 rfl, trivial⟩, ?_⟩
   obtain ⟨h172, hx103⟩ := as_some hx103
   refine WL.append hS171 0 (d := 94) (tS := 23) (z := (.agg e30)) (bytes := 16) (c2 := e36) rfl (fun fb => by kernel_rfl) (hS171.rd 0).1 (by kernel_rfl) (by kernel_rfl) rfl (by decide) h172 (by decide) [1, 2, 3] (by decide) (by decide) (fun A173 c174 w175 hS176 => ?_)
   refine ⟨⟨hS176.cell 3 rfl 0 rfl, hS176.cell 3 rfl 1 rfl, hS176.cell 3 rfl 3 rfl, hS176.cell 3 rfl 4 rfl, trivial⟩, ?_⟩
   refine sg 26 [] [10, 13, 99] [(10, (sv A82 ((([] : List Tile) ++ e8) ++ e5) c83)), (13, (pt g164)), (99, (.agg #[e2, e3, (sv A173 ((([] : List Frac) ++ e12) ++ e6) c174), e10, e11]))] (by kernel_rfl) ?_
   refine WL.store hS176 1 rfl [(0, e2), (1, e3), (2, (sv A173 ((([] : List Frac) ++ e12) ++ e6) c174)), (3, e10), (4, e11)] #[e2, e3, (sv A173 ((([] : List Frac) ++ e12) ++ e6) c174), e10, e11] (fun fb => by kernel_rfl) (by kernel_rfl) rfl [0, 2, 3] (by decide) (by decide) (fun w177 hS178 => ?_)
   refine ⟨trivial, ?_⟩
   refine WL.done rfl ?_
   injection hx103 with hx103
   exact WX.to Kx102 ((e40, e37, (([] : List Frac) ++ e12) ++ e6, p1.Primes, p1.Logs), g164, e20, e26, e21, e27, A173, c174, Ae, ce, Af, cf) [10, 13] rfl ⟨(hS178.subR e25).sub [2, 0, 1] (by decide), hx103.symm⟩
  refine segF 3 [.v e16] e50 [e15, e19, (10, (sv A82 ((([] : List Tile) ++ e8) ++ e5) c83)), e35, (76, e16), (77, (iv t86.1))] [] [0] [e31] (fun fb => by kernel_rfl) rfl trivial rfl ?_
  refine seg 4 [] [4, 9, 10, 12, 78] [e15, e19, (10, (sv A82 ((([] : List Tile) ++ e8) ++ e5) c83)), e35, (78, (.slice e20 e38 e26))] [.idx (some ⟨0, 0, none⟩) (0 : Int) (t86.1.toNat + 1), .idx (some ⟨0, 0, none⟩) t86.1 (cb + 1)] (fun fb => by kernel_rfl) rfl ⟨cut1 h106.1 h106.2.1, cut2 h106.1 h106.2.1 h106.2.2 (hS105.rd 3).1.2, trivial⟩ ?_
  refine WL.reE [4, 9, 10, 12, 78] [(4, (pt g1)), (9, (iv (Int.tmod (w64 (p2)) (p0.length : Int)))), (10, (.slice A82 ((([] : List Tile) ++ (cut p0 (0 : Int) (Int.tmod (w64 (p2)) (p0.length : Int)))) ++ (cut p0 (w64 ((Int.tmod (w64 (p2)) (p0.length : Int)) + 1)) (p0.length : Int))).length c83)), (12, (iv t86.2)), (78, (.slice (subA Ab cb (0 : Int).toNat 2) (t86.1.toNat - (0 : Int).toNat) (cb - (0 : Int).toNat)))] [(4, (pt g1)), (9, (iv (Int.tmod (w64 (p2)) (p0.length : Int)))), (10, (.slice A82 ((([] : List Tile) ++ (cut p0 (0 : Int) (Int.tmod (w64 (p2)) (p0.length : Int)))) ++ (cut p0 (w64 ((Int.tmod (w64 (p2)) (p0.length : Int)) + 1)) (p0.length : Int))).length c83)), (12, (iv t86.2)), (78, (.slice (subA Ab cb (0 : Int).toNat 2) (cut p1.Values (0 : Int) t86.1).length (cb - (0 : Int).toNat)))] rfl (by rw [cut_length h106.1 h106.2.1 h106.2.2]) ?_
  have hS179 := hS105.cutR 3 rfl h106.1 h106.2.1 h106.2.2
  refine segF 7 [.v e14] e51 [e15, e19, (10, (sv A82 ((([] : List Tile) ++ e8) ++ e5) c83)), (78, e2), (80, e14), (81, (iv t86.2))] [] [1] [e32] (fun fb => by kernel_rfl) rfl trivial rfl ?_
  refine seg 8 [] [4, 9, 10, 78, 82] [e15, e19, (10, (sv A82 ((([] : List Tile) ++ e8) ++ e5) c83)), (78, e2), (82, (.slice e21 e39 e27))] [.idx (some ⟨0, 0, none⟩) (0 : Int) (t86.2.toNat + 1), .idx (some ⟨0, 0, none⟩) t86.2 (cc + 1)] (fun fb => by kernel_rfl) rfl ⟨cut1 h107.1 h107.2.1, cut2 h107.1 h107.2.1 h107.2.2 (hS179.rd 5).1.2, trivial⟩ ?_
  refine WL.reE [4, 9, 10, 78, 82] [(4, (pt g1)), (9, (iv (Int.tmod (w64 (p2)) (p0.length : Int)))), (10, (.slice A82 ((([] : List Tile) ++ (cut p0 (0 : Int) (Int.tmod (w64 (p2)) (p0.length : Int)))) ++ (cut p0 (w64 ((Int.tmod (w64 (p2)) (p0.length : Int)) + 1)) (p0.length : Int))).length c83)), (78, (.slice (subA Ab cb (0 : Int).toNat 2) (cut p1.Values (0 : Int) t86.1).length (cb - (0 : Int).toNat))), (82, (.slice (subA Ac cc (0 : Int).toNat 2) (t86.2.toNat - (0 : Int).toNat) (cc - (0 : Int).toNat)))] [(4, (pt g1)), (9, (iv (Int.tmod (w64 (p2)) (p0.length : Int)))), (10, (.slice A82 ((([] : List Tile) ++ (cut p0 (0 : Int) (Int.tmod (w64 (p2)) (p0.length : Int)))) ++ (cut p0 (w64 ((Int.tmod (w64 (p2)) (p0.length : Int)) + 1)) (p0.length : Int))).length c83)), (78, (.slice (subA Ab cb (0 : Int).toNat 2) (cut p1.Values (0 : Int) t86.1).length (cb - (0 : Int).toNat))), (82, (.slice (subA Ac cc (0 : Int).toNat 2) (cut p1.Carries (0 : Int) t86.2).length (cc - (0 : Int).toNat)))] rfl (by rw [cut_length h107.1 h107.2.1 h107.2.2]) ?_
  have hS180 := hS179.cutR 5 rfl h107.1 h107.2.1 h107.2.2
  refine segF 11 [.v e9] e45 [e15, e19, (10, (sv A82 ((([] : List Tile) ++ e8) ++ e5) c83)), (78, e2), (82, e3), (85, e9), (86, (iv e1))] [] [2] [e33] (fun fb => by kernel_rfl) rfl trivial rfl ?_
  refine seg 12 [] e52 [e15, e19, (10, (sv A82 ((([] : List Tile) ++ e8) ++ e5) c83)), (78, e2), (82, e3), (87, (.slice e41 e42 e28))] [.idx (some ⟨0, 0, none⟩) (0 : Int) (e1.toNat + 1), .idx (some ⟨0, 0, none⟩) e1 (cd + 1)] (fun fb => by kernel_rfl) rfl ⟨cut1 h108.1 h108.2.1, cut2 h108.1 h108.2.1 h108.2.2 (hS180.rd 7).1.2, trivial⟩ ?_
  refine WL.reE [4, 9, 10, 78, 82, 87] [(4, (pt g1)), (9, (iv (Int.tmod (w64 (p2)) (p0.length : Int)))), (10, (.slice A82 ((([] : List Tile) ++ (cut p0 (0 : Int) (Int.tmod (w64 (p2)) (p0.length : Int)))) ++ (cut p0 (w64 ((Int.tmod (w64 (p2)) (p0.length : Int)) + 1)) (p0.length : Int))).length c83)), (78, (.slice (subA Ab cb (0 : Int).toNat 2) (cut p1.Values (0 : Int) t86.1).length (cb - (0 : Int).toNat))), (82, (.slice (subA Ac cc (0 : Int).toNat 2) (cut p1.Carries (0 : Int) t86.2).length (cc - (0 : Int).toNat))), (87, (.slice (subA Ad cd (0 : Int).toNat 2) ((Int.tmod (w64 (p2)) (p0.length : Int)).toNat - (0 : Int).toNat) (cd - (0 : Int).toNat)))] [(4, (pt g1)), (9, (iv (Int.tmod (w64 (p2)) (p0.length : Int)))), (10, (.slice A82 ((([] : List Tile) ++ (cut p0 (0 : Int) (Int.tmod (w64 (p2)) (p0.length : Int)))) ++ (cut p0 (w64 ((Int.tmod (w64 (p2)) (p0.length : Int)) + 1)) (p0.length : Int))).length c83)), (78, (.slice (subA Ab cb (0 : Int).toNat 2) (cut p1.Values (0 : Int) t86.1).length (cb - (0 : Int).toNat))), (82, (.slice (subA Ac cc (0 : Int).toNat 2) (cut p1.Carries (0 : Int) t86.2).length (cc - (0 : Int).toNat))), (87, (.slice (subA Ad cd (0 : Int).toNat 2) (cut p1.Factors (0 : Int) (Int.tmod (w64 (p2)) (p0.length : Int))).length (cd - (0 : Int).toNat)))] rfl (by rw [cut_length h108.1 h108.2.1 h108.2.2]) ?_
  have hS181 := hS180.cutR 7 rfl h108.1 h108.2.1 h108.2.2
  refine segF 16 [.v e9] e44 [e15, (10, (sv A82 ((([] : List Tile) ++ e8) ++ e5) c83)), (78, e2), (82, e3), e7, (90, e9), (92, (iv e13))] [] [3] [e34] (fun fb => by kernel_rfl) rfl trivial rfl ?_
  refine seg 17 [] e48 [e15, (10, (sv A82 ((([] : List Tile) ++ e8) ++ e5) c83)), (78, e2), (82, e3), e7, (93, (.slice e47 e49 e36))] [.idx (some ⟨0, 0, none⟩) e13 (e17.toNat + 1), .idx (some ⟨0, 0, none⟩) e17 (cd + 1)] (fun fb => by kernel_rfl) rfl ⟨cut1 h109.1 h109.2.1, cut2 h109.1 h109.2.1 h109.2.2 (hS181.rd 8).1.2, trivial⟩ ?_
  refine WL.reE [4, 10, 78, 82, 87, 93] [(4, (pt g1)), (10, (.slice A82 ((([] : List Tile) ++ (cut p0 (0 : Int) (Int.tmod (w64 (p2)) (p0.length : Int)))) ++ (cut p0 (w64 ((Int.tmod (w64 (p2)) (p0.length : Int)) + 1)) (p0.length : Int))).length c83)), (78, (.slice (subA Ab cb (0 : Int).toNat 2) (cut p1.Values (0 : Int) t86.1).length (cb - (0 : Int).toNat))), (82, (.slice (subA Ac cc (0 : Int).toNat 2) (cut p1.Carries (0 : Int) t86.2).length (cc - (0 : Int).toNat))), (87, (.slice (subA Ad cd (0 : Int).toNat 2) (cut p1.Factors (0 : Int) (Int.tmod (w64 (p2)) (p0.length : Int))).length (cd - (0 : Int).toNat))), (93, (.slice (subA Ad cd (w64 ((Int.tmod (w64 (p2)) (p0.length : Int)) + 1)).toNat 2) ((p1.Factors.length : Int).toNat - (w64 ((Int.tmod (w64 (p2)) (p0.length : Int)) + 1)).toNat) (cd - (w64 ((Int.tmod (w64 (p2)) (p0.length : Int)) + 1)).toNat)))] [(4, (pt g1)), (10, (.slice A82 ((([] : List Tile) ++ (cut p0 (0 : Int) (Int.tmod (w64 (p2)) (p0.length : Int)))) ++ (cut p0 (w64 ((Int.tmod (w64 (p2)) (p0.length : Int)) + 1)) (p0.length : Int))).length c83)), (78, (.slice (subA Ab cb (0 : Int).toNat 2) (cut p1.Values (0 : Int) t86.1).length (cb - (0 : Int).toNat))), (82, (.slice (subA Ac cc (0 : Int).toNat 2) (cut p1.Carries (0 : Int) t86.2).length (cc - (0 : Int).toNat))), (87, (.slice (subA Ad cd (0 : Int).toNat 2) (cut p1.Factors (0 : Int) (Int.tmod (w64 (p2)) (p0.length : Int))).length (cd - (0 : Int).toNat))), (93, (.slice (subA Ad cd (w64 ((Int.tmod (w64 (p2)) (p0.length : Int)) + 1)).toNat 2) (cut p1.Factors (w64 ((Int.tmod (w64 (p2)) (p0.length : Int)) + 1)) (p1.Factors.length : Int)).length (cd - (w64 ((Int.tmod (w64 (p2)) (p0.length : Int)) + 1)).toNat)))] rfl (by rw [cut_length h109.1 h109.2.1 h109.2.2]) ?_
  have hS182 := hS181.cutR 8 rfl h109.1 h109.2.1 h109.2.2
  refine segF 21 [.v e10, .v e11] e43 [(10, (sv A82 ((([] : List Tile) ++ e8) ++ e5) c83)), (78, e2), (82, e3), e7, e24, (96, e10), (98, e11)] [] [4, 5] e23 (fun fb => by kernel_rfl) rfl trivial rfl ?_
  refine WL.new hS182 13 [] (fun g => (pt g)) (.cells #[(.slice none 0 0), (.slice none 0 0), (.slice none 0 0), (.slice none 0 0), (.slice none 0 0)] 26 (0, 0)) [] (fun fb g => by kernel_rfl) trivial (fun g183 w184 hS185 => ?_)
  refine ⟨⟨hS185.cell 2 rfl 0 rfl, hS185.cell 2 rfl 1 rfl, hS185.cell 2 rfl 2 rfl, hS185.cell 2 rfl 2 rfl, hS185.cell 2 rfl 3 rfl, hS185.cell 2 rfl 4 rfl, trivial⟩, ?_⟩
  refine WL.new hS185 83 [] (fun g => (.slice (some ⟨g, 0, none⟩) 0 0)) (.cells #[] 33 (0, 0)) [] (fun fb g => by kernel_rfl) trivial (fun g186 w187 hS188 => ?_)
  refine ⟨⟨hS188.cell 3 rfl 0 rfl, hS188.cell 3 rfl 1 rfl, hS188.cell 3 rfl 2 rfl, hS188.cell 3 rfl 2 rfl, hS188.cell 3 rfl 3 rfl, hS188.cell 3 rfl 4 rfl, trivial⟩, ?_⟩
  have hS189 : St NoS w w187 e4 [rowO 33 enc_Frac (some ⟨g186, 0, none⟩) 0 ([] : List Frac), blk g183 (.cells #[(.slice none 0 0), (.slice none 0 0), (.slice none 0 0), (.slice none 0 0), (.slice none 0 0)] 26 (0, 0)), rowO 44 enc_Tile A82 c83 ((([] : List Tile) ++ e8) ++ e5), blk g1 (.cells e46 26 (0, 0))] := hS188.map1 0 _ (fun h => rowO.ofBlk h rfl (Nat.le_of_ble_eq_true (by kernel_rfl))) (fun _ h => by obtain ⟨_, h1, h2⟩ := h; injection h1 with h1; subst h1; exact h2) [1, 2, 3] (by decide) (by decide)
  obtain ⟨h190, hx103⟩ := as_some hx103
  refine WL.append hS189 0 (d := 88) (tS := 23) (z := (.agg e30)) (bytes := 16) (c2 := e28) rfl (fun fb => by kernel_rfl) (hS189.rd 1).1 (by kernel_rfl) (by kernel_rfl) rfl (by decide) h190 (by decide) [1, 2, 3] (by decide) (by decide) (fun A191 c192 w193 hS194 => ?_)
  refine ⟨⟨hS194.cell 3 rfl 0 rfl, hS194.cell 3 rfl 1 rfl, hS194.cell 3 rfl 2 rfl, hS194.cell 3 rfl 3 rfl, hS194.cell 3 rfl 4 rfl, trivial⟩, ?_⟩
  obtain ⟨h195, hx103⟩ := as_some hx103
  refine WL.append hS194 0 (d := 94) (tS := 23) (z := (.agg e30)) (bytes := 16) (c2 := e36) rfl (fun fb => by kernel_rfl) (hS194.rd 0).1 (by kernel_rfl) (by kernel_rfl) rfl (by decide) h195 (by decide) [1, 2, 3] (by decide) (by decide) (fun A196 c197 w198 hS199 => ?_)
  refine ⟨⟨hS199.cell 3 rfl 0 rfl, hS199.cell 3 rfl 1 rfl, hS199.cell 3 rfl 3 rfl, hS199.cell 3 rfl 4 rfl, trivial⟩, ?_⟩
  refine sg 26 [] [10, 13, 99] [(10, (sv A82 ((([] : List Tile) ++ e8) ++ e5) c83)), (13, (pt g183)), (99, (.agg #[e2, e3, (sv A196 ((([] : List Frac) ++ e12) ++ e6) c197), e10, e11]))] (by kernel_rfl) ?_
  refine WL.store hS199 1 rfl [(0, e2), (1, e3), (2, (sv A196 ((([] : List Frac) ++ e12) ++ e6) c197)), (3, e10), (4, e11)] #[e2, e3, (sv A196 ((([] : List Frac) ++ e12) ++ e6) c197), e10, e11] (fun fb => by kernel_rfl) (by kernel_rfl) rfl [0, 2, 3] (by decide) (by decide) (fun w200 hS201 => ?_)
  refine ⟨trivial, ?_⟩
  refine WL.done rfl ?_
  injection hx103 with hx103
  exact WX.to Kx102 ((e40, e37, (([] : List Frac) ++ e12) ++ e6, p1.Primes, p1.Logs), g183, e20, e26, e21, e27, A196, c197, Ae, ce, Af, cf) [10, 13] rfl ⟨(hS201.subR e25).sub [2, 0, 1] (by decide), hx103.symm⟩
 rintro ⟨y205, g91, A92, c93, A94, c95, A96, c97, A98, c99, A100, c101⟩ w202 ⟨hS203, hq204⟩
 subst hq204
 refine WX.next (WC.seq (WC.region ?_))
 refine seg 2 [.v (sv A92 x102.1 c93), .v (sv A94 x102.2.1 c95), .v (sv A96 x102.2.2.1 c97), .v (sv A98 x102.2.2.2.1 c99), .v (sv A100 x102.2.2.2.2 c101)] [101, 102] [(101, (sv A82 ((([] : List Tile) ++ e8) ++ e5) c83)), (102, (.agg #[(sv A92 x102.1 c93), (sv A94 x102.2.1 c95), (sv A96 x102.2.2.1 c97), (sv A98 x102.2.2.2.1 c99), (sv A100 x102.2.2.2.2 c101)]))] [.cell ⟨g91, 0, none⟩ (sv A92 x102.1 c93), .cell ⟨g91, 1, none⟩ (sv A94 x102.2.1 c95), .cell ⟨g91, 2, none⟩ (sv A96 x102.2.2.1 c97), .cell ⟨g91, 3, none⟩ (sv A98 x102.2.2.2.1 c99), .cell ⟨g91, 4, none⟩ (sv A100 x102.2.2.2.2 c101)] (fun fb => by kernel_rfl) rfl ⟨hS203.cell 1 rfl 0 rfl, hS203.cell 1 rfl 1 rfl, hS203.cell 1 rfl 2 rfl, hS203.cell 1 rfl 3 rfl, hS203.cell 1 rfl 4 rfl, trivial⟩ ?_
 obtain ⟨t206, ht207, hf⟩ := bind_some hf
 refine WL.call (some 103) 11 #[(sv A82 ((([] : List Tile) ++ e8) ++ e5) c83), (.agg #[(sv A92 x102.1 c93), (sv A94 x102.2.1 c95), (sv A96 x102.2.2.1 c97), (sv A98 x102.2.2.2.1 c99), (sv A100 x102.2.2.2.2 c101)])] (fun fb => by kernel_rfl) (weight_Check_calls _ ((([] : List Tile) ++ e8) ++ e5) (Weights.mk x102.1 x102.2.1 x102.2.2.1 x102.2.2.2.1 x102.2.2.2.2) A82 c83 A92 c93 A94 c95 A96 c97 A98 c99 A100 c101 t206 _ (hS203.ow 0).ofO (hS203.rd 0) (hS203.rd 1) (hS203.ow 2).ofO (hS203.rd 2) (hS203.rd 3) (hS203.rd 12) ht207) (fun v w208 hR209 => ?_)
 obtain ⟨rfl, hk_⟩ := hR209
 have hS210 := hS203.keepN hk_
 refine ⟨trivial, ?_⟩
 refine sg 8 [] [7, 8] [(7, (bv t206.1)), (8, (iv t206.2))] (by kernel_rfl) ?_
 refine WL.done rfl (WX.next (WC.seq (WC.region ?_)))
 refine sg 3 [] [7, 108] [(7, (bv t206.1)), (108, (bv (t206.2 == 0)))] (by kernel_rfl) ?_
 refine WL.cutV (T := Bool) 5 (fun t => [(110, (bv t))]) (fun t => ((t206.2 == 0) && t206.1) = t) (fun K => ?_) ?_
 ·
  rcases Bool.eq_false_or_eq_true (t206.2 == 0) with h211 | h211
  ·
   refine WL.setB 108 h211 rfl ?_
   refine sg 5 [] [110] [(110, (bv t206.1))] (by kernel_rfl) ?_
   exact WL.toV K t206.1 [110] rfl (by first | (rw [h211]; done) | (rw [h211]; rfl))
  refine WL.setB 108 h211 rfl ?_
  refine sg 5 [] [110] [(110, (bv false))] (by kernel_rfl) ?_
  exact WL.toV K false [110] rfl (by first | (rw [h211]; done) | (rw [h211]; rfl))
 rintro b212 rfl
 refine sg 6 [] [111] [(111, (bv ((t206.2 == 0) && t206.1)))] (by kernel_rfl) ?_
 obtain ⟨x213, hx214, hf⟩ := bind_some hf
 refine WL.cutW (T := Bool) 8 (fun t => [(113, (bv t))]) (fun t w1 => (St NoS w w1 [rowR enc_Frac A92 c93 x102.1, rowR enc_Frac A94 c95 x102.2.1, rowR encInt A98 c99 x102.2.2.2.1, rowR encInt A100 c101 x102.2.2.2.2, rowR enc_Tile (subA Aa ca e13.toNat 4) (ca - e13.toNat) e5, rowR enc_Tile (subA Aa ca (0 : Int).toNat 4) (ca - (0 : Int).toNat) e8, rowR enc_Tile Aa ca p0, rowR enc_Frac Ab cb p1.Values, rowR enc_Frac Ac cc p1.Carries, rowR enc_Frac Ad cd p1.Factors, rowR encInt Ae ce p1.Primes, rowR encInt Af cf p1.Logs, tabO 0 md0, gloO Tryz.prog 5 8 3 4 mG] [] ∧ x213 = t) ∧ CellsOK [] w1) (fun K => ?_) ?_
 ·
  rcases br_some hx214 with ⟨h215, hx214⟩ | ⟨h215, hx214⟩
  ·
   refine WL.setB 111 h215 rfl ?_
   obtain ⟨t216, ht217, hx214⟩ := bind_some hx214
   refine WL.call (some 112) 10 #[] (fun fb => by kernel_rfl) (law06_awake_calls _ mG t216 _ (hS210.rd 12) (hS210.rd 13) ht217) (fun v w218 hR219 => ?_)
   obtain ⟨rfl, hk_⟩ := hR219
   have hS220 := hS210.keepN hk_
   refine ⟨trivial, ?_⟩
   refine sg 8 [] [113] [(113, (bv t216))] (by kernel_rfl) ?_
   injection hx214 with hx214
   exact WL.to K t216 [113] rfl ⟨⟨(hS220.subR [0, 1, 2, 3, 4, 5, 6, 7, 8, 9, 10, 11, 12, 13]).sub [] (by decide), hx214.symm⟩, trivial⟩
  refine WL.setB 111 h215 rfl ?_
  refine sg 8 [] [113] [(113, (bv false))] (by kernel_rfl) ?_
  injection hx214 with hx214
  exact WL.to K false [113] rfl ⟨⟨(hS210.subR [0, 1, 2, 3, 4, 5, 6, 7, 8, 9, 10, 11, 12, 13]).sub [] (by decide), hx214.symm⟩, trivial⟩
 rintro y221 w223 ⟨⟨hS224, hq222⟩, hF225⟩
 subst hq222
 refine sg 9 [] [6] [(6, (bv x213))] (by kernel_rfl) ?_
 refine WL.done rfl (WX.next ?_)
 refine WC.ret ?_
 injection hf with hf
 subst hf
 exact WX.ret_ [] (bv x213) [] (fun fb => by kernel_rfl) trivial ⟨_, rfl, rfl, hS224.keep⟩
end Gp
