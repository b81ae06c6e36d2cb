/- Walks: each function of the program computes its plain function. -/
import Derived.Test.YtfehljifahnipaaDoorGx3
set_option linter.unusedVariables false
set_option linter.unusedSimpArgs false
set_option maxHeartbeats 4000000
set_option maxRecDepth 8000
namespace Gp
open Go Gw Go.Proofs
theorem top_TopNoPeriod_calls (k : Nat) (p0 : List Tile) (p1 : Weights) (p2 : Pattern) (Aa : Option Addr) (ca : Nat) (Ab : Option Addr) (cb : Nat) (Ac : Option Addr) (cc : Nat) (Ad : Option Addr) (cd : Nat) (Ae : Option Addr) (ce : Nat) (Af : Option Addr) (cf : Nat) (Ag : Option Addr) (cg : Nat) (r : Bool) (w : World) (hR0 : RO NoS w (rowR enc_Tile Aa ca p0)) (hR1 : RO NoS w (rowR enc_Frac Ab cb p1.Values)) (hR2 : RO NoS w (rowR enc_Frac Ac cc p1.Carries)) (hR3 : RO NoS w (rowR enc_Frac Ad cd p1.Factors)) (hR4 : RO NoS w (rowR encInt Ae ce p1.Primes)) (hR5 : RO NoS w (rowR encInt Af cf p1.Logs)) (hR6 : RO NoS w (rowR encInt Ag cg p2.Cells)) (hR7 : RO NoS w (tabO 0 #[(.int .u64 2305843009213693951), (.int .u64 2305843009213693921), (.int .u64 2305843009213693907)])) (hf : top_TopNoPeriod k p0 p1 p2 = some r) :
  CallsR Tryd.prog 3 #[(sv Aa p0 ca), (.agg #[(sv Ab p1.Values cb), (sv Ac p1.Carries cc), (sv Ad p1.Factors cd), (sv Ae p1.Primes ce), (sv Af p1.Logs cf)]), (.agg #[(iv p2.Width), (iv p2.Height), (sv Ag p2.Cells cg)])] w (fun v w' => v = (bv r) ∧ Keeps NoS w w') := by
 have hS : St NoS w w [rowR enc_Tile Aa ca p0, rowR enc_Frac Ab cb p1.Values, rowR enc_Frac Ac cc p1.Carries, rowR enc_Frac Ad cd p1.Factors, rowR encInt Ae ce p1.Primes, rowR encInt Af cf p1.Logs, rowR encInt Ag cg p2.Cells, tabO 0 #[(.int .u64 2305843009213693951), (.int .u64 2305843009213693921), (.int .u64 2305843009213693907)]] [] := St.init (ro_cons hR0 (ro_cons hR1 (ro_cons hR2 (ro_cons hR3 (ro_cons hR4 (ro_cons hR5 (ro_cons hR6 (ro_cons hR7 (ro_nil _ _)))))))))
 refine enter 40 Tryd.func3 rfl Tryd.ntmps3 rfl ?_
 unfold top_TopNoPeriod at hf
 refine WC.seq (WC.region ?_)
 refine WL.new hS 4 [] (fun g => (pt g)) (.cells #[(sv Ab p1.Values cb), (sv Ac p1.Carries cc), (sv Ad p1.Factors cd), (sv Ae p1.Primes ce), (sv Af p1.Logs cf)] 26 (0, 0)) [] (fun fb g => by kernel_rfl) trivial (fun g1 w2 hS3 => ?_)
 refine ⟨trivial, ?_⟩
 refine WL.new hS3 5 [] (fun g => (pt g)) (.cells #[(iv p2.Width), (iv p2.Height), (sv Ag p2.Cells cg)] 28 (0, 0)) [] (fun fb g => by kernel_rfl) trivial (fun g5 w6 hS7 => ?_)
 refine ⟨trivial, ?_⟩
 refine seg 3 [] [0, 4, 5] [(0, (sv Aa p0 ca)), (4, (pt g1)), (5, (pt g5))] [] (fun fb => by kernel_rfl) rfl trivial ?_
 refine WL.done rfl (WX.next (WC.seq (WC.seq (WC.region ?_))))
 refine seg 4 [] [0, 4, 5, 12] [(0, (sv Aa p0 ca)), (4, (pt g1)), (5, (pt g5)), (12, (bv (decide ((p0.length : Int) > 200))))] [] (fun fb => by kernel_rfl) rfl trivial ?_
 refine WL.cutV (T := Bool) 9 (fun t => [(17, (bv t)), (0, (sv Aa p0 ca)), (4, (pt g1)), (5, (pt g5))]) (fun t => ((decide ((p0.length : Int) > 200)) || (decide ((p2.Cells.length : Int) > 5000))) = t) (fun K => ?_) ?_
 ·
  rcases Bool.eq_false_or_eq_true (decide ((p0.length : Int) > 200)) with h9 | h9
  ·
   refine WL.setB 12 h9 rfl ?_
   refine seg 9 [] [0, 4, 5, 17] [(0, (sv Aa p0 ca)), (4, (pt g1)), (5, (pt g5)), (17, (bv true))] [] (fun fb => by kernel_rfl) rfl trivial ?_
   exact WL.toV K true [17, 0, 4, 5] rfl (by first | (rw [h9]; done) | (rw [h9]; rfl))
  refine WL.setB 12 h9 rfl ?_
  refine seg 9 [.v (sv Ag p2.Cells cg)] [0, 4, 5, 17] [(0, (sv Aa p0 ca)), (4, (pt g1)), (5, (pt g5)), (17, (bv (decide ((p2.Cells.length : Int) > 5000))))] [.cell ⟨g5, 2, none⟩ (sv Ag p2.Cells cg)] (fun fb => by kernel_rfl) rfl ⟨hS7.cell 0 rfl 2 rfl, trivial⟩ ?_
  exact WL.toV K (decide ((p2.Cells.length : Int) > 5000)) [17, 0, 4, 5] rfl (by first | (rw [h9]; done) | (rw [h9]; rfl))
 rintro b10 rfl
 refine WL.done rfl (WX.next ?_)
 rcases br_some hf with ⟨h11, hf⟩ | ⟨h11, hf⟩
 ·refine WC.condT2 (fun fb => by kernel_rfl) h11 ?_
  refine WC.seq (WC.region ?_)
  obtain ⟨t8, ht12, hf⟩ := bind_some hf
  refine WL.call (some 18) 4 #[] (fun fb => by kernel_rfl) (top_doubles_calls _ t8 _ (hS7.rd 7) ht12) (fun v w13 hR14 => ?_)
  obtain ⟨rfl, hk_⟩ := hR14
  have hS15 := hS7.keepN hk_
  refine ⟨trivial, ?_⟩
  refine seg 2 [] [6] [(6, (bv t8))] [] (fun fb => by kernel_rfl) rfl trivial ?_
  refine WL.done rfl (WX.next ?_)
  refine WC.ret ?_
  injection hf with hf
  subst hf
  exact WX.thenR (WX.ret_ [] (bv t8) [] (fun fb => by kernel_rfl) trivial ⟨_, rfl, rfl, hS15.keep⟩)
 refine WC.condF2 (fun fb => by kernel_rfl) h11 ?_
 refine WC.skip (WX.next (WC.seq (WC.region ?_)))
 refine seg 2 [.v (sv Ab p1.Values cb), .v (sv Ac p1.Carries cc), .v (sv Ad p1.Factors cd), .v (sv Ae p1.Primes ce), .v (sv Af p1.Logs cf)] [0, 5, 20, 21] [(0, (sv Aa p0 ca)), (5, (pt g5)), (20, (sv Aa p0 ca)), (21, (.agg #[(sv Ab p1.Values cb), (sv Ac p1.Carries cc), (sv Ad p1.Factors cd), (sv Ae p1.Primes ce), (sv Af p1.Logs cf)]))] [.cell ⟨g1, 0, none⟩ (sv Ab p1.Values cb), .cell ⟨g1, 1, none⟩ (sv Ac p1.Carries cc), .cell ⟨g1, 2, none⟩ (sv Ad p1.Factors cd), .cell ⟨g1, 3, none⟩ (sv Ae p1.Primes ce), .cell ⟨g1, 4, none⟩ (sv Af p1.Logs cf)] (fun fb => by kernel_rfl) rfl ⟨hS7.cell 1 rfl 0 rfl, hS7.cell 1 rfl 1 rfl, hS7.cell 1 rfl 2 rfl, hS7.cell 1 rfl 3 rfl, hS7.cell 1 rfl 4 rfl, trivial⟩ ?_
 obtain ⟨t16, ht17, hf⟩ := bind_some hf
 refine WL.call (some 22) 5 #[(sv Aa p0 ca), (.agg #[(sv Ab p1.Values cb), (sv Ac p1.Carries cc), (sv Ad p1.Factors cd), (sv Ae p1.Primes ce), (sv Af p1.Logs cf)])] (fun fb => by kernel_rfl) (weight_Check_calls _ p0 p1 Aa ca Ab cb Ac cc Ad cd Ae ce Af cf t16 _ (hS7.rd 0) (hS7.rd 1) (hS7.rd 2) (hS7.rd 3) (hS7.rd 4) (hS7.rd 5) (hS7.rd 7) ht17) (fun v w18 hR19 => ?_)
 obtain ⟨rfl, hk_⟩ := hR19
 have hS20 := hS7.keepN hk_
 refine ⟨trivial, ?_⟩
 refine seg 8 [] [0, 5, 7, 8] [(0, (sv Aa p0 ca)), (5, (pt g5)), (7, (bv t16.1)), (8, (iv t16.2))] [] (fun fb => by kernel_rfl) rfl trivial ?_
 refine WL.done rfl (WX.next (WC.seq (WC.region ?_)))
 refine seg 3 [] [0, 5, 7, 27] [(0, (sv Aa p0 ca)), (5, (pt g5)), (7, (bv t16.1)), (27, (bv (t16.2 != 0)))] [] (fun fb => by kernel_rfl) rfl trivial ?_
 refine WL.cutV (T := Bool) 6 (fun t => [(30, (bv t)), (0, (sv Aa p0 ca)), (5, (pt g5))]) (fun t => ((t16.2 != 0) || (!t16.1)) = t) (fun K => ?_) ?_
 ·
  rcases Bool.eq_false_or_eq_true (t16.2 != 0) with h21 | h21
  ·
   refine WL.setB 27 h21 rfl ?_
   refine seg 6 [] [0, 5, 30] [(0, (sv Aa p0 ca)), (5, (pt g5)), (30, (bv true))] [] (fun fb => by kernel_rfl) rfl trivial ?_
   exact WL.toV K true [30, 0, 5] rfl (by first | (rw [h21]; done) | (rw [h21]; rfl))
  refine WL.setB 27 h21 rfl ?_
  refine seg 6 [] [0, 5, 30] [(0, (sv Aa p0 ca)), (5, (pt g5)), (30, (bv (!t16.1)))] [] (fun fb => by kernel_rfl) rfl trivial ?_
  exact WL.toV K (!t16.1) [30, 0, 5] rfl (by first | (rw [h21]; done) | (rw [h21]; rfl))
 rintro b22 rfl
 refine seg 7 [] [0, 5, 31] [(0, (sv Aa p0 ca)), (5, (pt g5)), (31, (bv ((t16.2 != 0) || (!t16.1))))] [] (fun fb => by kernel_rfl) rfl trivial ?_
 obtain ⟨x23, hx24, hf⟩ := bind_some hf
 refine WL.cutW (T := Bool) 12 (fun t => [(36, (bv t))]) (fun t w1 => (St NoS w w1 [rowR enc_Tile Aa ca p0, rowR enc_Frac Ab cb p1.Values, rowR enc_Frac Ac cc p1.Carries, rowR enc_Frac Ad cd p1.Factors, rowR encInt Ae ce p1.Primes, rowR encInt Af cf p1.Logs, rowR encInt Ag cg p2.Cells, tabO 0 #[(.int .u64 2305843009213693951), (.int .u64 2305843009213693921), (.int .u64 2305843009213693907)]] [] ∧ x23 = t) ∧ CellsOK [] w1) (fun K => ?_) ?_
 ·
  rcases br_some hx24 with ⟨h25, hx24⟩ | ⟨h25, hx24⟩
  ·
   refine WL.setB 31 h25 rfl ?_
   refine seg 12 [] [36] [(36, (bv true))] [] (fun fb => by kernel_rfl) rfl trivial ?_
   injection hx24 with hx24
   exact WL.to K true [36] rfl ⟨⟨(hS20.subR [0, 1, 2, 3, 4, 5, 6, 7]).sub [] (by decide), hx24.symm⟩, trivial⟩
  refine WL.setB 31 h25 rfl ?_
  refine seg 9 [.v (iv p2.Width), .v (iv p2.Height), .v (sv Ag p2.Cells cg)] [31, 32, 33] [(31, (bv false)), (32, (sv Aa p0 ca)), (33, (.agg #[(iv p2.Width), (iv p2.Height), (sv Ag p2.Cells cg)]))] [.cell ⟨g5, 0, none⟩ (iv p2.Width), .cell ⟨g5, 1, none⟩ (iv p2.Height), .cell ⟨g5, 2, none⟩ (sv Ag p2.Cells cg)] (fun fb => by kernel_rfl) rfl ⟨hS20.cell 0 rfl 0 rfl, hS20.cell 0 rfl 1 rfl, hS20.cell 0 rfl 2 rfl, trivial⟩ ?_
  obtain ⟨t26, ht27, hx24⟩ := bind_some hx24
  refine WL.call (some 34) 6 #[(sv Aa p0 ca), (.agg #[(iv p2.Width), (iv p2.Height), (sv Ag p2.Cells cg)]), (bv true)] (fun fb => by kernel_rfl) (top_of_calls _ p0 p2 true Aa ca Ag cg t26 _ (hS20.rd 0) (hS20.rd 6) ht27) (fun v w28 hR29 => ?_)
  obtain ⟨rfl, hk_⟩ := hR29
  have hS30 := hS20.keepN hk_
  refine ⟨trivial, ?_⟩
  refine seg 12 [] [36] [(36, (bv (!t26)))] [] (fun fb => by kernel_rfl) rfl trivial ?_
  injection hx24 with hx24
  exact WL.to K (!t26) [36] rfl ⟨⟨(hS30.subR [0, 1, 2, 3, 4, 5, 6, 7]).sub [] (by decide), hx24.symm⟩, trivial⟩
 rintro y31 w33 ⟨⟨hS34, hq32⟩, hF35⟩
 subst hq32
 refine seg 13 [] [37] [(37, (bv x23))] [] (fun fb => by kernel_rfl) rfl trivial ?_
 obtain ⟨x36, hx37, hf⟩ := bind_some hf
 refine WL.cutW (T := Bool) 15 (fun t => [(39, (bv t))]) (fun t w1 => (St NoS w w1 [rowR enc_Tile Aa ca p0, rowR enc_Frac Ab cb p1.Values, rowR enc_Frac Ac cc p1.Carries, rowR enc_Frac Ad cd p1.Factors, rowR encInt Ae ce p1.Primes, rowR encInt Af cf p1.Logs, rowR encInt Ag cg p2.Cells, tabO 0 #[(.int .u64 2305843009213693951), (.int .u64 2305843009213693921), (.int .u64 2305843009213693907)]] [] ∧ x36 = t) ∧ CellsOK [] w1) (fun K => ?_) ?_
 ·
  rcases br_some hx37 with ⟨h38, hx37⟩ | ⟨h38, hx37⟩
  ·
   refine WL.setB 37 h38 rfl ?_
   obtain ⟨t39, ht40, hx37⟩ := bind_some hx37
   refine WL.call (some 38) 4 #[] (fun fb => by kernel_rfl) (top_doubles_calls _ t39 _ (hS34.rd 7) ht40) (fun v w41 hR42 => ?_)
   obtain ⟨rfl, hk_⟩ := hR42
   have hS43 := hS34.keepN hk_
   refine ⟨trivial, ?_⟩
   refine seg 15 [] [39] [(39, (bv t39))] [] (fun fb => by kernel_rfl) rfl trivial ?_
   injection hx37 with hx37
   exact WL.to K t39 [39] rfl ⟨⟨(hS43.subR [0, 1, 2, 3, 4, 5, 6, 7]).sub [] (by decide), hx37.symm⟩, trivial⟩
  refine WL.setB 37 h38 rfl ?_
  refine seg 15 [] [39] [(39, (bv false))] [] (fun fb => by kernel_rfl) rfl trivial ?_
  injection hx37 with hx37
  exact WL.to K false [39] rfl ⟨⟨(hS34.subR [0, 1, 2, 3, 4, 5, 6, 7]).sub [] (by decide), hx37.symm⟩, trivial⟩
 rintro y44 w46 ⟨⟨hS47, hq45⟩, hF48⟩
 subst hq45
 refine seg 16 [] [6] [(6, (bv x36))] [] (fun fb => by kernel_rfl) rfl trivial ?_
 refine WL.done rfl (WX.next ?_)
 refine WC.ret ?_
 injection hf with hf
 subst hf
 exact WX.ret_ [] (bv x36) [] (fun fb => by kernel_rfl) trivial ⟨_, rfl, rfl, hS47.keep⟩
end Gp
