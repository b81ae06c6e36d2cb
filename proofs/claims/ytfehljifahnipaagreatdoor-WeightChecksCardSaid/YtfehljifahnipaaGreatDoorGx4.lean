/- Walks: each function of the program computes its plain function. -/
import Derived.Test.YtfehljifahnipaaGreatDoorGx3
set_option linter.unusedVariables false
set_option linter.unusedSimpArgs false
set_option maxHeartbeats 4000000
set_option maxRecDepth 8000
namespace Gp
open Go Gw Go.Proofs
theorem weight_Row_calls (k : Nat) (p0 : List Tile) (p1 : Weights) (p2 : List Int) (Aa : Option Addr) (ca : Nat) (Ab : Option Addr) (cb : Nat) (Ac : Option Addr) (cc : Nat) (Ad : Option Addr) (cd : Nat) (Ae : Option Addr) (ce : Nat) (Af : Option Addr) (cf : Nat) (Ag : Option Addr) (cg : Nat) (r : Frac × Frac × Int) (w : World) (hR0 : RO NoS w (rowR enc_Tile Aa ca p0)) (hR1 : RO NoS w (rowR enc_Frac Ab cb p1.Values)) (hR2 : RO NoS w (rowR enc_Frac Ac cc p1.Carries)) (hR3 : RO NoS w (rowR enc_Frac Ad cd p1.Factors)) (hR4 : RO NoS w (rowR encInt Ae ce p1.Primes)) (hR5 : RO NoS w (rowR encInt Af cf p1.Logs)) (hR6 : RO NoS w (rowR encInt Ag cg p2)) (hf : weight_Row k p0 p1 p2 = some r) :
  CallsR Tryz.prog 14 #[(sv Aa p0 ca), (.agg #[(sv Ab p1.Values cb), (sv Ac p1.Carries cc), (sv Ad p1.Factors cd), (sv Ae p1.Primes ce), (sv Af p1.Logs cf)]), (sv Ag p2 cg)] w (fun v w' => v = (.tuple #[(.agg #[(iv r.1.Num), (iv r.1.Den)]), (.agg #[(iv r.2.1.Num), (iv r.2.1.Den)]), (iv r.2.2)]) ∧ Keeps NoS w w') := by
 have hS : St NoS w w [rowR enc_Tile Aa ca p0, rowR enc_Frac Ab cb p1.Values, rowR enc_Frac Ac cc p1.Carries, rowR enc_Frac Ad cd p1.Factors, rowR encInt Ae ce p1.Primes, rowR encInt Af cf p1.Logs, rowR encInt Ag cg p2] [] := St.init (ro_cons hR0 (ro_cons hR1 (ro_cons hR2 (ro_cons hR3 (ro_cons hR4 (ro_cons hR5 (ro_cons hR6 (ro_nil _ _))))))))
 refine enter 133 Tryz.func14 rfl Tryz.ntmps14 rfl ?_
 unfold weight_Row at hf
 refine WC.seq (WC.region ?_)
 refine WL.new hS 4 [] (fun g => (pt g)) (.cells #[(sv Ab p1.Values cb), (sv Ac p1.Carries cc), (sv Ad p1.Factors cd), (sv Ae p1.Primes ce), (sv Af p1.Logs cf)] 26 (0, 0)) [] (fun fb g => by kernel_rfl) trivial (fun g7 w8 hS9 => ?_)
 refine ⟨trivial, ?_⟩
 refine WL.new hS9 6 [] (fun g => (pt g)) (.cells #[(iv 0), (iv 0)] 33 (0, 0)) [] (fun fb g => by kernel_rfl) trivial (fun g10 w11 hS12 => ?_)
 refine ⟨trivial, ?_⟩
 refine WL.new hS12 7 [] (fun g => (pt g)) (.cells #[(iv 0), (iv 0)] 33 (0, 0)) [] (fun fb g => by kernel_rfl) trivial (fun g13 w15 hS16 => ?_)
 refine ⟨trivial, ?_⟩
 refine sg 4 [] [0, 2, 4, 6, 7] [(0, (sv Aa p0 ca)), (2, (sv Ag p2 cg)), (4, (pt g7)), (6, (pt g10)), (7, (pt g13))] (by kernel_rfl) ?_
 refine WL.done rfl (WX.next (WC.seq (WC.seq (WC.region ?_))))
 refine seg 2 [.v (sv Ab p1.Values cb), .v (sv Ac p1.Carries cc), .v (sv Ad p1.Factors cd), .v (sv Ae p1.Primes ce), .v (sv Af p1.Logs cf)] [0, 2, 4, 6, 7, 18, 19] [(0, (sv Aa p0 ca)), (2, (sv Ag p2 cg)), (4, (pt g7)), (6, (pt g10)), (7, (pt g13)), (18, (sv Aa p0 ca)), (19, (.agg #[(sv Ab p1.Values cb), (sv Ac p1.Carries cc), (sv Ad p1.Factors cd), (sv Ae p1.Primes ce), (sv Af p1.Logs cf)]))] [.cell ⟨g7, 0, none⟩ (sv Ab p1.Values cb), .cell ⟨g7, 1, none⟩ (sv Ac p1.Carries cc), .cell ⟨g7, 2, none⟩ (sv Ad p1.Factors cd), .cell ⟨g7, 3, none⟩ (sv Ae p1.Primes ce), .cell ⟨g7, 4, none⟩ (sv Af p1.Logs cf)] (fun fb => by kernel_rfl) rfl ⟨hS16.cell 2 rfl 0 rfl, hS16.cell 2 rfl 1 rfl, hS16.cell 2 rfl 2 rfl, hS16.cell 2 rfl 3 rfl, hS16.cell 2 rfl 4 rfl, trivial⟩ ?_
 obtain ⟨t17, ht18, hf⟩ := bind_some hf
 refine WL.call (some 20) 12 #[(sv Aa p0 ca), (.agg #[(sv Ab p1.Values cb), (sv Ac p1.Carries cc), (sv Ad p1.Factors cd), (sv Ae p1.Primes ce), (sv Af p1.Logs cf)])] (fun fb => by kernel_rfl) (weight_Valid_calls _ p0 p1 Aa ca Ab cb Ac cc Ad cd Ae ce Af cf t17 _ (hS16.rd 0) (hS16.rd 1) (hS16.rd 2) (hS16.rd 3) (hS16.rd 4) (hS16.rd 5) ht18) (fun v w19 hR20 => ?_)
 obtain ⟨rfl, hk_⟩ := hR20
 have hS21 := hS16.keepN hk_
 refine ⟨trivial, ?_⟩
 refine sg 4 [] [0, 2, 4, 6, 7, 21] [(0, (sv Aa p0 ca)), (2, (sv Ag p2 cg)), (4, (pt g7)), (6, (pt g10)), (7, (pt g13)), (21, (bv (!t17)))] (by kernel_rfl) ?_
 refine WL.done rfl (WX.next ?_)
 let e33 : Array Value := #[(iv 0), (iv 0)]
 rcases br_some hf with ⟨h22, hf⟩ | ⟨h22, hf⟩
 ·refine WC.condT2 (fun fb => by kernel_rfl) h22 ?_
  refine WC.seq (WC.region ?_)
  refine sg 2 [] [6, 7, 22, 23] [(6, (pt g10)), (7, (pt g13)), (22, (.agg e33)), (23, (.agg e33))] (by kernel_rfl) ?_
  refine WL.store hS21 1 rfl [(0, (iv 0)), (1, (iv 0))] e33 (fun fb => by kernel_rfl) (by kernel_rfl) rfl [0, 2] (by decide) (by decide) (fun w23 hS24 => ?_)
  refine ⟨trivial, ?_⟩
  refine WL.store hS24 1 rfl [(0, (iv 0)), (1, (iv 0))] e33 (fun fb => by kernel_rfl) (by kernel_rfl) rfl [0, 2] (by decide) (by decide) (fun w25 hS26 => ?_)
  refine ⟨trivial, ?_⟩
  refine sg 5 [] [6, 7, 8] [(6, (pt g10)), (7, (pt g13)), (8, (iv 1))] (by kernel_rfl) ?_
  refine WL.done rfl (WX.next ?_)
  refine WC.ret ?_
  injection hf with hf
  subst hf
  exact WX.thenR (WX.ret_ [.v (iv 0), .v (iv 0), .v (iv 0), .v (iv 0)] (.tuple #[(.agg e33), (.agg e33), (iv 1)]) [.cell ⟨g10, 0, none⟩ (iv 0), .cell ⟨g10, 1, none⟩ (iv 0), .cell ⟨g13, 0, none⟩ (iv 0), .cell ⟨g13, 1, none⟩ (iv 0)] (fun fb => by kernel_rfl) ⟨hS26.cell 1 rfl 0 rfl, hS26.cell 1 rfl 1 rfl, hS26.cell 0 rfl 0 rfl, hS26.cell 0 rfl 1 rfl, trivial⟩ ⟨_, rfl, rfl, hS26.keep⟩)
 refine WC.condF2 (fun fb => by kernel_rfl) h22 ?_
 refine WC.skip (WX.next (WC.seq (WC.seq (WC.region ?_))))
 refine sg 4 [] [0, 2, 4, 6, 7, 27] [(0, (sv Aa p0 ca)), (2, (sv Ag p2 cg)), (4, (pt g7)), (6, (pt g10)), (7, (pt g13)), (27, (bv (decide ((p2.length : Int) < 1))))] (by kernel_rfl) ?_
 refine WL.cutV (T := Bool) 8 (fun t => [(31, (bv t)), (0, (sv Aa p0 ca)), (2, (sv Ag p2 cg)), (4, (pt g7)), (6, (pt g10)), (7, (pt g13))]) (fun t => ((decide ((p2.length : Int) < 1)) || (decide ((p2.length : Int) > 40000))) = t) (fun K => ?_) ?_
 ·
  rcases Bool.eq_false_or_eq_true (decide ((p2.length : Int) < 1)) with h27 | h27
  ·
   refine WL.setB 27 h27 rfl ?_
   refine sg 8 [] [0, 2, 4, 6, 7, 31] [(0, (sv Aa p0 ca)), (2, (sv Ag p2 cg)), (4, (pt g7)), (6, (pt g10)), (7, (pt g13)), (31, (bv true))] (by kernel_rfl) ?_
   exact WL.toV K true [31, 0, 2, 4, 6, 7] rfl (by first | (rw [h27]; done) | (rw [h27]; rfl))
  refine WL.setB 27 h27 rfl ?_
  refine sg 8 [] [0, 2, 4, 6, 7, 31] [(0, (sv Aa p0 ca)), (2, (sv Ag p2 cg)), (4, (pt g7)), (6, (pt g10)), (7, (pt g13)), (31, (bv (decide ((p2.length : Int) > 40000))))] (by kernel_rfl) ?_
  exact WL.toV K (decide ((p2.length : Int) > 40000)) [31, 0, 2, 4, 6, 7] rfl (by first | (rw [h27]; done) | (rw [h27]; rfl))
 rintro b28 rfl
 refine WL.done rfl (WX.next ?_)
 rcases br_some hf with ⟨h29, hf⟩ | ⟨h29, hf⟩
 ·refine WC.condT2 (fun fb => by kernel_rfl) h29 ?_
  refine WC.seq (WC.region ?_)
  refine sg 2 [] [6, 7, 32, 33] [(6, (pt g10)), (7, (pt g13)), (32, (.agg e33)), (33, (.agg e33))] (by kernel_rfl) ?_
  refine WL.store hS21 1 rfl [(0, (iv 0)), (1, (iv 0))] e33 (fun fb => by kernel_rfl) (by kernel_rfl) rfl [0, 2] (by decide) (by decide) (fun w30 hS31 => ?_)
  refine ⟨trivial, ?_⟩
  refine WL.store hS31 1 rfl [(0, (iv 0)), (1, (iv 0))] e33 (fun fb => by kernel_rfl) (by kernel_rfl) rfl [0, 2] (by decide) (by decide) (fun w32 hS33 => ?_)
  refine ⟨trivial, ?_⟩
  refine sg 5 [] [6, 7, 8] [(6, (pt g10)), (7, (pt g13)), (8, (iv 2))] (by kernel_rfl) ?_
  refine WL.done rfl (WX.next ?_)
  refine WC.ret ?_
  injection hf with hf
  subst hf
  exact WX.thenR (WX.ret_ [.v (iv 0), .v (iv 0), .v (iv 0), .v (iv 0)] (.tuple #[(.agg e33), (.agg e33), (iv 2)]) [.cell ⟨g10, 0, none⟩ (iv 0), .cell ⟨g10, 1, none⟩ (iv 0), .cell ⟨g13, 0, none⟩ (iv 0), .cell ⟨g13, 1, none⟩ (iv 0)] (fun fb => by kernel_rfl) ⟨hS33.cell 1 rfl 0 rfl, hS33.cell 1 rfl 1 rfl, hS33.cell 0 rfl 0 rfl, hS33.cell 0 rfl 1 rfl, trivial⟩ ⟨_, rfl, rfl, hS33.keep⟩)
 refine WC.condF2 (fun fb => by kernel_rfl) h29 ?_
 refine WC.skip (WX.next (WC.seq (WC.seq (WC.region ?_))))
 refine sg 3 [] [0, 2, 4, 6, 7, 34, 35, 36] [(0, (sv Aa p0 ca)), (2, (sv Ag p2 cg)), (4, (pt g7)), (6, (pt g10)), (7, (pt g13)), (34, (sv Ag p2 cg)), (35, (iv (p2.length : Int))), (36, (iv 0))] (by kernel_rfl) ?_
 refine WL.done rfl (WX.next ?_)
 obtain ⟨x35, hx36, hf⟩ := bind_some hf
 let e21 : List Nat := [0, 1, 2, 3, 4, 5, 6, 7, 8, 9, 10, 11]
 let e1 := [[], [0], [0, 1], [0, 1, 2], [0, 1, 2], [0, 1, 2, 4], [0, 1, 2, 3, 4, 5], [0, 1, 2, 3, 4, 5, 6], [0, 1, 2, 3, 4, 5, 6, 7], [0, 1, 2, 3, 4, 5, 6, 7, 8], [0, 1, 2, 3, 4, 5, 6, 7, 8, 9], [0, 1, 2, 3, 4, 5, 6, 7, 8, 9, 10], e21, e21, e21, [0, 1, 2, 3, 4, 5, 6, 7, 8, 9, 10, 11, 14], [0, 1, 2, 3, 4, 5, 6, 7, 8, 9, 10, 11, 13, 14, 15], [0, 1, 2, 3, 4, 5, 6, 7, 8, 9, 10, 11, 13, 14, 15, 16], [0, 1, 2, 3, 4, 5, 6, 7, 8, 9, 10, 11, 12, 13, 14, 15, 16, 17], [0, 1, 2, 3, 4, 5, 6, 7, 8, 9, 10, 11, 12, 13, 14, 15, 16, 17, 18], [0, 1, 2, 3, 4, 5, 6, 7, 8, 9, 10, 11, 12, 13, 14, 15, 16, 17, 18, 19], e21, e21, [0, 1, 2, 3, 4, 5, 6, 7, 8, 9, 10, 11, 21, 22], [0, 1, 2, 3, 4, 5, 6, 7, 8, 9, 10, 11, 21, 22, 23], [0, 1, 2, 3, 4, 5, 6, 7, 8, 9, 10, 11, 21, 22, 23, 24], [0, 1, 2, 3, 4, 5, 6, 7, 8, 9, 10, 11, 12, 13, 14, 15, 16, 17, 18, 19, 20, 21, 22, 23, 24, 25], [0, 1, 2, 3, 4, 5, 6, 7, 8, 9, 10, 11, 12, 13, 14, 15, 16, 17, 18, 19, 20, 21, 22, 23, 24, 25, 26], [0, 1, 2, 3, 4, 5, 6, 7, 8, 9, 10, 11, 12, 13, 14, 15, 16, 17, 18, 19, 20, 21, 22, 23, 24, 25, 26, 27]]
 let e2 : List Nat := [0, 1, 2, 3, 4, 5, 6, 7, 8, 9, 10, 11, 12, 13, 14, 15, 16, 17, 18, 19, 20, 21, 22, 23, 24, 25, 26, 27, 28]
 let e3 : Nat × Value := (35, (iv (p2.length : Int)))
 let e4 : List Own := [rowR enc_Tile Aa ca p0, rowR enc_Frac Ab cb p1.Values, rowR enc_Frac Ac cc p1.Carries, rowR enc_Frac Ad cd p1.Factors, rowR encInt Ae ce p1.Primes, rowR encInt Af cf p1.Logs, rowR encInt Ag cg p2]
 let e5 := sv Ag p2 cg
 let e8 : Nat × Value := (0, (sv Aa p0 ca))
 let e10 : Array Value := #[(sv Ab p1.Values cb), (sv Ac p1.Carries cc), (sv Ad p1.Factors cd), (sv Ae p1.Primes ce), (sv Af p1.Logs cf)]
 let e11 : Nat × Value := (6, (pt g10))
 let e12 : Nat × Value := (7, (pt g13))
 let e13 : List Nat := [0, 2, 4, 6, 7, 34, 35, 36, 69]
 let e16 : Nat × Value := (4, (pt g7))
 let e18 : Array Value := e33
 let e24 : List Nat := [0, 1, 2, 3, 4, 5, 6]
 let e25 : List Nat := [0, 2, 4, 6, 7, 9, 10, 34, 35, 36, 43]
 let e34 : List Nat := [0, 2, 4, 6, 7, 9, 10, 34, 35, 36, 49]
 refine WC.cutN (T := Unit) (fun t => [e8, (2, e5), e16, e11, e12]) (fun t w1 => St NoS w w1 e4 [blk g7 (.cells e10 26 (0, 0)), blk g10 (.cells e18 33 (0, 0)), blk g13 (.cells e18 33 (0, 0))] ∧ x35 = .inr t) (fun Kx35 => ?_) ?_
 ·
  refine WC.block ?_
  refine WC.loop (T := Int) (fun t => [e8, (2, e5), e16, e11, e12, (34, e5), e3, (36, (iv t))]) (fun n t w1 => St NoS w w1 e4 [blk g7 (.cells e10 26 (0, 0)), blk g10 (.cells e18 33 (0, 0)), blk g13 (.cells e18 33 (0, 0))] ∧ weight_Row.l0 n t p0 p2 = some x35) k 0 [0, 2, 4, 6, 7, 34, 35, 36] rfl ⟨(hS21.subR e24).sub [2, 1, 0] (by decide), hx36⟩ ?_
  rintro k37 x34 w38 ⟨hS39, hl40⟩
  let e7 : List (Nat × Addr × Value) := [(17, ((adr Ag).add ((w64 (x34 - 1)).toNat * 1)), (iv (rdD p2 (w64 (x34 - 1)) 0))), (20, (((adr Aa).add (((rdD p2 (w64 (x34 - 1)) 0)).toNat * 4)).add 1), (iv ((rdD p0 (rdD p2 (w64 (x34 - 1)) 0) z_Tile).E))), (25, (((adr Aa).add (((rdD p2 x34 0)).toNat * 4)).add 3), (iv ((rdD p0 (rdD p2 x34 0) z_Tile).W)))]
  let e9 := rdD p2 x34 0
  let e14 : Nat × Value := (36, (iv x34))
  let e26 := rdD p2 (w64 (x34 - 1)) 0
  let e27 : Nat × Value := (9, (iv x34))
  let e28 : Nat × Value := (10, (iv e9))
  cases k37 with
  | zero => rw [weight_Row.l0] at hl40; cases hl40
  | succ k37 =>
   rw [weight_Row.l0] at hl40
   refine WC.seq (WC.region ?_)
   refine sg 1 [] [0, 2, 4, 6, 7, 34, 35, 36, 37] [e8, (2, e5), e16, e11, e12, (34, e5), e3, e14, (37, (bv (decide (x34 < (p2.length : Int)))))] (by kernel_rfl) ?_
   refine WL.done rfl (WX.next (WC.seq ?_))
   rcases br_some hl40 with ⟨h41, hl40⟩ | ⟨h41, hl40⟩
   ·refine WC.condT2 (fun fb => by kernel_rfl) h41 ?_
    refine WC.skip (WX.next (WC.seq (WC.block (WC.seq (WC.region ?_)))))
    refine sg 1 [] [0, 2, 4, 6, 7, 34, 35, 36, 38] [e8, (2, e5), e16, e11, e12, (34, e5), e3, e14, (38, (iv x34))] (by kernel_rfl) ?_
    obtain ⟨h42, hl40⟩ := as_some hl40
    refine seg 5 [.v (iv e9)] [0, 2, 4, 6, 7, 9, 10, 34, 35, 36] [e8, (2, e5), e16, e11, e12, e27, e28, (34, e5), e3, e14] [.idx Ag x34 p2.length, .cell ((adr Ag).add ((x34).toNat * 1)) (iv e9)] (fun fb => by kernel_rfl) rfl ⟨rowR.adr (hS39.rd 6).1 h42.1 h42.2, rowR.cell (hS39.rd 6).1 0 h42.1 h42.2 0 rfl, trivial⟩ ?_
    refine WL.done rfl (WX.next (WC.seq ?_))
    obtain ⟨x43, hx44, hl40⟩ := bind_some hl40
    refine WC.cutN (T := Bool) (fun t => [e8, (2, e5), e16, e11, e12, (34, e5), e3, e14, (69, (bv t))]) (fun t w1 => St NoS w w1 e4 [blk g7 (.cells e10 26 (0, 0)), blk g10 (.cells e18 33 (0, 0)), blk g13 (.cells e18 33 (0, 0))] ∧ x43 = t) (fun Kx43 => ?_) ?_
    ·
     rcases br_some hx44 with ⟨h45, hx44⟩ | ⟨h45, hx44⟩
     ·
      refine WC.regionD ([], e2, e1) [e2] (by kernel_rfl) (by kernel_rfl) (NoPanic.seq (NoPanic.block (NoPanic.seq (NoPanic.seq (NoPanic.block (NoPanic.seq (NoPanic.body))))))) ?_
      have hS47 := hS39.drew
      revert hS47
      generalize World.drew w38 = w46
      intro hS47
      refine ⟨trivial, forallC ?_ (forallN)⟩
      refine sg 3 [] e25 [e8, (2, e5), e16, e11, e12, e27, e28, (34, e5), e3, e14, (43, (bv (decide (e9 < 0))))] (by kernel_rfl) ?_
      refine WL.setB 43 h45 rfl ?_
      refine sg 29 [] e13 [e8, (2, e5), e16, e11, e12, (34, e5), e3, e14, (69, (bv true))] (by kernel_rfl) ?_
      refine WL.done rfl ?_
      injection hx44 with hx44
      exact WX.to Kx43 true e13 rfl ⟨(hS47.subR e24).sub [0, 1, 2] (by decide), hx44.symm⟩
     rcases br_some hx44 with ⟨h48, hx44⟩ | ⟨h48, hx44⟩
     ·
      refine WC.regionD ([], e2, e1) [e2] (by kernel_rfl) (by kernel_rfl) (NoPanic.seq (NoPanic.block (NoPanic.seq (NoPanic.seq (NoPanic.block (NoPanic.seq (NoPanic.body))))))) ?_
      have hS50 := hS39.drew
      revert hS50
      generalize World.drew w38 = w49
      intro hS50
      refine ⟨trivial, forallC ?_ (forallN)⟩
      refine sg 3 [] e25 [e8, (2, e5), e16, e11, e12, e27, e28, (34, e5), e3, e14, (43, (bv (decide (e9 < 0))))] (by kernel_rfl) ?_
      refine WL.setB 43 h45 rfl ?_
      refine sg 9 [] e34 [e8, (2, e5), e16, e11, e12, e27, e28, (34, e5), e3, e14, (49, (bv (decide (e9 ≥ (p0.length : Int)))))] (by kernel_rfl) ?_
      refine WL.setB 49 h48 rfl ?_
      refine sg 29 [] e13 [e8, (2, e5), e16, e11, e12, (34, e5), e3, e14, (69, (bv true))] (by kernel_rfl) ?_
      refine WL.done rfl ?_
      injection hx44 with hx44
      exact WX.to Kx43 true e13 rfl ⟨(hS50.subR e24).sub [0, 1, 2] (by decide), hx44.symm⟩
     rcases br_some hx44 with ⟨h51, hx44⟩ | ⟨h51, hx44⟩
     ·
      obtain ⟨h54, hx44⟩ := as_some hx44
      obtain ⟨h55, hx44⟩ := as_some hx44
      obtain ⟨h56, hx44⟩ := as_some hx44
      refine WC.regionD (e7, e2, e1) [e2] (by kernel_rfl) (by kernel_rfl) (NoPanic.seq (NoPanic.block (NoPanic.seq (NoPanic.seq (NoPanic.block (NoPanic.seq (NoPanic.body))))))) ?_
      have hS53 := hS39.drew
      revert hS53
      generalize World.drew w38 = w52
      intro hS53
      refine ⟨⟨rowR.cell (hS53.rd 6).1 0 h54.1 h54.2 0 rfl, rowR.cell (hS53.rd 0).1 z_Tile h55.1 h55.2 1 rfl, rowR.cell (hS53.rd 0).1 z_Tile h56.1 h56.2 3 rfl, trivial⟩, forallC ?_ (forallN)⟩
      refine sg 3 [] e25 [e8, (2, e5), e16, e11, e12, e27, e28, (34, e5), e3, e14, (43, (bv (decide (e9 < 0))))] (by kernel_rfl) ?_
      refine WL.setB 43 h45 rfl ?_
      refine sg 9 [] e34 [e8, (2, e5), e16, e11, e12, e27, e28, (34, e5), e3, e14, (49, (bv (decide (e9 ≥ (p0.length : Int)))))] (by kernel_rfl) ?_
      refine WL.setB 49 h48 rfl ?_
      refine sg 12 [] [0, 2, 4, 6, 7, 9, 10, 34, 35, 36, 49, 52] [e8, (2, e5), e16, e11, e12, e27, e28, (34, e5), e3, e14, (49, (bv false)), (52, (bv (decide (x34 > 0))))] (by kernel_rfl) ?_
      refine WL.setB 52 h51 rfl ?_
      refine segF 29 [.v (iv e26), .v (iv ((rdD p0 e26 z_Tile).E)), .v (iv ((rdD p0 e9 z_Tile).W))] e13 [e8, (2, e5), e16, e11, e12, (34, e5), e3, e14, (69, (bv (((rdD p0 e26 z_Tile).E) != ((rdD p0 e9 z_Tile).W))))] [.idx Ag (w64 (x34 - 1)) p2.length, .idx Aa e26 p0.length, .idx Aa e9 p0.length] [0, 1, 2] e7 (fun fb => by kernel_rfl) rfl ⟨rowR.adr (hS53.rd 6).1 h54.1 h54.2, rowR.adr (hS53.rd 0).1 h55.1 h55.2, rowR.adr (hS53.rd 0).1 h56.1 h56.2, trivial⟩ rfl ?_
      refine WL.done rfl ?_
      injection hx44 with hx44
      exact WX.to Kx43 (((rdD p0 e26 z_Tile).E) != ((rdD p0 e9 z_Tile).W)) e13 rfl ⟨(hS53.subR e24).sub [0, 1, 2] (by decide), hx44.symm⟩
     refine WC.regionD ([], e2, e1) [e2] (by kernel_rfl) (by kernel_rfl) (NoPanic.seq (NoPanic.block (NoPanic.seq (NoPanic.seq (NoPanic.block (NoPanic.seq (NoPanic.body))))))) ?_
     have hS58 := hS39.drew
     revert hS58
     generalize World.drew w38 = w57
     intro hS58
     refine ⟨trivial, forallC ?_ (forallN)⟩
     refine sg 3 [] e25 [e8, (2, e5), e16, e11, e12, e27, e28, (34, e5), e3, e14, (43, (bv (decide (e9 < 0))))] (by kernel_rfl) ?_
     refine WL.setB 43 h45 rfl ?_
     refine sg 9 [] e34 [e8, (2, e5), e16, e11, e12, e27, e28, (34, e5), e3, e14, (49, (bv (decide (e9 ≥ (p0.length : Int)))))] (by kernel_rfl) ?_
     refine WL.setB 49 h48 rfl ?_
     refine sg 12 [] [0, 2, 4, 6, 7, 9, 10, 34, 35, 36, 49, 52] [e8, (2, e5), e16, e11, e12, e27, e28, (34, e5), e3, e14, (49, (bv false)), (52, (bv (decide (x34 > 0))))] (by kernel_rfl) ?_
     refine WL.setB 52 h51 rfl ?_
     refine sg 29 [] e13 [e8, (2, e5), e16, e11, e12, (34, e5), e3, e14, (69, (bv false))] (by kernel_rfl) ?_
     refine WL.done rfl ?_
     injection hx44 with hx44
     exact WX.to Kx43 false e13 rfl ⟨(hS58.subR e24).sub [0, 1, 2] (by decide), hx44.symm⟩
    rintro y62 w59 ⟨hS60, hq61⟩
    subst hq61
    refine WX.next ?_
    rcases br_some hl40 with ⟨h63, hl40⟩ | ⟨h63, hl40⟩
    ·refine WC.condT2 (fun fb => by kernel_rfl) h63 ?_
     refine WC.seq (WC.region ?_)
     refine sg 2 [] [6, 7, 70, 71] [e11, e12, (70, (.agg e18)), (71, (.agg e18))] (by kernel_rfl) ?_
     refine WL.store hS60 1 rfl [(0, (iv 0)), (1, (iv 0))] e18 (fun fb => by kernel_rfl) (by kernel_rfl) rfl [0, 2] (by decide) (by decide) (fun w65 hS66 => ?_)
     refine ⟨trivial, ?_⟩
     refine WL.store hS66 2 rfl [(0, (iv 0)), (1, (iv 0))] e18 (fun fb => by kernel_rfl) (by kernel_rfl) rfl [0, 1] (by decide) (by decide) (fun w67 hS68 => ?_)
     refine ⟨trivial, ?_⟩
     refine sg 5 [] [6, 7, 8] [e11, e12, (8, (iv 2))] (by kernel_rfl) ?_
     refine WL.done rfl (WX.next ?_)
     refine WC.ret ?_
     injection hl40 with hl40
     subst hl40
     injection hf with hf
     subst hf
     exact WX.blockR (WX.thenR (WX.thenR (WX.blockR (WX.thenR (WX.ret_ [.v (iv 0), .v (iv 0), .v (iv 0), .v (iv 0)] (.tuple #[(.agg e18), (.agg e18), (iv 2)]) [.cell ⟨g10, 0, none⟩ (iv 0), .cell ⟨g10, 1, none⟩ (iv 0), .cell ⟨g13, 0, none⟩ (iv 0), .cell ⟨g13, 1, none⟩ (iv 0)] (fun fb => by kernel_rfl) ⟨hS68.cell 1 rfl 0 rfl, hS68.cell 1 rfl 1 rfl, hS68.cell 0 rfl 0 rfl, hS68.cell 0 rfl 1 rfl, trivial⟩ ⟨_, rfl, rfl, hS68.keep⟩)))))
    refine WC.condF2 (fun fb => by kernel_rfl) h63 ?_
    refine WC.skip ?_
    refine WX.blockN (WX.next ?_)
    refine WC.region ?_
    refine sg 2 [] [0, 2, 4, 6, 7, 34, 35, 36] [e8, (2, e5), e16, e11, e12, (34, e5), e3, (36, (iv (w64 (x34 + 1))))] (by kernel_rfl) ?_
    refine WL.done rfl ?_
    exact WX.again k37 (Nat.lt_succ_self _) (w64 (x34 + 1)) [0, 2, 4, 6, 7, 34, 35, 36] rfl ⟨(hS60.subR e24).sub [0, 1, 2] (by decide), hl40⟩
   refine WC.condF2 (fun fb => by kernel_rfl) h41 ?_
   refine WC.exit ?_
   injection hl40 with hl40
   exact WX.thenX (WX.thenX (WX.blockHere (WX.to Kx35 () [0, 2, 4, 6, 7] rfl ⟨(hS39.subR e24).sub [0, 1, 2] (by decide), hl40.symm⟩)))
 rintro y72 w69 ⟨hS70, hq71⟩
 subst hq71
 have hf := sum_inr hf
 refine WX.next (WC.seq (WC.region ?_))
 refine seg 2 [.v (sv Ab p1.Values cb)] [0, 2, 4, 6, 7, 75] [e8, (2, e5), e16, e11, e12, (75, (sv Ab p1.Values cb))] [.cell ⟨g7, 0, none⟩ (sv Ab p1.Values cb)] (fun fb => by kernel_rfl) rfl ⟨hS70.cell 0 rfl 0 rfl, trivial⟩ ?_
 obtain ⟨t73, ht74, hf⟩ := bind_some hf
 refine WL.call (some 76) 48 #[(sv Ab p1.Values cb)] (fun fb => by kernel_rfl) (weight_common_calls _ p1.Values Ab cb t73 _ (hS70.rd 1) ht74) (fun v w75 hR76 => ?_)
 obtain ⟨rfl, hk_⟩ := hR76
 have hS77 := hS70.keepN hk_
 refine ⟨trivial, ?_⟩
 refine sg 6 [] [0, 2, 4, 6, 7, 77, 78] [e8, (2, e5), e16, e11, e12, (77, (iv t73.1)), (78, (bv t73.2))] (by kernel_rfl) ?_
 refine WL.new hS77 11 [] (fun g => (pt g)) (.cells #[(iv 0)] 3 (0, 0)) [] (fun fb g => by kernel_rfl) trivial (fun g78 w79 hS80 => ?_)
 refine ⟨trivial, ?_⟩
 refine WL.store hS80 0 rfl [(0, (iv t73.1))] #[(iv t73.1)] (fun fb => by kernel_rfl) (by kernel_rfl) rfl [1, 2, 3] (by decide) (by decide) (fun w81 hS82 => ?_)
 refine ⟨trivial, ?_⟩
 refine sg 9 [] [0, 2, 4, 6, 7, 11, 12] [e8, (2, e5), e16, e11, e12, (11, (pt g78)), (12, (bv t73.2))] (by kernel_rfl) ?_
 refine WL.done rfl (WX.next (WC.seq (WC.seq (WC.region ?_))))
 refine sg 2 [] [0, 2, 4, 6, 7, 11, 80] [e8, (2, e5), e16, e11, e12, (11, (pt g78)), (80, (bv (!t73.2)))] (by kernel_rfl) ?_
 refine WL.done rfl (WX.next ?_)
 rcases br_some hf with ⟨h83, hf⟩ | ⟨h83, hf⟩
 ·refine WC.condT2 (fun fb => by kernel_rfl) h83 ?_
  refine WC.seq (WC.region ?_)
  refine sg 2 [] [6, 7, 81, 82] [e11, e12, (81, (.agg e18)), (82, (.agg e18))] (by kernel_rfl) ?_
  refine WL.store hS82 2 rfl [(0, (iv 0)), (1, (iv 0))] e18 (fun fb => by kernel_rfl) (by kernel_rfl) rfl [0, 1, 3] (by decide) (by decide) (fun w84 hS85 => ?_)
  refine ⟨trivial, ?_⟩
  refine WL.store hS85 3 rfl [(0, (iv 0)), (1, (iv 0))] e18 (fun fb => by kernel_rfl) (by kernel_rfl) rfl [0, 1, 2] (by decide) (by decide) (fun w86 hS87 => ?_)
  refine ⟨trivial, ?_⟩
  refine sg 5 [] [6, 7, 8] [e11, e12, (8, (iv 4))] (by kernel_rfl) ?_
  refine WL.done rfl (WX.next ?_)
  refine WC.ret ?_
  injection hf with hf
  subst hf
  exact WX.thenR (WX.ret_ [.v (iv 0), .v (iv 0), .v (iv 0), .v (iv 0)] (.tuple #[(.agg e18), (.agg e18), (iv 4)]) [.cell ⟨g10, 0, none⟩ (iv 0), .cell ⟨g10, 1, none⟩ (iv 0), .cell ⟨g13, 0, none⟩ (iv 0), .cell ⟨g13, 1, none⟩ (iv 0)] (fun fb => by kernel_rfl) ⟨hS87.cell 1 rfl 0 rfl, hS87.cell 1 rfl 1 rfl, hS87.cell 0 rfl 0 rfl, hS87.cell 0 rfl 1 rfl, trivial⟩ ⟨_, rfl, rfl, hS87.keep⟩)
 refine WC.condF2 (fun fb => by kernel_rfl) h83 ?_
 refine WC.skip (WX.next (WC.seq ?_))
 obtain ⟨x90, hx91, hf⟩ := bind_some hf
 let e19 := iv t73.1
 let e23 : List (Nat × Addr × Value) := [(0, ⟨g78, 0, none⟩, e19), (2, ⟨g78, 0, none⟩, e19)]
 let e31 : Array Value := #[(iv 0), e19]
 let e36 : List (Nat × Value) := [(0, (iv 0)), (1, e19)]
 refine WC.cutN (T := (Int × Int × Int × Int) × Nat × Nat) (fun t => [e8, (2, e5), e16, e11, e12, (11, (pt g78)), (13, (.pointer (some ⟨t.2.1, 0, none⟩))), (14, (.pointer (some ⟨t.2.2, 0, none⟩)))]) (fun t w1 => St NoS w w1 e4 [blk g7 (.cells e10 26 (0, 0)), blk g10 (.cells e18 33 (0, 0)), blk g13 (.cells e18 33 (0, 0)), blk g78 (.cells #[e19] 3 (0, 0)), blk t.2.1 (.cells #[(iv t.1.1), (iv t.1.2.1)] 63 (0, 0)), blk t.2.2 (.cells #[(iv t.1.2.2.1), (iv t.1.2.2.2)] 63 (0, 0))] ∧ x90 = t.1) (fun Kx90 => ?_) ?_
 ·
  refine WC.regionD (e23, [0, 1, 2, 3], [[], [0], [], [2], [], [], [0, 1, 4, 5], e24]) [[0, 1, 2, 3, 4, 5, 6, 7], [0, 1, 2, 3, 5, 4, 6, 7]] (by kernel_rfl) (by kernel_rfl) (NoPanic.seq (NoPanic.body)) ?_
  have hS93 := hS82.drew
  revert hS93
  generalize World.drew w81 = w92
  intro hS93
  refine ⟨⟨hS93.cell 0 rfl 0 rfl, hS93.cell 0 rfl 0 rfl, trivial⟩, forallC ?_ (forallC ?_ (forallN))⟩
  ·
   refine segF 4 [.v e19, .v e19] [0, 2, 4, 6, 7, 11, 84, 86] [e8, (2, e5), e16, e11, e12, (11, (pt g78)), (84, (.agg e31)), (86, (.agg e31))] [] [0, 1] e23 (fun fb => by kernel_rfl) rfl trivial rfl ?_
   refine WL.new hS93 13 [] (fun g => (pt g)) (.cells e18 63 (0, 0)) [] (fun fb g => by kernel_rfl) trivial (fun g94 w95 hS96 => ?_)
   refine ⟨⟨hS96.cell 1 rfl 0 rfl, hS96.cell 1 rfl 0 rfl, trivial⟩, ?_⟩
   refine WL.new hS96 14 [] (fun g => (pt g)) (.cells e18 63 (0, 0)) [] (fun fb g => by kernel_rfl) trivial (fun g97 w98 hS99 => ?_)
   refine ⟨⟨hS99.cell 2 rfl 0 rfl, hS99.cell 2 rfl 0 rfl, trivial⟩, ?_⟩
   refine WL.store hS99 1 rfl e36 e31 (fun fb => by kernel_rfl) (by kernel_rfl) rfl [0, 2, 3, 4, 5] (by decide) (by decide) (fun w100 hS101 => ?_)
   refine ⟨⟨hS101.cell 2 rfl 0 rfl, trivial⟩, ?_⟩
   refine WL.store hS101 1 rfl e36 e31 (fun fb => by kernel_rfl) (by kernel_rfl) rfl [0, 2, 3, 4, 5] (by decide) (by decide) (fun w102 hS103 => ?_)
   refine ⟨trivial, ?_⟩
   refine WL.done rfl ?_
   injection hx91 with hx91
   exact WX.to Kx90 ((0, t73.1, 0, t73.1), g94, g97) [0, 2, 4, 6, 7, 11, 13, 14] rfl ⟨(hS103.subR e24).sub [3, 4, 5, 2, 1, 0] (by decide), hx91.symm⟩
  refine segF 4 [.v e19, .v e19] [0, 2, 4, 6, 7, 11, 84, 86] [e8, (2, e5), e16, e11, e12, (11, (pt g78)), (84, (.agg e31)), (86, (.agg e31))] [] [0, 1] e23 (fun fb => by kernel_rfl) rfl trivial rfl ?_
  refine WL.new hS93 14 [] (fun g => (pt g)) (.cells e18 63 (0, 0)) [] (fun fb g => by kernel_rfl) trivial (fun g104 w105 hS106 => ?_)
  refine ⟨⟨hS106.cell 1 rfl 0 rfl, hS106.cell 1 rfl 0 rfl, trivial⟩, ?_⟩
  refine WL.new hS106 13 [] (fun g => (pt g)) (.cells e18 63 (0, 0)) [] (fun fb g => by kernel_rfl) trivial (fun g107 w108 hS109 => ?_)
  refine ⟨⟨hS109.cell 2 rfl 0 rfl, hS109.cell 2 rfl 0 rfl, trivial⟩, ?_⟩
  refine WL.store hS109 0 rfl e36 e31 (fun fb => by kernel_rfl) (by kernel_rfl) rfl [1, 2, 3, 4, 5] (by decide) (by decide) (fun w110 hS111 => ?_)
  refine ⟨⟨hS111.cell 2 rfl 0 rfl, trivial⟩, ?_⟩
  refine WL.store hS111 1 rfl e36 e31 (fun fb => by kernel_rfl) (by kernel_rfl) rfl [0, 2, 3, 4, 5] (by decide) (by decide) (fun w112 hS113 => ?_)
  refine ⟨trivial, ?_⟩
  refine WL.done rfl ?_
  injection hx91 with hx91
  exact WX.to Kx90 ((0, t73.1, 0, t73.1), g107, g104) [0, 2, 4, 6, 7, 11, 13, 14] rfl ⟨(hS113.subR e24).sub [3, 4, 5, 2, 1, 0] (by decide), hx91.symm⟩
 rintro ⟨y117, g88, g89⟩ w114 ⟨hS115, hq116⟩
 subst hq116
 refine WX.next (WC.seq (WC.region ?_))
 refine sg 2 [] [0, 2, 6, 7, 13, 14, 15] [e8, (2, e5), e11, e12, (13, (pt g88)), (14, (pt g89)), (15, (.func (.func 49) #[] #[(pt g7), (pt g78)]))] (by kernel_rfl) ?_
 refine WL.done rfl (WX.next (WC.seq (WC.seq (WC.region ?_))))
 refine sg 3 [] [0, 6, 7, 13, 14, 15, 88, 89, 90] [e8, e11, e12, (13, (pt g88)), (14, (pt g89)), (15, (.func (.func 49) #[] #[(pt g7), (pt g78)])), (88, e5), (89, (iv (p2.length : Int))), (90, (iv 0))] (by kernel_rfl) ?_
 refine WL.done rfl (WX.next ?_)
 obtain ⟨x121, hx122, hf⟩ := bind_some hf
 let e15 : Nat × Value := (89, (iv (p2.length : Int)))
 let e17 := [[], [0], [], [], [], [3, 4], [3, 4, 5], [3, 4, 5, 6], [2, 3, 4, 5, 6, 7], [0, 1, 2, 3, 4, 5, 6, 7, 8], [0, 1, 2, 3, 4, 5, 6, 7, 8, 9], [0, 1, 2, 3, 4, 5, 6, 7, 8, 9, 10]]
 let e20 : Array Value := #[(pt g7), (pt g78)]
 let e29 : Nat × Value := (13, (pt g88))
 let e30 : Nat × Value := (14, (pt g89))
 let e37 : List Nat := [0, 6, 7, 13, 14, 15, 88, 89, 90]
 refine WC.cutN (T := Int × Int) (fun t => [e11, e12, e29, e30]) (fun t w1 => St NoS w w1 e4 [blk g10 (.cells e18 33 (0, 0)), blk g13 (.cells e18 33 (0, 0)), blk g88 (.cells #[(iv t.1), (iv x90.2.1)] 63 (0, 0)), blk g89 (.cells #[(iv t.2), (iv x90.2.2.2)] 63 (0, 0))] ∧ x121 = t) (fun Kx121 => ?_) ?_
 ·
  refine WC.block ?_
  refine WC.loop (T := Int × Int × Int) (fun t => [e8, e11, e12, e29, e30, (15, (.func (.func 49) #[] e20)), (88, e5), e15, (90, (iv t.2.2))]) (fun n t w1 => St NoS w w1 e4 [blk g10 (.cells e18 33 (0, 0)), blk g13 (.cells e18 33 (0, 0)), blk g88 (.cells #[(iv t.1), (iv x90.2.1)] 63 (0, 0)), blk g89 (.cells #[(iv t.2.1), (iv x90.2.2.2)] 63 (0, 0)), blk g7 (.cells e10 26 (0, 0)), blk g78 (.cells #[e19] 3 (0, 0))] ∧ weight_Row.l1 n t.1 t.2.1 t.2.2 p0 p1 p2 t73 = some x121) k (x90.1, x90.2.2.1, 0) e37 rfl ⟨(hS115.subR e24).sub [1, 2, 4, 5, 0, 3] (by decide), hx122⟩ ?_
  rintro k123 ⟨x118, x119, x120⟩ w124 ⟨hS125, hl126⟩
  let e6 := rdD p0 (rdD p2 x120 0) z_Tile
  let e22 := (adr Aa).add (((rdD p2 x120 0)).toNat * 4)
  let e32 := rdD p2 x120 0
  let e35 : List (Nat × Addr × Value) := [(1, ⟨g88, 0, none⟩, (iv x118)), (7, (e22.add 2), (iv (e6.S)))]
  let e38 : Nat × Value := (90, (iv x120))
  let e40 : List (Nat × Addr × Value) := [(1, ⟨g89, 0, none⟩, (iv x119)), (7, e22, (iv (e6.N)))]
  cases k123 with
  | zero => rw [weight_Row.l1] at hl126; cases hl126
  | succ k123 =>
   rw [weight_Row.l1] at hl126
   refine WC.seq (WC.region ?_)
   refine sg 1 [] [0, 6, 7, 13, 14, 15, 88, 89, 90, 91] [e8, e11, e12, e29, e30, (15, (.func (.func 49) #[] e20)), (88, e5), e15, e38, (91, (bv (decide (x120 < (p2.length : Int)))))] (by kernel_rfl) ?_
   refine WL.done rfl (WX.next (WC.seq ?_))
   rcases br_some hl126 with ⟨h127, hl126⟩ | ⟨h127, hl126⟩
   ·refine WC.condT2 (fun fb => by kernel_rfl) h127 ?_
    refine WC.skip (WX.next (WC.seq (WC.block (WC.seq (WC.region ?_)))))
    obtain ⟨h128, hl126⟩ := as_some hl126
    refine seg 3 [.v (iv e32)] [0, 6, 7, 13, 14, 15, 17, 88, 89, 90] [e8, e11, e12, e29, e30, (15, (.func (.func 49) #[] e20)), (17, (iv e32)), (88, e5), e15, e38] [.idx Ag x120 p2.length, .cell ((adr Ag).add ((x120).toNat * 1)) (iv e32)] (fun fb => by kernel_rfl) rfl ⟨rowR.adr (hS125.rd 6).1 h128.1 h128.2, rowR.cell (hS125.rd 6).1 0 h128.1 h128.2 0 rfl, trivial⟩ ?_
    refine WL.done rfl (WX.next (WC.seq ?_))
    obtain ⟨h131, hl126⟩ := as_some hl126
    refine WC.regionD (e35, [0, 1, 2, 3, 4, 5, 6, 7, 9, 10], e17) [e21] (by kernel_rfl) (by kernel_rfl) (NoPanic.seq (NoPanic.block (NoPanic.seq (NoPanic.seq (NoPanic.block (NoPanic.seq (NoPanic.body))))))) ?_
    have hS130 := hS125.drew
    revert hS130
    generalize World.drew w124 = w129
    intro hS130
    refine ⟨⟨hS130.cell 2 rfl 0 rfl, rowR.cell (hS130.rd 0).1 z_Tile h131.1 h131.2 2 rfl, trivial⟩, forallC ?_ (forallN)⟩
    refine segF 8 [.v (iv x118), .v (iv (e6.S))] [0, 6, 7, 13, 14, 15, 17, 88, 89, 90, 95, 96, 101] [e8, e11, e12, e29, e30, (15, (.func (.func 49) #[] e20)), (17, (iv e32)), (88, e5), e15, e38, (95, (iv x118)), (96, (.func (.func 49) #[] e20)), (101, (iv (e6.S)))] [.idx Aa e32 p0.length] [0, 1] e35 (fun fb => by kernel_rfl) rfl ⟨rowR.adr (hS130.rd 0).1 h131.1 h131.2, trivial⟩ rfl ?_
    obtain ⟨t132, ht133, hl126⟩ := bind_some hl126
    refine WL.call (some 102) 49 #[(iv (e6.S)), (pt g7), (pt g78)] (fun fb => by kernel_rfl) (weight_Row_1_calls _ (e6.S) p1 t73.1 g7 Ab cb Ac cc Ad cd Ae ce Af cf g78 t132 _ (hS130.ow 4) (hS130.rd 1) (hS130.rd 2) (hS130.rd 3) (hS130.rd 4) (hS130.rd 5) (hS130.ow 5) ht133) (fun v w134 hR135 => ?_)
    obtain ⟨rfl, hk_⟩ := hR135
    have hS136 := hS130.keepN hk_
    refine ⟨⟨hS136.cell 2 rfl 0 rfl, trivial⟩, ?_⟩
    refine sg 11 [] [0, 6, 7, 13, 14, 15, 17, 88, 89, 90, 103, 104] [e8, e11, e12, e29, e30, (15, (.func (.func 49) #[] e20)), (17, (iv e32)), (88, e5), e15, e38, (103, (iv (w64 (x118 + t132)))), (104, (pt g88))] (by kernel_rfl) ?_
    refine WL.store hS136 2 rfl [(0, (iv (w64 (x118 + t132))))] #[(iv (w64 (x118 + t132))), (iv x90.2.1)] (fun fb => by kernel_rfl) (by kernel_rfl) rfl [0, 1, 3, 4, 5] (by decide) (by decide) (fun w137 hS138 => ?_)
    refine ⟨trivial, ?_⟩
    refine WL.done rfl (WX.next ?_)
    refine WC.regionD (e40, [0, 1, 2, 3, 4, 5, 6, 7, 9, 10], e17) [e21] (by kernel_rfl) (by kernel_rfl) (NoPanic.block (NoPanic.seq (NoPanic.seq (NoPanic.block (NoPanic.seq (NoPanic.body)))))) ?_
    have hS140 := hS138.drew
    revert hS140
    generalize World.drew w137 = w139
    intro hS140
    refine ⟨⟨hS140.cell 3 rfl 0 rfl, rowR.cell (hS140.rd 0).1 z_Tile h131.1 h131.2 0 rfl, trivial⟩, forallC ?_ (forallN)⟩
    refine segF 8 [.v (iv x119), .v (iv (e6.N))] [0, 6, 7, 13, 14, 15, 88, 89, 90, 106, 107, 112] [e8, e11, e12, e29, e30, (15, (.func (.func 49) #[] e20)), (88, e5), e15, e38, (106, (iv x119)), (107, (.func (.func 49) #[] e20)), (112, (iv (e6.N)))] [.idx Aa e32 p0.length] [0, 1] e40 (fun fb => by kernel_rfl) rfl ⟨rowR.adr (hS140.rd 0).1 h131.1 h131.2, trivial⟩ rfl ?_
    obtain ⟨t141, ht142, hl126⟩ := bind_some hl126
    refine WL.call (some 113) 49 #[(iv (e6.N)), (pt g7), (pt g78)] (fun fb => by kernel_rfl) (weight_Row_1_calls _ (e6.N) p1 t73.1 g7 Ab cb Ac cc Ad cd Ae ce Af cf g78 t141 _ (hS140.ow 4) (hS140.rd 1) (hS140.rd 2) (hS140.rd 3) (hS140.rd 4) (hS140.rd 5) (hS140.ow 5) ht142) (fun v w143 hR144 => ?_)
    obtain ⟨rfl, hk_⟩ := hR144
    have hS145 := hS140.keepN hk_
    refine ⟨⟨hS145.cell 3 rfl 0 rfl, trivial⟩, ?_⟩
    refine sg 11 [] [0, 6, 7, 13, 14, 15, 88, 89, 90, 114, 115] [e8, e11, e12, e29, e30, (15, (.func (.func 49) #[] e20)), (88, e5), e15, e38, (114, (iv (w64 (x119 + t141)))), (115, (pt g89))] (by kernel_rfl) ?_
    refine WL.store hS145 3 rfl [(0, (iv (w64 (x119 + t141))))] #[(iv (w64 (x119 + t141))), (iv x90.2.2.2)] (fun fb => by kernel_rfl) (by kernel_rfl) rfl [0, 1, 2, 4, 5] (by decide) (by decide) (fun w146 hS147 => ?_)
    refine ⟨trivial, ?_⟩
    refine WL.done rfl ?_
    refine WX.blockN (WX.next ?_)
    refine WC.region ?_
    refine sg 2 [] e37 [e8, e11, e12, e29, e30, (15, (.func (.func 49) #[] e20)), (88, e5), e15, (90, (iv (w64 (x120 + 1))))] (by kernel_rfl) ?_
    refine WL.done rfl ?_
    exact WX.again k123 (Nat.lt_succ_self _) (w64 (x118 + t132), w64 (x119 + t141), w64 (x120 + 1)) e37 rfl ⟨(hS147.subR e24).sub [2, 3, 1, 0, 4, 5] (by decide), hl126⟩
   refine WC.condF2 (fun fb => by kernel_rfl) h127 ?_
   refine WC.exit ?_
   injection hl126 with hl126
   exact WX.thenX (WX.thenX (WX.blockHere (WX.to Kx121 (x118, x119) [6, 7, 13, 14] rfl ⟨(hS125.subR e24).sub [0, 1, 2, 3] (by decide), hl126.symm⟩)))
 rintro y151 w148 ⟨hS149, hq150⟩
 subst hq150
 refine WX.next (WC.seq ?_)
 refine WC.regionD ([(0, ⟨g88, 0, none⟩, (iv x121.1)), (0, ⟨g88, 1, none⟩, (iv x90.2.1)), (2, ⟨g89, 0, none⟩, (iv x121.2)), (2, ⟨g89, 1, none⟩, (iv x90.2.2.2))], [0, 2], [[], [0], [], [0, 1, 2], [0, 1, 2, 3], [0, 1, 2, 3, 4]]) [[0, 2, 1, 3, 4, 5]] (by kernel_rfl) (by kernel_rfl) (NoPanic.seq (NoPanic.body)) ?_
 have hS153 := hS149.drew
 revert hS153
 generalize World.drew w148 = w152
 intro hS153
 refine ⟨⟨hS153.cell 2 rfl 0 rfl, hS153.cell 2 rfl 1 rfl, hS153.cell 3 rfl 0 rfl, hS153.cell 3 rfl 1 rfl, trivial⟩, forallC ?_ (forallN)⟩
 refine segF 2 [.v (iv x121.1), .v (iv x90.2.1), .v (iv x121.2), .v (iv x90.2.2.2)] [6, 7, 13, 14, 117, 119] [e11, e12, e29, e30, (117, (.agg #[(iv x121.1), (iv x90.2.1)])), (119, (.agg #[(iv x121.2), (iv x90.2.2.2)]))] [] [0, 1, 2, 3] [(0, ⟨g88, 0, none⟩, (iv x121.1)), (0, ⟨g88, 1, none⟩, (iv x90.2.1)), (2, ⟨g89, 0, none⟩, (iv x121.2)), (2, ⟨g89, 1, none⟩, (iv x90.2.2.2))] (fun fb => by kernel_rfl) rfl trivial rfl ?_
 obtain ⟨t154, ht155, hf⟩ := bind_some hf
 refine WL.call (some 118) 50 #[(.agg #[(iv x121.1), (iv x90.2.1)])] (fun fb => by kernel_rfl) (weight_fraction_lowest_calls _ (Fraction.mk x121.1 x90.2.1) t154 _ ht155) (fun v w156 hR157 => ?_)
 obtain ⟨rfl, hk_⟩ := hR157
 have hS158 := hS153.keepN hk_
 refine ⟨⟨hS158.cell 3 rfl 0 rfl, hS158.cell 3 rfl 1 rfl, trivial⟩, ?_⟩
 obtain ⟨t159, ht160, hf⟩ := bind_some hf
 refine WL.call (some 120) 50 #[(.agg #[(iv x121.2), (iv x90.2.2.2)])] (fun fb => by kernel_rfl) (weight_fraction_lowest_calls _ (Fraction.mk x121.2 x90.2.2.2) t159 _ ht160) (fun v w161 hR162 => ?_)
 obtain ⟨rfl, hk_⟩ := hR162
 have hS163 := hS158.keepN hk_
 refine ⟨trivial, ?_⟩
 refine WL.store hS163 2 rfl [(0, (iv t154.Num)), (1, (iv t154.Den))] #[(iv t154.Num), (iv t154.Den)] (fun fb => by kernel_rfl) (by kernel_rfl) rfl [0, 1, 3] (by decide) (by decide) (fun w164 hS165 => ?_)
 refine ⟨trivial, ?_⟩
 refine WL.store hS165 3 rfl [(0, (iv t159.Num)), (1, (iv t159.Den))] #[(iv t159.Num), (iv t159.Den)] (fun fb => by kernel_rfl) (by kernel_rfl) rfl [0, 1, 2] (by decide) (by decide) (fun w166 hS167 => ?_)
 refine ⟨trivial, ?_⟩
 refine WL.done rfl (WX.next (WC.seq (WC.seq (WC.region ?_))))
 refine seg 1 [.v (iv t154.Num), .v (iv t154.Den)] [6, 7, 13, 14, 121] [e11, e12, e29, e30, (121, (.agg #[(iv t154.Num), (iv t154.Den)]))] [.cell ⟨g88, 0, none⟩ (iv t154.Num), .cell ⟨g88, 1, none⟩ (iv t154.Den)] (fun fb => by kernel_rfl) rfl ⟨hS167.cell 1 rfl 0 rfl, hS167.cell 1 rfl 1 rfl, trivial⟩ ?_
 obtain ⟨t168, ht169, hf⟩ := bind_some hf
 refine WL.call (some 122) 39 #[(.agg #[(iv t154.Num), (iv t154.Den)])] (fun fb => by kernel_rfl) (weight_fraction_valid_calls t154 t168 _ ht169) (fun v w170 hR171 => ?_)
 obtain ⟨rfl, hk_⟩ := hR171
 have hS172 := hS167.keepN hk_
 refine ⟨trivial, ?_⟩
 refine sg 4 [] [6, 7, 13, 14, 124] [e11, e12, e29, e30, (124, (bv (!t168)))] (by kernel_rfl) ?_
 obtain ⟨x173, hx174, hf⟩ := bind_some hf
 let e39 : Array Value := #[(iv t159.Num), (iv t159.Den)]
 refine WL.cutW (T := Bool) 8 (fun t => [e11, e12, e29, e30, (128, (bv t))]) (fun t w1 => (St NoS w w1 e4 [blk g10 (.cells e18 33 (0, 0)), blk g13 (.cells e18 33 (0, 0)), blk g88 (.cells #[(iv t154.Num), (iv t154.Den)] 63 (0, 0)), blk g89 (.cells e39 63 (0, 0))] ∧ x173 = t) ∧ CellsOK [] w1) (fun K => ?_) ?_
 ·
  rcases br_some hx174 with ⟨h175, hx174⟩ | ⟨h175, hx174⟩
  ·
   refine WL.setB 124 h175 rfl ?_
   refine sg 8 [] [6, 7, 13, 14, 128] [e11, e12, e29, e30, (128, (bv true))] (by kernel_rfl) ?_
   injection hx174 with hx174
   exact WL.to K true [6, 7, 13, 14, 128] rfl ⟨⟨(hS172.subR e24).sub [2, 3, 1, 0] (by decide), hx174.symm⟩, trivial⟩
  refine WL.setB 124 h175 rfl ?_
  refine seg 5 [.v (iv t159.Num), .v (iv t159.Den)] [6, 7, 13, 14, 124, 125] [e11, e12, e29, e30, (124, (bv false)), (125, (.agg e39))] [.cell ⟨g89, 0, none⟩ (iv t159.Num), .cell ⟨g89, 1, none⟩ (iv t159.Den)] (fun fb => by kernel_rfl) rfl ⟨hS172.cell 0 rfl 0 rfl, hS172.cell 0 rfl 1 rfl, trivial⟩ ?_
  obtain ⟨t176, ht177, hx174⟩ := bind_some hx174
  refine WL.call (some 126) 39 #[(.agg e39)] (fun fb => by kernel_rfl) (weight_fraction_valid_calls t159 t176 _ ht177) (fun v w178 hR179 => ?_)
  obtain ⟨rfl, hk_⟩ := hR179
  have hS180 := hS172.keepN hk_
  refine ⟨trivial, ?_⟩
  refine sg 8 [] [6, 7, 13, 14, 128] [e11, e12, e29, e30, (128, (bv (!t176)))] (by kernel_rfl) ?_
  injection hx174 with hx174
  exact WL.to K (!t176) [6, 7, 13, 14, 128] rfl ⟨⟨(hS180.subR e24).sub [2, 3, 1, 0] (by decide), hx174.symm⟩, trivial⟩
 rintro y181 w183 ⟨⟨hS184, hq182⟩, hF185⟩
 subst hq182
 refine WL.done rfl (WX.next ?_)
 rcases br_some hf with ⟨h186, hf⟩ | ⟨h186, hf⟩
 ·refine WC.condT2 (fun fb => by kernel_rfl) h186 ?_
  refine WC.seq (WC.region ?_)
  refine sg 2 [] [6, 7, 129, 130] [e11, e12, (129, (.agg e18)), (130, (.agg e18))] (by kernel_rfl) ?_
  refine WL.store hS184 0 rfl [(0, (iv 0)), (1, (iv 0))] e18 (fun fb => by kernel_rfl) (by kernel_rfl) rfl [1, 2, 3] (by decide) (by decide) (fun w187 hS188 => ?_)
  refine ⟨trivial, ?_⟩
  refine WL.store hS188 1 rfl [(0, (iv 0)), (1, (iv 0))] e18 (fun fb => by kernel_rfl) (by kernel_rfl) rfl [0, 2, 3] (by decide) (by decide) (fun w189 hS190 => ?_)
  refine ⟨trivial, ?_⟩
  refine sg 5 [] [6, 7, 8] [e11, e12, (8, (iv 4))] (by kernel_rfl) ?_
  refine WL.done rfl (WX.next ?_)
  refine WC.ret ?_
  injection hf with hf
  subst hf
  exact WX.thenR (WX.ret_ [.v (iv 0), .v (iv 0), .v (iv 0), .v (iv 0)] (.tuple #[(.agg e18), (.agg e18), (iv 4)]) [.cell ⟨g10, 0, none⟩ (iv 0), .cell ⟨g10, 1, none⟩ (iv 0), .cell ⟨g13, 0, none⟩ (iv 0), .cell ⟨g13, 1, none⟩ (iv 0)] (fun fb => by kernel_rfl) ⟨hS190.cell 1 rfl 0 rfl, hS190.cell 1 rfl 1 rfl, hS190.cell 0 rfl 0 rfl, hS190.cell 0 rfl 1 rfl, trivial⟩ ⟨_, rfl, rfl, hS190.keep⟩)
 refine WC.condF2 (fun fb => by kernel_rfl) h186 ?_
 refine WC.skip (WX.next (WC.seq ?_))
 refine WC.regionD ([(0, ⟨g88, 0, none⟩, (iv t154.Num)), (0, ⟨g88, 1, none⟩, (iv t154.Den)), (1, ⟨g89, 0, none⟩, (iv t159.Num)), (1, ⟨g89, 1, none⟩, (iv t159.Den))], [0, 1, 4], [[], [], [0], [0, 1, 2], [0, 1, 2, 3]]) [[0, 1, 2, 3, 4]] (by kernel_rfl) (by kernel_rfl) (NoPanic.seq (NoPanic.body)) ?_
 have hS192 := hS184.drew
 revert hS192
 generalize World.drew w183 = w191
 intro hS192
 refine ⟨⟨hS192.cell 2 rfl 0 rfl, hS192.cell 2 rfl 1 rfl, hS192.cell 3 rfl 0 rfl, hS192.cell 3 rfl 1 rfl, trivial⟩, forallC ?_ (forallN)⟩
 refine segF 2 [.v (iv t154.Num), .v (iv t154.Den), .v (iv t159.Num), .v (iv t159.Den)] [6, 7, 131, 132] [e11, e12, (131, (.agg #[(iv t154.Num), (iv t154.Den)])), (132, (.agg e39))] [] [0, 1, 2, 3] [(0, ⟨g88, 0, none⟩, (iv t154.Num)), (0, ⟨g88, 1, none⟩, (iv t154.Den)), (1, ⟨g89, 0, none⟩, (iv t159.Num)), (1, ⟨g89, 1, none⟩, (iv t159.Den))] (fun fb => by kernel_rfl) rfl trivial rfl ?_
 refine WL.store hS192 0 rfl [(0, (iv t154.Num)), (1, (iv t154.Den))] #[(iv t154.Num), (iv t154.Den)] (fun fb => by kernel_rfl) (by kernel_rfl) rfl [1, 2, 3] (by decide) (by decide) (fun w193 hS194 => ?_)
 refine ⟨⟨hS194.cell 3 rfl 0 rfl, hS194.cell 3 rfl 1 rfl, trivial⟩, ?_⟩
 refine WL.store hS194 1 rfl [(0, (iv t159.Num)), (1, (iv t159.Den))] e39 (fun fb => by kernel_rfl) (by kernel_rfl) rfl [0, 2, 3] (by decide) (by decide) (fun w195 hS196 => ?_)
 refine ⟨trivial, ?_⟩
 refine sg 5 [] [6, 7, 8] [e11, e12, (8, (iv 0))] (by kernel_rfl) ?_
 refine WL.done rfl (WX.next ?_)
 refine WC.ret ?_
 injection hf with hf
 subst hf
 exact WX.ret_ [.v (iv t154.Num), .v (iv t154.Den), .v (iv t159.Num), .v (iv t159.Den)] (.tuple #[(.agg #[(iv t154.Num), (iv t154.Den)]), (.agg e39), (iv 0)]) [.cell ⟨g10, 0, none⟩ (iv t154.Num), .cell ⟨g10, 1, none⟩ (iv t154.Den), .cell ⟨g13, 0, none⟩ (iv t159.Num), .cell ⟨g13, 1, none⟩ (iv t159.Den)] (fun fb => by kernel_rfl) ⟨hS196.cell 1 rfl 0 rfl, hS196.cell 1 rfl 1 rfl, hS196.cell 0 rfl 0 rfl, hS196.cell 0 rfl 1 rfl, trivial⟩ ⟨_, rfl, rfl, hS196.keep⟩
theorem law06_awake_calls (k : Nat)  (mG : Glo) (r : Bool) (w : World) (hR0 : RO NoS w (tabO 0 md0)) (hR1 : RO NoS w (gloO Tryz.prog 5 8 3 4 mG)) (hf : law06_awake k = some r) :
  CallsR Tryz.prog 10 #[] w (fun v w' => v = (bv r) ∧ Keeps NoS w w') := by
 have hS : St NoS w w [tabO 0 md0, gloO Tryz.prog 5 8 3 4 mG] [] := St.init (ro_cons hR0 (ro_cons hR1 (ro_nil _ _)))
 refine enter 88 Tryz.func10 rfl Tryz.ntmps10 rfl ?_
 unfold law06_awake at hf
 refine WC.seq (WC.region ?_)
 refine sg 1 [] [] [] (by kernel_rfl) ?_
 refine WL.done rfl (WX.next (WC.seq (WC.region ?_)))
 obtain ⟨t3, ht4, hf⟩ := bind_some hf
 refine WL.call (some 14) 26 #[(.string (⟨#[50, 46, 48, 46, 49, 46, 48]⟩ : ByteArray))] (fun fb => by kernel_rfl) (tile_Parse_calls _ (⟨#[50, 46, 48, 46, 49, 46, 48]⟩ : ByteArray) mG t3 _ (hS.rd 1) ht4) (fun v w5 hR7 => ?_)
 obtain ⟨A9, c11, rfl, hk_⟩ := hR7
 have hS8 := hS.go w5 [rowO 44 enc_Tile A9 c11 t3.1] (hS.call hk_ [] [] (fun g hg => hg.elim) (by simp) (by decide))
 refine ⟨trivial, ?_⟩
 refine sg 6 [] [1] [(1, (sv A9 t3.1 c11))] (by kernel_rfl) ?_
 refine WL.done rfl (WX.next (WC.seq (WC.region ?_)))
 obtain ⟨t12, ht13, hf⟩ := bind_some hf
 refine WL.call (some 18) 26 #[(.string (⟨#[49, 46, 48, 46, 49, 46, 48]⟩ : ByteArray))] (fun fb => by kernel_rfl) (tile_Parse_calls _ (⟨#[49, 46, 48, 46, 49, 46, 48]⟩ : ByteArray) mG t12 _ (hS8.rd 1) ht13) (fun v w14 hR15 => ?_)
 obtain ⟨A17, c18, rfl, hk_⟩ := hR15
 have hS16 := hS8.go w14 [rowO 44 enc_Tile A17 c18 t12.1, rowO 44 enc_Tile A9 c11 t3.1] (hS8.call hk_ [] [0] (fun g hg => hg.elim) (by simp) (by decide))
 refine ⟨trivial, ?_⟩
 refine sg 6 [] [1, 3] [(1, (sv A9 t3.1 c11)), (3, (sv A17 t12.1 c18))] (by kernel_rfl) ?_
 refine WL.done rfl (WX.next (WC.seq (WC.region ?_)))
 refine sg 3 [] [1, 3, 21, 22, 23] [(1, (sv A9 t3.1 c11)), (3, (sv A17 t12.1 c18)), (21, (.agg #[(iv 0), (iv 1)])), (22, (.agg #[(iv 1), (iv 1)])), (23, (.agg #[(iv 2), (iv 1)]))] (by kernel_rfl) ?_
 refine WL.new hS16 24 [] (fun g => (.slice (some ⟨g, 0, none⟩) 3 3)) (.cells #[(iv 0), (iv 1), (iv 1), (iv 1), (iv 2), (iv 1)] 33 (0, 0)) [] (fun fb g => by kernel_rfl) trivial (fun g19 w20 hS21 => ?_)
 refine ⟨trivial, ?_⟩
 have hS22 := hS16.go w20 [rowO 33 enc_Frac (some ⟨g19, 0, none⟩) 3 [(Frac.mk 0 1), (Frac.mk 1 1), (Frac.mk 2 1)], rowO 44 enc_Tile A17 c18 t12.1, rowO 44 enc_Tile A9 c11 t3.1] (hS21.map1 0 _ (fun h => rowO.ofBlk h rfl (Nat.le_of_ble_eq_true (by kernel_rfl))) (fun _ h => by obtain ⟨_, h1, h2⟩ := h; injection h1 with h1; subst h1; exact h2) [1, 2] (by decide) (by decide))
 refine sg 5 [] [1, 3, 24, 25] [(1, (sv A9 t3.1 c11)), (3, (sv A17 t12.1 c18)), (24, (sv (some ⟨g19, 0, none⟩) [(Frac.mk 0 1), (Frac.mk 1 1), (Frac.mk 2 1)] 3)), (25, (.agg #[(iv 0), (iv 1)]))] (by kernel_rfl) ?_
 refine WL.new hS22 26 [] (fun g => (.slice (some ⟨g, 0, none⟩) 1 1)) (.cells #[(iv 0), (iv 1)] 33 (0, 0)) [] (fun fb g => by kernel_rfl) trivial (fun g23 w24 hS25 => ?_)
 refine ⟨trivial, ?_⟩
 have hS26 := hS22.go w24 [rowO 33 enc_Frac (some ⟨g23, 0, none⟩) 1 [(Frac.mk 0 1)], rowO 33 enc_Frac (some ⟨g19, 0, none⟩) 3 [(Frac.mk 0 1), (Frac.mk 1 1), (Frac.mk 2 1)], rowO 44 enc_Tile A17 c18 t12.1, rowO 44 enc_Tile A9 c11 t3.1] (hS25.map1 0 _ (fun h => rowO.ofBlk h rfl (Nat.le_of_ble_eq_true (by kernel_rfl))) (fun _ h => by obtain ⟨_, h1, h2⟩ := h; injection h1 with h1; subst h1; exact h2) [1, 2, 3] (by decide) (by decide))
 refine sg 7 [] [1, 3, 24, 26, 27] [(1, (sv A9 t3.1 c11)), (3, (sv A17 t12.1 c18)), (24, (sv (some ⟨g19, 0, none⟩) [(Frac.mk 0 1), (Frac.mk 1 1), (Frac.mk 2 1)] 3)), (26, (sv (some ⟨g23, 0, none⟩) [(Frac.mk 0 1)] 1)), (27, (.agg #[(iv 2), (iv 1)]))] (by kernel_rfl) ?_
 refine WL.new hS26 28 [] (fun g => (.slice (some ⟨g, 0, none⟩) 1 1)) (.cells #[(iv 2), (iv 1)] 33 (0, 0)) [] (fun fb g => by kernel_rfl) trivial (fun g27 w28 hS29 => ?_)
 refine ⟨trivial, ?_⟩
 have hS30 := hS26.go w28 [rowO 33 enc_Frac (some ⟨g27, 0, none⟩) 1 [(Frac.mk 2 1)], rowO 33 enc_Frac (some ⟨g23, 0, none⟩) 1 [(Frac.mk 0 1)], rowO 33 enc_Frac (some ⟨g19, 0, none⟩) 3 [(Frac.mk 0 1), (Frac.mk 1 1), (Frac.mk 2 1)], rowO 44 enc_Tile A17 c18 t12.1, rowO 44 enc_Tile A9 c11 t3.1] (hS29.map1 0 _ (fun h => rowO.ofBlk h rfl (Nat.le_of_ble_eq_true (by kernel_rfl))) (fun _ h => by obtain ⟨_, h1, h2⟩ := h; injection h1 with h1; subst h1; exact h2) [1, 2, 3, 4] (by decide) (by decide))
 refine WL.new hS30 29 [] (fun g => (.slice (some ⟨g, 0, none⟩) 1 1)) (.cells #[(iv 2)] 3 (0, 0)) [] (fun fb g => by kernel_rfl) trivial (fun g31 w32 hS33 => ?_)
 refine ⟨trivial, ?_⟩
 have hS34 := hS30.go w32 [rowO 3 encInt (some ⟨g31, 0, none⟩) 1 [2], rowO 33 enc_Frac (some ⟨g27, 0, none⟩) 1 [(Frac.mk 2 1)], rowO 33 enc_Frac (some ⟨g23, 0, none⟩) 1 [(Frac.mk 0 1)], rowO 33 enc_Frac (some ⟨g19, 0, none⟩) 3 [(Frac.mk 0 1), (Frac.mk 1 1), (Frac.mk 2 1)], rowO 44 enc_Tile A17 c18 t12.1, rowO 44 enc_Tile A9 c11 t3.1] (hS33.map1 0 _ (fun h => rowO.ofBlk h rfl (Nat.le_of_ble_eq_true (by kernel_rfl))) (fun _ h => by obtain ⟨_, h1, h2⟩ := h; injection h1 with h1; subst h1; exact h2) [1, 2, 3, 4, 5] (by decide) (by decide))
 refine WL.new hS34 30 [] (fun g => (.slice (some ⟨g, 0, none⟩) 1 1)) (.cells #[(iv 1)] 3 (0, 0)) [] (fun fb g => by kernel_rfl) trivial (fun g35 w36 hS37 => ?_)
 refine ⟨trivial, ?_⟩
 have hS38 := hS34.go w36 [rowO 3 encInt (some ⟨g35, 0, none⟩) 1 [1], rowO 3 encInt (some ⟨g31, 0, none⟩) 1 [2], rowO 33 enc_Frac (some ⟨g27, 0, none⟩) 1 [(Frac.mk 2 1)], rowO 33 enc_Frac (some ⟨g23, 0, none⟩) 1 [(Frac.mk 0 1)], rowO 33 enc_Frac (some ⟨g19, 0, none⟩) 3 [(Frac.mk 0 1), (Frac.mk 1 1), (Frac.mk 2 1)], rowO 44 enc_Tile A17 c18 t12.1, rowO 44 enc_Tile A9 c11 t3.1] (hS37.map1 0 _ (fun h => rowO.ofBlk h rfl (Nat.le_of_ble_eq_true (by kernel_rfl))) (fun _ h => by obtain ⟨_, h1, h2⟩ := h; injection h1 with h1; subst h1; exact h2) [1, 2, 3, 4, 5, 6] (by decide) (by decide))
 refine sg 11 [] [1, 3, 31] [(1, (sv A9 t3.1 c11)), (3, (sv A17 t12.1 c18)), (31, (.agg #[(sv (some ⟨g19, 0, none⟩) [(Frac.mk 0 1), (Frac.mk 1 1), (Frac.mk 2 1)] 3), (sv (some ⟨g23, 0, none⟩) [(Frac.mk 0 1)] 1), (sv (some ⟨g27, 0, none⟩) [(Frac.mk 2 1)] 1), (sv (some ⟨g31, 0, none⟩) [2] 1), (sv (some ⟨g35, 0, none⟩) [1] 1)]))] (by kernel_rfl) ?_
 refine WL.new hS38 5 [] (fun g => (pt g)) (.cells #[(.slice none 0 0), (.slice none 0 0), (.slice none 0 0), (.slice none 0 0), (.slice none 0 0)] 26 (0, 0)) [] (fun fb g => by kernel_rfl) trivial (fun g39 w40 hS41 => ?_)
 refine ⟨trivial, ?_⟩
 refine WL.store hS41 0 rfl [(0, (sv (some ⟨g19, 0, none⟩) [(Frac.mk 0 1), (Frac.mk 1 1), (Frac.mk 2 1)] 3)), (1, (sv (some ⟨g23, 0, none⟩) [(Frac.mk 0 1)] 1)), (2, (sv (some ⟨g27, 0, none⟩) [(Frac.mk 2 1)] 1)), (3, (sv (some ⟨g31, 0, none⟩) [2] 1)), (4, (sv (some ⟨g35, 0, none⟩) [1] 1))] #[(sv (some ⟨g19, 0, none⟩) [(Frac.mk 0 1), (Frac.mk 1 1), (Frac.mk 2 1)] 3), (sv (some ⟨g23, 0, none⟩) [(Frac.mk 0 1)] 1), (sv (some ⟨g27, 0, none⟩) [(Frac.mk 2 1)] 1), (sv (some ⟨g31, 0, none⟩) [2] 1), (sv (some ⟨g35, 0, none⟩) [1] 1)] (fun fb => by kernel_rfl) (by kernel_rfl) rfl [1, 2, 3, 4, 5, 6, 7] (by decide) (by decide) (fun w42 hS43 => ?_)
 refine ⟨trivial, ?_⟩
 refine WL.done rfl (WX.next (WC.seq (WC.region ?_)))
 refine seg 2 [.v (sv (some ⟨g19, 0, none⟩) [(Frac.mk 0 1), (Frac.mk 1 1), (Frac.mk 2 1)] 3), .v (sv (some ⟨g23, 0, none⟩) [(Frac.mk 0 1)] 1), .v (sv (some ⟨g27, 0, none⟩) [(Frac.mk 2 1)] 1), .v (sv (some ⟨g31, 0, none⟩) [2] 1), .v (sv (some ⟨g35, 0, none⟩) [1] 1)] [1, 3, 5, 33, 34] [(1, (sv A9 t3.1 c11)), (3, (sv A17 t12.1 c18)), (5, (pt g39)), (33, (sv A9 t3.1 c11)), (34, (.agg #[(sv (some ⟨g19, 0, none⟩) [(Frac.mk 0 1), (Frac.mk 1 1), (Frac.mk 2 1)] 3), (sv (some ⟨g23, 0, none⟩) [(Frac.mk 0 1)] 1), (sv (some ⟨g27, 0, none⟩) [(Frac.mk 2 1)] 1), (sv (some ⟨g31, 0, none⟩) [2] 1), (sv (some ⟨g35, 0, none⟩) [1] 1)]))] [.cell ⟨g39, 0, none⟩ (sv (some ⟨g19, 0, none⟩) [(Frac.mk 0 1), (Frac.mk 1 1), (Frac.mk 2 1)] 3), .cell ⟨g39, 1, none⟩ (sv (some ⟨g23, 0, none⟩) [(Frac.mk 0 1)] 1), .cell ⟨g39, 2, none⟩ (sv (some ⟨g27, 0, none⟩) [(Frac.mk 2 1)] 1), .cell ⟨g39, 3, none⟩ (sv (some ⟨g31, 0, none⟩) [2] 1), .cell ⟨g39, 4, none⟩ (sv (some ⟨g35, 0, none⟩) [1] 1)] (fun fb => by kernel_rfl) rfl ⟨hS43.cell 0 rfl 0 rfl, hS43.cell 0 rfl 1 rfl, hS43.cell 0 rfl 2 rfl, hS43.cell 0 rfl 3 rfl, hS43.cell 0 rfl 4 rfl, trivial⟩ ?_
 obtain ⟨t44, ht45, hf⟩ := bind_some hf
 refine WL.call (some 35) 11 #[(sv A9 t3.1 c11), (.agg #[(sv (some ⟨g19, 0, none⟩) [(Frac.mk 0 1), (Frac.mk 1 1), (Frac.mk 2 1)] 3), (sv (some ⟨g23, 0, none⟩) [(Frac.mk 0 1)] 1), (sv (some ⟨g27, 0, none⟩) [(Frac.mk 2 1)] 1), (sv (some ⟨g31, 0, none⟩) [2] 1), (sv (some ⟨g35, 0, none⟩) [1] 1)])] (fun fb => by kernel_rfl) (weight_Check_calls _ t3.1 (Weights.mk [(Frac.mk 0 1), (Frac.mk 1 1), (Frac.mk 2 1)] [(Frac.mk 0 1)] [(Frac.mk 2 1)] [2] [1]) A9 c11 (some ⟨g19, 0, none⟩) 3 (some ⟨g23, 0, none⟩) 1 (some ⟨g27, 0, none⟩) 1 (some ⟨g31, 0, none⟩) 1 (some ⟨g35, 0, none⟩) 1 t44 _ (hS43.ow 7).ofO (hS43.ow 5).ofO (hS43.ow 4).ofO (hS43.ow 3).ofO (hS43.ow 2).ofO (hS43.ow 1).ofO (hS43.rd 0) ht45) (fun v w46 hR47 => ?_)
 obtain ⟨rfl, hk_⟩ := hR47
 have hS48 := hS43.keepN hk_
 refine ⟨trivial, ?_⟩
 refine sg 8 [] [1, 3, 5, 6, 7] [(1, (sv A9 t3.1 c11)), (3, (sv A17 t12.1 c18)), (5, (pt g39)), (6, (bv t44.1)), (7, (iv t44.2))] (by kernel_rfl) ?_
 refine WL.done rfl (WX.next (WC.seq (WC.region ?_)))
 refine seg 2 [.v (sv (some ⟨g19, 0, none⟩) [(Frac.mk 0 1), (Frac.mk 1 1), (Frac.mk 2 1)] 3), .v (sv (some ⟨g23, 0, none⟩) [(Frac.mk 0 1)] 1), .v (sv (some ⟨g27, 0, none⟩) [(Frac.mk 2 1)] 1), .v (sv (some ⟨g31, 0, none⟩) [2] 1), .v (sv (some ⟨g35, 0, none⟩) [1] 1)] [3, 5, 6, 7, 39, 40] [(3, (sv A17 t12.1 c18)), (5, (pt g39)), (6, (bv t44.1)), (7, (iv t44.2)), (39, (sv A9 t3.1 c11)), (40, (.agg #[(sv (some ⟨g19, 0, none⟩) [(Frac.mk 0 1), (Frac.mk 1 1), (Frac.mk 2 1)] 3), (sv (some ⟨g23, 0, none⟩) [(Frac.mk 0 1)] 1), (sv (some ⟨g27, 0, none⟩) [(Frac.mk 2 1)] 1), (sv (some ⟨g31, 0, none⟩) [2] 1), (sv (some ⟨g35, 0, none⟩) [1] 1)]))] [.cell ⟨g39, 0, none⟩ (sv (some ⟨g19, 0, none⟩) [(Frac.mk 0 1), (Frac.mk 1 1), (Frac.mk 2 1)] 3), .cell ⟨g39, 1, none⟩ (sv (some ⟨g23, 0, none⟩) [(Frac.mk 0 1)] 1), .cell ⟨g39, 2, none⟩ (sv (some ⟨g27, 0, none⟩) [(Frac.mk 2 1)] 1), .cell ⟨g39, 3, none⟩ (sv (some ⟨g31, 0, none⟩) [2] 1), .cell ⟨g39, 4, none⟩ (sv (some ⟨g35, 0, none⟩) [1] 1)] (fun fb => by kernel_rfl) rfl ⟨hS48.cell 0 rfl 0 rfl, hS48.cell 0 rfl 1 rfl, hS48.cell 0 rfl 2 rfl, hS48.cell 0 rfl 3 rfl, hS48.cell 0 rfl 4 rfl, trivial⟩ ?_
 refine WL.new hS48 41 [] (fun g => (.slice (some ⟨g, 0, none⟩) 3 3)) (.cells #[(iv 0), (iv 0), (iv 0)] 3 (0, 0)) [] (fun fb g => by kernel_rfl) trivial (fun g49 w50 hS51 => ?_)
 refine ⟨trivial, ?_⟩
 have hS52 := hS38.go w50 [rowO 3 encInt (some ⟨g49, 0, none⟩) 3 [0, 0, 0], blk g39 (.cells #[(sv (some ⟨g19, 0, none⟩) [(Frac.mk 0 1), (Frac.mk 1 1), (Frac.mk 2 1)] 3), (sv (some ⟨g23, 0, none⟩) [(Frac.mk 0 1)] 1), (sv (some ⟨g27, 0, none⟩) [(Frac.mk 2 1)] 1), (sv (some ⟨g31, 0, none⟩) [2] 1), (sv (some ⟨g35, 0, none⟩) [1] 1)] 26 (0, 0)), rowO 3 encInt (some ⟨g35, 0, none⟩) 1 [1], rowO 3 encInt (some ⟨g31, 0, none⟩) 1 [2], rowO 33 enc_Frac (some ⟨g27, 0, none⟩) 1 [(Frac.mk 2 1)], rowO 33 enc_Frac (some ⟨g23, 0, none⟩) 1 [(Frac.mk 0 1)], rowO 33 enc_Frac (some ⟨g19, 0, none⟩) 3 [(Frac.mk 0 1), (Frac.mk 1 1), (Frac.mk 2 1)], rowO 44 enc_Tile A17 c18 t12.1, rowO 44 enc_Tile A9 c11 t3.1] (hS51.map1 0 _ (fun h => rowO.ofBlk h rfl (Nat.le_of_ble_eq_true (by kernel_rfl))) (fun _ h => by obtain ⟨_, h1, h2⟩ := h; injection h1 with h1; subst h1; exact h2) [1, 2, 3, 4, 5, 6, 7, 8] (by decide) (by decide))
 obtain ⟨t53, ht54, hf⟩ := bind_some hf
 refine WL.call (some 42) 14 #[(sv A9 t3.1 c11), (.agg #[(sv (some ⟨g19, 0, none⟩) [(Frac.mk 0 1), (Frac.mk 1 1), (Frac.mk 2 1)] 3), (sv (some ⟨g23, 0, none⟩) [(Frac.mk 0 1)] 1), (sv (some ⟨g27, 0, none⟩) [(Frac.mk 2 1)] 1), (sv (some ⟨g31, 0, none⟩) [2] 1), (sv (some ⟨g35, 0, none⟩) [1] 1)]), (sv (some ⟨g49, 0, none⟩) [0, 0, 0] 3)] (fun fb => by kernel_rfl) (weight_Row_calls _ t3.1 (Weights.mk [(Frac.mk 0 1), (Frac.mk 1 1), (Frac.mk 2 1)] [(Frac.mk 0 1)] [(Frac.mk 2 1)] [2] [1]) [0, 0, 0] A9 c11 (some ⟨g19, 0, none⟩) 3 (some ⟨g23, 0, none⟩) 1 (some ⟨g27, 0, none⟩) 1 (some ⟨g31, 0, none⟩) 1 (some ⟨g35, 0, none⟩) 1 (some ⟨g49, 0, none⟩) 3 t53 _ (hS52.ow 8).ofO (hS52.ow 6).ofO (hS52.ow 5).ofO (hS52.ow 4).ofO (hS52.ow 3).ofO (hS52.ow 2).ofO (hS52.ow 0).ofO ht54) (fun v w55 hR56 => ?_)
 obtain ⟨rfl, hk_⟩ := hR56
 have hS57 := hS52.keepN hk_
 refine ⟨trivial, ?_⟩
 refine sg 8 [] [3, 5, 6, 7, 43, 44, 45] [(3, (sv A17 t12.1 c18)), (5, (pt g39)), (6, (bv t44.1)), (7, (iv t44.2)), (43, (.agg #[(iv t53.1.Num), (iv t53.1.Den)])), (44, (.agg #[(iv t53.2.1.Num), (iv t53.2.1.Den)])), (45, (iv t53.2.2))] (by kernel_rfl) ?_
 refine WL.new hS57 8 [] (fun g => (pt g)) (.cells #[(iv 0), (iv 0)] 33 (0, 0)) [] (fun fb g => by kernel_rfl) trivial (fun g58 w59 hS60 => ?_)
 refine ⟨trivial, ?_⟩
 refine WL.new hS60 9 [] (fun g => (pt g)) (.cells #[(iv 0), (iv 0)] 33 (0, 0)) [] (fun fb g => by kernel_rfl) trivial (fun g61 w62 hS63 => ?_)
 refine ⟨trivial, ?_⟩
 refine WL.store hS63 1 rfl [(0, (iv t53.1.Num)), (1, (iv t53.1.Den))] #[(iv t53.1.Num), (iv t53.1.Den)] (fun fb => by kernel_rfl) (by kernel_rfl) rfl [0, 2, 3, 4, 5, 6, 7, 8, 9, 10] (by decide) (by decide) (fun w65 hS66 => ?_)
 refine ⟨trivial, ?_⟩
 refine WL.store hS66 1 rfl [(0, (iv t53.2.1.Num)), (1, (iv t53.2.1.Den))] #[(iv t53.2.1.Num), (iv t53.2.1.Den)] (fun fb => by kernel_rfl) (by kernel_rfl) rfl [0, 2, 3, 4, 5, 6, 7, 8, 9, 10] (by decide) (by decide) (fun w67 hS68 => ?_)
 refine ⟨trivial, ?_⟩
 refine sg 13 [] [3, 5, 6, 7, 8, 9, 10] [(3, (sv A17 t12.1 c18)), (5, (pt g39)), (6, (bv t44.1)), (7, (iv t44.2)), (8, (pt g58)), (9, (pt g61)), (10, (iv t53.2.2))] (by kernel_rfl) ?_
 refine WL.done rfl (WX.next (WC.seq (WC.region ?_)))
 refine seg 2 [.v (sv (some ⟨g19, 0, none⟩) [(Frac.mk 0 1), (Frac.mk 1 1), (Frac.mk 2 1)] 3)] [3, 5, 6, 7, 8, 9, 10, 47] [(3, (sv A17 t12.1 c18)), (5, (pt g39)), (6, (bv t44.1)), (7, (iv t44.2)), (8, (pt g58)), (9, (pt g61)), (10, (iv t53.2.2)), (47, (sv (some ⟨g19, 0, none⟩) [(Frac.mk 0 1), (Frac.mk 1 1), (Frac.mk 2 1)] 3))] [.cell ⟨g39, 0, none⟩ (sv (some ⟨g19, 0, none⟩) [(Frac.mk 0 1), (Frac.mk 1 1), (Frac.mk 2 1)] 3)] (fun fb => by kernel_rfl) rfl ⟨hS68.cell 3 rfl 0 rfl, trivial⟩ ?_
 obtain ⟨h69, hf⟩ := as_some hf
 refine seg 3 [] [3, 5, 6, 7, 8, 9, 10, 48] [(3, (sv A17 t12.1 c18)), (5, (pt g39)), (6, (bv t44.1)), (7, (iv t44.2)), (8, (pt g58)), (9, (pt g61)), (10, (iv t53.2.2)), (48, (.slice (subA (some ⟨g19, 0, none⟩) 3 (0 : Int).toNat 2) ((2 : Int).toNat - (0 : Int).toNat) (3 - (0 : Int).toNat)))] [.idx (some ⟨0, 0, none⟩) (0 : Int) ((2 : Int).toNat + 1), .idx (some ⟨0, 0, none⟩) (2 : Int) (3 + 1)] (fun fb => by kernel_rfl) rfl ⟨cut1 h69.1 h69.2.1, cut2 h69.1 h69.2.1 h69.2.2 (rowO.rd (hS68.own 8).1).2, trivial⟩ ?_
 refine WL.reE [3, 5, 6, 7, 8, 9, 10, 48] [(3, (.slice A17 t12.1.length c18)), (5, (pt g39)), (6, (.bool t44.1)), (7, (iv t44.2)), (8, (pt g58)), (9, (pt g61)), (10, (iv t53.2.2)), (48, (.slice (subA (some ⟨g19, 0, none⟩) 3 (0 : Int).toNat 2) ((2 : Int).toNat - (0 : Int).toNat) (3 - (0 : Int).toNat)))] [(3, (.slice A17 t12.1.length c18)), (5, (pt g39)), (6, (.bool t44.1)), (7, (iv t44.2)), (8, (pt g58)), (9, (pt g61)), (10, (iv t53.2.2)), (48, (.slice (subA (some ⟨g19, 0, none⟩) 3 (0 : Int).toNat 2) (cut [(Frac.mk 0 1), (Frac.mk 1 1), (Frac.mk 2 1)] (0 : Int) (2 : Int)).length (3 - (0 : Int).toNat)))] rfl (by rw [cut_length h69.1 h69.2.1 h69.2.2]) ?_
 refine sg 4 [] [3, 5, 6, 7, 8, 9, 10, 48, 49] [(3, (sv A17 t12.1 c18)), (5, (pt g39)), (6, (bv t44.1)), (7, (iv t44.2)), (8, (pt g58)), (9, (pt g61)), (10, (iv t53.2.2)), (48, (sv (subA (some ⟨g19, 0, none⟩) 3 (0 : Int).toNat 2) (cut [(Frac.mk 0 1), (Frac.mk 1 1), (Frac.mk 2 1)] (0 : Int) (2 : Int)) (3 - (0 : Int).toNat))), (49, (pt g39))] (by kernel_rfl) ?_
 refine WL.store hS68 3 rfl [(0, (sv (subA (some ⟨g19, 0, none⟩) 3 (0 : Int).toNat 2) (cut [(Frac.mk 0 1), (Frac.mk 1 1), (Frac.mk 2 1)] (0 : Int) (2 : Int)) (3 - (0 : Int).toNat)))] #[(sv (subA (some ⟨g19, 0, none⟩) 3 (0 : Int).toNat 2) (cut [(Frac.mk 0 1), (Frac.mk 1 1), (Frac.mk 2 1)] (0 : Int) (2 : Int)) (3 - (0 : Int).toNat)), (sv (some ⟨g23, 0, none⟩) [(Frac.mk 0 1)] 1), (sv (some ⟨g27, 0, none⟩) [(Frac.mk 2 1)] 1), (sv (some ⟨g31, 0, none⟩) [2] 1), (sv (some ⟨g35, 0, none⟩) [1] 1)] (fun fb => by kernel_rfl) (by kernel_rfl) rfl [0, 1, 2, 4, 5, 6, 7, 8, 9, 10] (by decide) (by decide) (fun w70 hS71 => ?_)
 refine ⟨trivial, ?_⟩
 refine WL.done rfl (WX.next (WC.seq (WC.region ?_)))
 refine seg 2 [.v (sv (subA (some ⟨g19, 0, none⟩) 3 (0 : Int).toNat 2) (cut [(Frac.mk 0 1), (Frac.mk 1 1), (Frac.mk 2 1)] (0 : Int) (2 : Int)) (3 - (0 : Int).toNat)), .v (sv (some ⟨g23, 0, none⟩) [(Frac.mk 0 1)] 1), .v (sv (some ⟨g27, 0, none⟩) [(Frac.mk 2 1)] 1), .v (sv (some ⟨g31, 0, none⟩) [2] 1), .v (sv (some ⟨g35, 0, none⟩) [1] 1)] [3, 5, 6, 7, 8, 9, 10, 51, 52] [(3, (sv A17 t12.1 c18)), (5, (pt g39)), (6, (bv t44.1)), (7, (iv t44.2)), (8, (pt g58)), (9, (pt g61)), (10, (iv t53.2.2)), (51, (sv A17 t12.1 c18)), (52, (.agg #[(sv (subA (some ⟨g19, 0, none⟩) 3 (0 : Int).toNat 2) (cut [(Frac.mk 0 1), (Frac.mk 1 1), (Frac.mk 2 1)] (0 : Int) (2 : Int)) (3 - (0 : Int).toNat)), (sv (some ⟨g23, 0, none⟩) [(Frac.mk 0 1)] 1), (sv (some ⟨g27, 0, none⟩) [(Frac.mk 2 1)] 1), (sv (some ⟨g31, 0, none⟩) [2] 1), (sv (some ⟨g35, 0, none⟩) [1] 1)]))] [.cell ⟨g39, 0, none⟩ (sv (subA (some ⟨g19, 0, none⟩) 3 (0 : Int).toNat 2) (cut [(Frac.mk 0 1), (Frac.mk 1 1), (Frac.mk 2 1)] (0 : Int) (2 : Int)) (3 - (0 : Int).toNat)), .cell ⟨g39, 1, none⟩ (sv (some ⟨g23, 0, none⟩) [(Frac.mk 0 1)] 1), .cell ⟨g39, 2, none⟩ (sv (some ⟨g27, 0, none⟩) [(Frac.mk 2 1)] 1), .cell ⟨g39, 3, none⟩ (sv (some ⟨g31, 0, none⟩) [2] 1), .cell ⟨g39, 4, none⟩ (sv (some ⟨g35, 0, none⟩) [1] 1)] (fun fb => by kernel_rfl) rfl ⟨hS71.cell 0 rfl 0 rfl, hS71.cell 0 rfl 1 rfl, hS71.cell 0 rfl 2 rfl, hS71.cell 0 rfl 3 rfl, hS71.cell 0 rfl 4 rfl, trivial⟩ ?_
 obtain ⟨t72, ht73, hf⟩ := bind_some hf
 refine WL.call (some 53) 11 #[(sv A17 t12.1 c18), (.agg #[(sv (subA (some ⟨g19, 0, none⟩) 3 (0 : Int).toNat 2) (cut [(Frac.mk 0 1), (Frac.mk 1 1), (Frac.mk 2 1)] (0 : Int) (2 : Int)) (3 - (0 : Int).toNat)), (sv (some ⟨g23, 0, none⟩) [(Frac.mk 0 1)] 1), (sv (some ⟨g27, 0, none⟩) [(Frac.mk 2 1)] 1), (sv (some ⟨g31, 0, none⟩) [2] 1), (sv (some ⟨g35, 0, none⟩) [1] 1)])] (fun fb => by kernel_rfl) (weight_Check_calls _ t12.1 (Weights.mk (cut [(Frac.mk 0 1), (Frac.mk 1 1), (Frac.mk 2 1)] (0 : Int) (2 : Int)) [(Frac.mk 0 1)] [(Frac.mk 2 1)] [2] [1]) A17 c18 (subA (some ⟨g19, 0, none⟩) 3 (0 : Int).toNat 2) (3 - (0 : Int).toNat) (some ⟨g23, 0, none⟩) 1 (some ⟨g27, 0, none⟩) 1 (some ⟨g31, 0, none⟩) 1 (some ⟨g35, 0, none⟩) 1 t72 _ (hS71.ow 9).ofO (cutR (((hS71.ow 8)).ofO) h69.1 h69.2.1 h69.2.2) (hS71.ow 7).ofO (hS71.ow 6).ofO (hS71.ow 5).ofO (hS71.ow 4).ofO (hS71.rd 0) ht73) (fun v w74 hR75 => ?_)
 obtain ⟨rfl, hk_⟩ := hR75
 have hS76 := hS71.keepN hk_
 refine ⟨trivial, ?_⟩
 refine sg 8 [] [3, 5, 6, 7, 8, 9, 10, 11, 12] [(3, (sv A17 t12.1 c18)), (5, (pt g39)), (6, (bv t44.1)), (7, (iv t44.2)), (8, (pt g58)), (9, (pt g61)), (10, (iv t53.2.2)), (11, (bv t72.1)), (12, (iv t72.2))] (by kernel_rfl) ?_
 refine WL.done rfl (WX.next (WC.seq (WC.region ?_)))
 refine sg 3 [] [3, 5, 6, 8, 9, 10, 11, 12, 58] [(3, (sv A17 t12.1 c18)), (5, (pt g39)), (6, (bv t44.1)), (8, (pt g58)), (9, (pt g61)), (10, (iv t53.2.2)), (11, (bv t72.1)), (12, (iv t72.2)), (58, (bv (t44.2 == 0)))] (by kernel_rfl) ?_
 refine WL.cutV (T := Bool) 6 (fun t => [(61, (bv t)), (3, (sv A17 t12.1 c18)), (5, (pt g39)), (6, (bv t44.1)), (8, (pt g58)), (9, (pt g61)), (11, (bv t72.1)), (12, (iv t72.2))]) (fun t => ((t44.2 == 0) && (t53.2.2 == 0)) = t) (fun K => ?_) ?_
 ·
  rcases Bool.eq_false_or_eq_true (t44.2 == 0) with h77 | h77
  ·
   refine WL.setB 58 h77 rfl ?_
   refine sg 6 [] [3, 5, 6, 8, 9, 11, 12, 61] [(3, (sv A17 t12.1 c18)), (5, (pt g39)), (6, (bv t44.1)), (8, (pt g58)), (9, (pt g61)), (11, (bv t72.1)), (12, (iv t72.2)), (61, (bv (t53.2.2 == 0)))] (by kernel_rfl) ?_
   exact WL.toV K (t53.2.2 == 0) [61, 3, 5, 6, 8, 9, 11, 12] rfl (by first | (rw [h77]; done) | (rw [h77]; rfl))
  refine WL.setB 58 h77 rfl ?_
  refine sg 6 [] [3, 5, 6, 8, 9, 11, 12, 61] [(3, (sv A17 t12.1 c18)), (5, (pt g39)), (6, (bv t44.1)), (8, (pt g58)), (9, (pt g61)), (11, (bv t72.1)), (12, (iv t72.2)), (61, (bv false))] (by kernel_rfl) ?_
  exact WL.toV K false [61, 3, 5, 6, 8, 9, 11, 12] rfl (by first | (rw [h77]; done) | (rw [h77]; rfl))
 rintro b78 rfl
 refine sg 7 [] [3, 5, 6, 8, 9, 11, 12, 62] [(3, (sv A17 t12.1 c18)), (5, (pt g39)), (6, (bv t44.1)), (8, (pt g58)), (9, (pt g61)), (11, (bv t72.1)), (12, (iv t72.2)), (62, (bv ((t44.2 == 0) && (t53.2.2 == 0))))] (by kernel_rfl) ?_
 refine WL.cutV (T := Bool) 10 (fun t => [(65, (bv t)), (3, (sv A17 t12.1 c18)), (5, (pt g39)), (6, (bv t44.1)), (8, (pt g58)), (9, (pt g61)), (11, (bv t72.1))]) (fun t => (((t44.2 == 0) && (t53.2.2 == 0)) && (t72.2 == 0)) = t) (fun K => ?_) ?_
 ·
  rcases Bool.eq_false_or_eq_true ((t44.2 == 0) && (t53.2.2 == 0)) with h79 | h79
  ·
   refine WL.setB 62 h79 rfl ?_
   refine sg 10 [] [3, 5, 6, 8, 9, 11, 65] [(3, (sv A17 t12.1 c18)), (5, (pt g39)), (6, (bv t44.1)), (8, (pt g58)), (9, (pt g61)), (11, (bv t72.1)), (65, (bv (t72.2 == 0)))] (by kernel_rfl) ?_
   exact WL.toV K (t72.2 == 0) [65, 3, 5, 6, 8, 9, 11] rfl (by first | (rw [h79]; done) | (rw [h79]; rfl))
  refine WL.setB 62 h79 rfl ?_
  refine sg 10 [] [3, 5, 6, 8, 9, 11, 65] [(3, (sv A17 t12.1 c18)), (5, (pt g39)), (6, (bv t44.1)), (8, (pt g58)), (9, (pt g61)), (11, (bv t72.1)), (65, (bv false))] (by kernel_rfl) ?_
  exact WL.toV K false [65, 3, 5, 6, 8, 9, 11] rfl (by first | (rw [h79]; done) | (rw [h79]; rfl))
 rintro b80 rfl
 refine sg 11 [] [3, 5, 6, 8, 9, 11, 66] [(3, (sv A17 t12.1 c18)), (5, (pt g39)), (6, (bv t44.1)), (8, (pt g58)), (9, (pt g61)), (11, (bv t72.1)), (66, (bv (((t44.2 == 0) && (t53.2.2 == 0)) && (t72.2 == 0))))] (by kernel_rfl) ?_
 refine WL.cutV (T := Bool) 13 (fun t => [(68, (bv t)), (3, (sv A17 t12.1 c18)), (5, (pt g39)), (8, (pt g58)), (9, (pt g61)), (11, (bv t72.1))]) (fun t => ((((t44.2 == 0) && (t53.2.2 == 0)) && (t72.2 == 0)) && t44.1) = t) (fun K => ?_) ?_
 ·
  rcases Bool.eq_false_or_eq_true (((t44.2 == 0) && (t53.2.2 == 0)) && (t72.2 == 0)) with h81 | h81
  ·
   refine WL.setB 66 h81 rfl ?_
   refine sg 13 [] [3, 5, 8, 9, 11, 68] [(3, (sv A17 t12.1 c18)), (5, (pt g39)), (8, (pt g58)), (9, (pt g61)), (11, (bv t72.1)), (68, (bv t44.1))] (by kernel_rfl) ?_
   exact WL.toV K t44.1 [68, 3, 5, 8, 9, 11] rfl (by first | (rw [h81]; done) | (rw [h81]; rfl))
  refine WL.setB 66 h81 rfl ?_
  refine sg 13 [] [3, 5, 8, 9, 11, 68] [(3, (sv A17 t12.1 c18)), (5, (pt g39)), (8, (pt g58)), (9, (pt g61)), (11, (bv t72.1)), (68, (bv false))] (by kernel_rfl) ?_
  exact WL.toV K false [68, 3, 5, 8, 9, 11] rfl (by first | (rw [h81]; done) | (rw [h81]; rfl))
 rintro b82 rfl
 refine sg 14 [] [3, 5, 8, 9, 11, 69] [(3, (sv A17 t12.1 c18)), (5, (pt g39)), (8, (pt g58)), (9, (pt g61)), (11, (bv t72.1)), (69, (bv ((((t44.2 == 0) && (t53.2.2 == 0)) && (t72.2 == 0)) && t44.1)))] (by kernel_rfl) ?_
 refine WL.cutV (T := Bool) 17 (fun t => [(72, (bv t)), (3, (sv A17 t12.1 c18)), (5, (pt g39)), (8, (pt g58)), (9, (pt g61))]) (fun t => (((((t44.2 == 0) && (t53.2.2 == 0)) && (t72.2 == 0)) && t44.1) && (!t72.1)) = t) (fun K => ?_) ?_
 ·
  rcases Bool.eq_false_or_eq_true ((((t44.2 == 0) && (t53.2.2 == 0)) && (t72.2 == 0)) && t44.1) with h83 | h83
  ·
   refine WL.setB 69 h83 rfl ?_
   refine sg 17 [] [3, 5, 8, 9, 72] [(3, (sv A17 t12.1 c18)), (5, (pt g39)), (8, (pt g58)), (9, (pt g61)), (72, (bv (!t72.1)))] (by kernel_rfl) ?_
   exact WL.toV K (!t72.1) [72, 3, 5, 8, 9] rfl (by first | (rw [h83]; done) | (rw [h83]; rfl))
  refine WL.setB 69 h83 rfl ?_
  refine sg 17 [] [3, 5, 8, 9, 72] [(3, (sv A17 t12.1 c18)), (5, (pt g39)), (8, (pt g58)), (9, (pt g61)), (72, (bv false))] (by kernel_rfl) ?_
  exact WL.toV K false [72, 3, 5, 8, 9] rfl (by first | (rw [h83]; done) | (rw [h83]; rfl))
 rintro b84 rfl
 refine sg 18 [] [3, 5, 8, 9, 73] [(3, (sv A17 t12.1 c18)), (5, (pt g39)), (8, (pt g58)), (9, (pt g61)), (73, (bv (((((t44.2 == 0) && (t53.2.2 == 0)) && (t72.2 == 0)) && t44.1) && (!t72.1))))] (by kernel_rfl) ?_
 refine WL.cutV (T := Bool) 22 (fun t => [(77, (bv t)), (3, (sv A17 t12.1 c18)), (5, (pt g39)), (9, (pt g61))]) (fun t => ((((((t44.2 == 0) && (t53.2.2 == 0)) && (t72.2 == 0)) && t44.1) && (!t72.1)) && (t53.1.Num == 3 && (t53.1.Den == 1))) = t) (fun K => ?_) ?_
 ·
  rcases Bool.eq_false_or_eq_true (((((t44.2 == 0) && (t53.2.2 == 0)) && (t72.2 == 0)) && t44.1) && (!t72.1)) with h85 | h85
  ·
   refine WL.setB 73 h85 rfl ?_
   refine seg 22 [.v (iv t53.1.Num), .v (iv t53.1.Den)] [3, 5, 9, 77] [(3, (sv A17 t12.1 c18)), (5, (pt g39)), (9, (pt g61)), (77, (bv (t53.1.Num == 3 && (t53.1.Den == 1))))] [.cell ⟨g58, 0, none⟩ (iv t53.1.Num), .cell ⟨g58, 1, none⟩ (iv t53.1.Den)] (fun fb => by kernel_rfl) rfl ⟨hS76.cell 2 rfl 0 rfl, hS76.cell 2 rfl 1 rfl, trivial⟩ ?_
   exact WL.toV K (t53.1.Num == 3 && (t53.1.Den == 1)) [77, 3, 5, 9] rfl (by first | (rw [h85]; done) | (rw [h85]; rfl))
  refine WL.setB 73 h85 rfl ?_
  refine sg 22 [] [3, 5, 9, 77] [(3, (sv A17 t12.1 c18)), (5, (pt g39)), (9, (pt g61)), (77, (bv false))] (by kernel_rfl) ?_
  exact WL.toV K false [77, 3, 5, 9] rfl (by first | (rw [h85]; done) | (rw [h85]; rfl))
 rintro b86 rfl
 refine sg 23 [] [3, 5, 9, 78] [(3, (sv A17 t12.1 c18)), (5, (pt g39)), (9, (pt g61)), (78, (bv ((((((t44.2 == 0) && (t53.2.2 == 0)) && (t72.2 == 0)) && t44.1) && (!t72.1)) && (t53.1.Num == 3 && (t53.1.Den == 1)))))] (by kernel_rfl) ?_
 refine WL.cutV (T := Bool) 27 (fun t => [(82, (bv t)), (3, (sv A17 t12.1 c18)), (5, (pt g39))]) (fun t => (((((((t44.2 == 0) && (t53.2.2 == 0)) && (t72.2 == 0)) && t44.1) && (!t72.1)) && (t53.1.Num == 3 && (t53.1.Den == 1))) && (t53.2.1.Num == 6 && (t53.2.1.Den == 1))) = t) (fun K => ?_) ?_
 ·
  rcases Bool.eq_false_or_eq_true ((((((t44.2 == 0) && (t53.2.2 == 0)) && (t72.2 == 0)) && t44.1) && (!t72.1)) && (t53.1.Num == 3 && (t53.1.Den == 1))) with h87 | h87
  ·
   refine WL.setB 78 h87 rfl ?_
   refine seg 27 [.v (iv t53.2.1.Num), .v (iv t53.2.1.Den)] [3, 5, 82] [(3, (sv A17 t12.1 c18)), (5, (pt g39)), (82, (bv (t53.2.1.Num == 6 && (t53.2.1.Den == 1))))] [.cell ⟨g61, 0, none⟩ (iv t53.2.1.Num), .cell ⟨g61, 1, none⟩ (iv t53.2.1.Den)] (fun fb => by kernel_rfl) rfl ⟨hS76.cell 1 rfl 0 rfl, hS76.cell 1 rfl 1 rfl, trivial⟩ ?_
   exact WL.toV K (t53.2.1.Num == 6 && (t53.2.1.Den == 1)) [82, 3, 5] rfl (by first | (rw [h87]; done) | (rw [h87]; rfl))
  refine WL.setB 78 h87 rfl ?_
  refine sg 27 [] [3, 5, 82] [(3, (sv A17 t12.1 c18)), (5, (pt g39)), (82, (bv false))] (by kernel_rfl) ?_
  exact WL.toV K false [82, 3, 5] rfl (by first | (rw [h87]; done) | (rw [h87]; rfl))
 rintro b88 rfl
 refine sg 28 [] [3, 5, 83] [(3, (sv A17 t12.1 c18)), (5, (pt g39)), (83, (bv (((((((t44.2 == 0) && (t53.2.2 == 0)) && (t72.2 == 0)) && t44.1) && (!t72.1)) && (t53.1.Num == 3 && (t53.1.Den == 1))) && (t53.2.1.Num == 6 && (t53.2.1.Den == 1)))))] (by kernel_rfl) ?_
 obtain ⟨x89, hx90, hf⟩ := bind_some hf
 refine WL.cutW (T := Bool) 32 (fun t => [(87, (bv t))]) (fun t w1 => (St NoS w w1 [tabO 0 md0, gloO Tryz.prog 5 8 3 4 mG] [] ∧ x89 = t) ∧ CellsOK [] w1) (fun K => ?_) ?_
 ·
  rcases br_some hx90 with ⟨h91, hx90⟩ | ⟨h91, hx90⟩
  ·
   refine WL.setB 83 h91 rfl ?_
   refine seg 30 [.v (sv (subA (some ⟨g19, 0, none⟩) 3 (0 : Int).toNat 2) (cut [(Frac.mk 0 1), (Frac.mk 1 1), (Frac.mk 2 1)] (0 : Int) (2 : Int)) (3 - (0 : Int).toNat)), .v (sv (some ⟨g23, 0, none⟩) [(Frac.mk 0 1)] 1), .v (sv (some ⟨g27, 0, none⟩) [(Frac.mk 2 1)] 1), .v (sv (some ⟨g31, 0, none⟩) [2] 1), .v (sv (some ⟨g35, 0, none⟩) [1] 1)] [83, 84, 85] [(83, (bv true)), (84, (sv A17 t12.1 c18)), (85, (.agg #[(sv (subA (some ⟨g19, 0, none⟩) 3 (0 : Int).toNat 2) (cut [(Frac.mk 0 1), (Frac.mk 1 1), (Frac.mk 2 1)] (0 : Int) (2 : Int)) (3 - (0 : Int).toNat)), (sv (some ⟨g23, 0, none⟩) [(Frac.mk 0 1)] 1), (sv (some ⟨g27, 0, none⟩) [(Frac.mk 2 1)] 1), (sv (some ⟨g31, 0, none⟩) [2] 1), (sv (some ⟨g35, 0, none⟩) [1] 1)]))] [.cell ⟨g39, 0, none⟩ (sv (subA (some ⟨g19, 0, none⟩) 3 (0 : Int).toNat 2) (cut [(Frac.mk 0 1), (Frac.mk 1 1), (Frac.mk 2 1)] (0 : Int) (2 : Int)) (3 - (0 : Int).toNat)), .cell ⟨g39, 1, none⟩ (sv (some ⟨g23, 0, none⟩) [(Frac.mk 0 1)] 1), .cell ⟨g39, 2, none⟩ (sv (some ⟨g27, 0, none⟩) [(Frac.mk 2 1)] 1), .cell ⟨g39, 3, none⟩ (sv (some ⟨g31, 0, none⟩) [2] 1), .cell ⟨g39, 4, none⟩ (sv (some ⟨g35, 0, none⟩) [1] 1)] (fun fb => by kernel_rfl) rfl ⟨hS76.cell 0 rfl 0 rfl, hS76.cell 0 rfl 1 rfl, hS76.cell 0 rfl 2 rfl, hS76.cell 0 rfl 3 rfl, hS76.cell 0 rfl 4 rfl, trivial⟩ ?_
   obtain ⟨t92, ht93, hx90⟩ := bind_some hx90
   refine WL.call (some 86) 12 #[(sv A17 t12.1 c18), (.agg #[(sv (subA (some ⟨g19, 0, none⟩) 3 (0 : Int).toNat 2) (cut [(Frac.mk 0 1), (Frac.mk 1 1), (Frac.mk 2 1)] (0 : Int) (2 : Int)) (3 - (0 : Int).toNat)), (sv (some ⟨g23, 0, none⟩) [(Frac.mk 0 1)] 1), (sv (some ⟨g27, 0, none⟩) [(Frac.mk 2 1)] 1), (sv (some ⟨g31, 0, none⟩) [2] 1), (sv (some ⟨g35, 0, none⟩) [1] 1)])] (fun fb => by kernel_rfl) (weight_Valid_calls _ t12.1 (Weights.mk (cut [(Frac.mk 0 1), (Frac.mk 1 1), (Frac.mk 2 1)] (0 : Int) (2 : Int)) [(Frac.mk 0 1)] [(Frac.mk 2 1)] [2] [1]) A17 c18 (subA (some ⟨g19, 0, none⟩) 3 (0 : Int).toNat 2) (3 - (0 : Int).toNat) (some ⟨g23, 0, none⟩) 1 (some ⟨g27, 0, none⟩) 1 (some ⟨g31, 0, none⟩) 1 (some ⟨g35, 0, none⟩) 1 t92 _ (hS76.ow 9).ofO (cutR (((hS76.ow 8)).ofO) h69.1 h69.2.1 h69.2.2) (hS76.ow 7).ofO (hS76.ow 6).ofO (hS76.ow 5).ofO (hS76.ow 4).ofO ht93) (fun v w94 hR95 => ?_)
   obtain ⟨rfl, hk_⟩ := hR95
   have hS96 := hS76.keepN hk_
   refine ⟨trivial, ?_⟩
   refine sg 32 [] [87] [(87, (bv t92))] (by kernel_rfl) ?_
   injection hx90 with hx90
   exact WL.to K t92 [87] rfl ⟨⟨(hS96.subR [0, 1]).sub [] (by decide), hx90.symm⟩, trivial⟩
  refine WL.setB 83 h91 rfl ?_
  refine sg 32 [] [87] [(87, (bv false))] (by kernel_rfl) ?_
  injection hx90 with hx90
  exact WL.to K false [87] rfl ⟨⟨(hS76.subR [0, 1]).sub [] (by decide), hx90.symm⟩, trivial⟩
 rintro y97 w99 ⟨⟨hS100, hq98⟩, hF101⟩
 subst hq98
 refine sg 33 [] [0] [(0, (bv x89))] (by kernel_rfl) ?_
 refine WL.done rfl (WX.next ?_)
 refine WC.ret ?_
 injection hf with hf
 subst hf
 exact WX.ret_ [] (bv x89) [] (fun fb => by kernel_rfl) trivial ⟨_, rfl, rfl, hS100.keep⟩
theorem ref06_product_calls (k : Nat) (p0 : List Int) (p1 : List Int) (p2 : Bool) (Aa : Option Addr) (ca : Nat) (Ab : Option Addr) (cb : Nat) (r : (List Int)) (w : World) (hR0 : RO NoS w (rowR encInt Aa ca p0)) (hR1 : RO NoS w (rowR encInt Ab cb p1)) (hf : ref06_product k p0 p1 p2 = some r) :
  CallsR Tryz.prog 71 #[(sv Aa p0 ca), (sv Ab p1 cb), (bv p2)] w (fun v w' => ∃ (A1_ : Option Addr), ∃ (c1_ : Nat), v = (sv A1_ r c1_) ∧ St NoS w w' [] [rowO 3 encInt A1_ c1_ r]) := by
 have hS : St NoS w w [rowR encInt Aa ca p0, rowR encInt Ab cb p1] [] := St.init (ro_cons hR0 (ro_cons hR1 (ro_nil _ _)))
 refine enter 78 Tryz.func71 rfl Tryz.ntmps71 rfl ?_
 unfold ref06_product at hf
 refine WC.seq (WC.region ?_)
 refine sg 1 [] [0, 1, 2] [(0, (sv Aa p0 ca)), (1, (sv Ab p1 cb)), (2, (bv p2))] (by kernel_rfl) ?_
 refine WL.done rfl (WX.next (WC.seq (WC.region ?_)))
 refine WL.new hS 13 [] (fun g => (.slice (some ⟨g, 0, none⟩) 1 1)) (.cells #[(iv 1)] 3 (0, 0)) [] (fun fb g => by kernel_rfl) trivial (fun g3 w4 hS5 => ?_)
 refine ⟨trivial, ?_⟩
 have hS7 := hS.go w4 [rowO 3 encInt (some ⟨g3, 0, none⟩) 1 [1]] (hS5.map1 0 _ (fun h => rowO.ofBlk h rfl (Nat.le_of_ble_eq_true (by kernel_rfl))) (fun _ h => by obtain ⟨_, h1, h2⟩ := h; injection h1 with h1; subst h1; exact h2) [] (by decide) (by decide))
 refine sg 2 [] [0, 1, 2, 7] [(0, (sv Aa p0 ca)), (1, (sv Ab p1 cb)), (2, (bv p2)), (7, (sv (some ⟨g3, 0, none⟩) [1] 1))] (by kernel_rfl) ?_
 refine WL.done rfl (WX.next (WC.seq (WC.seq (WC.region ?_))))
 refine sg 1 [] [0, 1, 7, 14] [(0, (sv Aa p0 ca)), (1, (sv Ab p1 cb)), (7, (sv (some ⟨g3, 0, none⟩) [1] 1)), (14, (bv p2))] (by kernel_rfl) ?_
 refine WL.done rfl (WX.next ?_)
 obtain ⟨x10, hx11, hf⟩ := bind_some hf
 let e11 := sv (some ⟨g3, 0, none⟩) [1] 1
 refine WC.cutN (T := (List Int) × (Option Addr) × Nat) (fun t => [(0, (sv Aa p0 ca)), (1, (sv Ab p1 cb)), (7, (sv t.2.1 t.1 t.2.2))]) (fun t w1 => St NoS w w1 [rowR encInt Aa ca p0, rowR encInt Ab cb p1] [rowO 3 encInt t.2.1 t.2.2 t.1] ∧ x10 = t.1) (fun Kx10 => ?_) ?_
 ·
  rcases br_some hx11 with ⟨h12, hx11⟩ | ⟨h12, hx11⟩
  ·refine WC.condT2 (fun fb => by kernel_rfl) h12 ?_
   refine WC.region ?_
   refine sg 1 [] [0, 1, 7, 15] [(0, (sv Aa p0 ca)), (1, (sv Ab p1 cb)), (7, e11), (15, e11)] (by kernel_rfl) ?_
   obtain ⟨h13, hx11⟩ := as_some hx11
   refine seg 2 [] [0, 1, 7, 16] [(0, (sv Aa p0 ca)), (1, (sv Ab p1 cb)), (7, e11), (16, (.pointer (some ((adr (some ⟨g3, 0, none⟩)).add (((0 : Int)).toNat * 1)))))] [.idx (some ⟨g3, 0, none⟩) (0 : Int) [1].length] (fun fb => by kernel_rfl) rfl ⟨rowR.adr (rowO.rd (hS7.own 0).1) h13.1 h13.2, trivial⟩ ?_
   refine WL.storeRow hS7 0 rfl ((0 : Int)) ((-1)) (0) [(0, (iv (-1)))] (fun fb => by kernel_rfl) h13.1 h13.2 (by kernel_rfl) rfl [] (by decide) (by decide) (fun w14 hS15 => ?_)
   refine ⟨trivial, ?_⟩
   refine WL.reE [0, 1, 7] [(0, (.slice Aa p0.length ca)), (1, (.slice Ab p1.length cb)), (7, (.slice (some ⟨g3, 0, none⟩) [1].length 1))] [(0, (.slice Aa p0.length ca)), (1, (.slice Ab p1.length cb)), (7, (.slice (some ⟨g3, 0, none⟩) ([1].set ((0 : Int)).toNat (-1)).length 1))] rfl (by simp only [List.length_set] <;> rfl) ?_
   refine WL.done rfl ?_
   injection hx11 with hx11
   exact WX.to Kx10 ([1].set ((0 : Int)).toNat (-1), (some ⟨g3, 0, none⟩), 1) [0, 1, 7] rfl ⟨(hS15.subR [0, 1]).sub [0] (by decide), hx11.symm⟩
  refine WC.condF2 (fun fb => by kernel_rfl) h12 ?_
  refine WC.skip ?_
  injection hx11 with hx11
  exact WX.to Kx10 ([1], (some ⟨g3, 0, none⟩), 1) [0, 1, 7] rfl ⟨(hS7.subR [0, 1]).sub [0] (by decide), hx11.symm⟩
 rintro ⟨y19, A8, c9⟩ w16 ⟨hS17, hq18⟩
 subst hq18
 refine WX.next (WC.seq (WC.seq (WC.region ?_)))
 refine sg 1 [] [0, 1, 7, 8] [(0, (sv Aa p0 ca)), (1, (sv Ab p1 cb)), (7, (sv A8 x10 c9)), (8, (iv 0))] (by kernel_rfl) ?_
 refine WL.done rfl (WX.next ?_)
 obtain ⟨x26, hx27, hf⟩ := bind_some hf
 let e2 : Nat × Value := (0, (sv Aa p0 ca))
 let e3 : Nat × Value := (1, (sv Ab p1 cb))
 let e5 : List Own := [rowR encInt Aa ca p0, rowR encInt Ab cb p1]
 let e10 : List Nat := [0, 1, 7, 8, 9, 10]
 refine WC.cutN (T := (List Int) × (Option Addr) × Nat) (fun t => [e2, (7, (sv t.2.1 t.1 t.2.2))]) (fun t w1 => St NoS w w1 e5 [rowO 3 encInt t.2.1 t.2.2 t.1] ∧ x26 = t.1) (fun Kx26 => ?_) ?_
 ·
  refine WC.block ?_
  refine WC.loop (T := ((List Int) × Int) × (Option Addr) × Nat) (fun t => [e2, e3, (7, (sv t.2.1 t.1.1 t.2.2)), (8, (iv t.1.2))]) (fun n t w1 => St NoS w w1 e5 [rowO 3 encInt t.2.1 t.2.2 t.1.1] ∧ ref06_product.l0 n t.1.1 t.1.2 p1 = some x26) k ((x10, 0), A8, c9) [0, 1, 7, 8] rfl ⟨(hS17.subR [0, 1]).sub [0] (by decide), hx27⟩ ?_
  rintro k28 ⟨⟨l22, x23⟩, A20, c21⟩ w29 ⟨hS30, hl31⟩
  let e7 : Nat × Value := (8, (iv x23))
  cases k28 with
  | zero => rw [ref06_product.l0] at hl31; cases hl31
  | succ k28 =>
   rw [ref06_product.l0] at hl31
   refine WC.seq (WC.seq (WC.region ?_))
   refine sg 4 [] [0, 1, 7, 8, 20] [e2, e3, (7, (sv A20 l22 c21)), e7, (20, (bv (decide (x23 < (p1.length : Int)))))] (by kernel_rfl) ?_
   refine WL.done rfl (WX.next ?_)
   rcases br_some hl31 with ⟨h32, hl31⟩ | ⟨h32, hl31⟩
   ·refine WC.condT2 (fun fb => by kernel_rfl) h32 ?_
    refine WC.skip (WX.next (WC.seq (WC.block (WC.seq (WC.region ?_)))))
    refine sg 1 [] [0, 1, 7, 8, 9] [e2, e3, (7, (sv A20 l22 c21)), e7, (9, (iv 0))] (by kernel_rfl) ?_
    refine WL.done rfl (WX.next (WC.seq (WC.seq (WC.region ?_))))
    refine sg 1 [] e10 [e2, e3, (7, (sv A20 l22 c21)), e7, (9, (iv 0)), (10, (iv 0))] (by kernel_rfl) ?_
    refine WL.done rfl (WX.next ?_)
    obtain ⟨x40, hx41, hl31⟩ := bind_some hl31
    refine WC.cutN (T := ((List Int) × Int) × (Option Addr) × Nat) (fun t => [e2, e3, (7, (sv t.2.1 t.1.1 t.2.2)), e7, (9, (iv t.1.2))]) (fun t w1 => St NoS w w1 e5 [rowO 3 encInt t.2.1 t.2.2 t.1.1] ∧ x40 = t.1) (fun Kx40 => ?_) ?_
    ·
     refine WC.block ?_
     refine WC.loop (T := ((List Int) × Int × Int) × (Option Addr) × Nat) (fun t => [e2, e3, (7, (sv t.2.1 t.1.1 t.2.2)), e7, (9, (iv t.1.2.1)), (10, (iv t.1.2.2))]) (fun n t w1 => St NoS w w1 e5 [rowO 3 encInt t.2.1 t.2.2 t.1.1] ∧ ref06_product.l1 n t.1.1 t.1.2.1 t.1.2.2 p1 x23 = some x40) k28 ((l22, 0, 0), A20, c21) e10 rfl ⟨(hS30.subR [0, 1]).sub [0] (by decide), hx41⟩ ?_
     rintro k42 ⟨⟨l35, x36, x37⟩, A33, c34⟩ w43 ⟨hS44, hl45⟩
     let e1 := w64 (x36 + (w64 ((rdD l35 x37 0) * (rdD p1 x23 0))))
     let e6 : List (Nat × Addr × Value) := [(4, ((adr A33).add ((x37).toNat * 1)), (iv (rdD l35 x37 0))), (8, ((adr Ab).add ((x23).toNat * 1)), (iv (rdD p1 x23 0)))]
     let e8 := Int.tmod e1 1048576
     cases k42 with
     | zero => rw [ref06_product.l1] at hl45; cases hl45
     | succ k42 =>
      rw [ref06_product.l1] at hl45
      refine WC.seq (WC.seq (WC.region ?_))
      refine sg 4 [] [0, 1, 7, 8, 9, 10, 26] [e2, e3, (7, (sv A33 l35 c34)), e7, (9, (iv x36)), (10, (iv x37)), (26, (bv (decide (x37 < (l35.length : Int)))))] (by kernel_rfl) ?_
      refine WL.done rfl (WX.next ?_)
      rcases br_some hl45 with ⟨h46, hl45⟩ | ⟨h46, hl45⟩
      ·refine WC.condT2 (fun fb => by kernel_rfl) h46 ?_
       refine WC.skip (WX.next (WC.seq (WC.block (WC.seq ?_))))
       obtain ⟨h49, hl45⟩ := as_some hl45
       obtain ⟨h50, hl45⟩ := as_some hl45
       refine WC.regionD (e6, [0, 1, 2, 3, 4, 5, 6, 7, 8, 9, 10, 11], [[], [], [], [1, 2], [1, 2, 3], [], [], [5, 6], [5, 6, 7], [1, 2, 3, 4, 5, 6, 7, 8], [0, 1, 2, 3, 4, 5, 6, 7, 8, 9], [0, 1, 2, 3, 4, 5, 6, 7, 8, 9, 10]]) [[0, 1, 2, 3, 4, 5, 6, 7, 8, 9, 10, 11]] (by kernel_rfl) (by kernel_rfl) (NoPanic.seq (NoPanic.block (NoPanic.seq (NoPanic.seq (NoPanic.block (NoPanic.seq (NoPanic.block (NoPanic.seq (NoPanic.seq (NoPanic.block (NoPanic.seq (NoPanic.body)))))))))))) ?_
       have hS48 := hS44.drew
       revert hS48
       generalize World.drew w43 = w47
       intro hS48
       refine ⟨⟨rowR.cell (rowO.rd (hS48.own 0).1) 0 h49.1 h49.2 0 rfl, rowR.cell (hS48.rd 1).1 0 h50.1 h50.2 0 rfl, trivial⟩, forallC ?_ (forallN)⟩
       refine segF 12 [.v (iv (rdD l35 x37 0)), .v (iv (rdD p1 x23 0))] e10 [e2, e3, (7, (sv A33 l35 c34)), e7, (9, (iv e1)), (10, (iv x37))] [.idx A33 x37 l35.length, .idx Ab x23 p1.length] [0, 1] e6 (fun fb => by kernel_rfl) rfl ⟨rowR.adr (rowO.rd (hS48.own 0).1) h49.1 h49.2, rowR.adr (hS48.rd 1).1 h50.1 h50.2, trivial⟩ rfl ?_
       refine WL.done rfl (WX.next (WC.seq (WC.region ?_)))
       refine seg 5 [] [0, 1, 7, 8, 9, 10, 43, 44] [e2, e3, (7, (sv A33 l35 c34)), e7, (9, (iv e1)), (10, (iv x37)), (43, (iv e8)), (44, (.pointer (some ((adr A33).add ((x37).toNat * 1)))))] [.ne 1048576, .idx A33 x37 l35.length] (fun fb => by kernel_rfl) rfl ⟨(by decide), rowR.adr (rowO.rd (hS48.own 0).1) h49.1 h49.2, trivial⟩ ?_
       refine WL.storeRow hS48 0 rfl (x37) e8 (0) [(0, (iv e8))] (fun fb => by kernel_rfl) h49.1 h49.2 (by kernel_rfl) rfl [] (by decide) (by decide) (fun w51 hS52 => ?_)
       refine ⟨trivial, ?_⟩
       refine WL.reE [0, 1, 7, 8, 9, 10] [(0, (.slice Aa p0.length ca)), (1, (.slice Ab p1.length cb)), (7, (.slice A33 l35.length c34)), (8, (iv x23)), (9, (iv (w64 (x36 + (w64 ((rdD l35 x37 0) * (rdD p1 x23 0))))))), (10, (iv x37))] [(0, (.slice Aa p0.length ca)), (1, (.slice Ab p1.length cb)), (7, (.slice A33 (l35.set (x37).toNat (Int.tmod (w64 (x36 + (w64 ((rdD l35 x37 0) * (rdD p1 x23 0))))) 1048576)).length c34)), (8, (iv x23)), (9, (iv (w64 (x36 + (w64 ((rdD l35 x37 0) * (rdD p1 x23 0))))))), (10, (iv x37))] rfl (by simp only [List.length_set]) ?_
       refine WL.done rfl (WX.next (WC.region ?_))
       refine seg 3 [] e10 [e2, e3, (7, (sv A33 (l35.set (x37).toNat e8) c34)), e7, (9, (iv (w64 (Int.tdiv e1 1048576)))), (10, (iv x37))] [.ne 1048576] (fun fb => by kernel_rfl) rfl ⟨(by decide), trivial⟩ ?_
       refine WL.done rfl ?_
       refine WX.blockN (WX.next ?_)
       refine WC.region ?_
       refine sg 3 [] e10 [e2, e3, (7, (sv A33 (l35.set (x37).toNat e8) c34)), e7, (9, (iv (w64 (Int.tdiv e1 1048576)))), (10, (iv (w64 (x37 + 1))))] (by kernel_rfl) ?_
       refine WL.done rfl ?_
       exact WX.again k42 (Nat.lt_succ_self _) ((l35.set (x37).toNat e8, w64 (Int.tdiv e1 1048576), w64 (x37 + 1)), A33, c34) e10 rfl ⟨(hS52.subR [0, 1]).sub [0] (by decide), hl45⟩
      refine WC.condF2 (fun fb => by kernel_rfl) h46 ?_
      refine WC.exit ?_
      injection hl45 with hl45
      exact WX.thenX (WX.thenX (WX.blockHere (WX.to Kx40 ((l35, x36), A33, c34) [0, 1, 7, 8, 9] rfl ⟨(hS44.subR [0, 1]).sub [0] (by decide), hl45.symm⟩)))
    rintro ⟨y56, A38, c39⟩ w53 ⟨hS54, hq55⟩
    subst hq55
    refine WX.next (WC.region ?_)
    refine sg 2 [] [0, 1, 8, 47, 48] [e2, e3, e7, (47, (sv A38 x40.1 c39)), (48, (iv x40.2))] (by kernel_rfl) ?_
    refine WL.new hS54 49 [] (fun g => (.slice (some ⟨g, 0, none⟩) 1 1)) (.cells #[(iv x40.2)] 3 (0, 0)) [] (fun fb g => by kernel_rfl) trivial (fun g57 w58 hS59 => ?_)
    refine ⟨trivial, ?_⟩
    have hS60 := hS7.go w58 [rowO 3 encInt (some ⟨g57, 0, none⟩) 1 [x40.2], rowO 3 encInt A38 c39 x40.1] (hS59.map1 0 _ (fun h => rowO.ofBlk h rfl (Nat.le_of_ble_eq_true (by kernel_rfl))) (fun _ h => by obtain ⟨_, h1, h2⟩ := h; injection h1 with h1; subst h1; exact h2) [1] (by decide) (by decide))
    obtain ⟨h61, hl31⟩ := as_some hl31
    refine WL.append hS60 1 (d := 50) (tS := 24) (z := (iv 0)) (bytes := 8) (c2 := 1) rfl (fun fb => by kernel_rfl) (rowO.rd (hS60.own 0).1) (by kernel_rfl) (by kernel_rfl) rfl (by decide) h61 (by decide) [0] (by decide) (by decide) (fun A62 c63 w65 hS66 => ?_)
    refine ⟨trivial, ?_⟩
    refine sg 5 [] [0, 1, 7, 8] [e2, e3, (7, (sv A62 (x40.1 ++ [x40.2]) c63)), e7] (by kernel_rfl) ?_
    refine WL.done rfl ?_
    refine WX.blockN (WX.next ?_)
    refine WC.region ?_
    refine sg 3 [] [0, 1, 7, 8] [e2, e3, (7, (sv A62 (x40.1 ++ [x40.2]) c63)), (8, (iv (w64 (x23 + 1))))] (by kernel_rfl) ?_
    refine WL.done rfl ?_
    exact WX.again k28 (Nat.lt_succ_self _) ((x40.1 ++ [x40.2], w64 (x23 + 1)), A62, c63) [0, 1, 7, 8] rfl ⟨(hS66.subR [0, 1]).sub [0] (by decide), hl31⟩
   refine WC.condF2 (fun fb => by kernel_rfl) h32 ?_
   refine WC.exit ?_
   injection hl31 with hl31
   exact WX.thenX (WX.thenX (WX.blockHere (WX.to Kx26 (l22, A20, c21) [0, 7] rfl ⟨(hS30.subR [0, 1]).sub [0] (by decide), hl31.symm⟩)))
 rintro ⟨y70, A24, c25⟩ w67 ⟨hS68, hq69⟩
 subst hq69
 refine WX.next (WC.seq (WC.region ?_))
 refine WL.new hS68 51 [] (fun g => (.slice (some ⟨g, 0, none⟩) 0 0)) (.cells #[] 3 (0, 0)) [] (fun fb g => by kernel_rfl) trivial (fun g72 w73 hS74 => ?_)
 refine ⟨trivial, ?_⟩
 have hS75 := hS7.go w73 [rowO 3 encInt (some ⟨g72, 0, none⟩) 0 ([] : List Int), rowO 3 encInt A24 c25 x26] (hS74.map1 0 _ (fun h => rowO.ofBlk h rfl (Nat.le_of_ble_eq_true (by kernel_rfl))) (fun _ h => by obtain ⟨_, h1, h2⟩ := h; injection h1 with h1; subst h1; exact h2) [1] (by decide) (by decide))
 refine sg 2 [] [7, 51, 52] [(7, (sv A24 x26 c25)), (51, (sv (some ⟨g72, 0, none⟩) ([] : List Int) 0)), (52, (sv Aa p0 ca))] (by kernel_rfl) ?_
 obtain ⟨h76, hf⟩ := as_some hf
 refine WL.append hS75 0 (d := 53) (tS := 24) (z := (iv 0)) (bytes := 8) (c2 := ca) rfl (fun fb => by kernel_rfl) (hS75.rd 0).1 (by kernel_rfl) (by kernel_rfl) rfl (by decide) h76 (by decide) [1] (by decide) (by decide) (fun A77 c78 w79 hS80 => ?_)
 refine ⟨trivial, ?_⟩
 refine sg 4 [] [7, 11] [(7, (sv A24 x26 c25)), (11, (sv A77 (([] : List Int) ++ p0) c78))] (by kernel_rfl) ?_
 refine WL.done rfl (WX.next (WC.seq (WC.seq (WC.region ?_))))
 refine sg 1 [] [7, 11, 12] [(7, (sv A24 x26 c25)), (11, (sv A77 (([] : List Int) ++ p0) c78)), (12, (iv 0))] (by kernel_rfl) ?_
 refine WL.done rfl (WX.next ?_)
 obtain ⟨x87, hx88, hf⟩ := bind_some hf
 let e4 : Nat × Value := (7, (sv A24 x26 c25))
 refine WC.cutN (T := (List Int) × (Option Addr) × Nat) (fun t => [(11, (sv t.2.1 t.1 t.2.2))]) (fun t w1 => St NoS w w1 e5 [rowO 3 encInt t.2.1 t.2.2 t.1] ∧ x87 = t.1) (fun Kx87 => ?_) ?_
 ·
  refine WC.block ?_
  refine WC.loop (T := ((List Int) × Int) × (Option Addr) × Nat) (fun t => [e4, (11, (sv t.2.1 t.1.1 t.2.2)), (12, (iv t.1.2))]) (fun n t w1 => St NoS w w1 e5 [rowO 3 encInt A24 c25 x26, rowO 3 encInt t.2.1 t.2.2 t.1.1] ∧ ref06_product.l2 n t.1.1 t.1.2 x26 = some x87) k ((([] : List Int) ++ p0, 0), A77, c78) [7, 11, 12] rfl ⟨(hS80.subR [0, 1]).sub [1, 0] (by decide), hx88⟩ ?_
  rintro k89 ⟨⟨l83, x84⟩, A81, c82⟩ w90 ⟨hS91, hl92⟩
  let e9 := rdD x26 x84 0
  let e12 := (x84).toNat * 1
  let e13 : Nat × Value := (12, (iv x84))
  cases k89 with
  | zero => rw [ref06_product.l2] at hl92; cases hl92
  | succ k89 =>
   rw [ref06_product.l2] at hl92
   refine WC.seq (WC.seq (WC.region ?_))
   refine sg 4 [] [7, 11, 12, 57] [e4, (11, (sv A81 l83 c82)), e13, (57, (bv (decide (x84 < (x26.length : Int)))))] (by kernel_rfl) ?_
   refine WL.done rfl (WX.next ?_)
   rcases br_some hl92 with ⟨h93, hl92⟩ | ⟨h93, hl92⟩
   ·refine WC.condT2 (fun fb => by kernel_rfl) h93 ?_
    refine WC.skip (WX.next (WC.seq (WC.block (WC.seq (WC.seq (WC.region ?_))))))
    refine sg 4 [] [7, 11, 12, 63] [e4, (11, (sv A81 l83 c82)), e13, (63, (bv (x84 == (l83.length : Int))))] (by kernel_rfl) ?_
    refine WL.done rfl (WX.next ?_)
    obtain ⟨x96, hx97, hl92⟩ := bind_some hl92
    refine WC.cutN (T := (List Int) × (Option Addr) × Nat) (fun t => [e4, (11, (sv t.2.1 t.1 t.2.2)), e13]) (fun t w1 => St NoS w w1 e5 [rowO 3 encInt A24 c25 x26, rowO 3 encInt t.2.1 t.2.2 t.1] ∧ x96 = t.1) (fun Kx96 => ?_) ?_
    ·
     rcases br_some hx97 with ⟨h98, hx97⟩ | ⟨h98, hx97⟩
     ·refine WC.condT2 (fun fb => by kernel_rfl) h98 ?_
      refine WC.region ?_
      refine sg 1 [] [7, 12, 64] [e4, e13, (64, (sv A81 l83 c82))] (by kernel_rfl) ?_
      refine WL.new hS91 65 [] (fun g => (.slice (some ⟨g, 0, none⟩) 1 1)) (.cells #[(iv 0)] 3 (0, 0)) [] (fun fb g => by kernel_rfl) trivial (fun g99 w100 hS101 => ?_)
      refine ⟨trivial, ?_⟩
      have hS102 := hS75.go w100 [rowO 3 encInt (some ⟨g99, 0, none⟩) 1 [0], rowO 3 encInt A24 c25 x26, rowO 3 encInt A81 c82 l83] (hS101.map1 0 _ (fun h => rowO.ofBlk h rfl (Nat.le_of_ble_eq_true (by kernel_rfl))) (fun _ h => by obtain ⟨_, h1, h2⟩ := h; injection h1 with h1; subst h1; exact h2) [1, 2] (by decide) (by decide))
      obtain ⟨h103, hx97⟩ := as_some hx97
      refine WL.append hS102 2 (d := 66) (tS := 24) (z := (iv 0)) (bytes := 8) (c2 := 1) rfl (fun fb => by kernel_rfl) (rowO.rd (hS102.own 0).1) (by kernel_rfl) (by kernel_rfl) rfl (by decide) h103 (by decide) [0, 1] (by decide) (by decide) (fun A104 c105 w106 hS107 => ?_)
      refine ⟨trivial, ?_⟩
      refine sg 4 [] [7, 11, 12] [e4, (11, (sv A104 (l83 ++ [0]) c105)), e13] (by kernel_rfl) ?_
      refine WL.done rfl ?_
      injection hx97 with hx97
      exact WX.to Kx96 (l83 ++ [0], A104, c105) [7, 11, 12] rfl ⟨(hS107.subR [0, 1]).sub [2, 0] (by decide), hx97.symm⟩
     refine WC.condF2 (fun fb => by kernel_rfl) h98 ?_
     refine WC.skip ?_
     injection hx97 with hx97
     exact WX.to Kx96 (l83, A81, c82) [7, 11, 12] rfl ⟨(hS91.subR [0, 1]).sub [0, 1] (by decide), hx97.symm⟩
    rintro ⟨y111, A94, c95⟩ w108 ⟨hS109, hq110⟩
    subst hq110
    refine WX.next ?_
    obtain ⟨h114, hl92⟩ := as_some hl92
    obtain ⟨h115, hl92⟩ := as_some hl92
    refine WC.regionD ([(3, ((adr A94).add e12), (iv (rdD x96 x84 0))), (7, ((adr A24).add e12), (iv e9))], [0, 1, 2, 3, 4, 5, 6, 7, 8, 9], [[], [], [0, 1], [0, 1, 2], [], [], [4, 5], [4, 5, 6], [0, 1, 2, 3, 4, 5, 6, 7], [0, 1, 2, 3, 4, 5, 6, 7, 8], [0, 1, 2, 3, 4, 5, 6, 7, 8, 9]]) [[0, 1, 2, 3, 4, 5, 6, 7, 8, 9, 10]] (by kernel_rfl) (by kernel_rfl) (NoPanic.block (NoPanic.seq (NoPanic.seq (NoPanic.block (NoPanic.seq (NoPanic.body)))))) ?_
    have hS113 := hS109.drew
    revert hS113
    generalize World.drew w108 = w112
    intro hS113
    refine ⟨⟨rowR.cell (rowO.rd (hS113.own 1).1) 0 h114.1 h114.2 0 rfl, rowR.cell (rowO.rd (hS113.own 0).1) 0 h115.1 h115.2 0 rfl, trivial⟩, forallC ?_ (forallN)⟩
    refine segF 10 [.v (iv (rdD x96 x84 0)), .v (iv e9)] [7, 11, 12, 75, 76] [e4, (11, (sv A94 x96 c95)), e13, (75, (iv (w64 ((rdD x96 x84 0) + e9)))), (76, (.pointer (some ((adr A94).add e12))))] [.idx A94 x84 x96.length, .idx A24 x84 x26.length, .idx A94 x84 x96.length] [0, 1] [(3, ((adr A94).add e12), (iv (rdD x96 x84 0))), (7, ((adr A24).add e12), (iv e9))] (fun fb => by kernel_rfl) rfl ⟨rowR.adr (rowO.rd (hS113.own 1).1) h114.1 h114.2, rowR.adr (rowO.rd (hS113.own 0).1) h115.1 h115.2, rowR.adr (rowO.rd (hS113.own 1).1) h114.1 h114.2, trivial⟩ rfl ?_
    refine WL.storeRow hS113 1 rfl (x84) (w64 ((rdD x96 x84 0) + e9)) (0) [(0, (iv (w64 ((rdD x96 x84 0) + e9))))] (fun fb => by kernel_rfl) h114.1 h114.2 (by kernel_rfl) rfl [0] (by decide) (by decide) (fun w116 hS117 => ?_)
    refine ⟨trivial, ?_⟩
    refine WL.reE [7, 11, 12] [(7, (.slice A24 x26.length c25)), (11, (.slice A94 x96.length c95)), (12, (iv x84))] [(7, (.slice A24 x26.length c25)), (11, (.slice A94 (x96.set (x84).toNat (w64 ((rdD x96 x84 0) + (rdD x26 x84 0)))).length c95)), (12, (iv x84))] rfl (by simp only [List.length_set]) ?_
    refine WL.done rfl ?_
    refine WX.blockN (WX.next ?_)
    refine WC.region ?_
    refine sg 3 [] [7, 11, 12] [e4, (11, (sv A94 (x96.set (x84).toNat (w64 ((rdD x96 x84 0) + e9))) c95)), (12, (iv (w64 (x84 + 1))))] (by kernel_rfl) ?_
    refine WL.done rfl ?_
    exact WX.again k89 (Nat.lt_succ_self _) ((x96.set (x84).toNat (w64 ((rdD x96 x84 0) + e9)), w64 (x84 + 1)), A94, c95) [7, 11, 12] rfl ⟨(hS117.subR [0, 1]).sub [1, 0] (by decide), hl92⟩
   refine WC.condF2 (fun fb => by kernel_rfl) h93 ?_
   refine WC.exit ?_
   injection hl92 with hl92
   exact WX.thenX (WX.thenX (WX.blockHere (WX.to Kx87 (l83, A81, c82) [11] rfl ⟨(hS91.subR [0, 1]).sub [1] (by decide), hl92.symm⟩)))
 rintro ⟨y121, A85, c86⟩ w118 ⟨hS119, hq120⟩
 subst hq120
 refine WX.next (WC.seq (WC.region ?_))
 refine sg 2 [] [6] [(6, (sv A85 x87 c86))] (by kernel_rfl) ?_
 refine WL.done rfl (WX.next ?_)
 refine WC.ret ?_
 injection hf with hf
 subst hf
 exact WX.ret_ [] (sv A85 x87 c86) [] (fun fb => by kernel_rfl) trivial ⟨_, rfl, A85, c86, rfl, (hS119.sub [0] (by decide)).noR⟩
theorem ref06_zero_calls (k : Nat) (p0 : List Int) (Aa : Option Addr) (ca : Nat) (r : Bool) (w : World) (hR0 : RO NoS w (rowR encInt Aa ca p0)) (hf : ref06_zero k p0 = some r) :
  CallsR Tryz.prog 72 #[(sv Aa p0 ca)] w (fun v w' => v = (bv r) ∧ Keeps NoS w w') := by
 have hS : St NoS w w [rowR encInt Aa ca p0] [] := St.init (ro_cons hR0 (ro_nil _ _))
 refine enter 24 Tryz.func72 rfl Tryz.ntmps72 rfl ?_
 unfold ref06_zero at hf
 refine WC.seq (WC.region ?_)
 refine sg 1 [] [0] [(0, (sv Aa p0 ca))] (by kernel_rfl) ?_
 refine WL.done rfl (WX.next (WC.seq (WC.region ?_)))
 refine sg 1 [] [0, 3] [(0, (sv Aa p0 ca)), (3, (iv 0))] (by kernel_rfl) ?_
 refine WL.done rfl (WX.next (WC.seq (WC.seq (WC.region ?_))))
 refine sg 1 [] [0, 3, 4] [(0, (sv Aa p0 ca)), (3, (iv 0)), (4, (iv 0))] (by kernel_rfl) ?_
 refine WL.done rfl (WX.next ?_)
 obtain ⟨x5, hx7, hf⟩ := bind_some hf
 let e2 : Nat × Value := (0, (sv Aa p0 ca))
 refine WC.cutN (T := Int) (fun t => [(3, (iv t))]) (fun t w1 => St NoS w w1 [rowR encInt Aa ca p0] [] ∧ x5 = .inr t) (fun Kx5 => ?_) ?_
 ·
  refine WC.block ?_
  refine WC.loop (T := Int × Int) (fun t => [e2, (3, (iv t.1)), (4, (iv t.2))]) (fun n t w1 => St NoS w w1 [rowR encInt Aa ca p0] [] ∧ ref06_zero.l0 n t.1 t.2 p0 = some x5) k (0, 0) [0, 3, 4] rfl ⟨(hS.subR [0]).sub [] (by decide), hx7⟩ ?_
  rintro k8 ⟨x3, x4⟩ w9 ⟨hS10, hl11⟩
  let e1 := w64 (x3 + (rdD p0 x4 0))
  cases k8 with
  | zero => rw [ref06_zero.l0] at hl11; cases hl11
  | succ k8 =>
   rw [ref06_zero.l0] at hl11
   refine WC.seq (WC.seq (WC.region ?_))
   refine sg 4 [] [0, 3, 4, 8] [e2, (3, (iv x3)), (4, (iv x4)), (8, (bv (decide (x4 < (p0.length : Int)))))] (by kernel_rfl) ?_
   refine WL.done rfl (WX.next ?_)
   rcases br_some hl11 with ⟨h12, hl11⟩ | ⟨h12, hl11⟩
   ·refine WC.condT2 (fun fb => by kernel_rfl) h12 ?_
    refine WC.skip (WX.next (WC.seq (WC.block (WC.seq (WC.region ?_)))))
    refine sg 3 [] [0, 4, 11, 12, 13] [e2, (4, (iv x4)), (11, (iv x3)), (12, (sv Aa p0 ca)), (13, (iv x4))] (by kernel_rfl) ?_
    obtain ⟨h13, hl11⟩ := as_some hl11
    refine seg 7 [.v (iv (rdD p0 x4 0))] [0, 3, 4] [e2, (3, (iv e1)), (4, (iv x4))] [.idx Aa x4 p0.length, .cell ((adr Aa).add ((x4).toNat * 1)) (iv (rdD p0 x4 0))] (fun fb => by kernel_rfl) rfl ⟨rowR.adr (hS10.rd 0).1 h13.1 h13.2, rowR.cell (hS10.rd 0).1 0 h13.1 h13.2 0 rfl, trivial⟩ ?_
    refine WL.done rfl (WX.next (WC.seq (WC.seq (WC.region ?_))))
    refine seg 3 [] [0, 3, 4, 19] [e2, (3, (iv e1)), (4, (iv x4)), (19, (bv ((Int.tmod e1 1048576) != 0)))] [.ne 1048576] (fun fb => by kernel_rfl) rfl ⟨(by decide), trivial⟩ ?_
    refine WL.done rfl (WX.next ?_)
    rcases br_some hl11 with ⟨h14, hl11⟩ | ⟨h14, hl11⟩
    ·refine WC.condT2 (fun fb => by kernel_rfl) h14 ?_
     refine WC.seq (WC.region ?_)
     refine sg 1 [] [2] [(2, (bv false))] (by kernel_rfl) ?_
     refine WL.done rfl (WX.next ?_)
     refine WC.ret ?_
     injection hl11 with hl11
     subst hl11
     injection hf with hf
     subst hf
     exact WX.thenR (WX.blockR (WX.thenR (WX.thenR (WX.blockR (WX.thenR (WX.ret_ [] (bv false) [] (fun fb => by kernel_rfl) trivial ⟨_, rfl, rfl, hS10.keep⟩))))))
    refine WC.condF2 (fun fb => by kernel_rfl) h14 ?_
    refine WC.skip (WX.next (WC.region ?_))
    refine seg 3 [] [0, 3, 4] [e2, (3, (iv (w64 (Int.tdiv e1 1048576)))), (4, (iv x4))] [.ne 1048576] (fun fb => by kernel_rfl) rfl ⟨(by decide), trivial⟩ ?_
    refine WL.done rfl ?_
    refine WX.blockN (WX.next ?_)
    refine WC.region ?_
    refine sg 3 [] [0, 3, 4] [e2, (3, (iv (w64 (Int.tdiv e1 1048576)))), (4, (iv (w64 (x4 + 1))))] (by kernel_rfl) ?_
    refine WL.done rfl ?_
    exact WX.again k8 (Nat.lt_succ_self _) (w64 (Int.tdiv e1 1048576), w64 (x4 + 1)) [0, 3, 4] rfl ⟨(hS10.subR [0]).sub [] (by decide), hl11⟩
   refine WC.condF2 (fun fb => by kernel_rfl) h12 ?_
   refine WC.exit ?_
   injection hl11 with hl11
   exact WX.thenX (WX.thenX (WX.blockHere (WX.to Kx5 x3 [3] rfl ⟨(hS10.subR [0]).sub [] (by decide), hl11.symm⟩)))
 rintro y18 w15 ⟨hS16, hq17⟩
 subst hq17
 have hf := sum_inr hf
 refine WX.next (WC.seq (WC.region ?_))
 refine sg 3 [] [2] [(2, (bv (y18 == 0)))] (by kernel_rfl) ?_
 refine WL.done rfl (WX.next ?_)
 refine WC.ret ?_
 injection hf with hf
 subst hf
 exact WX.ret_ [] (bv (y18 == 0)) [] (fun fb => by kernel_rfl) trivial ⟨_, rfl, rfl, hS16.keep⟩
theorem ref06_Balanced_calls (k : Nat) (p0 : Frac) (p1 : Frac) (p2 : Frac) (p3 : Frac) (p4 : Frac)  (r : Bool) (w : World)  (hf : ref06_Balanced k p0 p1 p2 p3 p4 = some r) :
  CallsR Tryz.prog 44 #[(.agg #[(iv p0.Num), (iv p0.Den)]), (.agg #[(iv p1.Num), (iv p1.Den)]), (.agg #[(iv p2.Num), (iv p2.Den)]), (.agg #[(iv p3.Num), (iv p3.Den)]), (.agg #[(iv p4.Num), (iv p4.Den)])] w (fun v w' => v = (bv r) ∧ Keeps NoS w w') := by
 have hS : St NoS w w [] [] := St.init (ro_nil _ _)
 refine enter 64 Tryz.func44 rfl Tryz.ntmps44 rfl ?_
 unfold ref06_Balanced at hf
 refine WC.seq (WC.region ?_)
 refine WL.new hS 5 [] (fun g => (pt g)) (.cells #[(iv p0.Num), (iv p0.Den)] 33 (0, 0)) [] (fun fb g => by kernel_rfl) trivial (fun g5 w7 hS8 => ?_)
 refine ⟨trivial, ?_⟩
 refine WL.new hS8 6 [] (fun g => (pt g)) (.cells #[(iv p1.Num), (iv p1.Den)] 33 (0, 0)) [] (fun fb g => by kernel_rfl) trivial (fun g9 w10 hS11 => ?_)
 refine ⟨trivial, ?_⟩
 refine WL.new hS11 7 [] (fun g => (pt g)) (.cells #[(iv p2.Num), (iv p2.Den)] 33 (0, 0)) [] (fun fb g => by kernel_rfl) trivial (fun g12 w13 hS14 => ?_)
 refine ⟨trivial, ?_⟩
 refine WL.new hS14 8 [] (fun g => (pt g)) (.cells #[(iv p3.Num), (iv p3.Den)] 33 (0, 0)) [] (fun fb g => by kernel_rfl) trivial (fun g15 w16 hS17 => ?_)
 refine ⟨trivial, ?_⟩
 refine WL.new hS17 9 [] (fun g => (pt g)) (.cells #[(iv p4.Num), (iv p4.Den)] 33 (0, 0)) [] (fun fb g => by kernel_rfl) trivial (fun g18 w19 hS20 => ?_)
 refine ⟨trivial, ?_⟩
 refine sg 6 [] [5, 6, 7, 8, 9] [(5, (pt g5)), (6, (pt g9)), (7, (pt g12)), (8, (pt g15)), (9, (pt g18))] (by kernel_rfl) ?_
 refine WL.done rfl (WX.next (WC.seq (WC.region ?_)))
 refine seg 10 [.v (iv p0.Num), .v (iv p1.Num), .v (iv p2.Den), .v (iv p3.Den), .v (iv p4.Den)] [5, 6, 7, 8, 9, 13, 15, 17, 19, 21] [(5, (pt g5)), (6, (pt g9)), (7, (pt g12)), (8, (pt g15)), (9, (pt g18)), (13, (iv p0.Num)), (15, (iv p1.Num)), (17, (iv p2.Den)), (19, (iv p3.Den)), (21, (iv p4.Den))] [.cell ⟨g5, 0, none⟩ (iv p0.Num), .cell ⟨g9, 0, none⟩ (iv p1.Num), .cell ⟨g12, 1, none⟩ (iv p2.Den), .cell ⟨g15, 1, none⟩ (iv p3.Den), .cell ⟨g18, 1, none⟩ (iv p4.Den)] (fun fb => by kernel_rfl) rfl ⟨hS20.cell 4 rfl 0 rfl, hS20.cell 3 rfl 0 rfl, hS20.cell 2 rfl 1 rfl, hS20.cell 1 rfl 1 rfl, hS20.cell 0 rfl 1 rfl, trivial⟩ ?_
 refine WL.new hS20 22 [] (fun g => (.slice (some ⟨g, 0, none⟩) 5 5)) (.cells #[(iv p0.Num), (iv p1.Num), (iv p2.Den), (iv p3.Den), (iv p4.Den)] 3 (0, 0)) [] (fun fb g => by kernel_rfl) trivial (fun g21 w22 hS23 => ?_)
 refine ⟨trivial, ?_⟩
 have hS24 := hS.go w22 [rowO 3 encInt (some ⟨g21, 0, none⟩) 5 [p0.Num, p1.Num, p2.Den, p3.Den, p4.Den], blk g18 (.cells #[(iv p4.Num), (iv p4.Den)] 33 (0, 0)), blk g15 (.cells #[(iv p3.Num), (iv p3.Den)] 33 (0, 0)), blk g12 (.cells #[(iv p2.Num), (iv p2.Den)] 33 (0, 0)), blk g9 (.cells #[(iv p1.Num), (iv p1.Den)] 33 (0, 0)), blk g5 (.cells #[(iv p0.Num), (iv p0.Den)] 33 (0, 0))] (hS23.map1 0 _ (fun h => rowO.ofBlk h rfl (Nat.le_of_ble_eq_true (by kernel_rfl))) (fun _ h => by obtain ⟨_, h1, h2⟩ := h; injection h1 with h1; subst h1; exact h2) [1, 2, 3, 4, 5] (by decide) (by decide))
 obtain ⟨t25, ht26, hf⟩ := bind_some hf
 refine WL.call (some 23) 71 #[(.slice none 0 0), (sv (some ⟨g21, 0, none⟩) [p0.Num, p1.Num, p2.Den, p3.Den, p4.Den] 5), (bv false)] (fun fb => by kernel_rfl) (ref06_product_calls _ ([] : List Int) [p0.Num, p1.Num, p2.Den, p3.Den, p4.Den] false none 0 (some ⟨g21, 0, none⟩) 5 t25 _ (RO.nilR _ _ _) (hS24.ow 0).ofO ht26) (fun v w27 hR28 => ?_)
 obtain ⟨A30, c31, rfl, hk_⟩ := hR28
 have hS29 := hS24.go w27 [rowO 3 encInt A30 c31 t25, rowO 3 encInt (some ⟨g21, 0, none⟩) 5 [p0.Num, p1.Num, p2.Den, p3.Den, p4.Den], blk g18 (.cells #[(iv p4.Num), (iv p4.Den)] 33 (0, 0)), blk g15 (.cells #[(iv p3.Num), (iv p3.Den)] 33 (0, 0)), blk g12 (.cells #[(iv p2.Num), (iv p2.Den)] 33 (0, 0)), blk g9 (.cells #[(iv p1.Num), (iv p1.Den)] 33 (0, 0)), blk g5 (.cells #[(iv p0.Num), (iv p0.Den)] 33 (0, 0))] (hS24.call hk_ [] [0, 1, 2, 3, 4, 5] (fun g hg => hg.elim) (by simp) (by decide))
 refine ⟨trivial, ?_⟩
 refine sg 13 [] [5, 6, 7, 8, 9, 11] [(5, (pt g5)), (6, (pt g9)), (7, (pt g12)), (8, (pt g15)), (9, (pt g18)), (11, (sv A30 t25 c31))] (by kernel_rfl) ?_
 refine WL.done rfl (WX.next (WC.seq (WC.region ?_)))
 refine seg 11 [.v (iv p2.Num), .v (iv p0.Den), .v (iv p1.Den), .v (iv p3.Den), .v (iv p4.Den)] [5, 6, 7, 8, 9, 24, 26, 28, 30, 32, 34] [(5, (pt g5)), (6, (pt g9)), (7, (pt g12)), (8, (pt g15)), (9, (pt g18)), (24, (sv A30 t25 c31)), (26, (iv p2.Num)), (28, (iv p0.Den)), (30, (iv p1.Den)), (32, (iv p3.Den)), (34, (iv p4.Den))] [.cell ⟨g12, 0, none⟩ (iv p2.Num), .cell ⟨g5, 1, none⟩ (iv p0.Den), .cell ⟨g9, 1, none⟩ (iv p1.Den), .cell ⟨g15, 1, none⟩ (iv p3.Den), .cell ⟨g18, 1, none⟩ (iv p4.Den)] (fun fb => by kernel_rfl) rfl ⟨hS29.cell 4 rfl 0 rfl, hS29.cell 6 rfl 1 rfl, hS29.cell 5 rfl 1 rfl, hS29.cell 3 rfl 1 rfl, hS29.cell 2 rfl 1 rfl, trivial⟩ ?_
 refine WL.new hS29 35 [] (fun g => (.slice (some ⟨g, 0, none⟩) 5 5)) (.cells #[(iv p2.Num), (iv p0.Den), (iv p1.Den), (iv p3.Den), (iv p4.Den)] 3 (0, 0)) [] (fun fb g => by kernel_rfl) trivial (fun g32 w33 hS34 => ?_)
 refine ⟨trivial, ?_⟩
 have hS35 := hS29.go w33 [rowO 3 encInt (some ⟨g32, 0, none⟩) 5 [p2.Num, p0.Den, p1.Den, p3.Den, p4.Den], rowO 3 encInt A30 c31 t25, rowO 3 encInt (some ⟨g21, 0, none⟩) 5 [p0.Num, p1.Num, p2.Den, p3.Den, p4.Den], blk g18 (.cells #[(iv p4.Num), (iv p4.Den)] 33 (0, 0)), blk g15 (.cells #[(iv p3.Num), (iv p3.Den)] 33 (0, 0)), blk g12 (.cells #[(iv p2.Num), (iv p2.Den)] 33 (0, 0)), blk g9 (.cells #[(iv p1.Num), (iv p1.Den)] 33 (0, 0)), blk g5 (.cells #[(iv p0.Num), (iv p0.Den)] 33 (0, 0))] (hS34.map1 0 _ (fun h => rowO.ofBlk h rfl (Nat.le_of_ble_eq_true (by kernel_rfl))) (fun _ h => by obtain ⟨_, h1, h2⟩ := h; injection h1 with h1; subst h1; exact h2) [1, 2, 3, 4, 5, 6, 7] (by decide) (by decide))
 obtain ⟨t36, ht37, hf⟩ := bind_some hf
 refine WL.call (some 36) 71 #[(sv A30 t25 c31), (sv (some ⟨g32, 0, none⟩) [p2.Num, p0.Den, p1.Den, p3.Den, p4.Den] 5), (bv false)] (fun fb => by kernel_rfl) (ref06_product_calls _ t25 [p2.Num, p0.Den, p1.Den, p3.Den, p4.Den] false A30 c31 (some ⟨g32, 0, none⟩) 5 t36 _ (hS35.ow 1).ofO (hS35.ow 0).ofO ht37) (fun v w38 hR39 => ?_)
 obtain ⟨A41, c42, rfl, hk_⟩ := hR39
 have hS40 := hS35.go w38 [rowO 3 encInt A41 c42 t36, rowO 3 encInt (some ⟨g32, 0, none⟩) 5 [p2.Num, p0.Den, p1.Den, p3.Den, p4.Den], rowO 3 encInt A30 c31 t25, rowO 3 encInt (some ⟨g21, 0, none⟩) 5 [p0.Num, p1.Num, p2.Den, p3.Den, p4.Den], blk g18 (.cells #[(iv p4.Num), (iv p4.Den)] 33 (0, 0)), blk g15 (.cells #[(iv p3.Num), (iv p3.Den)] 33 (0, 0)), blk g12 (.cells #[(iv p2.Num), (iv p2.Den)] 33 (0, 0)), blk g9 (.cells #[(iv p1.Num), (iv p1.Den)] 33 (0, 0)), blk g5 (.cells #[(iv p0.Num), (iv p0.Den)] 33 (0, 0))] (hS35.call hk_ [] [0, 1, 2, 3, 4, 5, 6, 7] (fun g hg => hg.elim) (by simp) (by decide))
 refine ⟨trivial, ?_⟩
 refine sg 14 [] [5, 6, 7, 8, 9, 11] [(5, (pt g5)), (6, (pt g9)), (7, (pt g12)), (8, (pt g15)), (9, (pt g18)), (11, (sv A41 t36 c42))] (by kernel_rfl) ?_
 refine WL.done rfl (WX.next (WC.seq (WC.region ?_)))
 refine seg 11 [.v (iv p3.Num), .v (iv p0.Den), .v (iv p1.Den), .v (iv p2.Den), .v (iv p4.Den)] [5, 6, 7, 8, 9, 37, 39, 41, 43, 45, 47] [(5, (pt g5)), (6, (pt g9)), (7, (pt g12)), (8, (pt g15)), (9, (pt g18)), (37, (sv A41 t36 c42)), (39, (iv p3.Num)), (41, (iv p0.Den)), (43, (iv p1.Den)), (45, (iv p2.Den)), (47, (iv p4.Den))] [.cell ⟨g15, 0, none⟩ (iv p3.Num), .cell ⟨g5, 1, none⟩ (iv p0.Den), .cell ⟨g9, 1, none⟩ (iv p1.Den), .cell ⟨g12, 1, none⟩ (iv p2.Den), .cell ⟨g18, 1, none⟩ (iv p4.Den)] (fun fb => by kernel_rfl) rfl ⟨hS40.cell 5 rfl 0 rfl, hS40.cell 8 rfl 1 rfl, hS40.cell 7 rfl 1 rfl, hS40.cell 6 rfl 1 rfl, hS40.cell 4 rfl 1 rfl, trivial⟩ ?_
 refine WL.new hS40 48 [] (fun g => (.slice (some ⟨g, 0, none⟩) 5 5)) (.cells #[(iv p3.Num), (iv p0.Den), (iv p1.Den), (iv p2.Den), (iv p4.Den)] 3 (0, 0)) [] (fun fb g => by kernel_rfl) trivial (fun g43 w45 hS46 => ?_)
 refine ⟨trivial, ?_⟩
 have hS47 := hS40.go w45 [rowO 3 encInt (some ⟨g43, 0, none⟩) 5 [p3.Num, p0.Den, p1.Den, p2.Den, p4.Den], rowO 3 encInt A41 c42 t36, rowO 3 encInt (some ⟨g32, 0, none⟩) 5 [p2.Num, p0.Den, p1.Den, p3.Den, p4.Den], rowO 3 encInt A30 c31 t25, rowO 3 encInt (some ⟨g21, 0, none⟩) 5 [p0.Num, p1.Num, p2.Den, p3.Den, p4.Den], blk g18 (.cells #[(iv p4.Num), (iv p4.Den)] 33 (0, 0)), blk g15 (.cells #[(iv p3.Num), (iv p3.Den)] 33 (0, 0)), blk g12 (.cells #[(iv p2.Num), (iv p2.Den)] 33 (0, 0)), blk g9 (.cells #[(iv p1.Num), (iv p1.Den)] 33 (0, 0)), blk g5 (.cells #[(iv p0.Num), (iv p0.Den)] 33 (0, 0))] (hS46.map1 0 _ (fun h => rowO.ofBlk h rfl (Nat.le_of_ble_eq_true (by kernel_rfl))) (fun _ h => by obtain ⟨_, h1, h2⟩ := h; injection h1 with h1; subst h1; exact h2) [1, 2, 3, 4, 5, 6, 7, 8, 9] (by decide) (by decide))
 obtain ⟨t48, ht49, hf⟩ := bind_some hf
 refine WL.call (some 49) 71 #[(sv A41 t36 c42), (sv (some ⟨g43, 0, none⟩) [p3.Num, p0.Den, p1.Den, p2.Den, p4.Den] 5), (bv true)] (fun fb => by kernel_rfl) (ref06_product_calls _ t36 [p3.Num, p0.Den, p1.Den, p2.Den, p4.Den] true A41 c42 (some ⟨g43, 0, none⟩) 5 t48 _ (hS47.ow 1).ofO (hS47.ow 0).ofO ht49) (fun v w50 hR51 => ?_)
 obtain ⟨A53, c54, rfl, hk_⟩ := hR51
 have hS52 := hS47.go w50 [rowO 3 encInt A53 c54 t48, rowO 3 encInt (some ⟨g43, 0, none⟩) 5 [p3.Num, p0.Den, p1.Den, p2.Den, p4.Den], rowO 3 encInt A41 c42 t36, rowO 3 encInt (some ⟨g32, 0, none⟩) 5 [p2.Num, p0.Den, p1.Den, p3.Den, p4.Den], rowO 3 encInt A30 c31 t25, rowO 3 encInt (some ⟨g21, 0, none⟩) 5 [p0.Num, p1.Num, p2.Den, p3.Den, p4.Den], blk g18 (.cells #[(iv p4.Num), (iv p4.Den)] 33 (0, 0)), blk g15 (.cells #[(iv p3.Num), (iv p3.Den)] 33 (0, 0)), blk g12 (.cells #[(iv p2.Num), (iv p2.Den)] 33 (0, 0)), blk g9 (.cells #[(iv p1.Num), (iv p1.Den)] 33 (0, 0)), blk g5 (.cells #[(iv p0.Num), (iv p0.Den)] 33 (0, 0))] (hS47.call hk_ [] [0, 1, 2, 3, 4, 5, 6, 7, 8, 9] (fun g hg => hg.elim) (by simp) (by decide))
 refine ⟨trivial, ?_⟩
 refine sg 14 [] [5, 6, 7, 8, 9, 11] [(5, (pt g5)), (6, (pt g9)), (7, (pt g12)), (8, (pt g15)), (9, (pt g18)), (11, (sv A53 t48 c54))] (by kernel_rfl) ?_
 refine WL.done rfl (WX.next (WC.seq (WC.region ?_)))
 refine seg 11 [.v (iv p4.Num), .v (iv p0.Den), .v (iv p1.Den), .v (iv p2.Den), .v (iv p3.Den)] [50, 52, 54, 56, 58, 60] [(50, (sv A53 t48 c54)), (52, (iv p4.Num)), (54, (iv p0.Den)), (56, (iv p1.Den)), (58, (iv p2.Den)), (60, (iv p3.Den))] [.cell ⟨g18, 0, none⟩ (iv p4.Num), .cell ⟨g5, 1, none⟩ (iv p0.Den), .cell ⟨g9, 1, none⟩ (iv p1.Den), .cell ⟨g12, 1, none⟩ (iv p2.Den), .cell ⟨g15, 1, none⟩ (iv p3.Den)] (fun fb => by kernel_rfl) rfl ⟨hS52.cell 6 rfl 0 rfl, hS52.cell 10 rfl 1 rfl, hS52.cell 9 rfl 1 rfl, hS52.cell 8 rfl 1 rfl, hS52.cell 7 rfl 1 rfl, trivial⟩ ?_
 refine WL.new hS52 61 [] (fun g => (.slice (some ⟨g, 0, none⟩) 5 5)) (.cells #[(iv p4.Num), (iv p0.Den), (iv p1.Den), (iv p2.Den), (iv p3.Den)] 3 (0, 0)) [] (fun fb g => by kernel_rfl) trivial (fun g55 w56 hS57 => ?_)
 refine ⟨trivial, ?_⟩
 have hS58 := hS52.go w56 [rowO 3 encInt (some ⟨g55, 0, none⟩) 5 [p4.Num, p0.Den, p1.Den, p2.Den, p3.Den], rowO 3 encInt A53 c54 t48, rowO 3 encInt (some ⟨g43, 0, none⟩) 5 [p3.Num, p0.Den, p1.Den, p2.Den, p4.Den], rowO 3 encInt A41 c42 t36, rowO 3 encInt (some ⟨g32, 0, none⟩) 5 [p2.Num, p0.Den, p1.Den, p3.Den, p4.Den], rowO 3 encInt A30 c31 t25, rowO 3 encInt (some ⟨g21, 0, none⟩) 5 [p0.Num, p1.Num, p2.Den, p3.Den, p4.Den], blk g18 (.cells #[(iv p4.Num), (iv p4.Den)] 33 (0, 0)), blk g15 (.cells #[(iv p3.Num), (iv p3.Den)] 33 (0, 0)), blk g12 (.cells #[(iv p2.Num), (iv p2.Den)] 33 (0, 0)), blk g9 (.cells #[(iv p1.Num), (iv p1.Den)] 33 (0, 0)), blk g5 (.cells #[(iv p0.Num), (iv p0.Den)] 33 (0, 0))] (hS57.map1 0 _ (fun h => rowO.ofBlk h rfl (Nat.le_of_ble_eq_true (by kernel_rfl))) (fun _ h => by obtain ⟨_, h1, h2⟩ := h; injection h1 with h1; subst h1; exact h2) [1, 2, 3, 4, 5, 6, 7, 8, 9, 10, 11] (by decide) (by decide))
 obtain ⟨t59, ht60, hf⟩ := bind_some hf
 refine WL.call (some 62) 71 #[(sv A53 t48 c54), (sv (some ⟨g55, 0, none⟩) [p4.Num, p0.Den, p1.Den, p2.Den, p3.Den] 5), (bv true)] (fun fb => by kernel_rfl) (ref06_product_calls _ t48 [p4.Num, p0.Den, p1.Den, p2.Den, p3.Den] true A53 c54 (some ⟨g55, 0, none⟩) 5 t59 _ (hS58.ow 1).ofO (hS58.ow 0).ofO ht60) (fun v w61 hR62 => ?_)
 obtain ⟨A65, c66, rfl, hk_⟩ := hR62
 have hS63 := hS58.go w61 [rowO 3 encInt A65 c66 t59, rowO 3 encInt (some ⟨g55, 0, none⟩) 5 [p4.Num, p0.Den, p1.Den, p2.Den, p3.Den], rowO 3 encInt A53 c54 t48, rowO 3 encInt (some ⟨g43, 0, none⟩) 5 [p3.Num, p0.Den, p1.Den, p2.Den, p4.Den], rowO 3 encInt A41 c42 t36, rowO 3 encInt (some ⟨g32, 0, none⟩) 5 [p2.Num, p0.Den, p1.Den, p3.Den, p4.Den], rowO 3 encInt A30 c31 t25, rowO 3 encInt (some ⟨g21, 0, none⟩) 5 [p0.Num, p1.Num, p2.Den, p3.Den, p4.Den], blk g18 (.cells #[(iv p4.Num), (iv p4.Den)] 33 (0, 0)), blk g15 (.cells #[(iv p3.Num), (iv p3.Den)] 33 (0, 0)), blk g12 (.cells #[(iv p2.Num), (iv p2.Den)] 33 (0, 0)), blk g9 (.cells #[(iv p1.Num), (iv p1.Den)] 33 (0, 0)), blk g5 (.cells #[(iv p0.Num), (iv p0.Den)] 33 (0, 0))] (hS58.call hk_ [] [0, 1, 2, 3, 4, 5, 6, 7, 8, 9, 10, 11] (fun g hg => hg.elim) (by simp) (by decide))
 refine ⟨trivial, ?_⟩
 obtain ⟨t67, ht68, hf⟩ := bind_some hf
 refine WL.call (some 63) 72 #[(sv A65 t59 c66)] (fun fb => by kernel_rfl) (ref06_zero_calls _ t59 A65 c66 t67 _ (hS63.ow 0).ofO ht68) (fun v w69 hR70 => ?_)
 obtain ⟨rfl, hk_⟩ := hR70
 have hS71 := hS63.keepN hk_
 refine ⟨trivial, ?_⟩
 refine sg 15 [] [10] [(10, (bv t67))] (by kernel_rfl) ?_
 refine WL.done rfl (WX.next ?_)
 refine WC.ret ?_
 injection hf with hf
 subst hf
 exact WX.ret_ [] (bv t67) [] (fun fb => by kernel_rfl) trivial ⟨_, rfl, rfl, hS71.keep⟩
theorem ref06_gcd_calls (k : Nat) (p0 : Int) (p1 : Int)  (r : Int) (w : World)  (hf : ref06_gcd k p0 p1 = some r) :
  CallsR Tryz.prog 52 #[(iv p0), (iv p1)] w (fun v w' => v = (iv r) ∧ Keeps NoS w w') := by
 have hS : St NoS w w [] [] := St.init (ro_nil _ _)
 refine enter 12 Tryz.func52 rfl Tryz.ntmps52 rfl ?_
 unfold ref06_gcd at hf
 refine WC.seq (WC.region ?_)
 refine sg 1 [] [0, 1] [(0, (iv p0)), (1, (iv p1))] (by kernel_rfl) ?_
 refine WL.done rfl (WX.next (WC.seq ?_))
 obtain ⟨x5, hx7, hf⟩ := bind_some hf
 refine WC.cutN (T := Int) (fun t => [(0, (iv t))]) (fun t w1 => St NoS w w1 [] [] ∧ x5 = t) (fun Kx5 => ?_) ?_
 ·
  refine WC.block ?_
  refine WC.loop (T := Int × Int) (fun t => [(0, (iv t.1)), (1, (iv t.2))]) (fun n t w1 => St NoS w w1 [] [] ∧ ref06_gcd.l0 n t.1 t.2 = some x5) k (p0, p1) [0, 1] rfl ⟨(hS.subR []).sub [] (by decide), hx7⟩ ?_
  rintro k8 ⟨x3, x4⟩ w9 ⟨hS10, hl11⟩
  cases k8 with
  | zero => rw [ref06_gcd.l0] at hl11; cases hl11
  | succ k8 =>
   rw [ref06_gcd.l0] at hl11
   refine WC.seq (WC.seq (WC.region ?_))
   refine sg 2 [] [0, 1, 6] [(0, (iv x3)), (1, (iv x4)), (6, (bv (decide (x4 > 0))))] (by kernel_rfl) ?_
   refine WL.done rfl (WX.next ?_)
   rcases br_some hl11 with ⟨h12, hl11⟩ | ⟨h12, hl11⟩
   ·refine WC.condT2 (fun fb => by kernel_rfl) h12 ?_
    refine WC.skip (WX.next (WC.block ?_))
    obtain ⟨h15, hl11⟩ := as_some hl11
    refine WC.regionD ([], [0, 1, 2, 3, 4, 5], [[], [], [], [1, 2], [0, 1], [0, 1, 2, 3, 4]]) [[0, 1, 2, 3, 4, 5]] (by kernel_rfl) (by kernel_rfl) (NoPanic.block (NoPanic.seq (NoPanic.block (NoPanic.seq (NoPanic.body))))) ?_
    have hS14 := hS10.drew
    revert hS14
    generalize World.drew w9 = w13
    intro hS14
    refine ⟨trivial, forallC ?_ (forallN)⟩
    refine seg 6 [] [0, 1] [(0, (iv x4)), (1, (iv (Int.tmod x3 x4)))] [.ne x4] (fun fb => by kernel_rfl) rfl ⟨h15, trivial⟩ ?_
    refine WL.done rfl ?_
    exact WX.blockN (WX.again k8 (Nat.lt_succ_self _) (x4, Int.tmod x3 x4) [0, 1] rfl ⟨(hS14.subR []).sub [] (by decide), hl11⟩)
   refine WC.condF2 (fun fb => by kernel_rfl) h12 ?_
   refine WC.exit ?_
   injection hl11 with hl11
   exact WX.thenX (WX.thenX (WX.blockHere (WX.to Kx5 x3 [0] rfl ⟨(hS10.subR []).sub [] (by decide), hl11.symm⟩)))
 rintro y19 w16 ⟨hS17, hq18⟩
 subst hq18
 refine WX.next (WC.seq (WC.region ?_))
 refine sg 2 [] [4] [(4, (iv x5))] (by kernel_rfl) ?_
 refine WL.done rfl (WX.next ?_)
 refine WC.ret ?_
 injection hf with hf
 subst hf
 exact WX.ret_ [] (iv x5) [] (fun fb => by kernel_rfl) trivial ⟨_, rfl, rfl, hS17.keep⟩
theorem ref06_Lowest_calls (k : Nat) (p0 : Int) (p1 : Int)  (r : Frac) (w : World)  (hf : ref06_Lowest k p0 p1 = some r) :
  CallsR Tryz.prog 51 #[(iv p0), (iv p1)] w (fun v w' => v = (.agg #[(iv r.Num), (iv r.Den)]) ∧ Keeps NoS w w') := by
 have hS : St NoS w w [] [] := St.init (ro_nil _ _)
 refine enter 16 Tryz.func51 rfl Tryz.ntmps51 rfl ?_
 unfold ref06_Lowest at hf
 refine WC.seq (WC.region ?_)
 refine WL.new hS 4 [] (fun g => (pt g)) (.cells #[(iv 0), (iv 0)] 33 (0, 0)) [] (fun fb g => by kernel_rfl) trivial (fun g2 w3 hS4 => ?_)
 refine ⟨trivial, ?_⟩
 refine WL.done rfl (WX.next (WC.seq (WC.region ?_)))
 refine sg 2 [] [0, 1, 4, 6, 7] [(0, (iv p0)), (1, (iv p1)), (4, (pt g2)), (6, (iv p0)), (7, (iv p1))] (by kernel_rfl) ?_
 obtain ⟨t5, ht7, hf⟩ := bind_some hf
 refine WL.call (some 8) 52 #[(iv p0), (iv p1)] (fun fb => by kernel_rfl) (ref06_gcd_calls _ p0 p1 t5 _ ht7) (fun v w8 hR9 => ?_)
 obtain ⟨rfl, hk_⟩ := hR9
 have hS10 := hS4.keepN hk_
 refine ⟨trivial, ?_⟩
 refine sg 4 [] [0, 1, 4, 5] [(0, (iv p0)), (1, (iv p1)), (4, (pt g2)), (5, (iv t5))] (by kernel_rfl) ?_
 refine WL.done rfl (WX.next (WC.seq ?_))
 obtain ⟨h13, hf⟩ := as_some hf
 refine WC.regionD ([], [0, 1, 2, 3, 4, 5, 6], [[], [], [0, 1], [], [], [3, 4], [0, 1, 2, 3, 4, 5], [0, 1, 2, 3, 4, 5, 6]]) [[0, 1, 2, 3, 4, 5, 6, 7]] (by kernel_rfl) (by kernel_rfl) (NoPanic.seq (NoPanic.body)) ?_
 have hS12 := hS10.drew
 revert hS12
 generalize World.drew w8 = w11
 intro hS12
 refine ⟨trivial, forallC ?_ (forallN)⟩
 refine seg 7 [] [4, 15] [(4, (pt g2)), (15, (.agg #[(iv (w64 (Int.tdiv p0 t5))), (iv (w64 (Int.tdiv p1 t5)))]))] [.ne t5, .ne t5] (fun fb => by kernel_rfl) rfl ⟨h13, h13, trivial⟩ ?_
 refine WL.store hS12 0 rfl [(0, (iv (w64 (Int.tdiv p0 t5)))), (1, (iv (w64 (Int.tdiv p1 t5))))] #[(iv (w64 (Int.tdiv p0 t5))), (iv (w64 (Int.tdiv p1 t5)))] (fun fb => by kernel_rfl) (by kernel_rfl) rfl [] (by decide) (by decide) (fun w14 hS15 => ?_)
 refine ⟨trivial, ?_⟩
 refine WL.done rfl (WX.next ?_)
 refine WC.ret ?_
 injection hf with hf
 subst hf
 exact WX.ret_ [.v (iv (w64 (Int.tdiv p0 t5))), .v (iv (w64 (Int.tdiv p1 t5)))] (.agg #[(iv (w64 (Int.tdiv p0 t5))), (iv (w64 (Int.tdiv p1 t5)))]) [.cell ⟨g2, 0, none⟩ (iv (w64 (Int.tdiv p0 t5))), .cell ⟨g2, 1, none⟩ (iv (w64 (Int.tdiv p1 t5)))] (fun fb => by kernel_rfl) ⟨hS15.cell 0 rfl 0 rfl, hS15.cell 0 rfl 1 rfl, trivial⟩ ⟨_, rfl, rfl, hS15.keep⟩
theorem ref06_exponent_calls (k : Nat) (p0 : Int) (p1 : Int)  (r : Int × Int) (w : World)  (hf : ref06_exponent k p0 p1 = some r) :
  CallsR Tryz.prog 73 #[(iv p0), (iv p1)] w (fun v w' => v = (.tuple #[(iv r.1), (iv r.2)]) ∧ Keeps NoS w w') := by
 have hS : St NoS w w [] [] := St.init (ro_nil _ _)
 refine enter 18 Tryz.func73 rfl Tryz.ntmps73 rfl ?_
 unfold ref06_exponent at hf
 refine WC.seq (WC.region ?_)
 refine sg 2 [] [0, 1] [(0, (iv p0)), (1, (iv p1))] (by kernel_rfl) ?_
 refine WL.done rfl (WX.next (WC.seq (WC.region ?_)))
 refine sg 1 [] [0, 1, 6] [(0, (iv p0)), (1, (iv p1)), (6, (iv 0))] (by kernel_rfl) ?_
 refine WL.done rfl (WX.next (WC.seq ?_))
 obtain ⟨x5, hx7, hf⟩ := bind_some hf
 refine WC.cutN (T := Int × Int) (fun t => [(0, (iv t.1)), (6, (iv t.2))]) (fun t w1 => St NoS w w1 [] [] ∧ x5 = t) (fun Kx5 => ?_) ?_
 ·
  refine WC.block ?_
  refine WC.loop (T := Int × Int) (fun t => [(0, (iv t.1)), (1, (iv p1)), (6, (iv t.2))]) (fun n t w1 => St NoS w w1 [] [] ∧ ref06_exponent.l0 n t.1 t.2 p1 = some x5) k (p0, 0) [0, 1, 6] rfl ⟨(hS.subR []).sub [] (by decide), hx7⟩ ?_
  rintro k8 ⟨x3, x4⟩ w9 ⟨hS10, hl11⟩
  cases k8 with
  | zero => rw [ref06_exponent.l0] at hl11; cases hl11
  | succ k8 =>
   rw [ref06_exponent.l0] at hl11
   refine WC.seq (WC.seq (WC.region ?_))
   refine sg 2 [] [0, 1, 6, 7, 8] [(0, (iv x3)), (1, (iv p1)), (6, (iv x4)), (7, (iv x3)), (8, (iv p1))] (by kernel_rfl) ?_
   obtain ⟨h12, hl11⟩ := as_some hl11
   refine seg 4 [] [0, 1, 6, 10] [(0, (iv x3)), (1, (iv p1)), (6, (iv x4)), (10, (bv ((Int.tmod x3 p1) == 0)))] [.ne p1] (fun fb => by kernel_rfl) rfl ⟨h12, trivial⟩ ?_
   refine WL.done rfl (WX.next ?_)
   rcases br_some hl11 with ⟨h13, hl11⟩ | ⟨h13, hl11⟩
   ·refine WC.condT2 (fun fb => by kernel_rfl) h13 ?_
    refine WC.skip (WX.next (WC.block (WC.region ?_)))
    refine seg 7 [] [0, 1, 6] [(0, (iv (w64 (Int.tdiv x3 p1)))), (1, (iv p1)), (6, (iv (w64 (x4 + 1))))] [.ne p1] (fun fb => by kernel_rfl) rfl ⟨h12, trivial⟩ ?_
    refine WL.done rfl ?_
    exact WX.blockN (WX.again k8 (Nat.lt_succ_self _) (w64 (Int.tdiv x3 p1), w64 (x4 + 1)) [0, 1, 6] rfl ⟨(hS10.subR []).sub [] (by decide), hl11⟩)
   refine WC.condF2 (fun fb => by kernel_rfl) h13 ?_
   refine WC.exit ?_
   injection hl11 with hl11
   exact WX.thenX (WX.thenX (WX.blockHere (WX.to Kx5 (x3, x4) [0, 6] rfl ⟨(hS10.subR []).sub [] (by decide), hl11.symm⟩)))
 rintro y17 w14 ⟨hS15, hq16⟩
 subst hq16
 refine WX.next (WC.seq (WC.region ?_))
 refine sg 4 [] [4, 5] [(4, (iv x5.2)), (5, (iv x5.1))] (by kernel_rfl) ?_
 refine WL.done rfl (WX.next ?_)
 refine WC.ret ?_
 injection hf with hf
 subst hf
 exact WX.ret_ [] (.tuple #[(iv x5.2), (iv x5.1)]) [] (fun fb => by kernel_rfl) trivial ⟨_, rfl, rfl, hS15.keep⟩
theorem ref06_Grows_calls (k : Nat) (p0 : Frac) (p1 : Weights) (Aa : Option Addr) (ca : Nat) (Ab : Option Addr) (cb : Nat) (Ac : Option Addr) (cc : Nat) (Ad : Option Addr) (cd : Nat) (Ae : Option Addr) (ce : Nat) (r : Bool) (w : World) (hR0 : RO NoS w (rowR enc_Frac Aa ca p1.Values)) (hR1 : RO NoS w (rowR enc_Frac Ab cb p1.Carries)) (hR2 : RO NoS w (rowR enc_Frac Ac cc p1.Factors)) (hR3 : RO NoS w (rowR encInt Ad cd p1.Primes)) (hR4 : RO NoS w (rowR encInt Ae ce p1.Logs)) (hf : ref06_Grows k p0 p1 = some r) :
  CallsR Tryz.prog 45 #[(.agg #[(iv p0.Num), (iv p0.Den)]), (.agg #[(sv Aa p1.Values ca), (sv Ab p1.Carries cb), (sv Ac p1.Factors cc), (sv Ad p1.Primes cd), (sv Ae p1.Logs ce)])] w (fun v w' => v = (bv r) ∧ Keeps NoS w w') := by
 have hS : St NoS w w [rowR enc_Frac Aa ca p1.Values, rowR enc_Frac Ab cb p1.Carries, rowR enc_Frac Ac cc p1.Factors, rowR encInt Ad cd p1.Primes, rowR encInt Ae ce p1.Logs] [] := St.init (ro_cons hR0 (ro_cons hR1 (ro_cons hR2 (ro_cons hR3 (ro_cons hR4 (ro_nil _ _))))))
 refine enter 69 Tryz.func45 rfl Tryz.ntmps45 rfl ?_
 unfold ref06_Grows at hf
 refine WC.seq (WC.region ?_)
 refine WL.new hS 2 [] (fun g => (pt g)) (.cells #[(iv p0.Num), (iv p0.Den)] 33 (0, 0)) [] (fun fb g => by kernel_rfl) trivial (fun g5 w7 hS8 => ?_)
 refine ⟨trivial, ?_⟩
 refine WL.new hS8 3 [] (fun g => (pt g)) (.cells #[(sv Aa p1.Values ca), (sv Ab p1.Carries cb), (sv Ac p1.Factors cc), (sv Ad p1.Primes cd), (sv Ae p1.Logs ce)] 26 (0, 0)) [] (fun fb g => by kernel_rfl) trivial (fun g9 w10 hS11 => ?_)
 refine ⟨trivial, ?_⟩
 refine sg 3 [] [2, 3] [(2, (pt g5)), (3, (pt g9))] (by kernel_rfl) ?_
 refine WL.done rfl (WX.next (WC.seq (WC.region ?_)))
 refine seg 4 [.v (iv p0.Num), .v (iv p0.Den)] [3, 13, 15] [(3, (pt g9)), (13, (iv p0.Num)), (15, (iv p0.Den))] [.cell ⟨g5, 0, none⟩ (iv p0.Num), .cell ⟨g5, 1, none⟩ (iv p0.Den)] (fun fb => by kernel_rfl) rfl ⟨hS11.cell 1 rfl 0 rfl, hS11.cell 1 rfl 1 rfl, trivial⟩ ?_
 obtain ⟨t12, ht13, hf⟩ := bind_some hf
 refine WL.call (some 16) 51 #[(iv p0.Num), (iv p0.Den)] (fun fb => by kernel_rfl) (ref06_Lowest_calls _ p0.Num p0.Den t12 _ ht13) (fun v w14 hR15 => ?_)
 obtain ⟨rfl, hk_⟩ := hR15
 have hS16 := hS11.keepN hk_
 refine ⟨trivial, ?_⟩
 refine WL.new hS16 5 [] (fun g => (pt g)) (.cells #[(iv 0), (iv 0)] 33 (0, 0)) [] (fun fb g => by kernel_rfl) trivial (fun g17 w18 hS19 => ?_)
 refine ⟨trivial, ?_⟩
 refine WL.store hS19 0 rfl [(0, (iv t12.Num)), (1, (iv t12.Den))] #[(iv t12.Num), (iv t12.Den)] (fun fb => by kernel_rfl) (by kernel_rfl) rfl [1, 2] (by decide) (by decide) (fun w20 hS21 => ?_)
 refine ⟨trivial, ?_⟩
 refine WL.done rfl (WX.next (WC.seq ?_))
 refine WC.regionD ([(1, ⟨g17, 0, none⟩, (iv t12.Num)), (3, ⟨g17, 1, none⟩, (iv t12.Den))], [0, 1, 2, 3, 4, 5, 6], [[], [0], [], [2], [0, 1], [0, 1, 2, 3, 4], [0, 1, 2, 3, 4, 5]]) [[0, 1, 2, 3, 4, 5, 6]] (by kernel_rfl) (by kernel_rfl) (NoPanic.seq (NoPanic.body)) ?_
 have hS23 := hS21.drew
 revert hS23
 generalize World.drew w20 = w22
 intro hS23
 refine ⟨⟨hS23.cell 0 rfl 0 rfl, hS23.cell 0 rfl 1 rfl, trivial⟩, forallC ?_ (forallN)⟩
 refine segF 7 [.v (iv t12.Num), .v (iv t12.Den)] [3, 6, 7, 8] [(3, (pt g9)), (6, (iv t12.Num)), (7, (iv t12.Den)), (8, (iv 0))] [] [0, 1] [(1, ⟨g17, 0, none⟩, (iv t12.Num)), (3, ⟨g17, 1, none⟩, (iv t12.Den))] (fun fb => by kernel_rfl) rfl trivial rfl ?_
 refine WL.done rfl (WX.next (WC.seq (WC.seq (WC.region ?_))))
 refine sg 1 [] [3, 6, 7, 8, 9] [(3, (pt g9)), (6, (iv t12.Num)), (7, (iv t12.Den)), (8, (iv 0)), (9, (iv 0))] (by kernel_rfl) ?_
 refine WL.done rfl (WX.next ?_)
 obtain ⟨x28, hx29, hf⟩ := bind_some hf
 let e2 : List Own := [rowR enc_Frac Aa ca p1.Values, rowR enc_Frac Ab cb p1.Carries, rowR enc_Frac Ac cc p1.Factors, rowR encInt Ad cd p1.Primes, rowR encInt Ae ce p1.Logs]
 let e3 := sv Ad p1.Primes cd
 let e4 : Nat × Value := (3, (pt g9))
 refine WC.cutN (T := Int × Int × Int) (fun t => [(6, (iv t.1)), (7, (iv t.2.1)), (8, (iv t.2.2))]) (fun t w1 => St NoS w w1 e2 [] ∧ x28 = t) (fun Kx28 => ?_) ?_
 ·
  refine WC.block ?_
  refine WC.loop (T := Int × Int × Int × Int) (fun t => [e4, (6, (iv t.1)), (7, (iv t.2.1)), (8, (iv t.2.2.1)), (9, (iv t.2.2.2))]) (fun n t w1 => St NoS w w1 e2 [blk g9 (.cells #[(sv Aa p1.Values ca), (sv Ab p1.Carries cb), (sv Ac p1.Factors cc), e3, (sv Ae p1.Logs ce)] 26 (0, 0))] ∧ ref06_Grows.l0 n t.1 t.2.1 t.2.2.1 t.2.2.2 p1 = some x28) k (t12.Num, t12.Den, 0, 0) [3, 6, 7, 8, 9] rfl ⟨(hS23.subR [0, 1, 2, 3, 4]).sub [1] (by decide), hx29⟩ ?_
  rintro k30 ⟨x24, x25, x26, x27⟩ w31 ⟨hS32, hl33⟩
  let e1 := rdD p1.Primes x27 0
  let e5 : Nat × Value := (9, (iv x27))
  let e6 := rdD p1.Logs x27 0
  let e7 : Nat × Value := (8, (iv x26))
  cases k30 with
  | zero => rw [ref06_Grows.l0] at hl33; cases hl33
  | succ k30 =>
   rw [ref06_Grows.l0] at hl33
   refine WC.seq (WC.seq (WC.region ?_))
   refine seg 5 [.v e3] [3, 6, 7, 8, 9, 25] [e4, (6, (iv x24)), (7, (iv x25)), e7, e5, (25, (bv (decide (x27 < (p1.Primes.length : Int)))))] [.cell ⟨g9, 3, none⟩ e3] (fun fb => by kernel_rfl) rfl ⟨hS32.cell 0 rfl 3 rfl, trivial⟩ ?_
   refine WL.done rfl (WX.next ?_)
   rcases br_some hl33 with ⟨h34, hl33⟩ | ⟨h34, hl33⟩
   ·refine WC.condT2 (fun fb => by kernel_rfl) h34 ?_
    refine WC.skip (WX.next (WC.seq (WC.block (WC.seq (WC.region ?_)))))
    refine sg 2 [] [3, 6, 7, 8, 9] [e4, (6, (iv x24)), (7, (iv x25)), e7, e5] (by kernel_rfl) ?_
    refine WL.done rfl (WX.next (WC.seq (WC.region ?_)))
    refine seg 4 [.v e3] [3, 7, 8, 9, 29, 31, 32] [e4, (7, (iv x25)), e7, e5, (29, (iv x24)), (31, e3), (32, (iv x27))] [.cell ⟨g9, 3, none⟩ e3] (fun fb => by kernel_rfl) rfl ⟨hS32.cell 0 rfl 3 rfl, trivial⟩ ?_
    obtain ⟨h35, hl33⟩ := as_some hl33
    refine seg 6 [.v (iv e1)] [3, 7, 8, 9, 29, 34] [e4, (7, (iv x25)), e7, e5, (29, (iv x24)), (34, (iv e1))] [.idx Ad x27 p1.Primes.length, .cell ((adr Ad).add ((x27).toNat * 1)) (iv e1)] (fun fb => by kernel_rfl) rfl ⟨rowR.adr (hS32.rd 3).1 h35.1 h35.2, rowR.cell (hS32.rd 3).1 0 h35.1 h35.2 0 rfl, trivial⟩ ?_
    obtain ⟨t36, ht37, hl33⟩ := bind_some hl33
    refine WL.call (some 35) 73 #[(iv x24), (iv e1)] (fun fb => by kernel_rfl) (ref06_exponent_calls _ x24 e1 t36 _ ht37) (fun v w38 hR39 => ?_)
    obtain ⟨rfl, hk_⟩ := hR39
    have hS40 := hS32.keepN hk_
    refine ⟨trivial, ?_⟩
    refine sg 12 [] [3, 6, 7, 8, 9, 10] [e4, (6, (iv t36.2)), (7, (iv x25)), e7, e5, (10, (iv t36.1))] (by kernel_rfl) ?_
    refine WL.done rfl (WX.next (WC.seq (WC.region ?_)))
    refine seg 6 [.v e3, .v (iv e1)] [3, 6, 8, 9, 10, 39, 44] [e4, (6, (iv t36.2)), e7, e5, (10, (iv t36.1)), (39, (iv x25)), (44, (iv e1))] [.cell ⟨g9, 3, none⟩ e3, .idx Ad x27 p1.Primes.length, .cell ((adr Ad).add ((x27).toNat * 1)) (iv e1)] (fun fb => by kernel_rfl) rfl ⟨hS40.cell 0 rfl 3 rfl, rowR.adr (hS40.rd 3).1 h35.1 h35.2, rowR.cell (hS40.rd 3).1 0 h35.1 h35.2 0 rfl, trivial⟩ ?_
    obtain ⟨t41, ht42, hl33⟩ := bind_some hl33
    refine WL.call (some 45) 73 #[(iv x25), (iv e1)] (fun fb => by kernel_rfl) (ref06_exponent_calls _ x25 e1 t41 _ ht42) (fun v w43 hR44 => ?_)
    obtain ⟨rfl, hk_⟩ := hR44
    have hS46 := hS40.keepN hk_
    refine ⟨trivial, ?_⟩
    refine sg 12 [] [3, 6, 7, 8, 9, 10, 11] [e4, (6, (iv t36.2)), (7, (iv t41.2)), e7, e5, (10, (iv t36.1)), (11, (iv t41.1))] (by kernel_rfl) ?_
    refine WL.done rfl (WX.next (WC.region ?_))
    refine seg 7 [.v (sv Ae p1.Logs ce)] [3, 6, 7, 9, 48, 51, 53, 54] [e4, (6, (iv t36.2)), (7, (iv t41.2)), e5, (48, (iv x26)), (51, (iv (w64 (t36.1 - t41.1)))), (53, (sv Ae p1.Logs ce)), (54, (iv x27))] [.cell ⟨g9, 4, none⟩ (sv Ae p1.Logs ce)] (fun fb => by kernel_rfl) rfl ⟨hS46.cell 0 rfl 4 rfl, trivial⟩ ?_
    obtain ⟨h47, hl33⟩ := as_some hl33
    refine seg 12 [.v (iv e6)] [3, 6, 7, 8, 9] [e4, (6, (iv t36.2)), (7, (iv t41.2)), (8, (iv (w64 (x26 + (w64 ((w64 (t36.1 - t41.1)) * e6)))))), e5] [.idx Ae x27 p1.Logs.length, .cell ((adr Ae).add ((x27).toNat * 1)) (iv e6)] (fun fb => by kernel_rfl) rfl ⟨rowR.adr (hS46.rd 4).1 h47.1 h47.2, rowR.cell (hS46.rd 4).1 0 h47.1 h47.2 0 rfl, trivial⟩ ?_
    refine WL.done rfl ?_
    refine WX.blockN (WX.next ?_)
    refine WC.region ?_
    refine sg 3 [] [3, 6, 7, 8, 9] [e4, (6, (iv t36.2)), (7, (iv t41.2)), (8, (iv (w64 (x26 + (w64 ((w64 (t36.1 - t41.1)) * e6)))))), (9, (iv (w64 (x27 + 1))))] (by kernel_rfl) ?_
    refine WL.done rfl ?_
    exact WX.again k30 (Nat.lt_succ_self _) (t36.2, t41.2, w64 (x26 + (w64 ((w64 (t36.1 - t41.1)) * e6))), w64 (x27 + 1)) [3, 6, 7, 8, 9] rfl ⟨(hS46.subR [0, 1, 2, 3, 4]).sub [0] (by decide), hl33⟩
   refine WC.condF2 (fun fb => by kernel_rfl) h34 ?_
   refine WC.exit ?_
   injection hl33 with hl33
   exact WX.thenX (WX.thenX (WX.blockHere (WX.to Kx28 (x24, x25, x26) [6, 7, 8] rfl ⟨(hS32.subR [0, 1, 2, 3, 4]).sub [] (by decide), hl33.symm⟩)))
 rintro y51 w48 ⟨hS49, hq50⟩
 subst hq50
 refine WX.next (WC.seq (WC.region ?_))
 refine sg 3 [] [7, 8, 61] [(7, (iv x28.2.1)), (8, (iv x28.2.2)), (61, (bv (x28.1 == 1)))] (by kernel_rfl) ?_
 refine WL.cutV (T := Bool) 6 (fun t => [(64, (bv t)), (8, (iv x28.2.2))]) (fun t => ((x28.1 == 1) && (x28.2.1 == 1)) = t) (fun K => ?_) ?_
 ·
  rcases Bool.eq_false_or_eq_true (x28.1 == 1) with h52 | h52
  ·
   refine WL.setB 61 h52 rfl ?_
   refine sg 6 [] [8, 64] [(8, (iv x28.2.2)), (64, (bv (x28.2.1 == 1)))] (by kernel_rfl) ?_
   exact WL.toV K (x28.2.1 == 1) [64, 8] rfl (by first | (rw [h52]; done) | (rw [h52]; rfl))
  refine WL.setB 61 h52 rfl ?_
  refine sg 6 [] [8, 64] [(8, (iv x28.2.2)), (64, (bv false))] (by kernel_rfl) ?_
  exact WL.toV K false [64, 8] rfl (by first | (rw [h52]; done) | (rw [h52]; rfl))
 rintro b53 rfl
 refine sg 7 [] [8, 65] [(8, (iv x28.2.2)), (65, (bv ((x28.1 == 1) && (x28.2.1 == 1))))] (by kernel_rfl) ?_
 refine WL.cutV (T := Bool) 10 (fun t => [(68, (bv t))]) (fun t => (((x28.1 == 1) && (x28.2.1 == 1)) && (decide (x28.2.2 > 0))) = t) (fun K => ?_) ?_
 ·
  rcases Bool.eq_false_or_eq_true ((x28.1 == 1) && (x28.2.1 == 1)) with h54 | h54
  ·
   refine WL.setB 65 h54 rfl ?_
   refine sg 10 [] [68] [(68, (bv (decide (x28.2.2 > 0))))] (by kernel_rfl) ?_
   exact WL.toV K (decide (x28.2.2 > 0)) [68] rfl (by first | (rw [h54]; done) | (rw [h54]; rfl))
  refine WL.setB 65 h54 rfl ?_
  refine sg 10 [] [68] [(68, (bv false))] (by kernel_rfl) ?_
  exact WL.toV K false [68] rfl (by first | (rw [h54]; done) | (rw [h54]; rfl))
 rintro b55 rfl
 refine sg 11 [] [4] [(4, (bv (((x28.1 == 1) && (x28.2.1 == 1)) && (decide (x28.2.2 > 0)))))] (by kernel_rfl) ?_
 refine WL.done rfl (WX.next ?_)
 refine WC.ret ?_
 injection hf with hf
 subst hf
 exact WX.ret_ [] (bv (((x28.1 == 1) && (x28.2.1 == 1)) && (decide (x28.2.2 > 0)))) [] (fun fb => by kernel_rfl) trivial ⟨_, rfl, rfl, hS49.keep⟩
theorem ref06_Same_calls (p0 : Frac) (p1 : Frac)  (r : Bool) (w : World)  (hf : ref06_Same p0 p1 = some r) :
  CallsR Tryz.prog 46 #[(.agg #[(iv p0.Num), (iv p0.Den)]), (.agg #[(iv p1.Num), (iv p1.Den)])] w (fun v w' => v = (bv r) ∧ Keeps NoS w w') := by
 have hS : St NoS w w [] [] := St.init (ro_nil _ _)
 refine enter 16 Tryz.func46 rfl Tryz.ntmps46 rfl ?_
 unfold ref06_Same at hf
 refine WC.seq (WC.region ?_)
 refine WL.new hS 2 [] (fun g => (pt g)) (.cells #[(iv p0.Num), (iv p0.Den)] 33 (0, 0)) [] (fun fb g => by kernel_rfl) trivial (fun g2 w3 hS4 => ?_)
 refine ⟨trivial, ?_⟩
 refine WL.new hS4 3 [] (fun g => (pt g)) (.cells #[(iv p1.Num), (iv p1.Den)] 33 (0, 0)) [] (fun fb g => by kernel_rfl) trivial (fun g5 w7 hS8 => ?_)
 refine ⟨trivial, ?_⟩
 refine sg 3 [] [2, 3] [(2, (pt g2)), (3, (pt g5))] (by kernel_rfl) ?_
 refine WL.done rfl (WX.next (WC.seq (WC.region ?_)))
 refine seg 12 [.v (iv p0.Num), .v (iv p1.Den), .v (iv p1.Num), .v (iv p0.Den)] [4] [(4, (bv ((w64 (p0.Num * p1.Den)) == (w64 (p1.Num * p0.Den)))))] [.cell ⟨g2, 0, none⟩ (iv p0.Num), .cell ⟨g5, 1, none⟩ (iv p1.Den), .cell ⟨g5, 0, none⟩ (iv p1.Num), .cell ⟨g2, 1, none⟩ (iv p0.Den)] (fun fb => by kernel_rfl) rfl ⟨hS8.cell 1 rfl 0 rfl, hS8.cell 0 rfl 1 rfl, hS8.cell 0 rfl 0 rfl, hS8.cell 1 rfl 1 rfl, trivial⟩ ?_
 refine WL.done rfl (WX.next ?_)
 refine WC.ret ?_
 injection hf with hf
 subst hf
 exact WX.ret_ [] (bv ((w64 (p0.Num * p1.Den)) == (w64 (p1.Num * p0.Den)))) [] (fun fb => by kernel_rfl) trivial ⟨_, rfl, rfl, hS8.keep⟩
theorem ref06_circle_calls (k : Nat) (p0 : List Tile) (p1 : Weights) (Aa : Option Addr) (ca : Nat) (Ab : Option Addr) (cb : Nat) (Ac : Option Addr) (cc : Nat) (Ad : Option Addr) (cd : Nat) (Ae : Option Addr) (ce : Nat) (Af : Option Addr) (cf : Nat) (r : Bool) (w : World) (hR0 : RO NoS w (rowR enc_Tile Aa ca p0)) (hR1 : RO NoS w (rowR enc_Frac Ab cb p1.Values)) (hR2 : RO NoS w (rowR enc_Frac Ac cc p1.Carries)) (hR3 : RO NoS w (rowR enc_Frac Ad cd p1.Factors)) (hR4 : RO NoS w (rowR encInt Ae ce p1.Primes)) (hR5 : RO NoS w (rowR encInt Af cf p1.Logs)) (hf : ref06_circle k p0 p1 = some r) :
  CallsR Tryz.prog 47 #[(sv Aa p0 ca), (.agg #[(sv Ab p1.Values cb), (sv Ac p1.Carries cc), (sv Ad p1.Factors cd), (sv Ae p1.Primes ce), (sv Af p1.Logs cf)])] w (fun v w' => v = (bv r) ∧ Keeps NoS w w') := by
 have hS : St NoS w w [rowR enc_Tile Aa ca p0, rowR enc_Frac Ab cb p1.Values, rowR enc_Frac Ac cc p1.Carries, rowR enc_Frac Ad cd p1.Factors, rowR encInt Ae ce p1.Primes, rowR encInt Af cf p1.Logs] [] := St.init (ro_cons hR0 (ro_cons hR1 (ro_cons hR2 (ro_cons hR3 (ro_cons hR4 (ro_cons hR5 (ro_nil _ _)))))))
 refine enter 100 Tryz.func47 rfl Tryz.ntmps47 rfl ?_
 unfold ref06_circle at hf
 refine WC.seq (WC.region ?_)
 refine WL.new hS 3 [] (fun g => (pt g)) (.cells #[(sv Ab p1.Values cb), (sv Ac p1.Carries cc), (sv Ad p1.Factors cd), (sv Ae p1.Primes ce), (sv Af p1.Logs cf)] 26 (0, 0)) [] (fun fb g => by kernel_rfl) trivial (fun g7 w8 hS9 => ?_)
 refine ⟨trivial, ?_⟩
 refine sg 2 [] [0, 3] [(0, (sv Aa p0 ca)), (3, (pt g7))] (by kernel_rfl) ?_
 refine WL.done rfl (WX.next (WC.seq (WC.region ?_)))
 refine sg 2 [] [0, 3, 13] [(0, (sv Aa p0 ca)), (3, (pt g7)), (13, (iv (p0.length : Int)))] (by kernel_rfl) ?_
 obtain ⟨h10, hf⟩ := as_some hf
 refine WL.make hS9 (e := encBool) (T := 4) (tS := 102) (z := (bv false)) (bytes := 1) (d := 14) (false : Bool) (p0.length : Int) (fun fb => by kernel_rfl) (by kernel_rfl) (by kernel_rfl) rfl (by decide) h10 (by decide) (fun g11 w12 hS13 => ?_)
 refine ⟨trivial, ?_⟩
 refine sg 4 [] [0, 3, 5] [(0, (sv Aa p0 ca)), (3, (pt g7)), (5, (sv (some ⟨g11, 0, none⟩) (List.replicate (p0.length : Int).toNat (false : Bool)) ((p0.length : Int).toNat)))] (by kernel_rfl) ?_
 refine WL.done rfl (WX.next (WC.seq (WC.seq (WC.region ?_))))
 refine sg 1 [] [0, 3, 5, 6] [(0, (sv Aa p0 ca)), (3, (pt g7)), (5, (sv (some ⟨g11, 0, none⟩) (List.replicate (p0.length : Int).toNat (false : Bool)) ((p0.length : Int).toNat))), (6, (iv 0))] (by kernel_rfl) ?_
 refine WL.done rfl (WX.next ?_)
 obtain ⟨x20, hx21, hf⟩ := bind_some hf
 let e11 : List Own := [rowR enc_Tile Aa ca p0, rowR enc_Frac Ab cb p1.Values, rowR enc_Frac Ac cc p1.Carries, rowR enc_Frac Ad cd p1.Factors, rowR encInt Ae ce p1.Primes, rowR encInt Af cf p1.Logs]
 let e23 : Nat × Value := (0, (sv Aa p0 ca))
 refine WC.cutN (T := (List Bool) × (Option Addr) × Nat) (fun t => [e23, (5, (sv t.2.1 t.1 t.2.2))]) (fun t w1 => St NoS w w1 e11 [rowO 4 encBool t.2.1 t.2.2 t.1] ∧ x20 = t.1) (fun Kx20 => ?_) ?_
 ·
  refine WC.block ?_
  refine WC.loop (T := ((List Bool) × Int) × (Option Addr) × Nat) (fun t => [e23, (3, (pt g7)), (5, (sv t.2.1 t.1.1 t.2.2)), (6, (iv t.1.2))]) (fun n t w1 => St NoS w w1 e11 [blk g7 (.cells #[(sv Ab p1.Values cb), (sv Ac p1.Carries cc), (sv Ad p1.Factors cd), (sv Ae p1.Primes ce), (sv Af p1.Logs cf)] 26 (0, 0)), rowO 4 encBool t.2.1 t.2.2 t.1.1] ∧ ref06_circle.l0 n t.1.1 t.1.2 p0 p1 = some x20) k (((List.replicate (p0.length : Int).toNat (false : Bool)), 0), (some ⟨g11, 0, none⟩), (p0.length : Int).toNat) [0, 3, 5, 6] rfl ⟨(hS13.subR [0, 1, 2, 3, 4, 5]).sub [1, 0] (by decide), hx21⟩ ?_
  rintro k22 ⟨⟨l16, x17⟩, A14, c15⟩ w23 ⟨hS24, hl25⟩
  let e5 := (rdD p1.Values ((rdD p0 x17 z_Tile).S) z_Frac).Num
  let e8 : List (Nat × Addr × Value) := [(3, ⟨g7, 0, none⟩, (sv Ab p1.Values cb)), (8, (((adr Aa).add ((x17).toNat * 4)).add 2), (iv ((rdD p0 x17 z_Tile).S))), (11, ((adr Ab).add (((rdD p0 x17 z_Tile).S).toNat * 2)), (iv e5))]
  cases k22 with
  | zero => rw [ref06_circle.l0] at hl25; cases hl25
  | succ k22 =>
   rw [ref06_circle.l0] at hl25
   refine WC.seq (WC.seq (WC.region ?_))
   refine sg 4 [] [0, 3, 5, 6, 18] [e23, (3, (pt g7)), (5, (sv A14 l16 c15)), (6, (iv x17)), (18, (bv (decide (x17 < (p0.length : Int)))))] (by kernel_rfl) ?_
   refine WL.done rfl (WX.next ?_)
   rcases br_some hl25 with ⟨h26, hl25⟩ | ⟨h26, hl25⟩
   ·refine WC.condT2 (fun fb => by kernel_rfl) h26 ?_
    refine WC.skip (WX.next (WC.seq (WC.block ?_)))
    obtain ⟨h29, hl25⟩ := as_some hl25
    obtain ⟨h30, hl25⟩ := as_some hl25
    obtain ⟨h31, hl25⟩ := as_some hl25
    refine WC.regionD (e8, [0, 1, 2, 3, 4, 5, 6, 7, 8, 9, 10, 11, 12, 13], [[], [], [], [2], [], [], [4, 5], [4, 5, 6], [4, 5, 6, 7], [2, 3, 4, 5, 6, 7, 8], [2, 3, 4, 5, 6, 7, 8, 9], [2, 3, 4, 5, 6, 7, 8, 9, 10], [2, 3, 4, 5, 6, 7, 8, 9, 10, 11], [0, 1, 2, 3, 4, 5, 6, 7, 8, 9, 10, 11, 12], [0, 1, 2, 3, 4, 5, 6, 7, 8, 9, 10, 11, 12, 13]]) [[0, 1, 2, 3, 4, 5, 6, 7, 8, 9, 10, 11, 12, 13, 14]] (by kernel_rfl) (by kernel_rfl) (NoPanic.block (NoPanic.seq (NoPanic.seq (NoPanic.block (NoPanic.seq (NoPanic.body)))))) ?_
    have hS28 := hS24.drew
    revert hS28
    generalize World.drew w23 = w27
    intro hS28
    refine ⟨⟨hS28.cell 0 rfl 0 rfl, rowR.cell (hS28.rd 0).1 z_Tile h29.1 h29.2 2 rfl, rowR.cell (hS28.rd 1).1 z_Frac h30.1 h30.2 0 rfl, trivial⟩, forallC ?_ (forallN)⟩
    refine segF 14 [.v (sv Ab p1.Values cb), .v (iv ((rdD p0 x17 z_Tile).S)), .v (iv e5)] [0, 3, 5, 6, 33, 34] [e23, (3, (pt g7)), (5, (sv A14 l16 c15)), (6, (iv x17)), (33, (bv (e5 == 0))), (34, (.pointer (some ((adr A14).add ((x17).toNat * 1)))))] [.idx Aa x17 p0.length, .idx Ab ((rdD p0 x17 z_Tile).S) p1.Values.length, .idx A14 x17 l16.length] [0, 1, 2] e8 (fun fb => by kernel_rfl) rfl ⟨rowR.adr (hS28.rd 0).1 h29.1 h29.2, rowR.adr (hS28.rd 1).1 h30.1 h30.2, rowR.adr (rowO.rd (hS28.own 1).1) h31.1 h31.2, trivial⟩ rfl ?_
    refine WL.storeRow hS28 1 rfl (x17) (e5 == 0) (false) [(0, (bv (e5 == 0)))] (fun fb => by kernel_rfl) h31.1 h31.2 (by kernel_rfl) rfl [0] (by decide) (by decide) (fun w32 hS33 => ?_)
    refine ⟨trivial, ?_⟩
    refine WL.reE [0, 3, 5, 6] [(0, (.slice Aa p0.length ca)), (3, (pt g7)), (5, (.slice A14 l16.length c15)), (6, (iv x17))] [(0, (.slice Aa p0.length ca)), (3, (pt g7)), (5, (.slice A14 (l16.set (x17).toNat (((rdD p1.Values ((rdD p0 x17 z_Tile).S) z_Frac).Num) == 0)).length c15)), (6, (iv x17))] rfl (by simp only [List.length_set]) ?_
    refine WL.done rfl ?_
    refine WX.blockN (WX.next ?_)
    refine WC.region ?_
    refine sg 3 [] [0, 3, 5, 6] [e23, (3, (pt g7)), (5, (sv A14 (l16.set (x17).toNat (e5 == 0)) c15)), (6, (iv (w64 (x17 + 1))))] (by kernel_rfl) ?_
    refine WL.done rfl ?_
    exact WX.again k22 (Nat.lt_succ_self _) ((l16.set (x17).toNat (e5 == 0), w64 (x17 + 1)), A14, c15) [0, 3, 5, 6] rfl ⟨(hS33.subR [0, 1, 2, 3, 4, 5]).sub [1, 0] (by decide), hl25⟩
   refine WC.condF2 (fun fb => by kernel_rfl) h26 ?_
   refine WC.exit ?_
   injection hl25 with hl25
   exact WX.thenX (WX.thenX (WX.blockHere (WX.to Kx20 (l16, A14, c15) [0, 5] rfl ⟨(hS24.subR [0, 1, 2, 3, 4, 5]).sub [1] (by decide), hl25.symm⟩)))
 rintro ⟨y37, A18, c19⟩ w34 ⟨hS35, hq36⟩
 subst hq36
 refine WX.next (WC.seq (WC.seq (WC.region ?_)))
 refine sg 1 [] [0, 5, 7] [e23, (5, (sv A18 x20 c19)), (7, (iv 0))] (by kernel_rfl) ?_
 refine WL.done rfl (WX.next ?_)
 obtain ⟨x44, hx45, hf⟩ := bind_some hf
 let e1 : List Own := e11
 let e2 := [[], [], [], [], [2, 3], [2, 3, 4], [2, 3, 4, 5], [2, 3, 4, 5, 6], [2, 3, 4, 5, 6], [2, 3, 4, 5, 6, 7, 8], [2, 3, 4, 5, 6, 7, 8, 9], [2, 3, 4, 5, 6, 7, 8, 9, 10], [2, 3, 4, 5, 6], [2, 3, 4, 5, 6], [2, 3, 4, 5, 6, 12, 13], [2, 3, 4, 5, 6, 12, 13, 14], [2, 3, 4, 5, 6, 12, 13, 14, 15], [2, 3, 4, 5, 6, 7, 8, 9, 10, 11, 12, 13, 14, 15, 16], [2, 3, 4, 5, 6, 7, 8, 9, 10, 11, 12, 13, 14, 15, 16, 17], [0, 1, 2, 3, 4, 5, 6, 7, 8, 9, 10, 11, 12, 13, 14, 15, 16, 17, 18], [0, 1, 2, 3, 4, 5, 6, 7, 8, 9, 10, 11, 12, 13, 14, 15, 16, 17, 18, 19]]
 let e3 : Nat × Value := e23
 let e12 : List Nat := [0, 1, 2, 3, 4, 5]
 let e14 := (p0.length : Int)
 let e16 : List Nat := [0, 5, 7, 8, 9, 10]
 let e17 := (List.replicate e14.toNat (false : Bool))
 let e18 := [[0, 1, 2, 3, 4, 5, 6, 7, 8, 9, 10, 11, 12, 13, 14, 15, 16, 17, 18, 19, 20]]
 let e21 : List Nat := [0, 1, 2, 3, 4, 5, 6, 7, 8, 9, 10, 11, 12, 13, 14, 15, 16, 17, 18, 19]
 let e24 := Option Addr
 refine WC.cutN (T := (List Bool) × e24 × Nat) (fun t => [e3, (5, (sv t.2.1 t.1 t.2.2))]) (fun t w1 => St NoS w w1 e1 [rowO 4 encBool t.2.1 t.2.2 t.1] ∧ x44 = t.1) (fun Kx44 => ?_) ?_
 ·
  refine WC.block ?_
  refine WC.loop (T := ((List Bool) × Int) × e24 × Nat) (fun t => [e3, (5, (sv t.2.1 t.1.1 t.2.2)), (7, (iv t.1.2))]) (fun n t w1 => St NoS w w1 e1 [rowO 4 encBool t.2.1 t.2.2 t.1.1] ∧ ref06_circle.l1 n t.1.1 t.1.2 p0 = some x44) k ((x20, 0), A18, c19) [0, 5, 7] rfl ⟨(hS35.subR e12).sub [0] (by decide), hx45⟩ ?_
  rintro k46 ⟨⟨l40, x41⟩, A38, c39⟩ w48 ⟨hS49, hl50⟩
  let e4 : Nat × Value := (5, (sv A38 l40 c39))
  let e6 : Nat × Value := (7, (iv x41))
  cases k46 with
  | zero => rw [ref06_circle.l1] at hl50; cases hl50
  | succ k46 =>
   rw [ref06_circle.l1] at hl50
   refine WC.seq (WC.seq (WC.region ?_))
   refine sg 4 [] [0, 5, 7, 38] [e3, e4, e6, (38, (bv (decide (x41 ≤ e14))))] (by kernel_rfl) ?_
   refine WL.done rfl (WX.next ?_)
   rcases br_some hl50 with ⟨h51, hl50⟩ | ⟨h51, hl50⟩
   ·refine WC.condT2 (fun fb => by kernel_rfl) h51 ?_
    refine WC.skip (WX.next (WC.seq (WC.block (WC.seq (WC.region ?_)))))
    refine sg 2 [] [0, 5, 7, 42] [e3, e4, e6, (42, (iv e14))] (by kernel_rfl) ?_
    obtain ⟨h52, hl50⟩ := as_some hl50
    refine WL.make hS49 (e := encBool) (T := 4) (tS := 102) (z := (bv false)) (bytes := 1) (d := 43) (false : Bool) e14 (fun fb => by kernel_rfl) (by kernel_rfl) (by kernel_rfl) rfl (by decide) h52 (by decide) (fun g53 w54 hS55 => ?_)
    refine ⟨trivial, ?_⟩
    refine sg 4 [] [0, 5, 7, 8] [e3, e4, e6, (8, (sv (some ⟨g53, 0, none⟩) e17 (e14.toNat)))] (by kernel_rfl) ?_
    refine WL.done rfl (WX.next (WC.seq (WC.seq (WC.region ?_))))
    refine sg 1 [] [0, 5, 7, 8, 9] [e3, e4, e6, (8, (sv (some ⟨g53, 0, none⟩) e17 (e14.toNat))), (9, (iv 0))] (by kernel_rfl) ?_
    refine WL.done rfl (WX.next ?_)
    obtain ⟨x62, hx63, hl50⟩ := bind_some hl50
    refine WC.cutN (T := (List Bool) × e24 × Nat) (fun t => [e3, e6, (8, (sv t.2.1 t.1 t.2.2))]) (fun t w1 => St NoS w w1 e1 [rowO 4 encBool t.2.1 t.2.2 t.1] ∧ x62 = t.1) (fun Kx62 => ?_) ?_
    ·
     refine WC.block ?_
     refine WC.loop (T := ((List Bool) × Int) × e24 × Nat) (fun t => [e3, e4, e6, (8, (sv t.2.1 t.1.1 t.2.2)), (9, (iv t.1.2))]) (fun n t w1 => St NoS w w1 e1 [rowO 4 encBool A38 c39 l40, rowO 4 encBool t.2.1 t.2.2 t.1.1] ∧ ref06_circle.l2 n t.1.1 t.1.2 p0 l40 = some x62) k46 ((e17, 0), (some ⟨g53, 0, none⟩), e14.toNat) [0, 5, 7, 8, 9] rfl ⟨(hS55.subR e12).sub [1, 0] (by decide), hx63⟩ ?_
     rintro k65 ⟨⟨l58, x59⟩, A56, c57⟩ w66 ⟨hS67, hl68⟩
     let e9 : Nat × Value := (9, (iv x59))
     let e20 : Nat × Addr × Value := (11, (((adr Aa).add ((x59).toNat * 4)).add 1), (iv ((rdD p0 x59 z_Tile).E)))
     cases k65 with
     | zero => rw [ref06_circle.l2] at hl68; cases hl68
     | succ k65 =>
      rw [ref06_circle.l2] at hl68
      refine WC.seq (WC.seq (WC.region ?_))
      refine sg 4 [] [0, 5, 7, 8, 9, 47] [e3, e4, e6, (8, (sv A56 l58 c57)), e9, (47, (bv (decide (x59 < e14))))] (by kernel_rfl) ?_
      refine WL.done rfl (WX.next ?_)
      rcases br_some hl68 with ⟨h69, hl68⟩ | ⟨h69, hl68⟩
      ·refine WC.condT2 (fun fb => by kernel_rfl) h69 ?_
       refine WC.skip (WX.next (WC.seq (WC.block (WC.seq (WC.region ?_)))))
       refine sg 1 [] e16 [e3, e4, e6, (8, (sv A56 l58 c57)), e9, (10, (iv 0))] (by kernel_rfl) ?_
       refine WL.done rfl (WX.next ?_)
       obtain ⟨x76, hx77, hl68⟩ := bind_some hl68
       refine WC.cutN (T := (List Bool) × e24 × Nat) (fun t => [e3, e4, e6, (8, (sv t.2.1 t.1 t.2.2)), e9]) (fun t w1 => St NoS w w1 e1 [rowO 4 encBool A38 c39 l40, rowO 4 encBool t.2.1 t.2.2 t.1] ∧ x76 = t.1) (fun Kx76 => ?_) ?_
       ·
        refine WC.block ?_
        refine WC.loop (T := ((List Bool) × Int) × e24 × Nat) (fun t => [e3, e4, e6, (8, (sv t.2.1 t.1.1 t.2.2)), e9, (10, (iv t.1.2))]) (fun n t w1 => St NoS w w1 e1 [rowO 4 encBool A38 c39 l40, rowO 4 encBool t.2.1 t.2.2 t.1.1] ∧ ref06_circle.l3 n t.1.1 t.1.2 p0 l40 x59 = some x76) k65 ((l58, 0), A56, c57) e16 rfl ⟨(hS67.subR e12).sub [0, 1] (by decide), hx77⟩ ?_
        rintro k78 ⟨⟨l72, x73⟩, A70, c71⟩ w79 ⟨hS80, hl81⟩
        let e7 : Nat × Value := (8, (sv A70 l72 c71))
        let e10 : Nat × Addr × Value := (5, ((adr A38).add ((x73).toNat * 1)), (bv (rdD l40 x73 false)))
        let e13 : Nat × Value := (10, (iv x73))
        let e15 := ((rdD p0 x59 z_Tile).E) == ((rdD p0 x73 z_Tile).W)
        let e22 : Nat × Addr × Value := (16, (((adr Aa).add ((x73).toNat * 4)).add 3), (iv ((rdD p0 x73 z_Tile).W)))
        let e25 := bv (rdD l40 x73 false)
        let e26 := (adr A70).add ((x59).toNat * 1)
        cases k78 with
        | zero => rw [ref06_circle.l3] at hl81; cases hl81
        | succ k78 =>
         rw [ref06_circle.l3] at hl81
         refine WC.seq (WC.seq (WC.region ?_))
         refine sg 5 [] [0, 5, 7, 8, 9, 10, 54] [e3, e4, e6, e7, e9, e13, (54, (bv (decide (x73 < e14))))] (by kernel_rfl) ?_
         obtain ⟨b82, hv83, hl81⟩ := bind_some hl81
         refine WL.cutV (T := Unit) 10 (fun t => [(59, (bv b82)), e3, e4, e6, e7, e9, e13]) (fun t => True) (fun K => ?_) ?_
         ·
          rcases br_some hv83 with ⟨h84, hv83⟩ | ⟨h84, hv83⟩
          ·
           refine WL.setB 54 h84 rfl ?_
           refine sg 7 [] [0, 5, 7, 8, 9, 10, 54, 55, 56] [e3, e4, e6, e7, e9, e13, (54, (bv true)), (55, (sv A38 l40 c39)), (56, (iv x59))] (by kernel_rfl) ?_
           obtain ⟨h85, hv83⟩ := as_some hv83
           refine seg 10 [.v (bv (rdD l40 x59 false))] [0, 5, 7, 8, 9, 10, 59] [e3, e4, e6, e7, e9, e13, (59, (bv (rdD l40 x59 false)))] [.idx A38 x59 l40.length, .cell ((adr A38).add ((x59).toNat * 1)) (bv (rdD l40 x59 false))] (fun fb => by kernel_rfl) rfl ⟨rowR.adr (rowO.rd (hS80.own 0).1) h85.1 h85.2, rowR.cell (rowO.rd (hS80.own 0).1) false h85.1 h85.2 0 rfl, trivial⟩ ?_
           injection hv83 with hv83
           subst hv83
           exact WL.toV K () [59, 0, 5, 7, 8, 9, 10] rfl trivial
          refine WL.setB 54 h84 rfl ?_
          refine sg 10 [] [0, 5, 7, 8, 9, 10, 59] [e3, e4, e6, e7, e9, e13, (59, (bv false))] (by kernel_rfl) ?_
          injection hv83 with hv83
          subst hv83
          exact WL.toV K () [59, 0, 5, 7, 8, 9, 10] rfl trivial
         rintro _ _
         refine sg 11 [] [0, 5, 7, 8, 9, 10, 60] [e3, e4, e6, e7, e9, e13, (60, (bv b82))] (by kernel_rfl) ?_
         obtain ⟨b86, hv87, hl81⟩ := bind_some hl81
         refine WL.cutV (T := Unit) 17 (fun t => [(66, (bv b86)), e3, e4, e6, e7, e9, e13]) (fun t => True) (fun K => ?_) ?_
         ·
          rcases br_some hv87 with ⟨h88, hv87⟩ | ⟨h88, hv87⟩
          ·
           refine WL.setB 60 h88 rfl ?_
           refine sg 13 [] [0, 5, 7, 8, 9, 10, 60, 61, 62] [e3, e4, e6, e7, e9, e13, (60, (bv true)), (61, (sv A70 l72 c71)), (62, (iv x59))] (by kernel_rfl) ?_
           obtain ⟨h89, hv87⟩ := as_some hv87
           refine seg 17 [.v (bv (rdD l72 x59 false))] [0, 5, 7, 8, 9, 10, 66] [e3, e4, e6, e7, e9, e13, (66, (bv (!(rdD l72 x59 false))))] [.idx A70 x59 l72.length, .cell e26 (bv (rdD l72 x59 false))] (fun fb => by kernel_rfl) rfl ⟨rowR.adr (rowO.rd (hS80.own 1).1) h89.1 h89.2, rowR.cell (rowO.rd (hS80.own 1).1) false h89.1 h89.2 0 rfl, trivial⟩ ?_
           injection hv87 with hv87
           subst hv87
           exact WL.toV K () [66, 0, 5, 7, 8, 9, 10] rfl trivial
          refine WL.setB 60 h88 rfl ?_
          refine sg 17 [] [0, 5, 7, 8, 9, 10, 66] [e3, e4, e6, e7, e9, e13, (66, (bv false))] (by kernel_rfl) ?_
          injection hv87 with hv87
          subst hv87
          exact WL.toV K () [66, 0, 5, 7, 8, 9, 10] rfl trivial
         rintro _ _
         refine WL.done rfl (WX.next ?_)
         rcases br_some hl81 with ⟨h90, hl81⟩ | ⟨h90, hl81⟩
         ·refine WC.condT2 (fun fb => by kernel_rfl) h90 ?_
          refine WC.skip (WX.next (WC.seq (WC.block ?_)))
          obtain ⟨x93, hx94, hl81⟩ := bind_some hl81
          refine WC.cutN (T := (List Bool) × e24 × Nat) (fun t => [e3, e4, e6, (8, (sv t.2.1 t.1 t.2.2)), e9, e13]) (fun t w1 => St NoS w w1 e1 [rowO 4 encBool A38 c39 l40, rowO 4 encBool t.2.1 t.2.2 t.1] ∧ x93 = t.1) (fun Kx93 => ?_) ?_
          ·
           rcases br_some hx94 with ⟨h95, hx94⟩ | ⟨h95, hx94⟩
           ·
            obtain ⟨h98, hx94⟩ := as_some hx94
            obtain ⟨h99, hx94⟩ := as_some hx94
            obtain ⟨h100, hx94⟩ := as_some hx94
            obtain ⟨h101, hx94⟩ := as_some hx94
            refine WC.regionD ([e10, e20, e22], e21, e2) e18 (by kernel_rfl) (by kernel_rfl) (NoPanic.block (NoPanic.seq (NoPanic.seq (NoPanic.block (NoPanic.block (NoPanic.seq (NoPanic.seq (NoPanic.block (NoPanic.seq (NoPanic.block (NoPanic.seq (NoPanic.seq (NoPanic.block (NoPanic.seq (NoPanic.body))))))))))))))) ?_
            have hS97 := hS80.drew
            revert hS97
            generalize World.drew w79 = w96
            intro hS97
            refine ⟨⟨rowR.cell (rowO.rd (hS97.own 0).1) false h98.1 h98.2 0 rfl, rowR.cell (hS97.rd 0).1 z_Tile h99.1 h99.2 1 rfl, rowR.cell (hS97.rd 0).1 z_Tile h100.1 h100.2 3 rfl, trivial⟩, forallC ?_ (forallN)⟩
            refine segF 7 [.v e25] [0, 5, 7, 8, 9, 10, 69, 70, 75] [e3, e4, e6, e7, e9, e13, (69, (sv A70 l72 c71)), (70, (iv x59)), (75, e25)] [.idx A38 x73 l40.length] [0] [e10] (fun fb => by kernel_rfl) rfl ⟨rowR.adr (rowO.rd (hS97.own 0).1) h98.1 h98.2, trivial⟩ rfl ?_
            refine WL.setB 75 h95 rfl ?_
            refine segF 20 [.v (iv ((rdD p0 x59 z_Tile).E)), .v (iv ((rdD p0 x73 z_Tile).W))] [0, 5, 7, 8, 9, 10, 87, 88] [e3, e4, e6, e7, e9, e13, (87, (bv e15)), (88, (.pointer (some e26)))] [.idx Aa x59 p0.length, .idx Aa x73 p0.length, .idx A70 x59 l72.length] [1, 2] [e20, e22] (fun fb => by kernel_rfl) rfl ⟨rowR.adr (hS97.rd 0).1 h99.1 h99.2, rowR.adr (hS97.rd 0).1 h100.1 h100.2, rowR.adr (rowO.rd (hS97.own 1).1) h101.1 h101.2, trivial⟩ rfl ?_
            refine WL.storeRow hS97 1 rfl (x59) e15 (false) [(0, (bv e15))] (fun fb => by kernel_rfl) h101.1 h101.2 (by kernel_rfl) rfl [0] (by decide) (by decide) (fun w102 hS103 => ?_)
            refine ⟨trivial, ?_⟩
            refine WL.reE [0, 5, 7, 8, 9, 10] [(0, (.slice Aa p0.length ca)), (5, (.slice A38 l40.length c39)), (7, (iv x41)), (8, (.slice A70 l72.length c71)), (9, (iv x59)), (10, (iv x73))] [(0, (.slice Aa p0.length ca)), (5, (.slice A38 l40.length c39)), (7, (iv x41)), (8, (.slice A70 (l72.set (x59).toNat (((rdD p0 x59 z_Tile).E) == ((rdD p0 x73 z_Tile).W))).length c71)), (9, (iv x59)), (10, (iv x73))] rfl (by simp only [List.length_set]) ?_
            refine WL.done rfl ?_
            injection hx94 with hx94
            exact WX.to Kx93 (l72.set (x59).toNat e15, A70, c71) e16 rfl ⟨(hS103.subR e12).sub [1, 0] (by decide), hx94.symm⟩
           obtain ⟨h106, hx94⟩ := as_some hx94
           obtain ⟨h107, hx94⟩ := as_some hx94
           refine WC.regionD ([e10], e21, e2) e18 (by kernel_rfl) (by kernel_rfl) (NoPanic.block (NoPanic.seq (NoPanic.seq (NoPanic.block (NoPanic.block (NoPanic.seq (NoPanic.seq (NoPanic.block (NoPanic.seq (NoPanic.block (NoPanic.seq (NoPanic.seq (NoPanic.block (NoPanic.seq (NoPanic.body))))))))))))))) ?_
           have hS105 := hS80.drew
           revert hS105
           generalize World.drew w79 = w104
           intro hS105
           refine ⟨⟨rowR.cell (rowO.rd (hS105.own 0).1) false h106.1 h106.2 0 rfl, trivial⟩, forallC ?_ (forallN)⟩
           refine segF 7 [.v e25] [0, 5, 7, 8, 9, 10, 69, 70, 75] [e3, e4, e6, e7, e9, e13, (69, (sv A70 l72 c71)), (70, (iv x59)), (75, e25)] [.idx A38 x73 l40.length] [0] [e10] (fun fb => by kernel_rfl) rfl ⟨rowR.adr (rowO.rd (hS105.own 0).1) h106.1 h106.2, trivial⟩ rfl ?_
           refine WL.setB 75 h95 rfl ?_
           refine seg 20 [] [0, 5, 7, 8, 9, 10, 87, 88] [e3, e4, e6, e7, e9, e13, (87, (bv false)), (88, (.pointer (some e26)))] [.idx A70 x59 l72.length] (fun fb => by kernel_rfl) rfl ⟨rowR.adr (rowO.rd (hS105.own 1).1) h107.1 h107.2, trivial⟩ ?_
           refine WL.storeRow hS105 1 rfl (x59) (false) (false) [(0, (bv false))] (fun fb => by kernel_rfl) h107.1 h107.2 (by kernel_rfl) rfl [0] (by decide) (by decide) (fun w108 hS109 => ?_)
           refine ⟨trivial, ?_⟩
           refine WL.reE [0, 5, 7, 8, 9, 10] [(0, (.slice Aa p0.length ca)), (5, (.slice A38 l40.length c39)), (7, (iv x41)), (8, (.slice A70 l72.length c71)), (9, (iv x59)), (10, (iv x73))] [(0, (.slice Aa p0.length ca)), (5, (.slice A38 l40.length c39)), (7, (iv x41)), (8, (.slice A70 (l72.set (x59).toNat false).length c71)), (9, (iv x59)), (10, (iv x73))] rfl (by simp only [List.length_set]) ?_
           refine WL.done rfl ?_
           injection hx94 with hx94
           exact WX.to Kx93 (l72.set (x59).toNat false, A70, c71) e16 rfl ⟨(hS109.subR e12).sub [1, 0] (by decide), hx94.symm⟩
          rintro ⟨y113, A91, c92⟩ w110 ⟨hS111, hq112⟩
          subst hq112
          refine WX.blockN (WX.next ?_)
          refine WC.region ?_
          refine sg 3 [] e16 [e3, e4, e6, (8, (sv A91 x93 c92)), e9, (10, (iv (w64 (x73 + 1))))] (by kernel_rfl) ?_
          refine WL.done rfl ?_
          exact WX.again k78 (Nat.lt_succ_self _) ((x93, w64 (x73 + 1)), A91, c92) e16 rfl ⟨(hS111.subR e12).sub [0, 1] (by decide), hl81⟩
         refine WC.condF2 (fun fb => by kernel_rfl) h90 ?_
         refine WC.exit ?_
         injection hl81 with hl81
         exact WX.thenX (WX.thenX (WX.blockHere (WX.to Kx76 (l72, A70, c71) [0, 5, 7, 8, 9] rfl ⟨(hS80.subR e12).sub [0, 1] (by decide), hl81.symm⟩)))
       rintro ⟨y117, A74, c75⟩ w114 ⟨hS115, hq116⟩
       subst hq116
       refine WX.blockN (WX.next ?_)
       refine WC.region ?_
       refine sg 3 [] [0, 5, 7, 8, 9] [e3, e4, e6, (8, (sv A74 x76 c75)), (9, (iv (w64 (x59 + 1))))] (by kernel_rfl) ?_
       refine WL.done rfl ?_
       exact WX.again k65 (Nat.lt_succ_self _) ((x76, w64 (x59 + 1)), A74, c75) [0, 5, 7, 8, 9] rfl ⟨(hS115.subR e12).sub [0, 1] (by decide), hl68⟩
      refine WC.condF2 (fun fb => by kernel_rfl) h69 ?_
      refine WC.exit ?_
      injection hl68 with hl68
      exact WX.thenX (WX.thenX (WX.blockHere (WX.to Kx62 (l58, A56, c57) [0, 7, 8] rfl ⟨(hS67.subR e12).sub [1] (by decide), hl68.symm⟩)))
    rintro ⟨y121, A60, c61⟩ w118 ⟨hS119, hq120⟩
    subst hq120
    refine WX.next (WC.region ?_)
    refine sg 2 [] [0, 5, 7] [e3, (5, (sv A60 x62 c61)), e6] (by kernel_rfl) ?_
    refine WL.done rfl ?_
    refine WX.blockN (WX.next ?_)
    refine WC.region ?_
    refine sg 3 [] [0, 5, 7] [e3, (5, (sv A60 x62 c61)), (7, (iv (w64 (x41 + 1))))] (by kernel_rfl) ?_
    refine WL.done rfl ?_
    exact WX.again k46 (Nat.lt_succ_self _) ((x62, w64 (x41 + 1)), A60, c61) [0, 5, 7] rfl ⟨(hS119.subR e12).sub [0] (by decide), hl50⟩
   refine WC.condF2 (fun fb => by kernel_rfl) h51 ?_
   refine WC.exit ?_
   injection hl50 with hl50
   exact WX.thenX (WX.thenX (WX.blockHere (WX.to Kx44 (l40, A38, c39) [0, 5] rfl ⟨(hS49.subR e12).sub [0] (by decide), hl50.symm⟩)))
 rintro ⟨y125, A42, c43⟩ w122 ⟨hS123, hq124⟩
 subst hq124
 refine WX.next (WC.seq (WC.seq (WC.region ?_)))
 refine sg 1 [] [0, 5, 11] [e3, (5, (sv A42 x44 c43)), (11, (iv 0))] (by kernel_rfl) ?_
 refine WL.done rfl (WX.next ?_)
 obtain ⟨x127, hx128, hf⟩ := bind_some hf
 let e19 : Nat × Value := (5, (sv A42 x44 c43))
 refine WC.cutN (T := Unit) (fun t => []) (fun t w1 => St NoS w w1 e1 [] ∧ x127 = .inr t) (fun Kx127 => ?_) ?_
 ·
  refine WC.block ?_
  refine WC.loop (T := Int) (fun t => [e3, e19, (11, (iv t))]) (fun n t w1 => St NoS w w1 e1 [rowO 4 encBool A42 c43 x44] ∧ ref06_circle.l4 n t p0 x44 = some x127) k 0 [0, 5, 11] rfl ⟨(hS123.subR e12).sub [0] (by decide), hx128⟩ ?_
  rintro k129 x126 w130 ⟨hS131, hl132⟩
  cases k129 with
  | zero => rw [ref06_circle.l4] at hl132; cases hl132
  | succ k129 =>
   rw [ref06_circle.l4] at hl132
   refine WC.seq (WC.seq (WC.region ?_))
   refine sg 4 [] [0, 5, 11, 93] [e3, e19, (11, (iv x126)), (93, (bv (decide (x126 < e14))))] (by kernel_rfl) ?_
   refine WL.done rfl (WX.next ?_)
   rcases br_some hl132 with ⟨h133, hl132⟩ | ⟨h133, hl132⟩
   ·refine WC.condT2 (fun fb => by kernel_rfl) h133 ?_
    refine WC.skip (WX.next (WC.seq (WC.block (WC.seq (WC.region ?_)))))
    refine sg 2 [] [0, 5, 11, 96, 97] [e3, e19, (11, (iv x126)), (96, (sv A42 x44 c43)), (97, (iv x126))] (by kernel_rfl) ?_
    obtain ⟨h134, hl132⟩ := as_some hl132
    refine seg 4 [.v (bv (rdD x44 x126 false))] [0, 5, 11, 99] [e3, e19, (11, (iv x126)), (99, (bv (rdD x44 x126 false)))] [.idx A42 x126 x44.length, .cell ((adr A42).add ((x126).toNat * 1)) (bv (rdD x44 x126 false))] (fun fb => by kernel_rfl) rfl ⟨rowR.adr (rowO.rd (hS131.own 0).1) h134.1 h134.2, rowR.cell (rowO.rd (hS131.own 0).1) false h134.1 h134.2 0 rfl, trivial⟩ ?_
    refine WL.done rfl (WX.next ?_)
    rcases br_some hl132 with ⟨h135, hl132⟩ | ⟨h135, hl132⟩
    ·refine WC.condT2 (fun fb => by kernel_rfl) h135 ?_
     refine WC.seq (WC.region ?_)
     refine sg 1 [] [4] [(4, (bv true))] (by kernel_rfl) ?_
     refine WL.done rfl (WX.next ?_)
     refine WC.ret ?_
     injection hl132 with hl132
     subst hl132
     injection hf with hf
     subst hf
     exact WX.blockR (WX.thenR (WX.thenR (WX.blockR (WX.thenR (WX.ret_ [] (bv true) [] (fun fb => by kernel_rfl) trivial ⟨_, rfl, rfl, hS131.keep⟩)))))
    refine WC.condF2 (fun fb => by kernel_rfl) h135 ?_
    refine WC.skip ?_
    refine WX.blockN (WX.next ?_)
    refine WC.region ?_
    refine sg 3 [] [0, 5, 11] [e3, e19, (11, (iv (w64 (x126 + 1))))] (by kernel_rfl) ?_
    refine WL.done rfl ?_
    exact WX.again k129 (Nat.lt_succ_self _) (w64 (x126 + 1)) [0, 5, 11] rfl ⟨(hS131.subR e12).sub [0] (by decide), hl132⟩
   refine WC.condF2 (fun fb => by kernel_rfl) h133 ?_
   refine WC.exit ?_
   injection hl132 with hl132
   exact WX.thenX (WX.thenX (WX.blockHere (WX.to Kx127 () [] rfl ⟨(hS131.subR e12).sub [] (by decide), hl132.symm⟩)))
 rintro y139 w136 ⟨hS137, hq138⟩
 subst hq138
 have hf := sum_inr hf
 refine WX.next (WC.seq (WC.region ?_))
 refine sg 1 [] [4] [(4, (bv false))] (by kernel_rfl) ?_
 refine WL.done rfl (WX.next ?_)
 refine WC.ret ?_
 injection hf with hf
 subst hf
 exact WX.ret_ [] (bv false) [] (fun fb => by kernel_rfl) trivial ⟨_, rfl, rfl, hS137.keep⟩
end Gp
