/- Walks: each function of the program computes its plain function. -/
import Derived.Test.YtfehljifahnipaaGreatDoorGx3
set_option linter.unusedVariables false
set_option linter.unusedSimpArgs false
set_option maxHeartbeats 4000000
set_option maxRecDepth 8000
namespace Gp
open Go Gw Go.Proofs
theorem weight_Row_calls (k : Nat) (p0 : List Tile) (p1 : Weights) (p2 : List Int) (Aa : Option Addr) (ca : Nat) (Ab : Option Addr) (cb : Nat) (Ac : Option Addr) (cc : Nat) (Ad : Option Addr) (cd : Nat) (Ae : Option Addr) (ce : Nat) (Af : Option Addr) (cf : Nat) (Ag : Option Addr) (cg : Nat) (r : Frac × Frac × Int) (w : World) (hR0 : RO NoS w (rowR enc_Tile Aa ca p0)) (hR1 : RO NoS w (rowR enc_Frac Ab cb p1.Values)) (hR2 : RO NoS w (rowR enc_Frac Ac cc p1.Carries)) (hR3 : RO NoS w (rowR enc_Frac Ad cd p1.Factors)) (hR4 : RO NoS w (rowR encInt Ae ce p1.Primes)) (hR5 : RO NoS w (rowR encInt Af cf p1.Logs)) (hR6 : RO NoS w (rowR encInt Ag cg p2)) (hf : weight_Row k p0 p1 p2 = some r) :
  CallsR Tryz.prog 14 #[(sv Aa p0 ca), (.agg #[(sv Ab p1.Values cb), (sv Ac p1.Carries cc), (sv Ad p1.Factors cd), (sv Ae p1.Primes ce), (sv Af p1.Logs cf)]), (sv Ag p2 cg)] w (fun v w' => v = (.tuple #[(.agg #[(iv r.1.Num), (iv r.1.Den)]), (.agg #[(iv r.2.1.Num), (iv r.2.1.Den)]), (iv r.2.2)]) ∧ Keeps NoS w w') := by
 have hS : St NoS w w [rowR enc_Tile Aa ca p0, rowR enc_Frac Ab cb p1.Values, rowR enc_Frac Ac cc p1.Carries, rowR enc_Frac Ad cd p1.Factors, rowR encInt Ae ce p1.Primes, rowR encInt Af cf p1.Logs, rowR encInt Ag cg p2] [] := St.init (ro_cons hR0 (ro_cons hR1 (ro_cons hR2 (ro_cons hR3 (ro_cons hR4 (ro_cons hR5 (ro_cons hR6 (ro_nil _ _))))))))
 refine enter 133 Tryz.func14 rfl Tryz.ntmps14 rfl ?_
 unfold weight_Row at hf
 refine WC.seq (WC.region ?_)
 refine WL.new hS 4 [] (fun g => (pt g)) (.cells #[(sv Ab p1.Values cb), (sv Ac p1.Carries cc), (sv Ad p1.Factors cd), (sv Ae p1.Primes ce), (sv Af p1.Logs cf)] 26 (0, 0)) [] (fun fb g => by kernel_rfl) trivial (fun g7 w8 hS9 => ?_)
 refine ⟨trivial, ?_⟩
 refine WL.new hS9 6 [] (fun g => (pt g)) (.cells #[(iv 0), (iv 0)] 33 (0, 0)) [] (fun fb g => by kernel_rfl) trivial (fun g10 w11 hS12 => ?_)
 refine ⟨trivial, ?_⟩
 refine WL.new hS12 7 [] (fun g => (pt g)) (.cells #[(iv 0), (iv 0)] 33 (0, 0)) [] (fun fb g => by kernel_rfl) trivial (fun g13 w15 hS16 => ?_)
 refine ⟨trivial, ?_⟩
 refine sg 4 [] [0, 2, 4, 6, 7] [(0, (sv Aa p0 ca)), (2, (sv Ag p2 cg)), (4, (pt g7)), (6, (pt g10)), (7, (pt g13))] (by kernel_rfl) ?_
 refine WL.done rfl (WX.next (WC.seq (WC.seq (WC.region ?_))))
 refine seg 2 [.v (sv Ab p1.Values cb), .v (sv Ac p1.Carries cc), .v (sv Ad p1.Factors cd), .v (sv Ae p1.Primes ce), .v (sv Af p1.Logs cf)] [0, 2, 4, 6, 7, 18, 19] [(0, (sv Aa p0 ca)), (2, (sv Ag p2 cg)), (4, (pt g7)), (6, (pt g10)), (7, (pt g13)), (18, (sv Aa p0 ca)), (19, (.agg #[(sv Ab p1.Values cb), (sv Ac p1.Carries cc), (sv Ad p1.Factors cd), (sv Ae p1.Primes ce), (sv Af p1.Logs cf)]))] [.cell ⟨g7, 0, none⟩ (sv Ab p1.Values cb), .cell ⟨g7, 1, none⟩ (sv Ac p1.Carries cc), .cell ⟨g7, 2, none⟩ (sv Ad p1.Factors cd), .cell ⟨g7, 3, none⟩ (sv Ae p1.Primes ce), .cell ⟨g7, 4, none⟩ (sv Af p1.Logs cf)] (fun fb => by kernel_rfl) rfl ⟨hS16.cell 2 rfl 0 rfl, hS16.cell 2 rfl 1 rfl, hS16.cell 2 rfl 2 rfl, hS16.cell 2 rfl 3 rfl, hS16.cell 2 rfl 4 rfl, trivial⟩ ?_
 obtain ⟨t17, ht18, hf⟩ := bind_some hf
 refine WL.call (some 20) 12 #[(sv Aa p0 ca), (.agg #[(sv Ab p1.Values cb), (sv Ac p1.Carries cc), (sv Ad p1.Factors cd), (sv Ae p1.Primes ce), (sv Af p1.Logs cf)])] (fun fb => by kernel_rfl) (weight_Valid_calls _ p0 p1 Aa ca Ab cb Ac cc Ad cd Ae ce Af cf t17 _ (hS16.rd 0) (hS16.rd 1) (hS16.rd 2) (hS16.rd 3) (hS16.rd 4) (hS16.rd 5) ht18) (fun v w19 hR20 => ?_)
 obtain ⟨rfl, hk_⟩ := hR20
 have hS21 := hS16.keepN hk_
 refine ⟨trivial, ?_⟩
 refine sg 4 [] [0, 2, 4, 6, 7, 21] [(0, (sv Aa p0 ca)), (2, (sv Ag p2 cg)), (4, (pt g7)), (6, (pt g10)), (7, (pt g13)), (21, (bv (!t17)))] (by kernel_rfl) ?_
 refine WL.done rfl (WX.next ?_)
 let e33 : Array Value := #[(iv 0), (iv 0)]
 rcases br_some hf with ⟨h22, hf⟩ | ⟨h22, hf⟩
 ·refine WC.condT2 (fun fb => by kernel_rfl) h22 ?_
  refine WC.seq (WC.region ?_)
  refine sg 2 [] [6, 7, 22, 23] [(6, (pt g10)), (7, (pt g13)), (22, (.agg e33)), (23, (.agg e33))] (by kernel_rfl) ?_
  refine WL.store hS21 1 rfl [(0, (iv 0)), (1, (iv 0))] e33 (fun fb => by kernel_rfl) (by kernel_rfl) rfl [0, 2] (by decide) (by decide) (fun w23 hS24 => ?_)
  refine ⟨trivial, ?_⟩
  refine WL.store hS24 1 rfl [(0, (iv 0)), (1, (iv 0))] e33 (fun fb => by kernel_rfl) (by kernel_rfl) rfl [0, 2] (by decide) (by decide) (fun w25 hS26 => ?_)
  refine ⟨trivial, ?_⟩
  refine sg 5 [] [6, 7, 8] [(6, (pt g10)), (7, (pt g13)), (8, (iv 1))] (by kernel_rfl) ?_
  refine WL.done rfl (WX.next ?_)
  refine WC.ret ?_
  injection hf with hf
  subst hf
  exact WX.thenR (WX.ret_ [.v (iv 0), .v (iv 0), .v (iv 0), .v (iv 0)] (.tuple #[(.agg e33), (.agg e33), (iv 1)]) [.cell ⟨g10, 0, none⟩ (iv 0), .cell ⟨g10, 1, none⟩ (iv 0), .cell ⟨g13, 0, none⟩ (iv 0), .cell ⟨g13, 1, none⟩ (iv 0)] (fun fb => by kernel_rfl) ⟨hS26.cell 1 rfl 0 rfl, hS26.cell 1 rfl 1 rfl, hS26.cell 0 rfl 0 rfl, hS26.cell 0 rfl 1 rfl, trivial⟩ ⟨_, rfl, rfl, hS26.keep⟩)
 refine WC.condF2 (fun fb => by kernel_rfl) h22 ?_
 refine WC.skip (WX.next (WC.seq (WC.seq (WC.region ?_))))
 refine sg 4 [] [0, 2, 4, 6, 7, 27] [(0, (sv Aa p0 ca)), (2, (sv Ag p2 cg)), (4, (pt g7)), (6, (pt g10)), (7, (pt g13)), (27, (bv (decide ((p2.length : Int) < 1))))] (by kernel_rfl) ?_
 refine WL.cutV (T := Bool) 8 (fun t => [(31, (bv t)), (0, (sv Aa p0 ca)), (2, (sv Ag p2 cg)), (4, (pt g7)), (6, (pt g10)), (7, (pt g13))]) (fun t => ((decide ((p2.length : Int) < 1)) || (decide ((p2.length : Int) > 40000))) = t) (fun K => ?_) ?_
 ·
  rcases Bool.eq_false_or_eq_true (decide ((p2.length : Int) < 1)) with h27 | h27
  ·
   refine WL.setB 27 h27 rfl ?_
   refine sg 8 [] [0, 2, 4, 6, 7, 31] [(0, (sv Aa p0 ca)), (2, (sv Ag p2 cg)), (4, (pt g7)), (6, (pt g10)), (7, (pt g13)), (31, (bv true))] (by kernel_rfl) ?_
   exact WL.toV K true [31, 0, 2, 4, 6, 7] rfl (by first | (rw [h27]; done) | (rw [h27]; rfl))
  refine WL.setB 27 h27 rfl ?_
  refine sg 8 [] [0, 2, 4, 6, 7, 31] [(0, (sv Aa p0 ca)), (2, (sv Ag p2 cg)), (4, (pt g7)), (6, (pt g10)), (7, (pt g13)), (31, (bv (decide ((p2.length : Int) > 40000))))] (by kernel_rfl) ?_
  exact WL.toV K (decide ((p2.length : Int) > 40000)) [31, 0, 2, 4, 6, 7] rfl (by first | (rw [h27]; done) | (rw [h27]; rfl))
 rintro b28 rfl
 refine WL.done rfl (WX.next ?_)
 rcases br_some hf with ⟨h29, hf⟩ | ⟨h29, hf⟩
 ·refine WC.condT2 (fun fb => by kernel_rfl) h29 ?_
  refine WC.seq (WC.region ?_)
  refine sg 2 [] [6, 7, 32, 33] [(6, (pt g10)), (7, (pt g13)), (32, (.agg e33)), (33, (.agg e33))] (by kernel_rfl) ?_
  refine WL.store hS21 1 rfl [(0, (iv 0)), (1, (iv 0))] e33 (fun fb => by kernel_rfl) (by kernel_rfl) rfl [0, 2] (by decide) (by decide) (fun w30 hS31 => ?_)
  refine ⟨trivial, ?_⟩
  refine WL.store hS31 1 rfl [(0, (iv 0)), (1, (iv 0))] e33 (fun fb => by kernel_rfl) (by kernel_rfl) rfl [0, 2] (by decide) (by decide) (fun w32 hS33 => ?_)
  refine ⟨trivial, ?_⟩
  refine sg 5 [] [6, 7, 8] [(6, (pt g10)), (7, (pt g13)), (8, (iv 2))] (by kernel_rfl) ?_
  refine WL.done rfl (WX.next ?_)
  refine WC.ret ?_
  injection hf with hf
  subst hf
  exact WX.thenR (WX.ret_ [.v (iv 0), .v (iv 0), .v (iv 0), .v (iv 0)] (.tuple #[(.agg e33), (.agg e33), (iv 2)]) [.cell ⟨g10, 0, none⟩ (iv 0), .cell ⟨g10, 1, none⟩ (iv 0), .cell ⟨g13, 0, none⟩ (iv 0), .cell ⟨g13, 1, none⟩ (iv 0)] (fun fb => by kernel_rfl) ⟨hS33.cell 1 rfl 0 rfl, hS33.cell 1 rfl 1 rfl, hS33.cell 0 rfl 0 rfl, hS33.cell 0 rfl 1 rfl, trivial⟩ ⟨_, rfl, rfl, hS33.keep⟩)
 refine WC.condF2 (fun fb => by kernel_rfl) h29 ?_
 refine WC.skip (WX.next (WC.seq (WC.seq (WC.region ?_))))
 refine sg 3 [] [0, 2, 4, 6, 7, 34, 35, 36] [(0, (sv Aa p0 ca)), (2, (sv Ag p2 cg)), (4, (pt g7)), (6, (pt g10)), (7, (pt g13)), (34, (sv Ag p2 cg)), (35, (iv (p2.length : Int))), (36, (iv 0))] (by kernel_rfl) ?_
 refine WL.done rfl (WX.next ?_)
 obtain ⟨x35, hx36, hf⟩ := bind_some hf
 let e21 : List Nat := [0, 1, 2, 3, 4, 5, 6, 7, 8, 9, 10, 11]
 let e1 := [[], [0], [0, 1], [0, 1, 2], [0, 1, 2], [0, 1, 2, 4], [0, 1, 2, 3, 4, 5], [0, 1, 2, 3, 4, 5, 6], [0, 1, 2, 3, 4, 5, 6, 7], [0, 1, 2, 3, 4, 5, 6, 7, 8], [0, 1, 2, 3, 4, 5, 6, 7, 8, 9], [0, 1, 2, 3, 4, 5, 6, 7, 8, 9, 10], e21, e21, e21, [0, 1, 2, 3, 4, 5, 6, 7, 8, 9, 10, 11, 14], [0, 1, 2, 3, 4, 5, 6, 7, 8, 9, 10, 11, 13, 14, 15], [0, 1, 2, 3, 4, 5, 6, 7, 8, 9, 10, 11, 13, 14, 15, 16], [0, 1, 2, 3, 4, 5, 6, 7, 8, 9, 10, 11, 12, 13, 14, 15, 16, 17], [0, 1, 2, 3, 4, 5, 6, 7, 8, 9, 10, 11, 12, 13, 14, 15, 16, 17, 18], [0, 1, 2, 3, 4, 5, 6, 7, 8, 9, 10, 11, 12, 13, 14, 15, 16, 17, 18, 19], e21, e21, [0, 1, 2, 3, 4, 5, 6, 7, 8, 9, 10, 11, 21, 22], [0, 1, 2, 3, 4, 5, 6, 7, 8, 9, 10, 11, 21, 22, 23], [0, 1, 2, 3, 4, 5, 6, 7, 8, 9, 10, 11, 21, 22, 23, 24], [0, 1, 2, 3, 4, 5, 6, 7, 8, 9, 10, 11, 12, 13, 14, 15, 16, 17, 18, 19, 20, 21, 22, 23, 24, 25], [0, 1, 2, 3, 4, 5, 6, 7, 8, 9, 10, 11, 12, 13, 14, 15, 16, 17, 18, 19, 20, 21, 22, 23, 24, 25, 26], [0, 1, 2, 3, 4, 5, 6, 7, 8, 9, 10, 11, 12, 13, 14, 15, 16, 17, 18, 19, 20, 21, 22, 23, 24, 25, 26, 27]]
 let e2 : List Nat := [0, 1, 2, 3, 4, 5, 6, 7, 8, 9, 10, 11, 12, 13, 14, 15, 16, 17, 18, 19, 20, 21, 22, 23, 24, 25, 26, 27, 28]
 let e3 : Nat × Value := (35, (iv (p2.length : Int)))
 let e4 : List Own := [rowR enc_Tile Aa ca p0, rowR enc_Frac Ab cb p1.Values, rowR enc_Frac Ac cc p1.Carries, rowR enc_Frac Ad cd p1.Factors, rowR encInt Ae ce p1.Primes, rowR encInt Af cf p1.Logs, rowR encInt Ag cg p2]
 let e5 := sv Ag p2 cg
 let e8 : Nat × Value := (0, (sv Aa p0 ca))
 let e10 : Array Value := #[(sv Ab p1.Values cb), (sv Ac p1.Carries cc), (sv Ad p1.Factors cd), (sv Ae p1.Primes ce), (sv Af p1.Logs cf)]
 let e11 : Nat × Value := (6, (pt g10))
 let e12 : Nat × Value := (7, (pt g13))
 let e13 : List Nat := [0, 2, 4, 6, 7, 34, 35, 36, 69]
 let e16 : Nat × Value := (4, (pt g7))
 let e18 : Array Value := e33
 let e24 : List Nat := [0, 1, 2, 3, 4, 5, 6]
 let e25 : List Nat := [0, 2, 4, 6, 7, 9, 10, 34, 35, 36, 43]
 let e34 : List Nat := [0, 2, 4, 6, 7, 9, 10, 34, 35, 36, 49]
 refine WC.cutN (T := Unit) (fun t => [e8, (2, e5), e16, e11, e12]) (fun t w1 => St NoS w w1 e4 [blk g7 (.cells e10 26 (0, 0)), blk g10 (.cells e18 33 (0, 0)), blk g13 (.cells e18 33 (0, 0))] ∧ x35 = .inr t) (fun Kx35 => ?_) ?_
 ·
  refine WC.block ?_
  refine WC.loop (T := Int) (fun t => [e8, (2, e5), e16, e11, e12, (34, e5), e3, (36, (iv t))]) (fun n t w1 => St NoS w w1 e4 [blk g7 (.cells e10 26 (0, 0)), blk g10 (.cells e18 33 (0, 0)), blk g13 (.cells e18 33 (0, 0))] ∧ weight_Row.l0 n t p0 p2 = some x35) k 0 [0, 2, 4, 6, 7, 34, 35, 36] rfl ⟨(hS21.subR e24).sub [2, 1, 0] (by decide), hx36⟩ ?_
  rintro k37 x34 w38 ⟨hS39, hl40⟩
  let e7 : List (Nat × Addr × Value) := [(17, ((adr Ag).add ((w64 (x34 - 1)).toNat * 1)), (iv (rdD p2 (w64 (x34 - 1)) 0))), (20, (((adr Aa).add (((rdD p2 (w64 (x34 - 1)) 0)).toNat * 4)).add 1), (iv ((rdD p0 (rdD p2 (w64 (x34 - 1)) 0) z_Tile).E))), (25, (((adr Aa).add (((rdD p2 x34 0)).toNat * 4)).add 3), (iv ((rdD p0 (rdD p2 x34 0) z_Tile).W)))]
  let e9 := rdD p2 x34 0
  let e14 : Nat × Value := (36, (iv x34))
  let e26 := rdD p2 (w64 (x34 - 1)) 0
  let e27 : Nat × Value := (9, (iv x34))
  let e28 : Nat × Value := (10, (iv e9))
  cases k37 with
  | zero => rw [weight_Row.l0] at hl40; cases hl40
  | succ k37 =>
   rw [weight_Row.l0] at hl40
   refine WC.seq (WC.region ?_)
   refine sg 1 [] [0, 2, 4, 6, 7, 34, 35, 36, 37] [e8, (2, e5), e16, e11, e12, (34, e5), e3, e14, (37, (bv (decide (x34 < (p2.length : Int)))))] (by kernel_rfl) ?_
   refine WL.done rfl (WX.next (WC.seq ?_))
   rcases br_some hl40 with ⟨h41, hl40⟩ | ⟨h41, hl40⟩
   ·refine WC.condT2 (fun fb => by kernel_rfl) h41 ?_
    refine WC.skip (WX.next (WC.seq (WC.block (WC.seq (WC.region ?_)))))
    refine sg 1 [] [0, 2, 4, 6, 7, 34, 35, 36, 38] [e8, (2, e5), e16, e11, e12, (34, e5), e3, e14, (38, (iv x34))] (by kernel_rfl) ?_
    obtain ⟨h42, hl40⟩ := as_some hl40
    refine seg 5 [.v (iv e9)] [0, 2, 4, 6, 7, 9, 10, 34, 35, 36] [e8, (2, e5), e16, e11, e12, e27, e28, (34, e5), e3, e14] [.idx Ag x34 p2.length, .cell ((adr Ag).add ((x34).toNat * 1)) (iv e9)] (fun fb => by kernel_rfl) rfl ⟨rowR.adr (hS39.rd 6).1 h42.1 h42.2, rowR.cell (hS39.rd 6).1 0 h42.1 h42.2 0 rfl, trivial⟩ ?_
    refine WL.done rfl (WX.next (WC.seq ?_))
    obtain ⟨x43, hx44, hl40⟩ := bind_some hl40
    refine WC.cutN (T := Bool) (fun t => [e8, (2, e5), e16, e11, e12, (34, e5), e3, e14, (69, (bv t))]) (fun t w1 => St NoS w w1 e4 [blk g7 (.cells e10 26 (0, 0)), blk g10 (.cells e18 33 (0, 0)), blk g13 (.cells e18 33 (0, 0))] ∧ x43 = t) (fun Kx43 => ?_) ?_
    ·
     rcases br_some hx44 with ⟨h45, hx44⟩ | ⟨h45, hx44⟩
     ·
      refine WC.regionD ([], e2, e1) [e2] (by kernel_rfl) (by kernel_rfl) (NoPanic.seq (NoPanic.block (NoPanic.seq (NoPanic.seq (NoPanic.block (NoPanic.seq (NoPanic.body))))))) ?_
      have hS47 := hS39.drew
      revert hS47
      generalize World.drew w38 = w46
      intro hS47
      refine ⟨trivial, forallC ?_ (forallN)⟩
      refine sg 3 [] e25 [e8, (2, e5), e16, e11, e12, e27, e28, (34, e5), e3, e14, (43, (bv (decide (e9 < 0))))] (by kernel_rfl) ?_
      refine WL.setB 43 h45 rfl ?_
      refine sg 29 [] e13 [e8, (2, e5), e16, e11, e12, (34, e5), e3, e14, (69, (bv true))] (by kernel_rfl) ?_
      refine WL.done rfl ?_
      injection hx44 with hx44
      exact WX.to Kx43 true e13 rfl ⟨(hS47.subR e24).sub [0, 1, 2] (by decide), hx44.symm⟩
     rcases br_some hx44 with ⟨h48, hx44⟩ | ⟨h48, hx44⟩
     ·
      refine WC.regionD ([], e2, e1) [e2] (by kernel_rfl) (by kernel_rfl) (NoPanic.seq (NoPanic.block (NoPanic.seq (NoPanic.seq (NoPanic.block (NoPanic.seq (NoPanic.body))))))) ?_
      have hS50 := hS39.drew
      revert hS50
      generalize World.drew w38 = w49
      intro hS50
      refine ⟨trivial, forallC ?_ (forallN)⟩
      refine sg 3 [] e25 [e8, (2, e5), e16, e11, e12, e27, e28, (34, e5), e3, e14, (43, (bv (decide (e9 < 0))))] (by kernel_rfl) ?_
      refine WL.setB 43 h45 rfl ?_
      refine sg 9 [] e34 [e8, (2, e5), e16, e11, e12, e27, e28, (34, e5), e3, e14, (49, (bv (decide (e9 ≥ (p0.length : Int)))))] (by kernel_rfl) ?_
      refine WL.setB 49 h48 rfl ?_
      refine sg 29 [] e13 [e8, (2, e5), e16, e11, e12, (34, e5), e3, e14, (69, (bv true))] (by kernel_rfl) ?_
      refine WL.done rfl ?_
      injection hx44 with hx44
      exact WX.to Kx43 true e13 rfl ⟨(hS50.subR e24).sub [0, 1, 2] (by decide), hx44.symm⟩
     rcases br_some hx44 with ⟨h51, hx44⟩ | ⟨h51, hx44⟩
     ·
      obtain ⟨h54, hx44⟩ := as_some hx44
      obtain ⟨h55, hx44⟩ := as_some hx44
      obtain ⟨h56, hx44⟩ := as_some hx44
      refine WC.regionD (e7, e2, e1) [e2] (by kernel_rfl) (by kernel_rfl) (NoPanic.seq (NoPanic.block (NoPanic.seq (NoPanic.seq (NoPanic.block (NoPanic.seq (NoPanic.body))))))) ?_
      have hS53 := hS39.drew
      revert hS53
      generalize World.drew w38 = w52
      intro hS53
      refine ⟨⟨rowR.cell (hS53.rd 6).1 0 h54.1 h54.2 0 rfl, rowR.cell (hS53.rd 0).1 z_Tile h55.1 h55.2 1 rfl, rowR.cell (hS53.rd 0).1 z_Tile h56.1 h56.2 3 rfl, trivial⟩, forallC ?_ (forallN)⟩
      refine sg 3 [] e25 [e8, (2, e5), e16, e11, e12, e27, e28, (34, e5), e3, e14, (43, (bv (decide (e9 < 0))))] (by kernel_rfl) ?_
      refine WL.setB 43 h45 rfl ?_
      refine sg 9 [] e34 [e8, (2, e5), e16, e11, e12, e27, e28, (34, e5), e3, e14, (49, (bv (decide (e9 ≥ (p0.length : Int)))))] (by kernel_rfl) ?_
      refine WL.setB 49 h48 rfl ?_
      refine sg 12 [] [0, 2, 4, 6, 7, 9, 10, 34, 35, 36, 49, 52] [e8, (2, e5), e16, e11, e12, e27, e28, (34, e5), e3, e14, (49, (bv false)), (52, (bv (decide (x34 > 0))))] (by kernel_rfl) ?_
      refine WL.setB 52 h51 rfl ?_
      refine segF 29 [.v (iv e26), .v (iv ((rdD p0 e26 z_Tile).E)), .v (iv ((rdD p0 e9 z_Tile).W))] e13 [e8, (2, e5), e16, e11, e12, (34, e5), e3, e14, (69, (bv (((rdD p0 e26 z_Tile).E) != ((rdD p0 e9 z_Tile).W))))] [.idx Ag (w64 (x34 - 1)) p2.length, .idx Aa e26 p0.length, .idx Aa e9 p0.length] [0, 1, 2] e7 (fun fb => by kernel_rfl) rfl ⟨rowR.adr (hS53.rd 6).1 h54.1 h54.2, rowR.adr (hS53.rd 0).1 h55.1 h55.2, rowR.adr (hS53.rd 0).1 h56.1 h56.2, trivial⟩ rfl ?_
      refine WL.done rfl ?_
      injection hx44 with hx44
      exact WX.to Kx43 (((rdD p0 e26 z_Tile).E) != ((rdD p0 e9 z_Tile).W)) e13 rfl ⟨(hS53.subR e24).sub [0, 1, 2] (by decide), hx44.symm⟩
     refine WC.regionD ([], e2, e1) [e2] (by kernel_rfl) (by kernel_rfl) (NoPanic.seq (NoPanic.block (NoPanic.seq (NoPanic.seq (NoPanic.block (NoPanic.seq (NoPanic.body))))))) ?_
     have hS58 := hS39.drew
     revert hS58
     generalize World.drew w38 = w57
     intro hS58
     refine ⟨trivial, forallC ?_ (forallN)⟩
     refine sg 3 [] e25 [e8, (2, e5), e16, e11, e12, e27, e28, (34, e5), e3, e14, (43, (bv (decide (e9 < 0))))] (by kernel_rfl) ?_
     refine WL.setB 43 h45 rfl ?_
     refine sg 9 [] e34 [e8, (2, e5), e16, e11, e12, e27, e28, (34, e5), e3, e14, (49, (bv (decide (e9 ≥ (p0.length : Int)))))] (by kernel_rfl) ?_
     refine WL.setB 49 h48 rfl ?_
     refine sg 12 [] [0, 2, 4, 6, 7, 9, 10, 34, 35, 36, 49, 52] [e8, (2, e5), e16, e11, e12, e27, e28, (34, e5), e3, e14, (49, (bv false)), (52, (bv (decide (x34 > 0))))] (by kernel_rfl) ?_
     refine WL.setB 52 h51 rfl ?_
     refine sg 29 [] e13 [e8, (2, e5), e16, e11, e12, (34, e5), e3, e14, (69, (bv false))] (by kernel_rfl) ?_
     refine WL.done rfl ?_
     injection hx44 with hx44
     exact WX.to Kx43 false e13 rfl ⟨(hS58.subR e24).sub [0, 1, 2] (by decide), hx44.symm⟩
    rintro y62 w59 ⟨hS60, hq61⟩
    subst hq61
    refine WX.next ?_
    rcases br_some hl40 with ⟨h63, hl40⟩ | ⟨h63, hl40⟩
    ·refine WC.condT2 (fun fb => by kernel_rfl) h63 ?_
     refine WC.seq (WC.region ?_)
     refine sg 2 [] [6, 7, 70, 71] [e11, e12, (70, (.agg e18)), (71, (.agg e18))] (by kernel_rfl) ?_
     refine WL.store hS60 1 rfl [(0, (iv 0)), (1, (iv 0))] e18 (fun fb => by kernel_rfl) (by kernel_rfl) rfl [0, 2] (by decide) (by decide) (fun w65 hS66 => ?_)
     refine ⟨trivial, ?_⟩
     refine WL.store hS66 2 rfl [(0, (iv 0)), (1, (iv 0))] e18 (fun fb => by kernel_rfl) (by kernel_rfl) rfl [0, 1] (by decide) (by decide) (fun w67 hS68 => ?_)
     refine ⟨trivial, ?_⟩
     refine sg 5 [] [6, 7, 8] [e11, e12, (8, (iv 2))] (by kernel_rfl) ?_
     refine WL.done rfl (WX.next ?_)
     refine WC.ret ?_
     injection hl40 with hl40
     subst hl40
     injection hf with hf
     subst hf
     exact WX.blockR (WX.thenR (WX.thenR (WX.blockR (WX.thenR (WX.ret_ [.v (iv 0), .v (iv 0), .v (iv 0), .v (iv 0)] (.tuple #[(.agg e18), (.agg e18), (iv 2)]) [.cell ⟨g10, 0, none⟩ (iv 0), .cell ⟨g10, 1, none⟩ (iv 0), .cell ⟨g13, 0, none⟩ (iv 0), .cell ⟨g13, 1, none⟩ (iv 0)] (fun fb => by kernel_rfl) ⟨hS68.cell 1 rfl 0 rfl, hS68.cell 1 rfl 1 rfl, hS68.cell 0 rfl 0 rfl, hS68.cell 0 rfl 1 rfl, trivial⟩ ⟨_, rfl, rfl, hS68.keep⟩)))))
    refine WC.condF2 (fun fb => by kernel_rfl) h63 ?_
    refine WC.skip ?_
    refine WX.blockN (WX.next ?_)
    refine WC.region ?_
    refine sg 2 [] [0, 2, 4, 6, 7, 34, 35, 36] [e8, (2, e5), e16, e11, e12, (34, e5), e3, (36, (iv (w64 (x34 + 1))))] (by kernel_rfl) ?_
    refine WL.done rfl ?_
    exact WX.again k37 (Nat.lt_succ_self _) (w64 (x34 + 1)) [0, 2, 4, 6, 7, 34, 35, 36] rfl ⟨(hS60.subR e24).sub [0, 1, 2] (by decide), hl40⟩
   refine WC.condF2 (fun fb => by kernel_rfl) h41 ?_
   refine WC.exit ?_
   injection hl40 with hl40
   exact WX.thenX (WX.thenX (WX.blockHere (WX.to Kx35 () [0, 2, 4, 6, 7] rfl ⟨(hS39.subR e24).sub [0, 1, 2] (by decide), hl40.symm⟩)))
 rintro y72 w69 ⟨hS70, hq71⟩
 subst hq71
 have hf := sum_inr hf
 refine WX.next (WC.seq (WC.region ?_))
 refine seg 2 [.v (sv Ab p1.Values cb)] [0, 2, 4, 6, 7, 75] [e8, (2, e5), e16, e11, e12, (75, (sv Ab p1.Values cb))] [.cell ⟨g7, 0, none⟩ (sv Ab p1.Values cb)] (fun fb => by kernel_rfl) rfl ⟨hS70.cell 0 rfl 0 rfl, trivial⟩ ?_
 obtain ⟨t73, ht74, hf⟩ := bind_some hf
 refine WL.call (some 76) 48 #[(sv Ab p1.Values cb)] (fun fb => by kernel_rfl) (weight_common_calls _ p1.Values Ab cb t73 _ (hS70.rd 1) ht74) (fun v w75 hR76 => ?_)
 obtain ⟨rfl, hk_⟩ := hR76
 have hS77 := hS70.keepN hk_
 refine ⟨trivial, ?_⟩
 refine sg 6 [] [0, 2, 4, 6, 7, 77, 78] [e8, (2, e5), e16, e11, e12, (77, (iv t73.1)), (78, (bv t73.2))] (by kernel_rfl) ?_
 refine WL.new hS77 11 [] (fun g => (pt g)) (.cells #[(iv 0)] 3 (0, 0)) [] (fun fb g => by kernel_rfl) trivial (fun g78 w79 hS80 => ?_)
 refine ⟨trivial, ?_⟩
 refine WL.store hS80 0 rfl [(0, (iv t73.1))] #[(iv t73.1)] (fun fb => by kernel_rfl) (by kernel_rfl) rfl [1, 2, 3] (by decide) (by decide) (fun w81 hS82 => ?_)
 refine ⟨trivial, ?_⟩
 refine sg 9 [] [0, 2, 4, 6, 7, 11, 12] [e8, (2, e5), e16, e11, e12, (11, (pt g78)), (12, (bv t73.2))] (by kernel_rfl) ?_
 refine WL.done rfl (WX.next (WC.seq (WC.seq (WC.region ?_))))
 refine sg 2 [] [0, 2, 4, 6, 7, 11, 80] [e8, (2, e5), e16, e11, e12, (11, (pt g78)), (80, (bv (!t73.2)))] (by kernel_rfl) ?_
 refine WL.done rfl (WX.next ?_)
 rcases br_some hf with ⟨h83, hf⟩ | ⟨h83, hf⟩
 ·refine WC.condT2 (fun fb => by kernel_rfl) h83 ?_
  refine WC.seq (WC.region ?_)
  refine sg 2 [] [6, 7, 81, 82] [e11, e12, (81, (.agg e18)), (82, (.agg e18))] (by kernel_rfl) ?_
  refine WL.store hS82 2 rfl [(0, (iv 0)), (1, (iv 0))] e18 (fun fb => by kernel_rfl) (by kernel_rfl) rfl [0, 1, 3] (by decide) (by decide) (fun w84 hS85 => ?_)
  refine ⟨trivial, ?_⟩
  refine WL.store hS85 3 rfl [(0, (iv 0)), (1, (iv 0))] e18 (fun fb => by kernel_rfl) (by kernel_rfl) rfl [0, 1, 2] (by decide) (by decide) (fun w86 hS87 => ?_)
  refine ⟨trivial, ?_⟩
  refine sg 5 [] [6, 7, 8] [e11, e12, (8, (iv 4))] (by kernel_rfl) ?_
  refine WL.done rfl (WX.next ?_)
  refine WC.ret ?_
  injection hf with hf
  subst hf
  exact WX.thenR (WX.ret_ [.v (iv 0), .v (iv 0), .v (iv 0), .v (iv 0)] (.tuple #[(.agg e18), (.agg e18), (iv 4)]) [.cell ⟨g10, 0, none⟩ (iv 0), .cell ⟨g10, 1, none⟩ (iv 0), .cell ⟨g13, 0, none⟩ (iv 0), .cell ⟨g13, 1, none⟩ (iv 0)] (fun fb => by kernel_rfl) ⟨hS87.cell 1 rfl 0 rfl, hS87.cell 1 rfl 1 rfl, hS87.cell 0 rfl 0 rfl, hS87.cell 0 rfl 1 rfl, trivial⟩ ⟨_, rfl, rfl, hS87.keep⟩)
 refine WC.condF2 (fun fb => by kernel_rfl) h83 ?_
 refine WC.skip (WX.next (WC.seq ?_))
 obtain ⟨x90, hx91, hf⟩ := bind_some hf
 let e19 := iv t73.1
 let e23 : List (Nat × Addr × Value) := [(0, ⟨g78, 0, none⟩, e19), (2, ⟨g78, 0, none⟩, e19)]
 let e31 : Array Value := #[(iv 0), e19]
 let e36 : List (Nat × Value) := [(0, (iv 0)), (1, e19)]
 refine WC.cutN (T := (Int × Int × Int × Int) × Nat × Nat) (fun t => [e8, (2, e5), e16, e11, e12, (11, (pt g78)), (13, (.pointer (some ⟨t.2.1, 0, none⟩))), (14, (.pointer (some ⟨t.2.2, 0, none⟩)))]) (fun t w1 => St NoS w w1 e4 [blk g7 (.cells e10 26 (0, 0)), blk g10 (.cells e18 33 (0, 0)), blk g13 (.cells e18 33 (0, 0)), blk g78 (.cells #[e19] 3 (0, 0)), blk t.2.1 (.cells #[(iv t.1.1), (iv t.1.2.1)] 63 (0, 0)), blk t.2.2 (.cells #[(iv t.1.2.2.1), (iv t.1.2.2.2)] 63 (0, 0))] ∧ x90 = t.1) (fun Kx90 => ?_) ?_
 ·
  refine WC.regionD (e23, [0, 1, 2, 3], [[], [0], [], [2], [], [], [0, 1, 4, 5], e24]) [[0, 1, 2, 3, 4, 5, 6, 7], [0, 1, 2, 3, 5, 4, 6, 7]] (by kernel_rfl) (by kernel_rfl) (NoPanic.seq (NoPanic.body)) ?_
  have hS93 := hS82.drew
  revert hS93
  generalize World.drew w81 = w92
  intro hS93
  refine ⟨⟨hS93.cell 0 rfl 0 rfl, hS93.cell 0 rfl 0 rfl, trivial⟩, forallC ?_ (forallC ?_ (forallN))⟩
  ·
   refine segF 4 [.v e19, .v e19] [0, 2, 4, 6, 7, 11, 84, 86] [e8, (2, e5), e16, e11, e12, (11, (pt g78)), (84, (.agg e31)), (86, (.agg e31))] [] [0, 1] e23 (fun fb => by kernel_rfl) rfl trivial rfl ?_
   refine WL.new hS93 13 [] (fun g => (pt g)) (.cells e18 63 (0, 0)) [] (fun fb g => by kernel_rfl) trivial (fun g94 w95 hS96 => ?_)
   refine ⟨⟨hS96.cell 1 rfl 0 rfl, hS96.cell 1 rfl 0 rfl, trivial⟩, ?_⟩
   refine WL.new hS96 14 [] (fun g => (pt g)) (.cells e18 63 (0, 0)) [] (fun fb g => by kernel_rfl) trivial (fun g97 w98 hS99 => ?_)
   refine ⟨⟨hS99.cell 2 rfl 0 rfl, hS99.cell 2 rfl 0 rfl, trivial⟩, ?_⟩
   refine WL.store hS99 1 rfl e36 e31 (fun fb => by kernel_rfl) (by kernel_rfl) rfl [0, 2, 3, 4, 5] (by decide) (by decide) (fun w100 hS101 => ?_)
   refine ⟨⟨hS101.cell 2 rfl 0 rfl, trivial⟩, ?_⟩
   refine WL.store hS101 1 rfl e36 e31 (fun fb => by kernel_rfl) (by kernel_rfl) rfl [0, 2, 3, 4, 5] (by decide) (by decide) (fun w102 hS103 => ?_)
   refine ⟨trivial, ?_⟩
   refine WL.done rfl ?_
   injection hx91 with hx91
   exact WX.to Kx90 ((0, t73.1, 0, t73.1), g94, g97) [0, 2, 4, 6, 7, 11, 13, 14] rfl ⟨(hS103.subR e24).sub [3, 4, 5, 2, 1, 0] (by decide), hx91.symm⟩
  refine segF 4 [.v e19, .v e19] [0, 2, 4, 6, 7, 11, 84, 86] [e8, (2, e5), e16, e11, e12, (11, (pt g78)), (84, (.agg e31)), (86, (.agg e31))] [] [0, 1] e23 (fun fb => by kernel_rfl) rfl trivial rfl ?_
  refine WL.new hS93 14 [] (fun g => (pt g)) (.cells e18 63 (0, 0)) [] (fun fb g => by kernel_rfl) trivial (fun g104 w105 hS106 => ?_)
  refine ⟨⟨hS106.cell 1 rfl 0 rfl, hS106.cell 1 rfl 0 rfl, trivial⟩, ?_⟩
  refine WL.new hS106 13 [] (fun g => (pt g)) (.cells e18 63 (0, 0)) [] (fun fb g => by kernel_rfl) trivial (fun g107 w108 hS109 => ?_)
  refine ⟨⟨hS109.cell 2 rfl 0 rfl, hS109.cell 2 rfl 0 rfl, trivial⟩, ?_⟩
  refine WL.store hS109 0 rfl e36 e31 (fun fb => by kernel_rfl) (by kernel_rfl) rfl [1, 2, 3, 4, 5] (by decide) (by decide) (fun w110 hS111 => ?_)
  refine ⟨⟨hS111.cell 2 rfl 0 rfl, trivial⟩, ?_⟩
  refine WL.store hS111 1 rfl e36 e31 (fun fb => by kernel_rfl) (by kernel_rfl) rfl [0, 2, 3, 4, 5] (by decide) (by decide) (fun w112 hS113 => ?_)
  refine ⟨trivial, ?_⟩
  refine WL.done rfl ?_
  injection hx91 with hx91
  exact WX.to Kx90 ((0, t73.1, 0, t73.1), g107, g104) [0, 2, 4, 6, 7, 11, 13, 14] rfl ⟨(hS113.subR e24).sub [3, 4, 5, 2, 1, 0] (by decide), hx91.symm⟩
 rintro ⟨y117, g88, g89⟩ w114 ⟨hS115, hq116⟩
 subst hq116
 refine WX.next (WC.seq (WC.region ?_))
 refine sg 2 [] [0, 2, 6, 7, 13, 14, 15] [e8, (2, e5), e11, e12, (13, (pt g88)), (14, (pt g89)), (15, (.func (.func 49) #[] #[(pt g7), (pt g78)]))] (by kernel_rfl) ?_
 refine WL.done rfl (WX.next (WC.seq (WC.seq (WC.region ?_))))
 refine sg 3 [] [0, 6, 7, 13, 14, 15, 88, 89, 90] [e8, e11, e12, (13, (pt g88)), (14, (pt g89)), (15, (.func (.func 49) #[] #[(pt g7), (pt g78)])), (88, e5), (89, (iv (p2.length : Int))), (90, (iv 0))] (by kernel_rfl) ?_
 refine WL.done rfl (WX.next ?_)
 obtain ⟨x121, hx122, hf⟩ := bind_some hf
 let e15 : Nat × Value := (89, (iv (p2.length : Int)))
 let e17 := [[], [0], [], [], [], [3, 4], [3, 4, 5], [3, 4, 5, 6], [2, 3, 4, 5, 6, 7], [0, 1, 2, 3, 4, 5, 6, 7, 8], [0, 1, 2, 3, 4, 5, 6, 7, 8, 9], [0, 1, 2, 3, 4, 5, 6, 7, 8, 9, 10]]
 let e20 : Array Value := #[(pt g7), (pt g78)]
 let e29 : Nat × Value := (13, (pt g88))
 let e30 : Nat × Value := (14, (pt g89))
 let e37 : List Nat := [0, 6, 7, 13, 14, 15, 88, 89, 90]
 refine WC.cutN (T := Int × Int) (fun t => [e11, e12, e29, e30]) (fun t w1 => St NoS w w1 e4 [blk g10 (.cells e18 33 (0, 0)), blk g13 (.cells e18 33 (0, 0)), blk g88 (.cells #[(iv t.1), (iv x90.2.1)] 63 (0, 0)), blk g89 (.cells #[(iv t.2), (iv x90.2.2.2)] 63 (0, 0))] ∧ x121 = t) (fun Kx121 => ?_) ?_
 ·
  refine WC.block ?_
  refine WC.loop (T := Int × Int × Int) (fun t => [e8, e11, e12, e29, e30, (15, (.func (.func 49) #[] e20)), (88, e5), e15, (90, (iv t.2.2))]) (fun n t w1 => St NoS w w1 e4 [blk g10 (.cells e18 33 (0, 0)), blk g13 (.cells e18 33 (0, 0)), blk g88 (.cells #[(iv t.1), (iv x90.2.1)] 63 (0, 0)), blk g89 (.cells #[(iv t.2.1), (iv x90.2.2.2)] 63 (0, 0)), blk g7 (.cells e10 26 (0, 0)), blk g78 (.cells #[e19] 3 (0, 0))] ∧ weight_Row.l1 n t.1 t.2.1 t.2.2 p0 p1 p2 t73 = some x121) k (x90.1, x90.2.2.1, 0) e37 rfl ⟨(hS115.subR e24).sub [1, 2, 4, 5, 0, 3] (by decide), hx122⟩ ?_
  rintro k123 ⟨x118, x119, x120⟩ w124 ⟨hS125, hl126⟩
  let e6 := rdD p0 (rdD p2 x120 0) z_Tile
  let e22 := (adr Aa).add (((rdD p2 x120 0)).toNat * 4)
  let e32 := rdD p2 x120 0
  let e35 : List (Nat × Addr × Value) := [(1, ⟨g88, 0, none⟩, (iv x118)), (7, (e22.add 2), (iv (e6.S)))]
  let e38 : Nat × Value := (90, (iv x120))
  let e40 : List (Nat × Addr × Value) := [(1, ⟨g89, 0, none⟩, (iv x119)), (7, e22, (iv (e6.N)))]
  cases k123 with
  | zero => rw [weight_Row.l1] at hl126; cases hl126
  | succ k123 =>
   rw [weight_Row.l1] at hl126
   refine WC.seq (WC.region ?_)
   refine sg 1 [] [0, 6, 7, 13, 14, 15, 88, 89, 90, 91] [e8, e11, e12, e29, e30, (15, (.func (.func 49) #[] e20)), (88, e5), e15, e38, (91, (bv (decide (x120 < (p2.length : Int)))))] (by kernel_rfl) ?_
   refine WL.done rfl (WX.next (WC.seq ?_))
   rcases br_some hl126 with ⟨h127, hl126⟩ | ⟨h127, hl126⟩
   ·refine WC.condT2 (fun fb => by kernel_rfl) h127 ?_
    refine WC.skip (WX.next (WC.seq (WC.block (WC.seq (WC.region ?_)))))
    obtain ⟨h128, hl126⟩ := as_some hl126
    refine seg 3 [.v (iv e32)] [0, 6, 7, 13, 14, 15, 17, 88, 89, 90] [e8, e11, e12, e29, e30, (15, (.func (.func 49) #[] e20)), (17, (iv e32)), (88, e5), e15, e38] [.idx Ag x120 p2.length, .cell ((adr Ag).add ((x120).toNat * 1)) (iv e32)] (fun fb => by kernel_rfl) rfl ⟨rowR.adr (hS125.rd 6).1 h128.1 h128.2, rowR.cell (hS125.rd 6).1 0 h128.1 h128.2 0 rfl, trivial⟩ ?_
    refine WL.done rfl (WX.next (WC.seq ?_))
    obtain ⟨h131, hl126⟩ := as_some hl126
    refine WC.regionD (e35, [0, 1, 2, 3, 4, 5, 6, 7, 9, 10], e17) [e21] (by kernel_rfl) (by kernel_rfl) (NoPanic.seq (NoPanic.block (NoPanic.seq (NoPanic.seq (NoPanic.block (NoPanic.seq (NoPanic.body))))))) ?_
    have hS130 := hS125.drew
    revert hS130
    generalize World.drew w124 = w129
    intro hS130
    refine ⟨⟨hS130.cell 2 rfl 0 rfl, rowR.cell (hS130.rd 0).1 z_Tile h131.1 h131.2 2 rfl, trivial⟩, forallC ?_ (forallN)⟩
    refine segF 8 [.v (iv x118), .v (iv (e6.S))] [0, 6, 7, 13, 14, 15, 17, 88, 89, 90, 95, 96, 101] [e8, e11, e12, e29, e30, (15, (.func (.func 49) #[] e20)), (17, (iv e32)), (88, e5), e15, e38, (95, (iv x118)), (96, (.func (.func 49) #[] e20)), (101, (iv (e6.S)))] [.idx Aa e32 p0.length] [0, 1] e35 (fun fb => by kernel_rfl) rfl ⟨rowR.adr (hS130.rd 0).1 h131.1 h131.2, trivial⟩ rfl ?_
    obtain ⟨t132, ht133, hl126⟩ := bind_some hl126
    refine WL.call (some 102) 49 #[(iv (e6.S)), (pt g7), (pt g78)] (fun fb => by kernel_rfl) (weight_Row_1_calls _ (e6.S) p1 t73.1 g7 Ab cb Ac cc Ad cd Ae ce Af cf g78 t132 _ (hS130.ow 4) (hS130.rd 1) (hS130.rd 2) (hS130.rd 3) (hS130.rd 4) (hS130.rd 5) (hS130.ow 5) ht133) (fun v w134 hR135 => ?_)
    obtain ⟨rfl, hk_⟩ := hR135
    have hS136 := hS130.keepN hk_
    refine ⟨⟨hS136.cell 2 rfl 0 rfl, trivial⟩, ?_⟩
    refine sg 11 [] [0, 6, 7, 13, 14, 15, 17, 88, 89, 90, 103, 104] [e8, e11, e12, e29, e30, (15, (.func (.func 49) #[] e20)), (17, (iv e32)), (88, e5), e15, e38, (103, (iv (w64 (x118 + t132)))), (104, (pt g88))] (by kernel_rfl) ?_
    refine WL.store hS136 2 rfl [(0, (iv (w64 (x118 + t132))))] #[(iv (w64 (x118 + t132))), (iv x90.2.1)] (fun fb => by kernel_rfl) (by kernel_rfl) rfl [0, 1, 3, 4, 5] (by decide) (by decide) (fun w137 hS138 => ?_)
    refine ⟨trivial, ?_⟩
    refine WL.done rfl (WX.next ?_)
    refine WC.regionD (e40, [0, 1, 2, 3, 4, 5, 6, 7, 9, 10], e17) [e21] (by kernel_rfl) (by kernel_rfl) (NoPanic.block (NoPanic.seq (NoPanic.seq (NoPanic.block (NoPanic.seq (NoPanic.body)))))) ?_
    have hS140 := hS138.drew
    revert hS140
    generalize World.drew w137 = w139
    intro hS140
    refine ⟨⟨hS140.cell 3 rfl 0 rfl, rowR.cell (hS140.rd 0).1 z_Tile h131.1 h131.2 0 rfl, trivial⟩, forallC ?_ (forallN)⟩
    refine segF 8 [.v (iv x119), .v (iv (e6.N))] [0, 6, 7, 13, 14, 15, 88, 89, 90, 106, 107, 112] [e8, e11, e12, e29, e30, (15, (.func (.func 49) #[] e20)), (88, e5), e15, e38, (106, (iv x119)), (107, (.func (.func 49) #[] e20)), (112, (iv (e6.N)))] [.idx Aa e32 p0.length] [0, 1] e40 (fun fb => by kernel_rfl) rfl ⟨rowR.adr (hS140.rd 0).1 h131.1 h131.2, trivial⟩ rfl ?_
    obtain ⟨t141, ht142, hl126⟩ := bind_some hl126
    refine WL.call (some 113) 49 #[(iv (e6.N)), (pt g7), (pt g78)] (fun fb => by kernel_rfl) (weight_Row_1_calls _ (e6.N) p1 t73.1 g7 Ab cb Ac cc Ad cd Ae ce Af cf g78 t141 _ (hS140.ow 4) (hS140.rd 1) (hS140.rd 2) (hS140.rd 3) (hS140.rd 4) (hS140.rd 5) (hS140.ow 5) ht142) (fun v w143 hR144 => ?_)
    obtain ⟨rfl, hk_⟩ := hR144
    have hS145 := hS140.keepN hk_
    refine ⟨⟨hS145.cell 3 rfl 0 rfl, trivial⟩, ?_⟩
    refine sg 11 [] [0, 6, 7, 13, 14, 15, 88, 89, 90, 114, 115] [e8, e11, e12, e29, e30, (15, (.func (.func 49) #[] e20)), (88, e5), e15, e38, (114, (iv (w64 (x119 + t141)))), (115, (pt g89))] (by kernel_rfl) ?_
    refine WL.store hS145 3 rfl [(0, (iv (w64 (x119 + t141))))] #[(iv (w64 (x119 + t141))), (iv x90.2.2.2)] (fun fb => by kernel_rfl) (by kernel_rfl) rfl [0, 1, 2, 4, 5] (by decide) (by decide) (fun w146 hS147 => ?_)
    refine ⟨trivial, ?_⟩
    refine WL.done rfl ?_
    refine WX.blockN (WX.next ?_)
    refine WC.region ?_
    refine sg 2 [] e37 [e8, e11, e12, e29, e30, (15, (.func (.func 49) #[] e20)), (88, e5), e15, (90, (iv (w64 (x120 + 1))))] (by kernel_rfl) ?_
    refine WL.done rfl ?_
    exact WX.again k123 (Nat.lt_succ_self _) (w64 (x118 + t132), w64 (x119 + t141), w64 (x120 + 1)) e37 rfl ⟨(hS147.subR e24).sub [2, 3, 1, 0, 4, 5] (by decide), hl126⟩
   refine WC.condF2 (fun fb => by kernel_rfl) h127 ?_
   refine WC.exit ?_
   injection hl126 with hl126
   exact WX.thenX (WX.thenX (WX.blockHere (WX.to Kx121 (x118, x119) [6, 7, 13, 14] rfl ⟨(hS125.subR e24).sub [0, 1, 2, 3] (by decide), hl126.symm⟩)))
 rintro y151 w148 ⟨hS149, hq150⟩
 subst hq150
 refine WX.next (WC.seq ?_)
 refine WC.regionD ([(0, ⟨g88, 0, none⟩, (iv x121.1)), (0, ⟨g88, 1, none⟩, (iv x90.2.1)), (2, ⟨g89, 0, none⟩, (iv x121.2)), (2, ⟨g89, 1, none⟩, (iv x90.2.2.2))], [0, 2], [[], [0], [], [0, 1, 2], [0, 1, 2, 3], [0, 1, 2, 3, 4]]) [[0, 2, 1, 3, 4, 5]] (by kernel_rfl) (by kernel_rfl) (NoPanic.seq (NoPanic.body)) ?_
 have hS153 := hS149.drew
 revert hS153
 generalize World.drew w148 = w152
 intro hS153
 refine ⟨⟨hS153.cell 2 rfl 0 rfl, hS153.cell 2 rfl 1 rfl, hS153.cell 3 rfl 0 rfl, hS153.cell 3 rfl 1 rfl, trivial⟩, forallC ?_ (forallN)⟩
 refine segF 2 [.v (iv x121.1), .v (iv x90.2.1), .v (iv x121.2), .v (iv x90.2.2.2)] [6, 7, 13, 14, 117, 119] [e11, e12, e29, e30, (117, (.agg #[(iv x121.1), (iv x90.2.1)])), (119, (.agg #[(iv x121.2), (iv x90.2.2.2)]))] [] [0, 1, 2, 3] [(0, ⟨g88, 0, none⟩, (iv x121.1)), (0, ⟨g88, 1, none⟩, (iv x90.2.1)), (2, ⟨g89, 0, none⟩, (iv x121.2)), (2, ⟨g89, 1, none⟩, (iv x90.2.2.2))] (fun fb => by kernel_rfl) rfl trivial rfl ?_
 obtain ⟨t154, ht155, hf⟩ := bind_some hf
 refine WL.call (some 118) 50 #[(.agg #[(iv x121.1), (iv x90.2.1)])] (fun fb => by kernel_rfl) (weight_fraction_lowest_calls _ (Fraction.mk x121.1 x90.2.1) t154 _ ht155) (fun v w156 hR157 => ?_)
 obtain ⟨rfl, hk_⟩ := hR157
 have hS158 := hS153.keepN hk_
 refine ⟨⟨hS158.cell 3 rfl 0 rfl, hS158.cell 3 rfl 1 rfl, trivial⟩, ?_⟩
 obtain ⟨t159, ht160, hf⟩ := bind_some hf
 refine WL.call (some 120) 50 #[(.agg #[(iv x121.2), (iv x90.2.2.2)])] (fun fb => by kernel_rfl) (weight_fraction_lowest_calls _ (Fraction.mk x121.2 x90.2.2.2) t159 _ ht160) (fun v w161 hR162 => ?_)
 obtain ⟨rfl, hk_⟩ := hR162
 have hS163 := hS158.keepN hk_
 refine ⟨trivial, ?_⟩
 refine WL.store hS163 2 rfl [(0, (iv t154.Num)), (1, (iv t154.Den))] #[(iv t154.Num), (iv t154.Den)] (fun fb => by kernel_rfl) (by kernel_rfl) rfl [0, 1, 3] (by decide) (by decide) (fun w164 hS165 => ?_)
 refine ⟨trivial, ?_⟩
 refine WL.store hS165 3 rfl [(0, (iv t159.Num)), (1, (iv t159.Den))] #[(iv t159.Num), (iv t159.Den)] (fun fb => by kernel_rfl) (by kernel_rfl) rfl [0, 1, 2] (by decide) (by decide) (fun w166 hS167 => ?_)
 refine ⟨trivial, ?_⟩
 refine WL.done rfl (WX.next (WC.seq (WC.seq (WC.region ?_))))
 refine seg 1 [.v (iv t154.Num), .v (iv t154.Den)] [6, 7, 13, 14, 121] [e11, e12, e29, e30, (121, (.agg #[(iv t154.Num), (iv t154.Den)]))] [.cell ⟨g88, 0, none⟩ (iv t154.Num), .cell ⟨g88, 1, none⟩ (iv t154.Den)] (fun fb => by kernel_rfl) rfl ⟨hS167.cell 1 rfl 0 rfl, hS167.cell 1 rfl 1 rfl, trivial⟩ ?_
 obtain ⟨t168, ht169, hf⟩ := bind_some hf
 refine WL.call (some 122) 39 #[(.agg #[(iv t154.Num), (iv t154.Den)])] (fun fb => by kernel_rfl) (weight_fraction_valid_calls t154 t168 _ ht169) (fun v w170 hR171 => ?_)
 obtain ⟨rfl, hk_⟩ := hR171
 have hS172 := hS167.keepN hk_
 refine ⟨trivial, ?_⟩
 refine sg 4 [] [6, 7, 13, 14, 124] [e11, e12, e29, e30, (124, (bv (!t168)))] (by kernel_rfl) ?_
 obtain ⟨x173, hx174, hf⟩ := bind_some hf
 let e39 : Array Value := #[(iv t159.Num), (iv t159.Den)]
 refine WL.cutW (T := Bool) 8 (fun t => [e11, e12, e29, e30, (128, (bv t))]) (fun t w1 => (St NoS w w1 e4 [blk g10 (.cells e18 33 (0, 0)), blk g13 (.cells e18 33 (0, 0)), blk g88 (.cells #[(iv t154.Num), (iv t154.Den)] 63 (0, 0)), blk g89 (.cells e39 63 (0, 0))] ∧ x173 = t) ∧ CellsOK [] w1) (fun K => ?_) ?_
 ·
  rcases br_some hx174 with ⟨h175, hx174⟩ | ⟨h175, hx174⟩
  ·
   refine WL.setB 124 h175 rfl ?_
   refine sg 8 [] [6, 7, 13, 14, 128] [e11, e12, e29, e30, (128, (bv true))] (by kernel_rfl) ?_
   injection hx174 with hx174
   exact WL.to K true [6, 7, 13, 14, 128] rfl ⟨⟨(hS172.subR e24).sub [2, 3, 1, 0] (by decide), hx174.symm⟩, trivial⟩
  refine WL.setB 124 h175 rfl ?_
  refine seg 5 [.v (iv t159.Num), .v (iv t159.Den)] [6, 7, 13, 14, 124, 125] [e11, e12, e29, e30, (124, (bv false)), (125, (.agg e39))] [.cell ⟨g89, 0, none⟩ (iv t159.Num), .cell ⟨g89, 1, none⟩ (iv t159.Den)] (fun fb => by kernel_rfl) rfl ⟨hS172.cell 0 rfl 0 rfl, hS172.cell 0 rfl 1 rfl, trivial⟩ ?_
  obtain ⟨t176, ht177, hx174⟩ := bind_some hx174
  refine WL.call (some 126) 39 #[(.agg e39)] (fun fb => by kernel_rfl) (weight_fraction_valid_calls t159 t176 _ ht177) (fun v w178 hR179 => ?_)
  obtain ⟨rfl, hk_⟩ := hR179
  have hS180 := hS172.keepN hk_
  refine ⟨trivial, ?_⟩
  refine sg 8 [] [6, 7, 13, 14, 128] [e11, e12, e29, e30, (128, (bv (!t176)))] (by kernel_rfl) ?_
  injection hx174 with hx174
  exact WL.to K (!t176) [6, 7, 13, 14, 128] rfl ⟨⟨(hS180.subR e24).sub [2, 3, 1, 0] (by decide), hx174.symm⟩, trivial⟩
 rintro y181 w183 ⟨⟨hS184, hq182⟩, hF185⟩
 subst hq182
 refine WL.done rfl (WX.next ?_)
 rcases br_some hf with ⟨h186, hf⟩ | ⟨h186, hf⟩
 ·refine WC.condT2 (fun fb => by kernel_rfl) h186 ?_
  refine WC.seq (WC.region ?_)
  refine sg 2 [] [6, 7, 129, 130] [e11, e12, (129, (.agg e18)), (130, (.agg e18))] (by kernel_rfl) ?_
  refine WL.store hS184 0 rfl [(0, (iv 0)), (1, (iv 0))] e18 (fun fb => by kernel_rfl) (by kernel_rfl) rfl [1, 2, 3] (by decide) (by decide) (fun w187 hS188 => ?_)
  refine ⟨trivial, ?_⟩
  refine WL.store hS188 1 rfl [(0, (iv 0)), (1, (iv 0))] e18 (fun fb => by kernel_rfl) (by kernel_rfl) rfl [0, 2, 3] (by decide) (by decide) (fun w189 hS190 => ?_)
  refine ⟨trivial, ?_⟩
  refine sg 5 [] [6, 7, 8] [e11, e12, (8, (iv 4))] (by kernel_rfl) ?_
  refine WL.done rfl (WX.next ?_)
  refine WC.ret ?_
  injection hf with hf
  subst hf
  exact WX.thenR (WX.ret_ [.v (iv 0), .v (iv 0), .v (iv 0), .v (iv 0)] (.tuple #[(.agg e18), (.agg e18), (iv 4)]) [.cell ⟨g10, 0, none⟩ (iv 0), .cell ⟨g10, 1, none⟩ (iv 0), .cell ⟨g13, 0, none⟩ (iv 0), .cell ⟨g13, 1, none⟩ (iv 0)] (fun fb => by kernel_rfl) ⟨hS190.cell 1 rfl 0 rfl, hS190.cell 1 rfl 1 rfl, hS190.cell 0 rfl 0 rfl, hS190.cell 0 rfl 1 rfl, trivial⟩ ⟨_, rfl, rfl, hS190.keep⟩)
 refine WC.condF2 (fun fb => by kernel_rfl) h186 ?_
 refine WC.skip (WX.next (WC.seq ?_))
 refine WC.regionD ([(0, ⟨g88, 0, none⟩, (iv t154.Num)), (0, ⟨g88, 1, none⟩, (iv t154.Den)), (1, ⟨g89, 0, none⟩, (iv t159.Num)), (1, ⟨g89, 1, none⟩, (iv t159.Den))], [0, 1, 4], [[], [], [0], [0, 1, 2], [0, 1, 2, 3]]) [[0, 1, 2, 3, 4]] (by kernel_rfl) (by kernel_rfl) (NoPanic.seq (NoPanic.body)) ?_
 have hS192 := hS184.drew
 revert hS192
 generalize World.drew w183 = w191
 intro hS192
 refine ⟨⟨hS192.cell 2 rfl 0 rfl, hS192.cell 2 rfl 1 rfl, hS192.cell 3 rfl 0 rfl, hS192.cell 3 rfl 1 rfl, trivial⟩, forallC ?_ (forallN)⟩
 refine segF 2 [.v (iv t154.Num), .v (iv t154.Den), .v (iv t159.Num), .v (iv t159.Den)] [6, 7, 131, 132] [e11, e12, (131, (.agg #[(iv t154.Num), (iv t154.Den)])), (132, (.agg e39))] [] [0, 1, 2, 3] [(0, ⟨g88, 0, none⟩, (iv t154.Num)), (0, ⟨g88, 1, none⟩, (iv t154.Den)), (1, ⟨g89, 0, none⟩, (iv t159.Num)), (1, ⟨g89, 1, none⟩, (iv t159.Den))] (fun fb => by kernel_rfl) rfl trivial rfl ?_
 refine WL.store hS192 0 rfl [(0, (iv t154.Num)), (1, (iv t154.Den))] #[(iv t154.Num), (iv t154.Den)] (fun fb => by kernel_rfl) (by kernel_rfl) rfl [1, 2, 3] (by decide) (by decide) (fun w193 hS194 => ?_)
 refine ⟨⟨hS194.cell 3 rfl 0 rfl, hS194.cell 3 rfl 1 rfl, trivial⟩, ?_⟩
 refine WL.store hS194 1 rfl [(0, (iv t159.Num)), (1, (iv t159.Den))] e39 (fun fb => by kernel_rfl) (by kernel_rfl) rfl [0, 2, 3] (by decide) (by decide) (fun w195 hS196 => ?_)
 refine ⟨trivial, ?_⟩
 refine sg 5 [] [6, 7, 8] [e11, e12, (8, (iv 0))] (by kernel_rfl) ?_
 refine WL.done rfl (WX.next ?_)
 refine WC.ret ?_
 injection hf with hf
 subst hf
 exact WX.ret_ [.v (iv t154.Num), .v (iv t154.Den), .v (iv t159.Num), .v (iv t159.Den)] (.tuple #[(.agg #[(iv t154.Num), (iv t154.Den)]), (.agg e39), (iv 0)]) [.cell ⟨g10, 0, none⟩ (iv t154.Num), .cell ⟨g10, 1, none⟩ (iv t154.Den), .cell ⟨g13, 0, none⟩ (iv t159.Num), .cell ⟨g13, 1, none⟩ (iv t159.Den)] (fun fb => by kernel_rfl) ⟨hS196.cell 1 rfl 0 rfl, hS196.cell 1 rfl 1 rfl, hS196.cell 0 rfl 0 rfl, hS196.cell 0 rfl 1 rfl, trivial⟩ ⟨_, rfl, rfl, hS196.keep⟩
theorem law06_awake_calls (k : Nat)  (mG : Glo) (r : Bool) (w : World) (hR0 : RO NoS w (tabO 0 md0)) (hR1 : RO NoS w (gloO Tryz.prog 5 8 3 4 mG)) (hf : law06_awake k = some r) :
  CallsR Tryz.prog 10 #[] w (fun v w' => v = (bv r) ∧ Keeps NoS w w') := by
 have hS : St NoS w w [tabO 0 md0, gloO Tryz.prog 5 8 3 4 mG] [] := St.init (ro_cons hR0 (ro_cons hR1 (ro_nil _ _)))
 refine enter 88 Tryz.func10 rfl Tryz.ntmps10 rfl ?_
 unfold law06_awake at hf
 refine WC.seq (WC.region ?_)
 refine sg 1 [] [] [] (by kernel_rfl) ?_
 refine WL.done rfl (WX.next (WC.seq (WC.region ?_)))
 obtain ⟨t3, ht4, hf⟩ := bind_some hf
 refine WL.call (some 14) 26 #[(.string (⟨#[50, 46, 48, 46, 49, 46, 48]⟩ : ByteArray))] (fun fb => by kernel_rfl) (tile_Parse_calls _ (⟨#[50, 46, 48, 46, 49, 46, 48]⟩ : ByteArray) mG t3 _ (hS.rd 1) ht4) (fun v w5 hR7 => ?_)
 obtain ⟨A9, c11, rfl, hk_⟩ := hR7
 have hS8 := hS.go w5 [rowO 44 enc_Tile A9 c11 t3.1] (hS.call hk_ [] [] (fun g hg => hg.elim) (by simp) (by decide))
 refine ⟨trivial, ?_⟩
 refine sg 6 [] [1] [(1, (sv A9 t3.1 c11))] (by kernel_rfl) ?_
 refine WL.done rfl (WX.next (WC.seq (WC.region ?_)))
 obtain ⟨t12, ht13, hf⟩ := bind_some hf
 refine WL.call (some 18) 26 #[(.string (⟨#[49, 46, 48, 46, 49, 46, 48]⟩ : ByteArray))] (fun fb => by kernel_rfl) (tile_Parse_calls _ (⟨#[49, 46, 48, 46, 49, 46, 48]⟩ : ByteArray) mG t12 _ (hS8.rd 1) ht13) (fun v w14 hR15 => ?_)
 obtain ⟨A17, c18, rfl, hk_⟩ := hR15
 have hS16 := hS8.go w14 [rowO 44 enc_Tile A17 c18 t12.1, rowO 44 enc_Tile A9 c11 t3.1] (hS8.call hk_ [] [0] (fun g hg => hg.elim) (by simp) (by decide))
 refine ⟨trivial, ?_⟩
 refine sg 6 [] [1, 3] [(1, (sv A9 t3.1 c11)), (3, (sv A17 t12.1 c18))] (by kernel_rfl) ?_
 refine WL.done rfl (WX.next (WC.seq (WC.region ?_)))
 refine sg 3 [] [1, 3, 21, 22, 23] [(1, (sv A9 t3.1 c11)), (3, (sv A17 t12.1 c18)), (21, (.agg #[(iv 0), (iv 1)])), (22, (.agg #[(iv 1), (iv 1)])), (23, (.agg #[(iv 2), (iv 1)]))] (by kernel_rfl) ?_
 refine WL.new hS16 24 [] (fun g => (.slice (some ⟨g, 0, none⟩) 3 3)) (.cells #[(iv 0), (iv 1), (iv 1), (iv 1), (iv 2), (iv 1)] 33 (0, 0)) [] (fun fb g => by kernel_rfl) trivial (fun g19 w20 hS21 => ?_)
 refine ⟨trivial, ?_⟩
 have hS22 := hS16.go w20 [rowO 33 enc_Frac (some ⟨g19, 0, none⟩) 3 [(Frac.mk 0 1), (Frac.mk 1 1), (Frac.mk 2 1)], rowO 44 enc_Tile A17 c18 t12.1, rowO 44 enc_Tile A9 c11 t3.1] (hS21.map1 0 _ (fun h => rowO.ofBlk h rfl (Nat.le_of_ble_eq_true (by kernel_rfl))) (fun _ h => by obtain ⟨_, h1, h2⟩ := h; injection h1 with h1; subst h1; exact h2) [1, 2] (by decide) (by decide))
 refine sg 5 [] [1, 3, 24, 25] [(1, (sv A9 t3.1 c11)), (3, (sv A17 t12.1 c18)), (24, (sv (some ⟨g19, 0, none⟩) [(Frac.mk 0 1), (Frac.mk 1 1), (Frac.mk 2 1)] 3)), (25, (.agg #[(iv 0), (iv 1)]))] (by kernel_rfl) ?_
 refine WL.new hS22 26 [] (fun g => (.slice (some ⟨g, 0, none⟩) 1 1)) (.cells #[(iv 0), (iv 1)] 33 (0, 0)) [] (fun fb g => by kernel_rfl) trivial (fun g23 w24 hS25 => ?_)
 refine ⟨trivial, ?_⟩
 have hS26 := hS22.go w24 [rowO 33 enc_Frac (some ⟨g23, 0, none⟩) 1 [(Frac.mk 0 1)], rowO 33 enc_Frac (some ⟨g19, 0, none⟩) 3 [(Frac.mk 0 1), (Frac.mk 1 1), (Frac.mk 2 1)], rowO 44 enc_Tile A17 c18 t12.1, rowO 44 enc_Tile A9 c11 t3.1] (hS25.map1 0 _ (fun h => rowO.ofBlk h rfl (Nat.le_of_ble_eq_true (by kernel_rfl))) (fun _ h => by obtain ⟨_, h1, h2⟩ := h; injection h1 with h1; subst h1; exact h2) [1, 2, 3] (by decide) (by decide))
 refine sg 7 [] [1, 3, 24, 26, 27] [(1, (sv A9 t3.1 c11)), (3, (sv A17 t12.1 c18)), (24, (sv (some ⟨g19, 0, none⟩) [(Frac.mk 0 1), (Frac.mk 1 1), (Frac.mk 2 1)] 3)), (26, (sv (some ⟨g23, 0, none⟩) [(Frac.mk 0 1)] 1)), (27, (.agg #[(iv 2), (iv 1)]))] (by kernel_rfl) ?_
 refine WL.new hS26 28 [] (fun g => (.slice (some ⟨g, 0, none⟩) 1 1)) (.cells #[(iv 2), (iv 1)] 33 (0, 0)) [] (fun fb g => by kernel_rfl) trivial (fun g27 w28 hS29 => ?_)
 refine ⟨trivial, ?_⟩
 have hS30 := hS26.go w28 [rowO 33 enc_Frac (some ⟨g27, 0, none⟩) 1 [(Frac.mk 2 1)], rowO 33 enc_Frac (some ⟨g23, 0, none⟩) 1 [(Frac.mk 0 1)], rowO 33 enc_Frac (some ⟨g19, 0, none⟩) 3 [(Frac.mk 0 1), (Frac.mk 1 1), (Frac.mk 2 1)], rowO 44 enc_Tile A17 c18 t12.1, rowO 44 enc_Tile A9 c11 t3.1] (hS29.map1 0 _ (fun h => rowO.ofBlk h rfl (Nat.le_of_ble_eq_true (by kernel_rfl))) (fun _ h => by obtain ⟨_, h1, h2⟩ := h; injection h1 with h1; subst h1; exact h2) [1, 2, 3, 4] (by decide) (by decide))
 refine WL.new hS30 29 [] (fun g => (.slice (some ⟨g, 0, none⟩) 1 1)) (.cells #[(iv 2)] 3 (0, 0)) [] (fun fb g => by kernel_rfl) trivial (fun g31 w32 hS33 => ?_)
 refine ⟨trivial, ?_⟩
 have hS34 := hS30.go w32 [rowO 3 encInt (some ⟨g31, 0, none⟩) 1 [2], rowO 33 enc_Frac (some ⟨g27, 0, none⟩) 1 [(Frac.mk 2 1)], rowO 33 enc_Frac (some ⟨g23, 0, none⟩) 1 [(Frac.mk 0 1)], rowO 33 enc_Frac (some ⟨g19, 0, none⟩) 3 [(Frac.mk 0 1), (Frac.mk 1 1), (Frac.mk 2 1)], rowO 44 enc_Tile A17 c18 t12.1, rowO 44 enc_Tile A9 c11 t3.1] (hS33.map1 0 _ (fun h => rowO.ofBlk h rfl (Nat.le_of_ble_eq_true (by kernel_rfl))) (fun _ h => by obtain ⟨_, h1, h2⟩ := h; injection h1 with h1; subst h1; exact h2) [1, 2, 3, 4, 5] (by decide) (by decide))
 refine WL.new hS34 30 [] (fun g => (.slice (some ⟨g, 0, none⟩) 1 1)) (.cells #[(iv 1)] 3 (0, 0)) [] (fun fb g => by kernel_rfl) trivial (fun g35 w36 hS37 => ?_)
 refine ⟨trivial, ?_⟩
 have hS38 := hS34.go w36 [rowO 3 encInt (some ⟨g35, 0, none⟩) 1 [1], rowO 3 encInt (some ⟨g31, 0, none⟩) 1 [2], rowO 33 enc_Frac (some ⟨g27, 0, none⟩) 1 [(Frac.mk 2 1)], rowO 33 enc_Frac (some ⟨g23, 0, none⟩) 1 [(Frac.mk 0 1)], rowO 33 enc_Frac (some ⟨g19, 0, none⟩) 3 [(Frac.mk 0 1), (Frac.mk 1 1), (Frac.mk 2 1)], rowO 44 enc_Tile A17 c18 t12.1, rowO 44 enc_Tile A9 c11 t3.1] (hS37.map1 0 _ (fun h => rowO.ofBlk h rfl (Nat.le_of_ble_eq_true (by kernel_rfl))) (fun _ h => by obtain ⟨_, h1, h2⟩ := h; injection h1 with h1; subst h1; exact h2) [1, 2, 3, 4, 5, 6] (by decide) (by decide))
 refine sg 11 [] [1, 3, 31] [(1, (sv A9 t3.1 c11)), (3, (sv A17 t12.1 c18)), (31, (.agg #[(sv (some ⟨g19, 0, none⟩) [(Frac.mk 0 1), (Frac.mk 1 1), (Frac.mk 2 1)] 3), (sv (some ⟨g23, 0, none⟩) [(Frac.mk 0 1)] 1), (sv (some ⟨g27, 0, none⟩) [(Frac.mk 2 1)] 1), (sv (some ⟨g31, 0, none⟩) [2] 1), (sv (some ⟨g35, 0, none⟩) [1] 1)]))] (by kernel_rfl) ?_
 refine WL.new hS38 5 [] (fun g => (pt g)) (.cells #[(.slice none 0 0), (.slice none 0 0), (.slice none 0 0), (.slice none 0 0), (.slice none 0 0)] 26 (0, 0)) [] (fun fb g => by kernel_rfl) trivial (fun g39 w40 hS41 => ?_)
 refine ⟨trivial, ?_⟩
 refine WL.store hS41 0 rfl [(0, (sv (some ⟨g19, 0, none⟩) [(Frac.mk 0 1), (Frac.mk 1 1), (Frac.mk 2 1)] 3)), (1, (sv (some ⟨g23, 0, none⟩) [(Frac.mk 0 1)] 1)), (2, (sv (some ⟨g27, 0, none⟩) [(Frac.mk 2 1)] 1)), (3, (sv (some ⟨g31, 0, none⟩) [2] 1)), (4, (sv (some ⟨g35, 0, none⟩) [1] 1))] #[(sv (some ⟨g19, 0, none⟩) [(Frac.mk 0 1), (Frac.mk 1 1), (Frac.mk 2 1)] 3), (sv (some ⟨g23, 0, none⟩) [(Frac.mk 0 1)] 1), (sv (some ⟨g27, 0, none⟩) [(Frac.mk 2 1)] 1), (sv (some ⟨g31, 0, none⟩) [2] 1), (sv (some ⟨g35, 0, none⟩) [1] 1)] (fun fb => by kernel_rfl) (by kernel_rfl) rfl [1, 2, 3, 4, 5, 6, 7] (by decide) (by decide) (fun w42 hS43 => ?_)
 refine ⟨trivial, ?_⟩
 refine WL.done rfl (WX.next (WC.seq (WC.region ?_)))
 refine seg 2 [.v (sv (some ⟨g19, 0, none⟩) [(Frac.mk 0 1), (Frac.mk 1 1), (Frac.mk 2 1)] 3), .v (sv (some ⟨g23, 0, none⟩) [(Frac.mk 0 1)] 1), .v (sv (some ⟨g27, 0, none⟩) [(Frac.mk 2 1)] 1), .v (sv (some ⟨g31, 0, none⟩) [2] 1), .v (sv (some ⟨g35, 0, none⟩) [1] 1)] [1, 3, 5, 33, 34] [(1, (sv A9 t3.1 c11)), (3, (sv A17 t12.1 c18)), (5, (pt g39)), (33, (sv A9 t3.1 c11)), (34, (.agg #[(sv (some ⟨g19, 0, none⟩) [(Frac.mk 0 1), (Frac.mk 1 1), (Frac.mk 2 1)] 3), (sv (some ⟨g23, 0, none⟩) [(Frac.mk 0 1)] 1), (sv (some ⟨g27, 0, none⟩) [(Frac.mk 2 1)] 1), (sv (some ⟨g31, 0, none⟩) [2] 1), (sv (some ⟨g35, 0, none⟩) [1] 1)]))] [.cell ⟨g39, 0, none⟩ (sv (some ⟨g19, 0, none⟩) [(Frac.mk 0 1), (Frac.mk 1 1), (Frac.mk 2 1)] 3), .cell ⟨g39, 1, none⟩ (sv (some ⟨g23, 0, none⟩) [(Frac.mk 0 1)] 1), .cell ⟨g39, 2, none⟩ (sv (some ⟨g27, 0, none⟩) [(Frac.mk 2 1)] 1), .cell ⟨g39, 3, none⟩ (sv (some ⟨g31, 0, none⟩) [2] 1), .cell ⟨g39, 4, none⟩ (sv (some ⟨g35, 0, none⟩) [1] 1)] (fun fb => by kernel_rfl) rfl ⟨hS43.cell 0 rfl 0 rfl, hS43.cell 0 rfl 1 rfl, hS43.cell 0 rfl 2 rfl, hS43.cell 0 rfl 3 rfl, hS43.cell 0 rfl 4 rfl, trivial⟩ ?_
 obtain ⟨t44, ht45, hf⟩ := bind_some hf
 refine WL.call (some 35) 11 #[(sv A9 t3.1 c11), (.agg #[(sv (some ⟨g19, 0, none⟩) [(Frac.mk 0 1), (Frac.mk 1 1), (Frac.mk 2 1)] 3), (sv (some ⟨g23, 0, none⟩) [(Frac.mk 0 1)] 1), (sv (some ⟨g27, 0, none⟩) [(Frac.mk 2 1)] 1), (sv (some ⟨g31, 0, none⟩) [2] 1), (sv (some ⟨g35, 0, none⟩) [1] 1)])] (fun fb => by kernel_rfl) (weight_Check_calls _ t3.1 (Weights.mk [(Frac.mk 0 1), (Frac.mk 1 1), (Frac.mk 2 1)] [(Frac.mk 0 1)] [(Frac.mk 2 1)] [2] [1]) A9 c11 (some ⟨g19, 0, none⟩) 3 (some ⟨g23, 0, none⟩) 1 (some ⟨g27, 0, none⟩) 1 (some ⟨g31, 0, none⟩) 1 (some ⟨g35, 0, none⟩) 1 t44 _ (hS43.ow 7).ofO (hS43.ow 5).ofO (hS43.ow 4).ofO (hS43.ow 3).ofO (hS43.ow 2).ofO (hS43.ow 1).ofO (hS43.rd 0) ht45) (fun v w46 hR47 => ?_)
 obtain ⟨rfl, hk_⟩ := hR47
 have hS48 := hS43.keepN hk_
 refine ⟨trivial, ?_⟩
 refine sg 8 [] [1, 3, 5, 6, 7] [(1, (sv A9 t3.1 c11)), (3, (sv A17 t12.1 c18)), (5, (pt g39)), (6, (bv t44.1)), (7, (iv t44.2))] (by kernel_rfl) ?_
 refine WL.done rfl (WX.next (WC.seq (WC.region ?_)))
 refine seg 2 [.v (sv (some ⟨g19, 0, none⟩) [(Frac.mk 0 1), (Frac.mk 1 1), (Frac.mk 2 1)] 3), .v (sv (some ⟨g23, 0, none⟩) [(Frac.mk 0 1)] 1), .v (sv (some ⟨g27, 0, none⟩) [(Frac.mk 2 1)] 1), .v (sv (some ⟨g31, 0, none⟩) [2] 1), .v (sv (some ⟨g35, 0, none⟩) [1] 1)] [3, 5, 6, 7, 39, 40] [(3, (sv A17 t12.1 c18)), (5, (pt g39)), (6, (bv t44.1)), (7, (iv t44.2)), (39, (sv A9 t3.1 c11)), (40, (.agg #[(sv (some ⟨g19, 0, none⟩) [(Frac.mk 0 1), (Frac.mk 1 1), (Frac.mk 2 1)] 3), (sv (some ⟨g23, 0, none⟩) [(Frac.mk 0 1)] 1), (sv (some ⟨g27, 0, none⟩) [(Frac.mk 2 1)] 1), (sv (some ⟨g31, 0, none⟩) [2] 1), (sv (some ⟨g35, 0, none⟩) [1] 1)]))] [.cell ⟨g39, 0, none⟩ (sv (some ⟨g19, 0, none⟩) [(Frac.mk 0 1), (Frac.mk 1 1), (Frac.mk 2 1)] 3), .cell ⟨g39, 1, none⟩ (sv (some ⟨g23, 0, none⟩) [(Frac.mk 0 1)] 1), .cell ⟨g39, 2, none⟩ (sv (some ⟨g27, 0, none⟩) [(Frac.mk 2 1)] 1), .cell ⟨g39, 3, none⟩ (sv (some ⟨g31, 0, none⟩) [2] 1), .cell ⟨g39, 4, none⟩ (sv (some ⟨g35, 0, none⟩) [1] 1)] (fun fb => by kernel_rfl) rfl ⟨hS48.cell 0 rfl 0 rfl, hS48.cell 0 rfl 1 rfl, hS48.cell 0 rfl 2 rfl, hS48.cell 0 rfl 3 rfl, hS48.cell 0 rfl 4 rfl, trivial⟩ ?_
 refine WL.new hS48 41 [] (fun g => (.slice (some ⟨g, 0, none⟩) 3 3)) (.cells #[(iv 0), (iv 0), (iv 0)] 3 (0, 0)) [] (fun fb g => by kernel_rfl) trivial (fun g49 w50 hS51 => ?_)
 refine ⟨trivial, ?_⟩
 have hS52 := hS38.go w50 [rowO 3 encInt (some ⟨g49, 0, none⟩) 3 [0, 0, 0], blk g39 (.cells #[(sv (some ⟨g19, 0, none⟩) [(Frac.mk 0 1), (Frac.mk 1 1), (Frac.mk 2 1)] 3), (sv (some ⟨g23, 0, none⟩) [(Frac.mk 0 1)] 1), (sv (some ⟨g27, 0, none⟩) [(Frac.mk 2 1)] 1), (sv (some ⟨g31, 0, none⟩) [2] 1), (sv (some ⟨g35, 0, none⟩) [1] 1)] 26 (0, 0)), rowO 3 encInt (some ⟨g35, 0, none⟩) 1 [1], rowO 3 encInt (some ⟨g31, 0, none⟩) 1 [2], rowO 33 enc_Frac (some ⟨g27, 0, none⟩) 1 [(Frac.mk 2 1)], rowO 33 enc_Frac (some ⟨g23, 0, none⟩) 1 [(Frac.mk 0 1)], rowO 33 enc_Frac (some ⟨g19, 0, none⟩) 3 [(Frac.mk 0 1), (Frac.mk 1 1), (Frac.mk 2 1)], rowO 44 enc_Tile A17 c18 t12.1, rowO 44 enc_Tile A9 c11 t3.1] (hS51.map1 0 _ (fun h => rowO.ofBlk h rfl (Nat.le_of_ble_eq_true (by kernel_rfl))) (fun _ h => by obtain ⟨_, h1, h2⟩ := h; injection h1 with h1; subst h1; exact h2) [1, 2, 3, 4, 5, 6, 7, 8] (by decide) (by decide))
 obtain ⟨t53, ht54, hf⟩ := bind_some hf
 refine WL.call (some 42) 14 #[(sv A9 t3.1 c11), (.agg #[(sv (some ⟨g19, 0, none⟩) [(Frac.mk 0 1), (Frac.mk 1 1), (Frac.mk 2 1)] 3), (sv (some ⟨g23, 0, none⟩) [(Frac.mk 0 1)] 1), (sv (some ⟨g27, 0, none⟩) [(Frac.mk 2 1)] 1), (sv (some ⟨g31, 0, none⟩) [2] 1), (sv (some ⟨g35, 0, none⟩) [1] 1)]), (sv (some ⟨g49, 0, none⟩) [0, 0, 0] 3)] (fun fb => by kernel_rfl) (weight_Row_calls _ t3.1 (Weights.mk [(Frac.mk 0 1), (Frac.mk 1 1), (Frac.mk 2 1)] [(Frac.mk 0 1)] [(Frac.mk 2 1)] [2] [1]) [0, 0, 0] A9 c11 (some ⟨g19, 0, none⟩) 3 (some ⟨g23, 0, none⟩) 1 (some ⟨g27, 0, none⟩) 1 (some ⟨g31, 0, none⟩) 1 (some ⟨g35, 0, none⟩) 1 (some ⟨g49, 0, none⟩) 3 t53 _ (hS52.ow 8).ofO (hS52.ow 6).ofO (hS52.ow 5).ofO (hS52.ow 4).ofO (hS52.ow 3).ofO (hS52.ow 2).ofO (hS52.ow 0).ofO ht54) (fun v w55 hR56 => ?_)
 obtain ⟨rfl, hk_⟩ := hR56
 have hS57 := hS52.keepN hk_
 refine ⟨trivial, ?_⟩
 refine sg 8 [] [3, 5, 6, 7, 43, 44, 45] [(3, (sv A17 t12.1 c18)), (5, (pt g39)), (6, (bv t44.1)), (7, (iv t44.2)), (43, (.agg #[(iv t53.1.Num), (iv t53.1.Den)])), (44, (.agg #[(iv t53.2.1.Num), (iv t53.2.1.Den)])), (45, (iv t53.2.2))] (by kernel_rfl) ?_
 refine WL.new hS57 8 [] (fun g => (pt g)) (.cells #[(iv 0), (iv 0)] 33 (0, 0)) [] (fun fb g => by kernel_rfl) trivial (fun g58 w59 hS60 => ?_)
 refine ⟨trivial, ?_⟩
 refine WL.new hS60 9 [] (fun g => (pt g)) (.cells #[(iv 0), (iv 0)] 33 (0, 0)) [] (fun fb g => by kernel_rfl) trivial (fun g61 w62 hS63 => ?_)
 refine ⟨trivial, ?_⟩
 refine WL.store hS63 1 rfl [(0, (iv t53.1.Num)), (1, (iv t53.1.Den))] #[(iv t53.1.Num), (iv t53.1.Den)] (fun fb => by kernel_rfl) (by kernel_rfl) rfl [0, 2, 3, 4, 5, 6, 7, 8, 9, 10] (by decide) (by decide) (fun w65 hS66 => ?_)
 refine ⟨trivial, ?_⟩
 refine WL.store hS66 1 rfl [(0, (iv t53.2.1.Num)), (1, (iv t53.2.1.Den))] #[(iv t53.2.1.Num), (iv t53.2.1.Den)] (fun fb => by kernel_rfl) (by kernel_rfl) rfl [0, 2, 3, 4, 5, 6, 7, 8, 9, 10] (by decide) (by decide) (fun w67 hS68 => ?_)
 refine ⟨trivial, ?_⟩
 refine sg 13 [] [3, 5, 6, 7, 8, 9, 10] [(3, (sv A17 t12.1 c18)), (5, (pt g39)), (6, (bv t44.1)), (7, (iv t44.2)), (8, (pt g58)), (9, (pt g61)), (10, (iv t53.2.2))] (by kernel_rfl) ?_
 refine WL.done rfl (WX.next (WC.seq (WC.region ?_)))
 refine seg 2 [.v (sv (some ⟨g19, 0, none⟩) [(Frac.mk 0 1), (Frac.mk 1 1), (Frac.mk 2 1)] 3)] [3, 5, 6, 7, 8, 9, 10, 47] [(3, (sv A17 t12.1 c18)), (5, (pt g39)), (6, (bv t44.1)), (7, (iv t44.2)), (8, (pt g58)), (9, (pt g61)), (10, (iv t53.2.2)), (47, (sv (some ⟨g19, 0, none⟩) [(Frac.mk 0 1), (Frac.mk 1 1), (Frac.mk 2 1)] 3))] [.cell ⟨g39, 0, none⟩ (sv (some ⟨g19, 0, none⟩) [(Frac.mk 0 1), (Frac.mk 1 1), (Frac.mk 2 1)] 3)] (fun fb => by kernel_rfl) rfl ⟨hS68.cell 3 rfl 0 rfl, trivial⟩ ?_
 obtain ⟨h69, hf⟩ := as_some hf
 refine seg 3 [] [3, 5, 6, 7, 8, 9, 10, 48] [(3, (sv A17 t12.1 c18)), (5, (pt g39)), (6, (bv t44.1)), (7, (iv t44.2)), (8, (pt g58)), (9, (pt g61)), (10, (iv t53.2.2)), (48, (.slice (subA (some ⟨g19, 0, none⟩) 3 (0 : Int).toNat 2) ((2 : Int).toNat - (0 : Int).toNat) (3 - (0 : Int).toNat)))] [.idx (some ⟨0, 0, none⟩) (0 : Int) ((2 : Int).toNat + 1), .idx (some ⟨0, 0, none⟩) (2 : Int) (3 + 1)] (fun fb => by kernel_rfl) rfl ⟨cut1 h69.1 h69.2.1, cut2 h69.1 h69.2.1 h69.2.2 (rowO.rd (hS68.own 8).1).2, trivial⟩ ?_
 refine WL.reE [3, 5, 6, 7, 8, 9, 10, 48] [(3, (.slice A17 t12.1.length c18)), (5, (pt g39)), (6, (.bool t44.1)), (7, (iv t44.2)), (8, (pt g58)), (9, (pt g61)), (10, (iv t53.2.2)), (48, (.slice (subA (some ⟨g19, 0, none⟩) 3 (0 : Int).toNat 2) ((2 : Int).toNat - (0 : Int).toNat) (3 - (0 : Int).toNat)))] [(3, (.slice A17 t12.1.length c18)), (5, (pt g39)), (6, (.bool t44.1)), (7, (iv t44.2)), (8, (pt g58)), (9, (pt g61)), (10, (iv t53.2.2)), (48, (.slice (subA (some ⟨g19, 0, none⟩) 3 (0 : Int).toNat 2) (cut [(Frac.mk 0 1), (Frac.mk 1 1), (Frac.mk 2 1)] (0 : Int) (2 : Int)).length (3 - (0 : Int).toNat)))] rfl (by rw [cut_length h69.1 h69.2.1 h69.2.2]) ?_
 refine sg 4 [] [3, 5, 6, 7, 8, 9, 10, 48, 49] [(3, (sv A17 t12.1 c18)), (5, (pt g39)), (6, (bv t44.1)), (7, (iv t44.2)), (8, (pt g58)), (9, (pt g61)), (10, (iv t53.2.2)), (48, (sv (subA (some ⟨g19, 0, none⟩) 3 (0 : Int).toNat 2) (cut [(Frac.mk 0 1), (Frac.mk 1 1), (Frac.mk 2 1)] (0 : Int) (2 : Int)) (3 - (0 : Int).toNat))), (49, (pt g39))] (by kernel_rfl) ?_
 refine WL.store hS68 3 rfl [(0, (sv (subA (some ⟨g19, 0, none⟩) 3 (0 : Int).toNat 2) (cut [(Frac.mk 0 1), (Frac.mk 1 1), (Frac.mk 2 1)] (0 : Int) (2 : Int)) (3 - (0 : Int).toNat)))] #[(sv (subA (some ⟨g19, 0, none⟩) 3 (0 : Int).toNat 2) (cut [(Frac.mk 0 1), (Frac.mk 1 1), (Frac.mk 2 1)] (0 : Int) (2 : Int)) (3 - (0 : Int).toNat)), (sv (some ⟨g23, 0, none⟩) [(Frac.mk 0 1)] 1), (sv (some ⟨g27, 0, none⟩) [(Frac.mk 2 1)] 1), (sv (some ⟨g31, 0, none⟩) [2] 1), (sv (some ⟨g35, 0, none⟩) [1] 1)] (fun fb => by kernel_rfl) (by kernel_rfl) rfl [0, 1, 2, 4, 5, 6, 7, 8, 9, 10] (by decide) (by decide) (fun w70 hS71 => ?_)
 refine ⟨trivial, ?_⟩
 refine WL.done rfl (WX.next (WC.seq (WC.region ?_)))
 refine seg 2 [.v (sv (subA (some ⟨g19, 0, none⟩) 3 (0 : Int).toNat 2) (cut [(Frac.mk 0 1), (Frac.mk 1 1), (Frac.mk 2 1)] (0 : Int) (2 : Int)) (3 - (0 : Int).toNat)), .v (sv (some ⟨g23, 0, none⟩) [(Frac.mk 0 1)] 1), .v (sv (some ⟨g27, 0, none⟩) [(Frac.mk 2 1)] 1), .v (sv (some ⟨g31, 0, none⟩) [2] 1), .v (sv (some ⟨g35, 0, none⟩) [1] 1)] [3, 5, 6, 7, 8, 9, 10, 51, 52] [(3, (sv A17 t12.1 c18)), (5, (pt g39)), (6, (bv t44.1)), (7, (iv t44.2)), (8, (pt g58)), (9, (pt g61)), (10, (iv t53.2.2)), (51, (sv A17 t12.1 c18)), (52, (.agg #[(sv (subA (some ⟨g19, 0, none⟩) 3 (0 : Int).toNat 2) (cut [(Frac.mk 0 1), (Frac.mk 1 1), (Frac.mk 2 1)] (0 : Int) (2 : Int)) (3 - (0 : Int).toNat)), (sv (some ⟨g23, 0, none⟩) [(Frac.mk 0 1)] 1), (sv (some ⟨g27, 0, none⟩) [(Frac.mk 2 1)] 1), (sv (some ⟨g31, 0, none⟩) [2] 1), (sv (some ⟨g35, 0, none⟩) [1] 1)]))] [.cell ⟨g39, 0, none⟩ (sv (subA (some ⟨g19, 0, none⟩) 3 (0 : Int).toNat 2) (cut [(Frac.mk 0 1), (Frac.mk 1 1), (Frac.mk 2 1)] (0 : Int) (2 : Int)) (3 - (0 : Int).toNat)), .cell ⟨g39, 1, none⟩ (sv (some ⟨g23, 0, none⟩) [(Frac.mk 0 1)] 1), .cell ⟨g39, 2, none⟩ (sv (some ⟨g27, 0, none⟩) [(Frac.mk 2 1)] 1), .cell ⟨g39, 3, none⟩ (sv (some ⟨g31, 0, none⟩) [2] 1), .cell ⟨g39, 4, none⟩ (sv (some ⟨g35, 0, none⟩) [1] 1)] (fun fb => by kernel_rfl) rfl ⟨hS71.cell 0 rfl 0 rfl, hS71.cell 0 rfl 1 rfl, hS71.cell 0 rfl 2 rfl, hS71.cell 0 rfl 3 rfl, hS71.cell 0 rfl 4 rfl, trivial⟩ ?_
 obtain ⟨t72, ht73, hf⟩ := bind_some hf
 refine WL.call (some 53) 11 #[(sv A17 t12.1 c18), (.agg #[(sv (subA (some ⟨g19, 0, none⟩) 3 (0 : Int).toNat 2) (cut [(Frac.mk 0 1), (Frac.mk 1 1), (Frac.mk 2 1)] (0 : Int) (2 : Int)) (3 - (0 : Int).toNat)), (sv (some ⟨g23, 0, none⟩) [(Frac.mk 0 1)] 1), (sv (some ⟨g27, 0, none⟩) [(Frac.mk 2 1)] 1), (sv (some ⟨g31, 0, none⟩) [2] 1), (sv (some ⟨g35, 0, none⟩) [1] 1)])] (fun fb => by kernel_rfl) (weight_Check_calls _ t12.1 (Weights.mk (cut [(Frac.mk 0 1), (Frac.mk 1 1), (Frac.mk 2 1)] (0 : Int) (2 : Int)) [(Frac.mk 0 1)] [(Frac.mk 2 1)] [2] [1]) A17 c18 (subA (some ⟨g19, 0, none⟩) 3 (0 : Int).toNat 2) (3 - (0 : Int).toNat) (some ⟨g23, 0, none⟩) 1 (some ⟨g27, 0, none⟩) 1 (some ⟨g31, 0, none⟩) 1 (some ⟨g35, 0, none⟩) 1 t72 _ (hS71.ow 9).ofO (cutR (((hS71.ow 8)).ofO) h69.1 h69.2.1 h69.2.2) (hS71.ow 7).ofO (hS71.ow 6).ofO (hS71.ow 5).ofO (hS71.ow 4).ofO (hS71.rd 0) ht73) (fun v w74 hR75 => ?_)
 obtain ⟨rfl, hk_⟩ := hR75
 have hS76 := hS71.keepN hk_
 refine ⟨trivial, ?_⟩
 refine sg 8 [] [3, 5, 6, 7, 8, 9, 10, 11, 12] [(3, (sv A17 t12.1 c18)), (5, (pt g39)), (6, (bv t44.1)), (7, (iv t44.2)), (8, (pt g58)), (9, (pt g61)), (10, (iv t53.2.2)), (11, (bv t72.1)), (12, (iv t72.2))] (by kernel_rfl) ?_
 refine WL.done rfl (WX.next (WC.seq (WC.region ?_)))
 refine sg 3 [] [3, 5, 6, 8, 9, 10, 11, 12, 58] [(3, (sv A17 t12.1 c18)), (5, (pt g39)), (6, (bv t44.1)), (8, (pt g58)), (9, (pt g61)), (10, (iv t53.2.2)), (11, (bv t72.1)), (12, (iv t72.2)), (58, (bv (t44.2 == 0)))] (by kernel_rfl) ?_
 refine WL.cutV (T := Bool) 6 (fun t => [(61, (bv t)), (3, (sv A17 t12.1 c18)), (5, (pt g39)), (6, (bv t44.1)), (8, (pt g58)), (9, (pt g61)), (11, (bv t72.1)), (12, (iv t72.2))]) (fun t => ((t44.2 == 0) && (t53.2.2 == 0)) = t) (fun K => ?_) ?_
 ·
  rcases Bool.eq_false_or_eq_true (t44.2 == 0) with h77 | h77
  ·
   refine WL.setB 58 h77 rfl ?_
   refine sg 6 [] [3, 5, 6, 8, 9, 11, 12, 61] [(3, (sv A17 t12.1 c18)), (5, (pt g39)), (6, (bv t44.1)), (8, (pt g58)), (9, (pt g61)), (11, (bv t72.1)), (12, (iv t72.2)), (61, (bv (t53.2.2 == 0)))] (by kernel_rfl) ?_
   exact WL.toV K (t53.2.2 == 0) [61, 3, 5, 6, 8, 9, 11, 12] rfl (by first | (rw [h77]; done) | (rw [h77]; rfl))
  refine WL.setB 58 h77 rfl ?_
  refine sg 6 [] [3, 5, 6, 8, 9, 11, 12, 61] [(3, (sv A17 t12.1 c18)), (5, (pt g39)), (6, (bv t44.1)), (8, (pt g58)), (9, (pt g61)), (11, (bv t72.1)), (12, (iv t72.2)), (61, (bv false))] (by kernel_rfl) ?_
  exact WL.toV K false [61, 3, 5, 6, 8, 9, 11, 12] rfl (by first | (rw [h77]; done) | (rw [h77]; rfl))
 rintro b78 rfl
 refine sg 7 [] [3, 5, 6, 8, 9, 11, 12, 62] [(3, (sv A17 t12.1 c18)), (5, (pt g39)), (6, (bv t44.1)), (8, (pt g58)), (9, (pt g61)), (11, (bv t72.1)), (12, (iv t72.2)), (62, (bv ((t44.2 == 0) && (t53.2.2 == 0))))] (by kernel_rfl) ?_
 refine WL.cutV (T := Bool) 10 (fun t => [(65, (bv t)), (3, (sv A17 t12.1 c18)), (5, (pt g39)), (6, (bv t44.1)), (8, (pt g58)), (9, (pt g61)), (11, (bv t72.1))]) (fun t => (((t44.2 == 0) && (t53.2.2 == 0)) && (t72.2 == 0)) = t) (fun K => ?_) ?_
 ·
  rcases Bool.eq_false_or_eq_true ((t44.2 == 0) && (t53.2.2 == 0)) with h79 | h79
  ·
   refine WL.setB 62 h79 rfl ?_
   refine sg 10 [] [3, 5, 6, 8, 9, 11, 65] [(3, (sv A17 t12.1 c18)), (5, (pt g39)), (6, (bv t44.1)), (8, (pt g58)), (9, (pt g61)), (11, (bv t72.1)), (65, (bv (t72.2 == 0)))] (by kernel_rfl) ?_
   exact WL.toV K (t72.2 == 0) [65, 3, 5, 6, 8, 9, 11] rfl (by first | (rw [h79]; done) | (rw [h79]; rfl))
  refine WL.setB 62 h79 rfl ?_
  refine sg 10 [] [3, 5, 6, 8, 9, 11, 65] [(3, (sv A17 t12.1 c18)), (5, (pt g39)), (6, (bv t44.1)), (8, (pt g58)), (9, (pt g61)), (11, (bv t72.1)), (65, (bv false))] (by kernel_rfl) ?_
  exact WL.toV K false [65, 3, 5, 6, 8, 9, 11] rfl (by first | (rw [h79]; done) | (rw [h79]; rfl))
 rintro b80 rfl
 refine sg 11 [] [3, 5, 6, 8, 9, 11, 66] [(3, (sv A17 t12.1 c18)), (5, (pt g39)), (6, (bv t44.1)), (8, (pt g58)), (9, (pt g61)), (11, (bv t72.1)), (66, (bv (((t44.2 == 0) && (t53.2.2 == 0)) && (t72.2 == 0))))] (by kernel_rfl) ?_
 refine WL.cutV (T := Bool) 13 (fun t => [(68, (bv t)), (3, (sv A17 t12.1 c18)), (5, (pt g39)), (8, (pt g58)), (9, (pt g61)), (11, (bv t72.1))]) (fun t => ((((t44.2 == 0) && (t53.2.2 == 0)) && (t72.2 == 0)) && t44.1) = t) (fun K => ?_) ?_
 ·
  rcases Bool.eq_false_or_eq_true (((t44.2 == 0) && (t53.2.2 == 0)) && (t72.2 == 0)) with h81 | h81
  ·
   refine WL.setB 66 h81 rfl ?_
   refine sg 13 [] [3, 5, 8, 9, 11, 68] [(3, (sv A17 t12.1 c18)), (5, (pt g39)), (8, (pt g58)), (9, (pt g61)), (11, (bv t72.1)), (68, (bv t44.1))] (by kernel_rfl) ?_
   exact WL.toV K t44.1 [68, 3, 5, 8, 9, 11] rfl (by first | (rw [h81]; done) | (rw [h81]; rfl))
  refine WL.setB 66 h81 rfl ?_
  refine sg 13 [] [3, 5, 8, 9, 11, 68] [(3, (sv A17 t12.1 c18)), (5, (pt g39)), (8, (pt g58)), (9, (pt g61)), (11, (bv t72.1)), (68, (bv false))] (by kernel_rfl) ?_
  exact WL.toV K false [68, 3, 5, 8, 9, 11] rfl (by first | (rw [h81]; done) | (rw [h81]; rfl))
 rintro b82 rfl
 refine sg 14 [] [3, 5, 8, 9, 11, 69] [(3, (sv A17 t12.1 c18)), (5, (pt g39)), (8, (pt g58)), (9, (pt g61)), (11, (bv t72.1)), (69, (bv ((((t44.2 == 0) && (t53.2.2 == 0)) && (t72.2 == 0)) && t44.1)))] (by kernel_rfl) ?_
 refine WL.cutV (T := Bool) 17 (fun t => [(72, (bv t)), (3, (sv A17 t12.1 c18)), (5, (pt g39)), (8, (pt g58)), (9, (pt g61))]) (fun t => (((((t44.2 == 0) && (t53.2.2 == 0)) && (t72.2 == 0)) && t44.1) && (!t72.1)) = t) (fun K => ?_) ?_
 ·
  rcases Bool.eq_false_or_eq_true ((((t44.2 == 0) && (t53.2.2 == 0)) && (t72.2 == 0)) && t44.1) with h83 | h83
  ·
   refine WL.setB 69 h83 rfl ?_
   refine sg 17 [] [3, 5, 8, 9, 72] [(3, (sv A17 t12.1 c18)), (5, (pt g39)), (8, (pt g58)), (9, (pt g61)), (72, (bv (!t72.1)))] (by kernel_rfl) ?_
   exact WL.toV K (!t72.1) [72, 3, 5, 8, 9] rfl (by first | (rw [h83]; done) | (rw [h83]; rfl))
  refine WL.setB 69 h83 rfl ?_
  refine sg 17 [] [3, 5, 8, 9, 72] [(3, (sv A17 t12.1 c18)), (5, (pt g39)), (8, (pt g58)), (9, (pt g61)), (72, (bv false))] (by kernel_rfl) ?_
  exact WL.toV K false [72, 3, 5, 8, 9] rfl (by first | (rw [h83]; done) | (rw [h83]; rfl))
 rintro b84 rfl
 refine sg 18 [] [3, 5, 8, 9, 73] [(3, (sv A17 t12.1 c18)), (5, (pt g39)), (8, (pt g58)), (9, (pt g61)), (73, (bv (((((t44.2 == 0) && (t53.2.2 == 0)) && (t72.2 == 0)) && t44.1) && (!t72.1))))] (by kernel_rfl) ?_
 refine WL.cutV (T := Bool) 22 (fun t => [(77, (bv t)), (3, (sv A17 t12.1 c18)), (5, (pt g39)), (9, (pt g61))]) (fun t => ((((((t44.2 == 0) && (t53.2.2 == 0)) && (t72.2 == 0)) && t44.1) && (!t72.1)) && (t53.1.Num == 3 && (t53.1.Den == 1))) = t) (fun K => ?_) ?_
 ·
  rcases Bool.eq_false_or_eq_true (((((t44.2 == 0) && (t53.2.2 == 0)) && (t72.2 == 0)) && t44.1) && (!t72.1)) with h85 | h85
  ·
   refine WL.setB 73 h85 rfl ?_
   refine seg 22 [.v (iv t53.1.Num), .v (iv t53.1.Den)] [3, 5, 9, 77] [(3, (sv A17 t12.1 c18)), (5, (pt g39)), (9, (pt g61)), (77, (bv (t53.1.Num == 3 && (t53.1.Den == 1))))] [.cell ⟨g58, 0, none⟩ (iv t53.1.Num), .cell ⟨g58, 1, none⟩ (iv t53.1.Den)] (fun fb => by kernel_rfl) rfl ⟨hS76.cell 2 rfl 0 rfl, hS76.cell 2 rfl 1 rfl, trivial⟩ ?_
   exact WL.toV K (t53.1.Num == 3 && (t53.1.Den == 1)) [77, 3, 5, 9] rfl (by first | (rw [h85]; done) | (rw [h85]; rfl))
  refine WL.setB 73 h85 rfl ?_
  refine sg 22 [] [3, 5, 9, 77] [(3, (sv A17 t12.1 c18)), (5, (pt g39)), (9, (pt g61)), (77, (bv false))] (by kernel_rfl) ?_
  exact WL.toV K false [77, 3, 5, 9] rfl (by first | (rw [h85]; done) | (rw [h85]; rfl))
 rintro b86 rfl
 refine sg 23 [] [3, 5, 9, 78] [(3, (sv A17 t12.1 c18)), (5, (pt g39)), (9, (pt g61)), (78, (bv ((((((t44.2 == 0) && (t53.2.2 == 0)) && (t72.2 == 0)) && t44.1) && (!t72.1)) && (t53.1.Num == 3 && (t53.1.Den == 1)))))] (by kernel_rfl) ?_
 refine WL.cutV (T := Bool) 27 (fun t => [(82, (bv t)), (3, (sv A17 t12.1 c18)), (5, (pt g39))]) (fun t => (((((((t44.2 == 0) && (t53.2.2 == 0)) && (t72.2 == 0)) && t44.1) && (!t72.1)) && (t53.1.Num == 3 && (t53.1.Den == 1))) && (t53.2.1.Num == 6 && (t53.2.1.Den == 1))) = t) (fun K => ?_) ?_
 ·
  rcases Bool.eq_false_or_eq_true ((((((t44.2 == 0) && (t53.2.2 == 0)) && (t72.2 == 0)) && t44.1) && (!t72.1)) && (t53.1.Num == 3 && (t53.1.Den == 1))) with h87 | h87
  ·
   refine WL.setB 78 h87 rfl ?_
   refine seg 27 [.v (iv t53.2.1.Num), .v (iv t53.2.1.Den)] [3, 5, 82] [(3, (sv A17 t12.1 c18)), (5, (pt g39)), (82, (bv (t53.2.1.Num == 6 && (t53.2.1.Den == 1))))] [.cell ⟨g61, 0, none⟩ (iv t53.2.1.Num), .cell ⟨g61, 1, none⟩ (iv t53.2.1.Den)] (fun fb => by kernel_rfl) rfl ⟨hS76.cell 1 rfl 0 rfl, hS76.cell 1 rfl 1 rfl, trivial⟩ ?_
   exact WL.toV K (t53.2.1.Num == 6 && (t53.2.1.Den == 1)) [82, 3, 5] rfl (by first | (rw [h87]; done) | (rw [h87]; rfl))
  refine WL.setB 78 h87 rfl ?_
  refine sg 27 [] [3, 5, 82] [(3, (sv A17 t12.1 c18)), (5, (pt g39)), (82, (bv false))] (by kernel_rfl) ?_
  exact WL.toV K false [82, 3, 5] rfl (by first | (rw [h87]; done) | (rw [h87]; rfl))
 rintro b88 rfl
 refine sg 28 [] [3, 5, 83] [(3, (sv A17 t12.1 c18)), (5, (pt g39)), (83, (bv (((((((t44.2 == 0) && (t53.2.2 == 0)) && (t72.2 == 0)) && t44.1) && (!t72.1)) && (t53.1.Num == 3 && (t53.1.Den == 1))) && (t53.2.1.Num == 6 && (t53.2.1.Den == 1)))))] (by kernel_rfl) ?_
 obtain ⟨x89, hx90, hf⟩ := bind_some hf
 refine WL.cutW (T := Bool) 32 (fun t => [(87, (bv t))]) (fun t w1 => (St NoS w w1 [tabO 0 md0, gloO Tryz.prog 5 8 3 4 mG] [] ∧ x89 = t) ∧ CellsOK [] w1) (fun K => ?_) ?_
 ·
  rcases br_some hx90 with ⟨h91, hx90⟩ | ⟨h91, hx90⟩
  ·
   refine WL.setB 83 h91 rfl ?_
   refine seg 30 [.v (sv (subA (some ⟨g19, 0, none⟩) 3 (0 : Int).toNat 2) (cut [(Frac.mk 0 1), (Frac.mk 1 1), (Frac.mk 2 1)] (0 : Int) (2 : Int)) (3 - (0 : Int).toNat)), .v (sv (some ⟨g23, 0, none⟩) [(Frac.mk 0 1)] 1), .v (sv (some ⟨g27, 0, none⟩) [(Frac.mk 2 1)] 1), .v (sv (some ⟨g31, 0, none⟩) [2] 1), .v (sv (some ⟨g35, 0, none⟩) [1] 1)] [83, 84, 85] [(83, (bv true)), (84, (sv A17 t12.1 c18)), (85, (.agg #[(sv (subA (some ⟨g19, 0, none⟩) 3 (0 : Int).toNat 2) (cut [(Frac.mk 0 1), (Frac.mk 1 1), (Frac.mk 2 1)] (0 : Int) (2 : Int)) (3 - (0 : Int).toNat)), (sv (some ⟨g23, 0, none⟩) [(Frac.mk 0 1)] 1), (sv (some ⟨g27, 0, none⟩) [(Frac.mk 2 1)] 1), (sv (some ⟨g31, 0, none⟩) [2] 1), (sv (some ⟨g35, 0, none⟩) [1] 1)]))] [.cell ⟨g39, 0, none⟩ (sv (subA (some ⟨g19, 0, none⟩) 3 (0 : Int).toNat 2) (cut [(Frac.mk 0 1), (Frac.mk 1 1), (Frac.mk 2 1)] (0 : Int) (2 : Int)) (3 - (0 : Int).toNat)), .cell ⟨g39, 1, none⟩ (sv (some ⟨g23, 0, none⟩) [(Frac.mk 0 1)] 1), .cell ⟨g39, 2, none⟩ (sv (some ⟨g27, 0, none⟩) [(Frac.mk 2 1)] 1), .cell ⟨g39, 3, none⟩ (sv (some ⟨g31, 0, none⟩) [2] 1), .cell ⟨g39, 4, none⟩ (sv (some ⟨g35, 0, none⟩) [1] 1)] (fun fb => by kernel_rfl) rfl ⟨hS76.cell 0 rfl 0 rfl, hS76.cell 0 rfl 1 rfl, hS76.cell 0 rfl 2 rfl, hS76.cell 0 rfl 3 rfl, hS76.cell 0 rfl 4 rfl, trivial⟩ ?_
   obtain ⟨t92, ht93, hx90⟩ := bind_some hx90
   refine WL.call (some 86) 12 #[(sv A17 t12.1 c18), (.agg #[(sv (subA (some ⟨g19, 0, none⟩) 3 (0 : Int).toNat 2) (cut [(Frac.mk 0 1), (Frac.mk 1 1), (Frac.mk 2 1)] (0 : Int) (2 : Int)) (3 - (0 : Int).toNat)), (sv (some ⟨g23, 0, none⟩) [(Frac.mk 0 1)] 1), (sv (some ⟨g27, 0, none⟩) [(Frac.mk 2 1)] 1), (sv (some ⟨g31, 0, none⟩) [2] 1), (sv (some ⟨g35, 0, none⟩) [1] 1)])] (fun fb => by kernel_rfl) (weight_Valid_calls _ t12.1 (Weights.mk (cut [(Frac.mk 0 1), (Frac.mk 1 1), (Frac.mk 2 1)] (0 : Int) (2 : Int)) [(Frac.mk 0 1)] [(Frac.mk 2 1)] [2] [1]) A17 c18 (subA (some ⟨g19, 0, none⟩) 3 (0 : Int).toNat 2) (3 - (0 : Int).toNat) (some ⟨g23, 0, none⟩) 1 (some ⟨g27, 0, none⟩) 1 (some ⟨g31, 0, none⟩) 1 (some ⟨g35, 0, none⟩) 1 t92 _ (hS76.ow 9).ofO (cutR (((hS76.ow 8)).ofO) h69.1 h69.2.1 h69.2.2) (hS76.ow 7).ofO (hS76.ow 6).ofO (hS76.ow 5).ofO (hS76.ow 4).ofO ht93) (fun v w94 hR95 => ?_)
   obtain ⟨rfl, hk_⟩ := hR95
   have hS96 := hS76.keepN hk_
   refine ⟨trivial, ?_⟩
   refine sg 32 [] [87] [(87, (bv t92))] (by kernel_rfl) ?_
   injection hx90 with hx90
   exact WL.to K t92 [87] rfl ⟨⟨(hS96.subR [0, 1]).sub [] (by decide), hx90.symm⟩, trivial⟩
  refine WL.setB 83 h91 rfl ?_
  refine sg 32 [] [87] [(87, (bv false))] (by kernel_rfl) ?_
  injection hx90 with hx90
  exact WL.to K false [87] rfl ⟨⟨(hS76.subR [0, 1]).sub [] (by decide), hx90.symm⟩, trivial⟩
 rintro y97 w99 ⟨⟨hS100, hq98⟩, hF101⟩
 subst hq98
 refine sg 33 [] [0] [(0, (bv x89))] (by kernel_rfl) ?_
 refine WL.done rfl (WX.next ?_)
 refine WC.ret ?_
 injection hf with hf
 subst hf
 exact WX.ret_ [] (bv x89) [] (fun fb => by kernel_rfl) trivial ⟨_, rfl, rfl, hS100.keep⟩
theorem rows_Few_calls (k : Nat) (p0 : List Tile) (p1 : Int) (Aa : Option Addr) (ca : Nat) (r : Bool) (w : World) (hR0 : RO NoS w (rowR enc_Tile Aa ca p0)) (hf : rows_Few k p0 p1 = some r) :
  CallsR Tryz.prog 56 #[(sv Aa p0 ca), (iv p1)] w (fun v w' => v = (bv r) ∧ Keeps NoS w w') := by
 have hS : St NoS w w [rowR enc_Tile Aa ca p0] [] := St.init (ro_cons hR0 (ro_nil _ _))
 refine enter 17 Tryz.func56 rfl Tryz.ntmps56 rfl ?_
 unfold rows_Few at hf
 refine WC.seq (WC.region ?_)
 refine sg 1 [] [0, 1] [(0, (sv Aa p0 ca)), (1, (iv p1))] (by kernel_rfl) ?_
 refine WL.done rfl (WX.next (WC.seq (WC.region ?_)))
 refine sg 1 [] [0, 1, 5] [(0, (sv Aa p0 ca)), (1, (iv p1)), (5, (iv 1))] (by kernel_rfl) ?_
 refine WL.done rfl (WX.next (WC.seq (WC.seq (WC.region ?_))))
 refine sg 2 [] [0, 5, 6, 7] [(0, (sv Aa p0 ca)), (5, (iv 1)), (6, (iv p1)), (7, (iv 0))] (by kernel_rfl) ?_
 refine WL.done rfl (WX.next ?_)
 obtain ⟨x5, hx6, hf⟩ := bind_some hf
 let e2 : Nat × Value := (0, (sv Aa p0 ca))
 refine WC.cutN (T := Unit) (fun t => []) (fun t w1 => St NoS w w1 [rowR enc_Tile Aa ca p0] [] ∧ x5 = .inr t) (fun Kx5 => ?_) ?_
 ·
  refine WC.block ?_
  refine WC.loop (T := Int × Int) (fun t => [e2, (5, (iv t.1)), (6, (iv p1)), (7, (iv t.2))]) (fun n t w1 => St NoS w w1 [rowR enc_Tile Aa ca p0] [] ∧ rows_Few.l0 n t.1 t.2 p0 p1 = some x5) k (1, 0) [0, 5, 6, 7] rfl ⟨(hS.subR [0]).sub [] (by decide), hx6⟩ ?_
  rintro k7 ⟨x3, x4⟩ w8 ⟨hS9, hl10⟩
  let e1 := (x3 * (maxI (p0.length : Int) 1))
  cases k7 with
  | zero => rw [rows_Few.l0] at hl10; cases hl10
  | succ k7 =>
   rw [rows_Few.l0] at hl10
   refine WC.seq (WC.region ?_)
   refine sg 1 [] [0, 5, 6, 7, 8] [e2, (5, (iv x3)), (6, (iv p1)), (7, (iv x4)), (8, (bv (decide (x4 < p1))))] (by kernel_rfl) ?_
   refine WL.done rfl (WX.next (WC.seq ?_))
   rcases br_some hl10 with ⟨h11, hl10⟩ | ⟨h11, hl10⟩
   ·refine WC.condT2 (fun fb => by kernel_rfl) h11 ?_
    refine WC.skip (WX.next (WC.seq (WC.block (WC.seq (WC.region ?_)))))
    refine sg 6 [] [0, 5, 6, 7] [e2, (5, (iv (w64 e1))), (6, (iv p1)), (7, (iv x4))] (by kernel_rfl) ?_
    refine WL.done rfl (WX.next (WC.seq (WC.region ?_)))
    refine sg 2 [] [0, 5, 6, 7, 15] [e2, (5, (iv (w64 e1))), (6, (iv p1)), (7, (iv x4)), (15, (bv (decide (w64 e1 > 5000))))] (by kernel_rfl) ?_
    refine WL.done rfl (WX.next ?_)
    rcases br_some hl10 with ⟨h12, hl10⟩ | ⟨h12, hl10⟩
    ·refine WC.condT2 (fun fb => by kernel_rfl) h12 ?_
     refine WC.seq (WC.region ?_)
     refine sg 1 [] [4] [(4, (bv false))] (by kernel_rfl) ?_
     refine WL.done rfl (WX.next ?_)
     refine WC.ret ?_
     injection hl10 with hl10
     subst hl10
     injection hf with hf
     subst hf
     exact WX.blockR (WX.thenR (WX.thenR (WX.blockR (WX.thenR (WX.ret_ [] (bv false) [] (fun fb => by kernel_rfl) trivial ⟨_, rfl, rfl, hS9.keep⟩)))))
    refine WC.condF2 (fun fb => by kernel_rfl) h12 ?_
    refine WC.skip ?_
    refine WX.blockN (WX.next ?_)
    refine WC.region ?_
    refine sg 2 [] [0, 5, 6, 7] [e2, (5, (iv (w64 e1))), (6, (iv p1)), (7, (iv (w64 (x4 + 1))))] (by kernel_rfl) ?_
    refine WL.done rfl ?_
    exact WX.again k7 (Nat.lt_succ_self _) (w64 e1, w64 (x4 + 1)) [0, 5, 6, 7] rfl ⟨(hS9.subR [0]).sub [] (by decide), hl10⟩
   refine WC.condF2 (fun fb => by kernel_rfl) h11 ?_
   refine WC.exit ?_
   injection hl10 with hl10
   exact WX.thenX (WX.thenX (WX.blockHere (WX.to Kx5 () [] rfl ⟨(hS9.subR [0]).sub [] (by decide), hl10.symm⟩)))
 rintro y16 w13 ⟨hS14, hq15⟩
 subst hq15
 have hf := sum_inr hf
 refine WX.next (WC.seq (WC.region ?_))
 refine sg 1 [] [4] [(4, (bv true))] (by kernel_rfl) ?_
 refine WL.done rfl (WX.next ?_)
 refine WC.ret ?_
 injection hf with hf
 subst hf
 exact WX.ret_ [] (bv true) [] (fun fb => by kernel_rfl) trivial ⟨_, rfl, rfl, hS14.keep⟩
theorem rows_rowOf_calls (k : Nat) (p0 : List Tile) (p1 : List Int) (Aa : Option Addr) (ca : Nat) (Ab : Option Addr) (cb : Nat) (r : Row) (w : World) (hR0 : RO NoS w (rowR enc_Tile Aa ca p0)) (hR1 : RO NoS w (rowR encInt Ab cb p1)) (hf : rows_rowOf k p0 p1 = some r) :
  CallsR Tryz.prog 106 #[(sv Aa p0 ca), (sv Ab p1 cb)] w (fun v w' => ∃ (A1_ : Option Addr), ∃ (c1_ : Nat), v = (.agg #[(sv A1_ r.Cells c1_), (iv r.South.e0), (iv r.South.e1), (iv r.South.e2), (iv r.South.e3), (iv r.South.e4), (iv r.South.e5), (iv r.South.e6), (iv r.South.e7), (iv r.North.e0), (iv r.North.e1), (iv r.North.e2), (iv r.North.e3), (iv r.North.e4), (iv r.North.e5), (iv r.North.e6), (iv r.North.e7), (iv r.West), (iv r.East)]) ∧ St NoS w w' [] [rowO 3 encInt A1_ c1_ r.Cells]) := by
 have hS : St NoS w w [rowR enc_Tile Aa ca p0, rowR encInt Ab cb p1] [] := St.init (ro_cons hR0 (ro_cons hR1 (ro_nil _ _)))
 refine enter 55 Tryz.func106 rfl Tryz.ntmps106 rfl ?_
 unfold rows_rowOf at hf
 refine WC.seq (WC.region ?_)
 refine WL.new hS 4 [] (fun g => (pt g)) (.cells #[(.slice none 0 0), (iv 0), (iv 0), (iv 0), (iv 0), (iv 0), (iv 0), (iv 0), (iv 0), (iv 0), (iv 0), (iv 0), (iv 0), (iv 0), (iv 0), (iv 0), (iv 0), (iv 0), (iv 0)] 109 (0, 0)) [] (fun fb g => by kernel_rfl) trivial (fun g9 w10 hS11 => ?_)
 refine ⟨trivial, ?_⟩
 refine WL.done rfl (WX.next (WC.seq (WC.region ?_)))
 refine sg 1 [] [0, 1, 4, 8] [(0, (sv Aa p0 ca)), (1, (sv Ab p1 cb)), (4, (pt g9)), (8, (sv Ab p1 cb))] (by kernel_rfl) ?_
 have hS12 := hS11.nilrow 3 encInt
 obtain ⟨h13, hf⟩ := as_some hf
 refine WL.append hS12 0 (d := 9) (tS := 24) (z := (iv 0)) (bytes := 8) (c2 := cb) rfl (fun fb => by kernel_rfl) (hS12.rd 1).1 (by kernel_rfl) (by kernel_rfl) rfl (by decide) h13 (by decide) [1] (by decide) (by decide) (fun A14 c15 w16 hS17 => ?_)
 refine ⟨trivial, ?_⟩
 refine sg 3 [] [0, 1, 4, 10] [(0, (sv Aa p0 ca)), (1, (sv Ab p1 cb)), (4, (pt g9)), (10, (.agg #[(sv A14 (([] : List Int) ++ p1) c15), (iv 0), (iv 0), (iv 0), (iv 0), (iv 0), (iv 0), (iv 0), (iv 0), (iv 0), (iv 0), (iv 0), (iv 0), (iv 0), (iv 0), (iv 0), (iv 0), (iv 0), (iv 0)]))] (by kernel_rfl) ?_
 refine WL.new hS17 5 [] (fun g => (pt g)) (.cells #[(.slice none 0 0), (iv 0), (iv 0), (iv 0), (iv 0), (iv 0), (iv 0), (iv 0), (iv 0), (iv 0), (iv 0), (iv 0), (iv 0), (iv 0), (iv 0), (iv 0), (iv 0), (iv 0), (iv 0)] 109 (0, 0)) [] (fun fb g => by kernel_rfl) trivial (fun g18 w19 hS20 => ?_)
 refine ⟨trivial, ?_⟩
 refine WL.store hS20 0 rfl [(0, (sv A14 (([] : List Int) ++ p1) c15)), (1, (iv 0)), (2, (iv 0)), (3, (iv 0)), (4, (iv 0)), (5, (iv 0)), (6, (iv 0)), (7, (iv 0)), (8, (iv 0)), (9, (iv 0)), (10, (iv 0)), (11, (iv 0)), (12, (iv 0)), (13, (iv 0)), (14, (iv 0)), (15, (iv 0)), (16, (iv 0)), (17, (iv 0)), (18, (iv 0))] #[(sv A14 (([] : List Int) ++ p1) c15), (iv 0), (iv 0), (iv 0), (iv 0), (iv 0), (iv 0), (iv 0), (iv 0), (iv 0), (iv 0), (iv 0), (iv 0), (iv 0), (iv 0), (iv 0), (iv 0), (iv 0), (iv 0)] (fun fb => by kernel_rfl) (by kernel_rfl) (by kernel_rfl) [1, 2] (by decide) (by decide) (fun w21 hS22 => ?_)
 refine ⟨trivial, ?_⟩
 refine WL.done rfl (WX.next (WC.seq (WC.seq (WC.region ?_))))
 refine sg 3 [] [0, 1, 4, 5, 11, 12, 13] [(0, (sv Aa p0 ca)), (1, (sv Ab p1 cb)), (4, (pt g9)), (5, (pt g18)), (11, (sv Ab p1 cb)), (12, (iv (p1.length : Int))), (13, (iv 0))] (by kernel_rfl) ?_
 refine WL.done rfl (WX.next ?_)
 obtain ⟨x26, hx27, hf⟩ := bind_some hf
 let e13 := (sv A14 (([] : List Int) ++ p1) c15)
 let e15 : Nat × Value := (12, (iv (p1.length : Int)))
 let e16 := sv Ab p1 cb
 let e18 : Nat × Value := (0, (sv Aa p0 ca))
 let e21 : Nat × Value := (5, (pt g18))
 let e22 : Nat × Value := (4, (pt g9))
 refine WC.cutN (T := A8_Int × A8_Int) (fun t => [e18, (1, e16), e22, e21]) (fun t w1 => St NoS w w1 [rowR enc_Tile Aa ca p0, rowR encInt Ab cb p1] [blk g9 (.cells #[(.slice none 0 0), (iv 0), (iv 0), (iv 0), (iv 0), (iv 0), (iv 0), (iv 0), (iv 0), (iv 0), (iv 0), (iv 0), (iv 0), (iv 0), (iv 0), (iv 0), (iv 0), (iv 0), (iv 0)] 109 (0, 0)), blk g18 (.cells #[e13, (iv t.1.e0), (iv t.1.e1), (iv t.1.e2), (iv t.1.e3), (iv t.1.e4), (iv t.1.e5), (iv t.1.e6), (iv t.1.e7), (iv t.2.e0), (iv t.2.e1), (iv t.2.e2), (iv t.2.e3), (iv t.2.e4), (iv t.2.e5), (iv t.2.e6), (iv t.2.e7), (iv 0), (iv 0)] 109 (0, 0)), rowO 3 encInt A14 c15 (([] : List Int) ++ p1)] ∧ x26 = t) (fun Kx26 => ?_) ?_
 ·
  refine WC.block ?_
  refine WC.loop (T := A8_Int × A8_Int × Int) (fun t => [e18, (1, e16), e22, e21, (11, e16), e15, (13, (iv t.2.2))]) (fun n t w1 => St NoS w w1 [rowR enc_Tile Aa ca p0, rowR encInt Ab cb p1] [blk g9 (.cells #[(.slice none 0 0), (iv 0), (iv 0), (iv 0), (iv 0), (iv 0), (iv 0), (iv 0), (iv 0), (iv 0), (iv 0), (iv 0), (iv 0), (iv 0), (iv 0), (iv 0), (iv 0), (iv 0), (iv 0)] 109 (0, 0)), blk g18 (.cells #[e13, (iv t.1.e0), (iv t.1.e1), (iv t.1.e2), (iv t.1.e3), (iv t.1.e4), (iv t.1.e5), (iv t.1.e6), (iv t.1.e7), (iv t.2.1.e0), (iv t.2.1.e1), (iv t.2.1.e2), (iv t.2.1.e3), (iv t.2.1.e4), (iv t.2.1.e5), (iv t.2.1.e6), (iv t.2.1.e7), (iv 0), (iv 0)] 109 (0, 0)), rowO 3 encInt A14 c15 (([] : List Int) ++ p1)] ∧ rows_rowOf.l0 n t.1 t.2.1 t.2.2 p0 p1 = some x26) k ((A8_Int.mk 0 0 0 0 0 0 0 0), (A8_Int.mk 0 0 0 0 0 0 0 0), 0) [0, 1, 4, 5, 11, 12, 13] rfl ⟨(hS22.subR [0, 1]).sub [2, 0, 1] (by decide), hx27⟩ ?_
  rintro k28 ⟨a23, a24, x25⟩ w29 ⟨hS30, hl31⟩
  let e8 := rdD p0 (rdD p1 x25 0) z_Tile
  let e9 := A8_Int.set a23 x25 (e8.S)
  let e10 : Array Value := #[e13, (iv (e9.e0)), (iv (e9.e1)), (iv (e9.e2)), (iv (e9.e3)), (iv (e9.e4)), (iv (e9.e5)), (iv (e9.e6)), (iv (e9.e7)), (iv a24.e0), (iv a24.e1), (iv a24.e2), (iv a24.e3), (iv a24.e4), (iv a24.e5), (iv a24.e6), (iv a24.e7), (iv 0), (iv 0)]
  let e11 : Array Value := #[e13, (iv a23.e0), (iv a23.e1), (iv a23.e2), (iv a23.e3), (iv a23.e4), (iv a23.e5), (iv a23.e6), (iv a23.e7), (iv a24.e0), (iv a24.e1), (iv a24.e2), (iv a24.e3), (iv a24.e4), (iv a24.e5), (iv a24.e6), (iv a24.e7), (iv 0), (iv 0)]
  let e14 := A8_Int.set a24 x25 (e8.N)
  let e17 : List (Nat × Addr × Value) := [(6, (((adr Aa).add (((rdD p1 x25 0)).toNat * 4)).add 2), (iv (e8.S))), (11, ((adr Aa).add (((rdD p1 x25 0)).toNat * 4)), (iv (e8.N)))]
  cases k28 with
  | zero => rw [rows_rowOf.l0] at hl31; cases hl31
  | succ k28 =>
   rw [rows_rowOf.l0] at hl31
   refine WC.seq (WC.region ?_)
   refine sg 1 [] [0, 1, 4, 5, 11, 12, 13, 14] [e18, (1, e16), e22, e21, (11, e16), e15, (13, (iv x25)), (14, (bv (decide (x25 < (p1.length : Int)))))] (by kernel_rfl) ?_
   refine WL.done rfl (WX.next (WC.seq ?_))
   rcases br_some hl31 with ⟨h32, hl31⟩ | ⟨h32, hl31⟩
   ·refine WC.condT2 (fun fb => by kernel_rfl) h32 ?_
    refine WC.skip (WX.next (WC.seq (WC.block (WC.seq (WC.region ?_)))))
    refine sg 1 [] [0, 1, 4, 5, 11, 12, 13, 15] [e18, (1, e16), e22, e21, (11, e16), e15, (13, (iv x25)), (15, (iv x25))] (by kernel_rfl) ?_
    obtain ⟨h33, hl31⟩ := as_some hl31
    refine seg 5 [.v (iv (rdD p1 x25 0))] [0, 1, 4, 5, 6, 7, 11, 12, 13] [e18, (1, e16), e22, e21, (6, (iv x25)), (7, (iv (rdD p1 x25 0))), (11, e16), e15, (13, (iv x25))] [.idx Ab x25 p1.length, .cell ((adr Ab).add ((x25).toNat * 1)) (iv (rdD p1 x25 0))] (fun fb => by kernel_rfl) rfl ⟨rowR.adr (hS30.rd 1).1 h33.1 h33.2, rowR.cell (hS30.rd 1).1 0 h33.1 h33.2 0 rfl, trivial⟩ ?_
    refine WL.done rfl (WX.next ?_)
    obtain ⟨h36, hl31⟩ := as_some hl31
    obtain ⟨h37, hl31⟩ := as_some hl31
    refine WC.regionD (e17, [0, 1, 2, 3, 4, 5, 6, 7, 8, 9, 10, 11, 12, 13, 15, 16], [[], [], [], [], [2, 3], [2, 3, 4], [2, 3, 4, 5], [], [], [7, 8], [7, 8, 9], [7, 8, 9, 10], [], [0, 2, 3, 4, 5, 6, 12], [0, 2, 3, 4, 5, 6, 12, 13], [], [0, 1, 2, 3, 4, 5, 6, 7, 8, 9, 10, 11, 12, 13, 14, 15], [0, 1, 2, 3, 4, 5, 6, 7, 8, 9, 10, 11, 12, 13, 14, 15, 16]]) [[0, 1, 2, 3, 4, 5, 6, 7, 8, 9, 10, 11, 12, 13, 15, 14, 16, 17]] (by kernel_rfl) (by kernel_rfl) (NoPanic.block (NoPanic.seq (NoPanic.seq (NoPanic.block (NoPanic.seq (NoPanic.body)))))) ?_
    have hS35 := hS30.drew
    revert hS35
    generalize World.drew w29 = w34
    intro hS35
    refine ⟨⟨rowR.cell (hS35.rd 0).1 z_Tile h36.1 h36.2 2 rfl, rowR.cell (hS35.rd 0).1 z_Tile h36.1 h36.2 0 rfl, trivial⟩, forallC ?_ (forallN)⟩
    refine segF 15 [.v (iv (e8.S)), .v (iv (e8.N))] [0, 1, 4, 5, 11, 12, 13, 19, 24, 29, 31, 32] [e18, (1, e16), e22, e21, (11, e16), e15, (13, (iv x25)), (19, (iv x25)), (24, (iv (e8.S))), (29, (iv (e8.N))), (31, (.pointer (some (flatA ⟨g18, 1, none⟩ (x25.toNat * 1))))), (32, (.pointer (some ⟨g18, 9, none⟩)))] [.idx Aa (rdD p1 x25 0) p0.length, .idx Aa (rdD p1 x25 0) p0.length, .idx (some ⟨0, 0, none⟩) x25 8] [0, 1] e17 (fun fb => by kernel_rfl) rfl ⟨rowR.adr (hS35.rd 0).1 h36.1 h36.2, rowR.adr (hS35.rd 0).1 h36.1 h36.2, ⟨h37.1, h37.2, rfl⟩, trivial⟩ rfl ?_
    have h40 := (cases8 (Q := fun z_ => (([(1 + z_.toNat * 1, (iv (e8.S)))] : List (Nat × Value)).all fun p_ => Nat.blt p_.1 (e11 : Array Value).size) = true) h37 (by kernel_rfl) (by kernel_rfl) (by kernel_rfl) (by kernel_rfl) (by kernel_rfl) (by kernel_rfl) (by kernel_rfl) (by kernel_rfl))
    have h41 := (cases8 (Q := fun z_ => wrc (e11 : Array Value) [(1 + z_.toNat * 1, (iv (e8.S)))] = (#[e13, (iv ((A8_Int.set a23 z_ (e8.S)).e0)), (iv ((A8_Int.set a23 z_ (e8.S)).e1)), (iv ((A8_Int.set a23 z_ (e8.S)).e2)), (iv ((A8_Int.set a23 z_ (e8.S)).e3)), (iv ((A8_Int.set a23 z_ (e8.S)).e4)), (iv ((A8_Int.set a23 z_ (e8.S)).e5)), (iv ((A8_Int.set a23 z_ (e8.S)).e6)), (iv ((A8_Int.set a23 z_ (e8.S)).e7)), (iv a24.e0), (iv a24.e1), (iv a24.e2), (iv a24.e3), (iv a24.e4), (iv a24.e5), (iv a24.e6), (iv a24.e7), (iv 0), (iv 0)] : Array Value)) h37 (by kernel_rfl) (by kernel_rfl) (by kernel_rfl) (by kernel_rfl) (by kernel_rfl) (by kernel_rfl) (by kernel_rfl) (by kernel_rfl))
    refine WL.store hS35 1 rfl [(1 + x25.toNat * 1, (iv (e8.S)))] e10 (fun fb => by kernel_rfl) h40 h41 [0, 2] (by decide) (by decide) (fun w38 hS39 => ?_)
    refine ⟨⟨rowR.cell (hS39.rd 0).1 z_Tile h36.1 h36.2 0 rfl, trivial⟩, ?_⟩
    refine seg 17 [] [0, 1, 4, 5, 11, 12, 13, 29, 33] [e18, (1, e16), e22, e21, (11, e16), e15, (13, (iv x25)), (29, (iv (e8.N))), (33, (.pointer (some (flatA ⟨g18, 9, none⟩ (x25.toNat * 1)))))] [.idx (some ⟨0, 0, none⟩) x25 8] (fun fb => by kernel_rfl) rfl ⟨⟨h37.1, h37.2, rfl⟩, trivial⟩ ?_
    have h44 := (cases8 (Q := fun z_ => (([(9 + z_.toNat * 1, (iv (e8.N)))] : List (Nat × Value)).all fun p_ => Nat.blt p_.1 (e10 : Array Value).size) = true) h37 (by kernel_rfl) (by kernel_rfl) (by kernel_rfl) (by kernel_rfl) (by kernel_rfl) (by kernel_rfl) (by kernel_rfl) (by kernel_rfl))
    have h45 := (cases8 (Q := fun z_ => wrc (e10 : Array Value) [(9 + z_.toNat * 1, (iv (e8.N)))] = (#[e13, (iv (e9.e0)), (iv (e9.e1)), (iv (e9.e2)), (iv (e9.e3)), (iv (e9.e4)), (iv (e9.e5)), (iv (e9.e6)), (iv (e9.e7)), (iv ((A8_Int.set a24 z_ (e8.N)).e0)), (iv ((A8_Int.set a24 z_ (e8.N)).e1)), (iv ((A8_Int.set a24 z_ (e8.N)).e2)), (iv ((A8_Int.set a24 z_ (e8.N)).e3)), (iv ((A8_Int.set a24 z_ (e8.N)).e4)), (iv ((A8_Int.set a24 z_ (e8.N)).e5)), (iv ((A8_Int.set a24 z_ (e8.N)).e6)), (iv ((A8_Int.set a24 z_ (e8.N)).e7)), (iv 0), (iv 0)] : Array Value)) h37 (by kernel_rfl) (by kernel_rfl) (by kernel_rfl) (by kernel_rfl) (by kernel_rfl) (by kernel_rfl) (by kernel_rfl) (by kernel_rfl))
    refine WL.store hS39 0 rfl [(9 + x25.toNat * 1, (iv (e8.N)))] #[e13, (iv (e9.e0)), (iv (e9.e1)), (iv (e9.e2)), (iv (e9.e3)), (iv (e9.e4)), (iv (e9.e5)), (iv (e9.e6)), (iv (e9.e7)), (iv (e14.e0)), (iv (e14.e1)), (iv (e14.e2)), (iv (e14.e3)), (iv (e14.e4)), (iv (e14.e5)), (iv (e14.e6)), (iv (e14.e7)), (iv 0), (iv 0)] (fun fb => by kernel_rfl) h44 h45 [1, 2] (by decide) (by decide) (fun w42 hS43 => ?_)
    refine ⟨trivial, ?_⟩
    refine WL.done rfl ?_
    refine WX.blockN (WX.next ?_)
    refine WC.region ?_
    refine sg 2 [] [0, 1, 4, 5, 11, 12, 13] [e18, (1, e16), e22, e21, (11, e16), e15, (13, (iv (w64 (x25 + 1))))] (by kernel_rfl) ?_
    refine WL.done rfl ?_
    exact WX.again k28 (Nat.lt_succ_self _) (e9, e14, w64 (x25 + 1)) [0, 1, 4, 5, 11, 12, 13] rfl ⟨(hS43.subR [0, 1]).sub [1, 0, 2] (by decide), hl31⟩
   refine WC.condF2 (fun fb => by kernel_rfl) h32 ?_
   refine WC.exit ?_
   injection hl31 with hl31
   exact WX.thenX (WX.thenX (WX.blockHere (WX.to Kx26 (a23, a24) [0, 1, 4, 5] rfl ⟨(hS30.subR [0, 1]).sub [0, 1, 2] (by decide), hl31.symm⟩)))
 rintro y49 w46 ⟨hS47, hq48⟩
 subst hq48
 refine WX.next (WC.seq ?_)
 obtain ⟨h52, hf⟩ := as_some hf
 obtain ⟨h53, hf⟩ := as_some hf
 obtain ⟨h54, hf⟩ := as_some hf
 obtain ⟨h55, hf⟩ := as_some hf
 let e20 := (w64 ((p1.length : Int) - 1))
 refine WC.regionD ([(3, ((adr Ab).add (((0 : Int)).toNat * 1)), (iv (rdD p1 (0 : Int) 0))), (6, (((adr Aa).add (((rdD p1 (0 : Int) 0)).toNat * 4)).add 3), (iv ((rdD p0 (rdD p1 (0 : Int) 0) z_Tile).W))), (13, ((adr Ab).add (e20.toNat * 1)), (iv (rdD p1 e20 0))), (16, (((adr Aa).add (((rdD p1 e20 0)).toNat * 4)).add 1), (iv ((rdD p0 (rdD p1 e20 0) z_Tile).E)))], [0, 1, 2, 3, 4, 5, 6, 7, 8, 9, 10, 11, 12, 13, 14, 15, 16, 17, 19], [[], [], [1], [1, 2], [0, 1, 2, 3], [0, 1, 2, 3, 4], [0, 1, 2, 3, 4, 5], [], [], [], [9], [9, 10], [8, 9, 10, 11], [8, 9, 10, 11, 12], [7, 8, 9, 10, 11, 12, 13], [7, 8, 9, 10, 11, 12, 13, 14], [7, 8, 9, 10, 11, 12, 13, 14, 15], [0, 1, 2, 3, 4, 5, 6], [0, 1, 2, 3, 4, 5, 6, 17], [0, 1, 2, 3, 4, 5, 6, 7, 8, 9, 10, 11, 12, 13, 14, 15, 16, 17, 18], [0, 1, 2, 3, 4, 5, 6, 7, 8, 9, 10, 11, 12, 13, 14, 15, 16, 17, 18, 19]]) [[0, 1, 2, 3, 4, 5, 6, 7, 8, 9, 10, 11, 12, 13, 14, 15, 16, 17, 18, 19, 20]] (by kernel_rfl) (by kernel_rfl) (NoPanic.seq (NoPanic.body)) ?_
 have hS51 := hS47.drew
 revert hS51
 generalize World.drew w46 = w50
 intro hS51
 refine ⟨⟨rowR.cell (hS51.rd 1).1 0 h52.1 h52.2 0 rfl, rowR.cell (hS51.rd 0).1 z_Tile h53.1 h53.2 3 rfl, rowR.cell (hS51.rd 1).1 0 h54.1 h54.2 0 rfl, rowR.cell (hS51.rd 0).1 z_Tile h55.1 h55.2 1 rfl, trivial⟩, forallC ?_ (forallN)⟩
 let e12 := (rdD p1 e20 0)
 let e19 := (rdD p1 (0 : Int) 0)
 let e23 := iv ((rdD p0 e19 z_Tile).W)
 let e24 := iv ((rdD p0 e12 z_Tile).E)
 refine segF 18 [.v (iv e19), .v e23, .v (iv e12), .v e24] [4, 5, 41, 51, 52] [e22, e21, (41, e23), (51, e24), (52, (.pointer (some ⟨g18, 17, none⟩)))] [.idx Ab (0 : Int) p1.length, .idx Aa e19 p0.length, .idx Ab e20 p1.length, .idx Aa e12 p0.length] [0, 1, 2, 3] [(3, ((adr Ab).add (((0 : Int)).toNat * 1)), (iv e19)), (6, (((adr Aa).add ((e19).toNat * 4)).add 3), e23), (13, ((adr Ab).add (e20.toNat * 1)), (iv e12)), (16, (((adr Aa).add ((e12).toNat * 4)).add 1), e24)] (fun fb => by kernel_rfl) rfl ⟨rowR.adr (hS51.rd 1).1 h52.1 h52.2, rowR.adr (hS51.rd 0).1 h53.1 h53.2, rowR.adr (hS51.rd 1).1 h54.1 h54.2, rowR.adr (hS51.rd 0).1 h55.1 h55.2, trivial⟩ rfl ?_
 refine WL.store hS51 1 rfl [(17, e23)] #[e13, (iv x26.1.e0), (iv x26.1.e1), (iv x26.1.e2), (iv x26.1.e3), (iv x26.1.e4), (iv x26.1.e5), (iv x26.1.e6), (iv x26.1.e7), (iv x26.2.e0), (iv x26.2.e1), (iv x26.2.e2), (iv x26.2.e3), (iv x26.2.e4), (iv x26.2.e5), (iv x26.2.e6), (iv x26.2.e7), e23, (iv 0)] (fun fb => by kernel_rfl) (by kernel_rfl) (by kernel_rfl) [0, 2] (by decide) (by decide) (fun w56 hS57 => ?_)
 refine ⟨⟨rowR.cell (hS57.rd 1).1 0 h54.1 h54.2 0 rfl, rowR.cell (hS57.rd 0).1 z_Tile h55.1 h55.2 1 rfl, trivial⟩, ?_⟩
 refine sg 20 [] [4, 5, 51, 53] [e22, e21, (51, e24), (53, (.pointer (some ⟨g18, 18, none⟩)))] (by kernel_rfl) ?_
 refine WL.store hS57 0 rfl [(18, e24)] #[e13, (iv x26.1.e0), (iv x26.1.e1), (iv x26.1.e2), (iv x26.1.e3), (iv x26.1.e4), (iv x26.1.e5), (iv x26.1.e6), (iv x26.1.e7), (iv x26.2.e0), (iv x26.2.e1), (iv x26.2.e2), (iv x26.2.e3), (iv x26.2.e4), (iv x26.2.e5), (iv x26.2.e6), (iv x26.2.e7), e23, e24] (fun fb => by kernel_rfl) (by kernel_rfl) (by kernel_rfl) [1, 2] (by decide) (by decide) (fun w58 hS59 => ?_)
 refine ⟨trivial, ?_⟩
 refine WL.done rfl (WX.next (WC.seq (WC.region ?_)))
 refine seg 1 [.v e13, .v (iv x26.1.e0), .v (iv x26.1.e1), .v (iv x26.1.e2), .v (iv x26.1.e3), .v (iv x26.1.e4), .v (iv x26.1.e5), .v (iv x26.1.e6), .v (iv x26.1.e7), .v (iv x26.2.e0), .v (iv x26.2.e1), .v (iv x26.2.e2), .v (iv x26.2.e3), .v (iv x26.2.e4), .v (iv x26.2.e5), .v (iv x26.2.e6), .v (iv x26.2.e7), .v e23, .v e24] [4, 54] [e22, (54, (.agg #[e13, (iv x26.1.e0), (iv x26.1.e1), (iv x26.1.e2), (iv x26.1.e3), (iv x26.1.e4), (iv x26.1.e5), (iv x26.1.e6), (iv x26.1.e7), (iv x26.2.e0), (iv x26.2.e1), (iv x26.2.e2), (iv x26.2.e3), (iv x26.2.e4), (iv x26.2.e5), (iv x26.2.e6), (iv x26.2.e7), e23, e24]))] [.cell ⟨g18, 0, none⟩ e13, .cell ⟨g18, 1, none⟩ (iv x26.1.e0), .cell ⟨g18, 2, none⟩ (iv x26.1.e1), .cell ⟨g18, 3, none⟩ (iv x26.1.e2), .cell ⟨g18, 4, none⟩ (iv x26.1.e3), .cell ⟨g18, 5, none⟩ (iv x26.1.e4), .cell ⟨g18, 6, none⟩ (iv x26.1.e5), .cell ⟨g18, 7, none⟩ (iv x26.1.e6), .cell ⟨g18, 8, none⟩ (iv x26.1.e7), .cell ⟨g18, 9, none⟩ (iv x26.2.e0), .cell ⟨g18, 10, none⟩ (iv x26.2.e1), .cell ⟨g18, 11, none⟩ (iv x26.2.e2), .cell ⟨g18, 12, none⟩ (iv x26.2.e3), .cell ⟨g18, 13, none⟩ (iv x26.2.e4), .cell ⟨g18, 14, none⟩ (iv x26.2.e5), .cell ⟨g18, 15, none⟩ (iv x26.2.e6), .cell ⟨g18, 16, none⟩ (iv x26.2.e7), .cell ⟨g18, 17, none⟩ e23, .cell ⟨g18, 18, none⟩ e24] (fun fb => by kernel_rfl) rfl ⟨hS59.cell 0 rfl 0 rfl, hS59.cell 0 rfl 1 rfl, hS59.cell 0 rfl 2 rfl, hS59.cell 0 rfl 3 rfl, hS59.cell 0 rfl 4 rfl, hS59.cell 0 rfl 5 rfl, hS59.cell 0 rfl 6 rfl, hS59.cell 0 rfl 7 rfl, hS59.cell 0 rfl 8 rfl, hS59.cell 0 rfl 9 rfl, hS59.cell 0 rfl 10 rfl, hS59.cell 0 rfl 11 rfl, hS59.cell 0 rfl 12 rfl, hS59.cell 0 rfl 13 rfl, hS59.cell 0 rfl 14 rfl, hS59.cell 0 rfl 15 rfl, hS59.cell 0 rfl 16 rfl, hS59.cell 0 rfl 17 rfl, hS59.cell 0 rfl 18 rfl, trivial⟩ ?_
 refine WL.store hS59 1 rfl [(0, e13), (1, (iv x26.1.e0)), (2, (iv x26.1.e1)), (3, (iv x26.1.e2)), (4, (iv x26.1.e3)), (5, (iv x26.1.e4)), (6, (iv x26.1.e5)), (7, (iv x26.1.e6)), (8, (iv x26.1.e7)), (9, (iv x26.2.e0)), (10, (iv x26.2.e1)), (11, (iv x26.2.e2)), (12, (iv x26.2.e3)), (13, (iv x26.2.e4)), (14, (iv x26.2.e5)), (15, (iv x26.2.e6)), (16, (iv x26.2.e7)), (17, e23), (18, e24)] #[e13, (iv x26.1.e0), (iv x26.1.e1), (iv x26.1.e2), (iv x26.1.e3), (iv x26.1.e4), (iv x26.1.e5), (iv x26.1.e6), (iv x26.1.e7), (iv x26.2.e0), (iv x26.2.e1), (iv x26.2.e2), (iv x26.2.e3), (iv x26.2.e4), (iv x26.2.e5), (iv x26.2.e6), (iv x26.2.e7), e23, e24] (fun fb => by kernel_rfl) (by kernel_rfl) (by kernel_rfl) [0, 2] (by decide) (by decide) (fun w60 hS61 => ?_)
 refine ⟨trivial, ?_⟩
 refine WL.done rfl (WX.next ?_)
 refine WC.ret ?_
 injection hf with hf
 subst hf
 exact WX.ret_ [.v e13, .v (iv x26.1.e0), .v (iv x26.1.e1), .v (iv x26.1.e2), .v (iv x26.1.e3), .v (iv x26.1.e4), .v (iv x26.1.e5), .v (iv x26.1.e6), .v (iv x26.1.e7), .v (iv x26.2.e0), .v (iv x26.2.e1), .v (iv x26.2.e2), .v (iv x26.2.e3), .v (iv x26.2.e4), .v (iv x26.2.e5), .v (iv x26.2.e6), .v (iv x26.2.e7), .v e23, .v e24] (.agg #[e13, (iv x26.1.e0), (iv x26.1.e1), (iv x26.1.e2), (iv x26.1.e3), (iv x26.1.e4), (iv x26.1.e5), (iv x26.1.e6), (iv x26.1.e7), (iv x26.2.e0), (iv x26.2.e1), (iv x26.2.e2), (iv x26.2.e3), (iv x26.2.e4), (iv x26.2.e5), (iv x26.2.e6), (iv x26.2.e7), e23, e24]) [.cell ⟨g9, 0, none⟩ e13, .cell ⟨g9, 1, none⟩ (iv x26.1.e0), .cell ⟨g9, 2, none⟩ (iv x26.1.e1), .cell ⟨g9, 3, none⟩ (iv x26.1.e2), .cell ⟨g9, 4, none⟩ (iv x26.1.e3), .cell ⟨g9, 5, none⟩ (iv x26.1.e4), .cell ⟨g9, 6, none⟩ (iv x26.1.e5), .cell ⟨g9, 7, none⟩ (iv x26.1.e6), .cell ⟨g9, 8, none⟩ (iv x26.1.e7), .cell ⟨g9, 9, none⟩ (iv x26.2.e0), .cell ⟨g9, 10, none⟩ (iv x26.2.e1), .cell ⟨g9, 11, none⟩ (iv x26.2.e2), .cell ⟨g9, 12, none⟩ (iv x26.2.e3), .cell ⟨g9, 13, none⟩ (iv x26.2.e4), .cell ⟨g9, 14, none⟩ (iv x26.2.e5), .cell ⟨g9, 15, none⟩ (iv x26.2.e6), .cell ⟨g9, 16, none⟩ (iv x26.2.e7), .cell ⟨g9, 17, none⟩ e23, .cell ⟨g9, 18, none⟩ e24] (fun fb => by kernel_rfl) ⟨hS61.cell 0 rfl 0 rfl, hS61.cell 0 rfl 1 rfl, hS61.cell 0 rfl 2 rfl, hS61.cell 0 rfl 3 rfl, hS61.cell 0 rfl 4 rfl, hS61.cell 0 rfl 5 rfl, hS61.cell 0 rfl 6 rfl, hS61.cell 0 rfl 7 rfl, hS61.cell 0 rfl 8 rfl, hS61.cell 0 rfl 9 rfl, hS61.cell 0 rfl 10 rfl, hS61.cell 0 rfl 11 rfl, hS61.cell 0 rfl 12 rfl, hS61.cell 0 rfl 13 rfl, hS61.cell 0 rfl 14 rfl, hS61.cell 0 rfl 15 rfl, hS61.cell 0 rfl 16 rfl, hS61.cell 0 rfl 17 rfl, hS61.cell 0 rfl 18 rfl, trivial⟩ ⟨_, rfl, A14, c15, rfl, (hS61.sub [2] (by decide)).noR⟩
theorem rows_All_1_calls : ∀ (k : Nat) (p0 : Int) (f0 : Int) (f1 : List Row) (f2 : List Tile) (f3 : List Int) (ga : Nat) (gb : Nat) (Aa : Option Addr) (ca : Nat) (Ha : Nat → HF) (gc : Nat) (Ab : Option Addr) (cb : Nat) (gd : Nat) (Ac : Option Addr) (cc : Nat) (ge : Nat) (r : (List Row) × (List Int)) (w : World) (hR0 : RO (fpL [blk gb (.cells #[(sv Aa f1 ca)] 103 (0, 0)), rowO 109 encN_Row Aa ca (tag Ha f1), poolO [nestO subN_Row Ha f1], blk gd (.cells #[(sv Ac f3 cc)] 24 (0, 0)), rowO 3 encInt Ac cc f3]) w (blk ga (.cells #[(iv f0)] 3 (0, 0)))) (hR1 : RO (fpL [blk gb (.cells #[(sv Aa f1 ca)] 103 (0, 0)), rowO 109 encN_Row Aa ca (tag Ha f1), poolO [nestO subN_Row Ha f1], blk gd (.cells #[(sv Ac f3 cc)] 24 (0, 0)), rowO 3 encInt Ac cc f3]) w (blk gc (.cells #[(sv Ab f2 cb)] 22 (0, 0)))) (hR2 : RO (fpL [blk gb (.cells #[(sv Aa f1 ca)] 103 (0, 0)), rowO 109 encN_Row Aa ca (tag Ha f1), poolO [nestO subN_Row Ha f1], blk gd (.cells #[(sv Ac f3 cc)] 24 (0, 0)), rowO 3 encInt Ac cc f3]) w (rowR enc_Tile Ab cb f2)) (hR3 : RO (fpL [blk gb (.cells #[(sv Aa f1 ca)] 103 (0, 0)), rowO 109 encN_Row Aa ca (tag Ha f1), poolO [nestO subN_Row Ha f1], blk gd (.cells #[(sv Ac f3 cc)] 24 (0, 0)), rowO 3 encInt Ac cc f3]) w (blk ge (.cells #[(.func (.func 105) #[] #[(pt ga), (pt gb), (pt gc), (pt gd), (pt ge)])] 138 (0, 0)))) (hI : IoOK w [blk gb (.cells #[(sv Aa f1 ca)] 103 (0, 0)), rowO 109 encN_Row Aa ca (tag Ha f1), poolO [nestO subN_Row Ha f1], blk gd (.cells #[(sv Ac f3 cc)] 24 (0, 0)), rowO 3 encInt Ac cc f3]) (hf : rows_All_1 k p0 f0 f1 f2 f3 = some r),
  CallsR Tryz.prog 105 #[(iv p0), (pt ga), (pt gb), (pt gc), (pt gd), (pt ge)] w (fun v w' => ∃ (A1_ : Option Addr), ∃ (c1_ : Nat), ∃ (h1_ : Nat → HF), ∃ (A2_ : Option Addr), ∃ (c2_ : Nat), v = (.tuple #[]) ∧ St (fpL [blk gb (.cells #[(sv Aa f1 ca)] 103 (0, 0)), rowO 109 encN_Row Aa ca (tag Ha f1), poolO [nestO subN_Row Ha f1], blk gd (.cells #[(sv Ac f3 cc)] 24 (0, 0)), rowO 3 encInt Ac cc f3]) w w' [] [blk gb (.cells #[(sv A1_ r.1 c1_)] 103 (0, 0)), rowO 109 encN_Row A1_ c1_ (tag h1_ r.1), poolO [nestO subN_Row h1_ r.1], blk gd (.cells #[(sv A2_ r.2 c2_)] 24 (0, 0)), rowO 3 encInt A2_ c2_ r.2]) := by
 intro k
 induction k with
 | zero => intro p0 f0 f1 f2 f3 ga gb Aa ca Ha gc Ab cb gd Ac cc ge r w hR0 hR1 hR2 hR3 hI hf; rw [rows_All_1] at hf; cases hf
 | succ k ih_ =>
 intro p0 f0 f1 f2 f3 ga gb Aa ca Ha gc Ab cb gd Ac cc ge r w hR0 hR1 hR2 hR3 hI hf
 have hS : St (fpL [blk gb (.cells #[(sv Aa f1 ca)] 103 (0, 0)), rowO 109 encN_Row Aa ca (tag Ha f1), poolO [nestO subN_Row Ha f1], blk gd (.cells #[(sv Ac f3 cc)] 24 (0, 0)), rowO 3 encInt Ac cc f3]) w w [blk ga (.cells #[(iv f0)] 3 (0, 0)), blk gc (.cells #[(sv Ab f2 cb)] 22 (0, 0)), rowR enc_Tile Ab cb f2, blk ge (.cells #[(.func (.func 105) #[] #[(pt ga), (pt gb), (pt gc), (pt gd), (pt ge)])] 138 (0, 0))] [blk gb (.cells #[(sv Aa f1 ca)] 103 (0, 0)), rowO 109 encN_Row Aa ca (tag Ha f1), poolO [nestO subN_Row Ha f1], blk gd (.cells #[(sv Ac f3 cc)] 24 (0, 0)), rowO 3 encInt Ac cc f3] := St.initIO (ro_cons hR0 (ro_cons hR1 (ro_cons hR2 (ro_cons hR3 (ro_nil _ _))))) hI
 rw [rows_All_1] at hf
 generalize rows_All_1 k = rc_ at hf ih_
 refine enter 50 Tryz.func105 rfl Tryz.ntmps105 rfl ?_
 refine WC.seq (WC.seq (WC.region ?_))
 refine seg 3 [.v (iv f0)] [0, 2, 3, 4, 5, 11] [(0, (iv p0)), (2, (pt gb)), (3, (pt gc)), (4, (pt gd)), (5, (pt ge)), (11, (bv (p0 == f0)))] [.cell ⟨ga, 0, none⟩ (iv f0)] (fun fb => by kernel_rfl) rfl ⟨blk_cell (hS.rd 0).1 0 rfl, trivial⟩ ?_
 refine WL.done rfl (WX.next ?_)
 let e23 : List (Nat × Addr × Value) := [(0, ⟨gb, 0, none⟩, (sv Aa f1 ca)), (1, ⟨gc, 0, none⟩, (sv Ab f2 cb)), (2, ⟨gd, 0, none⟩, (sv Ac f3 cc))]
 rcases br_some hf with ⟨h8, hf⟩ | ⟨h8, hf⟩
 ·refine WC.condT2 (fun fb => by kernel_rfl) h8 ?_
  refine WC.seq ?_
  refine WC.regionD (e23, [0, 1, 2], [[], [], [], [1, 2], [1, 2, 3], [0, 1, 2, 3, 4], [0, 1, 2, 3, 4, 5]]) [[0, 1, 2, 3, 4, 5, 6]] (by kernel_rfl) (by kernel_rfl) (NoPanic.seq (NoPanic.seq (NoPanic.body))) ?_
  have hS10 := hS.drew
  revert hS10
  generalize World.drew w = w9
  intro hS10
  refine ⟨⟨hS10.cell 0 rfl 0 rfl, blk_cell (hS10.rd 1).1 0 rfl, hS10.cell 3 rfl 0 rfl, trivial⟩, forallC ?_ (forallN)⟩
  refine segF 3 [.v (sv Aa f1 ca), .v (sv Ab f2 cb), .v (sv Ac f3 cc)] [2, 4, 12, 13, 14] [(2, (pt gb)), (4, (pt gd)), (12, (sv Aa f1 ca)), (13, (sv Ab f2 cb)), (14, (sv Ac f3 cc))] [] [0, 1, 2] e23 (fun fb => by kernel_rfl) rfl trivial rfl ?_
  obtain ⟨t11, ht12, hf⟩ := bind_some hf
  refine WL.call (some 15) 106 #[(sv Ab f2 cb), (sv Ac f3 cc)] (fun fb => by kernel_rfl) (rows_rowOf_calls _ f2 f3 Ab cb Ac cc t11 _ (hS10.rd 2) (hS10.ow 4).ofO ht12) (fun v w13 hR14 => ?_)
  obtain ⟨A16, c17, rfl, hk_⟩ := hR14
  have hS15 : St (fpL [blk gb (.cells #[(.slice Aa f1.length ca)] 103 (0, 0)), rowO 109 encN_Row Aa ca (tag Ha f1), poolO [nestO subN_Row Ha f1], blk gd (.cells #[(.slice Ac f3.length cc)] 24 (0, 0)), rowO 3 encInt Ac cc f3]) w w13 [blk ga (.cells #[(iv f0)] 3 (0, 0)), blk gc (.cells #[(.slice Ab f2.length cb)] 22 (0, 0)), rowR enc_Tile Ab cb f2, blk ge (.cells #[(.func (.func 105) #[] #[(pt ga), (pt gb), (pt gc), (pt gd), (pt ge)])] 138 (0, 0))] [rowO 3 encInt A16 c17 t11.Cells, blk gb (.cells #[(.slice Aa f1.length ca)] 103 (0, 0)), rowO 109 encN_Row Aa ca (tag Ha f1), poolO [nestO subN_Row Ha f1], blk gd (.cells #[(.slice Ac f3.length cc)] 24 (0, 0)), rowO 3 encInt Ac cc f3] := hS10.call hk_ [] [0, 1, 2, 3, 4] (fun g hg => hg.elim) (by simp) (by decide)
  refine ⟨⟨hS15.cell 1 rfl 0 rfl, trivial⟩, ?_⟩
  refine WL.new hS15 16 [] (fun g => (.slice (some ⟨g, 0, none⟩) 1 1)) (.cells #[(sv A16 t11.Cells c17), (iv t11.South.e0), (iv t11.South.e1), (iv t11.South.e2), (iv t11.South.e3), (iv t11.South.e4), (iv t11.South.e5), (iv t11.South.e6), (iv t11.South.e7), (iv t11.North.e0), (iv t11.North.e1), (iv t11.North.e2), (iv t11.North.e3), (iv t11.North.e4), (iv t11.North.e5), (iv t11.North.e6), (iv t11.North.e7), (iv t11.West), (iv t11.East)] 109 (0, 0)) [] (fun fb g => by kernel_rfl) trivial (fun g18 w19 hS20 => ?_)
  refine ⟨⟨hS20.cell 2 rfl 0 rfl, trivial⟩, ?_⟩
  have hS21 := hS.go w19 [rowO 109 encN_Row (some ⟨g18, 0, none⟩) 1 [((hd1 A16 c17), t11)], rowO 3 encInt A16 c17 t11.Cells, blk gb (.cells #[(sv Aa f1 ca)] 103 (0, 0)), rowO 109 encN_Row Aa ca (tag Ha f1), poolO [nestO subN_Row Ha f1], blk gd (.cells #[(sv Ac f3 cc)] 24 (0, 0)), rowO 3 encInt Ac cc f3] (hS20.map1 0 _ (fun h => rowO.ofBlk h rfl (Nat.le_of_ble_eq_true (by kernel_rfl))) (fun _ h => by obtain ⟨_, h1, h2⟩ := h; injection h1 with h1; subst h1; exact h2) [1, 2, 3, 4, 5, 6] (by decide) (by decide))
  obtain ⟨h22, hf⟩ := as_some hf
  refine WL.appendN hS21 3 (d := 17) (tS := 103) (z := (.agg #[(.slice none 0 0), (iv 0), (iv 0), (iv 0), (iv 0), (iv 0), (iv 0), (iv 0), (iv 0), (iv 0), (iv 0), (iv 0), (iv 0), (iv 0), (iv 0), (iv 0), (iv 0), (iv 0), (iv 0)])) (bytes := 168) (c2 := 1) (hx := (hd1 A16 c17)) (x := t11) rfl (fun fb => by kernel_rfl) (rowO.rd (hS21.own 0).1) (by kernel_rfl) (by kernel_rfl) rfl (by decide) h22 (by decide) [0, 1, 2, 4, 5, 6] (by decide) (by decide) (fun A23 c24 w25 hS26 => ?_)
  have hS27 := hS15.go w25 [poolO [nestO subN_Row (updH Ha f1.length (hd1 A16 c17)) (f1 ++ [t11])], rowO 109 encN_Row A23 c24 (tag (updH Ha f1.length (hd1 A16 c17)) (f1 ++ [t11])), rowO 109 encN_Row (some ⟨g18, 0, none⟩) 1 [((hd1 A16 c17), t11)], blk gb (.cells #[(.slice Aa f1.length ca)] 103 (0, 0)), blk gd (.cells #[(.slice Ac f3.length cc)] 24 (0, 0)), rowO 3 encInt Ac cc f3] (hS26.poolPush 4 rfl 0 (by simp) rfl (hd1 A16 c17) t11 (hS26.ow 2).ofO [2] (fun g hg => ⟨2, by simp, rowO.fpR (hS26.own 2).1 g hg⟩) _ rfl [0, 1, 3, 5, 6] (by decide) (by decide))
  refine ⟨trivial, ?_⟩
  refine WL.store hS27 3 rfl [(0, (sv A23 (f1 ++ [t11]) c24))] #[(sv A23 (f1 ++ [t11]) c24)] (fun fb => by kernel_rfl) (by kernel_rfl) rfl [0, 1, 2, 4, 5] (by decide) (by decide) (fun w28 hS29 => ?_)
  refine ⟨trivial, ?_⟩
  refine WL.done rfl (WX.next ?_)
  refine WC.ret ?_
  injection hf with hf
  subst hf
  exact WX.thenR (WX.ret_ [] (.tuple #[]) [] (fun fb => by kernel_rfl) trivial ⟨_, rfl, A23, c24, (updH Ha f1.length (hd1 A16 c17)), Ac, cc, rfl, (hS29.sub [0, 2, 1, 4, 5] (by decide)).noR⟩)
 refine WC.condF2 (fun fb => by kernel_rfl) h8 ?_
 refine WC.skip (WX.next (WC.seq (WC.region ?_)))
 refine seg 3 [.v (sv Ab f2 cb)] [0, 2, 3, 4, 5, 18, 19, 20] [(0, (iv p0)), (2, (pt gb)), (3, (pt gc)), (4, (pt gd)), (5, (pt ge)), (18, (sv Ab f2 cb)), (19, (iv (f2.length : Int))), (20, (iv 0))] [.cell ⟨gc, 0, none⟩ (sv Ab f2 cb)] (fun fb => by kernel_rfl) rfl ⟨blk_cell (hS.rd 1).1 0 rfl, trivial⟩ ?_
 refine WL.done rfl (WX.next ?_)
 obtain ⟨x43, hx44, hf⟩ := bind_some hf
 let e9 : Nat × Value := (19, (iv (f2.length : Int)))
 let e10 := [[], [0], [0, 1], [0, 1, 2], [0, 1, 2], [0, 1, 2], [0, 1, 2, 5], [0, 1, 2, 4, 5, 6], [0, 1, 2, 4, 5, 6, 7], [0, 1, 2, 3, 4, 5, 6, 7, 8], [0, 1, 2, 3, 4, 5, 6, 7, 8, 9], [0, 1, 2, 3, 4, 5, 6, 7, 8, 9, 10], [0, 1, 2], [0, 1, 2, 12], [0, 1, 2, 3, 4, 5, 6, 7, 8, 9, 10, 11, 12, 13], [0, 1, 2, 3, 4, 5, 6, 7, 8, 9, 10, 11, 12, 13, 14]]
 let e12 : Array Value := #[(pt ga), (pt gb), (pt gc), (pt gd), (pt ge)]
 let e13 : Nat × Value := (18, (sv Ab f2 cb))
 let e15 : List Nat := [0, 1, 2, 3, 4, 5, 6, 7, 8, 9, 10, 11, 12, 13, 14, 15]
 let e17 : Nat × Value := (2, (pt gb))
 let e18 : Nat × Value := (4, (pt gd))
 let e20 : Nat × Value := (0, (iv p0))
 let e21 : Nat × Value := (3, (pt gc))
 let e22 : Nat × Value := (5, (pt ge))
 let e25 : List Nat := [0, 2, 3, 4, 5, 18, 19, 20]
 let e26 : List Nat := [0, 2, 3, 4, 5, 7, 18, 19, 20, 40]
 let e29 : List Nat := [0, 1, 2, 3]
 let e30 : List Nat := [0, 1, 2, 3, 4]
 let e31 : List Nat := [1, 2, 3, 4, 0]
 let e33 : List Own := [nestO subN_Row Ha f1]
 let e34 := Option Addr
 let e35 := sv Ab f2 cb
 refine WC.cutN (T := ((List Row) × (List Int)) × e34 × Nat × (Nat → HF) × e34 × Nat) (fun t => [e17, e18]) (fun t w1 => St (fpL [blk gb (.cells #[(sv Aa f1 ca)] 103 (0, 0)), rowO 109 encN_Row Aa ca (tag Ha f1), poolO e33, blk gd (.cells #[(sv Ac f3 cc)] 24 (0, 0)), rowO 3 encInt Ac cc f3]) w w1 [blk ga (.cells #[(iv f0)] 3 (0, 0)), blk gc (.cells #[e35] 22 (0, 0)), rowR enc_Tile Ab cb f2, blk ge (.cells #[(.func (.func 105) #[] e12)] 138 (0, 0))] [blk gb (.cells #[(sv t.2.1 t.1.1 t.2.2.1)] 103 (0, 0)), rowO 109 encN_Row t.2.1 t.2.2.1 (tag t.2.2.2.1 t.1.1), poolO [nestO subN_Row t.2.2.2.1 t.1.1], blk gd (.cells #[(sv t.2.2.2.2.1 t.1.2 t.2.2.2.2.2)] 24 (0, 0)), rowO 3 encInt t.2.2.2.2.1 t.2.2.2.2.2 t.1.2] ∧ x43 = t.1) (fun Kx43 => ?_) ?_
 ·
  refine WC.block ?_
  refine WC.loop (T := ((List Row) × (List Int) × Int) × e34 × Nat × (Nat → HF) × e34 × Nat) (fun t => [e20, e17, e21, e18, e22, e13, e9, (20, (iv t.1.2.2))]) (fun n t w1 => St (fpL [blk gb (.cells #[(sv Aa f1 ca)] 103 (0, 0)), rowO 109 encN_Row Aa ca (tag Ha f1), poolO e33, blk gd (.cells #[(sv Ac f3 cc)] 24 (0, 0)), rowO 3 encInt Ac cc f3]) w w1 [blk ga (.cells #[(iv f0)] 3 (0, 0)), blk gc (.cells #[e35] 22 (0, 0)), rowR enc_Tile Ab cb f2, blk ge (.cells #[(.func (.func 105) #[] e12)] 138 (0, 0))] [blk gb (.cells #[(sv t.2.1 t.1.1 t.2.2.1)] 103 (0, 0)), rowO 109 encN_Row t.2.1 t.2.2.1 (tag t.2.2.2.1 t.1.1), poolO [nestO subN_Row t.2.2.2.1 t.1.1], blk gd (.cells #[(sv t.2.2.2.2.1 t.1.2.1 t.2.2.2.2.2)] 24 (0, 0)), rowO 3 encInt t.2.2.2.2.1 t.2.2.2.2.2 t.1.2.1] ∧ rows_All_1.l0 n t.1.1 t.1.2.1 t.1.2.2 p0 f0 f2 rc_ = some x43) k ((f1, f3, 0), Aa, ca, Ha, Ac, cc) e25 rfl ⟨(hS.subR e29).sub e30 (by decide), hx44⟩ ?_
  rintro k45 ⟨⟨l32, l36, x37⟩, A30, c31, H33, A34, c35⟩ w46 ⟨hS47, hl48⟩
  let e8 := rdD f2 x37 z_Tile
  let e14 := rdD l36 (w64 (p0 - 1)) 0
  let e19 : Nat × Value := (20, (iv x37))
  let e24 : Array Value := #[(iv (e8.N)), (iv (e8.E)), (iv (e8.S)), (iv (e8.W))]
  let e27 := (adr Ab).add ((x37).toNat * 4)
  let e28 := sv A34 l36 c35
  let e32 := (rdD f2 e14 z_Tile).E
  cases k45 with
  | zero => rw [rows_All_1.l0] at hl48; cases hl48
  | succ k45 =>
   rw [rows_All_1.l0] at hl48
   refine WC.seq (WC.region ?_)
   refine sg 1 [] [0, 2, 3, 4, 5, 18, 19, 20, 21] [e20, e17, e21, e18, e22, e13, e9, e19, (21, (bv (decide (x37 < (f2.length : Int)))))] (by kernel_rfl) ?_
   refine WL.done rfl (WX.next (WC.seq ?_))
   rcases br_some hl48 with ⟨h49, hl48⟩ | ⟨h49, hl48⟩
   ·refine WC.condT2 (fun fb => by kernel_rfl) h49 ?_
    refine WC.skip (WX.next (WC.seq (WC.block (WC.seq (WC.region ?_)))))
    refine sg 1 [] [0, 2, 3, 4, 5, 18, 19, 20, 22] [e20, e17, e21, e18, e22, e13, e9, e19, (22, (iv x37))] (by kernel_rfl) ?_
    obtain ⟨h50, hl48⟩ := as_some hl48
    refine seg 3 [.v (iv (e8.N)), .v (iv (e8.E)), .v (iv (e8.S)), .v (iv (e8.W))] [0, 2, 3, 4, 5, 18, 19, 20, 22, 24] [e20, e17, e21, e18, e22, e13, e9, e19, (22, (iv x37)), (24, (.agg e24))] [.idx Ab x37 f2.length, .cell e27 (iv (e8.N)), .cell (e27.add 1) (iv (e8.E)), .cell (e27.add 2) (iv (e8.S)), .cell (e27.add 3) (iv (e8.W))] (fun fb => by kernel_rfl) rfl ⟨rowR.adr (hS47.rd 2).1 h50.1 h50.2, rowR.cell (hS47.rd 2).1 z_Tile h50.1 h50.2 0 rfl, rowR.cell (hS47.rd 2).1 z_Tile h50.1 h50.2 1 rfl, rowR.cell (hS47.rd 2).1 z_Tile h50.1 h50.2 2 rfl, rowR.cell (hS47.rd 2).1 z_Tile h50.1 h50.2 3 rfl, trivial⟩ ?_
    refine WL.new hS47 8 [] (fun g => (pt g)) (.cells #[(iv 0), (iv 0), (iv 0), (iv 0)] 44 (0, 0)) [] (fun fb g => by kernel_rfl) trivial (fun g51 w52 hS53 => ?_)
    refine ⟨trivial, ?_⟩
    refine sg 5 [] [0, 2, 3, 4, 5, 7, 8, 18, 19, 20, 24] [e20, e17, e21, e18, e22, (7, (iv x37)), (8, (pt g51)), e13, e9, e19, (24, (.agg e24))] (by kernel_rfl) ?_
    refine WL.store hS53 0 rfl [(0, (iv (e8.N))), (1, (iv (e8.E))), (2, (iv (e8.S))), (3, (iv (e8.W)))] e24 (fun fb => by kernel_rfl) (by kernel_rfl) rfl [1, 2, 3, 4, 5] (by decide) (by decide) (fun w54 hS55 => ?_)
    refine ⟨trivial, ?_⟩
    refine WL.done rfl (WX.next (WC.seq ?_))
    obtain ⟨x56, hx57, hl48⟩ := bind_some hl48
    let e11 : List (Nat × Addr × Value) := [(3, ⟨gc, 0, none⟩, e35), (4, ⟨gd, 0, none⟩, e28), (8, ((adr A34).add ((w64 (p0 - 1)).toNat * 1)), (iv e14)), (11, (((adr Ab).add ((e14).toNat * 4)).add 1), (iv e32)), (13, ⟨g51, 3, none⟩, (iv (e8.W)))]
    let e16 : List (Nat × Value) := [e20, e17, e21, e18, e22, (7, (iv x37)), (8, (pt g51)), e13, e9, e19, (27, (bv (p0 == 0)))]
    refine WC.cutN (T := Bool) (fun t => [e20, e17, e21, e18, e22, (7, (iv x37)), e13, e9, e19, (40, (bv t))]) (fun t w1 => St (fpL [blk gb (.cells #[(sv Aa f1 ca)] 103 (0, 0)), rowO 109 encN_Row Aa ca (tag Ha f1), poolO e33, blk gd (.cells #[(sv Ac f3 cc)] 24 (0, 0)), rowO 3 encInt Ac cc f3]) w w1 [blk ga (.cells #[(iv f0)] 3 (0, 0)), blk gc (.cells #[e35] 22 (0, 0)), rowR enc_Tile Ab cb f2, blk ge (.cells #[(.func (.func 105) #[] e12)] 138 (0, 0))] [blk gb (.cells #[(sv A30 l32 c31)] 103 (0, 0)), rowO 109 encN_Row A30 c31 (tag H33 l32), poolO [nestO subN_Row H33 l32], blk gd (.cells #[e28] 24 (0, 0)), rowO 3 encInt A34 c35 l36] ∧ x56 = t) (fun Kx56 => ?_) ?_
    ·
     rcases br_some hx57 with ⟨h58, hx57⟩ | ⟨h58, hx57⟩
     ·
      refine WC.regionD ([], e15, e10) [e15] (by kernel_rfl) (by kernel_rfl) (NoPanic.seq (NoPanic.block (NoPanic.seq (NoPanic.seq (NoPanic.block (NoPanic.body)))))) ?_
      have hS60 := hS55.drew
      revert hS60
      generalize World.drew w54 = w59
      intro hS60
      refine ⟨trivial, forallC ?_ (forallN)⟩
      refine sg 3 [] [0, 2, 3, 4, 5, 7, 8, 18, 19, 20, 27] e16 (by kernel_rfl) ?_
      refine WL.setB 27 h58 rfl ?_
      refine sg 16 [] e26 [e20, e17, e21, e18, e22, (7, (iv x37)), e13, e9, e19, (40, (bv true))] (by kernel_rfl) ?_
      refine WL.done rfl ?_
      injection hx57 with hx57
      exact WX.to Kx56 true e26 rfl ⟨(hS60.subR e29).sub [1, 2, 3, 4, 5] (by decide), hx57.symm⟩
     obtain ⟨h63, hx57⟩ := as_some hx57
     obtain ⟨h65, hx57⟩ := as_some hx57
     refine WC.regionD (e11, e15, e10) [e15] (by kernel_rfl) (by kernel_rfl) (NoPanic.seq (NoPanic.block (NoPanic.seq (NoPanic.seq (NoPanic.block (NoPanic.body)))))) ?_
     have hS62 := hS55.drew
     revert hS62
     generalize World.drew w54 = w61
     intro hS62
     refine ⟨⟨blk_cell (hS62.rd 1).1 0 rfl, hS62.cell 4 rfl 0 rfl, rowR.cell (rowO.rd (hS62.own 5).1) 0 h63.1 h63.2 0 rfl, rowR.cell (hS62.rd 2).1 z_Tile h65.1 h65.2 1 rfl, hS62.cell 0 rfl 3 rfl, trivial⟩, forallC ?_ (forallN)⟩
     refine sg 3 [] [0, 2, 3, 4, 5, 7, 8, 18, 19, 20, 27] e16 (by kernel_rfl) ?_
     refine WL.setB 27 h58 rfl ?_
     refine segF 16 [.v e35, .v e28, .v (iv e14), .v (iv e32), .v (iv (e8.W))] e26 [e20, e17, e21, e18, e22, (7, (iv x37)), e13, e9, e19, (40, (bv (e32 == (e8.W))))] [.idx A34 (w64 (p0 - 1)) l36.length, .idx Ab e14 f2.length] e30 e11 (fun fb => by kernel_rfl) rfl ⟨rowR.adr (rowO.rd (hS62.own 5).1) h63.1 h63.2, rowR.adr (hS62.rd 2).1 h65.1 h65.2, trivial⟩ rfl ?_
     refine WL.done rfl ?_
     injection hx57 with hx57
     exact WX.to Kx56 (e32 == (e8.W)) e26 rfl ⟨(hS62.subR e29).sub [1, 2, 3, 4, 5] (by decide), hx57.symm⟩
    rintro y69 w66 ⟨hS67, hq68⟩
    subst hq68
    refine WX.next ?_
    obtain ⟨x75, hx76, hl48⟩ := bind_some hl48
    refine WC.cutN (T := ((List Row) × (List Int)) × e34 × Nat × (Nat → HF) × e34 × Nat) (fun t => [e20, e17, e21, e18, e22, e13, e9, e19]) (fun t w1 => St (fpL [blk gb (.cells #[(sv Aa f1 ca)] 103 (0, 0)), rowO 109 encN_Row Aa ca (tag Ha f1), poolO e33, blk gd (.cells #[(sv Ac f3 cc)] 24 (0, 0)), rowO 3 encInt Ac cc f3]) w w1 [blk ga (.cells #[(iv f0)] 3 (0, 0)), blk gc (.cells #[e35] 22 (0, 0)), rowR enc_Tile Ab cb f2, blk ge (.cells #[(.func (.func 105) #[] e12)] 138 (0, 0))] [blk gb (.cells #[(sv t.2.1 t.1.1 t.2.2.1)] 103 (0, 0)), rowO 109 encN_Row t.2.1 t.2.2.1 (tag t.2.2.2.1 t.1.1), poolO [nestO subN_Row t.2.2.2.1 t.1.1], blk gd (.cells #[(sv t.2.2.2.2.1 t.1.2 t.2.2.2.2.2)] 24 (0, 0)), rowO 3 encInt t.2.2.2.2.1 t.2.2.2.2.2 t.1.2] ∧ x75 = t.1) (fun Kx75 => ?_) ?_
    ·
     rcases br_some hx76 with ⟨h77, hx76⟩ | ⟨h77, hx76⟩
     ·refine WC.condT2 (fun fb => by kernel_rfl) h77 ?_
      refine WC.seq (WC.region ?_)
      refine seg 3 [.v e28] [0, 2, 3, 4, 5, 18, 19, 20, 41, 42, 43] [e20, e17, e21, e18, e22, e13, e9, e19, (41, e28), (42, (iv p0)), (43, (iv x37))] [.cell ⟨gd, 0, none⟩ e28] (fun fb => by kernel_rfl) rfl ⟨hS67.cell 3 rfl 0 rfl, trivial⟩ ?_
      obtain ⟨h78, hx76⟩ := as_some hx76
      refine seg 4 [] [0, 2, 3, 4, 5, 18, 19, 20, 43, 44] [e20, e17, e21, e18, e22, e13, e9, e19, (43, (iv x37)), (44, (.pointer (some ((adr A34).add ((p0).toNat * 1)))))] [.idx A34 p0 l36.length] (fun fb => by kernel_rfl) rfl ⟨rowR.adr (rowO.rd (hS67.own 4).1) h78.1 h78.2, trivial⟩ ?_
      refine WL.storeRow hS67 4 rfl (p0) (x37) (0) [(0, (iv x37))] (fun fb => by kernel_rfl) h78.1 h78.2 (by kernel_rfl) rfl e29 (by decide) (by decide) (fun w79 hS80 => ?_)
      refine ⟨trivial, ?_⟩
      have hS81 : St (fpL [blk gb (.cells #[(.slice Aa f1.length ca)] 103 (0, 0)), rowO 109 encN_Row Aa ca (tag Ha f1), poolO [nestO subN_Row Ha f1], blk gd (.cells #[(.slice Ac f3.length cc)] 24 (0, 0)), rowO 3 encInt Ac cc f3]) w w79 [blk ga (.cells #[(iv f0)] 3 (0, 0)), blk gc (.cells #[(.slice Ab f2.length cb)] 22 (0, 0)), rowR enc_Tile Ab cb f2, blk ge (.cells #[(.func (.func 105) #[] #[(pt ga), (pt gb), (pt gc), (pt gd), (pt ge)])] 138 (0, 0))] [rowO 3 encInt A34 c35 (l36.set (p0).toNat x37), blk gb (.cells #[(.slice A30 l32.length c31)] 103 (0, 0)), rowO 109 encN_Row A30 c31 (tag H33 l32), poolO [nestO subN_Row H33 l32], blk gd (.cells #[(.slice A34 (l36.set (p0).toNat x37).length c35)] 24 (0, 0))] := by simpa only [List.length_set] using (show St (fpL [blk gb (.cells #[(.slice Aa f1.length ca)] 103 (0, 0)), rowO 109 encN_Row Aa ca (tag Ha f1), poolO [nestO subN_Row Ha f1], blk gd (.cells #[(.slice Ac f3.length cc)] 24 (0, 0)), rowO 3 encInt Ac cc f3]) w w79 [blk ga (.cells #[(iv f0)] 3 (0, 0)), blk gc (.cells #[(.slice Ab f2.length cb)] 22 (0, 0)), rowR enc_Tile Ab cb f2, blk ge (.cells #[(.func (.func 105) #[] #[(pt ga), (pt gb), (pt gc), (pt gd), (pt ge)])] 138 (0, 0))] [rowO 3 encInt A34 c35 (l36.set (p0).toNat x37), blk gb (.cells #[(.slice A30 l32.length c31)] 103 (0, 0)), rowO 109 encN_Row A30 c31 (tag H33 l32), poolO [nestO subN_Row H33 l32], blk gd (.cells #[(.slice A34 l36.length c35)] 24 (0, 0))] from hS80)
      refine WL.done rfl (WX.next (WC.region ?_))
      refine seg 3 [.v (.func (.func 105) #[] e12)] [0, 2, 3, 4, 5, 18, 19, 20, 45, 47] [e20, e17, e21, e18, e22, e13, e9, e19, (45, (.func (.func 105) #[] e12)), (47, (iv (w64 (p0 + 1))))] [.cell ⟨ge, 0, none⟩ (.func (.func 105) #[] e12)] (fun fb => by kernel_rfl) rfl ⟨blk_cell (hS81.rd 3).1 0 rfl, trivial⟩ ?_
      obtain ⟨t82, ht83, hx76⟩ := bind_some hx76
      refine WL.call (some 48) 105 #[(iv (w64 (p0 + 1))), (pt ga), (pt gb), (pt gc), (pt gd), (pt ge)] (fun fb => by kernel_rfl) (ih_ (w64 (p0 + 1)) f0 l32 f2 (l36.set (p0).toNat x37) ga gb A30 c31 H33 gc Ab cb gd A34 c35 ge t82 _ (hS81.rdT e31 0) (hS81.rdT e31 1) (hS81.rdT e31 2) (hS81.rdT e31 3) (hS81.io e31 (by decide)) ht83) (fun v w84 hR85 => ?_)
      obtain ⟨A87, c88, H89, A90, c91, rfl, hk_⟩ := hR85
      have hS86 := hS.go w84 [blk gb (.cells #[(sv A87 t82.1 c88)] 103 (0, 0)), rowO 109 encN_Row A87 c88 (tag H89 t82.1), poolO [nestO subN_Row H89 t82.1], blk gd (.cells #[(sv A90 t82.2 c91)] 24 (0, 0)), rowO 3 encInt A90 c91 t82.2] (hS81.call hk_ e31 [] (fun g hg => fpL_sel g hg) (by decide) (by decide))
      refine ⟨trivial, ?_⟩
      refine WL.done rfl ?_
      injection hx76 with hx76
      exact WX.to Kx75 ((t82.1, t82.2), A87, c88, H89, A90, c91) e25 rfl ⟨(hS86.subR e29).sub e30 (by decide), hx76.symm⟩
     refine WC.condF2 (fun fb => by kernel_rfl) h77 ?_
     refine WC.skip ?_
     injection hx76 with hx76
     exact WX.to Kx75 ((l32, l36), A30, c31, H33, A34, c35) e25 rfl ⟨(hS67.subR e29).sub e30 (by decide), hx76.symm⟩
    rintro ⟨y95, A70, c71, H72, A73, c74⟩ w92 ⟨hS93, hq94⟩
    subst hq94
    refine WX.blockN (WX.next ?_)
    refine WC.region ?_
    refine sg 2 [] e25 [e20, e17, e21, e18, e22, e13, e9, (20, (iv (w64 (x37 + 1))))] (by kernel_rfl) ?_
    refine WL.done rfl ?_
    exact WX.again k45 (Nat.lt_succ_self _) ((x75.1, x75.2, w64 (x37 + 1)), A70, c71, H72, A73, c74) e25 rfl ⟨(hS93.subR e29).sub e30 (by decide), hl48⟩
   refine WC.condF2 (fun fb => by kernel_rfl) h49 ?_
   refine WC.exit ?_
   injection hl48 with hl48
   exact WX.thenX (WX.thenX (WX.blockHere (WX.to Kx43 ((l32, l36), A30, c31, H33, A34, c35) [2, 4] rfl ⟨(hS47.subR e29).sub e30 (by decide), hl48.symm⟩)))
 rintro ⟨y99, A38, c39, H40, A41, c42⟩ w96 ⟨hS97, hq98⟩
 subst hq98
 injection hf with hf
 subst hf
 exact WX.end_ [] (.tuple #[]) [] (fun fb => by kernel_rfl) trivial ⟨_, rfl, A38, c39, H40, A41, c42, rfl, (hS97.sub e30 (by decide)).noR⟩
theorem rows_All_calls (k : Nat) (p0 : List Tile) (p1 : Int) (Aa : Option Addr) (ca : Nat) (r : (List Row)) (w : World) (hR0 : RO NoS w (rowR enc_Tile Aa ca p0)) (hf : rows_All k p0 p1 = some r) :
  CallsR Tryz.prog 90 #[(sv Aa p0 ca), (iv p1)] w (fun v w' => ∃ (A1_ : Option Addr), ∃ (c1_ : Nat), ∃ (h1_ : Nat → HF), v = (sv A1_ r c1_) ∧ St NoS w w' [] [rowO 109 encN_Row A1_ c1_ (tag h1_ r), poolO [nestO subN_Row h1_ r]]) := by
 have hS : St NoS w w [rowR enc_Tile Aa ca p0] [] := St.init (ro_cons hR0 (ro_nil _ _))
 refine enter 14 Tryz.func90 rfl Tryz.ntmps90 rfl ?_
 unfold rows_All at hf
 refine WC.seq (WC.region ?_)
 refine WL.new hS 2 [] (fun g => (pt g)) (.cells #[(sv Aa p0 ca)] 22 (0, 0)) [] (fun fb g => by kernel_rfl) trivial (fun g2 w3 hS4 => ?_)
 refine ⟨trivial, ?_⟩
 refine WL.new hS4 3 [] (fun g => (pt g)) (.cells #[(iv p1)] 3 (0, 0)) [] (fun fb g => by kernel_rfl) trivial (fun g5 w6 hS7 => ?_)
 refine ⟨trivial, ?_⟩
 refine sg 3 [] [2, 3] [(2, (pt g2)), (3, (pt g5))] (by kernel_rfl) ?_
 refine WL.done rfl (WX.next (WC.seq (WC.region ?_)))
 refine WL.new hS7 5 [] (fun g => (pt g)) (.cells #[(.slice none 0 0)] 103 (0, 0)) [] (fun fb g => by kernel_rfl) trivial (fun g8 w9 hS10 => ?_)
 refine ⟨trivial, ?_⟩
 refine WL.done rfl (WX.next (WC.seq (WC.region ?_)))
 refine seg 1 [.v (iv p1)] [2, 3, 5, 8] [(2, (pt g2)), (3, (pt g5)), (5, (pt g8)), (8, (iv p1))] [.cell ⟨g5, 0, none⟩ (iv p1)] (fun fb => by kernel_rfl) rfl ⟨hS10.cell 1 rfl 0 rfl, trivial⟩ ?_
 obtain ⟨h11, hf⟩ := as_some hf
 refine WL.make hS10 (e := encInt) (T := 3) (tS := 24) (z := (iv 0)) (bytes := 8) (d := 9) (0 : Int) p1 (fun fb => by kernel_rfl) (by kernel_rfl) (by kernel_rfl) rfl (by decide) h11 (by decide) (fun g12 w13 hS14 => ?_)
 refine ⟨trivial, ?_⟩
 refine WL.new hS14 6 [] (fun g => (pt g)) (.cells #[(.slice none 0 0)] 24 (0, 0)) [] (fun fb g => by kernel_rfl) trivial (fun g15 w16 hS17 => ?_)
 refine ⟨trivial, ?_⟩
 let e2 := (sv (some ⟨g12, 0, none⟩) (List.replicate p1.toNat (0 : Int)) p1.toNat)
 refine WL.store hS17 0 rfl [(0, e2)] #[e2] (fun fb => by kernel_rfl) (by kernel_rfl) rfl [1, 2, 3, 4] (by decide) (by decide) (fun w18 hS19 => ?_)
 refine ⟨trivial, ?_⟩
 refine WL.done rfl (WX.next (WC.seq (WC.region ?_)))
 refine WL.new hS19 7 [] (fun g => (pt g)) (.cells #[.nilFunc] 138 (0, 0)) [] (fun fb g => by kernel_rfl) trivial (fun g20 w21 hS22 => ?_)
 refine ⟨trivial, ?_⟩
 refine WL.done rfl (WX.next (WC.seq (WC.region ?_)))
 refine sg 1 [] [5, 7, 10] [(5, (pt g8)), (7, (pt g20)), (10, (.func (.func 105) #[] #[(pt g5), (pt g8), (pt g2), (pt g15), (pt g20)]))] (by kernel_rfl) ?_
 refine WL.store hS22 0 rfl [(0, (.func (.func 105) #[] #[(pt g5), (pt g8), (pt g2), (pt g15), (pt g20)]))] #[(.func (.func 105) #[] #[(pt g5), (pt g8), (pt g2), (pt g15), (pt g20)])] (fun fb => by kernel_rfl) (by kernel_rfl) rfl [1, 2, 3, 4, 5] (by decide) (by decide) (fun w23 hS24 => ?_)
 refine ⟨trivial, ?_⟩
 refine WL.done rfl (WX.next (WC.seq (WC.region ?_)))
 let e1 : Array Value := #[(pt g5), (pt g8), (pt g2), (pt g15), (pt g20)]
 refine seg 1 [.v (.func (.func 105) #[] e1)] [5, 11] [(5, (pt g8)), (11, (.func (.func 105) #[] e1))] [.cell ⟨g20, 0, none⟩ (.func (.func 105) #[] e1)] (fun fb => by kernel_rfl) rfl ⟨hS24.cell 0 rfl 0 rfl, trivial⟩ ?_
 have hS25 := hS.go w23 [rowO 109 encN_Row none 0 (tag h0 ([] : List Row)), blk g20 (.cells #[(.func (.func 105) #[] e1)] 138 (0, 0)), blk g15 (.cells #[e2] 24 (0, 0)), rowO 3 encInt (some ⟨g12, 0, none⟩) p1.toNat (List.replicate p1.toNat (0 : Int)), blk g8 (.cells #[(.slice none 0 0)] 103 (0, 0)), blk g5 (.cells #[(iv p1)] 3 (0, 0)), blk g2 (.cells #[(sv Aa p0 ca)] 22 (0, 0))] (hS24.nilrow 109 encN_Row)
 have hS26 := hS25.poolNil subN_Row h0
 obtain ⟨t27, ht28, hf⟩ := bind_some hf
 refine WL.call (some 12) 105 #[(iv 0), (pt g5), (pt g8), (pt g2), (pt g15), (pt g20)] (fun fb => by kernel_rfl) (rows_All_1_calls _ 0 p1 ([] : List Row) p0 (List.replicate p1.toNat (0 : Int)) g5 g8 none 0 h0 g2 Aa ca g15 (some ⟨g12, 0, none⟩) p1.toNat g20 t27 _ (hS26.owT [5, 1, 0, 3, 4] 6 (by decide)) (hS26.owT [5, 1, 0, 3, 4] 7 (by decide)) (hS26.rdT [5, 1, 0, 3, 4] 0) (hS26.owT [5, 1, 0, 3, 4] 2 (by decide)) (hS26.io [5, 1, 0, 3, 4] (by decide)) ht28) (fun v w29 hR30 => ?_)
 obtain ⟨A32, c33, H34, A35, c36, rfl, hk_⟩ := hR30
 have hS31 := hS25.go w29 [blk g8 (.cells #[(sv A32 t27.1 c33)] 103 (0, 0)), rowO 109 encN_Row A32 c33 (tag H34 t27.1), poolO [nestO subN_Row H34 t27.1], blk g15 (.cells #[(sv A35 t27.2 c36)] 24 (0, 0)), rowO 3 encInt A35 c36 t27.2, blk g20 (.cells #[(.func (.func 105) #[] e1)] 138 (0, 0)), blk g5 (.cells #[(iv p1)] 3 (0, 0)), blk g2 (.cells #[(sv Aa p0 ca)] 22 (0, 0))] (hS26.call hk_ [5, 1, 0, 3, 4] [2, 6, 7] (fun g hg => fpL_sel g hg) (by decide) (by decide))
 refine ⟨trivial, ?_⟩
 refine WL.done rfl (WX.next (WC.seq (WC.region ?_)))
 refine seg 2 [.v (sv A32 t27.1 c33)] [4] [(4, (sv A32 t27.1 c33))] [.cell ⟨g8, 0, none⟩ (sv A32 t27.1 c33)] (fun fb => by kernel_rfl) rfl ⟨hS31.cell 0 rfl 0 rfl, trivial⟩ ?_
 refine WL.done rfl (WX.next ?_)
 refine WC.ret ?_
 injection hf with hf
 subst hf
 exact WX.ret_ [] (sv A32 t27.1 c33) [] (fun fb => by kernel_rfl) trivial ⟨_, rfl, A32, c33, H34, rfl, (hS31.sub [1, 2] (by decide)).noR⟩
theorem torus_rings_calls (k : Nat) (p0 : List Tile) (p1 : Int) (Aa : Option Addr) (ca : Nat) (r : (List Row)) (w : World) (hR0 : RO NoS w (rowR enc_Tile Aa ca p0)) (hf : torus_rings k p0 p1 = some r) :
  CallsR Tryz.prog 75 #[(sv Aa p0 ca), (iv p1)] w (fun v w' => ∃ (A1_ : Option Addr), ∃ (c1_ : Nat), ∃ (h1_ : Nat → HF), v = (sv A1_ r c1_) ∧ St NoS w w' [] [rowO 109 encN_Row A1_ c1_ (tag h1_ r), poolO [nestO subN_Row h1_ r]]) := by
 have hS : St NoS w w [rowR enc_Tile Aa ca p0] [] := St.init (ro_cons hR0 (ro_nil _ _))
 refine enter 27 Tryz.func75 rfl Tryz.ntmps75 rfl ?_
 unfold torus_rings at hf
 refine WC.seq (WC.region ?_)
 refine sg 1 [] [0, 1] [(0, (sv Aa p0 ca)), (1, (iv p1))] (by kernel_rfl) ?_
 refine WL.done rfl (WX.next (WC.seq (WC.region ?_)))
 refine sg 1 [] [0, 1, 5] [(0, (sv Aa p0 ca)), (1, (iv p1)), (5, (.slice none 0 0))] (by kernel_rfl) ?_
 refine WL.done rfl (WX.next (WC.seq (WC.seq (WC.region ?_))))
 refine sg 2 [] [5, 8, 9] [(5, (.slice none 0 0)), (8, (sv Aa p0 ca)), (9, (iv p1))] (by kernel_rfl) ?_
 obtain ⟨t8, ht9, hf⟩ := bind_some hf
 refine WL.call (some 10) 90 #[(sv Aa p0 ca), (iv p1)] (fun fb => by kernel_rfl) (rows_All_calls _ p0 p1 Aa ca t8 _ (hS.rd 0) ht9) (fun v w10 hR11 => ?_)
 obtain ⟨A13, c14, H15, rfl, hk_⟩ := hR11
 have hS12 := hS.go w10 [rowO 109 encN_Row A13 c14 (tag H15 t8), poolO [nestO subN_Row H15 t8]] (hS.call hk_ [] [] (fun g hg => hg.elim) (by simp) (by decide))
 refine ⟨trivial, ?_⟩
 refine sg 5 [] [5, 10, 11, 12] [(5, (.slice none 0 0)), (10, (sv A13 t8 c14)), (11, (iv (t8.length : Int))), (12, (iv 0))] (by kernel_rfl) ?_
 refine WL.done rfl (WX.next ?_)
 have hS16 := hS12.go w10 [rowO 109 encN_Row none 0 (tag h0 ([] : List Row)), rowO 109 encN_Row A13 c14 (tag H15 t8), poolO [nestO subN_Row H15 t8]] (hS12.nilrow 109 encN_Row)
 have hS17 := hS16.poolNil subN_Row h0
 have hS18 := hS16.go w10 [poolO [nestO subN_Row h0 ([] : List Row), nestO subN_Row H15 t8], rowO 109 encN_Row none 0 (tag h0 ([] : List Row)), rowO 109 encN_Row A13 c14 (tag H15 t8)] (hS17.poolMerge 0 3 rfl rfl [1, 2] (by decide) (by decide))
 obtain ⟨x27, hx28, hf⟩ := bind_some hf
 let e15 : Nat × Value := (11, (iv (t8.length : Int)))
 let e16 : Nat × Value := (10, (sv A13 t8 c14))
 let e20 : List Nat := [5, 10, 11, 12]
 refine WC.cutN (T := (List Row) × (Option Addr) × Nat × (Nat → HF)) (fun t => [(5, (sv t.2.1 t.1 t.2.2.1))]) (fun t w1 => St NoS w w1 [rowR enc_Tile Aa ca p0] [rowO 109 encN_Row t.2.1 t.2.2.1 (tag t.2.2.2 t.1), poolO [nestO subN_Row t.2.2.2 t.1]] ∧ x27 = t.1) (fun Kx27 => ?_) ?_
 ·
  refine WC.block ?_
  refine WC.loop (T := ((List Row) × Int) × (Option Addr) × Nat × (Nat → HF)) (fun t => [(5, (sv t.2.1 t.1.1 t.2.2.1)), e16, e15, (12, (iv t.1.2))]) (fun n t w1 => St NoS w w1 [rowR enc_Tile Aa ca p0] [rowO 109 encN_Row t.2.1 t.2.2.1 (tag t.2.2.2 t.1.1), poolO [nestO subN_Row t.2.2.2 t.1.1, nestO subN_Row H15 t8], rowO 109 encN_Row A13 c14 (tag H15 t8)] ∧ torus_rings.l0 n t.1.1 t.1.2 t8 = some x27) k ((([] : List Row), 0), none, 0, h0) e20 rfl ⟨(hS18.subR [0]).sub [1, 0, 2] (by decide), hx28⟩ ?_
  rintro k29 ⟨⟨l21, x23⟩, A19, c20, H22⟩ w30 ⟨hS31, hl32⟩
  let e13 := rdD t8 x23 z_Row
  let e21 := e13.South
  let e22 := e13.North
  let e8 : Array Value := #[(sv ((H15 x23.toNat 0).1) (e13.Cells) ((H15 x23.toNat 0).2)), (iv (e21.e0)), (iv (e21.e1)), (iv (e21.e2)), (iv (e21.e3)), (iv (e21.e4)), (iv (e21.e5)), (iv (e21.e6)), (iv (e21.e7)), (iv (e22.e0)), (iv (e22.e1)), (iv (e22.e2)), (iv (e22.e3)), (iv (e22.e4)), (iv (e22.e5)), (iv (e22.e6)), (iv (e22.e7)), (iv (e13.West)), (iv (e13.East))]
  let e9 := rdD t8 x23 z_Row
  let e10 := (adr A13).add ((x23).toNat * 19)
  let e11 := e9.South
  let e12 := e9.North
  let e14 := sv ((H15 x23.toNat 0).1) (e9.Cells) ((H15 x23.toNat 0).2)
  let e17 := hd1 ((H15 x23.toNat 0).1) ((H15 x23.toNat 0).2)
  let e18 := iv (e9.West)
  let e19 := iv (e9.East)
  let e23 : Nat × Value := (12, (iv x23))
  cases k29 with
  | zero => rw [torus_rings.l0] at hl32; cases hl32
  | succ k29 =>
   rw [torus_rings.l0] at hl32
   refine WC.seq (WC.region ?_)
   refine sg 1 [] [5, 10, 11, 12, 13] [(5, (sv A19 l21 c20)), e16, e15, e23, (13, (bv (decide (x23 < (t8.length : Int)))))] (by kernel_rfl) ?_
   refine WL.done rfl (WX.next (WC.seq ?_))
   rcases br_some hl32 with ⟨h33, hl32⟩ | ⟨h33, hl32⟩
   ·refine WC.condT2 (fun fb => by kernel_rfl) h33 ?_
    refine WC.skip (WX.next (WC.seq (WC.block (WC.seq (WC.region ?_)))))
    obtain ⟨h34, hl32⟩ := as_some hl32
    refine seg 2 [.v e14, .v (iv (e11.e0)), .v (iv (e11.e1)), .v (iv (e11.e2)), .v (iv (e11.e3)), .v (iv (e11.e4)), .v (iv (e11.e5)), .v (iv (e11.e6)), .v (iv (e11.e7)), .v (iv (e12.e0)), .v (iv (e12.e1)), .v (iv (e12.e2)), .v (iv (e12.e3)), .v (iv (e12.e4)), .v (iv (e12.e5)), .v (iv (e12.e6)), .v (iv (e12.e7)), .v e18, .v e19] [5, 10, 11, 12, 15] [(5, (sv A19 l21 c20)), e16, e15, e23, (15, (.agg e8))] [.idx A13 x23 t8.length, .cell e10 e14, .cell (e10.add 1) (iv (e11.e0)), .cell (e10.add 2) (iv (e11.e1)), .cell (e10.add 3) (iv (e11.e2)), .cell (e10.add 4) (iv (e11.e3)), .cell (e10.add 5) (iv (e11.e4)), .cell (e10.add 6) (iv (e11.e5)), .cell (e10.add 7) (iv (e11.e6)), .cell (e10.add 8) (iv (e11.e7)), .cell (e10.add 9) (iv (e12.e0)), .cell (e10.add 10) (iv (e12.e1)), .cell (e10.add 11) (iv (e12.e2)), .cell (e10.add 12) (iv (e12.e3)), .cell (e10.add 13) (iv (e12.e4)), .cell (e10.add 14) (iv (e12.e5)), .cell (e10.add 15) (iv (e12.e6)), .cell (e10.add 16) (iv (e12.e7)), .cell (e10.add 17) e18, .cell (e10.add 18) e19] (fun fb => by kernel_rfl) rfl ⟨nrow_adr (rowO.rd (hS31.own 2).1) h34.1 h34.2, nrow_cell (rowO.rd (hS31.own 2).1) z_Row h34.1 h34.2 0 rfl, nrow_cell (rowO.rd (hS31.own 2).1) z_Row h34.1 h34.2 1 rfl, nrow_cell (rowO.rd (hS31.own 2).1) z_Row h34.1 h34.2 2 rfl, nrow_cell (rowO.rd (hS31.own 2).1) z_Row h34.1 h34.2 3 rfl, nrow_cell (rowO.rd (hS31.own 2).1) z_Row h34.1 h34.2 4 rfl, nrow_cell (rowO.rd (hS31.own 2).1) z_Row h34.1 h34.2 5 rfl, nrow_cell (rowO.rd (hS31.own 2).1) z_Row h34.1 h34.2 6 rfl, nrow_cell (rowO.rd (hS31.own 2).1) z_Row h34.1 h34.2 7 rfl, nrow_cell (rowO.rd (hS31.own 2).1) z_Row h34.1 h34.2 8 rfl, nrow_cell (rowO.rd (hS31.own 2).1) z_Row h34.1 h34.2 9 rfl, nrow_cell (rowO.rd (hS31.own 2).1) z_Row h34.1 h34.2 10 rfl, nrow_cell (rowO.rd (hS31.own 2).1) z_Row h34.1 h34.2 11 rfl, nrow_cell (rowO.rd (hS31.own 2).1) z_Row h34.1 h34.2 12 rfl, nrow_cell (rowO.rd (hS31.own 2).1) z_Row h34.1 h34.2 13 rfl, nrow_cell (rowO.rd (hS31.own 2).1) z_Row h34.1 h34.2 14 rfl, nrow_cell (rowO.rd (hS31.own 2).1) z_Row h34.1 h34.2 15 rfl, nrow_cell (rowO.rd (hS31.own 2).1) z_Row h34.1 h34.2 16 rfl, nrow_cell (rowO.rd (hS31.own 2).1) z_Row h34.1 h34.2 17 rfl, nrow_cell (rowO.rd (hS31.own 2).1) z_Row h34.1 h34.2 18 rfl, trivial⟩ ?_
    refine WL.new hS31 7 [] (fun g => (pt g)) (.cells #[(.slice none 0 0), (iv 0), (iv 0), (iv 0), (iv 0), (iv 0), (iv 0), (iv 0), (iv 0), (iv 0), (iv 0), (iv 0), (iv 0), (iv 0), (iv 0), (iv 0), (iv 0), (iv 0), (iv 0)] 109 (0, 0)) [] (fun fb g => by kernel_rfl) trivial (fun g35 w36 hS37 => ?_)
    refine ⟨trivial, ?_⟩
    refine WL.store hS37 0 rfl [(0, e14), (1, (iv (e11.e0))), (2, (iv (e11.e1))), (3, (iv (e11.e2))), (4, (iv (e11.e3))), (5, (iv (e11.e4))), (6, (iv (e11.e5))), (7, (iv (e11.e6))), (8, (iv (e11.e7))), (9, (iv (e12.e0))), (10, (iv (e12.e1))), (11, (iv (e12.e2))), (12, (iv (e12.e3))), (13, (iv (e12.e4))), (14, (iv (e12.e5))), (15, (iv (e12.e6))), (16, (iv (e12.e7))), (17, e18), (18, e19)] e8 (fun fb => by kernel_rfl) (by kernel_rfl) (by kernel_rfl) [1, 2, 3] (by decide) (by decide) (fun w38 hS39 => ?_)
    refine ⟨trivial, ?_⟩
    refine WL.done rfl (WX.next (WC.seq (WC.region ?_)))
    refine seg 5 [.v e18, .v e19] [5, 7, 10, 11, 12, 20] [(5, (sv A19 l21 c20)), (7, (pt g35)), e16, e15, e23, (20, (bv ((e9.West) == (e9.East))))] [.cell ⟨g35, 17, none⟩ e18, .cell ⟨g35, 18, none⟩ e19] (fun fb => by kernel_rfl) rfl ⟨hS39.cell 0 rfl 17 rfl, hS39.cell 0 rfl 18 rfl, trivial⟩ ?_
    refine WL.done rfl (WX.next ?_)
    obtain ⟨x43, hx44, hl32⟩ := bind_some hl32
    refine WC.cutN (T := (List Row) × (Option Addr) × Nat × (Nat → HF)) (fun t => [(5, (sv t.2.1 t.1 t.2.2.1)), e16, e15, e23]) (fun t w1 => St NoS w w1 [rowR enc_Tile Aa ca p0] [rowO 109 encN_Row t.2.1 t.2.2.1 (tag t.2.2.2 t.1), poolO [nestO subN_Row t.2.2.2 t.1, nestO subN_Row H15 t8], rowO 109 encN_Row A13 c14 (tag H15 t8)] ∧ x43 = t.1) (fun Kx43 => ?_) ?_
    ·
     rcases br_some hx44 with ⟨h45, hx44⟩ | ⟨h45, hx44⟩
     ·refine WC.condT2 (fun fb => by kernel_rfl) h45 ?_
      refine WC.region ?_
      refine seg 2 [.v e14, .v (iv (e11.e0)), .v (iv (e11.e1)), .v (iv (e11.e2)), .v (iv (e11.e3)), .v (iv (e11.e4)), .v (iv (e11.e5)), .v (iv (e11.e6)), .v (iv (e11.e7)), .v (iv (e12.e0)), .v (iv (e12.e1)), .v (iv (e12.e2)), .v (iv (e12.e3)), .v (iv (e12.e4)), .v (iv (e12.e5)), .v (iv (e12.e6)), .v (iv (e12.e7)), .v e18, .v e19] [10, 11, 12, 21, 22] [e16, e15, e23, (21, (sv A19 l21 c20)), (22, (.agg e8))] [.cell ⟨g35, 0, none⟩ e14, .cell ⟨g35, 1, none⟩ (iv (e11.e0)), .cell ⟨g35, 2, none⟩ (iv (e11.e1)), .cell ⟨g35, 3, none⟩ (iv (e11.e2)), .cell ⟨g35, 4, none⟩ (iv (e11.e3)), .cell ⟨g35, 5, none⟩ (iv (e11.e4)), .cell ⟨g35, 6, none⟩ (iv (e11.e5)), .cell ⟨g35, 7, none⟩ (iv (e11.e6)), .cell ⟨g35, 8, none⟩ (iv (e11.e7)), .cell ⟨g35, 9, none⟩ (iv (e12.e0)), .cell ⟨g35, 10, none⟩ (iv (e12.e1)), .cell ⟨g35, 11, none⟩ (iv (e12.e2)), .cell ⟨g35, 12, none⟩ (iv (e12.e3)), .cell ⟨g35, 13, none⟩ (iv (e12.e4)), .cell ⟨g35, 14, none⟩ (iv (e12.e5)), .cell ⟨g35, 15, none⟩ (iv (e12.e6)), .cell ⟨g35, 16, none⟩ (iv (e12.e7)), .cell ⟨g35, 17, none⟩ e18, .cell ⟨g35, 18, none⟩ e19] (fun fb => by kernel_rfl) rfl ⟨hS39.cell 0 rfl 0 rfl, hS39.cell 0 rfl 1 rfl, hS39.cell 0 rfl 2 rfl, hS39.cell 0 rfl 3 rfl, hS39.cell 0 rfl 4 rfl, hS39.cell 0 rfl 5 rfl, hS39.cell 0 rfl 6 rfl, hS39.cell 0 rfl 7 rfl, hS39.cell 0 rfl 8 rfl, hS39.cell 0 rfl 9 rfl, hS39.cell 0 rfl 10 rfl, hS39.cell 0 rfl 11 rfl, hS39.cell 0 rfl 12 rfl, hS39.cell 0 rfl 13 rfl, hS39.cell 0 rfl 14 rfl, hS39.cell 0 rfl 15 rfl, hS39.cell 0 rfl 16 rfl, hS39.cell 0 rfl 17 rfl, hS39.cell 0 rfl 18 rfl, trivial⟩ ?_
      refine WL.new hS39 23 [] (fun g => (.slice (some ⟨g, 0, none⟩) 1 1)) (.cells e8 109 (0, 0)) [] (fun fb g => by kernel_rfl) trivial (fun g46 w47 hS48 => ?_)
      refine ⟨trivial, ?_⟩
      have hS49 := hS18.go w47 [rowO 109 encN_Row (some ⟨g46, 0, none⟩) 1 [(e17, e9)], blk g35 (.cells e8 109 (0, 0)), rowO 109 encN_Row A19 c20 (tag H22 l21), poolO [nestO subN_Row H22 l21, nestO subN_Row H15 t8], rowO 109 encN_Row A13 c14 (tag H15 t8)] (hS48.map1 0 _ (fun h => rowO.ofBlk h rfl (Nat.le_of_ble_eq_true (by kernel_rfl))) (fun _ h => by obtain ⟨_, h1, h2⟩ := h; injection h1 with h1; subst h1; exact h2) [1, 2, 3, 4] (by decide) (by decide))
      obtain ⟨h50, hx44⟩ := as_some hx44
      refine WL.appendN hS49 2 (d := 24) (tS := 103) (z := (.agg #[(.slice none 0 0), (iv 0), (iv 0), (iv 0), (iv 0), (iv 0), (iv 0), (iv 0), (iv 0), (iv 0), (iv 0), (iv 0), (iv 0), (iv 0), (iv 0), (iv 0), (iv 0), (iv 0), (iv 0)])) (bytes := 168) (c2 := 1) (hx := e17) (x := e9) rfl (fun fb => by kernel_rfl) (rowO.rd (hS49.own 0).1) (by kernel_rfl) (by kernel_rfl) rfl (by decide) h50 (by decide) [0, 1, 3, 4] (by decide) (by decide) (fun A51 c52 w53 hS54 => ?_)
      have hS55 := hS49.go w53 [poolO [nestO subN_Row (updH H22 l21.length (hd1 ((H15 x23.toNat 0).1) ((H15 x23.toNat 0).2))) (l21 ++ [(rdD t8 x23 z_Row)]), nestO subN_Row H15 t8], rowO 109 encN_Row A51 c52 (tag (updH H22 l21.length (hd1 ((H15 x23.toNat 0).1) ((H15 x23.toNat 0).2))) (l21 ++ [(rdD t8 x23 z_Row)])), rowO 109 encN_Row (some ⟨g46, 0, none⟩) 1 [((hd1 ((H15 x23.toNat 0).1) ((H15 x23.toNat 0).2)), (rdD t8 x23 z_Row))], blk g35 (.cells #[(.slice ((H15 x23.toNat 0).1) ((rdD t8 x23 z_Row).Cells).length ((H15 x23.toNat 0).2)), (iv (((rdD t8 x23 z_Row).South).e0)), (iv (((rdD t8 x23 z_Row).South).e1)), (iv (((rdD t8 x23 z_Row).South).e2)), (iv (((rdD t8 x23 z_Row).South).e3)), (iv (((rdD t8 x23 z_Row).South).e4)), (iv (((rdD t8 x23 z_Row).South).e5)), (iv (((rdD t8 x23 z_Row).South).e6)), (iv (((rdD t8 x23 z_Row).South).e7)), (iv (((rdD t8 x23 z_Row).North).e0)), (iv (((rdD t8 x23 z_Row).North).e1)), (iv (((rdD t8 x23 z_Row).North).e2)), (iv (((rdD t8 x23 z_Row).North).e3)), (iv (((rdD t8 x23 z_Row).North).e4)), (iv (((rdD t8 x23 z_Row).North).e5)), (iv (((rdD t8 x23 z_Row).North).e6)), (iv (((rdD t8 x23 z_Row).North).e7)), (iv ((rdD t8 x23 z_Row).West)), (iv ((rdD t8 x23 z_Row).East))] 109 (0, 0)), rowO 109 encN_Row A13 c14 (tag H15 t8)] (hS54.poolPush 3 rfl 0 (by simp) rfl (hd1 ((H15 x23.toNat 0).1) ((H15 x23.toNat 0).2)) (rdD t8 x23 z_Row) (nestO.ro (poolO.ro (hS54.ow 3) 1) z_Row h34.1 h34.2) [] (fun g hg => ⟨3, by simp, ⟨1, ⟨_, _, rdD_at (d := z_Row) h34.1 h34.2, hg⟩⟩⟩) _ rfl [0, 1, 2, 4] (by decide) (by decide))
      refine ⟨trivial, ?_⟩
      refine sg 5 [] e20 [(5, (sv A51 (l21 ++ [e9]) c52)), e16, e15, e23] (by kernel_rfl) ?_
      refine WL.done rfl ?_
      injection hx44 with hx44
      exact WX.to Kx43 (l21 ++ [e9], A51, c52, (updH H22 l21.length e17)) e20 rfl ⟨(hS55.subR [0]).sub [1, 0, 4] (by decide), hx44.symm⟩
     refine WC.condF2 (fun fb => by kernel_rfl) h45 ?_
     refine WC.skip ?_
     injection hx44 with hx44
     exact WX.to Kx43 (l21, A19, c20, H22) e20 rfl ⟨(hS39.subR [0]).sub [1, 2, 3] (by decide), hx44.symm⟩
    rintro ⟨y59, A40, c41, H42⟩ w56 ⟨hS57, hq58⟩
    subst hq58
    refine WX.blockN (WX.next ?_)
    refine WC.region ?_
    refine sg 2 [] e20 [(5, (sv A40 x43 c41)), e16, e15, (12, (iv (w64 (x23 + 1))))] (by kernel_rfl) ?_
    refine WL.done rfl ?_
    exact WX.again k29 (Nat.lt_succ_self _) ((x43, w64 (x23 + 1)), A40, c41, H42) e20 rfl ⟨(hS57.subR [0]).sub [0, 1, 2] (by decide), hl32⟩
   refine WC.condF2 (fun fb => by kernel_rfl) h33 ?_
   refine WC.exit ?_
   have hS60 := hS18.go w30 [poolO [nestO subN_Row H22 l21], rowO 109 encN_Row A19 c20 (tag H22 l21), rowO 109 encN_Row A13 c14 (tag H15 t8)] (hS31.poolSub 1 rfl [0] [0, 2] (by decide) (by decide))
   injection hl32 with hl32
   exact WX.thenX (WX.thenX (WX.blockHere (WX.to Kx27 (l21, A19, c20, H22) [5] rfl ⟨(hS60.subR [0]).sub [1, 0] (by decide), hl32.symm⟩)))
 rintro ⟨y65, A24, c25, H26⟩ w61 ⟨hS62, hq63⟩
 subst hq63
 refine WX.next (WC.seq (WC.region ?_))
 refine sg 2 [] [4] [(4, (sv A24 x27 c25))] (by kernel_rfl) ?_
 refine WL.done rfl (WX.next ?_)
 refine WC.ret ?_
 injection hf with hf
 subst hf
 exact WX.ret_ [] (sv A24 x27 c25) [] (fun fb => by kernel_rfl) trivial ⟨_, rfl, A24, c25, H26, rfl, (hS62.sub [0, 1] (by decide)).noR⟩
end Gp
