/- Walks: each function of the program computes its plain function. -/
import Derived.Test.YtfehljifahnipaaGreatDoorGx3
set_option linter.unusedVariables false
set_option linter.unusedSimpArgs false
set_option maxHeartbeats 4000000
set_option maxRecDepth 8000
namespace Gp
open Go Gw Go.Proofs
theorem weight_Row_calls (k : Nat) (p0 : List Tile) (p1 : Weights) (p2 : List Int) (Aa : Option Addr) (ca : Nat) (Ab : Option Addr) (cb : Nat) (Ac : Option Addr) (cc : Nat) (Ad : Option Addr) (cd : Nat) (Ae : Option Addr) (ce : Nat) (Af : Option Addr) (cf : Nat) (Ag : Option Addr) (cg : Nat) (r : Frac × Frac × Int) (w : World) (hR0 : RO NoS w (rowR enc_Tile Aa ca p0)) (hR1 : RO NoS w (rowR enc_Frac Ab cb p1.Values)) (hR2 : RO NoS w (rowR enc_Frac Ac cc p1.Carries)) (hR3 : RO NoS w (rowR enc_Frac Ad cd p1.Factors)) (hR4 : RO NoS w (rowR encInt Ae ce p1.Primes)) (hR5 : RO NoS w (rowR encInt Af cf p1.Logs)) (hR6 : RO NoS w (rowR encInt Ag cg p2)) (hf : weight_Row k p0 p1 p2 = some r) :
  CallsR Tryz.prog 14 #[(sv Aa p0 ca), (.agg #[(sv Ab p1.Values cb), (sv Ac p1.Carries cc), (sv Ad p1.Factors cd), (sv Ae p1.Primes ce), (sv Af p1.Logs cf)]), (sv Ag p2 cg)] w (fun v w' => v = (.tuple #[(.agg #[(iv r.1.Num), (iv r.1.Den)]), (.agg #[(iv r.2.1.Num), (iv r.2.1.Den)]), (iv r.2.2)]) ∧ Keeps NoS w w') := by
 have hS : St NoS w w [rowR enc_Tile Aa ca p0, rowR enc_Frac Ab cb p1.Values, rowR enc_Frac Ac cc p1.Carries, rowR enc_Frac Ad cd p1.Factors, rowR encInt Ae ce p1.Primes, rowR encInt Af cf p1.Logs, rowR encInt Ag cg p2] [] := St.init (ro_cons hR0 (ro_cons hR1 (ro_cons hR2 (ro_cons hR3 (ro_cons hR4 (ro_cons hR5 (ro_cons hR6 (ro_nil _ _))))))))
 refine enter 133 Tryz.func14 rfl Tryz.ntmps14 rfl ?_
 unfold weight_Row at hf
 refine WC.seq (WC.region ?_)
 refine WL.new hS 4 [] (fun g => (pt g)) (.cells #[(sv Ab p1.Values cb), (sv Ac p1.Carries cc), (sv Ad p1.Factors cd), (sv Ae p1.Primes ce), (sv Af p1.Logs cf)] 26 (0, 0)) [] (fun fb g => by kernel_rfl) trivial (fun g7 w8 hS9 => ?_)
 refine ⟨trivial, ?_⟩
 refine WL.new hS9 6 [] (fun g => (pt g)) (.cells #[(iv 0), (iv 0)] 33 (0, 0)) [] (fun fb g => by kernel_rfl) trivial (fun g10 w11 hS12 => ?_)
 refine ⟨trivial, ?_⟩
 refine WL.new hS12 7 [] (fun g => (pt g)) (.cells #[(iv 0), (iv 0)] 33 (0, 0)) [] (fun fb g => by kernel_rfl) trivial (fun g13 w15 hS16 => ?_)
 refine ⟨trivial, ?_⟩
 refine sg 4 [] [0, 2, 4, 6, 7] [(0, (sv Aa p0 ca)), (2, (sv Ag p2 cg)), (4, (pt g7)), (6, (pt g10)), (7, (pt g13))] (by kernel_rfl) ?_
 refine WL.done rfl (WX.next (WC.seq (WC.seq (WC.region ?_))))
 refine seg 2 [.v (sv Ab p1.Values cb), .v (sv Ac p1.Carries cc), .v (sv Ad p1.Factors cd), .v (sv Ae p1.Primes ce), .v (sv Af p1.Logs cf)] [0, 2, 4, 6, 7, 18, 19] [(0, (sv Aa p0 ca)), (2, (sv Ag p2 cg)), (4, (pt g7)), (6, (pt g10)), (7, (pt g13)), (18, (sv Aa p0 ca)), (19, (.agg #[(sv Ab p1.Values cb), (sv Ac p1.Carries cc), (sv Ad p1.Factors cd), (sv Ae p1.Primes ce), (sv Af p1.Logs cf)]))] [.cell ⟨g7, 0, none⟩ (sv Ab p1.Values cb), .cell ⟨g7, 1, none⟩ (sv Ac p1.Carries cc), .cell ⟨g7, 2, none⟩ (sv Ad p1.Factors cd), .cell ⟨g7, 3, none⟩ (sv Ae p1.Primes ce), .cell ⟨g7, 4, none⟩ (sv Af p1.Logs cf)] (fun fb => by kernel_rfl) rfl ⟨hS16.cell 2 rfl 0 rfl, hS16.cell 2 rfl 1 rfl, hS16.cell 2 rfl 2 rfl, hS16.cell 2 rfl 3 rfl, hS16.cell 2 rfl 4 rfl, trivial⟩ ?_
 obtain ⟨t17, ht18, hf⟩ := bind_some hf
 refine WL.call (some 20) 12 #[(sv Aa p0 ca), (.agg #[(sv Ab p1.Values cb), (sv Ac p1.Carries cc), (sv Ad p1.Factors cd), (sv Ae p1.Primes ce), (sv Af p1.Logs cf)])] (fun fb => by kernel_rfl) (weight_Valid_calls _ p0 p1 Aa ca Ab cb Ac cc Ad cd Ae ce Af cf t17 _ (hS16.rd 0) (hS16.rd 1) (hS16.rd 2) (hS16.rd 3) (hS16.rd 4) (hS16.rd 5) ht18) (fun v w19 hR20 => ?_)
 obtain ⟨rfl, hk_⟩ := hR20
 have hS21 := hS16.keepN hk_
 refine ⟨trivial, ?_⟩
 refine sg 4 [] [0, 2, 4, 6, 7, 21] [(0, (sv Aa p0 ca)), (2, (sv Ag p2 cg)), (4, (pt g7)), (6, (pt g10)), (7, (pt g13)), (21, (bv (!t17)))] (by kernel_rfl) ?_
 refine WL.done rfl (WX.next ?_)
 let e33 : Array Value := #[(iv 0), (iv 0)]
 rcases br_some hf with ⟨h22, hf⟩ | ⟨h22, hf⟩
 ·refine WC.condT2 (fun fb => by kernel_rfl) h22 ?_
  refine WC.seq (WC.region ?_)
  refine sg 2 [] [6, 7, 22, 23] [(6, (pt g10)), (7, (pt g13)), (22, (.agg e33)), (23, (.agg e33))] (by kernel_rfl) ?_
  refine WL.store hS21 1 rfl [(0, (iv 0)), (1, (iv 0))] e33 (fun fb => by kernel_rfl) (by kernel_rfl) rfl [0, 2] (by decide) (by decide) (fun w23 hS24 => ?_)
  refine ⟨trivial, ?_⟩
  refine WL.store hS24 1 rfl [(0, (iv 0)), (1, (iv 0))] e33 (fun fb => by kernel_rfl) (by kernel_rfl) rfl [0, 2] (by decide) (by decide) (fun w25 hS26 => ?_)
  refine ⟨trivial, ?_⟩
  refine sg 5 [] [6, 7, 8] [(6, (pt g10)), (7, (pt g13)), (8, (iv 1))] (by kernel_rfl) ?_
  refine WL.done rfl (WX.next ?_)
  refine WC.ret ?_
  injection hf with hf
  subst hf
  exact WX.thenR (WX.ret_ [.v (iv 0), .v (iv 0), .v (iv 0), .v (iv 0)] (.tuple #[(.agg e33), (.agg e33), (iv 1)]) [.cell ⟨g10, 0, none⟩ (iv 0), .cell ⟨g10, 1, none⟩ (iv 0), .cell ⟨g13, 0, none⟩ (iv 0), .cell ⟨g13, 1, none⟩ (iv 0)] (fun fb => by kernel_rfl) ⟨hS26.cell 1 rfl 0 rfl, hS26.cell 1 rfl 1 rfl, hS26.cell 0 rfl 0 rfl, hS26.cell 0 rfl 1 rfl, trivial⟩ ⟨_, rfl, rfl, hS26.keep⟩)
 refine WC.condF2 (fun fb => by kernel_rfl) h22 ?_
 refine WC.skip (WX.next (WC.seq (WC.seq (WC.region ?_))))
 refine sg 4 [] [0, 2, 4, 6, 7, 27] [(0, (sv Aa p0 ca)), (2, (sv Ag p2 cg)), (4, (pt g7)), (6, (pt g10)), (7, (pt g13)), (27, (bv (decide ((p2.length : Int) < 1))))] (by kernel_rfl) ?_
 refine WL.cutV (T := Bool) 8 (fun t => [(31, (bv t)), (0, (sv Aa p0 ca)), (2, (sv Ag p2 cg)), (4, (pt g7)), (6, (pt g10)), (7, (pt g13))]) (fun t => ((decide ((p2.length : Int) < 1)) || (decide ((p2.length : Int) > 40000))) = t) (fun K => ?_) ?_
 ·
  rcases Bool.eq_false_or_eq_true (decide ((p2.length : Int) < 1)) with h27 | h27
  ·
   refine WL.setB 27 h27 rfl ?_
   refine sg 8 [] [0, 2, 4, 6, 7, 31] [(0, (sv Aa p0 ca)), (2, (sv Ag p2 cg)), (4, (pt g7)), (6, (pt g10)), (7, (pt g13)), (31, (bv true))] (by kernel_rfl) ?_
   exact WL.toV K true [31, 0, 2, 4, 6, 7] rfl (by first | (rw [h27]; done) | (rw [h27]; rfl))
  refine WL.setB 27 h27 rfl ?_
  refine sg 8 [] [0, 2, 4, 6, 7, 31] [(0, (sv Aa p0 ca)), (2, (sv Ag p2 cg)), (4, (pt g7)), (6, (pt g10)), (7, (pt g13)), (31, (bv (decide ((p2.length : Int) > 40000))))] (by kernel_rfl) ?_
  exact WL.toV K (decide ((p2.length : Int) > 40000)) [31, 0, 2, 4, 6, 7] rfl (by first | (rw [h27]; done) | (rw [h27]; rfl))
 rintro b28 rfl
 refine WL.done rfl (WX.next ?_)
 rcases br_some hf with ⟨h29, hf⟩ | ⟨h29, hf⟩
 ·refine WC.condT2 (fun fb => by kernel_rfl) h29 ?_
  refine WC.seq (WC.region ?_)
  refine sg 2 [] [6, 7, 32, 33] [(6, (pt g10)), (7, (pt g13)), (32, (.agg e33)), (33, (.agg e33))] (by kernel_rfl) ?_
  refine WL.store hS21 1 rfl [(0, (iv 0)), (1, (iv 0))] e33 (fun fb => by kernel_rfl) (by kernel_rfl) rfl [0, 2] (by decide) (by decide) (fun w30 hS31 => ?_)
  refine ⟨trivial, ?_⟩
  refine WL.store hS31 1 rfl [(0, (iv 0)), (1, (iv 0))] e33 (fun fb => by kernel_rfl) (by kernel_rfl) rfl [0, 2] (by decide) (by decide) (fun w32 hS33 => ?_)
  refine ⟨trivial, ?_⟩
  refine sg 5 [] [6, 7, 8] [(6, (pt g10)), (7, (pt g13)), (8, (iv 2))] (by kernel_rfl) ?_
  refine WL.done rfl (WX.next ?_)
  refine WC.ret ?_
  injection hf with hf
  subst hf
  exact WX.thenR (WX.ret_ [.v (iv 0), .v (iv 0), .v (iv 0), .v (iv 0)] (.tuple #[(.agg e33), (.agg e33), (iv 2)]) [.cell ⟨g10, 0, none⟩ (iv 0), .cell ⟨g10, 1, none⟩ (iv 0), .cell ⟨g13, 0, none⟩ (iv 0), .cell ⟨g13, 1, none⟩ (iv 0)] (fun fb => by kernel_rfl) ⟨hS33.cell 1 rfl 0 rfl, hS33.cell 1 rfl 1 rfl, hS33.cell 0 rfl 0 rfl, hS33.cell 0 rfl 1 rfl, trivial⟩ ⟨_, rfl, rfl, hS33.keep⟩)
 refine WC.condF2 (fun fb => by kernel_rfl) h29 ?_
 refine WC.skip (WX.next (WC.seq (WC.seq (WC.region ?_))))
 refine sg 3 [] [0, 2, 4, 6, 7, 34, 35, 36] [(0, (sv Aa p0 ca)), (2, (sv Ag p2 cg)), (4, (pt g7)), (6, (pt g10)), (7, (pt g13)), (34, (sv Ag p2 cg)), (35, (iv (p2.length : Int))), (36, (iv 0))] (by kernel_rfl) ?_
 refine WL.done rfl (WX.next ?_)
 obtain ⟨x35, hx36, hf⟩ := bind_some hf
 let e21 : List Nat := [0, 1, 2, 3, 4, 5, 6, 7, 8, 9, 10, 11]
 let e1 := [[], [0], [0, 1], [0, 1, 2], [0, 1, 2], [0, 1, 2, 4], [0, 1, 2, 3, 4, 5], [0, 1, 2, 3, 4, 5, 6], [0, 1, 2, 3, 4, 5, 6, 7], [0, 1, 2, 3, 4, 5, 6, 7, 8], [0, 1, 2, 3, 4, 5, 6, 7, 8, 9], [0, 1, 2, 3, 4, 5, 6, 7, 8, 9, 10], e21, e21, e21, [0, 1, 2, 3, 4, 5, 6, 7, 8, 9, 10, 11, 14], [0, 1, 2, 3, 4, 5, 6, 7, 8, 9, 10, 11, 13, 14, 15], [0, 1, 2, 3, 4, 5, 6, 7, 8, 9, 10, 11, 13, 14, 15, 16], [0, 1, 2, 3, 4, 5, 6, 7, 8, 9, 10, 11, 12, 13, 14, 15, 16, 17], [0, 1, 2, 3, 4, 5, 6, 7, 8, 9, 10, 11, 12, 13, 14, 15, 16, 17, 18], [0, 1, 2, 3, 4, 5, 6, 7, 8, 9, 10, 11, 12, 13, 14, 15, 16, 17, 18, 19], e21, e21, [0, 1, 2, 3, 4, 5, 6, 7, 8, 9, 10, 11, 21, 22], [0, 1, 2, 3, 4, 5, 6, 7, 8, 9, 10, 11, 21, 22, 23], [0, 1, 2, 3, 4, 5, 6, 7, 8, 9, 10, 11, 21, 22, 23, 24], [0, 1, 2, 3, 4, 5, 6, 7, 8, 9, 10, 11, 12, 13, 14, 15, 16, 17, 18, 19, 20, 21, 22, 23, 24, 25], [0, 1, 2, 3, 4, 5, 6, 7, 8, 9, 10, 11, 12, 13, 14, 15, 16, 17, 18, 19, 20, 21, 22, 23, 24, 25, 26], [0, 1, 2, 3, 4, 5, 6, 7, 8, 9, 10, 11, 12, 13, 14, 15, 16, 17, 18, 19, 20, 21, 22, 23, 24, 25, 26, 27]]
 let e2 : List Nat := [0, 1, 2, 3, 4, 5, 6, 7, 8, 9, 10, 11, 12, 13, 14, 15, 16, 17, 18, 19, 20, 21, 22, 23, 24, 25, 26, 27, 28]
 let e3 : Nat × Value := (35, (iv (p2.length : Int)))
 let e4 : List Own := [rowR enc_Tile Aa ca p0, rowR enc_Frac Ab cb p1.Values, rowR enc_Frac Ac cc p1.Carries, rowR enc_Frac Ad cd p1.Factors, rowR encInt Ae ce p1.Primes, rowR encInt Af cf p1.Logs, rowR encInt Ag cg p2]
 let e5 := sv Ag p2 cg
 let e8 : Nat × Value := (0, (sv Aa p0 ca))
 let e10 : Array Value := #[(sv Ab p1.Values cb), (sv Ac p1.Carries cc), (sv Ad p1.Factors cd), (sv Ae p1.Primes ce), (sv Af p1.Logs cf)]
 let e11 : Nat × Value := (6, (pt g10))
 let e12 : Nat × Value := (7, (pt g13))
 let e13 : List Nat := [0, 2, 4, 6, 7, 34, 35, 36, 69]
 let e16 : Nat × Value := (4, (pt g7))
 let e18 : Array Value := e33
 let e24 : List Nat := [0, 1, 2, 3, 4, 5, 6]
 let e25 : List Nat := [0, 2, 4, 6, 7, 9, 10, 34, 35, 36, 43]
 let e34 : List Nat := [0, 2, 4, 6, 7, 9, 10, 34, 35, 36, 49]
 refine WC.cutN (T := Unit) (fun t => [e8, (2, e5), e16, e11, e12]) (fun t w1 => St NoS w w1 e4 [blk g7 (.cells e10 26 (0, 0)), blk g10 (.cells e18 33 (0, 0)), blk g13 (.cells e18 33 (0, 0))] ∧ x35 = .inr t) (fun Kx35 => ?_) ?_
 ·
  refine WC.block ?_
  refine WC.loop (T := Int) (fun t => [e8, (2, e5), e16, e11, e12, (34, e5), e3, (36, (iv t))]) (fun n t w1 => St NoS w w1 e4 [blk g7 (.cells e10 26 (0, 0)), blk g10 (.cells e18 33 (0, 0)), blk g13 (.cells e18 33 (0, 0))] ∧ weight_Row.l0 n t p0 p2 = some x35) k 0 [0, 2, 4, 6, 7, 34, 35, 36] rfl ⟨(hS21.subR e24).sub [2, 1, 0] (by decide), hx36⟩ ?_
  rintro k37 x34 w38 ⟨hS39, hl40⟩
  let e7 : List (Nat × Addr × Value) := [(17, ((adr Ag).add ((w64 (x34 - 1)).toNat * 1)), (iv (rdD p2 (w64 (x34 - 1)) 0))), (20, (((adr Aa).add (((rdD p2 (w64 (x34 - 1)) 0)).toNat * 4)).add 1), (iv ((rdD p0 (rdD p2 (w64 (x34 - 1)) 0) z_Tile).E))), (25, (((adr Aa).add (((rdD p2 x34 0)).toNat * 4)).add 3), (iv ((rdD p0 (rdD p2 x34 0) z_Tile).W)))]
  let e9 := rdD p2 x34 0
  let e14 : Nat × Value := (36, (iv x34))
  let e26 := rdD p2 (w64 (x34 - 1)) 0
  let e27 : Nat × Value := (9, (iv x34))
  let e28 : Nat × Value := (10, (iv e9))
  cases k37 with
  | zero => rw [weight_Row.l0] at hl40; cases hl40
  | succ k37 =>
   rw [weight_Row.l0] at hl40
   refine WC.seq (WC.region ?_)
   refine sg 1 [] [0, 2, 4, 6, 7, 34, 35, 36, 37] [e8, (2, e5), e16, e11, e12, (34, e5), e3, e14, (37, (bv (decide (x34 < (p2.length : Int)))))] (by kernel_rfl) ?_
   refine WL.done rfl (WX.next (WC.seq ?_))
   rcases br_some hl40 with ⟨h41, hl40⟩ | ⟨h41, hl40⟩
   ·refine WC.condT2 (fun fb => by kernel_rfl) h41 ?_
    refine WC.skip (WX.next (WC.seq (WC.block (WC.seq (WC.region ?_)))))
    refine sg 1 [] [0, 2, 4, 6, 7, 34, 35, 36, 38] [e8, (2, e5), e16, e11, e12, (34, e5), e3, e14, (38, (iv x34))] (by kernel_rfl) ?_
    obtain ⟨h42, hl40⟩ := as_some hl40
    refine seg 5 [.v (iv e9)] [0, 2, 4, 6, 7, 9, 10, 34, 35, 36] [e8, (2, e5), e16, e11, e12, e27, e28, (34, e5), e3, e14] [.idx Ag x34 p2.length, .cell ((adr Ag).add ((x34).toNat * 1)) (iv e9)] (fun fb => by kernel_rfl) rfl ⟨rowR.adr (hS39.rd 6).1 h42.1 h42.2, rowR.cell (hS39.rd 6).1 0 h42.1 h42.2 0 rfl, trivial⟩ ?_
    refine WL.done rfl (WX.next (WC.seq ?_))
    obtain ⟨x43, hx44, hl40⟩ := bind_some hl40
    refine WC.cutN (T := Bool) (fun t => [e8, (2, e5), e16, e11, e12, (34, e5), e3, e14, (69, (bv t))]) (fun t w1 => St NoS w w1 e4 [blk g7 (.cells e10 26 (0, 0)), blk g10 (.cells e18 33 (0, 0)), blk g13 (.cells e18 33 (0, 0))] ∧ x43 = t) (fun Kx43 => ?_) ?_
    ·
     rcases br_some hx44 with ⟨h45, hx44⟩ | ⟨h45, hx44⟩
     ·
      refine WC.regionD ([], e2, e1) [e2] (by kernel_rfl) (by kernel_rfl) (NoPanic.seq (NoPanic.block (NoPanic.seq (NoPanic.seq (NoPanic.block (NoPanic.seq (NoPanic.body))))))) ?_
      have hS47 := hS39.drew
      revert hS47
      generalize World.drew w38 = w46
      intro hS47
      refine ⟨trivial, forallC ?_ (forallN)⟩
      refine sg 3 [] e25 [e8, (2, e5), e16, e11, e12, e27, e28, (34, e5), e3, e14, (43, (bv (decide (e9 < 0))))] (by kernel_rfl) ?_
      refine WL.setB 43 h45 rfl ?_
      refine sg 29 [] e13 [e8, (2, e5), e16, e11, e12, (34, e5), e3, e14, (69, (bv true))] (by kernel_rfl) ?_
      refine WL.done rfl ?_
      injection hx44 with hx44
      exact WX.to Kx43 true e13 rfl ⟨(hS47.subR e24).sub [0, 1, 2] (by decide), hx44.symm⟩
     rcases br_some hx44 with ⟨h48, hx44⟩ | ⟨h48, hx44⟩
     ·
      refine WC.regionD ([], e2, e1) [e2] (by kernel_rfl) (by kernel_rfl) (NoPanic.seq (NoPanic.block (NoPanic.seq (NoPanic.seq (NoPanic.block (NoPanic.seq (NoPanic.body))))))) ?_
      have hS50 := hS39.drew
      revert hS50
      generalize World.drew w38 = w49
      intro hS50
      refine ⟨trivial, forallC ?_ (forallN)⟩
      refine sg 3 [] e25 [e8, (2, e5), e16, e11, e12, e27, e28, (34, e5), e3, e14, (43, (bv (decide (e9 < 0))))] (by kernel_rfl) ?_
      refine WL.setB 43 h45 rfl ?_
      refine sg 9 [] e34 [e8, (2, e5), e16, e11, e12, e27, e28, (34, e5), e3, e14, (49, (bv (decide (e9 ≥ (p0.length : Int)))))] (by kernel_rfl) ?_
      refine WL.setB 49 h48 rfl ?_
      refine sg 29 [] e13 [e8, (2, e5), e16, e11, e12, (34, e5), e3, e14, (69, (bv true))] (by kernel_rfl) ?_
      refine WL.done rfl ?_
      injection hx44 with hx44
      exact WX.to Kx43 true e13 rfl ⟨(hS50.subR e24).sub [0, 1, 2] (by decide), hx44.symm⟩
     rcases br_some hx44 with ⟨h51, hx44⟩ | ⟨h51, hx44⟩
     ·
      obtain ⟨h54, hx44⟩ := as_some hx44
      obtain ⟨h55, hx44⟩ := as_some hx44
      obtain ⟨h56, hx44⟩ := as_some hx44
      refine WC.regionD (e7, e2, e1) [e2] (by kernel_rfl) (by kernel_rfl) (NoPanic.seq (NoPanic.block (NoPanic.seq (NoPanic.seq (NoPanic.block (NoPanic.seq (NoPanic.body))))))) ?_
      have hS53 := hS39.drew
      revert hS53
      generalize World.drew w38 = w52
      intro hS53
      refine ⟨⟨rowR.cell (hS53.rd 6).1 0 h54.1 h54.2 0 rfl, rowR.cell (hS53.rd 0).1 z_Tile h55.1 h55.2 1 rfl, rowR.cell (hS53.rd 0).1 z_Tile h56.1 h56.2 3 rfl, trivial⟩, forallC ?_ (forallN)⟩
      refine sg 3 [] e25 [e8, (2, e5), e16, e11, e12, e27, e28, (34, e5), e3, e14, (43, (bv (decide (e9 < 0))))] (by kernel_rfl) ?_
      refine WL.setB 43 h45 rfl ?_
      refine sg 9 [] e34 [e8, (2, e5), e16, e11, e12, e27, e28, (34, e5), e3, e14, (49, (bv (decide (e9 ≥ (p0.length : Int)))))] (by kernel_rfl) ?_
      refine WL.setB 49 h48 rfl ?_
      refine sg 12 [] [0, 2, 4, 6, 7, 9, 10, 34, 35, 36, 49, 52] [e8, (2, e5), e16, e11, e12, e27, e28, (34, e5), e3, e14, (49, (bv false)), (52, (bv (decide (x34 > 0))))] (by kernel_rfl) ?_
      refine WL.setB 52 h51 rfl ?_
      refine segF 29 [.v (iv e26), .v (iv ((rdD p0 e26 z_Tile).E)), .v (iv ((rdD p0 e9 z_Tile).W))] e13 [e8, (2, e5), e16, e11, e12, (34, e5), e3, e14, (69, (bv (((rdD p0 e26 z_Tile).E) != ((rdD p0 e9 z_Tile).W))))] [.idx Ag (w64 (x34 - 1)) p2.length, .idx Aa e26 p0.length, .idx Aa e9 p0.length] [0, 1, 2] e7 (fun fb => by kernel_rfl) rfl ⟨rowR.adr (hS53.rd 6).1 h54.1 h54.2, rowR.adr (hS53.rd 0).1 h55.1 h55.2, rowR.adr (hS53.rd 0).1 h56.1 h56.2, trivial⟩ rfl ?_
      refine WL.done rfl ?_
      injection hx44 with hx44
      exact WX.to Kx43 (((rdD p0 e26 z_Tile).E) != ((rdD p0 e9 z_Tile).W)) e13 rfl ⟨(hS53.subR e24).sub [0, 1, 2] (by decide), hx44.symm⟩
     refine WC.regionD ([], e2, e1) [e2] (by kernel_rfl) (by kernel_rfl) (NoPanic.seq (NoPanic.block (NoPanic.seq (NoPanic.seq (NoPanic.block (NoPanic.seq (NoPanic.body))))))) ?_
     have hS58 := hS39.drew
     revert hS58
     generalize World.drew w38 = w57
     intro hS58
     refine ⟨trivial, forallC ?_ (forallN)⟩
     refine sg 3 [] e25 [e8, (2, e5), e16, e11, e12, e27, e28, (34, e5), e3, e14, (43, (bv (decide (e9 < 0))))] (by kernel_rfl) ?_
     refine WL.setB 43 h45 rfl ?_
     refine sg 9 [] e34 [e8, (2, e5), e16, e11, e12, e27, e28, (34, e5), e3, e14, (49, (bv (decide (e9 ≥ (p0.length : Int)))))] (by kernel_rfl) ?_
     refine WL.setB 49 h48 rfl ?_
     refine sg 12 [] [0, 2, 4, 6, 7, 9, 10, 34, 35, 36, 49, 52] [e8, (2, e5), e16, e11, e12, e27, e28, (34, e5), e3, e14, (49, (bv false)), (52, (bv (decide (x34 > 0))))] (by kernel_rfl) ?_
     refine WL.setB 52 h51 rfl ?_
     refine sg 29 [] e13 [e8, (2, e5), e16, e11, e12, (34, e5), e3, e14, (69, (bv false))] (by kernel_rfl) ?_
     refine WL.done rfl ?_
     injection hx44 with hx44
     exact WX.to Kx43 false e13 rfl ⟨(hS58.subR e24).sub [0, 1, 2] (by decide), hx44.symm⟩
    rintro y62 w59 ⟨hS60, hq61⟩
    subst hq61
    refine WX.next ?_
    rcases br_some hl40 with ⟨h63, hl40⟩ | ⟨h63, hl40⟩
    ·refine WC.condT2 (fun fb => by kernel_rfl) h63 ?_
     refine WC.seq (WC.region ?_)
     refine sg 2 [] [6, 7, 70, 71] [e11, e12, (70, (.agg e18)), (71, (.agg e18))] (by kernel_rfl) ?_
     refine WL.store hS60 1 rfl [(0, (iv 0)), (1, (iv 0))] e18 (fun fb => by kernel_rfl) (by kernel_rfl) rfl [0, 2] (by decide) (by decide) (fun w65 hS66 => ?_)
     refine ⟨trivial, ?_⟩
     refine WL.store hS66 2 rfl [(0, (iv 0)), (1, (iv 0))] e18 (fun fb => by kernel_rfl) (by kernel_rfl) rfl [0, 1] (by decide) (by decide) (fun w67 hS68 => ?_)
     refine ⟨trivial, ?_⟩
     refine sg 5 [] [6, 7, 8] [e11, e12, (8, (iv 2))] (by kernel_rfl) ?_
     refine WL.done rfl (WX.next ?_)
     refine WC.ret ?_
     injection hl40 with hl40
     subst hl40
     injection hf with hf
     subst hf
     exact WX.blockR (WX.thenR (WX.thenR (WX.blockR (WX.thenR (WX.ret_ [.v (iv 0), .v (iv 0), .v (iv 0), .v (iv 0)] (.tuple #[(.agg e18), (.agg e18), (iv 2)]) [.cell ⟨g10, 0, none⟩ (iv 0), .cell ⟨g10, 1, none⟩ (iv 0), .cell ⟨g13, 0, none⟩ (iv 0), .cell ⟨g13, 1, none⟩ (iv 0)] (fun fb => by kernel_rfl) ⟨hS68.cell 1 rfl 0 rfl, hS68.cell 1 rfl 1 rfl, hS68.cell 0 rfl 0 rfl, hS68.cell 0 rfl 1 rfl, trivial⟩ ⟨_, rfl, rfl, hS68.keep⟩)))))
    refine WC.condF2 (fun fb => by kernel_rfl) h63 ?_
    refine WC.skip ?_
    refine WX.blockN (WX.next ?_)
    refine WC.region ?_
    refine sg 2 [] [0, 2, 4, 6, 7, 34, 35, 36] [e8, (2, e5), e16, e11, e12, (34, e5), e3, (36, (iv (w64 (x34 + 1))))] (by kernel_rfl) ?_
    refine WL.done rfl ?_
    exact WX.again k37 (Nat.lt_succ_self _) (w64 (x34 + 1)) [0, 2, 4, 6, 7, 34, 35, 36] rfl ⟨(hS60.subR e24).sub [0, 1, 2] (by decide), hl40⟩
   refine WC.condF2 (fun fb => by kernel_rfl) h41 ?_
   refine WC.exit ?_
   injection hl40 with hl40
   exact WX.thenX (WX.thenX (WX.blockHere (WX.to Kx35 () [0, 2, 4, 6, 7] rfl ⟨(hS39.subR e24).sub [0, 1, 2] (by decide), hl40.symm⟩)))
 rintro y72 w69 ⟨hS70, hq71⟩
 subst hq71
 have hf := sum_inr hf
 refine WX.next (WC.seq (WC.region ?_))
 refine seg 2 [.v (sv Ab p1.Values cb)] [0, 2, 4, 6, 7, 75] [e8, (2, e5), e16, e11, e12, (75, (sv Ab p1.Values cb))] [.cell ⟨g7, 0, none⟩ (sv Ab p1.Values cb)] (fun fb => by kernel_rfl) rfl ⟨hS70.cell 0 rfl 0 rfl, trivial⟩ ?_
 obtain ⟨t73, ht74, hf⟩ := bind_some hf
 refine WL.call (some 76) 48 #[(sv Ab p1.Values cb)] (fun fb => by kernel_rfl) (weight_common_calls _ p1.Values Ab cb t73 _ (hS70.rd 1) ht74) (fun v w75 hR76 => ?_)
 obtain ⟨rfl, hk_⟩ := hR76
 have hS77 := hS70.keepN hk_
 refine ⟨trivial, ?_⟩
 refine sg 6 [] [0, 2, 4, 6, 7, 77, 78] [e8, (2, e5), e16, e11, e12, (77, (iv t73.1)), (78, (bv t73.2))] (by kernel_rfl) ?_
 refine WL.new hS77 11 [] (fun g => (pt g)) (.cells #[(iv 0)] 3 (0, 0)) [] (fun fb g => by kernel_rfl) trivial (fun g78 w79 hS80 => ?_)
 refine ⟨trivial, ?_⟩
 refine WL.store hS80 0 rfl [(0, (iv t73.1))] #[(iv t73.1)] (fun fb => by kernel_rfl) (by kernel_rfl) rfl [1, 2, 3] (by decide) (by decide) (fun w81 hS82 => ?_)
 refine ⟨trivial, ?_⟩
 refine sg 9 [] [0, 2, 4, 6, 7, 11, 12] [e8, (2, e5), e16, e11, e12, (11, (pt g78)), (12, (bv t73.2))] (by kernel_rfl) ?_
 refine WL.done rfl (WX.next (WC.seq (WC.seq (WC.region ?_))))
 refine sg 2 [] [0, 2, 4, 6, 7, 11, 80] [e8, (2, e5), e16, e11, e12, (11, (pt g78)), (80, (bv (!t73.2)))] (by kernel_rfl) ?_
 refine WL.done rfl (WX.next ?_)
 rcases br_some hf with ⟨h83, hf⟩ | ⟨h83, hf⟩
 ·refine WC.condT2 (fun fb => by kernel_rfl) h83 ?_
  refine WC.seq (WC.region ?_)
  refine sg 2 [] [6, 7, 81, 82] [e11, e12, (81, (.agg e18)), (82, (.agg e18))] (by kernel_rfl) ?_
  refine WL.store hS82 2 rfl [(0, (iv 0)), (1, (iv 0))] e18 (fun fb => by kernel_rfl) (by kernel_rfl) rfl [0, 1, 3] (by decide) (by decide) (fun w84 hS85 => ?_)
  refine ⟨trivial, ?_⟩
  refine WL.store hS85 3 rfl [(0, (iv 0)), (1, (iv 0))] e18 (fun fb => by kernel_rfl) (by kernel_rfl) rfl [0, 1, 2] (by decide) (by decide) (fun w86 hS87 => ?_)
  refine ⟨trivial, ?_⟩
  refine sg 5 [] [6, 7, 8] [e11, e12, (8, (iv 4))] (by kernel_rfl) ?_
  refine WL.done rfl (WX.next ?_)
  refine WC.ret ?_
  injection hf with hf
  subst hf
  exact WX.thenR (WX.ret_ [.v (iv 0), .v (iv 0), .v (iv 0), .v (iv 0)] (.tuple #[(.agg e18), (.agg e18), (iv 4)]) [.cell ⟨g10, 0, none⟩ (iv 0), .cell ⟨g10, 1, none⟩ (iv 0), .cell ⟨g13, 0, none⟩ (iv 0), .cell ⟨g13, 1, none⟩ (iv 0)] (fun fb => by kernel_rfl) ⟨hS87.cell 1 rfl 0 rfl, hS87.cell 1 rfl 1 rfl, hS87.cell 0 rfl 0 rfl, hS87.cell 0 rfl 1 rfl, trivial⟩ ⟨_, rfl, rfl, hS87.keep⟩)
 refine WC.condF2 (fun fb => by kernel_rfl) h83 ?_
 refine WC.skip (WX.next (WC.seq ?_))
 obtain ⟨x90, hx91, hf⟩ := bind_some hf
 let e19 := iv t73.1
 let e23 : List (Nat × Addr × Value) := [(0, ⟨g78, 0, none⟩, e19), (2, ⟨g78, 0, none⟩, e19)]
 let e31 : Array Value := #[(iv 0), e19]
 let e36 : List (Nat × Value) := [(0, (iv 0)), (1, e19)]
 refine WC.cutN (T := (Int × Int × Int × Int) × Nat × Nat) (fun t => [e8, (2, e5), e16, e11, e12, (11, (pt g78)), (13, (.pointer (some ⟨t.2.1, 0, none⟩))), (14, (.pointer (some ⟨t.2.2, 0, none⟩)))]) (fun t w1 => St NoS w w1 e4 [blk g7 (.cells e10 26 (0, 0)), blk g10 (.cells e18 33 (0, 0)), blk g13 (.cells e18 33 (0, 0)), blk g78 (.cells #[e19] 3 (0, 0)), blk t.2.1 (.cells #[(iv t.1.1), (iv t.1.2.1)] 63 (0, 0)), blk t.2.2 (.cells #[(iv t.1.2.2.1), (iv t.1.2.2.2)] 63 (0, 0))] ∧ x90 = t.1) (fun Kx90 => ?_) ?_
 ·
  refine WC.regionD (e23, [0, 1, 2, 3], [[], [0], [], [2], [], [], [0, 1, 4, 5], e24]) [[0, 1, 2, 3, 4, 5, 6, 7], [0, 1, 2, 3, 5, 4, 6, 7]] (by kernel_rfl) (by kernel_rfl) (NoPanic.seq (NoPanic.body)) ?_
  have hS93 := hS82.drew
  revert hS93
  generalize World.drew w81 = w92
  intro hS93
  refine ⟨⟨hS93.cell 0 rfl 0 rfl, hS93.cell 0 rfl 0 rfl, trivial⟩, forallC ?_ (forallC ?_ (forallN))⟩
  ·
   refine segF 4 [.v e19, .v e19] [0, 2, 4, 6, 7, 11, 84, 86] [e8, (2, e5), e16, e11, e12, (11, (pt g78)), (84, (.agg e31)), (86, (.agg e31))] [] [0, 1] e23 (fun fb => by kernel_rfl) rfl trivial rfl ?_
   refine WL.new hS93 13 [] (fun g => (pt g)) (.cells e18 63 (0, 0)) [] (fun fb g => by kernel_rfl) trivial (fun g94 w95 hS96 => ?_)
   refine ⟨⟨hS96.cell 1 rfl 0 rfl, hS96.cell 1 rfl 0 rfl, trivial⟩, ?_⟩
   refine WL.new hS96 14 [] (fun g => (pt g)) (.cells e18 63 (0, 0)) [] (fun fb g => by kernel_rfl) trivial (fun g97 w98 hS99 => ?_)
   refine ⟨⟨hS99.cell 2 rfl 0 rfl, hS99.cell 2 rfl 0 rfl, trivial⟩, ?_⟩
   refine WL.store hS99 1 rfl e36 e31 (fun fb => by kernel_rfl) (by kernel_rfl) rfl [0, 2, 3, 4, 5] (by decide) (by decide) (fun w100 hS101 => ?_)
   refine ⟨⟨hS101.cell 2 rfl 0 rfl, trivial⟩, ?_⟩
   refine WL.store hS101 1 rfl e36 e31 (fun fb => by kernel_rfl) (by kernel_rfl) rfl [0, 2, 3, 4, 5] (by decide) (by decide) (fun w102 hS103 => ?_)
   refine ⟨trivial, ?_⟩
   refine WL.done rfl ?_
   injection hx91 with hx91
   exact WX.to Kx90 ((0, t73.1, 0, t73.1), g94, g97) [0, 2, 4, 6, 7, 11, 13, 14] rfl ⟨(hS103.subR e24).sub [3, 4, 5, 2, 1, 0] (by decide), hx91.symm⟩
  refine segF 4 [.v e19, .v e19] [0, 2, 4, 6, 7, 11, 84, 86] [e8, (2, e5), e16, e11, e12, (11, (pt g78)), (84, (.agg e31)), (86, (.agg e31))] [] [0, 1] e23 (fun fb => by kernel_rfl) rfl trivial rfl ?_
  refine WL.new hS93 14 [] (fun g => (pt g)) (.cells e18 63 (0, 0)) [] (fun fb g => by kernel_rfl) trivial (fun g104 w105 hS106 => ?_)
  refine ⟨⟨hS106.cell 1 rfl 0 rfl, hS106.cell 1 rfl 0 rfl, trivial⟩, ?_⟩
  refine WL.new hS106 13 [] (fun g => (pt g)) (.cells e18 63 (0, 0)) [] (fun fb g => by kernel_rfl) trivial (fun g107 w108 hS109 => ?_)
  refine ⟨⟨hS109.cell 2 rfl 0 rfl, hS109.cell 2 rfl 0 rfl, trivial⟩, ?_⟩
  refine WL.store hS109 0 rfl e36 e31 (fun fb => by kernel_rfl) (by kernel_rfl) rfl [1, 2, 3, 4, 5] (by decide) (by decide) (fun w110 hS111 => ?_)
  refine ⟨⟨hS111.cell 2 rfl 0 rfl, trivial⟩, ?_⟩
  refine WL.store hS111 1 rfl e36 e31 (fun fb => by kernel_rfl) (by kernel_rfl) rfl [0, 2, 3, 4, 5] (by decide) (by decide) (fun w112 hS113 => ?_)
  refine ⟨trivial, ?_⟩
  refine WL.done rfl ?_
  injection hx91 with hx91
  exact WX.to Kx90 ((0, t73.1, 0, t73.1), g107, g104) [0, 2, 4, 6, 7, 11, 13, 14] rfl ⟨(hS113.subR e24).sub [3, 4, 5, 2, 1, 0] (by decide), hx91.symm⟩
 rintro ⟨y117, g88, g89⟩ w114 ⟨hS115, hq116⟩
 subst hq116
 refine WX.next (WC.seq (WC.region ?_))
 refine sg 2 [] [0, 2, 6, 7, 13, 14, 15] [e8, (2, e5), e11, e12, (13, (pt g88)), (14, (pt g89)), (15, (.func (.func 49) #[] #[(pt g7), (pt g78)]))] (by kernel_rfl) ?_
 refine WL.done rfl (WX.next (WC.seq (WC.seq (WC.region ?_))))
 refine sg 3 [] [0, 6, 7, 13, 14, 15, 88, 89, 90] [e8, e11, e12, (13, (pt g88)), (14, (pt g89)), (15, (.func (.func 49) #[] #[(pt g7), (pt g78)])), (88, e5), (89, (iv (p2.length : Int))), (90, (iv 0))] (by kernel_rfl) ?_
 refine WL.done rfl (WX.next ?_)
 obtain ⟨x121, hx122, hf⟩ := bind_some hf
 let e15 : Nat × Value := (89, (iv (p2.length : Int)))
 let e17 := [[], [0], [], [], [], [3, 4], [3, 4, 5], [3, 4, 5, 6], [2, 3, 4, 5, 6, 7], [0, 1, 2, 3, 4, 5, 6, 7, 8], [0, 1, 2, 3, 4, 5, 6, 7, 8, 9], [0, 1, 2, 3, 4, 5, 6, 7, 8, 9, 10]]
 let e20 : Array Value := #[(pt g7), (pt g78)]
 let e29 : Nat × Value := (13, (pt g88))
 let e30 : Nat × Value := (14, (pt g89))
 let e37 : List Nat := [0, 6, 7, 13, 14, 15, 88, 89, 90]
 refine WC.cutN (T := Int × Int) (fun t => [e11, e12, e29, e30]) (fun t w1 => St NoS w w1 e4 [blk g10 (.cells e18 33 (0, 0)), blk g13 (.cells e18 33 (0, 0)), blk g88 (.cells #[(iv t.1), (iv x90.2.1)] 63 (0, 0)), blk g89 (.cells #[(iv t.2), (iv x90.2.2.2)] 63 (0, 0))] ∧ x121 = t) (fun Kx121 => ?_) ?_
 ·
  refine WC.block ?_
  refine WC.loop (T := Int × Int × Int) (fun t => [e8, e11, e12, e29, e30, (15, (.func (.func 49) #[] e20)), (88, e5), e15, (90, (iv t.2.2))]) (fun n t w1 => St NoS w w1 e4 [blk g10 (.cells e18 33 (0, 0)), blk g13 (.cells e18 33 (0, 0)), blk g88 (.cells #[(iv t.1), (iv x90.2.1)] 63 (0, 0)), blk g89 (.cells #[(iv t.2.1), (iv x90.2.2.2)] 63 (0, 0)), blk g7 (.cells e10 26 (0, 0)), blk g78 (.cells #[e19] 3 (0, 0))] ∧ weight_Row.l1 n t.1 t.2.1 t.2.2 p0 p1 p2 t73 = some x121) k (x90.1, x90.2.2.1, 0) e37 rfl ⟨(hS115.subR e24).sub [1, 2, 4, 5, 0, 3] (by decide), hx122⟩ ?_
  rintro k123 ⟨x118, x119, x120⟩ w124 ⟨hS125, hl126⟩
  let e6 := rdD p0 (rdD p2 x120 0) z_Tile
  let e22 := (adr Aa).add (((rdD p2 x120 0)).toNat * 4)
  let e32 := rdD p2 x120 0
  let e35 : List (Nat × Addr × Value) := [(1, ⟨g88, 0, none⟩, (iv x118)), (7, (e22.add 2), (iv (e6.S)))]
  let e38 : Nat × Value := (90, (iv x120))
  let e40 : List (Nat × Addr × Value) := [(1, ⟨g89, 0, none⟩, (iv x119)), (7, e22, (iv (e6.N)))]
  cases k123 with
  | zero => rw [weight_Row.l1] at hl126; cases hl126
  | succ k123 =>
   rw [weight_Row.l1] at hl126
   refine WC.seq (WC.region ?_)
   refine sg 1 [] [0, 6, 7, 13, 14, 15, 88, 89, 90, 91] [e8, e11, e12, e29, e30, (15, (.func (.func 49) #[] e20)), (88, e5), e15, e38, (91, (bv (decide (x120 < (p2.length : Int)))))] (by kernel_rfl) ?_
   refine WL.done rfl (WX.next (WC.seq ?_))
   rcases br_some hl126 with ⟨h127, hl126⟩ | ⟨h127, hl126⟩
   ·refine WC.condT2 (fun fb => by kernel_rfl) h127 ?_
    refine WC.skip (WX.next (WC.seq (WC.block (WC.seq (WC.region ?_)))))
    obtain ⟨h128, hl126⟩ := as_some hl126
    refine seg 3 [.v (iv e32)] [0, 6, 7, 13, 14, 15, 17, 88, 89, 90] [e8, e11, e12, e29, e30, (15, (.func (.func 49) #[] e20)), (17, (iv e32)), (88, e5), e15, e38] [.idx Ag x120 p2.length, .cell ((adr Ag).add ((x120).toNat * 1)) (iv e32)] (fun fb => by kernel_rfl) rfl ⟨rowR.adr (hS125.rd 6).1 h128.1 h128.2, rowR.cell (hS125.rd 6).1 0 h128.1 h128.2 0 rfl, trivial⟩ ?_
    refine WL.done rfl (WX.next (WC.seq ?_))
    obtain ⟨h131, hl126⟩ := as_some hl126
    refine WC.regionD (e35, [0, 1, 2, 3, 4, 5, 6, 7, 9, 10], e17) [e21] (by kernel_rfl) (by kernel_rfl) (NoPanic.seq (NoPanic.block (NoPanic.seq (NoPanic.seq (NoPanic.block (NoPanic.seq (NoPanic.body))))))) ?_
    have hS130 := hS125.drew
    revert hS130
    generalize World.drew w124 = w129
    intro hS130
    refine ⟨⟨hS130.cell 2 rfl 0 rfl, rowR.cell (hS130.rd 0).1 z_Tile h131.1 h131.2 2 rfl, trivial⟩, forallC ?_ (forallN)⟩
    refine segF 8 [.v (iv x118), .v (iv (e6.S))] [0, 6, 7, 13, 14, 15, 17, 88, 89, 90, 95, 96, 101] [e8, e11, e12, e29, e30, (15, (.func (.func 49) #[] e20)), (17, (iv e32)), (88, e5), e15, e38, (95, (iv x118)), (96, (.func (.func 49) #[] e20)), (101, (iv (e6.S)))] [.idx Aa e32 p0.length] [0, 1] e35 (fun fb => by kernel_rfl) rfl ⟨rowR.adr (hS130.rd 0).1 h131.1 h131.2, trivial⟩ rfl ?_
    obtain ⟨t132, ht133, hl126⟩ := bind_some hl126
    refine WL.call (some 102) 49 #[(iv (e6.S)), (pt g7), (pt g78)] (fun fb => by kernel_rfl) (weight_Row_1_calls _ (e6.S) p1 t73.1 g7 Ab cb Ac cc Ad cd Ae ce Af cf g78 t132 _ (hS130.ow 4) (hS130.rd 1) (hS130.rd 2) (hS130.rd 3) (hS130.rd 4) (hS130.rd 5) (hS130.ow 5) ht133) (fun v w134 hR135 => ?_)
    obtain ⟨rfl, hk_⟩ := hR135
    have hS136 := hS130.keepN hk_
    refine ⟨⟨hS136.cell 2 rfl 0 rfl, trivial⟩, ?_⟩
    refine sg 11 [] [0, 6, 7, 13, 14, 15, 17, 88, 89, 90, 103, 104] [e8, e11, e12, e29, e30, (15, (.func (.func 49) #[] e20)), (17, (iv e32)), (88, e5), e15, e38, (103, (iv (w64 (x118 + t132)))), (104, (pt g88))] (by kernel_rfl) ?_
    refine WL.store hS136 2 rfl [(0, (iv (w64 (x118 + t132))))] #[(iv (w64 (x118 + t132))), (iv x90.2.1)] (fun fb => by kernel_rfl) (by kernel_rfl) rfl [0, 1, 3, 4, 5] (by decide) (by decide) (fun w137 hS138 => ?_)
    refine ⟨trivial, ?_⟩
    refine WL.done rfl (WX.next ?_)
    refine WC.regionD (e40, [0, 1, 2, 3, 4, 5, 6, 7, 9, 10], e17) [e21] (by kernel_rfl) (by kernel_rfl) (NoPanic.block (NoPanic.seq (NoPanic.seq (NoPanic.block (NoPanic.seq (NoPanic.body)))))) ?_
    have hS140 := hS138.drew
    revert hS140
    generalize World.drew w137 = w139
    intro hS140
    refine ⟨⟨hS140.cell 3 rfl 0 rfl, rowR.cell (hS140.rd 0).1 z_Tile h131.1 h131.2 0 rfl, trivial⟩, forallC ?_ (forallN)⟩
    refine segF 8 [.v (iv x119), .v (iv (e6.N))] [0, 6, 7, 13, 14, 15, 88, 89, 90, 106, 107, 112] [e8, e11, e12, e29, e30, (15, (.func (.func 49) #[] e20)), (88, e5), e15, e38, (106, (iv x119)), (107, (.func (.func 49) #[] e20)), (112, (iv (e6.N)))] [.idx Aa e32 p0.length] [0, 1] e40 (fun fb => by kernel_rfl) rfl ⟨rowR.adr (hS140.rd 0).1 h131.1 h131.2, trivial⟩ rfl ?_
    obtain ⟨t141, ht142, hl126⟩ := bind_some hl126
    refine WL.call (some 113) 49 #[(iv (e6.N)), (pt g7), (pt g78)] (fun fb => by kernel_rfl) (weight_Row_1_calls _ (e6.N) p1 t73.1 g7 Ab cb Ac cc Ad cd Ae ce Af cf g78 t141 _ (hS140.ow 4) (hS140.rd 1) (hS140.rd 2) (hS140.rd 3) (hS140.rd 4) (hS140.rd 5) (hS140.ow 5) ht142) (fun v w143 hR144 => ?_)
    obtain ⟨rfl, hk_⟩ := hR144
    have hS145 := hS140.keepN hk_
    refine ⟨⟨hS145.cell 3 rfl 0 rfl, trivial⟩, ?_⟩
    refine sg 11 [] [0, 6, 7, 13, 14, 15, 88, 89, 90, 114, 115] [e8, e11, e12, e29, e30, (15, (.func (.func 49) #[] e20)), (88, e5), e15, e38, (114, (iv (w64 (x119 + t141)))), (115, (pt g89))] (by kernel_rfl) ?_
    refine WL.store hS145 3 rfl [(0, (iv (w64 (x119 + t141))))] #[(iv (w64 (x119 + t141))), (iv x90.2.2.2)] (fun fb => by kernel_rfl) (by kernel_rfl) rfl [0, 1, 2, 4, 5] (by decide) (by decide) (fun w146 hS147 => ?_)
    refine ⟨trivial, ?_⟩
    refine WL.done rfl ?_
    refine WX.blockN (WX.next ?_)
    refine WC.region ?_
    refine sg 2 [] e37 [e8, e11, e12, e29, e30, (15, (.func (.func 49) #[] e20)), (88, e5), e15, (90, (iv (w64 (x120 + 1))))] (by kernel_rfl) ?_
    refine WL.done rfl ?_
    exact WX.again k123 (Nat.lt_succ_self _) (w64 (x118 + t132), w64 (x119 + t141), w64 (x120 + 1)) e37 rfl ⟨(hS147.subR e24).sub [2, 3, 1, 0, 4, 5] (by decide), hl126⟩
   refine WC.condF2 (fun fb => by kernel_rfl) h127 ?_
   refine WC.exit ?_
   injection hl126 with hl126
   exact WX.thenX (WX.thenX (WX.blockHere (WX.to Kx121 (x118, x119) [6, 7, 13, 14] rfl ⟨(hS125.subR e24).sub [0, 1, 2, 3] (by decide), hl126.symm⟩)))
 rintro y151 w148 ⟨hS149, hq150⟩
 subst hq150
 refine WX.next (WC.seq ?_)
 refine WC.regionD ([(0, ⟨g88, 0, none⟩, (iv x121.1)), (0, ⟨g88, 1, none⟩, (iv x90.2.1)), (2, ⟨g89, 0, none⟩, (iv x121.2)), (2, ⟨g89, 1, none⟩, (iv x90.2.2.2))], [0, 2], [[], [0], [], [0, 1, 2], [0, 1, 2, 3], [0, 1, 2, 3, 4]]) [[0, 2, 1, 3, 4, 5]] (by kernel_rfl) (by kernel_rfl) (NoPanic.seq (NoPanic.body)) ?_
 have hS153 := hS149.drew
 revert hS153
 generalize World.drew w148 = w152
 intro hS153
 refine ⟨⟨hS153.cell 2 rfl 0 rfl, hS153.cell 2 rfl 1 rfl, hS153.cell 3 rfl 0 rfl, hS153.cell 3 rfl 1 rfl, trivial⟩, forallC ?_ (forallN)⟩
 refine segF 2 [.v (iv x121.1), .v (iv x90.2.1), .v (iv x121.2), .v (iv x90.2.2.2)] [6, 7, 13, 14, 117, 119] [e11, e12, e29, e30, (117, (.agg #[(iv x121.1), (iv x90.2.1)])), (119, (.agg #[(iv x121.2), (iv x90.2.2.2)]))] [] [0, 1, 2, 3] [(0, ⟨g88, 0, none⟩, (iv x121.1)), (0, ⟨g88, 1, none⟩, (iv x90.2.1)), (2, ⟨g89, 0, none⟩, (iv x121.2)), (2, ⟨g89, 1, none⟩, (iv x90.2.2.2))] (fun fb => by kernel_rfl) rfl trivial rfl ?_
 obtain ⟨t154, ht155, hf⟩ := bind_some hf
 refine WL.call (some 118) 50 #[(.agg #[(iv x121.1), (iv x90.2.1)])] (fun fb => by kernel_rfl) (weight_fraction_lowest_calls _ (Fraction.mk x121.1 x90.2.1) t154 _ ht155) (fun v w156 hR157 => ?_)
 obtain ⟨rfl, hk_⟩ := hR157
 have hS158 := hS153.keepN hk_
 refine ⟨⟨hS158.cell 3 rfl 0 rfl, hS158.cell 3 rfl 1 rfl, trivial⟩, ?_⟩
 obtain ⟨t159, ht160, hf⟩ := bind_some hf
 refine WL.call (some 120) 50 #[(.agg #[(iv x121.2), (iv x90.2.2.2)])] (fun fb => by kernel_rfl) (weight_fraction_lowest_calls _ (Fraction.mk x121.2 x90.2.2.2) t159 _ ht160) (fun v w161 hR162 => ?_)
 obtain ⟨rfl, hk_⟩ := hR162
 have hS163 := hS158.keepN hk_
 refine ⟨trivial, ?_⟩
 refine WL.store hS163 2 rfl [(0, (iv t154.Num)), (1, (iv t154.Den))] #[(iv t154.Num), (iv t154.Den)] (fun fb => by kernel_rfl) (by kernel_rfl) rfl [0, 1, 3] (by decide) (by decide) (fun w164 hS165 => ?_)
 refine ⟨trivial, ?_⟩
 refine WL.store hS165 3 rfl [(0, (iv t159.Num)), (1, (iv t159.Den))] #[(iv t159.Num), (iv t159.Den)] (fun fb => by kernel_rfl) (by kernel_rfl) rfl [0, 1, 2] (by decide) (by decide) (fun w166 hS167 => ?_)
 refine ⟨trivial, ?_⟩
 refine WL.done rfl (WX.next (WC.seq (WC.seq (WC.region ?_))))
 refine seg 1 [.v (iv t154.Num), .v (iv t154.Den)] [6, 7, 13, 14, 121] [e11, e12, e29, e30, (121, (.agg #[(iv t154.Num), (iv t154.Den)]))] [.cell ⟨g88, 0, none⟩ (iv t154.Num), .cell ⟨g88, 1, none⟩ (iv t154.Den)] (fun fb => by kernel_rfl) rfl ⟨hS167.cell 1 rfl 0 rfl, hS167.cell 1 rfl 1 rfl, trivial⟩ ?_
 obtain ⟨t168, ht169, hf⟩ := bind_some hf
 refine WL.call (some 122) 39 #[(.agg #[(iv t154.Num), (iv t154.Den)])] (fun fb => by kernel_rfl) (weight_fraction_valid_calls t154 t168 _ ht169) (fun v w170 hR171 => ?_)
 obtain ⟨rfl, hk_⟩ := hR171
 have hS172 := hS167.keepN hk_
 refine ⟨trivial, ?_⟩
 refine sg 4 [] [6, 7, 13, 14, 124] [e11, e12, e29, e30, (124, (bv (!t168)))] (by kernel_rfl) ?_
 obtain ⟨x173, hx174, hf⟩ := bind_some hf
 let e39 : Array Value := #[(iv t159.Num), (iv t159.Den)]
 refine WL.cutW (T := Bool) 8 (fun t => [e11, e12, e29, e30, (128, (bv t))]) (fun t w1 => (St NoS w w1 e4 [blk g10 (.cells e18 33 (0, 0)), blk g13 (.cells e18 33 (0, 0)), blk g88 (.cells #[(iv t154.Num), (iv t154.Den)] 63 (0, 0)), blk g89 (.cells e39 63 (0, 0))] ∧ x173 = t) ∧ CellsOK [] w1) (fun K => ?_) ?_
 ·
  rcases br_some hx174 with ⟨h175, hx174⟩ | ⟨h175, hx174⟩
  ·
   refine WL.setB 124 h175 rfl ?_
   refine sg 8 [] [6, 7, 13, 14, 128] [e11, e12, e29, e30, (128, (bv true))] (by kernel_rfl) ?_
   injection hx174 with hx174
   exact WL.to K true [6, 7, 13, 14, 128] rfl ⟨⟨(hS172.subR e24).sub [2, 3, 1, 0] (by decide), hx174.symm⟩, trivial⟩
  refine WL.setB 124 h175 rfl ?_
  refine seg 5 [.v (iv t159.Num), .v (iv t159.Den)] [6, 7, 13, 14, 124, 125] [e11, e12, e29, e30, (124, (bv false)), (125, (.agg e39))] [.cell ⟨g89, 0, none⟩ (iv t159.Num), .cell ⟨g89, 1, none⟩ (iv t159.Den)] (fun fb => by kernel_rfl) rfl ⟨hS172.cell 0 rfl 0 rfl, hS172.cell 0 rfl 1 rfl, trivial⟩ ?_
  obtain ⟨t176, ht177, hx174⟩ := bind_some hx174
  refine WL.call (some 126) 39 #[(.agg e39)] (fun fb => by kernel_rfl) (weight_fraction_valid_calls t159 t176 _ ht177) (fun v w178 hR179 => ?_)
  obtain ⟨rfl, hk_⟩ := hR179
  have hS180 := hS172.keepN hk_
  refine ⟨trivial, ?_⟩
  refine sg 8 [] [6, 7, 13, 14, 128] [e11, e12, e29, e30, (128, (bv (!t176)))] (by kernel_rfl) ?_
  injection hx174 with hx174
  exact WL.to K (!t176) [6, 7, 13, 14, 128] rfl ⟨⟨(hS180.subR e24).sub [2, 3, 1, 0] (by decide), hx174.symm⟩, trivial⟩
 rintro y181 w183 ⟨⟨hS184, hq182⟩, hF185⟩
 subst hq182
 refine WL.done rfl (WX.next ?_)
 rcases br_some hf with ⟨h186, hf⟩ | ⟨h186, hf⟩
 ·refine WC.condT2 (fun fb => by kernel_rfl) h186 ?_
  refine WC.seq (WC.region ?_)
  refine sg 2 [] [6, 7, 129, 130] [e11, e12, (129, (.agg e18)), (130, (.agg e18))] (by kernel_rfl) ?_
  refine WL.store hS184 0 rfl [(0, (iv 0)), (1, (iv 0))] e18 (fun fb => by kernel_rfl) (by kernel_rfl) rfl [1, 2, 3] (by decide) (by decide) (fun w187 hS188 => ?_)
  refine ⟨trivial, ?_⟩
  refine WL.store hS188 1 rfl [(0, (iv 0)), (1, (iv 0))] e18 (fun fb => by kernel_rfl) (by kernel_rfl) rfl [0, 2, 3] (by decide) (by decide) (fun w189 hS190 => ?_)
  refine ⟨trivial, ?_⟩
  refine sg 5 [] [6, 7, 8] [e11, e12, (8, (iv 4))] (by kernel_rfl) ?_
  refine WL.done rfl (WX.next ?_)
  refine WC.ret ?_
  injection hf with hf
  subst hf
  exact WX.thenR (WX.ret_ [.v (iv 0), .v (iv 0), .v (iv 0), .v (iv 0)] (.tuple #[(.agg e18), (.agg e18), (iv 4)]) [.cell ⟨g10, 0, none⟩ (iv 0), .cell ⟨g10, 1, none⟩ (iv 0), .cell ⟨g13, 0, none⟩ (iv 0), .cell ⟨g13, 1, none⟩ (iv 0)] (fun fb => by kernel_rfl) ⟨hS190.cell 1 rfl 0 rfl, hS190.cell 1 rfl 1 rfl, hS190.cell 0 rfl 0 rfl, hS190.cell 0 rfl 1 rfl, trivial⟩ ⟨_, rfl, rfl, hS190.keep⟩)
 refine WC.condF2 (fun fb => by kernel_rfl) h186 ?_
 refine WC.skip (WX.next (WC.seq ?_))
 refine WC.regionD ([(0, ⟨g88, 0, none⟩, (iv t154.Num)), (0, ⟨g88, 1, none⟩, (iv t154.Den)), (1, ⟨g89, 0, none⟩, (iv t159.Num)), (1, ⟨g89, 1, none⟩, (iv t159.Den))], [0, 1, 4], [[], [], [0], [0, 1, 2], [0, 1, 2, 3]]) [[0, 1, 2, 3, 4]] (by kernel_rfl) (by kernel_rfl) (NoPanic.seq (NoPanic.body)) ?_
 have hS192 := hS184.drew
 revert hS192
 generalize World.drew w183 = w191
 intro hS192
 refine ⟨⟨hS192.cell 2 rfl 0 rfl, hS192.cell 2 rfl 1 rfl, hS192.cell 3 rfl 0 rfl, hS192.cell 3 rfl 1 rfl, trivial⟩, forallC ?_ (forallN)⟩
 refine segF 2 [.v (iv t154.Num), .v (iv t154.Den), .v (iv t159.Num), .v (iv t159.Den)] [6, 7, 131, 132] [e11, e12, (131, (.agg #[(iv t154.Num), (iv t154.Den)])), (132, (.agg e39))] [] [0, 1, 2, 3] [(0, ⟨g88, 0, none⟩, (iv t154.Num)), (0, ⟨g88, 1, none⟩, (iv t154.Den)), (1, ⟨g89, 0, none⟩, (iv t159.Num)), (1, ⟨g89, 1, none⟩, (iv t159.Den))] (fun fb => by kernel_rfl) rfl trivial rfl ?_
 refine WL.store hS192 0 rfl [(0, (iv t154.Num)), (1, (iv t154.Den))] #[(iv t154.Num), (iv t154.Den)] (fun fb => by kernel_rfl) (by kernel_rfl) rfl [1, 2, 3] (by decide) (by decide) (fun w193 hS194 => ?_)
 refine ⟨⟨hS194.cell 3 rfl 0 rfl, hS194.cell 3 rfl 1 rfl, trivial⟩, ?_⟩
 refine WL.store hS194 1 rfl [(0, (iv t159.Num)), (1, (iv t159.Den))] e39 (fun fb => by kernel_rfl) (by kernel_rfl) rfl [0, 2, 3] (by decide) (by decide) (fun w195 hS196 => ?_)
 refine ⟨trivial, ?_⟩
 refine sg 5 [] [6, 7, 8] [e11, e12, (8, (iv 0))] (by kernel_rfl) ?_
 refine WL.done rfl (WX.next ?_)
 refine WC.ret ?_
 injection hf with hf
 subst hf
 exact WX.ret_ [.v (iv t154.Num), .v (iv t154.Den), .v (iv t159.Num), .v (iv t159.Den)] (.tuple #[(.agg #[(iv t154.Num), (iv t154.Den)]), (.agg e39), (iv 0)]) [.cell ⟨g10, 0, none⟩ (iv t154.Num), .cell ⟨g10, 1, none⟩ (iv t154.Den), .cell ⟨g13, 0, none⟩ (iv t159.Num), .cell ⟨g13, 1, none⟩ (iv t159.Den)] (fun fb => by kernel_rfl) ⟨hS196.cell 1 rfl 0 rfl, hS196.cell 1 rfl 1 rfl, hS196.cell 0 rfl 0 rfl, hS196.cell 0 rfl 1 rfl, trivial⟩ ⟨_, rfl, rfl, hS196.keep⟩
theorem law06_awake_calls (k : Nat)  (mG : Glo) (r : Bool) (w : World) (hR0 : RO NoS w (tabO 0 md0)) (hR1 : RO NoS w (gloO Tryz.prog 5 8 3 4 mG)) (hf : law06_awake k = some r) :
  CallsR Tryz.prog 10 #[] w (fun v w' => v = (bv r) ∧ Keeps NoS w w') := by
 have hS : St NoS w w [tabO 0 md0, gloO Tryz.prog 5 8 3 4 mG] [] := St.init (ro_cons hR0 (ro_cons hR1 (ro_nil _ _)))
 refine enter 88 Tryz.func10 rfl Tryz.ntmps10 rfl ?_
 unfold law06_awake at hf
 refine WC.seq (WC.region ?_)
 refine sg 1 [] [] [] (by kernel_rfl) ?_
 refine WL.done rfl (WX.next (WC.seq (WC.region ?_)))
 obtain ⟨t3, ht4, hf⟩ := bind_some hf
 refine WL.call (some 14) 26 #[(.string (⟨#[50, 46, 48, 46, 49, 46, 48]⟩ : ByteArray))] (fun fb => by kernel_rfl) (tile_Parse_calls _ (⟨#[50, 46, 48, 46, 49, 46, 48]⟩ : ByteArray) mG t3 _ (hS.rd 1) ht4) (fun v w5 hR7 => ?_)
 obtain ⟨A9, c11, rfl, hk_⟩ := hR7
 have hS8 := hS.go w5 [rowO 44 enc_Tile A9 c11 t3.1] (hS.call hk_ [] [] (fun g hg => hg.elim) (by simp) (by decide))
 refine ⟨trivial, ?_⟩
 refine sg 6 [] [1] [(1, (sv A9 t3.1 c11))] (by kernel_rfl) ?_
 refine WL.done rfl (WX.next (WC.seq (WC.region ?_)))
 obtain ⟨t12, ht13, hf⟩ := bind_some hf
 refine WL.call (some 18) 26 #[(.string (⟨#[49, 46, 48, 46, 49, 46, 48]⟩ : ByteArray))] (fun fb => by kernel_rfl) (tile_Parse_calls _ (⟨#[49, 46, 48, 46, 49, 46, 48]⟩ : ByteArray) mG t12 _ (hS8.rd 1) ht13) (fun v w14 hR15 => ?_)
 obtain ⟨A17, c18, rfl, hk_⟩ := hR15
 have hS16 := hS8.go w14 [rowO 44 enc_Tile A17 c18 t12.1, rowO 44 enc_Tile A9 c11 t3.1] (hS8.call hk_ [] [0] (fun g hg => hg.elim) (by simp) (by decide))
 refine ⟨trivial, ?_⟩
 refine sg 6 [] [1, 3] [(1, (sv A9 t3.1 c11)), (3, (sv A17 t12.1 c18))] (by kernel_rfl) ?_
 refine WL.done rfl (WX.next (WC.seq (WC.region ?_)))
 refine sg 3 [] [1, 3, 21, 22, 23] [(1, (sv A9 t3.1 c11)), (3, (sv A17 t12.1 c18)), (21, (.agg #[(iv 0), (iv 1)])), (22, (.agg #[(iv 1), (iv 1)])), (23, (.agg #[(iv 2), (iv 1)]))] (by kernel_rfl) ?_
 refine WL.new hS16 24 [] (fun g => (.slice (some ⟨g, 0, none⟩) 3 3)) (.cells #[(iv 0), (iv 1), (iv 1), (iv 1), (iv 2), (iv 1)] 33 (0, 0)) [] (fun fb g => by kernel_rfl) trivial (fun g19 w20 hS21 => ?_)
 refine ⟨trivial, ?_⟩
 have hS22 := hS16.go w20 [rowO 33 enc_Frac (some ⟨g19, 0, none⟩) 3 [(Frac.mk 0 1), (Frac.mk 1 1), (Frac.mk 2 1)], rowO 44 enc_Tile A17 c18 t12.1, rowO 44 enc_Tile A9 c11 t3.1] (hS21.map1 0 _ (fun h => rowO.ofBlk h rfl (Nat.le_of_ble_eq_true (by kernel_rfl))) (fun _ h => by obtain ⟨_, h1, h2⟩ := h; injection h1 with h1; subst h1; exact h2) [1, 2] (by decide) (by decide))
 refine sg 5 [] [1, 3, 24, 25] [(1, (sv A9 t3.1 c11)), (3, (sv A17 t12.1 c18)), (24, (sv (some ⟨g19, 0, none⟩) [(Frac.mk 0 1), (Frac.mk 1 1), (Frac.mk 2 1)] 3)), (25, (.agg #[(iv 0), (iv 1)]))] (by kernel_rfl) ?_
 refine WL.new hS22 26 [] (fun g => (.slice (some ⟨g, 0, none⟩) 1 1)) (.cells #[(iv 0), (iv 1)] 33 (0, 0)) [] (fun fb g => by kernel_rfl) trivial (fun g23 w24 hS25 => ?_)
 refine ⟨trivial, ?_⟩
 have hS26 := hS22.go w24 [rowO 33 enc_Frac (some ⟨g23, 0, none⟩) 1 [(Frac.mk 0 1)], rowO 33 enc_Frac (some ⟨g19, 0, none⟩) 3 [(Frac.mk 0 1), (Frac.mk 1 1), (Frac.mk 2 1)], rowO 44 enc_Tile A17 c18 t12.1, rowO 44 enc_Tile A9 c11 t3.1] (hS25.map1 0 _ (fun h => rowO.ofBlk h rfl (Nat.le_of_ble_eq_true (by kernel_rfl))) (fun _ h => by obtain ⟨_, h1, h2⟩ := h; injection h1 with h1; subst h1; exact h2) [1, 2, 3] (by decide) (by decide))
 refine sg 7 [] [1, 3, 24, 26, 27] [(1, (sv A9 t3.1 c11)), (3, (sv A17 t12.1 c18)), (24, (sv (some ⟨g19, 0, none⟩) [(Frac.mk 0 1), (Frac.mk 1 1), (Frac.mk 2 1)] 3)), (26, (sv (some ⟨g23, 0, none⟩) [(Frac.mk 0 1)] 1)), (27, (.agg #[(iv 2), (iv 1)]))] (by kernel_rfl) ?_
 refine WL.new hS26 28 [] (fun g => (.slice (some ⟨g, 0, none⟩) 1 1)) (.cells #[(iv 2), (iv 1)] 33 (0, 0)) [] (fun fb g => by kernel_rfl) trivial (fun g27 w28 hS29 => ?_)
 refine ⟨trivial, ?_⟩
 have hS30 := hS26.go w28 [rowO 33 enc_Frac (some ⟨g27, 0, none⟩) 1 [(Frac.mk 2 1)], rowO 33 enc_Frac (some ⟨g23, 0, none⟩) 1 [(Frac.mk 0 1)], rowO 33 enc_Frac (some ⟨g19, 0, none⟩) 3 [(Frac.mk 0 1), (Frac.mk 1 1), (Frac.mk 2 1)], rowO 44 enc_Tile A17 c18 t12.1, rowO 44 enc_Tile A9 c11 t3.1] (hS29.map1 0 _ (fun h => rowO.ofBlk h rfl (Nat.le_of_ble_eq_true (by kernel_rfl))) (fun _ h => by obtain ⟨_, h1, h2⟩ := h; injection h1 with h1; subst h1; exact h2) [1, 2, 3, 4] (by decide) (by decide))
 refine WL.new hS30 29 [] (fun g => (.slice (some ⟨g, 0, none⟩) 1 1)) (.cells #[(iv 2)] 3 (0, 0)) [] (fun fb g => by kernel_rfl) trivial (fun g31 w32 hS33 => ?_)
 refine ⟨trivial, ?_⟩
 have hS34 := hS30.go w32 [rowO 3 encInt (some ⟨g31, 0, none⟩) 1 [2], rowO 33 enc_Frac (some ⟨g27, 0, none⟩) 1 [(Frac.mk 2 1)], rowO 33 enc_Frac (some ⟨g23, 0, none⟩) 1 [(Frac.mk 0 1)], rowO 33 enc_Frac (some ⟨g19, 0, none⟩) 3 [(Frac.mk 0 1), (Frac.mk 1 1), (Frac.mk 2 1)], rowO 44 enc_Tile A17 c18 t12.1, rowO 44 enc_Tile A9 c11 t3.1] (hS33.map1 0 _ (fun h => rowO.ofBlk h rfl (Nat.le_of_ble_eq_true (by kernel_rfl))) (fun _ h => by obtain ⟨_, h1, h2⟩ := h; injection h1 with h1; subst h1; exact h2) [1, 2, 3, 4, 5] (by decide) (by decide))
 refine WL.new hS34 30 [] (fun g => (.slice (some ⟨g, 0, none⟩) 1 1)) (.cells #[(iv 1)] 3 (0, 0)) [] (fun fb g => by kernel_rfl) trivial (fun g35 w36 hS37 => ?_)
 refine ⟨trivial, ?_⟩
 have hS38 := hS34.go w36 [rowO 3 encInt (some ⟨g35, 0, none⟩) 1 [1], rowO 3 encInt (some ⟨g31, 0, none⟩) 1 [2], rowO 33 enc_Frac (some ⟨g27, 0, none⟩) 1 [(Frac.mk 2 1)], rowO 33 enc_Frac (some ⟨g23, 0, none⟩) 1 [(Frac.mk 0 1)], rowO 33 enc_Frac (some ⟨g19, 0, none⟩) 3 [(Frac.mk 0 1), (Frac.mk 1 1), (Frac.mk 2 1)], rowO 44 enc_Tile A17 c18 t12.1, rowO 44 enc_Tile A9 c11 t3.1] (hS37.map1 0 _ (fun h => rowO.ofBlk h rfl (Nat.le_of_ble_eq_true (by kernel_rfl))) (fun _ h => by obtain ⟨_, h1, h2⟩ := h; injection h1 with h1; subst h1; exact h2) [1, 2, 3, 4, 5, 6] (by decide) (by decide))
 refine sg 11 [] [1, 3, 31] [(1, (sv A9 t3.1 c11)), (3, (sv A17 t12.1 c18)), (31, (.agg #[(sv (some ⟨g19, 0, none⟩) [(Frac.mk 0 1), (Frac.mk 1 1), (Frac.mk 2 1)] 3), (sv (some ⟨g23, 0, none⟩) [(Frac.mk 0 1)] 1), (sv (some ⟨g27, 0, none⟩) [(Frac.mk 2 1)] 1), (sv (some ⟨g31, 0, none⟩) [2] 1), (sv (some ⟨g35, 0, none⟩) [1] 1)]))] (by kernel_rfl) ?_
 refine WL.new hS38 5 [] (fun g => (pt g)) (.cells #[(.slice none 0 0), (.slice none 0 0), (.slice none 0 0), (.slice none 0 0), (.slice none 0 0)] 26 (0, 0)) [] (fun fb g => by kernel_rfl) trivial (fun g39 w40 hS41 => ?_)
 refine ⟨trivial, ?_⟩
 refine WL.store hS41 0 rfl [(0, (sv (some ⟨g19, 0, none⟩) [(Frac.mk 0 1), (Frac.mk 1 1), (Frac.mk 2 1)] 3)), (1, (sv (some ⟨g23, 0, none⟩) [(Frac.mk 0 1)] 1)), (2, (sv (some ⟨g27, 0, none⟩) [(Frac.mk 2 1)] 1)), (3, (sv (some ⟨g31, 0, none⟩) [2] 1)), (4, (sv (some ⟨g35, 0, none⟩) [1] 1))] #[(sv (some ⟨g19, 0, none⟩) [(Frac.mk 0 1), (Frac.mk 1 1), (Frac.mk 2 1)] 3), (sv (some ⟨g23, 0, none⟩) [(Frac.mk 0 1)] 1), (sv (some ⟨g27, 0, none⟩) [(Frac.mk 2 1)] 1), (sv (some ⟨g31, 0, none⟩) [2] 1), (sv (some ⟨g35, 0, none⟩) [1] 1)] (fun fb => by kernel_rfl) (by kernel_rfl) rfl [1, 2, 3, 4, 5, 6, 7] (by decide) (by decide) (fun w42 hS43 => ?_)
 refine ⟨trivial, ?_⟩
 refine WL.done rfl (WX.next (WC.seq (WC.region ?_)))
 refine seg 2 [.v (sv (some ⟨g19, 0, none⟩) [(Frac.mk 0 1), (Frac.mk 1 1), (Frac.mk 2 1)] 3), .v (sv (some ⟨g23, 0, none⟩) [(Frac.mk 0 1)] 1), .v (sv (some ⟨g27, 0, none⟩) [(Frac.mk 2 1)] 1), .v (sv (some ⟨g31, 0, none⟩) [2] 1), .v (sv (some ⟨g35, 0, none⟩) [1] 1)] [1, 3, 5, 33, 34] [(1, (sv A9 t3.1 c11)), (3, (sv A17 t12.1 c18)), (5, (pt g39)), (33, (sv A9 t3.1 c11)), (34, (.agg #[(sv (some ⟨g19, 0, none⟩) [(Frac.mk 0 1), (Frac.mk 1 1), (Frac.mk 2 1)] 3), (sv (some ⟨g23, 0, none⟩) [(Frac.mk 0 1)] 1), (sv (some ⟨g27, 0, none⟩) [(Frac.mk 2 1)] 1), (sv (some ⟨g31, 0, none⟩) [2] 1), (sv (some ⟨g35, 0, none⟩) [1] 1)]))] [.cell ⟨g39, 0, none⟩ (sv (some ⟨g19, 0, none⟩) [(Frac.mk 0 1), (Frac.mk 1 1), (Frac.mk 2 1)] 3), .cell ⟨g39, 1, none⟩ (sv (some ⟨g23, 0, none⟩) [(Frac.mk 0 1)] 1), .cell ⟨g39, 2, none⟩ (sv (some ⟨g27, 0, none⟩) [(Frac.mk 2 1)] 1), .cell ⟨g39, 3, none⟩ (sv (some ⟨g31, 0, none⟩) [2] 1), .cell ⟨g39, 4, none⟩ (sv (some ⟨g35, 0, none⟩) [1] 1)] (fun fb => by kernel_rfl) rfl ⟨hS43.cell 0 rfl 0 rfl, hS43.cell 0 rfl 1 rfl, hS43.cell 0 rfl 2 rfl, hS43.cell 0 rfl 3 rfl, hS43.cell 0 rfl 4 rfl, trivial⟩ ?_
 obtain ⟨t44, ht45, hf⟩ := bind_some hf
 refine WL.call (some 35) 11 #[(sv A9 t3.1 c11), (.agg #[(sv (some ⟨g19, 0, none⟩) [(Frac.mk 0 1), (Frac.mk 1 1), (Frac.mk 2 1)] 3), (sv (some ⟨g23, 0, none⟩) [(Frac.mk 0 1)] 1), (sv (some ⟨g27, 0, none⟩) [(Frac.mk 2 1)] 1), (sv (some ⟨g31, 0, none⟩) [2] 1), (sv (some ⟨g35, 0, none⟩) [1] 1)])] (fun fb => by kernel_rfl) (weight_Check_calls _ t3.1 (Weights.mk [(Frac.mk 0 1), (Frac.mk 1 1), (Frac.mk 2 1)] [(Frac.mk 0 1)] [(Frac.mk 2 1)] [2] [1]) A9 c11 (some ⟨g19, 0, none⟩) 3 (some ⟨g23, 0, none⟩) 1 (some ⟨g27, 0, none⟩) 1 (some ⟨g31, 0, none⟩) 1 (some ⟨g35, 0, none⟩) 1 t44 _ (hS43.ow 7).ofO (hS43.ow 5).ofO (hS43.ow 4).ofO (hS43.ow 3).ofO (hS43.ow 2).ofO (hS43.ow 1).ofO (hS43.rd 0) ht45) (fun v w46 hR47 => ?_)
 obtain ⟨rfl, hk_⟩ := hR47
 have hS48 := hS43.keepN hk_
 refine ⟨trivial, ?_⟩
 refine sg 8 [] [1, 3, 5, 6, 7] [(1, (sv A9 t3.1 c11)), (3, (sv A17 t12.1 c18)), (5, (pt g39)), (6, (bv t44.1)), (7, (iv t44.2))] (by kernel_rfl) ?_
 refine WL.done rfl (WX.next (WC.seq (WC.region ?_)))
 refine seg 2 [.v (sv (some ⟨g19, 0, none⟩) [(Frac.mk 0 1), (Frac.mk 1 1), (Frac.mk 2 1)] 3), .v (sv (some ⟨g23, 0, none⟩) [(Frac.mk 0 1)] 1), .v (sv (some ⟨g27, 0, none⟩) [(Frac.mk 2 1)] 1), .v (sv (some ⟨g31, 0, none⟩) [2] 1), .v (sv (some ⟨g35, 0, none⟩) [1] 1)] [3, 5, 6, 7, 39, 40] [(3, (sv A17 t12.1 c18)), (5, (pt g39)), (6, (bv t44.1)), (7, (iv t44.2)), (39, (sv A9 t3.1 c11)), (40, (.agg #[(sv (some ⟨g19, 0, none⟩) [(Frac.mk 0 1), (Frac.mk 1 1), (Frac.mk 2 1)] 3), (sv (some ⟨g23, 0, none⟩) [(Frac.mk 0 1)] 1), (sv (some ⟨g27, 0, none⟩) [(Frac.mk 2 1)] 1), (sv (some ⟨g31, 0, none⟩) [2] 1), (sv (some ⟨g35, 0, none⟩) [1] 1)]))] [.cell ⟨g39, 0, none⟩ (sv (some ⟨g19, 0, none⟩) [(Frac.mk 0 1), (Frac.mk 1 1), (Frac.mk 2 1)] 3), .cell ⟨g39, 1, none⟩ (sv (some ⟨g23, 0, none⟩) [(Frac.mk 0 1)] 1), .cell ⟨g39, 2, none⟩ (sv (some ⟨g27, 0, none⟩) [(Frac.mk 2 1)] 1), .cell ⟨g39, 3, none⟩ (sv (some ⟨g31, 0, none⟩) [2] 1), .cell ⟨g39, 4, none⟩ (sv (some ⟨g35, 0, none⟩) [1] 1)] (fun fb => by kernel_rfl) rfl ⟨hS48.cell 0 rfl 0 rfl, hS48.cell 0 rfl 1 rfl, hS48.cell 0 rfl 2 rfl, hS48.cell 0 rfl 3 rfl, hS48.cell 0 rfl 4 rfl, trivial⟩ ?_
 refine WL.new hS48 41 [] (fun g => (.slice (some ⟨g, 0, none⟩) 3 3)) (.cells #[(iv 0), (iv 0), (iv 0)] 3 (0, 0)) [] (fun fb g => by kernel_rfl) trivial (fun g49 w50 hS51 => ?_)
 refine ⟨trivial, ?_⟩
 have hS52 := hS38.go w50 [rowO 3 encInt (some ⟨g49, 0, none⟩) 3 [0, 0, 0], blk g39 (.cells #[(sv (some ⟨g19, 0, none⟩) [(Frac.mk 0 1), (Frac.mk 1 1), (Frac.mk 2 1)] 3), (sv (some ⟨g23, 0, none⟩) [(Frac.mk 0 1)] 1), (sv (some ⟨g27, 0, none⟩) [(Frac.mk 2 1)] 1), (sv (some ⟨g31, 0, none⟩) [2] 1), (sv (some ⟨g35, 0, none⟩) [1] 1)] 26 (0, 0)), rowO 3 encInt (some ⟨g35, 0, none⟩) 1 [1], rowO 3 encInt (some ⟨g31, 0, none⟩) 1 [2], rowO 33 enc_Frac (some ⟨g27, 0, none⟩) 1 [(Frac.mk 2 1)], rowO 33 enc_Frac (some ⟨g23, 0, none⟩) 1 [(Frac.mk 0 1)], rowO 33 enc_Frac (some ⟨g19, 0, none⟩) 3 [(Frac.mk 0 1), (Frac.mk 1 1), (Frac.mk 2 1)], rowO 44 enc_Tile A17 c18 t12.1, rowO 44 enc_Tile A9 c11 t3.1] (hS51.map1 0 _ (fun h => rowO.ofBlk h rfl (Nat.le_of_ble_eq_true (by kernel_rfl))) (fun _ h => by obtain ⟨_, h1, h2⟩ := h; injection h1 with h1; subst h1; exact h2) [1, 2, 3, 4, 5, 6, 7, 8] (by decide) (by decide))
 obtain ⟨t53, ht54, hf⟩ := bind_some hf
 refine WL.call (some 42) 14 #[(sv A9 t3.1 c11), (.agg #[(sv (some ⟨g19, 0, none⟩) [(Frac.mk 0 1), (Frac.mk 1 1), (Frac.mk 2 1)] 3), (sv (some ⟨g23, 0, none⟩) [(Frac.mk 0 1)] 1), (sv (some ⟨g27, 0, none⟩) [(Frac.mk 2 1)] 1), (sv (some ⟨g31, 0, none⟩) [2] 1), (sv (some ⟨g35, 0, none⟩) [1] 1)]), (sv (some ⟨g49, 0, none⟩) [0, 0, 0] 3)] (fun fb => by kernel_rfl) (weight_Row_calls _ t3.1 (Weights.mk [(Frac.mk 0 1), (Frac.mk 1 1), (Frac.mk 2 1)] [(Frac.mk 0 1)] [(Frac.mk 2 1)] [2] [1]) [0, 0, 0] A9 c11 (some ⟨g19, 0, none⟩) 3 (some ⟨g23, 0, none⟩) 1 (some ⟨g27, 0, none⟩) 1 (some ⟨g31, 0, none⟩) 1 (some ⟨g35, 0, none⟩) 1 (some ⟨g49, 0, none⟩) 3 t53 _ (hS52.ow 8).ofO (hS52.ow 6).ofO (hS52.ow 5).ofO (hS52.ow 4).ofO (hS52.ow 3).ofO (hS52.ow 2).ofO (hS52.ow 0).ofO ht54) (fun v w55 hR56 => ?_)
 obtain ⟨rfl, hk_⟩ := hR56
 have hS57 := hS52.keepN hk_
 refine ⟨trivial, ?_⟩
 refine sg 8 [] [3, 5, 6, 7, 43, 44, 45] [(3, (sv A17 t12.1 c18)), (5, (pt g39)), (6, (bv t44.1)), (7, (iv t44.2)), (43, (.agg #[(iv t53.1.Num), (iv t53.1.Den)])), (44, (.agg #[(iv t53.2.1.Num), (iv t53.2.1.Den)])), (45, (iv t53.2.2))] (by kernel_rfl) ?_
 refine WL.new hS57 8 [] (fun g => (pt g)) (.cells #[(iv 0), (iv 0)] 33 (0, 0)) [] (fun fb g => by kernel_rfl) trivial (fun g58 w59 hS60 => ?_)
 refine ⟨trivial, ?_⟩
 refine WL.new hS60 9 [] (fun g => (pt g)) (.cells #[(iv 0), (iv 0)] 33 (0, 0)) [] (fun fb g => by kernel_rfl) trivial (fun g61 w62 hS63 => ?_)
 refine ⟨trivial, ?_⟩
 refine WL.store hS63 1 rfl [(0, (iv t53.1.Num)), (1, (iv t53.1.Den))] #[(iv t53.1.Num), (iv t53.1.Den)] (fun fb => by kernel_rfl) (by kernel_rfl) rfl [0, 2, 3, 4, 5, 6, 7, 8, 9, 10] (by decide) (by decide) (fun w65 hS66 => ?_)
 refine ⟨trivial, ?_⟩
 refine WL.store hS66 1 rfl [(0, (iv t53.2.1.Num)), (1, (iv t53.2.1.Den))] #[(iv t53.2.1.Num), (iv t53.2.1.Den)] (fun fb => by kernel_rfl) (by kernel_rfl) rfl [0, 2, 3, 4, 5, 6, 7, 8, 9, 10] (by decide) (by decide) (fun w67 hS68 => ?_)
 refine ⟨trivial, ?_⟩
 refine sg 13 [] [3, 5, 6, 7, 8, 9, 10] [(3, (sv A17 t12.1 c18)), (5, (pt g39)), (6, (bv t44.1)), (7, (iv t44.2)), (8, (pt g58)), (9, (pt g61)), (10, (iv t53.2.2))] (by kernel_rfl) ?_
 refine WL.done rfl (WX.next (WC.seq (WC.region ?_)))
 refine seg 2 [.v (sv (some ⟨g19, 0, none⟩) [(Frac.mk 0 1), (Frac.mk 1 1), (Frac.mk 2 1)] 3)] [3, 5, 6, 7, 8, 9, 10, 47] [(3, (sv A17 t12.1 c18)), (5, (pt g39)), (6, (bv t44.1)), (7, (iv t44.2)), (8, (pt g58)), (9, (pt g61)), (10, (iv t53.2.2)), (47, (sv (some ⟨g19, 0, none⟩) [(Frac.mk 0 1), (Frac.mk 1 1), (Frac.mk 2 1)] 3))] [.cell ⟨g39, 0, none⟩ (sv (some ⟨g19, 0, none⟩) [(Frac.mk 0 1), (Frac.mk 1 1), (Frac.mk 2 1)] 3)] (fun fb => by kernel_rfl) rfl ⟨hS68.cell 3 rfl 0 rfl, trivial⟩ ?_
 obtain ⟨h69, hf⟩ := as_some hf
 refine seg 3 [] [3, 5, 6, 7, 8, 9, 10, 48] [(3, (sv A17 t12.1 c18)), (5, (pt g39)), (6, (bv t44.1)), (7, (iv t44.2)), (8, (pt g58)), (9, (pt g61)), (10, (iv t53.2.2)), (48, (.slice (subA (some ⟨g19, 0, none⟩) 3 (0 : Int).toNat 2) ((2 : Int).toNat - (0 : Int).toNat) (3 - (0 : Int).toNat)))] [.idx (some ⟨0, 0, none⟩) (0 : Int) ((2 : Int).toNat + 1), .idx (some ⟨0, 0, none⟩) (2 : Int) (3 + 1)] (fun fb => by kernel_rfl) rfl ⟨cut1 h69.1 h69.2.1, cut2 h69.1 h69.2.1 h69.2.2 (rowO.rd (hS68.own 8).1).2, trivial⟩ ?_
 refine WL.reE [3, 5, 6, 7, 8, 9, 10, 48] [(3, (.slice A17 t12.1.length c18)), (5, (pt g39)), (6, (.bool t44.1)), (7, (iv t44.2)), (8, (pt g58)), (9, (pt g61)), (10, (iv t53.2.2)), (48, (.slice (subA (some ⟨g19, 0, none⟩) 3 (0 : Int).toNat 2) ((2 : Int).toNat - (0 : Int).toNat) (3 - (0 : Int).toNat)))] [(3, (.slice A17 t12.1.length c18)), (5, (pt g39)), (6, (.bool t44.1)), (7, (iv t44.2)), (8, (pt g58)), (9, (pt g61)), (10, (iv t53.2.2)), (48, (.slice (subA (some ⟨g19, 0, none⟩) 3 (0 : Int).toNat 2) (cut [(Frac.mk 0 1), (Frac.mk 1 1), (Frac.mk 2 1)] (0 : Int) (2 : Int)).length (3 - (0 : Int).toNat)))] rfl (by rw [cut_length h69.1 h69.2.1 h69.2.2]) ?_
 refine sg 4 [] [3, 5, 6, 7, 8, 9, 10, 48, 49] [(3, (sv A17 t12.1 c18)), (5, (pt g39)), (6, (bv t44.1)), (7, (iv t44.2)), (8, (pt g58)), (9, (pt g61)), (10, (iv t53.2.2)), (48, (sv (subA (some ⟨g19, 0, none⟩) 3 (0 : Int).toNat 2) (cut [(Frac.mk 0 1), (Frac.mk 1 1), (Frac.mk 2 1)] (0 : Int) (2 : Int)) (3 - (0 : Int).toNat))), (49, (pt g39))] (by kernel_rfl) ?_
 refine WL.store hS68 3 rfl [(0, (sv (subA (some ⟨g19, 0, none⟩) 3 (0 : Int).toNat 2) (cut [(Frac.mk 0 1), (Frac.mk 1 1), (Frac.mk 2 1)] (0 : Int) (2 : Int)) (3 - (0 : Int).toNat)))] #[(sv (subA (some ⟨g19, 0, none⟩) 3 (0 : Int).toNat 2) (cut [(Frac.mk 0 1), (Frac.mk 1 1), (Frac.mk 2 1)] (0 : Int) (2 : Int)) (3 - (0 : Int).toNat)), (sv (some ⟨g23, 0, none⟩) [(Frac.mk 0 1)] 1), (sv (some ⟨g27, 0, none⟩) [(Frac.mk 2 1)] 1), (sv (some ⟨g31, 0, none⟩) [2] 1), (sv (some ⟨g35, 0, none⟩) [1] 1)] (fun fb => by kernel_rfl) (by kernel_rfl) rfl [0, 1, 2, 4, 5, 6, 7, 8, 9, 10] (by decide) (by decide) (fun w70 hS71 => ?_)
 refine ⟨trivial, ?_⟩
 refine WL.done rfl (WX.next (WC.seq (WC.region ?_)))
 refine seg 2 [.v (sv (subA (some ⟨g19, 0, none⟩) 3 (0 : Int).toNat 2) (cut [(Frac.mk 0 1), (Frac.mk 1 1), (Frac.mk 2 1)] (0 : Int) (2 : Int)) (3 - (0 : Int).toNat)), .v (sv (some ⟨g23, 0, none⟩) [(Frac.mk 0 1)] 1), .v (sv (some ⟨g27, 0, none⟩) [(Frac.mk 2 1)] 1), .v (sv (some ⟨g31, 0, none⟩) [2] 1), .v (sv (some ⟨g35, 0, none⟩) [1] 1)] [3, 5, 6, 7, 8, 9, 10, 51, 52] [(3, (sv A17 t12.1 c18)), (5, (pt g39)), (6, (bv t44.1)), (7, (iv t44.2)), (8, (pt g58)), (9, (pt g61)), (10, (iv t53.2.2)), (51, (sv A17 t12.1 c18)), (52, (.agg #[(sv (subA (some ⟨g19, 0, none⟩) 3 (0 : Int).toNat 2) (cut [(Frac.mk 0 1), (Frac.mk 1 1), (Frac.mk 2 1)] (0 : Int) (2 : Int)) (3 - (0 : Int).toNat)), (sv (some ⟨g23, 0, none⟩) [(Frac.mk 0 1)] 1), (sv (some ⟨g27, 0, none⟩) [(Frac.mk 2 1)] 1), (sv (some ⟨g31, 0, none⟩) [2] 1), (sv (some ⟨g35, 0, none⟩) [1] 1)]))] [.cell ⟨g39, 0, none⟩ (sv (subA (some ⟨g19, 0, none⟩) 3 (0 : Int).toNat 2) (cut [(Frac.mk 0 1), (Frac.mk 1 1), (Frac.mk 2 1)] (0 : Int) (2 : Int)) (3 - (0 : Int).toNat)), .cell ⟨g39, 1, none⟩ (sv (some ⟨g23, 0, none⟩) [(Frac.mk 0 1)] 1), .cell ⟨g39, 2, none⟩ (sv (some ⟨g27, 0, none⟩) [(Frac.mk 2 1)] 1), .cell ⟨g39, 3, none⟩ (sv (some ⟨g31, 0, none⟩) [2] 1), .cell ⟨g39, 4, none⟩ (sv (some ⟨g35, 0, none⟩) [1] 1)] (fun fb => by kernel_rfl) rfl ⟨hS71.cell 0 rfl 0 rfl, hS71.cell 0 rfl 1 rfl, hS71.cell 0 rfl 2 rfl, hS71.cell 0 rfl 3 rfl, hS71.cell 0 rfl 4 rfl, trivial⟩ ?_
 obtain ⟨t72, ht73, hf⟩ := bind_some hf
 refine WL.call (some 53) 11 #[(sv A17 t12.1 c18), (.agg #[(sv (subA (some ⟨g19, 0, none⟩) 3 (0 : Int).toNat 2) (cut [(Frac.mk 0 1), (Frac.mk 1 1), (Frac.mk 2 1)] (0 : Int) (2 : Int)) (3 - (0 : Int).toNat)), (sv (some ⟨g23, 0, none⟩) [(Frac.mk 0 1)] 1), (sv (some ⟨g27, 0, none⟩) [(Frac.mk 2 1)] 1), (sv (some ⟨g31, 0, none⟩) [2] 1), (sv (some ⟨g35, 0, none⟩) [1] 1)])] (fun fb => by kernel_rfl) (weight_Check_calls _ t12.1 (Weights.mk (cut [(Frac.mk 0 1), (Frac.mk 1 1), (Frac.mk 2 1)] (0 : Int) (2 : Int)) [(Frac.mk 0 1)] [(Frac.mk 2 1)] [2] [1]) A17 c18 (subA (some ⟨g19, 0, none⟩) 3 (0 : Int).toNat 2) (3 - (0 : Int).toNat) (some ⟨g23, 0, none⟩) 1 (some ⟨g27, 0, none⟩) 1 (some ⟨g31, 0, none⟩) 1 (some ⟨g35, 0, none⟩) 1 t72 _ (hS71.ow 9).ofO (cutR (((hS71.ow 8)).ofO) h69.1 h69.2.1 h69.2.2) (hS71.ow 7).ofO (hS71.ow 6).ofO (hS71.ow 5).ofO (hS71.ow 4).ofO (hS71.rd 0) ht73) (fun v w74 hR75 => ?_)
 obtain ⟨rfl, hk_⟩ := hR75
 have hS76 := hS71.keepN hk_
 refine ⟨trivial, ?_⟩
 refine sg 8 [] [3, 5, 6, 7, 8, 9, 10, 11, 12] [(3, (sv A17 t12.1 c18)), (5, (pt g39)), (6, (bv t44.1)), (7, (iv t44.2)), (8, (pt g58)), (9, (pt g61)), (10, (iv t53.2.2)), (11, (bv t72.1)), (12, (iv t72.2))] (by kernel_rfl) ?_
 refine WL.done rfl (WX.next (WC.seq (WC.region ?_)))
 refine sg 3 [] [3, 5, 6, 8, 9, 10, 11, 12, 58] [(3, (sv A17 t12.1 c18)), (5, (pt g39)), (6, (bv t44.1)), (8, (pt g58)), (9, (pt g61)), (10, (iv t53.2.2)), (11, (bv t72.1)), (12, (iv t72.2)), (58, (bv (t44.2 == 0)))] (by kernel_rfl) ?_
 refine WL.cutV (T := Bool) 6 (fun t => [(61, (bv t)), (3, (sv A17 t12.1 c18)), (5, (pt g39)), (6, (bv t44.1)), (8, (pt g58)), (9, (pt g61)), (11, (bv t72.1)), (12, (iv t72.2))]) (fun t => ((t44.2 == 0) && (t53.2.2 == 0)) = t) (fun K => ?_) ?_
 ·
  rcases Bool.eq_false_or_eq_true (t44.2 == 0) with h77 | h77
  ·
   refine WL.setB 58 h77 rfl ?_
   refine sg 6 [] [3, 5, 6, 8, 9, 11, 12, 61] [(3, (sv A17 t12.1 c18)), (5, (pt g39)), (6, (bv t44.1)), (8, (pt g58)), (9, (pt g61)), (11, (bv t72.1)), (12, (iv t72.2)), (61, (bv (t53.2.2 == 0)))] (by kernel_rfl) ?_
   exact WL.toV K (t53.2.2 == 0) [61, 3, 5, 6, 8, 9, 11, 12] rfl (by first | (rw [h77]; done) | (rw [h77]; rfl))
  refine WL.setB 58 h77 rfl ?_
  refine sg 6 [] [3, 5, 6, 8, 9, 11, 12, 61] [(3, (sv A17 t12.1 c18)), (5, (pt g39)), (6, (bv t44.1)), (8, (pt g58)), (9, (pt g61)), (11, (bv t72.1)), (12, (iv t72.2)), (61, (bv false))] (by kernel_rfl) ?_
  exact WL.toV K false [61, 3, 5, 6, 8, 9, 11, 12] rfl (by first | (rw [h77]; done) | (rw [h77]; rfl))
 rintro b78 rfl
 refine sg 7 [] [3, 5, 6, 8, 9, 11, 12, 62] [(3, (sv A17 t12.1 c18)), (5, (pt g39)), (6, (bv t44.1)), (8, (pt g58)), (9, (pt g61)), (11, (bv t72.1)), (12, (iv t72.2)), (62, (bv ((t44.2 == 0) && (t53.2.2 == 0))))] (by kernel_rfl) ?_
 refine WL.cutV (T := Bool) 10 (fun t => [(65, (bv t)), (3, (sv A17 t12.1 c18)), (5, (pt g39)), (6, (bv t44.1)), (8, (pt g58)), (9, (pt g61)), (11, (bv t72.1))]) (fun t => (((t44.2 == 0) && (t53.2.2 == 0)) && (t72.2 == 0)) = t) (fun K => ?_) ?_
 ·
  rcases Bool.eq_false_or_eq_true ((t44.2 == 0) && (t53.2.2 == 0)) with h79 | h79
  ·
   refine WL.setB 62 h79 rfl ?_
   refine sg 10 [] [3, 5, 6, 8, 9, 11, 65] [(3, (sv A17 t12.1 c18)), (5, (pt g39)), (6, (bv t44.1)), (8, (pt g58)), (9, (pt g61)), (11, (bv t72.1)), (65, (bv (t72.2 == 0)))] (by kernel_rfl) ?_
   exact WL.toV K (t72.2 == 0) [65, 3, 5, 6, 8, 9, 11] rfl (by first | (rw [h79]; done) | (rw [h79]; rfl))
  refine WL.setB 62 h79 rfl ?_
  refine sg 10 [] [3, 5, 6, 8, 9, 11, 65] [(3, (sv A17 t12.1 c18)), (5, (pt g39)), (6, (bv t44.1)), (8, (pt g58)), (9, (pt g61)), (11, (bv t72.1)), (65, (bv false))] (by kernel_rfl) ?_
  exact WL.toV K false [65, 3, 5, 6, 8, 9, 11] rfl (by first | (rw [h79]; done) | (rw [h79]; rfl))
 rintro b80 rfl
 refine sg 11 [] [3, 5, 6, 8, 9, 11, 66] [(3, (sv A17 t12.1 c18)), (5, (pt g39)), (6, (bv t44.1)), (8, (pt g58)), (9, (pt g61)), (11, (bv t72.1)), (66, (bv (((t44.2 == 0) && (t53.2.2 == 0)) && (t72.2 == 0))))] (by kernel_rfl) ?_
 refine WL.cutV (T := Bool) 13 (fun t => [(68, (bv t)), (3, (sv A17 t12.1 c18)), (5, (pt g39)), (8, (pt g58)), (9, (pt g61)), (11, (bv t72.1))]) (fun t => ((((t44.2 == 0) && (t53.2.2 == 0)) && (t72.2 == 0)) && t44.1) = t) (fun K => ?_) ?_
 ·
  rcases Bool.eq_false_or_eq_true (((t44.2 == 0) && (t53.2.2 == 0)) && (t72.2 == 0)) with h81 | h81
  ·
   refine WL.setB 66 h81 rfl ?_
   refine sg 13 [] [3, 5, 8, 9, 11, 68] [(3, (sv A17 t12.1 c18)), (5, (pt g39)), (8, (pt g58)), (9, (pt g61)), (11, (bv t72.1)), (68, (bv t44.1))] (by kernel_rfl) ?_
   exact WL.toV K t44.1 [68, 3, 5, 8, 9, 11] rfl (by first | (rw [h81]; done) | (rw [h81]; rfl))
  refine WL.setB 66 h81 rfl ?_
  refine sg 13 [] [3, 5, 8, 9, 11, 68] [(3, (sv A17 t12.1 c18)), (5, (pt g39)), (8, (pt g58)), (9, (pt g61)), (11, (bv t72.1)), (68, (bv false))] (by kernel_rfl) ?_
  exact WL.toV K false [68, 3, 5, 8, 9, 11] rfl (by first | (rw [h81]; done) | (rw [h81]; rfl))
 rintro b82 rfl
 refine sg 14 [] [3, 5, 8, 9, 11, 69] [(3, (sv A17 t12.1 c18)), (5, (pt g39)), (8, (pt g58)), (9, (pt g61)), (11, (bv t72.1)), (69, (bv ((((t44.2 == 0) && (t53.2.2 == 0)) && (t72.2 == 0)) && t44.1)))] (by kernel_rfl) ?_
 refine WL.cutV (T := Bool) 17 (fun t => [(72, (bv t)), (3, (sv A17 t12.1 c18)), (5, (pt g39)), (8, (pt g58)), (9, (pt g61))]) (fun t => (((((t44.2 == 0) && (t53.2.2 == 0)) && (t72.2 == 0)) && t44.1) && (!t72.1)) = t) (fun K => ?_) ?_
 ·
  rcases Bool.eq_false_or_eq_true ((((t44.2 == 0) && (t53.2.2 == 0)) && (t72.2 == 0)) && t44.1) with h83 | h83
  ·
   refine WL.setB 69 h83 rfl ?_
   refine sg 17 [] [3, 5, 8, 9, 72] [(3, (sv A17 t12.1 c18)), (5, (pt g39)), (8, (pt g58)), (9, (pt g61)), (72, (bv (!t72.1)))] (by kernel_rfl) ?_
   exact WL.toV K (!t72.1) [72, 3, 5, 8, 9] rfl (by first | (rw [h83]; done) | (rw [h83]; rfl))
  refine WL.setB 69 h83 rfl ?_
  refine sg 17 [] [3, 5, 8, 9, 72] [(3, (sv A17 t12.1 c18)), (5, (pt g39)), (8, (pt g58)), (9, (pt g61)), (72, (bv false))] (by kernel_rfl) ?_
  exact WL.toV K false [72, 3, 5, 8, 9] rfl (by first | (rw [h83]; done) | (rw [h83]; rfl))
 rintro b84 rfl
 refine sg 18 [] [3, 5, 8, 9, 73] [(3, (sv A17 t12.1 c18)), (5, (pt g39)), (8, (pt g58)), (9, (pt g61)), (73, (bv (((((t44.2 == 0) && (t53.2.2 == 0)) && (t72.2 == 0)) && t44.1) && (!t72.1))))] (by kernel_rfl) ?_
 refine WL.cutV (T := Bool) 22 (fun t => [(77, (bv t)), (3, (sv A17 t12.1 c18)), (5, (pt g39)), (9, (pt g61))]) (fun t => ((((((t44.2 == 0) && (t53.2.2 == 0)) && (t72.2 == 0)) && t44.1) && (!t72.1)) && (t53.1.Num == 3 && (t53.1.Den == 1))) = t) (fun K => ?_) ?_
 ·
  rcases Bool.eq_false_or_eq_true (((((t44.2 == 0) && (t53.2.2 == 0)) && (t72.2 == 0)) && t44.1) && (!t72.1)) with h85 | h85
  ·
   refine WL.setB 73 h85 rfl ?_
   refine seg 22 [.v (iv t53.1.Num), .v (iv t53.1.Den)] [3, 5, 9, 77] [(3, (sv A17 t12.1 c18)), (5, (pt g39)), (9, (pt g61)), (77, (bv (t53.1.Num == 3 && (t53.1.Den == 1))))] [.cell ⟨g58, 0, none⟩ (iv t53.1.Num), .cell ⟨g58, 1, none⟩ (iv t53.1.Den)] (fun fb => by kernel_rfl) rfl ⟨hS76.cell 2 rfl 0 rfl, hS76.cell 2 rfl 1 rfl, trivial⟩ ?_
   exact WL.toV K (t53.1.Num == 3 && (t53.1.Den == 1)) [77, 3, 5, 9] rfl (by first | (rw [h85]; done) | (rw [h85]; rfl))
  refine WL.setB 73 h85 rfl ?_
  refine sg 22 [] [3, 5, 9, 77] [(3, (sv A17 t12.1 c18)), (5, (pt g39)), (9, (pt g61)), (77, (bv false))] (by kernel_rfl) ?_
  exact WL.toV K false [77, 3, 5, 9] rfl (by first | (rw [h85]; done) | (rw [h85]; rfl))
 rintro b86 rfl
 refine sg 23 [] [3, 5, 9, 78] [(3, (sv A17 t12.1 c18)), (5, (pt g39)), (9, (pt g61)), (78, (bv ((((((t44.2 == 0) && (t53.2.2 == 0)) && (t72.2 == 0)) && t44.1) && (!t72.1)) && (t53.1.Num == 3 && (t53.1.Den == 1)))))] (by kernel_rfl) ?_
 refine WL.cutV (T := Bool) 27 (fun t => [(82, (bv t)), (3, (sv A17 t12.1 c18)), (5, (pt g39))]) (fun t => (((((((t44.2 == 0) && (t53.2.2 == 0)) && (t72.2 == 0)) && t44.1) && (!t72.1)) && (t53.1.Num == 3 && (t53.1.Den == 1))) && (t53.2.1.Num == 6 && (t53.2.1.Den == 1))) = t) (fun K => ?_) ?_
 ·
  rcases Bool.eq_false_or_eq_true ((((((t44.2 == 0) && (t53.2.2 == 0)) && (t72.2 == 0)) && t44.1) && (!t72.1)) && (t53.1.Num == 3 && (t53.1.Den == 1))) with h87 | h87
  ·
   refine WL.setB 78 h87 rfl ?_
   refine seg 27 [.v (iv t53.2.1.Num), .v (iv t53.2.1.Den)] [3, 5, 82] [(3, (sv A17 t12.1 c18)), (5, (pt g39)), (82, (bv (t53.2.1.Num == 6 && (t53.2.1.Den == 1))))] [.cell ⟨g61, 0, none⟩ (iv t53.2.1.Num), .cell ⟨g61, 1, none⟩ (iv t53.2.1.Den)] (fun fb => by kernel_rfl) rfl ⟨hS76.cell 1 rfl 0 rfl, hS76.cell 1 rfl 1 rfl, trivial⟩ ?_
   exact WL.toV K (t53.2.1.Num == 6 && (t53.2.1.Den == 1)) [82, 3, 5] rfl (by first | (rw [h87]; done) | (rw [h87]; rfl))
  refine WL.setB 78 h87 rfl ?_
  refine sg 27 [] [3, 5, 82] [(3, (sv A17 t12.1 c18)), (5, (pt g39)), (82, (bv false))] (by kernel_rfl) ?_
  exact WL.toV K false [82, 3, 5] rfl (by first | (rw [h87]; done) | (rw [h87]; rfl))
 rintro b88 rfl
 refine sg 28 [] [3, 5, 83] [(3, (sv A17 t12.1 c18)), (5, (pt g39)), (83, (bv (((((((t44.2 == 0) && (t53.2.2 == 0)) && (t72.2 == 0)) && t44.1) && (!t72.1)) && (t53.1.Num == 3 && (t53.1.Den == 1))) && (t53.2.1.Num == 6 && (t53.2.1.Den == 1)))))] (by kernel_rfl) ?_
 obtain ⟨x89, hx90, hf⟩ := bind_some hf
 refine WL.cutW (T := Bool) 32 (fun t => [(87, (bv t))]) (fun t w1 => (St NoS w w1 [tabO 0 md0, gloO Tryz.prog 5 8 3 4 mG] [] ∧ x89 = t) ∧ CellsOK [] w1) (fun K => ?_) ?_
 ·
  rcases br_some hx90 with ⟨h91, hx90⟩ | ⟨h91, hx90⟩
  ·
   refine WL.setB 83 h91 rfl ?_
   refine seg 30 [.v (sv (subA (some ⟨g19, 0, none⟩) 3 (0 : Int).toNat 2) (cut [(Frac.mk 0 1), (Frac.mk 1 1), (Frac.mk 2 1)] (0 : Int) (2 : Int)) (3 - (0 : Int).toNat)), .v (sv (some ⟨g23, 0, none⟩) [(Frac.mk 0 1)] 1), .v (sv (some ⟨g27, 0, none⟩) [(Frac.mk 2 1)] 1), .v (sv (some ⟨g31, 0, none⟩) [2] 1), .v (sv (some ⟨g35, 0, none⟩) [1] 1)] [83, 84, 85] [(83, (bv true)), (84, (sv A17 t12.1 c18)), (85, (.agg #[(sv (subA (some ⟨g19, 0, none⟩) 3 (0 : Int).toNat 2) (cut [(Frac.mk 0 1), (Frac.mk 1 1), (Frac.mk 2 1)] (0 : Int) (2 : Int)) (3 - (0 : Int).toNat)), (sv (some ⟨g23, 0, none⟩) [(Frac.mk 0 1)] 1), (sv (some ⟨g27, 0, none⟩) [(Frac.mk 2 1)] 1), (sv (some ⟨g31, 0, none⟩) [2] 1), (sv (some ⟨g35, 0, none⟩) [1] 1)]))] [.cell ⟨g39, 0, none⟩ (sv (subA (some ⟨g19, 0, none⟩) 3 (0 : Int).toNat 2) (cut [(Frac.mk 0 1), (Frac.mk 1 1), (Frac.mk 2 1)] (0 : Int) (2 : Int)) (3 - (0 : Int).toNat)), .cell ⟨g39, 1, none⟩ (sv (some ⟨g23, 0, none⟩) [(Frac.mk 0 1)] 1), .cell ⟨g39, 2, none⟩ (sv (some ⟨g27, 0, none⟩) [(Frac.mk 2 1)] 1), .cell ⟨g39, 3, none⟩ (sv (some ⟨g31, 0, none⟩) [2] 1), .cell ⟨g39, 4, none⟩ (sv (some ⟨g35, 0, none⟩) [1] 1)] (fun fb => by kernel_rfl) rfl ⟨hS76.cell 0 rfl 0 rfl, hS76.cell 0 rfl 1 rfl, hS76.cell 0 rfl 2 rfl, hS76.cell 0 rfl 3 rfl, hS76.cell 0 rfl 4 rfl, trivial⟩ ?_
   obtain ⟨t92, ht93, hx90⟩ := bind_some hx90
   refine WL.call (some 86) 12 #[(sv A17 t12.1 c18), (.agg #[(sv (subA (some ⟨g19, 0, none⟩) 3 (0 : Int).toNat 2) (cut [(Frac.mk 0 1), (Frac.mk 1 1), (Frac.mk 2 1)] (0 : Int) (2 : Int)) (3 - (0 : Int).toNat)), (sv (some ⟨g23, 0, none⟩) [(Frac.mk 0 1)] 1), (sv (some ⟨g27, 0, none⟩) [(Frac.mk 2 1)] 1), (sv (some ⟨g31, 0, none⟩) [2] 1), (sv (some ⟨g35, 0, none⟩) [1] 1)])] (fun fb => by kernel_rfl) (weight_Valid_calls _ t12.1 (Weights.mk (cut [(Frac.mk 0 1), (Frac.mk 1 1), (Frac.mk 2 1)] (0 : Int) (2 : Int)) [(Frac.mk 0 1)] [(Frac.mk 2 1)] [2] [1]) A17 c18 (subA (some ⟨g19, 0, none⟩) 3 (0 : Int).toNat 2) (3 - (0 : Int).toNat) (some ⟨g23, 0, none⟩) 1 (some ⟨g27, 0, none⟩) 1 (some ⟨g31, 0, none⟩) 1 (some ⟨g35, 0, none⟩) 1 t92 _ (hS76.ow 9).ofO (cutR (((hS76.ow 8)).ofO) h69.1 h69.2.1 h69.2.2) (hS76.ow 7).ofO (hS76.ow 6).ofO (hS76.ow 5).ofO (hS76.ow 4).ofO ht93) (fun v w94 hR95 => ?_)
   obtain ⟨rfl, hk_⟩ := hR95
   have hS96 := hS76.keepN hk_
   refine ⟨trivial, ?_⟩
   refine sg 32 [] [87] [(87, (bv t92))] (by kernel_rfl) ?_
   injection hx90 with hx90
   exact WL.to K t92 [87] rfl ⟨⟨(hS96.subR [0, 1]).sub [] (by decide), hx90.symm⟩, trivial⟩
  refine WL.setB 83 h91 rfl ?_
  refine sg 32 [] [87] [(87, (bv false))] (by kernel_rfl) ?_
  injection hx90 with hx90
  exact WL.to K false [87] rfl ⟨⟨(hS76.subR [0, 1]).sub [] (by decide), hx90.symm⟩, trivial⟩
 rintro y97 w99 ⟨⟨hS100, hq98⟩, hF101⟩
 subst hq98
 refine sg 33 [] [0] [(0, (bv x89))] (by kernel_rfl) ?_
 refine WL.done rfl (WX.next ?_)
 refine WC.ret ?_
 injection hf with hf
 subst hf
 exact WX.ret_ [] (bv x89) [] (fun fb => by kernel_rfl) trivial ⟨_, rfl, rfl, hS100.keep⟩
theorem ref01_colour_calls (p0 : Int)  (r : Bool) (w : World)  (hf : ref01_colour p0 = some r) :
  CallsR Tryz.prog 54 #[(iv p0)] w (fun v w' => v = (bv r) ∧ Keeps NoS w w') := by
 have hS : St NoS w w [] [] := St.init (ro_nil _ _)
 refine enter 9 Tryz.func54 rfl Tryz.ntmps54 rfl ?_
 unfold ref01_colour at hf
 refine WC.seq (WC.region ?_)
 refine sg 1 [] [0] [(0, (iv p0))] (by kernel_rfl) ?_
 refine WL.done rfl (WX.next (WC.seq (WC.region ?_)))
 refine sg 3 [] [0, 5] [(0, (iv p0)), (5, (bv (decide (p0 ≥ 0))))] (by kernel_rfl) ?_
 refine WL.cutV (T := Bool) 6 (fun t => [(8, (bv t))]) (fun t => ((decide (p0 ≥ 0)) && (decide (p0 < 1000))) = t) (fun K => ?_) ?_
 ·
  rcases Bool.eq_false_or_eq_true (decide (p0 ≥ 0)) with h2 | h2
  ·
   refine WL.setB 5 h2 rfl ?_
   refine sg 6 [] [8] [(8, (bv (decide (p0 < 1000))))] (by kernel_rfl) ?_
   exact WL.toV K (decide (p0 < 1000)) [8] rfl (by first | (rw [h2]; done) | (rw [h2]; rfl))
  refine WL.setB 5 h2 rfl ?_
  refine sg 6 [] [8] [(8, (bv false))] (by kernel_rfl) ?_
  exact WL.toV K false [8] rfl (by first | (rw [h2]; done) | (rw [h2]; rfl))
 rintro b3 rfl
 refine sg 7 [] [2] [(2, (bv ((decide (p0 ≥ 0)) && (decide (p0 < 1000)))))] (by kernel_rfl) ?_
 refine WL.done rfl (WX.next ?_)
 refine WC.ret ?_
 injection hf with hf
 subst hf
 exact WX.ret_ [] (bv ((decide (p0 ≥ 0)) && (decide (p0 < 1000)))) [] (fun fb => by kernel_rfl) trivial ⟨_, rfl, rfl, hS.keep⟩
theorem ref01_Index_calls (k : Nat) (p0 : List Tile) (p1 : Tile) (Aa : Option Addr) (ca : Nat) (r : Int) (w : World) (hR0 : RO NoS w (rowR enc_Tile Aa ca p0)) (hf : ref01_Index k p0 p1 = some r) :
  CallsR Tryz.prog 55 #[(sv Aa p0 ca), (.agg #[(iv p1.N), (iv p1.E), (iv p1.S), (iv p1.W)])] w (fun v w' => v = (iv r) ∧ Keeps NoS w w') := by
 have hS : St NoS w w [rowR enc_Tile Aa ca p0] [] := St.init (ro_cons hR0 (ro_nil _ _))
 refine enter 19 Tryz.func55 rfl Tryz.ntmps55 rfl ?_
 unfold ref01_Index at hf
 refine WC.seq (WC.region ?_)
 refine WL.new hS 3 [] (fun g => (pt g)) (.cells #[(iv p1.N), (iv p1.E), (iv p1.S), (iv p1.W)] 44 (0, 0)) [] (fun fb g => by kernel_rfl) trivial (fun g3 w4 hS5 => ?_)
 refine ⟨trivial, ?_⟩
 refine sg 2 [] [0, 3] [(0, (sv Aa p0 ca)), (3, (pt g3))] (by kernel_rfl) ?_
 refine WL.done rfl (WX.next (WC.seq (WC.seq (WC.region ?_))))
 refine sg 1 [] [0, 3, 5] [(0, (sv Aa p0 ca)), (3, (pt g3)), (5, (iv 0))] (by kernel_rfl) ?_
 refine WL.done rfl (WX.next ?_)
 obtain ⟨x7, hx8, hf⟩ := bind_some hf
 refine WC.cutN (T := Unit) (fun t => []) (fun t w1 => St NoS w w1 [rowR enc_Tile Aa ca p0] [] ∧ x7 = .inr t) (fun Kx7 => ?_) ?_
 ·
  refine WC.block ?_
  refine WC.loop (T := Int) (fun t => [(0, (sv Aa p0 ca)), (3, (pt g3)), (5, (iv t))]) (fun n t w1 => St NoS w w1 [rowR enc_Tile Aa ca p0] [blk g3 (.cells #[(iv p1.N), (iv p1.E), (iv p1.S), (iv p1.W)] 44 (0, 0))] ∧ ref01_Index.l0 n t p0 p1 = some x7) k 0 [0, 3, 5] rfl ⟨(hS5.subR [0]).sub [0] (by decide), hx8⟩ ?_
  rintro k9 x6 w10 ⟨hS11, hl12⟩
  let e3 := (adr Aa).add ((x6).toNat * 4)
  let e1 : List (Nat × Addr × Value) := [(3, e3, (iv ((rdD p0 x6 z_Tile).N))), (3, (e3.add 1), (iv ((rdD p0 x6 z_Tile).E))), (3, (e3.add 2), (iv ((rdD p0 x6 z_Tile).S))), (3, (e3.add 3), (iv ((rdD p0 x6 z_Tile).W))), (4, ⟨g3, 0, none⟩, (iv p1.N)), (4, ⟨g3, 1, none⟩, (iv p1.E)), (4, ⟨g3, 2, none⟩, (iv p1.S)), (4, ⟨g3, 3, none⟩, (iv p1.W))]
  let e2 := rdD p0 x6 z_Tile
  cases k9 with
  | zero => rw [ref01_Index.l0] at hl12; cases hl12
  | succ k9 =>
   rw [ref01_Index.l0] at hl12
   refine WC.seq (WC.seq (WC.region ?_))
   refine sg 4 [] [0, 3, 5, 9] [(0, (sv Aa p0 ca)), (3, (pt g3)), (5, (iv x6)), (9, (bv (decide (x6 < (p0.length : Int)))))] (by kernel_rfl) ?_
   refine WL.done rfl (WX.next ?_)
   rcases br_some hl12 with ⟨h13, hl12⟩ | ⟨h13, hl12⟩
   ·refine WC.condT2 (fun fb => by kernel_rfl) h13 ?_
    refine WC.skip (WX.next (WC.seq (WC.block (WC.seq ?_))))
    obtain ⟨h16, hl12⟩ := as_some hl12
    refine WC.regionD (e1, [0, 1, 2, 3, 4, 5], [[], [], [0, 1], [0, 1, 2], [], [0, 1, 2, 3, 4]]) [[0, 1, 2, 3, 4, 5]] (by kernel_rfl) (by kernel_rfl) (NoPanic.seq (NoPanic.block (NoPanic.seq (NoPanic.seq (NoPanic.block (NoPanic.seq (NoPanic.body))))))) ?_
    have hS15 := hS11.drew
    revert hS15
    generalize World.drew w10 = w14
    intro hS15
    refine ⟨⟨rowR.cell (hS15.rd 0).1 z_Tile h16.1 h16.2 0 rfl, rowR.cell (hS15.rd 0).1 z_Tile h16.1 h16.2 1 rfl, rowR.cell (hS15.rd 0).1 z_Tile h16.1 h16.2 2 rfl, rowR.cell (hS15.rd 0).1 z_Tile h16.1 h16.2 3 rfl, hS15.cell 0 rfl 0 rfl, hS15.cell 0 rfl 1 rfl, hS15.cell 0 rfl 2 rfl, hS15.cell 0 rfl 3 rfl, trivial⟩, forallC ?_ (forallN)⟩
    refine segF 6 [.v (iv (e2.N)), .v (iv (e2.E)), .v (iv (e2.S)), .v (iv (e2.W)), .v (iv p1.N), .v (iv p1.E), .v (iv p1.S), .v (iv p1.W)] [0, 3, 5, 17] [(0, (sv Aa p0 ca)), (3, (pt g3)), (5, (iv x6)), (17, (bv ((e2.N) == p1.N && ((e2.E) == p1.E && ((e2.S) == p1.S && ((e2.W) == p1.W))))))] [.idx Aa x6 p0.length] [0, 1, 2, 3, 4, 5, 6, 7] e1 (fun fb => by kernel_rfl) rfl ⟨rowR.adr (hS15.rd 0).1 h16.1 h16.2, trivial⟩ rfl ?_
    refine WL.done rfl (WX.next ?_)
    rcases br_some hl12 with ⟨h17, hl12⟩ | ⟨h17, hl12⟩
    ·refine WC.condT2 (fun fb => by kernel_rfl) h17 ?_
     refine WC.seq (WC.region ?_)
     refine sg 2 [] [4] [(4, (iv x6))] (by kernel_rfl) ?_
     refine WL.done rfl (WX.next ?_)
     refine WC.ret ?_
     injection hl12 with hl12
     subst hl12
     injection hf with hf
     subst hf
     exact WX.blockR (WX.thenR (WX.thenR (WX.blockR (WX.thenR (WX.ret_ [] (iv x6) [] (fun fb => by kernel_rfl) trivial ⟨_, rfl, rfl, hS15.keep⟩)))))
    refine WC.condF2 (fun fb => by kernel_rfl) h17 ?_
    refine WC.skip ?_
    refine WX.blockN (WX.next ?_)
    refine WC.region ?_
    refine sg 3 [] [0, 3, 5] [(0, (sv Aa p0 ca)), (3, (pt g3)), (5, (iv (w64 (x6 + 1))))] (by kernel_rfl) ?_
    refine WL.done rfl ?_
    exact WX.again k9 (Nat.lt_succ_self _) (w64 (x6 + 1)) [0, 3, 5] rfl ⟨(hS15.subR [0]).sub [0] (by decide), hl12⟩
   refine WC.condF2 (fun fb => by kernel_rfl) h13 ?_
   refine WC.exit ?_
   injection hl12 with hl12
   exact WX.thenX (WX.thenX (WX.blockHere (WX.to Kx7 () [] rfl ⟨(hS11.subR [0]).sub [] (by decide), hl12.symm⟩)))
 rintro y21 w18 ⟨hS19, hq20⟩
 subst hq20
 have hf := sum_inr hf
 refine WX.next (WC.seq (WC.region ?_))
 refine sg 1 [] [4] [(4, (iv (-1)))] (by kernel_rfl) ?_
 refine WL.done rfl (WX.next ?_)
 refine WC.ret ?_
 injection hf with hf
 subst hf
 exact WX.ret_ [] (iv (-1)) [] (fun fb => by kernel_rfl) trivial ⟨_, rfl, rfl, hS19.keep⟩
theorem ref01_Valid_calls (k : Nat) (p0 : List Tile) (Aa : Option Addr) (ca : Nat) (r : Bool) (w : World) (hR0 : RO NoS w (rowR enc_Tile Aa ca p0)) (hf : ref01_Valid k p0 = some r) :
  CallsR Tryz.prog 20 #[(sv Aa p0 ca)] w (fun v w' => v = (bv r) ∧ Keeps NoS w w') := by
 have hS : St NoS w w [rowR enc_Tile Aa ca p0] [] := St.init (ro_cons hR0 (ro_nil _ _))
 refine enter 48 Tryz.func20 rfl Tryz.ntmps20 rfl ?_
 unfold ref01_Valid at hf
 refine WC.seq (WC.region ?_)
 refine sg 1 [] [0] [(0, (sv Aa p0 ca))] (by kernel_rfl) ?_
 refine WL.done rfl (WX.next (WC.seq (WC.seq (WC.region ?_))))
 refine sg 3 [] [0, 7] [(0, (sv Aa p0 ca)), (7, (bv (decide ((p0.length : Int) > 1000))))] (by kernel_rfl) ?_
 refine WL.done rfl (WX.next ?_)
 rcases br_some hf with ⟨h3, hf⟩ | ⟨h3, hf⟩
 ·refine WC.condT2 (fun fb => by kernel_rfl) h3 ?_
  refine WC.seq (WC.region ?_)
  refine sg 1 [] [2] [(2, (bv false))] (by kernel_rfl) ?_
  refine WL.done rfl (WX.next ?_)
  refine WC.ret ?_
  injection hf with hf
  subst hf
  exact WX.thenR (WX.ret_ [] (bv false) [] (fun fb => by kernel_rfl) trivial ⟨_, rfl, rfl, hS.keep⟩)
 refine WC.condF2 (fun fb => by kernel_rfl) h3 ?_
 refine WC.skip (WX.next (WC.seq (WC.seq (WC.region ?_))))
 refine sg 1 [] [0, 3] [(0, (sv Aa p0 ca)), (3, (iv 0))] (by kernel_rfl) ?_
 refine WL.done rfl (WX.next ?_)
 obtain ⟨x5, hx6, hf⟩ := bind_some hf
 let e2 : Nat × Value := (0, (sv Aa p0 ca))
 let e5 : List Nat := [0, 1, 2, 3, 4, 5, 6, 7, 8, 9, 10, 11, 12, 13, 14, 15, 16, 17, 18, 19, 20, 21, 22]
 let e6 : List Own := [rowR enc_Tile Aa ca p0]
 let e8 := (subA Aa ca (0 : Int).toNat 4)
 let e13 := (ca - (0 : Int).toNat)
 refine WC.cutN (T := Unit) (fun t => []) (fun t w1 => St NoS w w1 e6 [] ∧ x5 = .inr t) (fun Kx5 => ?_) ?_
 ·
  refine WC.block ?_
  refine WC.loop (T := Int) (fun t => [e2, (3, (iv t))]) (fun n t w1 => St NoS w w1 e6 [] ∧ ref01_Valid.l0 n t p0 = some x5) k 0 [0, 3] rfl ⟨(hS.subR [0]).sub [] (by decide), hx6⟩ ?_
  rintro k7 x4 w8 ⟨hS9, hl10⟩
  let e1 := rdD p0 x4 z_Tile
  let e3 : Array Value := #[(iv (e1.N)), (iv (e1.E)), (iv (e1.S)), (iv (e1.W))]
  let e4 : Nat × Value := (3, (iv x4))
  let e7 := (adr Aa).add ((x4).toNat * 4)
  let e9 := iv (e1.N)
  let e10 := iv (e1.E)
  let e11 := iv (e1.S)
  let e12 := iv (e1.W)
  cases k7 with
  | zero => rw [ref01_Valid.l0] at hl10; cases hl10
  | succ k7 =>
   rw [ref01_Valid.l0] at hl10
   refine WC.seq (WC.seq (WC.region ?_))
   refine sg 4 [] [0, 3, 11] [e2, e4, (11, (bv (decide (x4 < (p0.length : Int)))))] (by kernel_rfl) ?_
   refine WL.done rfl (WX.next ?_)
   rcases br_some hl10 with ⟨h11, hl10⟩ | ⟨h11, hl10⟩
   ·refine WC.condT2 (fun fb => by kernel_rfl) h11 ?_
    refine WC.skip (WX.next (WC.seq (WC.block (WC.seq (WC.region ?_)))))
    refine sg 2 [] [0, 3, 14, 15] [e2, e4, (14, (sv Aa p0 ca)), (15, (iv x4))] (by kernel_rfl) ?_
    obtain ⟨h12, hl10⟩ := as_some hl10
    refine seg 4 [.v e9, .v e10, .v e11, .v e12] [0, 3, 17] [e2, e4, (17, (.agg e3))] [.idx Aa x4 p0.length, .cell e7 e9, .cell (e7.add 1) e10, .cell (e7.add 2) e11, .cell (e7.add 3) e12] (fun fb => by kernel_rfl) rfl ⟨rowR.adr (hS9.rd 0).1 h12.1 h12.2, rowR.cell (hS9.rd 0).1 z_Tile h12.1 h12.2 0 rfl, rowR.cell (hS9.rd 0).1 z_Tile h12.1 h12.2 1 rfl, rowR.cell (hS9.rd 0).1 z_Tile h12.1 h12.2 2 rfl, rowR.cell (hS9.rd 0).1 z_Tile h12.1 h12.2 3 rfl, trivial⟩ ?_
    refine WL.new hS9 4 [] (fun g => (pt g)) (.cells #[(iv 0), (iv 0), (iv 0), (iv 0)] 44 (0, 0)) [] (fun fb g => by kernel_rfl) trivial (fun g13 w14 hS15 => ?_)
    refine ⟨trivial, ?_⟩
    refine WL.store hS15 0 rfl [(0, e9), (1, e10), (2, e11), (3, e12)] e3 (fun fb => by kernel_rfl) (by kernel_rfl) rfl [] (by decide) (by decide) (fun w16 hS17 => ?_)
    refine ⟨trivial, ?_⟩
    refine WL.done rfl (WX.next (WC.seq ?_))
    refine WC.regionD ([(1, ⟨g13, 0, none⟩, e9), (6, ⟨g13, 1, none⟩, e10), (12, ⟨g13, 2, none⟩, e11), (18, ⟨g13, 3, none⟩, e12), (26, ⟨g13, 0, none⟩, e9), (26, ⟨g13, 1, none⟩, e10), (26, ⟨g13, 2, none⟩, e11), (26, ⟨g13, 3, none⟩, e12)], [0, 1, 3, 4, 5, 6, 8, 9, 10, 11, 12, 14, 15, 16, 17, 18, 20, 21, 22, 23, 24, 25, 26, 28, 29], [[], [0], [0, 1], [0, 1, 2], [0, 1, 2, 3], [0, 1, 2, 3, 4], [0, 1, 2, 3, 4, 5], [0, 1, 2, 3, 4, 5, 6], [0, 1, 2, 3, 4, 5, 6, 7], [0, 1, 2, 3, 4, 5, 6, 7, 8], [0, 1, 2, 3, 4, 5, 6, 7, 8, 9], [0, 1, 2, 3, 4, 5, 6, 7, 8, 9, 10], [0, 1, 2, 3, 4, 5, 6, 7, 8, 9, 10, 11], [0, 1, 2, 3, 4, 5, 6, 7, 8, 9, 10, 11, 12], [0, 1, 2, 3, 4, 5, 6, 7, 8, 9, 10, 11, 12, 13], [0, 1, 2, 3, 4, 5, 6, 7, 8, 9, 10, 11, 12, 13, 14], [0, 1, 2, 3, 4, 5, 6, 7, 8, 9, 10, 11, 12, 13, 14, 15], [0, 1, 2, 3, 4, 5, 6, 7, 8, 9, 10, 11, 12, 13, 14, 15, 16], [0, 1, 2, 3, 4, 5, 6, 7, 8, 9, 10, 11, 12, 13, 14, 15, 16, 17], [0, 1, 2, 3, 4, 5, 6, 7, 8, 9, 10, 11, 12, 13, 14, 15, 16, 17, 18], [0, 1, 2, 3, 4, 5, 6, 7, 8, 9, 10, 11, 12, 13, 14, 15, 16, 17, 18, 19], [0, 1, 2, 3, 4, 5, 6, 7, 8, 9, 10, 11, 12, 13, 14, 15, 16, 17, 18, 19, 20], [0, 1, 2, 3, 4, 5, 6, 7, 8, 9, 10, 11, 12, 13, 14, 15, 16, 17, 18, 19, 20, 21], e5, e5, [0, 1, 2, 3, 4, 5, 6, 7, 8, 9, 10, 11, 12, 13, 14, 15, 16, 17, 18, 19, 20, 21, 22, 23, 24], e5, [0, 1, 2, 3, 4, 5, 6, 7, 8, 9, 10, 11, 12, 13, 14, 15, 16, 17, 18, 19, 20, 21, 22, 23, 24, 25, 26], [0, 1, 2, 3, 4, 5, 6, 7, 8, 9, 10, 11, 12, 13, 14, 15, 16, 17, 18, 19, 20, 21, 22, 23, 24, 25, 26, 27], [0, 1, 2, 3, 4, 5, 6, 7, 8, 9, 10, 11, 12, 13, 14, 15, 16, 17, 18, 19, 20, 21, 22, 23, 24, 25, 26, 27, 28]]) [[0, 1, 2, 3, 4, 5, 6, 7, 8, 9, 10, 11, 12, 13, 14, 15, 16, 17, 18, 19, 20, 21, 22, 23, 24, 25, 26, 27, 28, 29]] (by kernel_rfl) (by kernel_rfl) (NoPanic.seq (NoPanic.block (NoPanic.seq (NoPanic.seq (NoPanic.block (NoPanic.seq (NoPanic.body))))))) ?_
    have hS19 := hS17.drew
    revert hS19
    generalize World.drew w16 = w18
    intro hS19
    refine ⟨⟨hS19.cell 0 rfl 0 rfl, hS19.cell 0 rfl 1 rfl, hS19.cell 0 rfl 2 rfl, hS19.cell 0 rfl 3 rfl, hS19.cell 0 rfl 0 rfl, hS19.cell 0 rfl 1 rfl, hS19.cell 0 rfl 2 rfl, hS19.cell 0 rfl 3 rfl, trivial⟩, forallC ?_ (forallN)⟩
    refine segF 2 [.v e9] [0, 3, 4, 19] [e2, e4, (4, (pt g13)), (19, e9)] [] [0] [(1, ⟨g13, 0, none⟩, e9)] (fun fb => by kernel_rfl) rfl trivial rfl ?_
    obtain ⟨t21, ht22, hl10⟩ := bind_some hl10
    refine WL.call (some 20) 54 #[e9] (fun fb => by kernel_rfl) (ref01_colour_calls (e1.N) t21 _ ht22) (fun v w23 hR24 => ?_)
    obtain ⟨rfl, hk_⟩ := hR24
    have hS25 := hS19.keepN hk_
    refine ⟨⟨hS25.cell 0 rfl 1 rfl, hS25.cell 0 rfl 2 rfl, hS25.cell 0 rfl 3 rfl, hS25.cell 0 rfl 0 rfl, hS25.cell 0 rfl 1 rfl, hS25.cell 0 rfl 2 rfl, hS25.cell 0 rfl 3 rfl, trivial⟩, ?_⟩
    refine sg 5 [] [0, 3, 4, 22] [e2, e4, (4, (pt g13)), (22, (bv (!t21)))] (by kernel_rfl) ?_
    obtain ⟨x26, hx27, hl10⟩ := bind_some hl10
    refine WL.cutW (T := Bool) 10 (fun t => [e2, e4, (4, (pt g13)), (27, (bv t))]) (fun t w1 => (St NoS w w1 e6 [blk g13 (.cells e3 44 (0, 0))] ∧ x26 = t) ∧ CellsOK [] w1) (fun K => ?_) ?_
    ·
     rcases br_some hx27 with ⟨h28, hx27⟩ | ⟨h28, hx27⟩
     ·
      refine WL.setB 22 h28 rfl ?_
      refine sg 10 [] [0, 3, 4, 27] [e2, e4, (4, (pt g13)), (27, (bv true))] (by kernel_rfl) ?_
      injection hx27 with hx27
      exact WL.to K true [0, 3, 4, 27] rfl ⟨⟨(hS25.subR [0]).sub [0] (by decide), hx27.symm⟩, trivial⟩
     refine WL.setB 22 h28 rfl ?_
     refine segF 7 [.v e10] [0, 3, 4, 22, 24] [e2, e4, (4, (pt g13)), (22, (bv false)), (24, e10)] [] [1] [(6, ⟨g13, 1, none⟩, e10)] (fun fb => by kernel_rfl) rfl trivial rfl ?_
     obtain ⟨t29, ht30, hx27⟩ := bind_some hx27
     refine WL.call (some 25) 54 #[e10] (fun fb => by kernel_rfl) (ref01_colour_calls (e1.E) t29 _ ht30) (fun v w31 hR32 => ?_)
     obtain ⟨rfl, hk_⟩ := hR32
     have hS33 := hS25.keepN hk_
     refine ⟨⟨hS33.cell 0 rfl 2 rfl, hS33.cell 0 rfl 3 rfl, hS33.cell 0 rfl 0 rfl, hS33.cell 0 rfl 1 rfl, hS33.cell 0 rfl 2 rfl, hS33.cell 0 rfl 3 rfl, trivial⟩, ?_⟩
     refine sg 10 [] [0, 3, 4, 27] [e2, e4, (4, (pt g13)), (27, (bv (!t29)))] (by kernel_rfl) ?_
     injection hx27 with hx27
     exact WL.to K (!t29) [0, 3, 4, 27] rfl ⟨⟨(hS33.subR [0]).sub [0] (by decide), hx27.symm⟩, trivial⟩
    rintro y34 w36 ⟨⟨hS37, hq35⟩, hF38⟩
    subst hq35
    refine sg 11 [] [0, 3, 4, 28] [e2, e4, (4, (pt g13)), (28, (bv x26))] (by kernel_rfl) ?_
    obtain ⟨x39, hx40, hl10⟩ := bind_some hl10
    refine WL.cutW (T := Bool) 16 (fun t => [e2, e4, (4, (pt g13)), (33, (bv t))]) (fun t w1 => (St NoS w w1 e6 [blk g13 (.cells e3 44 (0, 0))] ∧ x39 = t) ∧ CellsOK [] w1) (fun K => ?_) ?_
    ·
     rcases br_some hx40 with ⟨h41, hx40⟩ | ⟨h41, hx40⟩
     ·
      refine WL.setB 28 h41 rfl ?_
      refine sg 16 [] [0, 3, 4, 33] [e2, e4, (4, (pt g13)), (33, (bv true))] (by kernel_rfl) ?_
      injection hx40 with hx40
      exact WL.to K true [0, 3, 4, 33] rfl ⟨⟨(hS37.subR [0]).sub [0] (by decide), hx40.symm⟩, trivial⟩
     refine WL.setB 28 h41 rfl ?_
     refine segF 13 [.v e11] [0, 3, 4, 28, 30] [e2, e4, (4, (pt g13)), (28, (bv false)), (30, e11)] [] [2] [(12, ⟨g13, 2, none⟩, e11)] (fun fb => by kernel_rfl) rfl trivial rfl ?_
     obtain ⟨t42, ht43, hx40⟩ := bind_some hx40
     refine WL.call (some 31) 54 #[e11] (fun fb => by kernel_rfl) (ref01_colour_calls (e1.S) t42 _ ht43) (fun v w44 hR45 => ?_)
     obtain ⟨rfl, hk_⟩ := hR45
     have hS46 := hS37.keepN hk_
     refine ⟨⟨hS46.cell 0 rfl 3 rfl, hS46.cell 0 rfl 0 rfl, hS46.cell 0 rfl 1 rfl, hS46.cell 0 rfl 2 rfl, hS46.cell 0 rfl 3 rfl, trivial⟩, ?_⟩
     refine sg 16 [] [0, 3, 4, 33] [e2, e4, (4, (pt g13)), (33, (bv (!t42)))] (by kernel_rfl) ?_
     injection hx40 with hx40
     exact WL.to K (!t42) [0, 3, 4, 33] rfl ⟨⟨(hS46.subR [0]).sub [0] (by decide), hx40.symm⟩, trivial⟩
    rintro y47 w49 ⟨⟨hS50, hq48⟩, hF51⟩
    subst hq48
    refine sg 17 [] [0, 3, 4, 34] [e2, e4, (4, (pt g13)), (34, (bv x39))] (by kernel_rfl) ?_
    obtain ⟨x52, hx53, hl10⟩ := bind_some hl10
    refine WL.cutW (T := Bool) 22 (fun t => [e2, e4, (4, (pt g13)), (39, (bv t))]) (fun t w1 => (St NoS w w1 e6 [blk g13 (.cells e3 44 (0, 0))] ∧ x52 = t) ∧ CellsOK [] w1) (fun K => ?_) ?_
    ·
     rcases br_some hx53 with ⟨h54, hx53⟩ | ⟨h54, hx53⟩
     ·
      refine WL.setB 34 h54 rfl ?_
      refine sg 22 [] [0, 3, 4, 39] [e2, e4, (4, (pt g13)), (39, (bv true))] (by kernel_rfl) ?_
      injection hx53 with hx53
      exact WL.to K true [0, 3, 4, 39] rfl ⟨⟨(hS50.subR [0]).sub [0] (by decide), hx53.symm⟩, trivial⟩
     refine WL.setB 34 h54 rfl ?_
     refine segF 19 [.v e12] [0, 3, 4, 34, 36] [e2, e4, (4, (pt g13)), (34, (bv false)), (36, e12)] [] [3] [(18, ⟨g13, 3, none⟩, e12)] (fun fb => by kernel_rfl) rfl trivial rfl ?_
     obtain ⟨t55, ht56, hx53⟩ := bind_some hx53
     refine WL.call (some 37) 54 #[e12] (fun fb => by kernel_rfl) (ref01_colour_calls (e1.W) t55 _ ht56) (fun v w57 hR58 => ?_)
     obtain ⟨rfl, hk_⟩ := hR58
     have hS59 := hS50.keepN hk_
     refine ⟨⟨hS59.cell 0 rfl 0 rfl, hS59.cell 0 rfl 1 rfl, hS59.cell 0 rfl 2 rfl, hS59.cell 0 rfl 3 rfl, trivial⟩, ?_⟩
     refine sg 22 [] [0, 3, 4, 39] [e2, e4, (4, (pt g13)), (39, (bv (!t55)))] (by kernel_rfl) ?_
     injection hx53 with hx53
     exact WL.to K (!t55) [0, 3, 4, 39] rfl ⟨⟨(hS59.subR [0]).sub [0] (by decide), hx53.symm⟩, trivial⟩
    rintro y60 w62 ⟨⟨hS63, hq61⟩, hF65⟩
    subst hq61
    refine sg 23 [] [0, 3, 4, 40] [e2, e4, (4, (pt g13)), (40, (bv x52))] (by kernel_rfl) ?_
    obtain ⟨x66, hx67, hl10⟩ := bind_some hl10
    refine WL.cutW (T := Bool) 30 (fun t => [e2, e4, (47, (bv t))]) (fun t w1 => (St NoS w w1 e6 [] ∧ x66 = t) ∧ CellsOK [] w1) (fun K => ?_) ?_
    ·
     rcases br_some hx67 with ⟨h68, hx67⟩ | ⟨h68, hx67⟩
     ·
      refine WL.setB 40 h68 rfl ?_
      refine sg 30 [] [0, 3, 47] [e2, e4, (47, (bv true))] (by kernel_rfl) ?_
      injection hx67 with hx67
      exact WL.to K true [0, 3, 47] rfl ⟨⟨(hS63.subR [0]).sub [] (by decide), hx67.symm⟩, trivial⟩
     refine WL.setB 40 h68 rfl ?_
     refine sg 25 [] [0, 3, 4, 40, 41, 42] [e2, e4, (4, (pt g13)), (40, (bv false)), (41, (sv Aa p0 ca)), (42, (iv x4))] (by kernel_rfl) ?_
     obtain ⟨h69, hx67⟩ := as_some hx67
     refine seg 26 [] [0, 3, 4, 40, 43] [e2, e4, (4, (pt g13)), (40, (bv false)), (43, (.slice e8 (x4.toNat - (0 : Int).toNat) e13))] [.idx (some ⟨0, 0, none⟩) (0 : Int) (x4.toNat + 1), .idx (some ⟨0, 0, none⟩) x4 (ca + 1)] (fun fb => by kernel_rfl) rfl ⟨cut1 h69.1 h69.2.1, cut2 h69.1 h69.2.1 h69.2.2 (hS63.rd 0).1.2, trivial⟩ ?_
     refine WL.reE [0, 3, 4, 40, 43] [(0, (.slice Aa p0.length ca)), (3, (iv x4)), (4, (pt g13)), (40, (.bool false)), (43, (.slice (subA Aa ca (0 : Int).toNat 4) (x4.toNat - (0 : Int).toNat) (ca - (0 : Int).toNat)))] [(0, (.slice Aa p0.length ca)), (3, (iv x4)), (4, (pt g13)), (40, (.bool false)), (43, (.slice (subA Aa ca (0 : Int).toNat 4) (cut p0 (0 : Int) x4).length (ca - (0 : Int).toNat)))] rfl (by rw [cut_length h69.1 h69.2.1 h69.2.2]) ?_
     have hS70 := hS63.cutR 0 rfl h69.1 h69.2.1 h69.2.2
     refine segF 27 [.v e9, .v e10, .v e11, .v e12] [0, 3, 40, 43, 44] [e2, e4, (40, (bv false)), (43, (sv e8 (cut p0 (0 : Int) x4) e13)), (44, (.agg e3))] [] [4, 5, 6, 7] [(26, ⟨g13, 0, none⟩, e9), (26, ⟨g13, 1, none⟩, e10), (26, ⟨g13, 2, none⟩, e11), (26, ⟨g13, 3, none⟩, e12)] (fun fb => by kernel_rfl) rfl trivial rfl ?_
     obtain ⟨t71, ht72, hx67⟩ := bind_some hx67
     refine WL.call (some 45) 55 #[(sv e8 (cut p0 (0 : Int) x4) e13), (.agg e3)] (fun fb => by kernel_rfl) (ref01_Index_calls _ (cut p0 (0 : Int) x4) e1 e8 e13 t71 _ (hS70.rd 0) ht72) (fun v w73 hR74 => ?_)
     obtain ⟨rfl, hk_⟩ := hR74
     have hS75 := hS70.keepN hk_
     refine ⟨trivial, ?_⟩
     refine sg 30 [] [0, 3, 47] [e2, e4, (47, (bv (decide (t71 ≥ 0))))] (by kernel_rfl) ?_
     injection hx67 with hx67
     exact WL.to K (decide (t71 ≥ 0)) [0, 3, 47] rfl ⟨⟨(hS75.subR [1]).sub [] (by decide), hx67.symm⟩, trivial⟩
    rintro y76 w78 ⟨⟨hS79, hq77⟩, hF80⟩
    subst hq77
    refine WL.done rfl (WX.next ?_)
    rcases br_some hl10 with ⟨h81, hl10⟩ | ⟨h81, hl10⟩
    ·refine WC.condT2 (fun fb => by kernel_rfl) h81 ?_
     refine WC.seq (WC.region ?_)
     refine sg 1 [] [2] [(2, (bv false))] (by kernel_rfl) ?_
     refine WL.done rfl (WX.next ?_)
     refine WC.ret ?_
     injection hl10 with hl10
     subst hl10
     injection hf with hf
     subst hf
     exact WX.blockR (WX.thenR (WX.thenR (WX.blockR (WX.thenR (WX.ret_ [] (bv false) [] (fun fb => by kernel_rfl) trivial ⟨_, rfl, rfl, hS79.keep⟩)))))
    refine WC.condF2 (fun fb => by kernel_rfl) h81 ?_
    refine WC.skip ?_
    refine WX.blockN (WX.next ?_)
    refine WC.region ?_
    refine sg 3 [] [0, 3] [e2, (3, (iv (w64 (x4 + 1))))] (by kernel_rfl) ?_
    refine WL.done rfl ?_
    exact WX.again k7 (Nat.lt_succ_self _) (w64 (x4 + 1)) [0, 3] rfl ⟨(hS79.subR [0]).sub [] (by decide), hl10⟩
   refine WC.condF2 (fun fb => by kernel_rfl) h11 ?_
   refine WC.exit ?_
   injection hl10 with hl10
   exact WX.thenX (WX.thenX (WX.blockHere (WX.to Kx5 () [] rfl ⟨(hS9.subR [0]).sub [] (by decide), hl10.symm⟩)))
 rintro y85 w82 ⟨hS83, hq84⟩
 subst hq84
 have hf := sum_inr hf
 refine WX.next (WC.seq (WC.region ?_))
 refine sg 1 [] [2] [(2, (bv true))] (by kernel_rfl) ?_
 refine WL.done rfl (WX.next ?_)
 refine WC.ret ?_
 injection hf with hf
 subst hf
 exact WX.ret_ [] (bv true) [] (fun fb => by kernel_rfl) trivial ⟨_, rfl, rfl, hS83.keep⟩
theorem ref06_Colours_calls (k : Nat) (p0 : List Tile) (Aa : Option Addr) (ca : Nat) (r : Int × Int) (w : World) (hR0 : RO NoS w (rowR enc_Tile Aa ca p0)) (hf : ref06_Colours k p0 = some r) :
  CallsR Tryz.prog 21 #[(sv Aa p0 ca)] w (fun v w' => v = (.tuple #[(iv r.1), (iv r.2)]) ∧ Keeps NoS w w') := by
 have hS : St NoS w w [rowR enc_Tile Aa ca p0] [] := St.init (ro_cons hR0 (ro_nil _ _))
 refine enter 36 Tryz.func21 rfl Tryz.ntmps21 rfl ?_
 unfold ref06_Colours at hf
 refine WC.seq (WC.region ?_)
 refine sg 2 [] [0] [(0, (sv Aa p0 ca))] (by kernel_rfl) ?_
 refine WL.done rfl (WX.next (WC.seq (WC.region ?_)))
 refine sg 2 [] [0, 4, 5] [(0, (sv Aa p0 ca)), (4, (iv 0)), (5, (iv 0))] (by kernel_rfl) ?_
 refine WL.done rfl (WX.next (WC.seq (WC.seq (WC.region ?_))))
 refine sg 1 [] [0, 4, 5, 6] [(0, (sv Aa p0 ca)), (4, (iv 0)), (5, (iv 0)), (6, (iv 0))] (by kernel_rfl) ?_
 refine WL.done rfl (WX.next ?_)
 obtain ⟨x7, hx8, hf⟩ := bind_some hf
 let e3 : Nat × Value := (0, (sv Aa p0 ca))
 let e6 : List Nat := [0, 1, 2, 3, 4, 5, 6, 7, 8, 9, 10, 11, 12, 13, 14, 15, 16, 17]
 refine WC.cutN (T := Int × Int) (fun t => [(4, (iv t.1)), (5, (iv t.2))]) (fun t w1 => St NoS w w1 [rowR enc_Tile Aa ca p0] [] ∧ x7 = t) (fun Kx7 => ?_) ?_
 ·
  refine WC.block ?_
  refine WC.loop (T := Int × Int × Int) (fun t => [e3, (4, (iv t.1)), (5, (iv t.2.1)), (6, (iv t.2.2))]) (fun n t w1 => St NoS w w1 [rowR enc_Tile Aa ca p0] [] ∧ ref06_Colours.l0 n t.1 t.2.1 t.2.2 p0 = some x7) k (0, 0, 0) [0, 4, 5, 6] rfl ⟨(hS.subR [0]).sub [] (by decide), hx8⟩ ?_
  rintro k9 ⟨x3, x4, x5⟩ w10 ⟨hS11, hl12⟩
  let e1 := rdD p0 x5 z_Tile
  let e2 := (adr Aa).add ((x5).toNat * 4)
  let e4 : Nat × Value := (4, (iv (maxI (maxI x3 (w64 ((e1.N) + 1))) (w64 ((e1.S) + 1)))))
  let e5 : Nat × Value := (5, (iv (maxI (maxI x4 (w64 ((e1.E) + 1))) (w64 ((e1.W) + 1)))))
  let e7 := iv (e1.N)
  let e8 := iv (e1.E)
  let e9 := iv (e1.S)
  let e10 := iv (e1.W)
  cases k9 with
  | zero => rw [ref06_Colours.l0] at hl12; cases hl12
  | succ k9 =>
   rw [ref06_Colours.l0] at hl12
   refine WC.seq (WC.seq (WC.region ?_))
   refine sg 4 [] [0, 4, 5, 6, 11] [e3, (4, (iv x3)), (5, (iv x4)), (6, (iv x5)), (11, (bv (decide (x5 < (p0.length : Int)))))] (by kernel_rfl) ?_
   refine WL.done rfl (WX.next ?_)
   rcases br_some hl12 with ⟨h13, hl12⟩ | ⟨h13, hl12⟩
   ·refine WC.condT2 (fun fb => by kernel_rfl) h13 ?_
    refine WC.skip (WX.next (WC.seq (WC.block (WC.seq (WC.region ?_)))))
    refine sg 2 [] [0, 4, 5, 6, 14, 15] [e3, (4, (iv x3)), (5, (iv x4)), (6, (iv x5)), (14, (sv Aa p0 ca)), (15, (iv x5))] (by kernel_rfl) ?_
    obtain ⟨h14, hl12⟩ := as_some hl12
    refine seg 4 [.v e7, .v e8, .v e9, .v e10] [0, 4, 5, 6, 17] [e3, (4, (iv x3)), (5, (iv x4)), (6, (iv x5)), (17, (.agg #[e7, e8, e9, e10]))] [.idx Aa x5 p0.length, .cell e2 e7, .cell (e2.add 1) e8, .cell (e2.add 2) e9, .cell (e2.add 3) e10] (fun fb => by kernel_rfl) rfl ⟨rowR.adr (hS11.rd 0).1 h14.1 h14.2, rowR.cell (hS11.rd 0).1 z_Tile h14.1 h14.2 0 rfl, rowR.cell (hS11.rd 0).1 z_Tile h14.1 h14.2 1 rfl, rowR.cell (hS11.rd 0).1 z_Tile h14.1 h14.2 2 rfl, rowR.cell (hS11.rd 0).1 z_Tile h14.1 h14.2 3 rfl, trivial⟩ ?_
    refine WL.new hS11 7 [] (fun g => (pt g)) (.cells #[(iv 0), (iv 0), (iv 0), (iv 0)] 44 (0, 0)) [] (fun fb g => by kernel_rfl) trivial (fun g15 w16 hS17 => ?_)
    refine ⟨trivial, ?_⟩
    refine WL.store hS17 0 rfl [(0, e7), (1, e8), (2, e9), (3, e10)] #[e7, e8, e9, e10] (fun fb => by kernel_rfl) (by kernel_rfl) rfl [] (by decide) (by decide) (fun w18 hS19 => ?_)
    refine ⟨trivial, ?_⟩
    refine WL.done rfl (WX.next ?_)
    refine WC.regionD ([(2, ⟨g15, 0, none⟩, e7), (5, ⟨g15, 2, none⟩, e9), (10, ⟨g15, 1, none⟩, e8), (13, ⟨g15, 3, none⟩, e10)], e6, [[], [], [1], [1, 2], [], [4], [4, 5], [0, 1, 2, 3, 4, 5, 6], [], [], [9], [9, 10], [], [12], [12, 13], [8, 9, 10, 11, 12, 13, 14], [0, 1, 2, 3, 4, 5, 6, 7], [0, 1, 2, 3, 4, 5, 6, 7, 8, 9, 10, 11, 12, 13, 14, 15, 16]]) [e6] (by kernel_rfl) (by kernel_rfl) (NoPanic.block (NoPanic.seq (NoPanic.seq (NoPanic.block (NoPanic.seq (NoPanic.body)))))) ?_
    have hS22 := hS19.drew
    revert hS22
    generalize World.drew w18 = w20
    intro hS22
    refine ⟨⟨hS22.cell 0 rfl 0 rfl, hS22.cell 0 rfl 2 rfl, hS22.cell 0 rfl 1 rfl, hS22.cell 0 rfl 3 rfl, trivial⟩, forallC ?_ (forallN)⟩
    refine segF 18 [.v e7, .v e9, .v e8, .v e10] [0, 4, 5, 6] [e3, e4, e5, (6, (iv x5))] [] [0, 1, 2, 3] [(2, ⟨g15, 0, none⟩, e7), (5, ⟨g15, 2, none⟩, e9), (10, ⟨g15, 1, none⟩, e8), (13, ⟨g15, 3, none⟩, e10)] (fun fb => by kernel_rfl) rfl trivial rfl ?_
    refine WL.done rfl ?_
    refine WX.blockN (WX.next ?_)
    refine WC.region ?_
    refine sg 3 [] [0, 4, 5, 6] [e3, e4, e5, (6, (iv (w64 (x5 + 1))))] (by kernel_rfl) ?_
    refine WL.done rfl ?_
    exact WX.again k9 (Nat.lt_succ_self _) (maxI (maxI x3 (w64 ((e1.N) + 1))) (w64 ((e1.S) + 1)), maxI (maxI x4 (w64 ((e1.E) + 1))) (w64 ((e1.W) + 1)), w64 (x5 + 1)) [0, 4, 5, 6] rfl ⟨(hS22.subR [0]).sub [] (by decide), hl12⟩
   refine WC.condF2 (fun fb => by kernel_rfl) h13 ?_
   refine WC.exit ?_
   injection hl12 with hl12
   exact WX.thenX (WX.thenX (WX.blockHere (WX.to Kx7 (x3, x4) [4, 5] rfl ⟨(hS11.subR [0]).sub [] (by decide), hl12.symm⟩)))
 rintro y26 w23 ⟨hS24, hq25⟩
 subst hq25
 refine WX.next (WC.seq (WC.region ?_))
 refine sg 4 [] [2, 3] [(2, (iv x7.1)), (3, (iv x7.2))] (by kernel_rfl) ?_
 refine WL.done rfl (WX.next ?_)
 refine WC.ret ?_
 injection hf with hf
 subst hf
 exact WX.ret_ [] (.tuple #[(iv x7.1), (iv x7.2)]) [] (fun fb => by kernel_rfl) trivial ⟨_, rfl, rfl, hS24.keep⟩
theorem ref06_valid_calls (p0 : Frac)  (r : Bool) (w : World)  (hf : ref06_valid p0 = some r) :
  CallsR Tryz.prog 53 #[(.agg #[(iv p0.Num), (iv p0.Den)])] w (fun v w' => v = (bv r) ∧ Keeps NoS w w') := by
 have hS : St NoS w w [] [] := St.init (ro_nil _ _)
 refine enter 21 Tryz.func53 rfl Tryz.ntmps53 rfl ?_
 unfold ref06_valid at hf
 refine WC.seq (WC.region ?_)
 refine WL.new hS 1 [] (fun g => (pt g)) (.cells #[(iv p0.Num), (iv p0.Den)] 33 (0, 0)) [] (fun fb g => by kernel_rfl) trivial (fun g1 w2 hS3 => ?_)
 refine ⟨trivial, ?_⟩
 refine sg 2 [] [1] [(1, (pt g1))] (by kernel_rfl) ?_
 refine WL.done rfl (WX.next (WC.seq (WC.region ?_)))
 refine seg 4 [.v (iv p0.Den)] [1, 6] [(1, (pt g1)), (6, (bv (decide (p0.Den ≥ 1))))] [.cell ⟨g1, 1, none⟩ (iv p0.Den)] (fun fb => by kernel_rfl) rfl ⟨hS3.cell 0 rfl 1 rfl, trivial⟩ ?_
 refine WL.cutV (T := Bool) 8 (fun t => [(10, (bv t)), (1, (pt g1))]) (fun t => ((decide (p0.Den ≥ 1)) && (decide (p0.Den ≤ 1000000))) = t) (fun K => ?_) ?_
 ·
  rcases Bool.eq_false_or_eq_true (decide (p0.Den ≥ 1)) with h4 | h4
  ·
   refine WL.setB 6 h4 rfl ?_
   refine seg 8 [.v (iv p0.Den)] [1, 10] [(1, (pt g1)), (10, (bv (decide (p0.Den ≤ 1000000))))] [.cell ⟨g1, 1, none⟩ (iv p0.Den)] (fun fb => by kernel_rfl) rfl ⟨hS3.cell 0 rfl 1 rfl, trivial⟩ ?_
   exact WL.toV K (decide (p0.Den ≤ 1000000)) [10, 1] rfl (by first | (rw [h4]; done) | (rw [h4]; rfl))
  refine WL.setB 6 h4 rfl ?_
  refine sg 8 [] [1, 10] [(1, (pt g1)), (10, (bv false))] (by kernel_rfl) ?_
  exact WL.toV K false [10, 1] rfl (by first | (rw [h4]; done) | (rw [h4]; rfl))
 rintro b5 rfl
 refine sg 9 [] [1, 11] [(1, (pt g1)), (11, (bv ((decide (p0.Den ≥ 1)) && (decide (p0.Den ≤ 1000000)))))] (by kernel_rfl) ?_
 refine WL.cutV (T := Bool) 13 (fun t => [(15, (bv t)), (1, (pt g1))]) (fun t => (((decide (p0.Den ≥ 1)) && (decide (p0.Den ≤ 1000000))) && (decide (p0.Num ≥ (-1000000)))) = t) (fun K => ?_) ?_
 ·
  rcases Bool.eq_false_or_eq_true ((decide (p0.Den ≥ 1)) && (decide (p0.Den ≤ 1000000))) with h7 | h7
  ·
   refine WL.setB 11 h7 rfl ?_
   refine seg 13 [.v (iv p0.Num)] [1, 15] [(1, (pt g1)), (15, (bv (decide (p0.Num ≥ (-1000000)))))] [.cell ⟨g1, 0, none⟩ (iv p0.Num)] (fun fb => by kernel_rfl) rfl ⟨hS3.cell 0 rfl 0 rfl, trivial⟩ ?_
   exact WL.toV K (decide (p0.Num ≥ (-1000000))) [15, 1] rfl (by first | (rw [h7]; done) | (rw [h7]; rfl))
  refine WL.setB 11 h7 rfl ?_
  refine sg 13 [] [1, 15] [(1, (pt g1)), (15, (bv false))] (by kernel_rfl) ?_
  exact WL.toV K false [15, 1] rfl (by first | (rw [h7]; done) | (rw [h7]; rfl))
 rintro b8 rfl
 refine sg 14 [] [1, 16] [(1, (pt g1)), (16, (bv (((decide (p0.Den ≥ 1)) && (decide (p0.Den ≤ 1000000))) && (decide (p0.Num ≥ (-1000000))))))] (by kernel_rfl) ?_
 refine WL.cutV (T := Bool) 18 (fun t => [(20, (bv t))]) (fun t => ((((decide (p0.Den ≥ 1)) && (decide (p0.Den ≤ 1000000))) && (decide (p0.Num ≥ (-1000000)))) && (decide (p0.Num ≤ 1000000))) = t) (fun K => ?_) ?_
 ·
  rcases Bool.eq_false_or_eq_true (((decide (p0.Den ≥ 1)) && (decide (p0.Den ≤ 1000000))) && (decide (p0.Num ≥ (-1000000)))) with h9 | h9
  ·
   refine WL.setB 16 h9 rfl ?_
   refine seg 18 [.v (iv p0.Num)] [20] [(20, (bv (decide (p0.Num ≤ 1000000))))] [.cell ⟨g1, 0, none⟩ (iv p0.Num)] (fun fb => by kernel_rfl) rfl ⟨hS3.cell 0 rfl 0 rfl, trivial⟩ ?_
   exact WL.toV K (decide (p0.Num ≤ 1000000)) [20] rfl (by first | (rw [h9]; done) | (rw [h9]; rfl))
  refine WL.setB 16 h9 rfl ?_
  refine sg 18 [] [20] [(20, (bv false))] (by kernel_rfl) ?_
  exact WL.toV K false [20] rfl (by first | (rw [h9]; done) | (rw [h9]; rfl))
 rintro b10 rfl
 refine sg 19 [] [2] [(2, (bv ((((decide (p0.Den ≥ 1)) && (decide (p0.Den ≤ 1000000))) && (decide (p0.Num ≥ (-1000000)))) && (decide (p0.Num ≤ 1000000)))))] (by kernel_rfl) ?_
 refine WL.done rfl (WX.next ?_)
 refine WC.ret ?_
 injection hf with hf
 subst hf
 exact WX.ret_ [] (bv ((((decide (p0.Den ≥ 1)) && (decide (p0.Den ≤ 1000000))) && (decide (p0.Num ≥ (-1000000)))) && (decide (p0.Num ≤ 1000000)))) [] (fun fb => by kernel_rfl) trivial ⟨_, rfl, rfl, hS3.keep⟩
theorem ref06_fractions_calls (k : Nat) (p0 : List Frac) (p1 : Int) (p2 : Int) (Aa : Option Addr) (ca : Nat) (r : Bool) (w : World) (hR0 : RO NoS w (rowR enc_Frac Aa ca p0)) (hf : ref06_fractions k p0 p1 p2 = some r) :
  CallsR Tryz.prog 24 #[(sv Aa p0 ca), (iv p1), (iv p2)] w (fun v w' => v = (bv r) ∧ Keeps NoS w w') := by
 have hS : St NoS w w [rowR enc_Frac Aa ca p0] [] := St.init (ro_cons hR0 (ro_nil _ _))
 refine enter 32 Tryz.func24 rfl Tryz.ntmps24 rfl ?_
 unfold ref06_fractions at hf
 refine WC.seq (WC.region ?_)
 refine sg 1 [] [0, 1, 2] [(0, (sv Aa p0 ca)), (1, (iv p1)), (2, (iv p2))] (by kernel_rfl) ?_
 refine WL.done rfl (WX.next (WC.seq (WC.seq (WC.region ?_))))
 refine sg 4 [] [0, 1, 2, 11] [(0, (sv Aa p0 ca)), (1, (iv p1)), (2, (iv p2)), (11, (bv ((p0.length : Int) != p1)))] (by kernel_rfl) ?_
 refine WL.done rfl (WX.next ?_)
 rcases br_some hf with ⟨h3, hf⟩ | ⟨h3, hf⟩
 ·refine WC.condT2 (fun fb => by kernel_rfl) h3 ?_
  refine WC.seq (WC.region ?_)
  refine sg 1 [] [6] [(6, (bv false))] (by kernel_rfl) ?_
  refine WL.done rfl (WX.next ?_)
  refine WC.ret ?_
  injection hf with hf
  subst hf
  exact WX.thenR (WX.ret_ [] (bv false) [] (fun fb => by kernel_rfl) trivial ⟨_, rfl, rfl, hS.keep⟩)
 refine WC.condF2 (fun fb => by kernel_rfl) h3 ?_
 refine WC.skip (WX.next (WC.seq (WC.seq (WC.region ?_))))
 refine sg 1 [] [0, 1, 2, 7] [(0, (sv Aa p0 ca)), (1, (iv p1)), (2, (iv p2)), (7, (iv 0))] (by kernel_rfl) ?_
 refine WL.done rfl (WX.next ?_)
 obtain ⟨x5, hx7, hf⟩ := bind_some hf
 let e2 : Nat × Value := (0, (sv Aa p0 ca))
 let e3 : Nat × Value := (1, (iv p1))
 let e4 : Nat × Value := (2, (iv p2))
 refine WC.cutN (T := Unit) (fun t => []) (fun t w1 => St NoS w w1 [rowR enc_Frac Aa ca p0] [] ∧ x5 = .inr t) (fun Kx5 => ?_) ?_
 ·
  refine WC.block ?_
  refine WC.loop (T := Int) (fun t => [e2, e3, e4, (7, (iv t))]) (fun n t w1 => St NoS w w1 [rowR enc_Frac Aa ca p0] [] ∧ ref06_fractions.l0 n t p0 p1 p2 = some x5) k 0 [0, 1, 2, 7] rfl ⟨(hS.subR [0]).sub [] (by decide), hx7⟩ ?_
  rintro k8 x4 w9 ⟨hS10, hl11⟩
  let e1 := rdD p0 x4 z_Frac
  let e5 := (adr Aa).add ((x4).toNat * 2)
  let e6 : Nat × Value := (7, (iv x4))
  cases k8 with
  | zero => rw [ref06_fractions.l0] at hl11; cases hl11
  | succ k8 =>
   rw [ref06_fractions.l0] at hl11
   refine WC.seq (WC.seq (WC.region ?_))
   refine sg 3 [] [0, 1, 2, 7, 14] [e2, e3, e4, e6, (14, (bv (decide (x4 < p1))))] (by kernel_rfl) ?_
   refine WL.done rfl (WX.next ?_)
   rcases br_some hl11 with ⟨h12, hl11⟩ | ⟨h12, hl11⟩
   ·refine WC.condT2 (fun fb => by kernel_rfl) h12 ?_
    refine WC.skip (WX.next (WC.seq (WC.block (WC.seq (WC.region ?_)))))
    refine sg 2 [] [0, 1, 2, 7, 17, 18] [e2, e3, e4, e6, (17, (sv Aa p0 ca)), (18, (iv x4))] (by kernel_rfl) ?_
    obtain ⟨h13, hl11⟩ := as_some hl11
    refine seg 4 [.v (iv (e1.Num)), .v (iv (e1.Den))] [0, 1, 2, 7, 20] [e2, e3, e4, e6, (20, (.agg #[(iv (e1.Num)), (iv (e1.Den))]))] [.idx Aa x4 p0.length, .cell e5 (iv (e1.Num)), .cell (e5.add 1) (iv (e1.Den))] (fun fb => by kernel_rfl) rfl ⟨rowR.adr (hS10.rd 0).1 h13.1 h13.2, rowR.cell (hS10.rd 0).1 z_Frac h13.1 h13.2 0 rfl, rowR.cell (hS10.rd 0).1 z_Frac h13.1 h13.2 1 rfl, trivial⟩ ?_
    obtain ⟨t14, ht15, hl11⟩ := bind_some hl11
    refine WL.call (some 21) 53 #[(.agg #[(iv (e1.Num)), (iv (e1.Den))])] (fun fb => by kernel_rfl) (ref06_valid_calls e1 t14 _ ht15) (fun v w16 hR17 => ?_)
    obtain ⟨rfl, hk_⟩ := hR17
    have hS18 := hS10.keepN hk_
    refine ⟨trivial, ?_⟩
    refine sg 7 [] [0, 1, 2, 7, 23] [e2, e3, e4, e6, (23, (bv (!t14)))] (by kernel_rfl) ?_
    refine WL.cutV (T := Bool) 15 (fun t => [(31, (bv t)), e2, e3, e4, e6]) (fun t => ((!t14) || (decide (e1.Num < p2))) = t) (fun K => ?_) ?_
    ·
     rcases Bool.eq_false_or_eq_true (!t14) with h19 | h19
     ·
      refine WL.setB 23 h19 rfl ?_
      refine sg 15 [] [0, 1, 2, 7, 31] [e2, e3, e4, e6, (31, (bv true))] (by kernel_rfl) ?_
      exact WL.toV K true [31, 0, 1, 2, 7] rfl (by first | (rw [h19]; done) | (rw [h19]; rfl))
     refine WL.setB 23 h19 rfl ?_
     refine seg 15 [.v (iv (e1.Num))] [0, 1, 2, 7, 31] [e2, e3, e4, e6, (31, (bv (decide (e1.Num < p2))))] [.idx Aa x4 p0.length, .cell e5 (iv (e1.Num))] (fun fb => by kernel_rfl) rfl ⟨rowR.adr (hS18.rd 0).1 h13.1 h13.2, rowR.cell (hS18.rd 0).1 z_Frac h13.1 h13.2 0 rfl, trivial⟩ ?_
     exact WL.toV K (decide ((rdD p0 x4 z_Frac).Num < p2)) [31, 0, 1, 2, 7] rfl (by first | (rw [h19]; done) | (rw [h19]; rfl))
    rintro b20 rfl
    refine WL.done rfl (WX.next ?_)
    rcases br_some hl11 with ⟨h21, hl11⟩ | ⟨h21, hl11⟩
    ·refine WC.condT2 (fun fb => by kernel_rfl) h21 ?_
     refine WC.seq (WC.region ?_)
     refine sg 1 [] [6] [(6, (bv false))] (by kernel_rfl) ?_
     refine WL.done rfl (WX.next ?_)
     refine WC.ret ?_
     injection hl11 with hl11
     subst hl11
     injection hf with hf
     subst hf
     exact WX.blockR (WX.thenR (WX.thenR (WX.blockR (WX.thenR (WX.ret_ [] (bv false) [] (fun fb => by kernel_rfl) trivial ⟨_, rfl, rfl, hS18.keep⟩)))))
    refine WC.condF2 (fun fb => by kernel_rfl) h21 ?_
    refine WC.skip ?_
    refine WX.blockN (WX.next ?_)
    refine WC.region ?_
    refine sg 3 [] [0, 1, 2, 7] [e2, e3, e4, (7, (iv (w64 (x4 + 1))))] (by kernel_rfl) ?_
    refine WL.done rfl ?_
    exact WX.again k8 (Nat.lt_succ_self _) (w64 (x4 + 1)) [0, 1, 2, 7] rfl ⟨(hS18.subR [0]).sub [] (by decide), hl11⟩
   refine WC.condF2 (fun fb => by kernel_rfl) h12 ?_
   refine WC.exit ?_
   injection hl11 with hl11
   exact WX.thenX (WX.thenX (WX.blockHere (WX.to Kx5 () [] rfl ⟨(hS10.subR [0]).sub [] (by decide), hl11.symm⟩)))
 rintro y26 w22 ⟨hS23, hq25⟩
 subst hq25
 have hf := sum_inr hf
 refine WX.next (WC.seq (WC.region ?_))
 refine sg 1 [] [6] [(6, (bv true))] (by kernel_rfl) ?_
 refine WL.done rfl (WX.next ?_)
 refine WC.ret ?_
 injection hf with hf
 subst hf
 exact WX.ret_ [] (bv true) [] (fun fb => by kernel_rfl) trivial ⟨_, rfl, rfl, hS23.keep⟩
theorem ref06_prime_calls (k : Nat) (p0 : Int)  (r : Bool) (w : World)  (hf : ref06_prime k p0 = some r) :
  CallsR Tryz.prog 25 #[(iv p0)] w (fun v w' => v = (bv r) ∧ Keeps NoS w w') := by
 have hS : St NoS w w [] [] := St.init (ro_nil _ _)
 refine enter 21 Tryz.func25 rfl Tryz.ntmps25 rfl ?_
 unfold ref06_prime at hf
 refine WC.seq (WC.region ?_)
 refine sg 1 [] [0] [(0, (iv p0))] (by kernel_rfl) ?_
 refine WL.done rfl (WX.next (WC.seq (WC.seq (WC.region ?_))))
 refine sg 3 [] [0, 6] [(0, (iv p0)), (6, (bv (decide (p0 < 2))))] (by kernel_rfl) ?_
 refine WL.cutV (T := Bool) 6 (fun t => [(9, (bv t)), (0, (iv p0))]) (fun t => ((decide (p0 < 2)) || (decide (p0 > 1000000))) = t) (fun K => ?_) ?_
 ·
  rcases Bool.eq_false_or_eq_true (decide (p0 < 2)) with h3 | h3
  ·
   refine WL.setB 6 h3 rfl ?_
   refine sg 6 [] [0, 9] [(0, (iv p0)), (9, (bv true))] (by kernel_rfl) ?_
   exact WL.toV K true [9, 0] rfl (by first | (rw [h3]; done) | (rw [h3]; rfl))
  refine WL.setB 6 h3 rfl ?_
  refine sg 6 [] [0, 9] [(0, (iv p0)), (9, (bv (decide (p0 > 1000000))))] (by kernel_rfl) ?_
  exact WL.toV K (decide (p0 > 1000000)) [9, 0] rfl (by first | (rw [h3]; done) | (rw [h3]; rfl))
 rintro b4 rfl
 refine WL.done rfl (WX.next ?_)
 rcases br_some hf with ⟨h5, hf⟩ | ⟨h5, hf⟩
 ·refine WC.condT2 (fun fb => by kernel_rfl) h5 ?_
  refine WC.seq (WC.region ?_)
  refine sg 1 [] [2] [(2, (bv false))] (by kernel_rfl) ?_
  refine WL.done rfl (WX.next ?_)
  refine WC.ret ?_
  injection hf with hf
  subst hf
  exact WX.thenR (WX.ret_ [] (bv false) [] (fun fb => by kernel_rfl) trivial ⟨_, rfl, rfl, hS.keep⟩)
 refine WC.condF2 (fun fb => by kernel_rfl) h5 ?_
 refine WC.skip (WX.next (WC.seq (WC.seq (WC.region ?_))))
 refine sg 1 [] [0, 3] [(0, (iv p0)), (3, (iv 2))] (by kernel_rfl) ?_
 refine WL.done rfl (WX.next ?_)
 obtain ⟨x8, hx9, hf⟩ := bind_some hf
 refine WC.cutN (T := Unit) (fun t => []) (fun t w1 => St NoS w w1 [] [] ∧ x8 = .inr t) (fun Kx8 => ?_) ?_
 ·
  refine WC.block ?_
  refine WC.loop (T := Int) (fun t => [(0, (iv p0)), (3, (iv t))]) (fun n t w1 => St NoS w w1 [] [] ∧ ref06_prime.l0 n t p0 = some x8) k 2 [0, 3] rfl ⟨(hS.subR []).sub [] (by decide), hx9⟩ ?_
  rintro k10 x7 w11 ⟨hS12, hl13⟩
  cases k10 with
  | zero => rw [ref06_prime.l0] at hl13; cases hl13
  | succ k10 =>
   rw [ref06_prime.l0] at hl13
   refine WC.seq (WC.seq (WC.region ?_))
   refine sg 5 [] [0, 3, 14] [(0, (iv p0)), (3, (iv x7)), (14, (bv (decide (w64 (x7 * x7) ≤ p0))))] (by kernel_rfl) ?_
   refine WL.done rfl (WX.next ?_)
   rcases br_some hl13 with ⟨h14, hl13⟩ | ⟨h14, hl13⟩
   ·refine WC.condT2 (fun fb => by kernel_rfl) h14 ?_
    refine WC.skip (WX.next (WC.seq (WC.block (WC.seq (WC.region ?_)))))
    refine sg 2 [] [0, 3, 17, 18] [(0, (iv p0)), (3, (iv x7)), (17, (iv p0)), (18, (iv x7))] (by kernel_rfl) ?_
    obtain ⟨h15, hl13⟩ := as_some hl13
    refine seg 4 [] [0, 3, 20] [(0, (iv p0)), (3, (iv x7)), (20, (bv ((Int.tmod p0 x7) == 0)))] [.ne x7] (fun fb => by kernel_rfl) rfl ⟨h15, trivial⟩ ?_
    refine WL.done rfl (WX.next ?_)
    rcases br_some hl13 with ⟨h16, hl13⟩ | ⟨h16, hl13⟩
    ·refine WC.condT2 (fun fb => by kernel_rfl) h16 ?_
     refine WC.seq (WC.region ?_)
     refine sg 1 [] [2] [(2, (bv false))] (by kernel_rfl) ?_
     refine WL.done rfl (WX.next ?_)
     refine WC.ret ?_
     injection hl13 with hl13
     subst hl13
     injection hf with hf
     subst hf
     exact WX.blockR (WX.thenR (WX.thenR (WX.blockR (WX.thenR (WX.ret_ [] (bv false) [] (fun fb => by kernel_rfl) trivial ⟨_, rfl, rfl, hS12.keep⟩)))))
    refine WC.condF2 (fun fb => by kernel_rfl) h16 ?_
    refine WC.skip ?_
    refine WX.blockN (WX.next ?_)
    refine WC.region ?_
    refine sg 3 [] [0, 3] [(0, (iv p0)), (3, (iv (w64 (x7 + 1))))] (by kernel_rfl) ?_
    refine WL.done rfl ?_
    exact WX.again k10 (Nat.lt_succ_self _) (w64 (x7 + 1)) [0, 3] rfl ⟨(hS12.subR []).sub [] (by decide), hl13⟩
   refine WC.condF2 (fun fb => by kernel_rfl) h14 ?_
   refine WC.exit ?_
   injection hl13 with hl13
   exact WX.thenX (WX.thenX (WX.blockHere (WX.to Kx8 () [] rfl ⟨(hS12.subR []).sub [] (by decide), hl13.symm⟩)))
 rintro y20 w17 ⟨hS18, hq19⟩
 subst hq19
 have hf := sum_inr hf
 refine WX.next (WC.seq (WC.region ?_))
 refine sg 1 [] [2] [(2, (bv true))] (by kernel_rfl) ?_
 refine WL.done rfl (WX.next ?_)
 refine WC.ret ?_
 injection hf with hf
 subst hf
 exact WX.ret_ [] (bv true) [] (fun fb => by kernel_rfl) trivial ⟨_, rfl, rfl, hS18.keep⟩
theorem ref06_Valid_calls (k : Nat) (p0 : List Tile) (p1 : Weights) (Aa : Option Addr) (ca : Nat) (Ab : Option Addr) (cb : Nat) (Ac : Option Addr) (cc : Nat) (Ad : Option Addr) (cd : Nat) (Ae : Option Addr) (ce : Nat) (Af : Option Addr) (cf : Nat) (r : Bool) (w : World) (hR0 : RO NoS w (rowR enc_Tile Aa ca p0)) (hR1 : RO NoS w (rowR enc_Frac Ab cb p1.Values)) (hR2 : RO NoS w (rowR enc_Frac Ac cc p1.Carries)) (hR3 : RO NoS w (rowR enc_Frac Ad cd p1.Factors)) (hR4 : RO NoS w (rowR encInt Ae ce p1.Primes)) (hR5 : RO NoS w (rowR encInt Af cf p1.Logs)) (hf : ref06_Valid k p0 p1 = some r) :
  CallsR Tryz.prog 9 #[(sv Aa p0 ca), (.agg #[(sv Ab p1.Values cb), (sv Ac p1.Carries cc), (sv Ad p1.Factors cd), (sv Ae p1.Primes ce), (sv Af p1.Logs cf)])] w (fun v w' => v = (bv r) ∧ Keeps NoS w w') := by
 have hS : St NoS w w [rowR enc_Tile Aa ca p0, rowR enc_Frac Ab cb p1.Values, rowR enc_Frac Ac cc p1.Carries, rowR enc_Frac Ad cd p1.Factors, rowR encInt Ae ce p1.Primes, rowR encInt Af cf p1.Logs] [] := St.init (ro_cons hR0 (ro_cons hR1 (ro_cons hR2 (ro_cons hR3 (ro_cons hR4 (ro_cons hR5 (ro_nil _ _)))))))
 refine enter 96 Tryz.func9 rfl Tryz.ntmps9 rfl ?_
 unfold ref06_Valid at hf
 refine WC.seq (WC.region ?_)
 refine WL.new hS 3 [] (fun g => (pt g)) (.cells #[(sv Ab p1.Values cb), (sv Ac p1.Carries cc), (sv Ad p1.Factors cd), (sv Ae p1.Primes ce), (sv Af p1.Logs cf)] 26 (0, 0)) [] (fun fb g => by kernel_rfl) trivial (fun g7 w8 hS10 => ?_)
 refine ⟨trivial, ?_⟩
 refine sg 2 [] [0, 3] [(0, (sv Aa p0 ca)), (3, (pt g7))] (by kernel_rfl) ?_
 refine WL.done rfl (WX.next (WC.seq (WC.seq (WC.region ?_))))
 refine sg 1 [] [0, 3, 9] [(0, (sv Aa p0 ca)), (3, (pt g7)), (9, (sv Aa p0 ca))] (by kernel_rfl) ?_
 obtain ⟨t11, ht12, hf⟩ := bind_some hf
 refine WL.call (some 10) 20 #[(sv Aa p0 ca)] (fun fb => by kernel_rfl) (ref01_Valid_calls _ p0 Aa ca t11 _ (hS10.rd 0) ht12) (fun v w13 hR14 => ?_)
 obtain ⟨rfl, hk_⟩ := hR14
 have hS15 := hS10.keepN hk_
 refine ⟨trivial, ?_⟩
 refine sg 3 [] [0, 3, 11] [(0, (sv Aa p0 ca)), (3, (pt g7)), (11, (bv (!t11)))] (by kernel_rfl) ?_
 refine WL.done rfl (WX.next ?_)
 rcases br_some hf with ⟨h16, hf⟩ | ⟨h16, hf⟩
 ·refine WC.condT2 (fun fb => by kernel_rfl) h16 ?_
  refine WC.seq (WC.region ?_)
  refine sg 1 [] [4] [(4, (bv false))] (by kernel_rfl) ?_
  refine WL.done rfl (WX.next ?_)
  refine WC.ret ?_
  injection hf with hf
  subst hf
  exact WX.thenR (WX.ret_ [] (bv false) [] (fun fb => by kernel_rfl) trivial ⟨_, rfl, rfl, hS15.keep⟩)
 refine WC.condF2 (fun fb => by kernel_rfl) h16 ?_
 refine WC.skip (WX.next (WC.seq (WC.region ?_)))
 refine sg 1 [] [0, 3, 13] [(0, (sv Aa p0 ca)), (3, (pt g7)), (13, (sv Aa p0 ca))] (by kernel_rfl) ?_
 obtain ⟨t17, ht18, hf⟩ := bind_some hf
 refine WL.call (some 14) 21 #[(sv Aa p0 ca)] (fun fb => by kernel_rfl) (ref06_Colours_calls _ p0 Aa ca t17 _ (hS15.rd 0) ht18) (fun v w19 hR20 => ?_)
 obtain ⟨rfl, hk_⟩ := hR20
 have hS21 := hS15.keepN hk_
 refine ⟨trivial, ?_⟩
 refine sg 7 [] [0, 3, 5, 6] [(0, (sv Aa p0 ca)), (3, (pt g7)), (5, (iv t17.1)), (6, (iv t17.2))] (by kernel_rfl) ?_
 refine WL.done rfl (WX.next (WC.seq (WC.seq (WC.region ?_))))
 refine seg 3 [.v (sv Ab p1.Values cb)] [0, 3, 6, 18, 19] [(0, (sv Aa p0 ca)), (3, (pt g7)), (6, (iv t17.2)), (18, (sv Ab p1.Values cb)), (19, (iv t17.1))] [.cell ⟨g7, 0, none⟩ (sv Ab p1.Values cb)] (fun fb => by kernel_rfl) rfl ⟨hS21.cell 0 rfl 0 rfl, trivial⟩ ?_
 obtain ⟨t22, ht23, hf⟩ := bind_some hf
 refine WL.call (some 20) 24 #[(sv Ab p1.Values cb), (iv t17.1), (iv 0)] (fun fb => by kernel_rfl) (ref06_fractions_calls _ p1.Values t17.1 0 Ab cb t22 _ (hS21.rd 1) ht23) (fun v w24 hR25 => ?_)
 obtain ⟨rfl, hk_⟩ := hR25
 have hS26 := hS21.keepN hk_
 refine ⟨trivial, ?_⟩
 refine sg 6 [] [0, 3, 6, 22] [(0, (sv Aa p0 ca)), (3, (pt g7)), (6, (iv t17.2)), (22, (bv (!t22)))] (by kernel_rfl) ?_
 obtain ⟨x27, hx28, hf⟩ := bind_some hf
 let e11 := sv Ac p1.Carries cc
 refine WL.cutW (T := Bool) 12 (fun t => [(0, (sv Aa p0 ca)), (3, (pt g7)), (28, (bv t))]) (fun t w1 => (St NoS w w1 [rowR enc_Tile Aa ca p0, rowR enc_Frac Ab cb p1.Values, rowR enc_Frac Ac cc p1.Carries, rowR enc_Frac Ad cd p1.Factors, rowR encInt Ae ce p1.Primes, rowR encInt Af cf p1.Logs] [blk g7 (.cells #[(sv Ab p1.Values cb), e11, (sv Ad p1.Factors cd), (sv Ae p1.Primes ce), (sv Af p1.Logs cf)] 26 (0, 0))] ∧ x27 = t) ∧ CellsOK [] w1) (fun K => ?_) ?_
 ·
  rcases br_some hx28 with ⟨h29, hx28⟩ | ⟨h29, hx28⟩
  ·
   refine WL.setB 22 h29 rfl ?_
   refine sg 12 [] [0, 3, 28] [(0, (sv Aa p0 ca)), (3, (pt g7)), (28, (bv true))] (by kernel_rfl) ?_
   injection hx28 with hx28
   exact WL.to K true [0, 3, 28] rfl ⟨⟨(hS26.subR [0, 1, 2, 3, 4, 5]).sub [0] (by decide), hx28.symm⟩, trivial⟩
  refine WL.setB 22 h29 rfl ?_
  refine seg 9 [.v e11] [0, 3, 22, 24, 25] [(0, (sv Aa p0 ca)), (3, (pt g7)), (22, (bv false)), (24, e11), (25, (iv t17.2))] [.cell ⟨g7, 1, none⟩ e11] (fun fb => by kernel_rfl) rfl ⟨hS26.cell 0 rfl 1 rfl, trivial⟩ ?_
  obtain ⟨t30, ht31, hx28⟩ := bind_some hx28
  refine WL.call (some 26) 24 #[e11, (iv t17.2), (iv (-1000000))] (fun fb => by kernel_rfl) (ref06_fractions_calls _ p1.Carries t17.2 (-1000000) Ac cc t30 _ (hS26.rd 2) ht31) (fun v w32 hR33 => ?_)
  obtain ⟨rfl, hk_⟩ := hR33
  have hS34 := hS26.keepN hk_
  refine ⟨trivial, ?_⟩
  refine sg 12 [] [0, 3, 28] [(0, (sv Aa p0 ca)), (3, (pt g7)), (28, (bv (!t30)))] (by kernel_rfl) ?_
  injection hx28 with hx28
  exact WL.to K (!t30) [0, 3, 28] rfl ⟨⟨(hS34.subR [0, 1, 2, 3, 4, 5]).sub [0] (by decide), hx28.symm⟩, trivial⟩
 rintro y35 w37 ⟨⟨hS38, hq36⟩, hF39⟩
 subst hq36
 refine sg 13 [] [0, 3, 29] [(0, (sv Aa p0 ca)), (3, (pt g7)), (29, (bv x27))] (by kernel_rfl) ?_
 obtain ⟨x40, hx41, hf⟩ := bind_some hf
 let e12 := sv Ad p1.Factors cd
 refine WL.cutW (T := Bool) 20 (fun t => [(3, (pt g7)), (36, (bv t))]) (fun t w1 => (St NoS w w1 [rowR enc_Tile Aa ca p0, rowR enc_Frac Ab cb p1.Values, rowR enc_Frac Ac cc p1.Carries, rowR enc_Frac Ad cd p1.Factors, rowR encInt Ae ce p1.Primes, rowR encInt Af cf p1.Logs] [blk g7 (.cells #[(sv Ab p1.Values cb), e11, e12, (sv Ae p1.Primes ce), (sv Af p1.Logs cf)] 26 (0, 0))] ∧ x40 = t) ∧ CellsOK [] w1) (fun K => ?_) ?_
 ·
  rcases br_some hx41 with ⟨h42, hx41⟩ | ⟨h42, hx41⟩
  ·
   refine WL.setB 29 h42 rfl ?_
   refine sg 20 [] [3, 36] [(3, (pt g7)), (36, (bv true))] (by kernel_rfl) ?_
   injection hx41 with hx41
   exact WL.to K true [3, 36] rfl ⟨⟨(hS38.subR [0, 1, 2, 3, 4, 5]).sub [0] (by decide), hx41.symm⟩, trivial⟩
  refine WL.setB 29 h42 rfl ?_
  refine seg 17 [.v e12] [3, 29, 31, 33] [(3, (pt g7)), (29, (bv false)), (31, e12), (33, (iv (p0.length : Int)))] [.cell ⟨g7, 2, none⟩ e12] (fun fb => by kernel_rfl) rfl ⟨hS38.cell 0 rfl 2 rfl, trivial⟩ ?_
  obtain ⟨t43, ht44, hx41⟩ := bind_some hx41
  refine WL.call (some 34) 24 #[e12, (iv (p0.length : Int)), (iv 1)] (fun fb => by kernel_rfl) (ref06_fractions_calls _ p1.Factors (p0.length : Int) 1 Ad cd t43 _ (hS38.rd 3) ht44) (fun v w45 hR46 => ?_)
  obtain ⟨rfl, hk_⟩ := hR46
  have hS47 := hS38.keepN hk_
  refine ⟨trivial, ?_⟩
  refine sg 20 [] [3, 36] [(3, (pt g7)), (36, (bv (!t43)))] (by kernel_rfl) ?_
  injection hx41 with hx41
  exact WL.to K (!t43) [3, 36] rfl ⟨⟨(hS47.subR [0, 1, 2, 3, 4, 5]).sub [0] (by decide), hx41.symm⟩, trivial⟩
 rintro y48 w50 ⟨⟨hS51, hq49⟩, hF52⟩
 subst hq49
 refine WL.done rfl (WX.next ?_)
 rcases br_some hf with ⟨h53, hf⟩ | ⟨h53, hf⟩
 ·refine WC.condT2 (fun fb => by kernel_rfl) h53 ?_
  refine WC.seq (WC.region ?_)
  refine sg 1 [] [4] [(4, (bv false))] (by kernel_rfl) ?_
  refine WL.done rfl (WX.next ?_)
  refine WC.ret ?_
  injection hf with hf
  subst hf
  exact WX.thenR (WX.ret_ [] (bv false) [] (fun fb => by kernel_rfl) trivial ⟨_, rfl, rfl, hS51.keep⟩)
 refine WC.condF2 (fun fb => by kernel_rfl) h53 ?_
 refine WC.skip (WX.next (WC.seq (WC.seq (WC.region ?_))))
 refine seg 5 [.v (sv Ae p1.Primes ce)] [3, 41] [(3, (pt g7)), (41, (bv (decide ((p1.Primes.length : Int) > 12))))] [.cell ⟨g7, 3, none⟩ (sv Ae p1.Primes ce)] (fun fb => by kernel_rfl) rfl ⟨hS51.cell 0 rfl 3 rfl, trivial⟩ ?_
 refine WL.cutV (T := Bool) 13 (fun t => [(49, (bv t)), (3, (pt g7))]) (fun t => ((decide ((p1.Primes.length : Int) > 12)) || ((p1.Logs.length : Int) != (p1.Primes.length : Int))) = t) (fun K => ?_) ?_
 ·
  rcases Bool.eq_false_or_eq_true (decide ((p1.Primes.length : Int) > 12)) with h54 | h54
  ·
   refine WL.setB 41 h54 rfl ?_
   refine sg 13 [] [3, 49] [(3, (pt g7)), (49, (bv true))] (by kernel_rfl) ?_
   exact WL.toV K true [49, 3] rfl (by first | (rw [h54]; done) | (rw [h54]; rfl))
  refine WL.setB 41 h54 rfl ?_
  refine seg 13 [.v (sv Af p1.Logs cf), .v (sv Ae p1.Primes ce)] [3, 49] [(3, (pt g7)), (49, (bv ((p1.Logs.length : Int) != (p1.Primes.length : Int))))] [.cell ⟨g7, 4, none⟩ (sv Af p1.Logs cf), .cell ⟨g7, 3, none⟩ (sv Ae p1.Primes ce)] (fun fb => by kernel_rfl) rfl ⟨hS51.cell 0 rfl 4 rfl, hS51.cell 0 rfl 3 rfl, trivial⟩ ?_
  exact WL.toV K ((p1.Logs.length : Int) != (p1.Primes.length : Int)) [49, 3] rfl (by first | (rw [h54]; done) | (rw [h54]; rfl))
 rintro b55 rfl
 refine WL.done rfl (WX.next ?_)
 rcases br_some hf with ⟨h56, hf⟩ | ⟨h56, hf⟩
 ·refine WC.condT2 (fun fb => by kernel_rfl) h56 ?_
  refine WC.seq (WC.region ?_)
  refine sg 1 [] [4] [(4, (bv false))] (by kernel_rfl) ?_
  refine WL.done rfl (WX.next ?_)
  refine WC.ret ?_
  injection hf with hf
  subst hf
  exact WX.thenR (WX.ret_ [] (bv false) [] (fun fb => by kernel_rfl) trivial ⟨_, rfl, rfl, hS51.keep⟩)
 refine WC.condF2 (fun fb => by kernel_rfl) h56 ?_
 refine WC.skip (WX.next (WC.seq (WC.seq (WC.region ?_))))
 refine sg 1 [] [3, 7] [(3, (pt g7)), (7, (iv 0))] (by kernel_rfl) ?_
 refine WL.done rfl (WX.next ?_)
 obtain ⟨x58, hx59, hf⟩ := bind_some hf
 let e1 : List Own := [rowR enc_Tile Aa ca p0, rowR enc_Frac Ab cb p1.Values, rowR enc_Frac Ac cc p1.Carries, rowR enc_Frac Ad cd p1.Factors, rowR encInt Ae ce p1.Primes, rowR encInt Af cf p1.Logs]
 let e2 := sv Ae p1.Primes ce
 let e4 : Nat × Value := (3, (pt g7))
 let e5 : Array Value := #[(sv Ab p1.Values cb), e11, e12, e2, (sv Af p1.Logs cf)]
 let e9 : List Nat := [0, 1, 2, 3, 4, 5]
 let e10 := sv Af p1.Logs cf
 refine WC.cutN (T := Unit) (fun t => []) (fun t w1 => St NoS w w1 e1 [] ∧ x58 = .inr t) (fun Kx58 => ?_) ?_
 ·
  refine WC.block ?_
  refine WC.loop (T := Int) (fun t => [e4, (7, (iv t))]) (fun n t w1 => St NoS w w1 e1 [blk g7 (.cells e5 26 (0, 0))] ∧ ref06_Valid.l0 n t p1 = some x58) k 0 [3, 7] rfl ⟨(hS51.subR e9).sub [0] (by decide), hx59⟩ ?_
  rintro k60 x57 w61 ⟨hS62, hl63⟩
  let e6 : Nat × Value := (7, (iv x57))
  let e7 := rdD p1.Primes x57 0
  let e8 := rdD p1.Logs x57 0
  cases k60 with
  | zero => rw [ref06_Valid.l0] at hl63; cases hl63
  | succ k60 =>
   rw [ref06_Valid.l0] at hl63
   refine WC.seq (WC.seq (WC.region ?_))
   refine seg 5 [.v e2] [3, 7, 54] [e4, e6, (54, (bv (decide (x57 < (p1.Primes.length : Int)))))] [.cell ⟨g7, 3, none⟩ e2] (fun fb => by kernel_rfl) rfl ⟨hS62.cell 0 rfl 3 rfl, trivial⟩ ?_
   refine WL.done rfl (WX.next ?_)
   rcases br_some hl63 with ⟨h65, hl63⟩ | ⟨h65, hl63⟩
   ·refine WC.condT2 (fun fb => by kernel_rfl) h65 ?_
    refine WC.skip (WX.next (WC.seq (WC.block (WC.seq (WC.seq (WC.region ?_))))))
    refine seg 3 [.v e2] [3, 7, 58, 59] [e4, e6, (58, e2), (59, (iv x57))] [.cell ⟨g7, 3, none⟩ e2] (fun fb => by kernel_rfl) rfl ⟨hS62.cell 0 rfl 3 rfl, trivial⟩ ?_
    obtain ⟨h66, hl63⟩ := as_some hl63
    refine seg 5 [.v (iv e7)] [3, 7, 61] [e4, e6, (61, (iv e7))] [.idx Ae x57 p1.Primes.length, .cell ((adr Ae).add ((x57).toNat * 1)) (iv e7)] (fun fb => by kernel_rfl) rfl ⟨rowR.adr (hS62.rd 4).1 h66.1 h66.2, rowR.cell (hS62.rd 4).1 0 h66.1 h66.2 0 rfl, trivial⟩ ?_
    obtain ⟨t67, ht68, hl63⟩ := bind_some hl63
    refine WL.call (some 62) 25 #[(iv e7)] (fun fb => by kernel_rfl) (ref06_prime_calls _ e7 t67 _ ht68) (fun v w69 hR70 => ?_)
    obtain ⟨rfl, hk_⟩ := hR70
    have hS71 := hS62.keepN hk_
    refine ⟨trivial, ?_⟩
    refine sg 8 [] [3, 7, 64] [e4, e6, (64, (bv (!t67)))] (by kernel_rfl) ?_
    obtain ⟨b72, hv73, hl63⟩ := bind_some hl63
    refine WL.cutV (T := Unit) 15 (fun t => [(71, (bv b72)), e4, e6]) (fun t => True) (fun K => ?_) ?_
    ·
     rcases br_some hv73 with ⟨h74, hv73⟩ | ⟨h74, hv73⟩
     ·
      refine WL.setB 64 h74 rfl ?_
      refine sg 15 [] [3, 7, 71] [e4, e6, (71, (bv true))] (by kernel_rfl) ?_
      injection hv73 with hv73
      subst hv73
      exact WL.toV K () [71, 3, 7] rfl trivial
     refine WL.setB 64 h74 rfl ?_
     refine seg 11 [.v e10] [3, 7, 64, 66, 67] [e4, e6, (64, (bv false)), (66, e10), (67, (iv x57))] [.cell ⟨g7, 4, none⟩ e10] (fun fb => by kernel_rfl) rfl ⟨hS71.cell 0 rfl 4 rfl, trivial⟩ ?_
     obtain ⟨h75, hv73⟩ := as_some hv73
     refine seg 15 [.v (iv e8)] [3, 7, 71] [e4, e6, (71, (bv (decide (e8 < (-1000)))))] [.idx Af x57 p1.Logs.length, .cell ((adr Af).add ((x57).toNat * 1)) (iv e8)] (fun fb => by kernel_rfl) rfl ⟨rowR.adr (hS71.rd 5).1 h75.1 h75.2, rowR.cell (hS71.rd 5).1 0 h75.1 h75.2 0 rfl, trivial⟩ ?_
     injection hv73 with hv73
     subst hv73
     exact WL.toV K () [71, 3, 7] rfl trivial
    rintro _ _
    refine sg 16 [] [3, 7, 72] [e4, e6, (72, (bv b72))] (by kernel_rfl) ?_
    obtain ⟨b76, hv77, hl63⟩ := bind_some hl63
    refine WL.cutV (T := Unit) 23 (fun t => [(79, (bv b76)), e4, e6]) (fun t => True) (fun K => ?_) ?_
    ·
     rcases br_some hv77 with ⟨h78, hv77⟩ | ⟨h78, hv77⟩
     ·
      refine WL.setB 72 h78 rfl ?_
      refine sg 23 [] [3, 7, 79] [e4, e6, (79, (bv true))] (by kernel_rfl) ?_
      injection hv77 with hv77
      subst hv77
      exact WL.toV K () [79, 3, 7] rfl trivial
     refine WL.setB 72 h78 rfl ?_
     refine seg 19 [.v e10] [3, 7, 72, 74, 75] [e4, e6, (72, (bv false)), (74, e10), (75, (iv x57))] [.cell ⟨g7, 4, none⟩ e10] (fun fb => by kernel_rfl) rfl ⟨hS71.cell 0 rfl 4 rfl, trivial⟩ ?_
     obtain ⟨h79, hv77⟩ := as_some hv77
     refine seg 23 [.v (iv e8)] [3, 7, 79] [e4, e6, (79, (bv (decide (e8 > 1000))))] [.idx Af x57 p1.Logs.length, .cell ((adr Af).add ((x57).toNat * 1)) (iv e8)] (fun fb => by kernel_rfl) rfl ⟨rowR.adr (hS71.rd 5).1 h79.1 h79.2, rowR.cell (hS71.rd 5).1 0 h79.1 h79.2 0 rfl, trivial⟩ ?_
     injection hv77 with hv77
     subst hv77
     exact WL.toV K () [79, 3, 7] rfl trivial
    rintro _ _
    refine WL.done rfl (WX.next ?_)
    rcases br_some hl63 with ⟨h80, hl63⟩ | ⟨h80, hl63⟩
    ·refine WC.condT2 (fun fb => by kernel_rfl) h80 ?_
     refine WC.seq (WC.region ?_)
     refine sg 1 [] [4] [(4, (bv false))] (by kernel_rfl) ?_
     refine WL.done rfl (WX.next ?_)
     refine WC.ret ?_
     injection hl63 with hl63
     subst hl63
     injection hf with hf
     subst hf
     exact WX.thenR (WX.blockR (WX.thenR (WX.thenR (WX.blockR (WX.thenR (WX.ret_ [] (bv false) [] (fun fb => by kernel_rfl) trivial ⟨_, rfl, rfl, hS71.keep⟩))))))
    refine WC.condF2 (fun fb => by kernel_rfl) h80 ?_
    refine WC.skip (WX.next (WC.seq (WC.region ?_)))
    refine sg 1 [] [3, 7, 8] [e4, e6, (8, (iv 0))] (by kernel_rfl) ?_
    refine WL.done rfl (WX.next ?_)
    obtain ⟨x82, hx83, hl63⟩ := bind_some hl63
    refine WC.cutN (T := Unit) (fun t => [e4, e6]) (fun t w1 => St NoS w w1 e1 [blk g7 (.cells e5 26 (0, 0))] ∧ x82 = .inr t) (fun Kx82 => ?_) ?_
    ·
     refine WC.block ?_
     refine WC.loop (T := Int) (fun t => [e4, e6, (8, (iv t))]) (fun n t w1 => St NoS w w1 e1 [blk g7 (.cells e5 26 (0, 0))] ∧ ref06_Valid.l1 n t p1 x57 = some x82) k60 0 [3, 7, 8] rfl ⟨(hS71.subR e9).sub [0] (by decide), hx83⟩ ?_
     rintro k84 x81 w85 ⟨hS86, hl87⟩
     let e3 : List (Nat × Addr × Value) := [(1, ⟨g7, 3, none⟩, e2), (4, ((adr Ae).add ((x81).toNat * 1)), (iv (rdD p1.Primes x81 0))), (6, ⟨g7, 3, none⟩, e2), (9, ((adr Ae).add ((x57).toNat * 1)), (iv e7))]
     cases k84 with
     | zero => rw [ref06_Valid.l1] at hl87; cases hl87
     | succ k84 =>
      rw [ref06_Valid.l1] at hl87
      refine WC.seq (WC.seq (WC.region ?_))
      refine sg 3 [] [3, 7, 8, 82] [e4, e6, (8, (iv x81)), (82, (bv (decide (x81 < x57))))] (by kernel_rfl) ?_
      refine WL.done rfl (WX.next ?_)
      rcases br_some hl87 with ⟨h88, hl87⟩ | ⟨h88, hl87⟩
      ·refine WC.condT2 (fun fb => by kernel_rfl) h88 ?_
       refine WC.skip (WX.next (WC.seq (WC.block (WC.seq ?_))))
       obtain ⟨h91, hl87⟩ := as_some hl87
       refine WC.regionD (e3, [0, 1, 2, 3, 4, 5, 6, 7, 8, 9, 10], [[], [0], [], [0, 1, 2], [0, 1, 2, 3], [], [5], [], [5, 6, 7], [5, 6, 7, 8], [0, 1, 2, 3, 4, 5, 6, 7, 8, 9]]) [[0, 1, 2, 3, 4, 5, 6, 7, 8, 9, 10]] (by kernel_rfl) (by kernel_rfl) (NoPanic.seq (NoPanic.block (NoPanic.seq (NoPanic.seq (NoPanic.block (NoPanic.block (NoPanic.seq (NoPanic.seq (NoPanic.block (NoPanic.seq (NoPanic.body))))))))))) ?_
       have hS90 := hS86.drew
       revert hS90
       generalize World.drew w85 = w89
       intro hS90
       refine ⟨⟨hS90.cell 0 rfl 3 rfl, rowR.cell (hS90.rd 4).1 0 h91.1 h91.2 0 rfl, hS90.cell 0 rfl 3 rfl, rowR.cell (hS90.rd 4).1 0 h66.1 h66.2 0 rfl, trivial⟩, forallC ?_ (forallN)⟩
       refine segF 11 [.v e2, .v (iv (rdD p1.Primes x81 0)), .v e2, .v (iv e7)] [3, 7, 8, 95] [e4, e6, (8, (iv x81)), (95, (bv ((rdD p1.Primes x81 0) == e7)))] [.idx Ae x81 p1.Primes.length, .idx Ae x57 p1.Primes.length] [0, 1, 2, 3] e3 (fun fb => by kernel_rfl) rfl ⟨rowR.adr (hS90.rd 4).1 h91.1 h91.2, rowR.adr (hS90.rd 4).1 h66.1 h66.2, trivial⟩ rfl ?_
       refine WL.done rfl (WX.next ?_)
       rcases br_some hl87 with ⟨h92, hl87⟩ | ⟨h92, hl87⟩
       ·refine WC.condT2 (fun fb => by kernel_rfl) h92 ?_
        refine WC.seq (WC.region ?_)
        refine sg 1 [] [4] [(4, (bv false))] (by kernel_rfl) ?_
        refine WL.done rfl (WX.next ?_)
        refine WC.ret ?_
        injection hl87 with hl87
        subst hl87
        injection hl63 with hl63
        subst hl63
        injection hf with hf
        subst hf
        exact WX.blockR (WX.thenR (WX.thenR (WX.blockR (WX.blockR (WX.thenR (WX.thenR (WX.blockR (WX.thenR (WX.ret_ [] (bv false) [] (fun fb => by kernel_rfl) trivial ⟨_, rfl, rfl, hS90.keep⟩)))))))))
       refine WC.condF2 (fun fb => by kernel_rfl) h92 ?_
       refine WC.skip ?_
       refine WX.blockN (WX.next ?_)
       refine WC.region ?_
       refine sg 3 [] [3, 7, 8] [e4, e6, (8, (iv (w64 (x81 + 1))))] (by kernel_rfl) ?_
       refine WL.done rfl ?_
       exact WX.again k84 (Nat.lt_succ_self _) (w64 (x81 + 1)) [3, 7, 8] rfl ⟨(hS90.subR e9).sub [0] (by decide), hl87⟩
      refine WC.condF2 (fun fb => by kernel_rfl) h88 ?_
      refine WC.exit ?_
      injection hl87 with hl87
      exact WX.thenX (WX.thenX (WX.blockHere (WX.to Kx82 () [3, 7] rfl ⟨(hS86.subR e9).sub [0] (by decide), hl87.symm⟩)))
    rintro y96 w93 ⟨hS94, hq95⟩
    subst hq95
    have hl63 := sum_inr hl63
    refine WX.blockN (WX.next ?_)
    refine WC.region ?_
    refine sg 3 [] [3, 7] [e4, (7, (iv (w64 (x57 + 1))))] (by kernel_rfl) ?_
    refine WL.done rfl ?_
    exact WX.again k60 (Nat.lt_succ_self _) (w64 (x57 + 1)) [3, 7] rfl ⟨(hS94.subR e9).sub [0] (by decide), hl63⟩
   refine WC.condF2 (fun fb => by kernel_rfl) h65 ?_
   refine WC.exit ?_
   injection hl63 with hl63
   exact WX.thenX (WX.thenX (WX.blockHere (WX.to Kx58 () [] rfl ⟨(hS62.subR e9).sub [] (by decide), hl63.symm⟩)))
 rintro y100 w97 ⟨hS98, hq99⟩
 subst hq99
 have hf := sum_inr hf
 refine WX.next (WC.seq (WC.region ?_))
 refine sg 1 [] [4] [(4, (bv true))] (by kernel_rfl) ?_
 refine WL.done rfl (WX.next ?_)
 refine WC.ret ?_
 injection hf with hf
 subst hf
 exact WX.ret_ [] (bv true) [] (fun fb => by kernel_rfl) trivial ⟨_, rfl, rfl, hS98.keep⟩
theorem ref06_IsRow_calls (k : Nat) (p0 : List Tile) (p1 : List Int) (Aa : Option Addr) (ca : Nat) (Ab : Option Addr) (cb : Nat) (r : Bool) (w : World) (hR0 : RO NoS w (rowR enc_Tile Aa ca p0)) (hR1 : RO NoS w (rowR encInt Ab cb p1)) (hf : ref06_IsRow k p0 p1 = some r) :
  CallsR Tryz.prog 15 #[(sv Aa p0 ca), (sv Ab p1 cb)] w (fun v w' => v = (bv r) ∧ Keeps NoS w w') := by
 have hS : St NoS w w [rowR enc_Tile Aa ca p0, rowR encInt Ab cb p1] [] := St.init (ro_cons hR0 (ro_cons hR1 (ro_nil _ _)))
 refine enter 58 Tryz.func15 rfl Tryz.ntmps15 rfl ?_
 unfold ref06_IsRow at hf
 refine WC.seq (WC.region ?_)
 refine sg 1 [] [0, 1] [(0, (sv Aa p0 ca)), (1, (sv Ab p1 cb))] (by kernel_rfl) ?_
 refine WL.done rfl (WX.next (WC.seq (WC.seq (WC.region ?_))))
 refine sg 4 [] [0, 1, 9] [(0, (sv Aa p0 ca)), (1, (sv Ab p1 cb)), (9, (bv (decide ((p1.length : Int) < 1))))] (by kernel_rfl) ?_
 refine WL.cutV (T := Bool) 8 (fun t => [(13, (bv t)), (0, (sv Aa p0 ca)), (1, (sv Ab p1 cb))]) (fun t => ((decide ((p1.length : Int) < 1)) || (decide ((p1.length : Int) > 40000))) = t) (fun K => ?_) ?_
 ·
  rcases Bool.eq_false_or_eq_true (decide ((p1.length : Int) < 1)) with h3 | h3
  ·
   refine WL.setB 9 h3 rfl ?_
   refine sg 8 [] [0, 1, 13] [(0, (sv Aa p0 ca)), (1, (sv Ab p1 cb)), (13, (bv true))] (by kernel_rfl) ?_
   exact WL.toV K true [13, 0, 1] rfl (by first | (rw [h3]; done) | (rw [h3]; rfl))
  refine WL.setB 9 h3 rfl ?_
  refine sg 8 [] [0, 1, 13] [(0, (sv Aa p0 ca)), (1, (sv Ab p1 cb)), (13, (bv (decide ((p1.length : Int) > 40000))))] (by kernel_rfl) ?_
  exact WL.toV K (decide ((p1.length : Int) > 40000)) [13, 0, 1] rfl (by first | (rw [h3]; done) | (rw [h3]; rfl))
 rintro b4 rfl
 refine WL.done rfl (WX.next ?_)
 rcases br_some hf with ⟨h5, hf⟩ | ⟨h5, hf⟩
 ·refine WC.condT2 (fun fb => by kernel_rfl) h5 ?_
  refine WC.seq (WC.region ?_)
  refine sg 1 [] [4] [(4, (bv false))] (by kernel_rfl) ?_
  refine WL.done rfl (WX.next ?_)
  refine WC.ret ?_
  injection hf with hf
  subst hf
  exact WX.thenR (WX.ret_ [] (bv false) [] (fun fb => by kernel_rfl) trivial ⟨_, rfl, rfl, hS.keep⟩)
 refine WC.condF2 (fun fb => by kernel_rfl) h5 ?_
 refine WC.skip (WX.next (WC.seq (WC.seq (WC.region ?_))))
 refine sg 1 [] [0, 1, 5] [(0, (sv Aa p0 ca)), (1, (sv Ab p1 cb)), (5, (iv 0))] (by kernel_rfl) ?_
 refine WL.done rfl (WX.next ?_)
 obtain ⟨x8, hx9, hf⟩ := bind_some hf
 let e5 : List Nat := [0, 1, 2, 3, 4, 5, 6, 7, 8, 9, 10, 11, 12, 13, 14, 15, 16, 17]
 let e1 := [[], [], [0, 1], [0, 1, 2], [0, 1, 2, 3], [0, 1, 2, 3, 4], [0, 1, 2, 3, 4, 5], [0, 1, 2, 3, 4, 5], [0, 1, 2, 3, 4, 5, 6, 7], [0, 1, 2, 3, 4, 5, 6, 7, 8], [0, 1, 2, 3, 4, 5], [0, 1, 2, 3, 4, 5, 10], [0, 1, 2, 3, 4, 5, 6, 7, 8, 9, 10, 11], [0, 1, 2, 3, 4, 5, 6, 7, 8, 9, 10, 11, 12], [0, 1, 2, 3, 4, 5, 6, 7, 8, 9, 10, 11, 12, 13], [0, 1, 2, 3, 4, 5, 6, 7, 8, 9, 10, 11, 12, 13, 14], [0, 1, 2, 3, 4, 5, 6, 7, 8, 9, 10, 11, 12, 13, 14, 15], [0, 1, 2, 3, 4, 5, 6, 7, 8, 9, 10, 11, 12, 13, 14, 15, 16], e5, e5, e5, [0, 1, 2, 3, 4, 5, 6, 7, 8, 9, 10, 11, 12, 13, 14, 15, 16, 17, 20], [0, 1, 2, 3, 4, 5, 6, 7, 8, 9, 10, 11, 12, 13, 14, 15, 16, 17, 19, 20, 21], [0, 1, 2, 3, 4, 5, 6, 7, 8, 9, 10, 11, 12, 13, 14, 15, 16, 17, 19, 20, 21, 22], [0, 1, 2, 3, 4, 5, 6, 7, 8, 9, 10, 11, 12, 13, 14, 15, 16, 17, 18, 19, 20, 21, 22, 23], [0, 1, 2, 3, 4, 5, 6, 7, 8, 9, 10, 11, 12, 13, 14, 15, 16, 17, 18, 19, 20, 21, 22, 23, 24], [0, 1, 2, 3, 4, 5, 6, 7, 8, 9, 10, 11, 12, 13, 14, 15, 16, 17, 18, 19, 20, 21, 22, 23, 24, 25], e5, e5, e5, [0, 1, 2, 3, 4, 5, 6, 7, 8, 9, 10, 11, 12, 13, 14, 15, 16, 17, 28, 29], [0, 1, 2, 3, 4, 5, 6, 7, 8, 9, 10, 11, 12, 13, 14, 15, 16, 17, 28, 29, 30], [0, 1, 2, 3, 4, 5, 6, 7, 8, 9, 10, 11, 12, 13, 14, 15, 16, 17, 27, 28, 29, 30, 31], [0, 1, 2, 3, 4, 5, 6, 7, 8, 9, 10, 11, 12, 13, 14, 15, 16, 17, 27, 28, 29, 30, 31, 32], [0, 1, 2, 3, 4, 5, 6, 7, 8, 9, 10, 11, 12, 13, 14, 15, 16, 17, 27, 28, 29, 30, 31, 32, 33], [0, 1, 2, 3, 4, 5, 6, 7, 8, 9, 10, 11, 12, 13, 14, 15, 16, 17, 18, 19, 20, 21, 22, 23, 24, 25, 26, 27, 28, 29, 30, 31, 32, 33, 34], [0, 1, 2, 3, 4, 5, 6, 7, 8, 9, 10, 11, 12, 13, 14, 15, 16, 17, 18, 19, 20, 21, 22, 23, 24, 25, 26, 27, 28, 29, 30, 31, 32, 33, 34, 35], [0, 1, 2, 3, 4, 5, 6, 7, 8, 9, 10, 11, 12, 13, 14, 15, 16, 17, 18, 19, 20, 21, 22, 23, 24, 25, 26, 27, 28, 29, 30, 31, 32, 33, 34, 35, 36]]
 let e2 : List Nat := [0, 1, 2, 3, 4, 5, 6, 7, 8, 9, 10, 11, 12, 13, 14, 15, 16, 17, 18, 19, 20, 21, 22, 23, 24, 25, 26, 27, 28, 29, 30, 31, 32, 33, 34, 35, 36, 37]
 let e9 : Nat × Value := (0, (sv Aa p0 ca))
 let e10 : Nat × Value := (1, (sv Ab p1 cb))
 let e12 : List Own := [rowR enc_Tile Aa ca p0, rowR encInt Ab cb p1]
 let e15 : List Nat := [0, 1, 5, 57]
 refine WC.cutN (T := Unit) (fun t => []) (fun t w1 => St NoS w w1 e12 [] ∧ x8 = .inr t) (fun Kx8 => ?_) ?_
 ·
  refine WC.block ?_
  refine WC.loop (T := Int) (fun t => [e9, e10, (5, (iv t))]) (fun n t w1 => St NoS w w1 e12 [] ∧ ref06_IsRow.l0 n t p0 p1 = some x8) k 0 [0, 1, 5] rfl ⟨(hS.subR [0, 1]).sub [] (by decide), hx9⟩ ?_
  rintro k10 x7 w11 ⟨hS12, hl13⟩
  let e3 := (adr Ab).add ((x7).toNat * 1)
  let e4 := rdD p1 x7 0
  let e6 : List (Nat × Value) := [e9, e10, (5, (iv x7)), (25, (bv (decide (e4 < 0))))]
  let e7 := rdD p1 (w64 (x7 - 1)) 0
  let e8 : List (Nat × Value) := [e9, e10, (5, (iv x7)), (34, (bv (decide (e4 ≥ (p0.length : Int)))))]
  let e11 : Nat × Addr × Value := (3, e3, (iv e4))
  let e13 := (rdD p0 e7 z_Tile).E
  let e14 := (rdD p0 e4 z_Tile).W
  let e16 : Nat × Addr × Value := (9, e3, (iv e4))
  let e17 : Nat × Value := (5, (iv x7))
  let e18 : Nat × Addr × Value := (23, ((adr Ab).add ((w64 (x7 - 1)).toNat * 1)), (iv e7))
  let e19 : Nat × Addr × Value := (26, (((adr Aa).add ((e7).toNat * 4)).add 1), (iv e13))
  let e20 : Nat × Addr × Value := (34, (((adr Aa).add ((e4).toNat * 4)).add 3), (iv e14))
  cases k10 with
  | zero => rw [ref06_IsRow.l0] at hl13; cases hl13
  | succ k10 =>
   rw [ref06_IsRow.l0] at hl13
   refine WC.seq (WC.seq (WC.region ?_))
   refine sg 4 [] [0, 1, 5, 17] [e9, e10, e17, (17, (bv (decide (x7 < (p1.length : Int)))))] (by kernel_rfl) ?_
   refine WL.done rfl (WX.next ?_)
   rcases br_some hl13 with ⟨h14, hl13⟩ | ⟨h14, hl13⟩
   ·refine WC.condT2 (fun fb => by kernel_rfl) h14 ?_
    refine WC.skip (WX.next (WC.seq (WC.block (WC.seq ?_))))
    obtain ⟨x16, hx17, hl13⟩ := bind_some hl13
    refine WC.cutN (T := Bool) (fun t => [e9, e10, e17, (57, (bv t))]) (fun t w1 => St NoS w w1 e12 [] ∧ x16 = t) (fun Kx16 => ?_) ?_
    ·
     rcases br_some hx17 with ⟨h18, hx17⟩ | ⟨h18, hx17⟩
     ·
      obtain ⟨h21, hx17⟩ := as_some hx17
      refine WC.regionD ([e11], e2, e1) [e2] (by kernel_rfl) (by kernel_rfl) (NoPanic.seq (NoPanic.block (NoPanic.seq (NoPanic.seq (NoPanic.block (NoPanic.seq (NoPanic.body))))))) ?_
      have hS20 := hS12.drew
      revert hS20
      generalize World.drew w11 = w19
      intro hS20
      refine ⟨⟨rowR.cell (hS20.rd 1).1 0 h21.1 h21.2 0 rfl, trivial⟩, forallC ?_ (forallN)⟩
      refine segF 6 [.v (iv e4)] [0, 1, 5, 25] e6 [.idx Ab x7 p1.length] [0] [e11] (fun fb => by kernel_rfl) rfl ⟨rowR.adr (hS20.rd 1).1 h21.1 h21.2, trivial⟩ rfl ?_
      refine WL.setB 25 h18 rfl ?_
      refine sg 38 [] e15 [e9, e10, e17, (57, (bv true))] (by kernel_rfl) ?_
      refine WL.done rfl ?_
      injection hx17 with hx17
      exact WX.to Kx16 true e15 rfl ⟨(hS20.subR [0, 1]).sub [] (by decide), hx17.symm⟩
     rcases br_some hx17 with ⟨h22, hx17⟩ | ⟨h22, hx17⟩
     ·
      obtain ⟨h25, hx17⟩ := as_some hx17
      refine WC.regionD ([e11, e16], e2, e1) [e2] (by kernel_rfl) (by kernel_rfl) (NoPanic.seq (NoPanic.block (NoPanic.seq (NoPanic.seq (NoPanic.block (NoPanic.seq (NoPanic.body))))))) ?_
      have hS24 := hS12.drew
      revert hS24
      generalize World.drew w11 = w23
      intro hS24
      refine ⟨⟨rowR.cell (hS24.rd 1).1 0 h25.1 h25.2 0 rfl, rowR.cell (hS24.rd 1).1 0 h25.1 h25.2 0 rfl, trivial⟩, forallC ?_ (forallN)⟩
      refine segF 6 [.v (iv e4)] [0, 1, 5, 25] e6 [.idx Ab x7 p1.length] [0] [e11] (fun fb => by kernel_rfl) rfl ⟨rowR.adr (hS24.rd 1).1 h25.1 h25.2, trivial⟩ rfl ?_
      refine WL.setB 25 h18 rfl ?_
      refine segF 15 [.v (iv e4)] [0, 1, 5, 34] e8 [.idx Ab x7 p1.length] [1] [e16] (fun fb => by kernel_rfl) rfl ⟨rowR.adr (hS24.rd 1).1 h25.1 h25.2, trivial⟩ rfl ?_
      refine WL.setB 34 h22 rfl ?_
      refine sg 38 [] e15 [e9, e10, e17, (57, (bv true))] (by kernel_rfl) ?_
      refine WL.done rfl ?_
      injection hx17 with hx17
      exact WX.to Kx16 true e15 rfl ⟨(hS24.subR [0, 1]).sub [] (by decide), hx17.symm⟩
     rcases br_some hx17 with ⟨h26, hx17⟩ | ⟨h26, hx17⟩
     ·
      obtain ⟨h29, hx17⟩ := as_some hx17
      obtain ⟨h30, hx17⟩ := as_some hx17
      obtain ⟨h31, hx17⟩ := as_some hx17
      obtain ⟨h32, hx17⟩ := as_some hx17
      refine WC.regionD ([e11, e16, e18, e19, (31, e3, (iv e4)), e20], e2, e1) [e2] (by kernel_rfl) (by kernel_rfl) (NoPanic.seq (NoPanic.block (NoPanic.seq (NoPanic.seq (NoPanic.block (NoPanic.seq (NoPanic.body))))))) ?_
      have hS28 := hS12.drew
      revert hS28
      generalize World.drew w11 = w27
      intro hS28
      refine ⟨⟨rowR.cell (hS28.rd 1).1 0 h29.1 h29.2 0 rfl, rowR.cell (hS28.rd 1).1 0 h29.1 h29.2 0 rfl, rowR.cell (hS28.rd 1).1 0 h30.1 h30.2 0 rfl, rowR.cell (hS28.rd 0).1 z_Tile h31.1 h31.2 1 rfl, rowR.cell (hS28.rd 1).1 0 h29.1 h29.2 0 rfl, rowR.cell (hS28.rd 0).1 z_Tile h32.1 h32.2 3 rfl, trivial⟩, forallC ?_ (forallN)⟩
      refine segF 6 [.v (iv e4)] [0, 1, 5, 25] e6 [.idx Ab x7 p1.length] [0] [e11] (fun fb => by kernel_rfl) rfl ⟨rowR.adr (hS28.rd 1).1 h29.1 h29.2, trivial⟩ rfl ?_
      refine WL.setB 25 h18 rfl ?_
      refine segF 15 [.v (iv e4)] [0, 1, 5, 34] e8 [.idx Ab x7 p1.length] [1] [e16] (fun fb => by kernel_rfl) rfl ⟨rowR.adr (hS28.rd 1).1 h29.1 h29.2, trivial⟩ rfl ?_
      refine WL.setB 34 h22 rfl ?_
      refine sg 18 [] [0, 1, 5, 34, 37] [e9, e10, e17, (34, (bv false)), (37, (bv (decide (x7 > 0))))] (by kernel_rfl) ?_
      refine WL.setB 37 h26 rfl ?_
      refine segF 38 [.v (iv e7), .v (iv e13), .v (iv e4), .v (iv e14)] e15 [e9, e10, e17, (57, (bv (e13 != e14)))] [.idx Ab (w64 (x7 - 1)) p1.length, .idx Aa e7 p0.length, .idx Ab x7 p1.length, .idx Aa e4 p0.length] [2, 3, 4, 5] [e18, e19, (31, e3, (iv e4)), e20] (fun fb => by kernel_rfl) rfl ⟨rowR.adr (hS28.rd 1).1 h30.1 h30.2, rowR.adr (hS28.rd 0).1 h31.1 h31.2, rowR.adr (hS28.rd 1).1 h29.1 h29.2, rowR.adr (hS28.rd 0).1 h32.1 h32.2, trivial⟩ rfl ?_
      refine WL.done rfl ?_
      injection hx17 with hx17
      exact WX.to Kx16 (e13 != e14) e15 rfl ⟨(hS28.subR [0, 1]).sub [] (by decide), hx17.symm⟩
     obtain ⟨h35, hx17⟩ := as_some hx17
     refine WC.regionD ([e11, e16], e2, e1) [e2] (by kernel_rfl) (by kernel_rfl) (NoPanic.seq (NoPanic.block (NoPanic.seq (NoPanic.seq (NoPanic.block (NoPanic.seq (NoPanic.body))))))) ?_
     have hS34 := hS12.drew
     revert hS34
     generalize World.drew w11 = w33
     intro hS34
     refine ⟨⟨rowR.cell (hS34.rd 1).1 0 h35.1 h35.2 0 rfl, rowR.cell (hS34.rd 1).1 0 h35.1 h35.2 0 rfl, trivial⟩, forallC ?_ (forallN)⟩
     refine segF 6 [.v (iv e4)] [0, 1, 5, 25] e6 [.idx Ab x7 p1.length] [0] [e11] (fun fb => by kernel_rfl) rfl ⟨rowR.adr (hS34.rd 1).1 h35.1 h35.2, trivial⟩ rfl ?_
     refine WL.setB 25 h18 rfl ?_
     refine segF 15 [.v (iv e4)] [0, 1, 5, 34] e8 [.idx Ab x7 p1.length] [1] [e16] (fun fb => by kernel_rfl) rfl ⟨rowR.adr (hS34.rd 1).1 h35.1 h35.2, trivial⟩ rfl ?_
     refine WL.setB 34 h22 rfl ?_
     refine sg 18 [] [0, 1, 5, 34, 37] [e9, e10, e17, (34, (bv false)), (37, (bv (decide (x7 > 0))))] (by kernel_rfl) ?_
     refine WL.setB 37 h26 rfl ?_
     refine sg 38 [] e15 [e9, e10, e17, (57, (bv false))] (by kernel_rfl) ?_
     refine WL.done rfl ?_
     injection hx17 with hx17
     exact WX.to Kx16 false e15 rfl ⟨(hS34.subR [0, 1]).sub [] (by decide), hx17.symm⟩
    rintro y39 w36 ⟨hS37, hq38⟩
    subst hq38
    refine WX.next ?_
    rcases br_some hl13 with ⟨h40, hl13⟩ | ⟨h40, hl13⟩
    ·refine WC.condT2 (fun fb => by kernel_rfl) h40 ?_
     refine WC.seq (WC.region ?_)
     refine sg 1 [] [4] [(4, (bv false))] (by kernel_rfl) ?_
     refine WL.done rfl (WX.next ?_)
     refine WC.ret ?_
     injection hl13 with hl13
     subst hl13
     injection hf with hf
     subst hf
     exact WX.blockR (WX.thenR (WX.thenR (WX.blockR (WX.thenR (WX.ret_ [] (bv false) [] (fun fb => by kernel_rfl) trivial ⟨_, rfl, rfl, hS37.keep⟩)))))
    refine WC.condF2 (fun fb => by kernel_rfl) h40 ?_
    refine WC.skip ?_
    refine WX.blockN (WX.next ?_)
    refine WC.region ?_
    refine sg 3 [] [0, 1, 5] [e9, e10, (5, (iv (w64 (x7 + 1))))] (by kernel_rfl) ?_
    refine WL.done rfl ?_
    exact WX.again k10 (Nat.lt_succ_self _) (w64 (x7 + 1)) [0, 1, 5] rfl ⟨(hS37.subR [0, 1]).sub [] (by decide), hl13⟩
   refine WC.condF2 (fun fb => by kernel_rfl) h14 ?_
   refine WC.exit ?_
   injection hl13 with hl13
   exact WX.thenX (WX.thenX (WX.blockHere (WX.to Kx8 () [] rfl ⟨(hS12.subR [0, 1]).sub [] (by decide), hl13.symm⟩)))
 rintro y44 w41 ⟨hS42, hq43⟩
 subst hq43
 have hf := sum_inr hf
 refine WX.next (WC.seq (WC.region ?_))
 refine sg 1 [] [4] [(4, (bv true))] (by kernel_rfl) ?_
 refine WL.done rfl (WX.next ?_)
 refine WC.ret ?_
 injection hf with hf
 subst hf
 exact WX.ret_ [] (bv true) [] (fun fb => by kernel_rfl) trivial ⟨_, rfl, rfl, hS42.keep⟩
theorem ref06_gcd_calls (k : Nat) (p0 : Int) (p1 : Int)  (r : Int) (w : World)  (hf : ref06_gcd k p0 p1 = some r) :
  CallsR Tryz.prog 52 #[(iv p0), (iv p1)] w (fun v w' => v = (iv r) ∧ Keeps NoS w w') := by
 have hS : St NoS w w [] [] := St.init (ro_nil _ _)
 refine enter 12 Tryz.func52 rfl Tryz.ntmps52 rfl ?_
 unfold ref06_gcd at hf
 refine WC.seq (WC.region ?_)
 refine sg 1 [] [0, 1] [(0, (iv p0)), (1, (iv p1))] (by kernel_rfl) ?_
 refine WL.done rfl (WX.next (WC.seq ?_))
 obtain ⟨x5, hx7, hf⟩ := bind_some hf
 refine WC.cutN (T := Int) (fun t => [(0, (iv t))]) (fun t w1 => St NoS w w1 [] [] ∧ x5 = t) (fun Kx5 => ?_) ?_
 ·
  refine WC.block ?_
  refine WC.loop (T := Int × Int) (fun t => [(0, (iv t.1)), (1, (iv t.2))]) (fun n t w1 => St NoS w w1 [] [] ∧ ref06_gcd.l0 n t.1 t.2 = some x5) k (p0, p1) [0, 1] rfl ⟨(hS.subR []).sub [] (by decide), hx7⟩ ?_
  rintro k8 ⟨x3, x4⟩ w9 ⟨hS10, hl11⟩
  cases k8 with
  | zero => rw [ref06_gcd.l0] at hl11; cases hl11
  | succ k8 =>
   rw [ref06_gcd.l0] at hl11
   refine WC.seq (WC.seq (WC.region ?_))
   refine sg 2 [] [0, 1, 6] [(0, (iv x3)), (1, (iv x4)), (6, (bv (decide (x4 > 0))))] (by kernel_rfl) ?_
   refine WL.done rfl (WX.next ?_)
   rcases br_some hl11 with ⟨h12, hl11⟩ | ⟨h12, hl11⟩
   ·refine WC.condT2 (fun fb => by kernel_rfl) h12 ?_
    refine WC.skip (WX.next (WC.block ?_))
    obtain ⟨h15, hl11⟩ := as_some hl11
    refine WC.regionD ([], [0, 1, 2, 3, 4, 5], [[], [], [], [1, 2], [0, 1], [0, 1, 2, 3, 4]]) [[0, 1, 2, 3, 4, 5]] (by kernel_rfl) (by kernel_rfl) (NoPanic.block (NoPanic.seq (NoPanic.block (NoPanic.seq (NoPanic.body))))) ?_
    have hS14 := hS10.drew
    revert hS14
    generalize World.drew w9 = w13
    intro hS14
    refine ⟨trivial, forallC ?_ (forallN)⟩
    refine seg 6 [] [0, 1] [(0, (iv x4)), (1, (iv (Int.tmod x3 x4)))] [.ne x4] (fun fb => by kernel_rfl) rfl ⟨h15, trivial⟩ ?_
    refine WL.done rfl ?_
    exact WX.blockN (WX.again k8 (Nat.lt_succ_self _) (x4, Int.tmod x3 x4) [0, 1] rfl ⟨(hS14.subR []).sub [] (by decide), hl11⟩)
   refine WC.condF2 (fun fb => by kernel_rfl) h12 ?_
   refine WC.exit ?_
   injection hl11 with hl11
   exact WX.thenX (WX.thenX (WX.blockHere (WX.to Kx5 x3 [0] rfl ⟨(hS10.subR []).sub [] (by decide), hl11.symm⟩)))
 rintro y19 w16 ⟨hS17, hq18⟩
 subst hq18
 refine WX.next (WC.seq (WC.region ?_))
 refine sg 2 [] [4] [(4, (iv x5))] (by kernel_rfl) ?_
 refine WL.done rfl (WX.next ?_)
 refine WC.ret ?_
 injection hf with hf
 subst hf
 exact WX.ret_ [] (iv x5) [] (fun fb => by kernel_rfl) trivial ⟨_, rfl, rfl, hS17.keep⟩
theorem ref06_Lowest_calls (k : Nat) (p0 : Int) (p1 : Int)  (r : Frac) (w : World)  (hf : ref06_Lowest k p0 p1 = some r) :
  CallsR Tryz.prog 51 #[(iv p0), (iv p1)] w (fun v w' => v = (.agg #[(iv r.Num), (iv r.Den)]) ∧ Keeps NoS w w') := by
 have hS : St NoS w w [] [] := St.init (ro_nil _ _)
 refine enter 16 Tryz.func51 rfl Tryz.ntmps51 rfl ?_
 unfold ref06_Lowest at hf
 refine WC.seq (WC.region ?_)
 refine WL.new hS 4 [] (fun g => (pt g)) (.cells #[(iv 0), (iv 0)] 33 (0, 0)) [] (fun fb g => by kernel_rfl) trivial (fun g2 w3 hS4 => ?_)
 refine ⟨trivial, ?_⟩
 refine WL.done rfl (WX.next (WC.seq (WC.region ?_)))
 refine sg 2 [] [0, 1, 4, 6, 7] [(0, (iv p0)), (1, (iv p1)), (4, (pt g2)), (6, (iv p0)), (7, (iv p1))] (by kernel_rfl) ?_
 obtain ⟨t5, ht7, hf⟩ := bind_some hf
 refine WL.call (some 8) 52 #[(iv p0), (iv p1)] (fun fb => by kernel_rfl) (ref06_gcd_calls _ p0 p1 t5 _ ht7) (fun v w8 hR9 => ?_)
 obtain ⟨rfl, hk_⟩ := hR9
 have hS10 := hS4.keepN hk_
 refine ⟨trivial, ?_⟩
 refine sg 4 [] [0, 1, 4, 5] [(0, (iv p0)), (1, (iv p1)), (4, (pt g2)), (5, (iv t5))] (by kernel_rfl) ?_
 refine WL.done rfl (WX.next (WC.seq ?_))
 obtain ⟨h13, hf⟩ := as_some hf
 refine WC.regionD ([], [0, 1, 2, 3, 4, 5, 6], [[], [], [0, 1], [], [], [3, 4], [0, 1, 2, 3, 4, 5], [0, 1, 2, 3, 4, 5, 6]]) [[0, 1, 2, 3, 4, 5, 6, 7]] (by kernel_rfl) (by kernel_rfl) (NoPanic.seq (NoPanic.body)) ?_
 have hS12 := hS10.drew
 revert hS12
 generalize World.drew w8 = w11
 intro hS12
 refine ⟨trivial, forallC ?_ (forallN)⟩
 refine seg 7 [] [4, 15] [(4, (pt g2)), (15, (.agg #[(iv (w64 (Int.tdiv p0 t5))), (iv (w64 (Int.tdiv p1 t5)))]))] [.ne t5, .ne t5] (fun fb => by kernel_rfl) rfl ⟨h13, h13, trivial⟩ ?_
 refine WL.store hS12 0 rfl [(0, (iv (w64 (Int.tdiv p0 t5)))), (1, (iv (w64 (Int.tdiv p1 t5))))] #[(iv (w64 (Int.tdiv p0 t5))), (iv (w64 (Int.tdiv p1 t5)))] (fun fb => by kernel_rfl) (by kernel_rfl) rfl [] (by decide) (by decide) (fun w14 hS15 => ?_)
 refine ⟨trivial, ?_⟩
 refine WL.done rfl (WX.next ?_)
 refine WC.ret ?_
 injection hf with hf
 subst hf
 exact WX.ret_ [.v (iv (w64 (Int.tdiv p0 t5))), .v (iv (w64 (Int.tdiv p1 t5)))] (.agg #[(iv (w64 (Int.tdiv p0 t5))), (iv (w64 (Int.tdiv p1 t5)))]) [.cell ⟨g2, 0, none⟩ (iv (w64 (Int.tdiv p0 t5))), .cell ⟨g2, 1, none⟩ (iv (w64 (Int.tdiv p1 t5)))] (fun fb => by kernel_rfl) ⟨hS15.cell 0 rfl 0 rfl, hS15.cell 0 rfl 1 rfl, trivial⟩ ⟨_, rfl, rfl, hS15.keep⟩
theorem ref06_Common_calls (k : Nat) (p0 : List Frac) (p1 : Int) (Aa : Option Addr) (ca : Nat) (r : Int) (w : World) (hR0 : RO NoS w (rowR enc_Frac Aa ca p0)) (hf : ref06_Common k p0 p1 = some r) :
  CallsR Tryz.prog 16 #[(sv Aa p0 ca), (iv p1)] w (fun v w' => v = (iv r) ∧ Keeps NoS w w') := by
 have hS : St NoS w w [rowR enc_Frac Aa ca p0] [] := St.init (ro_cons hR0 (ro_nil _ _))
 refine enter 41 Tryz.func16 rfl Tryz.ntmps16 rfl ?_
 unfold ref06_Common at hf
 refine WC.seq (WC.region ?_)
 refine sg 1 [] [0, 1] [(0, (sv Aa p0 ca)), (1, (iv p1))] (by kernel_rfl) ?_
 refine WL.done rfl (WX.next (WC.seq (WC.region ?_)))
 refine sg 1 [] [0, 1, 5] [(0, (sv Aa p0 ca)), (1, (iv p1)), (5, (iv 1))] (by kernel_rfl) ?_
 refine WL.done rfl (WX.next (WC.seq (WC.seq (WC.region ?_))))
 refine sg 1 [] [0, 1, 5, 6] [(0, (sv Aa p0 ca)), (1, (iv p1)), (5, (iv 1)), (6, (iv 0))] (by kernel_rfl) ?_
 refine WL.done rfl (WX.next ?_)
 obtain ⟨x5, hx7, hf⟩ := bind_some hf
 let e3 : Nat × Value := (0, (sv Aa p0 ca))
 let e4 := w64 (p1 + 1)
 let e5 : Nat × Value := (1, (iv p1))
 refine WC.cutN (T := Int) (fun t => [(5, (iv t))]) (fun t w1 => St NoS w w1 [rowR enc_Frac Aa ca p0] [] ∧ x5 = .inr t) (fun Kx5 => ?_) ?_
 ·
  refine WC.block ?_
  refine WC.loop (T := Int × Int) (fun t => [e3, e5, (5, (iv t.1)), (6, (iv t.2))]) (fun n t w1 => St NoS w w1 [rowR enc_Frac Aa ca p0] [] ∧ ref06_Common.l0 n t.1 t.2 p0 p1 = some x5) k (1, 0) [0, 1, 5, 6] rfl ⟨(hS.subR [0]).sub [] (by decide), hx7⟩ ?_
  rintro k8 ⟨x3, x4⟩ w9 ⟨hS10, hl11⟩
  let e1 := rdD p0 x4 z_Frac
  let e2 : List (Nat × Addr × Value) := [(4, ((adr Aa).add ((x4).toNat * 2)), (iv (e1.Num))), (9, (((adr Aa).add ((x4).toNat * 2)).add 1), (iv (e1.Den)))]
  cases k8 with
  | zero => rw [ref06_Common.l0] at hl11; cases hl11
  | succ k8 =>
   rw [ref06_Common.l0] at hl11
   refine WC.seq (WC.seq (WC.region ?_))
   refine sg 4 [] [0, 1, 5, 6, 11] [e3, e5, (5, (iv x3)), (6, (iv x4)), (11, (bv (decide (x4 < (p0.length : Int)))))] (by kernel_rfl) ?_
   refine WL.done rfl (WX.next ?_)
   rcases br_some hl11 with ⟨h12, hl11⟩ | ⟨h12, hl11⟩
   ·refine WC.condT2 (fun fb => by kernel_rfl) h12 ?_
    refine WC.skip (WX.next (WC.seq (WC.block (WC.seq ?_))))
    obtain ⟨h15, hl11⟩ := as_some hl11
    refine WC.regionD (e2, [0, 1, 2, 3, 4, 5, 6, 7, 8, 9, 11, 12], [[], [], [0, 1], [0, 1, 2], [0, 1, 2, 3], [], [], [5, 6], [5, 6, 7], [5, 6, 7, 8], [0, 1, 2, 3, 4, 5, 6, 7, 8, 9], [0, 1, 2, 3, 4, 5, 6, 7, 8, 9, 10], [0, 1, 2, 3, 4, 5, 6, 7, 8, 9, 10, 11]]) [[0, 1, 2, 3, 4, 5, 6, 7, 8, 9, 10, 11, 12]] (by kernel_rfl) (by kernel_rfl) (NoPanic.seq (NoPanic.block (NoPanic.seq (NoPanic.seq (NoPanic.block (NoPanic.seq (NoPanic.body))))))) ?_
    have hS14 := hS10.drew
    revert hS14
    generalize World.drew w9 = w13
    intro hS14
    refine ⟨⟨rowR.cell (hS14.rd 0).1 z_Frac h15.1 h15.2 0 rfl, rowR.cell (hS14.rd 0).1 z_Frac h15.1 h15.2 1 rfl, trivial⟩, forallC ?_ (forallN)⟩
    refine segF 10 [.v (iv (e1.Num)), .v (iv (e1.Den))] [0, 1, 5, 6, 18, 23] [e3, e5, (5, (iv x3)), (6, (iv x4)), (18, (iv (e1.Num))), (23, (iv (e1.Den)))] [.idx Aa x4 p0.length, .idx Aa x4 p0.length] [0, 1] e2 (fun fb => by kernel_rfl) rfl ⟨rowR.adr (hS14.rd 0).1 h15.1 h15.2, rowR.adr (hS14.rd 0).1 h15.1 h15.2, trivial⟩ rfl ?_
    obtain ⟨t17, ht18, hl11⟩ := bind_some hl11
    refine WL.call (some 24) 51 #[(iv (e1.Num)), (iv (e1.Den))] (fun fb => by kernel_rfl) (ref06_Lowest_calls _ (e1.Num) (e1.Den) t17 _ ht18) (fun v w19 hR20 => ?_)
    obtain ⟨rfl, hk_⟩ := hR20
    have hS21 := hS14.keepN hk_
    refine ⟨trivial, ?_⟩
    refine sg 13 [] [0, 1, 5, 6, 7] [e3, e5, (5, (iv x3)), (6, (iv x4)), (7, (iv t17.Den))] (by kernel_rfl) ?_
    refine WL.done rfl (WX.next (WC.seq (WC.region ?_)))
    refine sg 3 [] [0, 1, 6, 7, 26, 27, 28] [e3, e5, (6, (iv x4)), (7, (iv t17.Den)), (26, (iv x3)), (27, (iv x3)), (28, (iv t17.Den))] (by kernel_rfl) ?_
    obtain ⟨t22, ht23, hl11⟩ := bind_some hl11
    refine WL.call (some 29) 52 #[(iv x3), (iv t17.Den)] (fun fb => by kernel_rfl) (ref06_gcd_calls _ x3 t17.Den t22 _ ht23) (fun v w24 hR25 => ?_)
    obtain ⟨rfl, hk_⟩ := hR25
    have hS26 := hS21.keepN hk_
    refine ⟨trivial, ?_⟩
    obtain ⟨h27, hl11⟩ := as_some hl11
    refine seg 11 [] [0, 1, 5, 6] [e3, e5, (5, (iv (minI (w64 ((w64 (Int.tdiv x3 t22)) * t17.Den)) e4))), (6, (iv x4))] [.ne t22] (fun fb => by kernel_rfl) rfl ⟨h27, trivial⟩ ?_
    refine WL.done rfl (WX.next (WC.seq (WC.region ?_)))
    refine sg 3 [] [0, 1, 5, 6, 38] [e3, e5, (5, (iv (minI (w64 ((w64 (Int.tdiv x3 t22)) * t17.Den)) e4))), (6, (iv x4)), (38, (bv (decide (minI (w64 ((w64 (Int.tdiv x3 t22)) * t17.Den)) e4 > p1))))] (by kernel_rfl) ?_
    refine WL.done rfl (WX.next ?_)
    let e6 := iv (minI (w64 ((w64 (Int.tdiv x3 t22)) * t17.Den)) e4)
    rcases br_some hl11 with ⟨h28, hl11⟩ | ⟨h28, hl11⟩
    ·refine WC.condT2 (fun fb => by kernel_rfl) h28 ?_
     refine WC.seq (WC.region ?_)
     refine sg 2 [] [4] [(4, e6)] (by kernel_rfl) ?_
     refine WL.done rfl (WX.next ?_)
     refine WC.ret ?_
     injection hl11 with hl11
     subst hl11
     injection hf with hf
     subst hf
     exact WX.blockR (WX.thenR (WX.thenR (WX.blockR (WX.thenR (WX.ret_ [] e6 [] (fun fb => by kernel_rfl) trivial ⟨_, rfl, rfl, hS26.keep⟩)))))
    refine WC.condF2 (fun fb => by kernel_rfl) h28 ?_
    refine WC.skip ?_
    refine WX.blockN (WX.next ?_)
    refine WC.region ?_
    refine sg 3 [] [0, 1, 5, 6] [e3, e5, (5, e6), (6, (iv (w64 (x4 + 1))))] (by kernel_rfl) ?_
    refine WL.done rfl ?_
    exact WX.again k8 (Nat.lt_succ_self _) (minI (w64 ((w64 (Int.tdiv x3 t22)) * t17.Den)) e4, w64 (x4 + 1)) [0, 1, 5, 6] rfl ⟨(hS26.subR [0]).sub [] (by decide), hl11⟩
   refine WC.condF2 (fun fb => by kernel_rfl) h12 ?_
   refine WC.exit ?_
   injection hl11 with hl11
   exact WX.thenX (WX.thenX (WX.blockHere (WX.to Kx5 x3 [5] rfl ⟨(hS10.subR [0]).sub [] (by decide), hl11.symm⟩)))
 rintro y32 w29 ⟨hS30, hq31⟩
 subst hq31
 have hf := sum_inr hf
 refine WX.next (WC.seq (WC.region ?_))
 refine sg 2 [] [4] [(4, (iv y32))] (by kernel_rfl) ?_
 refine WL.done rfl (WX.next ?_)
 refine WC.ret ?_
 injection hf with hf
 subst hf
 exact WX.ret_ [] (iv y32) [] (fun fb => by kernel_rfl) trivial ⟨_, rfl, rfl, hS30.keep⟩
end Gp
