/- Walks: each function of the program computes its plain function. -/
import Derived.Test.YtfehljifahnipaaGreatDoorGx4
set_option linter.unusedVariables false
set_option linter.unusedSimpArgs false
set_option maxHeartbeats 4000000
set_option maxRecDepth 8000
namespace Gp
open Go Gw Go.Proofs
theorem ref06_Excludes_calls (k : Nat) (p0 : List Tile) (p1 : Weights) (Aa : Option Addr) (ca : Nat) (Ab : Option Addr) (cb : Nat) (Ac : Option Addr) (cc : Nat) (Ad : Option Addr) (cd : Nat) (Ae : Option Addr) (ce : Nat) (Af : Option Addr) (cf : Nat) (r : Bool) (w : World) (hR0 : RO NoS w (rowR enc_Tile Aa ca p0)) (hR1 : RO NoS w (rowR enc_Frac Ab cb p1.Values)) (hR2 : RO NoS w (rowR enc_Frac Ac cc p1.Carries)) (hR3 : RO NoS w (rowR enc_Frac Ad cd p1.Factors)) (hR4 : RO NoS w (rowR encInt Ae ce p1.Primes)) (hR5 : RO NoS w (rowR encInt Af cf p1.Logs)) (hf : ref06_Excludes k p0 p1 = some r) :
  CallsR Tryz.prog 13 #[(sv Aa p0 ca), (.agg #[(sv Ab p1.Values cb), (sv Ac p1.Carries cc), (sv Ad p1.Factors cd), (sv Ae p1.Primes ce), (sv Af p1.Logs cf)])] w (fun v w' => v = (bv r) ∧ Keeps NoS w w') := by
 have hS : St NoS w w [rowR enc_Tile Aa ca p0, rowR enc_Frac Ab cb p1.Values, rowR enc_Frac Ac cc p1.Carries, rowR enc_Frac Ad cd p1.Factors, rowR encInt Ae ce p1.Primes, rowR encInt Af cf p1.Logs] [] := St.init (ro_cons hR0 (ro_cons hR1 (ro_cons hR2 (ro_cons hR3 (ro_cons hR4 (ro_cons hR5 (ro_nil _ _)))))))
 refine enter 91 Tryz.func13 rfl Tryz.ntmps13 rfl ?_
 unfold ref06_Excludes at hf
 refine WC.seq (WC.region ?_)
 refine WL.new hS 3 [] (fun g => (pt g)) (.cells #[(sv Ab p1.Values cb), (sv Ac p1.Carries cc), (sv Ad p1.Factors cd), (sv Ae p1.Primes ce), (sv Af p1.Logs cf)] 26 (0, 0)) [] (fun fb g => by kernel_rfl) trivial (fun g7 w8 hS9 => ?_)
 refine ⟨trivial, ?_⟩
 refine sg 2 [] [0, 3] [(0, (sv Aa p0 ca)), (3, (pt g7))] (by kernel_rfl) ?_
 refine WL.done rfl (WX.next (WC.seq (WC.seq (WC.region ?_))))
 refine sg 1 [] [0, 3, 5] [(0, (sv Aa p0 ca)), (3, (pt g7)), (5, (iv 0))] (by kernel_rfl) ?_
 refine WL.done rfl (WX.next ?_)
 obtain ⟨x11, hx12, hf⟩ := bind_some hf
 let e2 : List Own := [rowR enc_Tile Aa ca p0, rowR enc_Frac Ab cb p1.Values, rowR enc_Frac Ac cc p1.Carries, rowR enc_Frac Ad cd p1.Factors, rowR encInt Ae ce p1.Primes, rowR encInt Af cf p1.Logs]
 let e3 : Array Value := #[(sv Ab p1.Values cb), (sv Ac p1.Carries cc), (sv Ad p1.Factors cd), (sv Ae p1.Primes ce), (sv Af p1.Logs cf)]
 let e32 : List Nat := [0, 1, 2, 3, 4, 5, 6, 7, 8]
 let e5 := [[], [0], [], [], [2, 3], [2, 3, 4], [2, 3, 4, 5], [0, 1, 2, 3, 4, 5, 6], [0, 1, 2, 3, 4, 5, 6, 7], e32, [0, 1, 2, 3, 4, 5, 6, 7, 8, 9], e32, [0, 1, 2, 3, 4, 5, 6, 7, 8, 9, 10, 11], [0, 1, 2, 3, 4, 5, 6, 7, 8, 9, 10, 11, 12], e32, [0, 1, 2, 3, 4, 5, 6, 7, 8, 14], e32, [0, 1, 2, 3, 4, 5, 6, 7, 8, 14, 15, 16], [0, 1, 2, 3, 4, 5, 6, 7, 8, 14, 15, 16, 17], [0, 1, 2, 3, 4, 5, 6, 7, 8, 9, 10, 11, 12, 13, 14, 15, 16, 17, 18], [0, 1, 2, 3, 4, 5, 6, 7, 8, 9, 10, 11, 12, 13, 14, 15, 16, 17, 18, 19], [0, 1, 2, 3, 4, 5, 6, 7, 8, 9, 10, 11, 12, 13, 14, 15, 16, 17, 18, 19, 20]]
 let e6 : Nat × Value := (0, (sv Aa p0 ca))
 let e12 := sv Ad p1.Factors cd
 let e14 : List Nat := [0, 1, 2, 3, 4, 5, 6, 7, 8, 9, 10, 11, 12, 13, 14, 15, 16, 17, 18, 19, 20, 21, 22, 23, 24, 25, 26, 27, 28, 29, 30, 31]
 let e17 : Nat × Value := (3, (pt g7))
 let e19 := sv Ac p1.Carries cc
 let e21 := sv Ab p1.Values cb
 let e22 : List Nat := [0, 1, 2, 3, 4, 5]
 let e30 := [[0, 1, 2, 3, 4, 5, 6, 7, 8, 9, 10, 11, 12, 13, 14, 15, 16, 17, 18, 19, 20, 21]]
 let e34 : List Nat := [0, 1, 2, 3, 4, 5, 6, 7, 8, 9, 10, 11, 12, 13, 14, 15, 16, 17, 18, 20, 21]
 refine WC.cutN (T := Unit) (fun t => [e6, e17]) (fun t w1 => St NoS w w1 e2 [blk g7 (.cells e3 26 (0, 0))] ∧ x11 = .inr t) (fun Kx11 => ?_) ?_
 ·
  refine WC.block ?_
  refine WC.loop (T := Int) (fun t => [e6, e17, (5, (iv t))]) (fun n t w1 => St NoS w w1 e2 [blk g7 (.cells e3 26 (0, 0))] ∧ ref06_Excludes.l0 n t p0 p1 = some x11) k 0 [0, 3, 5] rfl ⟨(hS9.subR e22).sub [0] (by decide), hx12⟩ ?_
  rintro k14 x10 w15 ⟨hS16, hl17⟩
  let e1 := rdD p0 x10 z_Tile
  let e4 := rdD p1.Factors x10 z_Frac
  let e7 := rdD p1.Carries (e1.W) z_Frac
  let e8 := rdD p1.Carries (e1.E) z_Frac
  let e9 := (adr Ad).add ((x10).toNat * 2)
  let e10 := rdD p1.Values (e1.S) z_Frac
  let e11 := rdD p1.Values (e1.N) z_Frac
  let e16 : Array Value := #[(iv (e1.N)), (iv (e1.E)), (iv (e1.S)), (iv (e1.W))]
  let e18 : Nat × Value := (5, (iv x10))
  let e20 : Array Value := #[(iv (e4.Num)), (iv (e4.Den))]
  let e23 := (adr Ab).add ((e1.S).toNat * 2)
  let e24 := (adr Ac).add ((e1.W).toNat * 2)
  let e25 := (adr Ab).add ((e1.N).toNat * 2)
  let e26 := (adr Ac).add ((e1.E).toNat * 2)
  let e27 := (adr Aa).add ((x10).toNat * 4)
  let e33 := iv (e1.E)
  let e35 := iv (e4.Num)
  let e36 := iv (e4.Den)
  cases k14 with
  | zero => rw [ref06_Excludes.l0] at hl17; cases hl17
  | succ k14 =>
   rw [ref06_Excludes.l0] at hl17
   refine WC.seq (WC.seq (WC.region ?_))
   refine sg 4 [] [0, 3, 5, 11] [e6, e17, e18, (11, (bv (decide (x10 < (p0.length : Int)))))] (by kernel_rfl) ?_
   refine WL.done rfl (WX.next ?_)
   rcases br_some hl17 with ⟨h18, hl17⟩ | ⟨h18, hl17⟩
   ·refine WC.condT2 (fun fb => by kernel_rfl) h18 ?_
    refine WC.skip (WX.next (WC.seq (WC.block (WC.seq (WC.region ?_)))))
    refine sg 2 [] [0, 3, 5, 14, 15] [e6, e17, e18, (14, (sv Aa p0 ca)), (15, (iv x10))] (by kernel_rfl) ?_
    obtain ⟨h19, hl17⟩ := as_some hl17
    refine seg 4 [.v (iv (e1.N)), .v e33, .v (iv (e1.S)), .v (iv (e1.W))] [0, 3, 5, 17] [e6, e17, e18, (17, (.agg e16))] [.idx Aa x10 p0.length, .cell e27 (iv (e1.N)), .cell (e27.add 1) e33, .cell (e27.add 2) (iv (e1.S)), .cell (e27.add 3) (iv (e1.W))] (fun fb => by kernel_rfl) rfl ⟨rowR.adr (hS16.rd 0).1 h19.1 h19.2, rowR.cell (hS16.rd 0).1 z_Tile h19.1 h19.2 0 rfl, rowR.cell (hS16.rd 0).1 z_Tile h19.1 h19.2 1 rfl, rowR.cell (hS16.rd 0).1 z_Tile h19.1 h19.2 2 rfl, rowR.cell (hS16.rd 0).1 z_Tile h19.1 h19.2 3 rfl, trivial⟩ ?_
    refine WL.new hS16 6 [] (fun g => (pt g)) (.cells #[(iv 0), (iv 0), (iv 0), (iv 0)] 44 (0, 0)) [] (fun fb g => by kernel_rfl) trivial (fun g20 w21 hS22 => ?_)
    refine ⟨trivial, ?_⟩
    refine WL.store hS22 0 rfl [(0, (iv (e1.N))), (1, e33), (2, (iv (e1.S))), (3, (iv (e1.W)))] e16 (fun fb => by kernel_rfl) (by kernel_rfl) rfl [1] (by decide) (by decide) (fun w23 hS24 => ?_)
    refine ⟨trivial, ?_⟩
    refine WL.done rfl (WX.next (WC.seq (WC.seq ?_)))
    obtain ⟨h27, hl17⟩ := as_some hl17
    obtain ⟨h28, hl17⟩ := as_some hl17
    obtain ⟨h29, hl17⟩ := as_some hl17
    obtain ⟨h30, hl17⟩ := as_some hl17
    obtain ⟨h31, hl17⟩ := as_some hl17
    refine WC.regionD ([(1, ⟨g7, 2, none⟩, e12), (4, e9, e35), (4, (e9.add 1), e36), (6, ⟨g7, 0, none⟩, e21), (8, ⟨g20, 2, none⟩, (iv (e1.S))), (10, e23, (iv (e10.Num))), (10, (e23.add 1), (iv (e10.Den))), (12, ⟨g7, 1, none⟩, e19), (14, ⟨g20, 3, none⟩, (iv (e1.W))), (16, e24, (iv (e7.Num))), (16, (e24.add 1), (iv (e7.Den))), (18, ⟨g7, 0, none⟩, e21), (20, ⟨g20, 0, none⟩, (iv (e1.N))), (22, e25, (iv (e11.Num))), (22, (e25.add 1), (iv (e11.Den))), (24, ⟨g7, 1, none⟩, e19), (26, ⟨g20, 1, none⟩, e33), (28, e26, (iv (e8.Num))), (28, (e26.add 1), (iv (e8.Den))), (33, ⟨g7, 2, none⟩, e12), (37, ⟨g7, 0, none⟩, e21), (37, ⟨g7, 1, none⟩, e19), (37, ⟨g7, 2, none⟩, e12), (37, ⟨g7, 3, none⟩, (sv Ae p1.Primes ce)), (37, ⟨g7, 4, none⟩, (sv Af p1.Logs cf))], [0, 1, 2, 3, 4, 5, 6, 7, 8, 9, 10, 11, 12, 13, 14, 15, 16, 17, 18, 19, 20, 21, 22, 23, 24, 25, 26, 27, 28, 30, 31, 32, 33, 34, 35, 37, 39, 40], [[], [0], [], [0, 1, 2], [0, 1, 2, 3], [], [5], [], [7], [5, 6, 7, 8], [5, 6, 7, 8, 9], [], [11], [], [13], [11, 12, 13, 14], [11, 12, 13, 14, 15], [], [17], [], [19], [17, 18, 19, 20], [17, 18, 19, 20, 21], [], [23], [], [25], [23, 24, 25, 26], [23, 24, 25, 26, 27], [0, 1, 2, 3, 4, 5, 6, 7, 8, 9, 10, 11, 12, 13, 14, 15, 16, 17, 18, 19, 20, 21, 22, 23, 24, 25, 26, 27, 28], [0, 1, 2, 3, 4, 5, 6, 7, 8, 9, 10, 11, 12, 13, 14, 15, 16, 17, 18, 19, 20, 21, 22, 23, 24, 25, 26, 27, 28, 29], [0, 1, 2, 3, 4, 5, 6, 7, 8, 9, 10, 11, 12, 13, 14, 15, 16, 17, 18, 19, 20, 21, 22, 23, 24, 25, 26, 27, 28, 29, 30], e14, [0, 1, 2, 3, 4, 5, 6, 7, 8, 9, 10, 11, 12, 13, 14, 15, 16, 17, 18, 19, 20, 21, 22, 23, 24, 25, 26, 27, 28, 29, 30, 31, 32], e14, [0, 1, 2, 3, 4, 5, 6, 7, 8, 9, 10, 11, 12, 13, 14, 15, 16, 17, 18, 19, 20, 21, 22, 23, 24, 25, 26, 27, 28, 29, 30, 31, 32, 33, 34], [0, 1, 2, 3, 4, 5, 6, 7, 8, 9, 10, 11, 12, 13, 14, 15, 16, 17, 18, 19, 20, 21, 22, 23, 24, 25, 26, 27, 28, 29, 30, 31, 32, 33, 34, 35], e14, [0, 1, 2, 3, 4, 5, 6, 7, 8, 9, 10, 11, 12, 13, 14, 15, 16, 17, 18, 19, 20, 21, 22, 23, 24, 25, 26, 27, 28, 29, 30, 31, 32, 33, 34, 35, 36, 37], [0, 1, 2, 3, 4, 5, 6, 7, 8, 9, 10, 11, 12, 13, 14, 15, 16, 17, 18, 19, 20, 21, 22, 23, 24, 25, 26, 27, 28, 29, 30, 31, 32, 33, 34, 35, 36, 37, 38], [0, 1, 2, 3, 4, 5, 6, 7, 8, 9, 10, 11, 12, 13, 14, 15, 16, 17, 18, 19, 20, 21, 22, 23, 24, 25, 26, 27, 28, 29, 30, 31, 32, 33, 34, 35, 36, 37, 38, 39]]) [[0, 1, 2, 3, 4, 5, 6, 7, 8, 9, 10, 11, 12, 13, 14, 15, 16, 17, 18, 19, 20, 21, 22, 23, 24, 25, 26, 27, 28, 29, 30, 31, 32, 33, 34, 35, 37, 36, 38, 39, 40]] (by kernel_rfl) (by kernel_rfl) (NoPanic.seq (NoPanic.seq (NoPanic.block (NoPanic.seq (NoPanic.seq (NoPanic.block (NoPanic.seq (NoPanic.body)))))))) ?_
    have hS26 := hS24.drew
    revert hS26
    generalize World.drew w23 = w25
    intro hS26
    refine ⟨⟨hS26.cell 1 rfl 2 rfl, rowR.cell (hS26.rd 3).1 z_Frac h27.1 h27.2 0 rfl, rowR.cell (hS26.rd 3).1 z_Frac h27.1 h27.2 1 rfl, hS26.cell 1 rfl 0 rfl, hS26.cell 0 rfl 2 rfl, rowR.cell (hS26.rd 1).1 z_Frac h28.1 h28.2 0 rfl, rowR.cell (hS26.rd 1).1 z_Frac h28.1 h28.2 1 rfl, hS26.cell 1 rfl 1 rfl, hS26.cell 0 rfl 3 rfl, rowR.cell (hS26.rd 2).1 z_Frac h29.1 h29.2 0 rfl, rowR.cell (hS26.rd 2).1 z_Frac h29.1 h29.2 1 rfl, hS26.cell 1 rfl 0 rfl, hS26.cell 0 rfl 0 rfl, rowR.cell (hS26.rd 1).1 z_Frac h30.1 h30.2 0 rfl, rowR.cell (hS26.rd 1).1 z_Frac h30.1 h30.2 1 rfl, hS26.cell 1 rfl 1 rfl, hS26.cell 0 rfl 1 rfl, rowR.cell (hS26.rd 2).1 z_Frac h31.1 h31.2 0 rfl, rowR.cell (hS26.rd 2).1 z_Frac h31.1 h31.2 1 rfl, hS26.cell 1 rfl 2 rfl, hS26.cell 1 rfl 0 rfl, hS26.cell 1 rfl 1 rfl, hS26.cell 1 rfl 2 rfl, hS26.cell 1 rfl 3 rfl, hS26.cell 1 rfl 4 rfl, trivial⟩, forallC ?_ (forallN)⟩
    refine segF 29 [.v e12, .v e35, .v e36, .v e21, .v (iv (e1.S)), .v (iv (e10.Num)), .v (iv (e10.Den)), .v e19, .v (iv (e1.W)), .v (iv (e7.Num)), .v (iv (e7.Den)), .v e21, .v (iv (e1.N)), .v (iv (e11.Num)), .v (iv (e11.Den)), .v e19, .v e33, .v (iv (e8.Num)), .v (iv (e8.Den))] [0, 3, 5, 6, 22, 28, 34, 40, 46] [e6, e17, e18, (6, (pt g20)), (22, (.agg e20)), (28, (.agg #[(iv (e10.Num)), (iv (e10.Den))])), (34, (.agg #[(iv (e7.Num)), (iv (e7.Den))])), (40, (.agg #[(iv (e11.Num)), (iv (e11.Den))])), (46, (.agg #[(iv (e8.Num)), (iv (e8.Den))]))] [.idx Ad x10 p1.Factors.length, .idx Ab (e1.S) p1.Values.length, .idx Ac (e1.W) p1.Carries.length, .idx Ab (e1.N) p1.Values.length, .idx Ac (e1.E) p1.Carries.length] [0, 1, 2, 3, 4, 5, 6, 7, 8, 9, 10, 11, 12, 13, 14, 15, 16, 17, 18] [(1, ⟨g7, 2, none⟩, e12), (4, e9, e35), (4, (e9.add 1), e36), (6, ⟨g7, 0, none⟩, e21), (8, ⟨g20, 2, none⟩, (iv (e1.S))), (10, e23, (iv (e10.Num))), (10, (e23.add 1), (iv (e10.Den))), (12, ⟨g7, 1, none⟩, e19), (14, ⟨g20, 3, none⟩, (iv (e1.W))), (16, e24, (iv (e7.Num))), (16, (e24.add 1), (iv (e7.Den))), (18, ⟨g7, 0, none⟩, e21), (20, ⟨g20, 0, none⟩, (iv (e1.N))), (22, e25, (iv (e11.Num))), (22, (e25.add 1), (iv (e11.Den))), (24, ⟨g7, 1, none⟩, e19), (26, ⟨g20, 1, none⟩, e33), (28, e26, (iv (e8.Num))), (28, (e26.add 1), (iv (e8.Den)))] (fun fb => by kernel_rfl) rfl ⟨rowR.adr (hS26.rd 3).1 h27.1 h27.2, rowR.adr (hS26.rd 1).1 h28.1 h28.2, rowR.adr (hS26.rd 2).1 h29.1 h29.2, rowR.adr (hS26.rd 1).1 h30.1 h30.2, rowR.adr (hS26.rd 2).1 h31.1 h31.2, trivial⟩ rfl ?_
    obtain ⟨t32, ht33, hl17⟩ := bind_some hl17
    refine WL.call (some 47) 44 #[(.agg e20), (.agg #[(iv (e10.Num)), (iv (e10.Den))]), (.agg #[(iv (e7.Num)), (iv (e7.Den))]), (.agg #[(iv (e11.Num)), (iv (e11.Den))]), (.agg #[(iv (e8.Num)), (iv (e8.Den))])] (fun fb => by kernel_rfl) (ref06_Balanced_calls _ e4 e10 e7 e11 e8 t32 _ ht33) (fun v w34 hR35 => ?_)
    obtain ⟨rfl, hk_⟩ := hR35
    have hS36 := hS26.keepN hk_
    refine ⟨⟨hS36.cell 1 rfl 2 rfl, hS36.cell 1 rfl 0 rfl, hS36.cell 1 rfl 1 rfl, hS36.cell 1 rfl 2 rfl, hS36.cell 1 rfl 3 rfl, hS36.cell 1 rfl 4 rfl, trivial⟩, ?_⟩
    refine sg 32 [] [0, 3, 5, 6, 49] [e6, e17, e18, (6, (pt g20)), (49, (bv (!t32)))] (by kernel_rfl) ?_
    obtain ⟨x37, hx38, hl17⟩ := bind_some hl17
    refine WL.cutW (T := Bool) 41 (fun t => [e6, e17, e18, (6, (pt g20)), (58, (bv t))]) (fun t w1 => (St NoS w w1 e2 [blk g7 (.cells e3 26 (0, 0)), blk g20 (.cells e16 44 (0, 0))] ∧ x37 = t) ∧ CellsOK [] w1) (fun K => ?_) ?_
    ·
     rcases br_some hx38 with ⟨h39, hx38⟩ | ⟨h39, hx38⟩
     ·
      refine WL.setB 49 h39 rfl ?_
      refine sg 41 [] [0, 3, 5, 6, 58] [e6, e17, e18, (6, (pt g20)), (58, (bv true))] (by kernel_rfl) ?_
      injection hx38 with hx38
      exact WL.to K true [0, 3, 5, 6, 58] rfl ⟨⟨(hS36.subR e22).sub [1, 0] (by decide), hx38.symm⟩, trivial⟩
     refine WL.setB 49 h39 rfl ?_
     refine segF 38 [.v e12, .v e21, .v e19, .v e12, .v (sv Ae p1.Primes ce), .v (sv Af p1.Logs cf), .v e35, .v e36] [0, 3, 5, 6, 49, 54, 55] [e6, e17, e18, (6, (pt g20)), (49, (bv false)), (54, (.agg e20)), (55, (.agg e3))] [.idx Ad x10 p1.Factors.length, .cell e9 e35, .cell (e9.add 1) e36] [19, 20, 21, 22, 23, 24] [(33, ⟨g7, 2, none⟩, e12), (37, ⟨g7, 0, none⟩, e21), (37, ⟨g7, 1, none⟩, e19), (37, ⟨g7, 2, none⟩, e12), (37, ⟨g7, 3, none⟩, (sv Ae p1.Primes ce)), (37, ⟨g7, 4, none⟩, (sv Af p1.Logs cf))] (fun fb => by kernel_rfl) rfl ⟨rowR.adr (hS36.rd 3).1 h27.1 h27.2, rowR.cell (hS36.rd 3).1 z_Frac h27.1 h27.2 0 rfl, rowR.cell (hS36.rd 3).1 z_Frac h27.1 h27.2 1 rfl, trivial⟩ rfl ?_
     obtain ⟨t40, ht41, hx38⟩ := bind_some hx38
     refine WL.call (some 56) 45 #[(.agg e20), (.agg e3)] (fun fb => by kernel_rfl) (ref06_Grows_calls _ e4 p1 Ab cb Ac cc Ad cd Ae ce Af cf t40 _ (hS36.rd 1) (hS36.rd 2) (hS36.rd 3) (hS36.rd 4) (hS36.rd 5) ht41) (fun v w42 hR43 => ?_)
     obtain ⟨rfl, hk_⟩ := hR43
     have hS44 := hS36.keepN hk_
     refine ⟨trivial, ?_⟩
     refine sg 41 [] [0, 3, 5, 6, 58] [e6, e17, e18, (6, (pt g20)), (58, (bv (!t40)))] (by kernel_rfl) ?_
     injection hx38 with hx38
     exact WL.to K (!t40) [0, 3, 5, 6, 58] rfl ⟨⟨(hS44.subR e22).sub [1, 0] (by decide), hx38.symm⟩, trivial⟩
    rintro y45 w47 ⟨⟨hS48, hq46⟩, hF49⟩
    subst hq46
    refine WL.done rfl (WX.next ?_)
    rcases br_some hl17 with ⟨h50, hl17⟩ | ⟨h50, hl17⟩
    ·refine WC.condT2 (fun fb => by kernel_rfl) h50 ?_
     refine WC.seq (WC.region ?_)
     refine sg 1 [] [4] [(4, (bv false))] (by kernel_rfl) ?_
     refine WL.done rfl (WX.next ?_)
     refine WC.ret ?_
     injection hl17 with hl17
     subst hl17
     injection hf with hf
     subst hf
     exact WX.thenR (WX.blockR (WX.thenR (WX.thenR (WX.blockR (WX.thenR (WX.ret_ [] (bv false) [] (fun fb => by kernel_rfl) trivial ⟨_, rfl, rfl, hS48.keep⟩))))))
    refine WC.condF2 (fun fb => by kernel_rfl) h50 ?_
    refine WC.skip (WX.next (WC.seq (WC.region ?_)))
    refine sg 1 [] [0, 3, 5, 6, 7] [e6, e17, e18, (6, (pt g20)), (7, (iv 0))] (by kernel_rfl) ?_
    refine WL.done rfl (WX.next ?_)
    obtain ⟨x52, hx53, hl17⟩ := bind_some hl17
    let e29 : Nat × Value := (6, (pt g20))
    refine WC.cutN (T := Unit) (fun t => [e6, e17, e18]) (fun t w1 => St NoS w w1 e2 [blk g7 (.cells e3 26 (0, 0))] ∧ x52 = .inr t) (fun Kx52 => ?_) ?_
    ·
     refine WC.block ?_
     refine WC.loop (T := Int) (fun t => [e6, e17, e18, e29, (7, (iv t))]) (fun n t w1 => St NoS w w1 e2 [blk g7 (.cells e3 26 (0, 0)), blk g20 (.cells e16 44 (0, 0))] ∧ ref06_Excludes.l1 n t p0 p1 x10 = some x52) k14 0 [0, 3, 5, 6, 7] rfl ⟨(hS48.subR e22).sub [0, 1] (by decide), hx53⟩ ?_
     rintro k54 x51 w55 ⟨hS56, hl57⟩
     let e13 := rdD p1.Factors x51 z_Frac
     let e15 : List (Nat × Addr × Value) := [(1, ⟨g20, 1, none⟩, e33), (6, (((adr Aa).add ((x51).toNat * 4)).add 3), (iv ((rdD p0 x51 z_Tile).W)))]
     let e28 := (adr Ad).add ((x51).toNat * 2)
     let e31 := (rdD p0 x51 z_Tile).W
     let e37 : Nat × Value := (7, (iv x51))
     cases k54 with
     | zero => rw [ref06_Excludes.l1] at hl57; cases hl57
     | succ k54 =>
      rw [ref06_Excludes.l1] at hl57
      refine WC.seq (WC.seq (WC.region ?_))
      refine sg 4 [] [0, 3, 5, 6, 7, 62] [e6, e17, e18, e29, e37, (62, (bv (decide (x51 < (p0.length : Int)))))] (by kernel_rfl) ?_
      refine WL.done rfl (WX.next ?_)
      rcases br_some hl57 with ⟨h58, hl57⟩ | ⟨h58, hl57⟩
      ·refine WC.condT2 (fun fb => by kernel_rfl) h58 ?_
       refine WC.skip (WX.next (WC.seq (WC.block (WC.seq ?_))))
       obtain ⟨x59, hx60, hl57⟩ := bind_some hl57
       refine WC.cutN (T := Bool) (fun t => [e6, e17, e18, e29, e37, (86, (bv t))]) (fun t w1 => St NoS w w1 e2 [blk g7 (.cells e3 26 (0, 0)), blk g20 (.cells e16 44 (0, 0))] ∧ x59 = t) (fun Kx59 => ?_) ?_
       ·
        rcases br_some hx60 with ⟨h61, hx60⟩ | ⟨h61, hx60⟩
        ·
         obtain ⟨h65, hx60⟩ := as_some hx60
         obtain ⟨h66, hx60⟩ := as_some hx60
         refine WC.regionD ([(1, ⟨g20, 1, none⟩, e33), (6, (((adr Aa).add ((x51).toNat * 4)).add 3), (iv e31)), (10, ⟨g7, 2, none⟩, e12), (13, e9, e35), (13, (e9.add 1), e36), (15, ⟨g7, 2, none⟩, e12), (18, e28, (iv (e13.Num))), (18, (e28.add 1), (iv (e13.Den)))], e34, e5) e30 (by kernel_rfl) (by kernel_rfl) (NoPanic.seq (NoPanic.block (NoPanic.seq (NoPanic.seq (NoPanic.block (NoPanic.block (NoPanic.seq (NoPanic.seq (NoPanic.block (NoPanic.seq (NoPanic.body))))))))))) ?_
         have hS63 := hS56.drew
         revert hS63
         generalize World.drew w55 = w62
         intro hS63
         refine ⟨⟨hS63.cell 1 rfl 1 rfl, rowR.cell (hS63.rd 0).1 z_Tile h65.1 h65.2 3 rfl, hS63.cell 0 rfl 2 rfl, rowR.cell (hS63.rd 3).1 z_Frac h27.1 h27.2 0 rfl, rowR.cell (hS63.rd 3).1 z_Frac h27.1 h27.2 1 rfl, hS63.cell 0 rfl 2 rfl, rowR.cell (hS63.rd 3).1 z_Frac h66.1 h66.2 0 rfl, rowR.cell (hS63.rd 3).1 z_Frac h66.1 h66.2 1 rfl, trivial⟩, forallC ?_ (forallN)⟩
         refine segF 9 [.v e33, .v (iv e31)] [0, 3, 5, 6, 7, 73] [e6, e17, e18, e29, e37, (73, (bv ((e1.E) == e31)))] [.idx Aa x51 p0.length] [0, 1] e15 (fun fb => by kernel_rfl) rfl ⟨rowR.adr (hS63.rd 0).1 h65.1 h65.2, trivial⟩ rfl ?_
         refine WL.setB 73 h61 rfl ?_
         refine segF 19 [.v e12, .v e35, .v e36, .v e12, .v (iv (e13.Num)), .v (iv (e13.Den))] [0, 3, 5, 6, 7, 73, 78, 83] [e6, e17, e18, e29, e37, (73, (bv true)), (78, (.agg e20)), (83, (.agg #[(iv (e13.Num)), (iv (e13.Den))]))] [.idx Ad x10 p1.Factors.length, .idx Ad x51 p1.Factors.length] [2, 3, 4, 5, 6, 7] [(10, ⟨g7, 2, none⟩, e12), (13, e9, e35), (13, (e9.add 1), e36), (15, ⟨g7, 2, none⟩, e12), (18, e28, (iv (e13.Num))), (18, (e28.add 1), (iv (e13.Den)))] (fun fb => by kernel_rfl) rfl ⟨rowR.adr (hS63.rd 3).1 h27.1 h27.2, rowR.adr (hS63.rd 3).1 h66.1 h66.2, trivial⟩ rfl ?_
         obtain ⟨t67, ht68, hx60⟩ := bind_some hx60
         refine WL.call (some 84) 46 #[(.agg e20), (.agg #[(iv (e13.Num)), (iv (e13.Den))])] (fun fb => by kernel_rfl) (ref06_Same_calls e4 e13 t67 _ ht68) (fun v w69 hR70 => ?_)
         obtain ⟨rfl, hk_⟩ := hR70
         have hS71 := hS63.keepN hk_
         refine ⟨trivial, ?_⟩
         refine sg 22 [] [0, 3, 5, 6, 7, 86] [e6, e17, e18, e29, e37, (86, (bv (!t67)))] (by kernel_rfl) ?_
         refine WL.done rfl ?_
         injection hx60 with hx60
         exact WX.to Kx59 (!t67) [0, 3, 5, 6, 7, 86] rfl ⟨(hS71.subR e22).sub [0, 1] (by decide), hx60.symm⟩
        obtain ⟨h74, hx60⟩ := as_some hx60
        refine WC.regionD (e15, e34, e5) e30 (by kernel_rfl) (by kernel_rfl) (NoPanic.seq (NoPanic.block (NoPanic.seq (NoPanic.seq (NoPanic.block (NoPanic.block (NoPanic.seq (NoPanic.seq (NoPanic.block (NoPanic.seq (NoPanic.body))))))))))) ?_
        have hS73 := hS56.drew
        revert hS73
        generalize World.drew w55 = w72
        intro hS73
        refine ⟨⟨hS73.cell 1 rfl 1 rfl, rowR.cell (hS73.rd 0).1 z_Tile h74.1 h74.2 3 rfl, trivial⟩, forallC ?_ (forallN)⟩
        refine segF 9 [.v e33, .v (iv e31)] [0, 3, 5, 6, 7, 73] [e6, e17, e18, e29, e37, (73, (bv ((e1.E) == e31)))] [.idx Aa x51 p0.length] [0, 1] e15 (fun fb => by kernel_rfl) rfl ⟨rowR.adr (hS73.rd 0).1 h74.1 h74.2, trivial⟩ rfl ?_
        refine WL.setB 73 h61 rfl ?_
        refine sg 22 [] [0, 3, 5, 6, 7, 86] [e6, e17, e18, e29, e37, (86, (bv false))] (by kernel_rfl) ?_
        refine WL.done rfl ?_
        injection hx60 with hx60
        exact WX.to Kx59 false [0, 3, 5, 6, 7, 86] rfl ⟨(hS73.subR e22).sub [0, 1] (by decide), hx60.symm⟩
       rintro y78 w75 ⟨hS76, hq77⟩
       subst hq77
       refine WX.next ?_
       rcases br_some hl57 with ⟨h79, hl57⟩ | ⟨h79, hl57⟩
       ·refine WC.condT2 (fun fb => by kernel_rfl) h79 ?_
        refine WC.seq (WC.region ?_)
        refine sg 1 [] [4] [(4, (bv false))] (by kernel_rfl) ?_
        refine WL.done rfl (WX.next ?_)
        refine WC.ret ?_
        injection hl57 with hl57
        subst hl57
        injection hl17 with hl17
        subst hl17
        injection hf with hf
        subst hf
        exact WX.blockR (WX.thenR (WX.thenR (WX.blockR (WX.blockR (WX.thenR (WX.thenR (WX.blockR (WX.thenR (WX.ret_ [] (bv false) [] (fun fb => by kernel_rfl) trivial ⟨_, rfl, rfl, hS76.keep⟩)))))))))
       refine WC.condF2 (fun fb => by kernel_rfl) h79 ?_
       refine WC.skip ?_
       refine WX.blockN (WX.next ?_)
       refine WC.region ?_
       refine sg 3 [] [0, 3, 5, 6, 7] [e6, e17, e18, e29, (7, (iv (w64 (x51 + 1))))] (by kernel_rfl) ?_
       refine WL.done rfl ?_
       exact WX.again k54 (Nat.lt_succ_self _) (w64 (x51 + 1)) [0, 3, 5, 6, 7] rfl ⟨(hS76.subR e22).sub [0, 1] (by decide), hl57⟩
      refine WC.condF2 (fun fb => by kernel_rfl) h58 ?_
      refine WC.exit ?_
      injection hl57 with hl57
      exact WX.thenX (WX.thenX (WX.blockHere (WX.to Kx52 () [0, 3, 5] rfl ⟨(hS56.subR e22).sub [0] (by decide), hl57.symm⟩)))
    rintro y83 w80 ⟨hS81, hq82⟩
    subst hq82
    have hl17 := sum_inr hl17
    refine WX.blockN (WX.next ?_)
    refine WC.region ?_
    refine sg 3 [] [0, 3, 5] [e6, e17, (5, (iv (w64 (x10 + 1))))] (by kernel_rfl) ?_
    refine WL.done rfl ?_
    exact WX.again k14 (Nat.lt_succ_self _) (w64 (x10 + 1)) [0, 3, 5] rfl ⟨(hS81.subR e22).sub [0] (by decide), hl17⟩
   refine WC.condF2 (fun fb => by kernel_rfl) h18 ?_
   refine WC.exit ?_
   injection hl17 with hl17
   exact WX.thenX (WX.thenX (WX.blockHere (WX.to Kx11 () [0, 3] rfl ⟨(hS16.subR e22).sub [0] (by decide), hl17.symm⟩)))
 rintro y87 w84 ⟨hS85, hq86⟩
 subst hq86
 have hf := sum_inr hf
 refine WX.next (WC.seq (WC.region ?_))
 refine seg 2 [.v e21, .v e19, .v e12, .v (sv Ae p1.Primes ce), .v (sv Af p1.Logs cf)] [87, 88] [(87, (sv Aa p0 ca)), (88, (.agg e3))] [.cell ⟨g7, 0, none⟩ e21, .cell ⟨g7, 1, none⟩ e19, .cell ⟨g7, 2, none⟩ e12, .cell ⟨g7, 3, none⟩ (sv Ae p1.Primes ce), .cell ⟨g7, 4, none⟩ (sv Af p1.Logs cf)] (fun fb => by kernel_rfl) rfl ⟨hS85.cell 0 rfl 0 rfl, hS85.cell 0 rfl 1 rfl, hS85.cell 0 rfl 2 rfl, hS85.cell 0 rfl 3 rfl, hS85.cell 0 rfl 4 rfl, trivial⟩ ?_
 obtain ⟨t88, ht89, hf⟩ := bind_some hf
 refine WL.call (some 89) 47 #[(sv Aa p0 ca), (.agg e3)] (fun fb => by kernel_rfl) (ref06_circle_calls _ p0 p1 Aa ca Ab cb Ac cc Ad cd Ae ce Af cf t88 _ (hS85.rd 0) (hS85.rd 1) (hS85.rd 2) (hS85.rd 3) (hS85.rd 4) (hS85.rd 5) ht89) (fun v w90 hR91 => ?_)
 obtain ⟨rfl, hk_⟩ := hR91
 have hS92 := hS85.keepN hk_
 refine ⟨trivial, ?_⟩
 refine sg 5 [] [4] [(4, (bv (!t88)))] (by kernel_rfl) ?_
 refine WL.done rfl (WX.next ?_)
 refine WC.ret ?_
 injection hf with hf
 subst hf
 exact WX.ret_ [] (bv (!t88)) [] (fun fb => by kernel_rfl) trivial ⟨_, rfl, rfl, hS92.keep⟩
theorem law06_WeightChecks_calls (k : Nat) (p0 : List Tile) (p1 : Weights) (Aa : Option Addr) (ca : Nat) (Ab : Option Addr) (cb : Nat) (Ac : Option Addr) (cc : Nat) (Ad : Option Addr) (cd : Nat) (Ae : Option Addr) (ce : Nat) (Af : Option Addr) (cf : Nat) (mG : Glo) (r : Bool) (w : World) (hR0 : RO NoS w (rowR enc_Tile Aa ca p0)) (hR1 : RO NoS w (rowR enc_Frac Ab cb p1.Values)) (hR2 : RO NoS w (rowR enc_Frac Ac cc p1.Carries)) (hR3 : RO NoS w (rowR enc_Frac Ad cd p1.Factors)) (hR4 : RO NoS w (rowR encInt Ae ce p1.Primes)) (hR5 : RO NoS w (rowR encInt Af cf p1.Logs)) (hR6 : RO NoS w (tabO 0 md0)) (hR7 : RO NoS w (gloO Tryz.prog 5 8 3 4 mG)) (hf : law06_WeightChecks k p0 p1 = some r) :
  CallsR Tryz.prog 3 #[(sv Aa p0 ca), (.agg #[(sv Ab p1.Values cb), (sv Ac p1.Carries cc), (sv Ad p1.Factors cd), (sv Ae p1.Primes ce), (sv Af p1.Logs cf)])] w (fun v w' => v = (bv r) ∧ Keeps NoS w w') := by
 have hS : St NoS w w [rowR enc_Tile Aa ca p0, rowR enc_Frac Ab cb p1.Values, rowR enc_Frac Ac cc p1.Carries, rowR enc_Frac Ad cd p1.Factors, rowR encInt Ae ce p1.Primes, rowR encInt Af cf p1.Logs, tabO 0 md0, gloO Tryz.prog 5 8 3 4 mG] [] := St.init (ro_cons hR0 (ro_cons hR1 (ro_cons hR2 (ro_cons hR3 (ro_cons hR4 (ro_cons hR5 (ro_cons hR6 (ro_cons hR7 (ro_nil _ _)))))))))
 refine enter 59 Tryz.func3 rfl Tryz.ntmps3 rfl ?_
 unfold law06_WeightChecks at hf
 refine WC.seq (WC.region ?_)
 refine WL.new hS 3 [] (fun g => (pt g)) (.cells #[(sv Ab p1.Values cb), (sv Ac p1.Carries cc), (sv Ad p1.Factors cd), (sv Ae p1.Primes ce), (sv Af p1.Logs cf)] 26 (0, 0)) [] (fun fb g => by kernel_rfl) trivial (fun g1 w2 hS3 => ?_)
 refine ⟨trivial, ?_⟩
 refine sg 2 [] [0, 3] [(0, (sv Aa p0 ca)), (3, (pt g1))] (by kernel_rfl) ?_
 refine WL.done rfl (WX.next (WC.seq (WC.seq (WC.region ?_))))
 refine seg 2 [.v (sv Ab p1.Values cb), .v (sv Ac p1.Carries cc), .v (sv Ad p1.Factors cd), .v (sv Ae p1.Primes ce), .v (sv Af p1.Logs cf)] [0, 3, 7, 8] [(0, (sv Aa p0 ca)), (3, (pt g1)), (7, (sv Aa p0 ca)), (8, (.agg #[(sv Ab p1.Values cb), (sv Ac p1.Carries cc), (sv Ad p1.Factors cd), (sv Ae p1.Primes ce), (sv Af p1.Logs cf)]))] [.cell ⟨g1, 0, none⟩ (sv Ab p1.Values cb), .cell ⟨g1, 1, none⟩ (sv Ac p1.Carries cc), .cell ⟨g1, 2, none⟩ (sv Ad p1.Factors cd), .cell ⟨g1, 3, none⟩ (sv Ae p1.Primes ce), .cell ⟨g1, 4, none⟩ (sv Af p1.Logs cf)] (fun fb => by kernel_rfl) rfl ⟨hS3.cell 0 rfl 0 rfl, hS3.cell 0 rfl 1 rfl, hS3.cell 0 rfl 2 rfl, hS3.cell 0 rfl 3 rfl, hS3.cell 0 rfl 4 rfl, trivial⟩ ?_
 obtain ⟨t13, ht14, hf⟩ := bind_some hf
 refine WL.call (some 9) 8 #[(sv Aa p0 ca), (.agg #[(sv Ab p1.Values cb), (sv Ac p1.Carries cc), (sv Ad p1.Factors cd), (sv Ae p1.Primes ce), (sv Af p1.Logs cf)])] (fun fb => by kernel_rfl) (law06_wide_calls p0 p1 Aa ca Ab cb Ac cc Ad cd Ae ce Af cf t13 _ (hS3.rd 0) (hS3.rd 1) (hS3.rd 2) (hS3.rd 3) (hS3.rd 4) (hS3.rd 5) ht14) (fun v w15 hR16 => ?_)
 obtain ⟨rfl, hk_⟩ := hR16
 have hS17 := hS3.keepN hk_
 refine ⟨trivial, ?_⟩
 refine sg 4 [] [0, 3, 10] [(0, (sv Aa p0 ca)), (3, (pt g1)), (10, (bv t13))] (by kernel_rfl) ?_
 obtain ⟨x8, hx9, hf⟩ := bind_some hf
 let e1 : Array Value := #[(sv Ab p1.Values cb), (sv Ac p1.Carries cc), (sv Ad p1.Factors cd), (sv Ae p1.Primes ce), (sv Af p1.Logs cf)]
 let e2 : List Own := [rowR enc_Tile Aa ca p0, rowR enc_Frac Ab cb p1.Values, rowR enc_Frac Ac cc p1.Carries, rowR enc_Frac Ad cd p1.Factors, rowR encInt Ae ce p1.Primes, rowR encInt Af cf p1.Logs, tabO 0 md0, gloO Tryz.prog 5 8 3 4 mG]
 let e3 : Nat × Value := (0, (sv Aa p0 ca))
 let e4 : Nat × Value := (3, (pt g1))
 let e5 : List Nat := [0, 1, 2, 3, 4, 5, 6, 7]
 let e8 : Nat × Value := (10, (bv false))
 refine WL.cutW (T := Bool) 13 (fun t => [e3, e4, (19, (bv t))]) (fun t w1 => (St NoS w w1 e2 [blk g1 (.cells e1 26 (0, 0))] ∧ x8 = t) ∧ CellsOK [] w1) (fun K => ?_) ?_
 ·
  rcases br_some hx9 with ⟨h10, hx9⟩ | ⟨h10, hx9⟩
  ·
   refine WL.setB 10 h10 rfl ?_
   refine sg 13 [] [0, 3, 19] [e3, e4, (19, (bv true))] (by kernel_rfl) ?_
   injection hx9 with hx9
   exact WL.to K true [0, 3, 19] rfl ⟨⟨(hS17.subR e5).sub [0] (by decide), hx9.symm⟩, trivial⟩
  refine WL.setB 10 h10 rfl ?_
  refine sg 8 [] [0, 3, 10, 14] [e3, e4, e8, (14, (bv (decide ((p0.length : Int) > 200))))] (by kernel_rfl) ?_
  obtain ⟨x11, hx12, hx9⟩ := bind_some hx9
  refine WL.cutW (T := Bool) 12 (fun t => [e3, e4, e8, (18, (bv t))]) (fun t w1 => (St NoS w w1 e2 [blk g1 (.cells e1 26 (0, 0))] ∧ x11 = t) ∧ CellsOK [] w1) (fun K => ?_) ?_
  ·
   rcases br_some hx12 with ⟨h18, hx12⟩ | ⟨h18, hx12⟩
   ·
    refine WL.setB 14 h18 rfl ?_
    refine seg 10 [.v (sv Ab p1.Values cb), .v (sv Ac p1.Carries cc), .v (sv Ad p1.Factors cd), .v (sv Ae p1.Primes ce), .v (sv Af p1.Logs cf)] [0, 3, 10, 14, 15, 16] [e3, e4, e8, (14, (bv true)), (15, (sv Aa p0 ca)), (16, (.agg e1))] [.cell ⟨g1, 0, none⟩ (sv Ab p1.Values cb), .cell ⟨g1, 1, none⟩ (sv Ac p1.Carries cc), .cell ⟨g1, 2, none⟩ (sv Ad p1.Factors cd), .cell ⟨g1, 3, none⟩ (sv Ae p1.Primes ce), .cell ⟨g1, 4, none⟩ (sv Af p1.Logs cf)] (fun fb => by kernel_rfl) rfl ⟨hS17.cell 0 rfl 0 rfl, hS17.cell 0 rfl 1 rfl, hS17.cell 0 rfl 2 rfl, hS17.cell 0 rfl 3 rfl, hS17.cell 0 rfl 4 rfl, trivial⟩ ?_
    obtain ⟨t19, ht20, hx12⟩ := bind_some hx12
    refine WL.call (some 17) 9 #[(sv Aa p0 ca), (.agg e1)] (fun fb => by kernel_rfl) (ref06_Valid_calls _ p0 p1 Aa ca Ab cb Ac cc Ad cd Ae ce Af cf t19 _ (hS17.rd 0) (hS17.rd 1) (hS17.rd 2) (hS17.rd 3) (hS17.rd 4) (hS17.rd 5) ht20) (fun v w21 hR22 => ?_)
    obtain ⟨rfl, hk_⟩ := hR22
    have hS23 := hS17.keepN hk_
    refine ⟨trivial, ?_⟩
    refine sg 12 [] [0, 3, 10, 18] [e3, e4, e8, (18, (bv t19))] (by kernel_rfl) ?_
    injection hx12 with hx12
    exact WL.to K t19 [0, 3, 10, 18] rfl ⟨⟨(hS23.subR e5).sub [0] (by decide), hx12.symm⟩, trivial⟩
   refine WL.setB 14 h18 rfl ?_
   refine sg 12 [] [0, 3, 10, 18] [e3, e4, e8, (18, (bv false))] (by kernel_rfl) ?_
   injection hx12 with hx12
   exact WL.to K false [0, 3, 10, 18] rfl ⟨⟨(hS17.subR e5).sub [0] (by decide), hx12.symm⟩, trivial⟩
  rintro y24 w26 ⟨⟨hS27, hq25⟩, hF28⟩
  subst hq25
  refine sg 13 [] [0, 3, 19] [e3, e4, (19, (bv x11))] (by kernel_rfl) ?_
  injection hx9 with hx9
  exact WL.to K x11 [0, 3, 19] rfl ⟨⟨(hS27.subR e5).sub [0] (by decide), hx9.symm⟩, trivial⟩
 rintro y29 w31 ⟨⟨hS32, hq30⟩, hF33⟩
 subst hq30
 refine WL.done rfl (WX.next ?_)
 rcases br_some hf with ⟨h34, hf⟩ | ⟨h34, hf⟩
 ·refine WC.condT2 (fun fb => by kernel_rfl) h34 ?_
  refine WC.seq (WC.region ?_)
  obtain ⟨t35, ht36, hf⟩ := bind_some hf
  refine WL.call (some 20) 10 #[] (fun fb => by kernel_rfl) (law06_awake_calls _ mG t35 _ (hS32.rd 6) (hS32.rd 7) ht36) (fun v w37 hR38 => ?_)
  obtain ⟨rfl, hk_⟩ := hR38
  have hS39 := hS32.keepN hk_
  refine ⟨trivial, ?_⟩
  refine sg 2 [] [4] [(4, (bv t35))] (by kernel_rfl) ?_
  refine WL.done rfl (WX.next ?_)
  refine WC.ret ?_
  injection hf with hf
  subst hf
  exact WX.thenR (WX.ret_ [] (bv t35) [] (fun fb => by kernel_rfl) trivial ⟨_, rfl, rfl, hS39.keep⟩)
 refine WC.condF2 (fun fb => by kernel_rfl) h34 ?_
 refine WC.skip (WX.next (WC.seq (WC.region ?_)))
 refine seg 2 [.v (sv Ab p1.Values cb), .v (sv Ac p1.Carries cc), .v (sv Ad p1.Factors cd), .v (sv Ae p1.Primes ce), .v (sv Af p1.Logs cf)] [0, 3, 22, 23] [e3, e4, (22, (sv Aa p0 ca)), (23, (.agg e1))] [.cell ⟨g1, 0, none⟩ (sv Ab p1.Values cb), .cell ⟨g1, 1, none⟩ (sv Ac p1.Carries cc), .cell ⟨g1, 2, none⟩ (sv Ad p1.Factors cd), .cell ⟨g1, 3, none⟩ (sv Ae p1.Primes ce), .cell ⟨g1, 4, none⟩ (sv Af p1.Logs cf)] (fun fb => by kernel_rfl) rfl ⟨hS32.cell 0 rfl 0 rfl, hS32.cell 0 rfl 1 rfl, hS32.cell 0 rfl 2 rfl, hS32.cell 0 rfl 3 rfl, hS32.cell 0 rfl 4 rfl, trivial⟩ ?_
 obtain ⟨t40, ht41, hf⟩ := bind_some hf
 refine WL.call (some 24) 11 #[(sv Aa p0 ca), (.agg e1)] (fun fb => by kernel_rfl) (weight_Check_calls _ p0 p1 Aa ca Ab cb Ac cc Ad cd Ae ce Af cf t40 _ (hS32.rd 0) (hS32.rd 1) (hS32.rd 2) (hS32.rd 3) (hS32.rd 4) (hS32.rd 5) (hS32.rd 6) ht41) (fun v w42 hR43 => ?_)
 obtain ⟨rfl, hk_⟩ := hR43
 have hS44 := hS32.keepN hk_
 refine ⟨trivial, ?_⟩
 refine sg 8 [] [0, 3, 5, 6] [e3, e4, (5, (bv t40.1)), (6, (iv t40.2))] (by kernel_rfl) ?_
 refine WL.done rfl (WX.next (WC.seq (WC.seq ?_)))
 refine WC.regionD ([(1, ⟨g1, 0, none⟩, (sv Ab p1.Values cb)), (1, ⟨g1, 1, none⟩, (sv Ac p1.Carries cc)), (1, ⟨g1, 2, none⟩, (sv Ad p1.Factors cd)), (1, ⟨g1, 3, none⟩, (sv Ae p1.Primes ce)), (1, ⟨g1, 4, none⟩, (sv Af p1.Logs cf)), (4, ⟨g1, 0, none⟩, (sv Ab p1.Values cb)), (4, ⟨g1, 1, none⟩, (sv Ac p1.Carries cc)), (4, ⟨g1, 2, none⟩, (sv Ad p1.Factors cd)), (4, ⟨g1, 3, none⟩, (sv Ae p1.Primes ce)), (4, ⟨g1, 4, none⟩, (sv Af p1.Logs cf))], [0, 1, 3, 4, 6], [[], [], [0, 1], [], [], [0, 1, 2, 3, 4], [0, 1, 2, 3, 4, 5]]) [[0, 1, 3, 4, 2, 5, 6]] (by kernel_rfl) (by kernel_rfl) (NoPanic.seq (NoPanic.seq (NoPanic.body))) ?_
 have hS46 := hS44.drew
 revert hS46
 generalize World.drew w42 = w45
 intro hS46
 refine ⟨⟨hS46.cell 0 rfl 0 rfl, hS46.cell 0 rfl 1 rfl, hS46.cell 0 rfl 2 rfl, hS46.cell 0 rfl 3 rfl, hS46.cell 0 rfl 4 rfl, hS46.cell 0 rfl 0 rfl, hS46.cell 0 rfl 1 rfl, hS46.cell 0 rfl 2 rfl, hS46.cell 0 rfl 3 rfl, hS46.cell 0 rfl 4 rfl, trivial⟩, forallC ?_ (forallN)⟩
 let e6 := sv Ac p1.Carries cc
 let e7 := sv Ad p1.Factors cd
 let e9 := sv Ab p1.Values cb
 let e10 := sv Ae p1.Primes ce
 refine segF 4 [.v e9, .v e6, .v e7, .v e10, .v (sv Af p1.Logs cf), .v e9, .v e6, .v e7, .v e10, .v (sv Af p1.Logs cf)] [0, 3, 5, 6, 27, 28, 30, 31] [e3, e4, (5, (bv t40.1)), (6, (iv t40.2)), (27, (sv Aa p0 ca)), (28, (.agg e1)), (30, (sv Aa p0 ca)), (31, (.agg e1))] [] [0, 1, 2, 3, 4, 5, 6, 7, 8, 9] [(1, ⟨g1, 0, none⟩, e9), (1, ⟨g1, 1, none⟩, e6), (1, ⟨g1, 2, none⟩, e7), (1, ⟨g1, 3, none⟩, e10), (1, ⟨g1, 4, none⟩, (sv Af p1.Logs cf)), (4, ⟨g1, 0, none⟩, e9), (4, ⟨g1, 1, none⟩, e6), (4, ⟨g1, 2, none⟩, e7), (4, ⟨g1, 3, none⟩, e10), (4, ⟨g1, 4, none⟩, (sv Af p1.Logs cf))] (fun fb => by kernel_rfl) rfl trivial rfl ?_
 obtain ⟨t47, ht48, hf⟩ := bind_some hf
 refine WL.call (some 29) 12 #[(sv Aa p0 ca), (.agg e1)] (fun fb => by kernel_rfl) (weight_Valid_calls _ p0 p1 Aa ca Ab cb Ac cc Ad cd Ae ce Af cf t47 _ (hS46.rd 0) (hS46.rd 1) (hS46.rd 2) (hS46.rd 3) (hS46.rd 4) (hS46.rd 5) ht48) (fun v w49 hR50 => ?_)
 obtain ⟨rfl, hk_⟩ := hR50
 have hS51 := hS46.keepN hk_
 refine ⟨⟨hS51.cell 0 rfl 0 rfl, hS51.cell 0 rfl 1 rfl, hS51.cell 0 rfl 2 rfl, hS51.cell 0 rfl 3 rfl, hS51.cell 0 rfl 4 rfl, trivial⟩, ?_⟩
 obtain ⟨t52, ht53, hf⟩ := bind_some hf
 refine WL.call (some 32) 9 #[(sv Aa p0 ca), (.agg e1)] (fun fb => by kernel_rfl) (ref06_Valid_calls _ p0 p1 Aa ca Ab cb Ac cc Ad cd Ae ce Af cf t52 _ (hS51.rd 0) (hS51.rd 1) (hS51.rd 2) (hS51.rd 3) (hS51.rd 4) (hS51.rd 5) ht53) (fun v w54 hR55 => ?_)
 obtain ⟨rfl, hk_⟩ := hR55
 have hS56 := hS51.keepN hk_
 refine ⟨trivial, ?_⟩
 refine sg 7 [] [0, 3, 5, 6, 33] [e3, e4, (5, (bv t40.1)), (6, (iv t40.2)), (33, (bv (t47 != t52)))] (by kernel_rfl) ?_
 refine WL.done rfl (WX.next ?_)
 rcases br_some hf with ⟨h57, hf⟩ | ⟨h57, hf⟩
 ·refine WC.condT2 (fun fb => by kernel_rfl) h57 ?_
  refine WC.seq (WC.region ?_)
  refine sg 1 [] [4] [(4, (bv false))] (by kernel_rfl) ?_
  refine WL.done rfl (WX.next ?_)
  refine WC.ret ?_
  injection hf with hf
  subst hf
  exact WX.thenR (WX.ret_ [] (bv false) [] (fun fb => by kernel_rfl) trivial ⟨_, rfl, rfl, hS56.keep⟩)
 refine WC.condF2 (fun fb => by kernel_rfl) h57 ?_
 refine WC.skip (WX.next (WC.seq (WC.seq (WC.region ?_))))
 refine seg 2 [.v e9, .v e6, .v e7, .v e10, .v (sv Af p1.Logs cf)] [0, 3, 5, 6, 34, 35] [e3, e4, (5, (bv t40.1)), (6, (iv t40.2)), (34, (sv Aa p0 ca)), (35, (.agg e1))] [.cell ⟨g1, 0, none⟩ e9, .cell ⟨g1, 1, none⟩ e6, .cell ⟨g1, 2, none⟩ e7, .cell ⟨g1, 3, none⟩ e10, .cell ⟨g1, 4, none⟩ (sv Af p1.Logs cf)] (fun fb => by kernel_rfl) rfl ⟨hS56.cell 0 rfl 0 rfl, hS56.cell 0 rfl 1 rfl, hS56.cell 0 rfl 2 rfl, hS56.cell 0 rfl 3 rfl, hS56.cell 0 rfl 4 rfl, trivial⟩ ?_
 obtain ⟨t58, ht59, hf⟩ := bind_some hf
 refine WL.call (some 36) 9 #[(sv Aa p0 ca), (.agg e1)] (fun fb => by kernel_rfl) (ref06_Valid_calls _ p0 p1 Aa ca Ab cb Ac cc Ad cd Ae ce Af cf t58 _ (hS56.rd 0) (hS56.rd 1) (hS56.rd 2) (hS56.rd 3) (hS56.rd 4) (hS56.rd 5) ht59) (fun v w60 hR61 => ?_)
 obtain ⟨rfl, hk_⟩ := hR61
 have hS62 := hS56.keepN hk_
 refine ⟨trivial, ?_⟩
 refine sg 4 [] [0, 3, 5, 6, 37] [e3, e4, (5, (bv t40.1)), (6, (iv t40.2)), (37, (bv (!t58)))] (by kernel_rfl) ?_
 refine WL.done rfl (WX.next ?_)
 rcases br_some hf with ⟨h63, hf⟩ | ⟨h63, hf⟩
 ·refine WC.condT2 (fun fb => by kernel_rfl) h63 ?_
  refine WC.seq (WC.region ?_)
  refine sg 3 [] [5, 40] [(5, (bv t40.1)), (40, (bv (t40.2 == 1)))] (by kernel_rfl) ?_
  refine WL.cutV (T := Bool) 6 (fun t => [(43, (bv t))]) (fun t => ((t40.2 == 1) && (!t40.1)) = t) (fun K => ?_) ?_
  ·
   rcases Bool.eq_false_or_eq_true (t40.2 == 1) with h65 | h65
   ·
    refine WL.setB 40 h65 rfl ?_
    refine sg 6 [] [43] [(43, (bv (!t40.1)))] (by kernel_rfl) ?_
    exact WL.toV K (!t40.1) [43] rfl (by first | (rw [h65]; done) | (rw [h65]; rfl))
   refine WL.setB 40 h65 rfl ?_
   refine sg 6 [] [43] [(43, (bv false))] (by kernel_rfl) ?_
   exact WL.toV K false [43] rfl (by first | (rw [h65]; done) | (rw [h65]; rfl))
  rintro b66 rfl
  refine sg 7 [] [44] [(44, (bv ((t40.2 == 1) && (!t40.1))))] (by kernel_rfl) ?_
  obtain ⟨x67, hx68, hf⟩ := bind_some hf
  refine WL.cutW (T := Bool) 9 (fun t => [(46, (bv t))]) (fun t w1 => (St NoS w w1 e2 [] ∧ x67 = t) ∧ CellsOK [] w1) (fun K => ?_) ?_
  ·
   rcases br_some hx68 with ⟨h69, hx68⟩ | ⟨h69, hx68⟩
   ·
    refine WL.setB 44 h69 rfl ?_
    obtain ⟨t70, ht71, hx68⟩ := bind_some hx68
    refine WL.call (some 45) 10 #[] (fun fb => by kernel_rfl) (law06_awake_calls _ mG t70 _ (hS62.rd 6) (hS62.rd 7) ht71) (fun v w72 hR73 => ?_)
    obtain ⟨rfl, hk_⟩ := hR73
    have hS74 := hS62.keepN hk_
    refine ⟨trivial, ?_⟩
    refine sg 9 [] [46] [(46, (bv t70))] (by kernel_rfl) ?_
    injection hx68 with hx68
    exact WL.to K t70 [46] rfl ⟨⟨(hS74.subR e5).sub [] (by decide), hx68.symm⟩, trivial⟩
   refine WL.setB 44 h69 rfl ?_
   refine sg 9 [] [46] [(46, (bv false))] (by kernel_rfl) ?_
   injection hx68 with hx68
   exact WL.to K false [46] rfl ⟨⟨(hS62.subR e5).sub [] (by decide), hx68.symm⟩, trivial⟩
  rintro y75 w77 ⟨⟨hS78, hq76⟩, hF79⟩
  subst hq76
  refine sg 10 [] [4] [(4, (bv x67))] (by kernel_rfl) ?_
  refine WL.done rfl (WX.next ?_)
  refine WC.ret ?_
  injection hf with hf
  subst hf
  exact WX.thenR (WX.ret_ [] (bv x67) [] (fun fb => by kernel_rfl) trivial ⟨_, rfl, rfl, hS78.keep⟩)
 refine WC.condF2 (fun fb => by kernel_rfl) h63 ?_
 refine WC.skip (WX.next (WC.seq (WC.region ?_)))
 refine sg 3 [] [0, 3, 5, 49] [e3, e4, (5, (bv t40.1)), (49, (bv (t40.2 == 0)))] (by kernel_rfl) ?_
 obtain ⟨x80, hx81, hf⟩ := bind_some hf
 refine WL.cutW (T := Bool) 9 (fun t => [(55, (bv t))]) (fun t w1 => (St NoS w w1 e2 [] ∧ x80 = t) ∧ CellsOK [] w1) (fun K => ?_) ?_
 ·
  rcases br_some hx81 with ⟨h82, hx81⟩ | ⟨h82, hx81⟩
  ·
   refine WL.setB 49 h82 rfl ?_
   refine seg 6 [.v e9, .v e6, .v e7, .v e10, .v (sv Af p1.Logs cf)] [49, 50, 51, 52] [(49, (bv true)), (50, (bv t40.1)), (51, (sv Aa p0 ca)), (52, (.agg e1))] [.cell ⟨g1, 0, none⟩ e9, .cell ⟨g1, 1, none⟩ e6, .cell ⟨g1, 2, none⟩ e7, .cell ⟨g1, 3, none⟩ e10, .cell ⟨g1, 4, none⟩ (sv Af p1.Logs cf)] (fun fb => by kernel_rfl) rfl ⟨hS62.cell 0 rfl 0 rfl, hS62.cell 0 rfl 1 rfl, hS62.cell 0 rfl 2 rfl, hS62.cell 0 rfl 3 rfl, hS62.cell 0 rfl 4 rfl, trivial⟩ ?_
   obtain ⟨t83, ht84, hx81⟩ := bind_some hx81
   refine WL.call (some 53) 13 #[(sv Aa p0 ca), (.agg e1)] (fun fb => by kernel_rfl) (ref06_Excludes_calls _ p0 p1 Aa ca Ab cb Ac cc Ad cd Ae ce Af cf t83 _ (hS62.rd 0) (hS62.rd 1) (hS62.rd 2) (hS62.rd 3) (hS62.rd 4) (hS62.rd 5) ht84) (fun v w85 hR86 => ?_)
   obtain ⟨rfl, hk_⟩ := hR86
   have hS87 := hS62.keepN hk_
   refine ⟨trivial, ?_⟩
   refine sg 9 [] [55] [(55, (bv (t40.1 == t83)))] (by kernel_rfl) ?_
   injection hx81 with hx81
   exact WL.to K (t40.1 == t83) [55] rfl ⟨⟨(hS87.subR e5).sub [] (by decide), hx81.symm⟩, trivial⟩
  refine WL.setB 49 h82 rfl ?_
  refine sg 9 [] [55] [(55, (bv false))] (by kernel_rfl) ?_
  injection hx81 with hx81
  exact WL.to K false [55] rfl ⟨⟨(hS62.subR e5).sub [] (by decide), hx81.symm⟩, trivial⟩
 rintro y88 w90 ⟨⟨hS91, hq89⟩, hF92⟩
 subst hq89
 refine sg 10 [] [56] [(56, (bv x80))] (by kernel_rfl) ?_
 obtain ⟨x93, hx94, hf⟩ := bind_some hf
 refine WL.cutW (T := Bool) 12 (fun t => [(58, (bv t))]) (fun t w1 => (St NoS w w1 e2 [] ∧ x93 = t) ∧ CellsOK [] w1) (fun K => ?_) ?_
 ·
  rcases br_some hx94 with ⟨h95, hx94⟩ | ⟨h95, hx94⟩
  ·
   refine WL.setB 56 h95 rfl ?_
   obtain ⟨t96, ht97, hx94⟩ := bind_some hx94
   refine WL.call (some 57) 10 #[] (fun fb => by kernel_rfl) (law06_awake_calls _ mG t96 _ (hS91.rd 6) (hS91.rd 7) ht97) (fun v w98 hR99 => ?_)
   obtain ⟨rfl, hk_⟩ := hR99
   have hS100 := hS91.keepN hk_
   refine ⟨trivial, ?_⟩
   refine sg 12 [] [58] [(58, (bv t96))] (by kernel_rfl) ?_
   injection hx94 with hx94
   exact WL.to K t96 [58] rfl ⟨⟨(hS100.subR e5).sub [] (by decide), hx94.symm⟩, trivial⟩
  refine WL.setB 56 h95 rfl ?_
  refine sg 12 [] [58] [(58, (bv false))] (by kernel_rfl) ?_
  injection hx94 with hx94
  exact WL.to K false [58] rfl ⟨⟨(hS91.subR e5).sub [] (by decide), hx94.symm⟩, trivial⟩
 rintro y101 w103 ⟨⟨hS104, hq102⟩, hF105⟩
 subst hq102
 refine sg 13 [] [4] [(4, (bv x93))] (by kernel_rfl) ?_
 refine WL.done rfl (WX.next ?_)
 refine WC.ret ?_
 injection hf with hf
 subst hf
 exact WX.ret_ [] (bv x93) [] (fun fb => by kernel_rfl) trivial ⟨_, rfl, rfl, hS104.keep⟩
end Gp
