/- Walks: each function of the program computes its plain function. -/
import Derived.Test.YtfehljifahnipaaGreatDoorGx3
set_option linter.unusedVariables false
set_option linter.unusedSimpArgs false
set_option maxHeartbeats 4000000
set_option maxRecDepth 8000
namespace Gp
open Go Gw Go.Proofs
theorem weight_Row_calls (k : Nat) (p0 : List Tile) (p1 : Weights) (p2 : List Int) (Aa : Option Addr) (ca : Nat) (Ab : Option Addr) (cb : Nat) (Ac : Option Addr) (cc : Nat) (Ad : Option Addr) (cd : Nat) (Ae : Option Addr) (ce : Nat) (Af : Option Addr) (cf : Nat) (Ag : Option Addr) (cg : Nat) (r : Frac × Frac × Int) (w : World) (hR0 : RO NoS w (rowR enc_Tile Aa ca p0)) (hR1 : RO NoS w (rowR enc_Frac Ab cb p1.Values)) (hR2 : RO NoS w (rowR enc_Frac Ac cc p1.Carries)) (hR3 : RO NoS w (rowR enc_Frac Ad cd p1.Factors)) (hR4 : RO NoS w (rowR encInt Ae ce p1.Primes)) (hR5 : RO NoS w (rowR encInt Af cf p1.Logs)) (hR6 : RO NoS w (rowR encInt Ag cg p2)) (hf : weight_Row k p0 p1 p2 = some r) :
  CallsR Tryz.prog 14 #[(sv Aa p0 ca), (.agg #[(sv Ab p1.Values cb), (sv Ac p1.Carries cc), (sv Ad p1.Factors cd), (sv Ae p1.Primes ce), (sv Af p1.Logs cf)]), (sv Ag p2 cg)] w (fun v w' => v = (.tuple #[(.agg #[(iv r.1.Num), (iv r.1.Den)]), (.agg #[(iv r.2.1.Num), (iv r.2.1.Den)]), (iv r.2.2)]) ∧ Keeps NoS w w') := by
 have hS : St NoS w w [rowR enc_Tile Aa ca p0, rowR enc_Frac Ab cb p1.Values, rowR enc_Frac Ac cc p1.Carries, rowR enc_Frac Ad cd p1.Factors, rowR encInt Ae ce p1.Primes, rowR encInt Af cf p1.Logs, rowR encInt Ag cg p2] [] := St.init (ro_cons hR0 (ro_cons hR1 (ro_cons hR2 (ro_cons hR3 (ro_cons hR4 (ro_cons hR5 (ro_cons hR6 (ro_nil _ _))))))))
 refine enter 133 Tryz.func14 rfl Tryz.ntmps14 rfl ?_
 unfold weight_Row at hf
 refine WC.seq (WC.region ?_)
 refine WL.new hS 4 [] (fun g => (pt g)) (.cells #[(sv Ab p1.Values cb), (sv Ac p1.Carries cc), (sv Ad p1.Factors cd), (sv Ae p1.Primes ce), (sv Af p1.Logs cf)] 26 (0, 0)) [] (fun fb g => by kernel_rfl) trivial (fun g7 w8 hS9 => ?_)
 refine ⟨trivial, ?_⟩
 refine WL.new hS9 6 [] (fun g => (pt g)) (.cells #[(iv 0), (iv 0)] 33 (0, 0)) [] (fun fb g => by kernel_rfl) trivial (fun g10 w11 hS12 => ?_)
 refine ⟨trivial, ?_⟩
 refine WL.new hS12 7 [] (fun g => (pt g)) (.cells #[(iv 0), (iv 0)] 33 (0, 0)) [] (fun fb g => by kernel_rfl) trivial (fun g13 w15 hS16 => ?_)
 refine ⟨trivial, ?_⟩
 refine sg 4 [] [0, 2, 4, 6, 7] [(0, (sv Aa p0 ca)), (2, (sv Ag p2 cg)), (4, (pt g7)), (6, (pt g10)), (7, (pt g13))] (by kernel_rfl) ?_
 refine WL.done rfl (WX.next (WC.seq (WC.seq (WC.region ?_))))
 refine seg 2 [.v (sv Ab p1.Values cb), .v (sv Ac p1.Carries cc), .v (sv Ad p1.Factors cd), .v (sv Ae p1.Primes ce), .v (sv Af p1.Logs cf)] [0, 2, 4, 6, 7, 18, 19] [(0, (sv Aa p0 ca)), (2, (sv Ag p2 cg)), (4, (pt g7)), (6, (pt g10)), (7, (pt g13)), (18, (sv Aa p0 ca)), (19, (.agg #[(sv Ab p1.Values cb), (sv Ac p1.Carries cc), (sv Ad p1.Factors cd), (sv Ae p1.Primes ce), (sv Af p1.Logs cf)]))] [.cell ⟨g7, 0, none⟩ (sv Ab p1.Values cb), .cell ⟨g7, 1, none⟩ (sv Ac p1.Carries cc), .cell ⟨g7, 2, none⟩ (sv Ad p1.Factors cd), .cell ⟨g7, 3, none⟩ (sv Ae p1.Primes ce), .cell ⟨g7, 4, none⟩ (sv Af p1.Logs cf)] (fun fb => by kernel_rfl) rfl ⟨hS16.cell 2 rfl 0 rfl, hS16.cell 2 rfl 1 rfl, hS16.cell 2 rfl 2 rfl, hS16.cell 2 rfl 3 rfl, hS16.cell 2 rfl 4 rfl, trivial⟩ ?_
 obtain ⟨t17, ht18, hf⟩ := bind_some hf
 refine WL.call (some 20) 12 #[(sv Aa p0 ca), (.agg #[(sv Ab p1.Values cb), (sv Ac p1.Carries cc), (sv Ad p1.Factors cd), (sv Ae p1.Primes ce), (sv Af p1.Logs cf)])] (fun fb => by kernel_rfl) (weight_Valid_calls _ p0 p1 Aa ca Ab cb Ac cc Ad cd Ae ce Af cf t17 _ (hS16.rd 0) (hS16.rd 1) (hS16.rd 2) (hS16.rd 3) (hS16.rd 4) (hS16.rd 5) ht18) (fun v w19 hR20 => ?_)
 obtain ⟨rfl, hk_⟩ := hR20
 have hS21 := hS16.keepN hk_
 refine ⟨trivial, ?_⟩
 refine sg 4 [] [0, 2, 4, 6, 7, 21] [(0, (sv Aa p0 ca)), (2, (sv Ag p2 cg)), (4, (pt g7)), (6, (pt g10)), (7, (pt g13)), (21, (bv (!t17)))] (by kernel_rfl) ?_
 refine WL.done rfl (WX.next ?_)
 let e33 : Array Value := #[(iv 0), (iv 0)]
 rcases br_some hf with ⟨h22, hf⟩ | ⟨h22, hf⟩
 ·refine WC.condT2 (fun fb => by kernel_rfl) h22 ?_
  refine WC.seq (WC.region ?_)
  refine sg 2 [] [6, 7, 22, 23] [(6, (pt g10)), (7, (pt g13)), (22, (.agg e33)), (23, (.agg e33))] (by kernel_rfl) ?_
  refine WL.store hS21 1 rfl [(0, (iv 0)), (1, (iv 0))] e33 (fun fb => by kernel_rfl) (by kernel_rfl) rfl [0, 2] (by decide) (by decide) (fun w23 hS24 => ?_)
  refine ⟨trivial, ?_⟩
  refine WL.store hS24 1 rfl [(0, (iv 0)), (1, (iv 0))] e33 (fun fb => by kernel_rfl) (by kernel_rfl) rfl [0, 2] (by decide) (by decide) (fun w25 hS26 => ?_)
  refine ⟨trivial, ?_⟩
  refine sg 5 [] [6, 7, 8] [(6, (pt g10)), (7, (pt g13)), (8, (iv 1))] (by kernel_rfl) ?_
  refine WL.done rfl (WX.next ?_)
  refine WC.ret ?_
  injection hf with hf
  subst hf
  exact WX.thenR (WX.ret_ [.v (iv 0), .v (iv 0), .v (iv 0), .v (iv 0)] (.tuple #[(.agg e33), (.agg e33), (iv 1)]) [.cell ⟨g10, 0, none⟩ (iv 0), .cell ⟨g10, 1, none⟩ (iv 0), .cell ⟨g13, 0, none⟩ (iv 0), .cell ⟨g13, 1, none⟩ (iv 0)] (fun fb => by kernel_rfl) ⟨hS26.cell 1 rfl 0 rfl, hS26.cell 1 rfl 1 rfl, hS26.cell 0 rfl 0 rfl, hS26.cell 0 rfl 1 rfl, trivial⟩ ⟨_, rfl, rfl, hS26.keep⟩)
 refine WC.condF2 (fun fb => by kernel_rfl) h22 ?_
 refine WC.skip (WX.next (WC.seq (WC.seq (WC.region ?_))))
 refine sg 4 [] [0, 2, 4, 6, 7, 27] [(0, (sv Aa p0 ca)), (2, (sv Ag p2 cg)), (4, (pt g7)), (6, (pt g10)), (7, (pt g13)), (27, (bv (decide ((p2.length : Int) < 1))))] (by kernel_rfl) ?_
 refine WL.cutV (T := Bool) 8 (fun t => [(31, (bv t)), (0, (sv Aa p0 ca)), (2, (sv Ag p2 cg)), (4, (pt g7)), (6, (pt g10)), (7, (pt g13))]) (fun t => ((decide ((p2.length : Int) < 1)) || (decide ((p2.length : Int) > 40000))) = t) (fun K => ?_) ?_
 ·
  rcases Bool.eq_false_or_eq_true (decide ((p2.length : Int) < 1)) with h27 | h27
  ·
   refine WL.setB 27 h27 rfl ?_
   refine sg 8 [] [0, 2, 4, 6, 7, 31] [(0, (sv Aa p0 ca)), (2, (sv Ag p2 cg)), (4, (pt g7)), (6, (pt g10)), (7, (pt g13)), (31, (bv true))] (by kernel_rfl) ?_
   exact WL.toV K true [31, 0, 2, 4, 6, 7] rfl (by first | (rw [h27]; done) | (rw [h27]; rfl))
  refine WL.setB 27 h27 rfl ?_
  refine sg 8 [] [0, 2, 4, 6, 7, 31] [(0, (sv Aa p0 ca)), (2, (sv Ag p2 cg)), (4, (pt g7)), (6, (pt g10)), (7, (pt g13)), (31, (bv (decide ((p2.length : Int) > 40000))))] (by kernel_rfl) ?_
  exact WL.toV K (decide ((p2.length : Int) > 40000)) [31, 0, 2, 4, 6, 7] rfl (by first | (rw [h27]; done) | (rw [h27]; rfl))
 rintro b28 rfl
 refine WL.done rfl (WX.next ?_)
 rcases br_some hf with ⟨h29, hf⟩ | ⟨h29, hf⟩
 ·refine WC.condT2 (fun fb => by kernel_rfl) h29 ?_
  refine WC.seq (WC.region ?_)
  refine sg 2 [] [6, 7, 32, 33] [(6, (pt g10)), (7, (pt g13)), (32, (.agg e33)), (33, (.agg e33))] (by kernel_rfl) ?_
  refine WL.store hS21 1 rfl [(0, (iv 0)), (1, (iv 0))] e33 (fun fb => by kernel_rfl) (by kernel_rfl) rfl [0, 2] (by decide) (by decide) (fun w30 hS31 => ?_)
  refine ⟨trivial, ?_⟩
  refine WL.store hS31 1 rfl [(0, (iv 0)), (1, (iv 0))] e33 (fun fb => by kernel_rfl) (by kernel_rfl) rfl [0, 2] (by decide) (by decide) (fun w32 hS33 => ?_)
  refine ⟨trivial, ?_⟩
  refine sg 5 [] [6, 7, 8] [(6, (pt g10)), (7, (pt g13)), (8, (iv 2))] (by kernel_rfl) ?_
  refine WL.done rfl (WX.next ?_)
  refine WC.ret ?_
  injection hf with hf
  subst hf
  exact WX.thenR (WX.ret_ [.v (iv 0), .v (iv 0), .v (iv 0), .v (iv 0)] (.tuple #[(.agg e33), (.agg e33), (iv 2)]) [.cell ⟨g10, 0, none⟩ (iv 0), .cell ⟨g10, 1, none⟩ (iv 0), .cell ⟨g13, 0, none⟩ (iv 0), .cell ⟨g13, 1, none⟩ (iv 0)] (fun fb => by kernel_rfl) ⟨hS33.cell 1 rfl 0 rfl, hS33.cell 1 rfl 1 rfl, hS33.cell 0 rfl 0 rfl, hS33.cell 0 rfl 1 rfl, trivial⟩ ⟨_, rfl, rfl, hS33.keep⟩)
 refine WC.condF2 (fun fb => by kernel_rfl) h29 ?_
 refine WC.skip (WX.next (WC.seq (WC.seq (WC.region ?_))))
 refine sg 3 [] [0, 2, 4, 6, 7, 34, 35, 36] [(0, (sv Aa p0 ca)), (2, (sv Ag p2 cg)), (4, (pt g7)), (6, (pt g10)), (7, (pt g13)), (34, (sv Ag p2 cg)), (35, (iv (p2.length : Int))), (36, (iv 0))] (by kernel_rfl) ?_
 refine WL.done rfl (WX.next ?_)
 obtain ⟨x35, hx36, hf⟩ := bind_some hf
 let e21 : List Nat := [0, 1, 2, 3, 4, 5, 6, 7, 8, 9, 10, 11]
 let e1 := [[], [0], [0, 1], [0, 1, 2], [0, 1, 2], [0, 1, 2, 4], [0, 1, 2, 3, 4, 5], [0, 1, 2, 3, 4, 5, 6], [0, 1, 2, 3, 4, 5, 6, 7], [0, 1, 2, 3, 4, 5, 6, 7, 8], [0, 1, 2, 3, 4, 5, 6, 7, 8, 9], [0, 1, 2, 3, 4, 5, 6, 7, 8, 9, 10], e21, e21, e21, [0, 1, 2, 3, 4, 5, 6, 7, 8, 9, 10, 11, 14], [0, 1, 2, 3, 4, 5, 6, 7, 8, 9, 10, 11, 13, 14, 15], [0, 1, 2, 3, 4, 5, 6, 7, 8, 9, 10, 11, 13, 14, 15, 16], [0, 1, 2, 3, 4, 5, 6, 7, 8, 9, 10, 11, 12, 13, 14, 15, 16, 17], [0, 1, 2, 3, 4, 5, 6, 7, 8, 9, 10, 11, 12, 13, 14, 15, 16, 17, 18], [0, 1, 2, 3, 4, 5, 6, 7, 8, 9, 10, 11, 12, 13, 14, 15, 16, 17, 18, 19], e21, e21, [0, 1, 2, 3, 4, 5, 6, 7, 8, 9, 10, 11, 21, 22], [0, 1, 2, 3, 4, 5, 6, 7, 8, 9, 10, 11, 21, 22, 23], [0, 1, 2, 3, 4, 5, 6, 7, 8, 9, 10, 11, 21, 22, 23, 24], [0, 1, 2, 3, 4, 5, 6, 7, 8, 9, 10, 11, 12, 13, 14, 15, 16, 17, 18, 19, 20, 21, 22, 23, 24, 25], [0, 1, 2, 3, 4, 5, 6, 7, 8, 9, 10, 11, 12, 13, 14, 15, 16, 17, 18, 19, 20, 21, 22, 23, 24, 25, 26], [0, 1, 2, 3, 4, 5, 6, 7, 8, 9, 10, 11, 12, 13, 14, 15, 16, 17, 18, 19, 20, 21, 22, 23, 24, 25, 26, 27]]
 let e2 : List Nat := [0, 1, 2, 3, 4, 5, 6, 7, 8, 9, 10, 11, 12, 13, 14, 15, 16, 17, 18, 19, 20, 21, 22, 23, 24, 25, 26, 27, 28]
 let e3 : Nat × Value := (35, (iv (p2.length : Int)))
 let e4 : List Own := [rowR enc_Tile Aa ca p0, rowR enc_Frac Ab cb p1.Values, rowR enc_Frac Ac cc p1.Carries, rowR enc_Frac Ad cd p1.Factors, rowR encInt Ae ce p1.Primes, rowR encInt Af cf p1.Logs, rowR encInt Ag cg p2]
 let e5 := sv Ag p2 cg
 let e8 : Nat × Value := (0, (sv Aa p0 ca))
 let e10 : Array Value := #[(sv Ab p1.Values cb), (sv Ac p1.Carries cc), (sv Ad p1.Factors cd), (sv Ae p1.Primes ce), (sv Af p1.Logs cf)]
 let e11 : Nat × Value := (6, (pt g10))
 let e12 : Nat × Value := (7, (pt g13))
 let e13 : List Nat := [0, 2, 4, 6, 7, 34, 35, 36, 69]
 let e16 : Nat × Value := (4, (pt g7))
 let e18 : Array Value := e33
 let e24 : List Nat := [0, 1, 2, 3, 4, 5, 6]
 let e25 : List Nat := [0, 2, 4, 6, 7, 9, 10, 34, 35, 36, 43]
 let e34 : List Nat := [0, 2, 4, 6, 7, 9, 10, 34, 35, 36, 49]
 refine WC.cutN (T := Unit) (fun t => [e8, (2, e5), e16, e11, e12]) (fun t w1 => St NoS w w1 e4 [blk g7 (.cells e10 26 (0, 0)), blk g10 (.cells e18 33 (0, 0)), blk g13 (.cells e18 33 (0, 0))] ∧ x35 = .inr t) (fun Kx35 => ?_) ?_
 ·
  refine WC.block ?_
  refine WC.loop (T := Int) (fun t => [e8, (2, e5), e16, e11, e12, (34, e5), e3, (36, (iv t))]) (fun n t w1 => St NoS w w1 e4 [blk g7 (.cells e10 26 (0, 0)), blk g10 (.cells e18 33 (0, 0)), blk g13 (.cells e18 33 (0, 0))] ∧ weight_Row.l0 n t p0 p2 = some x35) k 0 [0, 2, 4, 6, 7, 34, 35, 36] rfl ⟨(hS21.subR e24).sub [2, 1, 0] (by decide), hx36⟩ ?_
  rintro k37 x34 w38 ⟨hS39, hl40⟩
  let e7 : List (Nat × Addr × Value) := [(17, ((adr Ag).add ((w64 (x34 - 1)).toNat * 1)), (iv (rdD p2 (w64 (x34 - 1)) 0))), (20, (((adr Aa).add (((rdD p2 (w64 (x34 - 1)) 0)).toNat * 4)).add 1), (iv ((rdD p0 (rdD p2 (w64 (x34 - 1)) 0) z_Tile).E))), (25, (((adr Aa).add (((rdD p2 x34 0)).toNat * 4)).add 3), (iv ((rdD p0 (rdD p2 x34 0) z_Tile).W)))]
  let e9 := rdD p2 x34 0
  let e14 : Nat × Value := (36, (iv x34))
  let e26 := rdD p2 (w64 (x34 - 1)) 0
  let e27 : Nat × Value := (9, (iv x34))
  let e28 : Nat × Value := (10, (iv e9))
  cases k37 with
  | zero => rw [weight_Row.l0] at hl40; cases hl40
  | succ k37 =>
   rw [weight_Row.l0] at hl40
   refine WC.seq (WC.region ?_)
   refine sg 1 [] [0, 2, 4, 6, 7, 34, 35, 36, 37] [e8, (2, e5), e16, e11, e12, (34, e5), e3, e14, (37, (bv (decide (x34 < (p2.length : Int)))))] (by kernel_rfl) ?_
   refine WL.done rfl (WX.next (WC.seq ?_))
   rcases br_some hl40 with ⟨h41, hl40⟩ | ⟨h41, hl40⟩
   ·refine WC.condT2 (fun fb => by kernel_rfl) h41 ?_
    refine WC.skip (WX.next (WC.seq (WC.block (WC.seq (WC.region ?_)))))
    refine sg 1 [] [0, 2, 4, 6, 7, 34, 35, 36, 38] [e8, (2, e5), e16, e11, e12, (34, e5), e3, e14, (38, (iv x34))] (by kernel_rfl) ?_
    obtain ⟨h42, hl40⟩ := as_some hl40
    refine seg 5 [.v (iv e9)] [0, 2, 4, 6, 7, 9, 10, 34, 35, 36] [e8, (2, e5), e16, e11, e12, e27, e28, (34, e5), e3, e14] [.idx Ag x34 p2.length, .cell ((adr Ag).add ((x34).toNat * 1)) (iv e9)] (fun fb => by kernel_rfl) rfl ⟨rowR.adr (hS39.rd 6).1 h42.1 h42.2, rowR.cell (hS39.rd 6).1 0 h42.1 h42.2 0 rfl, trivial⟩ ?_
    refine WL.done rfl (WX.next (WC.seq ?_))
    obtain ⟨x43, hx44, hl40⟩ := bind_some hl40
    refine WC.cutN (T := Bool) (fun t => [e8, (2, e5), e16, e11, e12, (34, e5), e3, e14, (69, (bv t))]) (fun t w1 => St NoS w w1 e4 [blk g7 (.cells e10 26 (0, 0)), blk g10 (.cells e18 33 (0, 0)), blk g13 (.cells e18 33 (0, 0))] ∧ x43 = t) (fun Kx43 => ?_) ?_
    ·
     rcases br_some hx44 with ⟨h45, hx44⟩ | ⟨h45, hx44⟩
     ·
      refine WC.regionD ([], e2, e1) [e2] (by kernel_rfl) (by kernel_rfl) (NoPanic.seq (NoPanic.block (NoPanic.seq (NoPanic.seq (NoPanic.block (NoPanic.seq (NoPanic.body))))))) ?_
      have hS47 := hS39.drew
      revert hS47
      generalize World.drew w38 = w46
      intro hS47
      refine ⟨trivial, forallC ?_ (forallN)⟩
      refine sg 3 [] e25 [e8, (2, e5), e16, e11, e12, e27, e28, (34, e5), e3, e14, (43, (bv (decide (e9 < 0))))] (by kernel_rfl) ?_
      refine WL.setB 43 h45 rfl ?_
      refine sg 29 [] e13 [e8, (2, e5), e16, e11, e12, (34, e5), e3, e14, (69, (bv true))] (by kernel_rfl) ?_
      refine WL.done rfl ?_
      injection hx44 with hx44
      exact WX.to Kx43 true e13 rfl ⟨(hS47.subR e24).sub [0, 1, 2] (by decide), hx44.symm⟩
     rcases br_some hx44 with ⟨h48, hx44⟩ | ⟨h48, hx44⟩
     ·
      refine WC.regionD ([], e2, e1) [e2] (by kernel_rfl) (by kernel_rfl) (NoPanic.seq (NoPanic.block (NoPanic.seq (NoPanic.seq (NoPanic.block (NoPanic.seq (NoPanic.body))))))) ?_
      have hS50 := hS39.drew
      revert hS50
      generalize World.drew w38 = w49
      intro hS50
      refine ⟨trivial, forallC ?_ (forallN)⟩
      refine sg 3 [] e25 [e8, (2, e5), e16, e11, e12, e27, e28, (34, e5), e3, e14, (43, (bv (decide (e9 < 0))))] (by kernel_rfl) ?_
      refine WL.setB 43 h45 rfl ?_
      refine sg 9 [] e34 [e8, (2, e5), e16, e11, e12, e27, e28, (34, e5), e3, e14, (49, (bv (decide (e9 ≥ (p0.length : Int)))))] (by kernel_rfl) ?_
      refine WL.setB 49 h48 rfl ?_
      refine sg 29 [] e13 [e8, (2, e5), e16, e11, e12, (34, e5), e3, e14, (69, (bv true))] (by kernel_rfl) ?_
      refine WL.done rfl ?_
      injection hx44 with hx44
      exact WX.to Kx43 true e13 rfl ⟨(hS50.subR e24).sub [0, 1, 2] (by decide), hx44.symm⟩
     rcases br_some hx44 with ⟨h51, hx44⟩ | ⟨h51, hx44⟩
     ·
      obtain ⟨h54, hx44⟩ := as_some hx44
      obtain ⟨h55, hx44⟩ := as_some hx44
      obtain ⟨h56, hx44⟩ := as_some hx44
      refine WC.regionD (e7, e2, e1) [e2] (by kernel_rfl) (by kernel_rfl) (NoPanic.seq (NoPanic.block (NoPanic.seq (NoPanic.seq (NoPanic.block (NoPanic.seq (NoPanic.body))))))) ?_
      have hS53 := hS39.drew
      revert hS53
      generalize World.drew w38 = w52
      intro hS53
      refine ⟨⟨rowR.cell (hS53.rd 6).1 0 h54.1 h54.2 0 rfl, rowR.cell (hS53.rd 0).1 z_Tile h55.1 h55.2 1 rfl, rowR.cell (hS53.rd 0).1 z_Tile h56.1 h56.2 3 rfl, trivial⟩, forallC ?_ (forallN)⟩
      refine sg 3 [] e25 [e8, (2, e5), e16, e11, e12, e27, e28, (34, e5), e3, e14, (43, (bv (decide (e9 < 0))))] (by kernel_rfl) ?_
      refine WL.setB 43 h45 rfl ?_
      refine sg 9 [] e34 [e8, (2, e5), e16, e11, e12, e27, e28, (34, e5), e3, e14, (49, (bv (decide (e9 ≥ (p0.length : Int)))))] (by kernel_rfl) ?_
      refine WL.setB 49 h48 rfl ?_
      refine sg 12 [] [0, 2, 4, 6, 7, 9, 10, 34, 35, 36, 49, 52] [e8, (2, e5), e16, e11, e12, e27, e28, (34, e5), e3, e14, (49, (bv false)), (52, (bv (decide (x34 > 0))))] (by kernel_rfl) ?_
      refine WL.setB 52 h51 rfl ?_
      refine segF 29 [.v (iv e26), .v (iv ((rdD p0 e26 z_Tile).E)), .v (iv ((rdD p0 e9 z_Tile).W))] e13 [e8, (2, e5), e16, e11, e12, (34, e5), e3, e14, (69, (bv (((rdD p0 e26 z_Tile).E) != ((rdD p0 e9 z_Tile).W))))] [.idx Ag (w64 (x34 - 1)) p2.length, .idx Aa e26 p0.length, .idx Aa e9 p0.length] [0, 1, 2] e7 (fun fb => by kernel_rfl) rfl ⟨rowR.adr (hS53.rd 6).1 h54.1 h54.2, rowR.adr (hS53.rd 0).1 h55.1 h55.2, rowR.adr (hS53.rd 0).1 h56.1 h56.2, trivial⟩ rfl ?_
      refine WL.done rfl ?_
      injection hx44 with hx44
      exact WX.to Kx43 (((rdD p0 e26 z_Tile).E) != ((rdD p0 e9 z_Tile).W)) e13 rfl ⟨(hS53.subR e24).sub [0, 1, 2] (by decide), hx44.symm⟩
     refine WC.regionD ([], e2, e1) [e2] (by kernel_rfl) (by kernel_rfl) (NoPanic.seq (NoPanic.block (NoPanic.seq (NoPanic.seq (NoPanic.block (NoPanic.seq (NoPanic.body))))))) ?_
     have hS58 := hS39.drew
     revert hS58
     generalize World.drew w38 = w57
     intro hS58
     refine ⟨trivial, forallC ?_ (forallN)⟩
     refine sg 3 [] e25 [e8, (2, e5), e16, e11, e12, e27, e28, (34, e5), e3, e14, (43, (bv (decide (e9 < 0))))] (by kernel_rfl) ?_
     refine WL.setB 43 h45 rfl ?_
     refine sg 9 [] e34 [e8, (2, e5), e16, e11, e12, e27, e28, (34, e5), e3, e14, (49, (bv (decide (e9 ≥ (p0.length : Int)))))] (by kernel_rfl) ?_
     refine WL.setB 49 h48 rfl ?_
     refine sg 12 [] [0, 2, 4, 6, 7, 9, 10, 34, 35, 36, 49, 52] [e8, (2, e5), e16, e11, e12, e27, e28, (34, e5), e3, e14, (49, (bv false)), (52, (bv (decide (x34 > 0))))] (by kernel_rfl) ?_
     refine WL.setB 52 h51 rfl ?_
     refine sg 29 [] e13 [e8, (2, e5), e16, e11, e12, (34, e5), e3, e14, (69, (bv false))] (by kernel_rfl) ?_
     refine WL.done rfl ?_
     injection hx44 with hx44
     exact WX.to Kx43 false e13 rfl ⟨(hS58.subR e24).sub [0, 1, 2] (by decide), hx44.symm⟩
    rintro y62 w59 ⟨hS60, hq61⟩
    subst hq61
    refine WX.next ?_
    rcases br_some hl40 with ⟨h63, hl40⟩ | ⟨h63, hl40⟩
    ·refine WC.condT2 (fun fb => by kernel_rfl) h63 ?_
     refine WC.seq (WC.region ?_)
     refine sg 2 [] [6, 7, 70, 71] [e11, e12, (70, (.agg e18)), (71, (.agg e18))] (by kernel_rfl) ?_
     refine WL.store hS60 1 rfl [(0, (iv 0)), (1, (iv 0))] e18 (fun fb => by kernel_rfl) (by kernel_rfl) rfl [0, 2] (by decide) (by decide) (fun w65 hS66 => ?_)
     refine ⟨trivial, ?_⟩
     refine WL.store hS66 2 rfl [(0, (iv 0)), (1, (iv 0))] e18 (fun fb => by kernel_rfl) (by kernel_rfl) rfl [0, 1] (by decide) (by decide) (fun w67 hS68 => ?_)
     refine ⟨trivial, ?_⟩
     refine sg 5 [] [6, 7, 8] [e11, e12, (8, (iv 2))] (by kernel_rfl) ?_
     refine WL.done rfl (WX.next ?_)
     refine WC.ret ?_
     injection hl40 with hl40
     subst hl40
     injection hf with hf
     subst hf
     exact WX.blockR (WX.thenR (WX.thenR (WX.blockR (WX.thenR (WX.ret_ [.v (iv 0), .v (iv 0), .v (iv 0), .v (iv 0)] (.tuple #[(.agg e18), (.agg e18), (iv 2)]) [.cell ⟨g10, 0, none⟩ (iv 0), .cell ⟨g10, 1, none⟩ (iv 0), .cell ⟨g13, 0, none⟩ (iv 0), .cell ⟨g13, 1, none⟩ (iv 0)] (fun fb => by kernel_rfl) ⟨hS68.cell 1 rfl 0 rfl, hS68.cell 1 rfl 1 rfl, hS68.cell 0 rfl 0 rfl, hS68.cell 0 rfl 1 rfl, trivial⟩ ⟨_, rfl, rfl, hS68.keep⟩)))))
    refine WC.condF2 (fun fb => by kernel_rfl) h63 ?_
    refine WC.skip ?_
    refine WX.blockN (WX.next ?_)
    refine WC.region ?_
    refine sg 2 [] [0, 2, 4, 6, 7, 34, 35, 36] [e8, (2, e5), e16, e11, e12, (34, e5), e3, (36, (iv (w64 (x34 + 1))))] (by kernel_rfl) ?_
    refine WL.done rfl ?_
    exact WX.again k37 (Nat.lt_succ_self _) (w64 (x34 + 1)) [0, 2, 4, 6, 7, 34, 35, 36] rfl ⟨(hS60.subR e24).sub [0, 1, 2] (by decide), hl40⟩
   refine WC.condF2 (fun fb => by kernel_rfl) h41 ?_
   refine WC.exit ?_
   injection hl40 with hl40
   exact WX.thenX (WX.thenX (WX.blockHere (WX.to Kx35 () [0, 2, 4, 6, 7] rfl ⟨(hS39.subR e24).sub [0, 1, 2] (by decide), hl40.symm⟩)))
 rintro y72 w69 ⟨hS70, hq71⟩
 subst hq71
 have hf := sum_inr hf
 refine WX.next (WC.seq (WC.region ?_))
 refine seg 2 [.v (sv Ab p1.Values cb)] [0, 2, 4, 6, 7, 75] [e8, (2, e5), e16, e11, e12, (75, (sv Ab p1.Values cb))] [.cell ⟨g7, 0, none⟩ (sv Ab p1.Values cb)] (fun fb => by kernel_rfl) rfl ⟨hS70.cell 0 rfl 0 rfl, trivial⟩ ?_
 obtain ⟨t73, ht74, hf⟩ := bind_some hf
 refine WL.call (some 76) 48 #[(sv Ab p1.Values cb)] (fun fb => by kernel_rfl) (weight_common_calls _ p1.Values Ab cb t73 _ (hS70.rd 1) ht74) (fun v w75 hR76 => ?_)
 obtain ⟨rfl, hk_⟩ := hR76
 have hS77 := hS70.keepN hk_
 refine ⟨trivial, ?_⟩
 refine sg 6 [] [0, 2, 4, 6, 7, 77, 78] [e8, (2, e5), e16, e11, e12, (77, (iv t73.1)), (78, (bv t73.2))] (by kernel_rfl) ?_
 refine WL.new hS77 11 [] (fun g => (pt g)) (.cells #[(iv 0)] 3 (0, 0)) [] (fun fb g => by kernel_rfl) trivial (fun g78 w79 hS80 => ?_)
 refine ⟨trivial, ?_⟩
 refine WL.store hS80 0 rfl [(0, (iv t73.1))] #[(iv t73.1)] (fun fb => by kernel_rfl) (by kernel_rfl) rfl [1, 2, 3] (by decide) (by decide) (fun w81 hS82 => ?_)
 refine ⟨trivial, ?_⟩
 refine sg 9 [] [0, 2, 4, 6, 7, 11, 12] [e8, (2, e5), e16, e11, e12, (11, (pt g78)), (12, (bv t73.2))] (by kernel_rfl) ?_
 refine WL.done rfl (WX.next (WC.seq (WC.seq (WC.region ?_))))
 refine sg 2 [] [0, 2, 4, 6, 7, 11, 80] [e8, (2, e5), e16, e11, e12, (11, (pt g78)), (80, (bv (!t73.2)))] (by kernel_rfl) ?_
 refine WL.done rfl (WX.next ?_)
 rcases br_some hf with ⟨h83, hf⟩ | ⟨h83, hf⟩
 ·refine WC.condT2 (fun fb => by kernel_rfl) h83 ?_
  refine WC.seq (WC.region ?_)
  refine sg 2 [] [6, 7, 81, 82] [e11, e12, (81, (.agg e18)), (82, (.agg e18))] (by kernel_rfl) ?_
  refine WL.store hS82 2 rfl [(0, (iv 0)), (1, (iv 0))] e18 (fun fb => by kernel_rfl) (by kernel_rfl) rfl [0, 1, 3] (by decide) (by decide) (fun w84 hS85 => ?_)
  refine ⟨trivial, ?_⟩
  refine WL.store hS85 3 rfl [(0, (iv 0)), (1, (iv 0))] e18 (fun fb => by kernel_rfl) (by kernel_rfl) rfl [0, 1, 2] (by decide) (by decide) (fun w86 hS87 => ?_)
  refine ⟨trivial, ?_⟩
  refine sg 5 [] [6, 7, 8] [e11, e12, (8, (iv 4))] (by kernel_rfl) ?_
  refine WL.done rfl (WX.next ?_)
  refine WC.ret ?_
  injection hf with hf
  subst hf
  exact WX.thenR (WX.ret_ [.v (iv 0), .v (iv 0), .v (iv 0), .v (iv 0)] (.tuple #[(.agg e18), (.agg e18), (iv 4)]) [.cell ⟨g10, 0, none⟩ (iv 0), .cell ⟨g10, 1, none⟩ (iv 0), .cell ⟨g13, 0, none⟩ (iv 0), .cell ⟨g13, 1, none⟩ (iv 0)] (fun fb => by kernel_rfl) ⟨hS87.cell 1 rfl 0 rfl, hS87.cell 1 rfl 1 rfl, hS87.cell 0 rfl 0 rfl, hS87.cell 0 rfl 1 rfl, trivial⟩ ⟨_, rfl, rfl, hS87.keep⟩)
 refine WC.condF2 (fun fb => by kernel_rfl) h83 ?_
 refine WC.skip (WX.next (WC.seq ?_))
 obtain ⟨x90, hx91, hf⟩ := bind_some hf
 let e19 := iv t73.1
 let e23 : List (Nat × Addr × Value) := [(0, ⟨g78, 0, none⟩, e19), (2, ⟨g78, 0, none⟩, e19)]
 let e31 : Array Value := #[(iv 0), e19]
 let e36 : List (Nat × Value) := [(0, (iv 0)), (1, e19)]
 refine WC.cutN (T := (Int × Int × Int × Int) × Nat × Nat) (fun t => [e8, (2, e5), e16, e11, e12, (11, (pt g78)), (13, (.pointer (some ⟨t.2.1, 0, none⟩))), (14, (.pointer (some ⟨t.2.2, 0, none⟩)))]) (fun t w1 => St NoS w w1 e4 [blk g7 (.cells e10 26 (0, 0)), blk g10 (.cells e18 33 (0, 0)), blk g13 (.cells e18 33 (0, 0)), blk g78 (.cells #[e19] 3 (0, 0)), blk t.2.1 (.cells #[(iv t.1.1), (iv t.1.2.1)] 63 (0, 0)), blk t.2.2 (.cells #[(iv t.1.2.2.1), (iv t.1.2.2.2)] 63 (0, 0))] ∧ x90 = t.1) (fun Kx90 => ?_) ?_
 ·
  refine WC.regionD (e23, [0, 1, 2, 3], [[], [0], [], [2], [], [], [0, 1, 4, 5], e24]) [[0, 1, 2, 3, 4, 5, 6, 7], [0, 1, 2, 3, 5, 4, 6, 7]] (by kernel_rfl) (by kernel_rfl) (NoPanic.seq (NoPanic.body)) ?_
  have hS93 := hS82.drew
  revert hS93
  generalize World.drew w81 = w92
  intro hS93
  refine ⟨⟨hS93.cell 0 rfl 0 rfl, hS93.cell 0 rfl 0 rfl, trivial⟩, forallC ?_ (forallC ?_ (forallN))⟩
  ·
   refine segF 4 [.v e19, .v e19] [0, 2, 4, 6, 7, 11, 84, 86] [e8, (2, e5), e16, e11, e12, (11, (pt g78)), (84, (.agg e31)), (86, (.agg e31))] [] [0, 1] e23 (fun fb => by kernel_rfl) rfl trivial rfl ?_
   refine WL.new hS93 13 [] (fun g => (pt g)) (.cells e18 63 (0, 0)) [] (fun fb g => by kernel_rfl) trivial (fun g94 w95 hS96 => ?_)
   refine ⟨⟨hS96.cell 1 rfl 0 rfl, hS96.cell 1 rfl 0 rfl, trivial⟩, ?_⟩
   refine WL.new hS96 14 [] (fun g => (pt g)) (.cells e18 63 (0, 0)) [] (fun fb g => by kernel_rfl) trivial (fun g97 w98 hS99 => ?_)
   refine ⟨⟨hS99.cell 2 rfl 0 rfl, hS99.cell 2 rfl 0 rfl, trivial⟩, ?_⟩
   refine WL.store hS99 1 rfl e36 e31 (fun fb => by kernel_rfl) (by kernel_rfl) rfl [0, 2, 3, 4, 5] (by decide) (by decide) (fun w100 hS101 => ?_)
   refine ⟨⟨hS101.cell 2 rfl 0 rfl, trivial⟩, ?_⟩
   refine WL.store hS101 1 rfl e36 e31 (fun fb => by kernel_rfl) (by kernel_rfl) rfl [0, 2, 3, 4, 5] (by decide) (by decide) (fun w102 hS103 => ?_)
   refine ⟨trivial, ?_⟩
   refine WL.done rfl ?_
   injection hx91 with hx91
   exact WX.to Kx90 ((0, t73.1, 0, t73.1), g94, g97) [0, 2, 4, 6, 7, 11, 13, 14] rfl ⟨(hS103.subR e24).sub [3, 4, 5, 2, 1, 0] (by decide), hx91.symm⟩
  refine segF 4 [.v e19, .v e19] [0, 2, 4, 6, 7, 11, 84, 86] [e8, (2, e5), e16, e11, e12, (11, (pt g78)), (84, (.agg e31)), (86, (.agg e31))] [] [0, 1] e23 (fun fb => by kernel_rfl) rfl trivial rfl ?_
  refine WL.new hS93 14 [] (fun g => (pt g)) (.cells e18 63 (0, 0)) [] (fun fb g => by kernel_rfl) trivial (fun g104 w105 hS106 => ?_)
  refine ⟨⟨hS106.cell 1 rfl 0 rfl, hS106.cell 1 rfl 0 rfl, trivial⟩, ?_⟩
  refine WL.new hS106 13 [] (fun g => (pt g)) (.cells e18 63 (0, 0)) [] (fun fb g => by kernel_rfl) trivial (fun g107 w108 hS109 => ?_)
  refine ⟨⟨hS109.cell 2 rfl 0 rfl, hS109.cell 2 rfl 0 rfl, trivial⟩, ?_⟩
  refine WL.store hS109 0 rfl e36 e31 (fun fb => by kernel_rfl) (by kernel_rfl) rfl [1, 2, 3, 4, 5] (by decide) (by decide) (fun w110 hS111 => ?_)
  refine ⟨⟨hS111.cell 2 rfl 0 rfl, trivial⟩, ?_⟩
  refine WL.store hS111 1 rfl e36 e31 (fun fb => by kernel_rfl) (by kernel_rfl) rfl [0, 2, 3, 4, 5] (by decide) (by decide) (fun w112 hS113 => ?_)
  refine ⟨trivial, ?_⟩
  refine WL.done rfl ?_
  injection hx91 with hx91
  exact WX.to Kx90 ((0, t73.1, 0, t73.1), g107, g104) [0, 2, 4, 6, 7, 11, 13, 14] rfl ⟨(hS113.subR e24).sub [3, 4, 5, 2, 1, 0] (by decide), hx91.symm⟩
 rintro ⟨y117, g88, g89⟩ w114 ⟨hS115, hq116⟩
 subst hq116
 refine WX.next (WC.seq (WC.region ?_))
 refine sg 2 [] [0, 2, 6, 7, 13, 14, 15] [e8, (2, e5), e11, e12, (13, (pt g88)), (14, (pt g89)), (15, (.func (.func 49) #[] #[(pt g7), (pt g78)]))] (by kernel_rfl) ?_
 refine WL.done rfl (WX.next (WC.seq (WC.seq (WC.region ?_))))
 refine sg 3 [] [0, 6, 7, 13, 14, 15, 88, 89, 90] [e8, e11, e12, (13, (pt g88)), (14, (pt g89)), (15, (.func (.func 49) #[] #[(pt g7), (pt g78)])), (88, e5), (89, (iv (p2.length : Int))), (90, (iv 0))] (by kernel_rfl) ?_
 refine WL.done rfl (WX.next ?_)
 obtain ⟨x121, hx122, hf⟩ := bind_some hf
 let e15 : Nat × Value := (89, (iv (p2.length : Int)))
 let e17 := [[], [0], [], [], [], [3, 4], [3, 4, 5], [3, 4, 5, 6], [2, 3, 4, 5, 6, 7], [0, 1, 2, 3, 4, 5, 6, 7, 8], [0, 1, 2, 3, 4, 5, 6, 7, 8, 9], [0, 1, 2, 3, 4, 5, 6, 7, 8, 9, 10]]
 let e20 : Array Value := #[(pt g7), (pt g78)]
 let e29 : Nat × Value := (13, (pt g88))
 let e30 : Nat × Value := (14, (pt g89))
 let e37 : List Nat := [0, 6, 7, 13, 14, 15, 88, 89, 90]
 refine WC.cutN (T := Int × Int) (fun t => [e11, e12, e29, e30]) (fun t w1 => St NoS w w1 e4 [blk g10 (.cells e18 33 (0, 0)), blk g13 (.cells e18 33 (0, 0)), blk g88 (.cells #[(iv t.1), (iv x90.2.1)] 63 (0, 0)), blk g89 (.cells #[(iv t.2), (iv x90.2.2.2)] 63 (0, 0))] ∧ x121 = t) (fun Kx121 => ?_) ?_
 ·
  refine WC.block ?_
  refine WC.loop (T := Int × Int × Int) (fun t => [e8, e11, e12, e29, e30, (15, (.func (.func 49) #[] e20)), (88, e5), e15, (90, (iv t.2.2))]) (fun n t w1 => St NoS w w1 e4 [blk g10 (.cells e18 33 (0, 0)), blk g13 (.cells e18 33 (0, 0)), blk g88 (.cells #[(iv t.1), (iv x90.2.1)] 63 (0, 0)), blk g89 (.cells #[(iv t.2.1), (iv x90.2.2.2)] 63 (0, 0)), blk g7 (.cells e10 26 (0, 0)), blk g78 (.cells #[e19] 3 (0, 0))] ∧ weight_Row.l1 n t.1 t.2.1 t.2.2 p0 p1 p2 t73 = some x121) k (x90.1, x90.2.2.1, 0) e37 rfl ⟨(hS115.subR e24).sub [1, 2, 4, 5, 0, 3] (by decide), hx122⟩ ?_
  rintro k123 ⟨x118, x119, x120⟩ w124 ⟨hS125, hl126⟩
  let e6 := rdD p0 (rdD p2 x120 0) z_Tile
  let e22 := (adr Aa).add (((rdD p2 x120 0)).toNat * 4)
  let e32 := rdD p2 x120 0
  let e35 : List (Nat × Addr × Value) := [(1, ⟨g88, 0, none⟩, (iv x118)), (7, (e22.add 2), (iv (e6.S)))]
  let e38 : Nat × Value := (90, (iv x120))
  let e40 : List (Nat × Addr × Value) := [(1, ⟨g89, 0, none⟩, (iv x119)), (7, e22, (iv (e6.N)))]
  cases k123 with
  | zero => rw [weight_Row.l1] at hl126; cases hl126
  | succ k123 =>
   rw [weight_Row.l1] at hl126
   refine WC.seq (WC.region ?_)
   refine sg 1 [] [0, 6, 7, 13, 14, 15, 88, 89, 90, 91] [e8, e11, e12, e29, e30, (15, (.func (.func 49) #[] e20)), (88, e5), e15, e38, (91, (bv (decide (x120 < (p2.length : Int)))))] (by kernel_rfl) ?_
   refine WL.done rfl (WX.next (WC.seq ?_))
   rcases br_some hl126 with ⟨h127, hl126⟩ | ⟨h127, hl126⟩
   ·refine WC.condT2 (fun fb => by kernel_rfl) h127 ?_
    refine WC.skip (WX.next (WC.seq (WC.block (WC.seq (WC.region ?_)))))
    obtain ⟨h128, hl126⟩ := as_some hl126
    refine seg 3 [.v (iv e32)] [0, 6, 7, 13, 14, 15, 17, 88, 89, 90] [e8, e11, e12, e29, e30, (15, (.func (.func 49) #[] e20)), (17, (iv e32)), (88, e5), e15, e38] [.idx Ag x120 p2.length, .cell ((adr Ag).add ((x120).toNat * 1)) (iv e32)] (fun fb => by kernel_rfl) rfl ⟨rowR.adr (hS125.rd 6).1 h128.1 h128.2, rowR.cell (hS125.rd 6).1 0 h128.1 h128.2 0 rfl, trivial⟩ ?_
    refine WL.done rfl (WX.next (WC.seq ?_))
    obtain ⟨h131, hl126⟩ := as_some hl126
    refine WC.regionD (e35, [0, 1, 2, 3, 4, 5, 6, 7, 9, 10], e17) [e21] (by kernel_rfl) (by kernel_rfl) (NoPanic.seq (NoPanic.block (NoPanic.seq (NoPanic.seq (NoPanic.block (NoPanic.seq (NoPanic.body))))))) ?_
    have hS130 := hS125.drew
    revert hS130
    generalize World.drew w124 = w129
    intro hS130
    refine ⟨⟨hS130.cell 2 rfl 0 rfl, rowR.cell (hS130.rd 0).1 z_Tile h131.1 h131.2 2 rfl, trivial⟩, forallC ?_ (forallN)⟩
    refine segF 8 [.v (iv x118), .v (iv (e6.S))] [0, 6, 7, 13, 14, 15, 17, 88, 89, 90, 95, 96, 101] [e8, e11, e12, e29, e30, (15, (.func (.func 49) #[] e20)), (17, (iv e32)), (88, e5), e15, e38, (95, (iv x118)), (96, (.func (.func 49) #[] e20)), (101, (iv (e6.S)))] [.idx Aa e32 p0.length] [0, 1] e35 (fun fb => by kernel_rfl) rfl ⟨rowR.adr (hS130.rd 0).1 h131.1 h131.2, trivial⟩ rfl ?_
    obtain ⟨t132, ht133, hl126⟩ := bind_some hl126
    refine WL.call (some 102) 49 #[(iv (e6.S)), (pt g7), (pt g78)] (fun fb => by kernel_rfl) (weight_Row_1_calls _ (e6.S) p1 t73.1 g7 Ab cb Ac cc Ad cd Ae ce Af cf g78 t132 _ (hS130.ow 4) (hS130.rd 1) (hS130.rd 2) (hS130.rd 3) (hS130.rd 4) (hS130.rd 5) (hS130.ow 5) ht133) (fun v w134 hR135 => ?_)
    obtain ⟨rfl, hk_⟩ := hR135
    have hS136 := hS130.keepN hk_
    refine ⟨⟨hS136.cell 2 rfl 0 rfl, trivial⟩, ?_⟩
    refine sg 11 [] [0, 6, 7, 13, 14, 15, 17, 88, 89, 90, 103, 104] [e8, e11, e12, e29, e30, (15, (.func (.func 49) #[] e20)), (17, (iv e32)), (88, e5), e15, e38, (103, (iv (w64 (x118 + t132)))), (104, (pt g88))] (by kernel_rfl) ?_
    refine WL.store hS136 2 rfl [(0, (iv (w64 (x118 + t132))))] #[(iv (w64 (x118 + t132))), (iv x90.2.1)] (fun fb => by kernel_rfl) (by kernel_rfl) rfl [0, 1, 3, 4, 5] (by decide) (by decide) (fun w137 hS138 => ?_)
    refine ⟨trivial, ?_⟩
    refine WL.done rfl (WX.next ?_)
    refine WC.regionD (e40, [0, 1, 2, 3, 4, 5, 6, 7, 9, 10], e17) [e21] (by kernel_rfl) (by kernel_rfl) (NoPanic.block (NoPanic.seq (NoPanic.seq (NoPanic.block (NoPanic.seq (NoPanic.body)))))) ?_
    have hS140 := hS138.drew
    revert hS140
    generalize World.drew w137 = w139
    intro hS140
    refine ⟨⟨hS140.cell 3 rfl 0 rfl, rowR.cell (hS140.rd 0).1 z_Tile h131.1 h131.2 0 rfl, trivial⟩, forallC ?_ (forallN)⟩
    refine segF 8 [.v (iv x119), .v (iv (e6.N))] [0, 6, 7, 13, 14, 15, 88, 89, 90, 106, 107, 112] [e8, e11, e12, e29, e30, (15, (.func (.func 49) #[] e20)), (88, e5), e15, e38, (106, (iv x119)), (107, (.func (.func 49) #[] e20)), (112, (iv (e6.N)))] [.idx Aa e32 p0.length] [0, 1] e40 (fun fb => by kernel_rfl) rfl ⟨rowR.adr (hS140.rd 0).1 h131.1 h131.2, trivial⟩ rfl ?_
    obtain ⟨t141, ht142, hl126⟩ := bind_some hl126
    refine WL.call (some 113) 49 #[(iv (e6.N)), (pt g7), (pt g78)] (fun fb => by kernel_rfl) (weight_Row_1_calls _ (e6.N) p1 t73.1 g7 Ab cb Ac cc Ad cd Ae ce Af cf g78 t141 _ (hS140.ow 4) (hS140.rd 1) (hS140.rd 2) (hS140.rd 3) (hS140.rd 4) (hS140.rd 5) (hS140.ow 5) ht142) (fun v w143 hR144 => ?_)
    obtain ⟨rfl, hk_⟩ := hR144
    have hS145 := hS140.keepN hk_
    refine ⟨⟨hS145.cell 3 rfl 0 rfl, trivial⟩, ?_⟩
    refine sg 11 [] [0, 6, 7, 13, 14, 15, 88, 89, 90, 114, 115] [e8, e11, e12, e29, e30, (15, (.func (.func 49) #[] e20)), (88, e5), e15, e38, (114, (iv (w64 (x119 + t141)))), (115, (pt g89))] (by kernel_rfl) ?_
    refine WL.store hS145 3 rfl [(0, (iv (w64 (x119 + t141))))] #[(iv (w64 (x119 + t141))), (iv x90.2.2.2)] (fun fb => by kernel_rfl) (by kernel_rfl) rfl [0, 1, 2, 4, 5] (by decide) (by decide) (fun w146 hS147 => ?_)
    refine ⟨trivial, ?_⟩
    refine WL.done rfl ?_
    refine WX.blockN (WX.next ?_)
    refine WC.region ?_
    refine sg 2 [] e37 [e8, e11, e12, e29, e30, (15, (.func (.func 49) #[] e20)), (88, e5), e15, (90, (iv (w64 (x120 + 1))))] (by kernel_rfl) ?_
    refine WL.done rfl ?_
    exact WX.again k123 (Nat.lt_succ_self _) (w64 (x118 + t132), w64 (x119 + t141), w64 (x120 + 1)) e37 rfl ⟨(hS147.subR e24).sub [2, 3, 1, 0, 4, 5] (by decide), hl126⟩
   refine WC.condF2 (fun fb => by kernel_rfl) h127 ?_
   refine WC.exit ?_
   injection hl126 with hl126
   exact WX.thenX (WX.thenX (WX.blockHere (WX.to Kx121 (x118, x119) [6, 7, 13, 14] rfl ⟨(hS125.subR e24).sub [0, 1, 2, 3] (by decide), hl126.symm⟩)))
 rintro y151 w148 ⟨hS149, hq150⟩
 subst hq150
 refine WX.next (WC.seq ?_)
 refine WC.regionD ([(0, ⟨g88, 0, none⟩, (iv x121.1)), (0, ⟨g88, 1, none⟩, (iv x90.2.1)), (2, ⟨g89, 0, none⟩, (iv x121.2)), (2, ⟨g89, 1, none⟩, (iv x90.2.2.2))], [0, 2], [[], [0], [], [0, 1, 2], [0, 1, 2, 3], [0, 1, 2, 3, 4]]) [[0, 2, 1, 3, 4, 5]] (by kernel_rfl) (by kernel_rfl) (NoPanic.seq (NoPanic.body)) ?_
 have hS153 := hS149.drew
 revert hS153
 generalize World.drew w148 = w152
 intro hS153
 refine ⟨⟨hS153.cell 2 rfl 0 rfl, hS153.cell 2 rfl 1 rfl, hS153.cell 3 rfl 0 rfl, hS153.cell 3 rfl 1 rfl, trivial⟩, forallC ?_ (forallN)⟩
 refine segF 2 [.v (iv x121.1), .v (iv x90.2.1), .v (iv x121.2), .v (iv x90.2.2.2)] [6, 7, 13, 14, 117, 119] [e11, e12, e29, e30, (117, (.agg #[(iv x121.1), (iv x90.2.1)])), (119, (.agg #[(iv x121.2), (iv x90.2.2.2)]))] [] [0, 1, 2, 3] [(0, ⟨g88, 0, none⟩, (iv x121.1)), (0, ⟨g88, 1, none⟩, (iv x90.2.1)), (2, ⟨g89, 0, none⟩, (iv x121.2)), (2, ⟨g89, 1, none⟩, (iv x90.2.2.2))] (fun fb => by kernel_rfl) rfl trivial rfl ?_
 obtain ⟨t154, ht155, hf⟩ := bind_some hf
 refine WL.call (some 118) 50 #[(.agg #[(iv x121.1), (iv x90.2.1)])] (fun fb => by kernel_rfl) (weight_fraction_lowest_calls _ (Fraction.mk x121.1 x90.2.1) t154 _ ht155) (fun v w156 hR157 => ?_)
 obtain ⟨rfl, hk_⟩ := hR157
 have hS158 := hS153.keepN hk_
 refine ⟨⟨hS158.cell 3 rfl 0 rfl, hS158.cell 3 rfl 1 rfl, trivial⟩, ?_⟩
 obtain ⟨t159, ht160, hf⟩ := bind_some hf
 refine WL.call (some 120) 50 #[(.agg #[(iv x121.2), (iv x90.2.2.2)])] (fun fb => by kernel_rfl) (weight_fraction_lowest_calls _ (Fraction.mk x121.2 x90.2.2.2) t159 _ ht160) (fun v w161 hR162 => ?_)
 obtain ⟨rfl, hk_⟩ := hR162
 have hS163 := hS158.keepN hk_
 refine ⟨trivial, ?_⟩
 refine WL.store hS163 2 rfl [(0, (iv t154.Num)), (1, (iv t154.Den))] #[(iv t154.Num), (iv t154.Den)] (fun fb => by kernel_rfl) (by kernel_rfl) rfl [0, 1, 3] (by decide) (by decide) (fun w164 hS165 => ?_)
 refine ⟨trivial, ?_⟩
 refine WL.store hS165 3 rfl [(0, (iv t159.Num)), (1, (iv t159.Den))] #[(iv t159.Num), (iv t159.Den)] (fun fb => by kernel_rfl) (by kernel_rfl) rfl [0, 1, 2] (by decide) (by decide) (fun w166 hS167 => ?_)
 refine ⟨trivial, ?_⟩
 refine WL.done rfl (WX.next (WC.seq (WC.seq (WC.region ?_))))
 refine seg 1 [.v (iv t154.Num), .v (iv t154.Den)] [6, 7, 13, 14, 121] [e11, e12, e29, e30, (121, (.agg #[(iv t154.Num), (iv t154.Den)]))] [.cell ⟨g88, 0, none⟩ (iv t154.Num), .cell ⟨g88, 1, none⟩ (iv t154.Den)] (fun fb => by kernel_rfl) rfl ⟨hS167.cell 1 rfl 0 rfl, hS167.cell 1 rfl 1 rfl, trivial⟩ ?_
 obtain ⟨t168, ht169, hf⟩ := bind_some hf
 refine WL.call (some 122) 39 #[(.agg #[(iv t154.Num), (iv t154.Den)])] (fun fb => by kernel_rfl) (weight_fraction_valid_calls t154 t168 _ ht169) (fun v w170 hR171 => ?_)
 obtain ⟨rfl, hk_⟩ := hR171
 have hS172 := hS167.keepN hk_
 refine ⟨trivial, ?_⟩
 refine sg 4 [] [6, 7, 13, 14, 124] [e11, e12, e29, e30, (124, (bv (!t168)))] (by kernel_rfl) ?_
 obtain ⟨x173, hx174, hf⟩ := bind_some hf
 let e39 : Array Value := #[(iv t159.Num), (iv t159.Den)]
 refine WL.cutW (T := Bool) 8 (fun t => [e11, e12, e29, e30, (128, (bv t))]) (fun t w1 => (St NoS w w1 e4 [blk g10 (.cells e18 33 (0, 0)), blk g13 (.cells e18 33 (0, 0)), blk g88 (.cells #[(iv t154.Num), (iv t154.Den)] 63 (0, 0)), blk g89 (.cells e39 63 (0, 0))] ∧ x173 = t) ∧ CellsOK [] w1) (fun K => ?_) ?_
 ·
  rcases br_some hx174 with ⟨h175, hx174⟩ | ⟨h175, hx174⟩
  ·
   refine WL.setB 124 h175 rfl ?_
   refine sg 8 [] [6, 7, 13, 14, 128] [e11, e12, e29, e30, (128, (bv true))] (by kernel_rfl) ?_
   injection hx174 with hx174
   exact WL.to K true [6, 7, 13, 14, 128] rfl ⟨⟨(hS172.subR e24).sub [2, 3, 1, 0] (by decide), hx174.symm⟩, trivial⟩
  refine WL.setB 124 h175 rfl ?_
  refine seg 5 [.v (iv t159.Num), .v (iv t159.Den)] [6, 7, 13, 14, 124, 125] [e11, e12, e29, e30, (124, (bv false)), (125, (.agg e39))] [.cell ⟨g89, 0, none⟩ (iv t159.Num), .cell ⟨g89, 1, none⟩ (iv t159.Den)] (fun fb => by kernel_rfl) rfl ⟨hS172.cell 0 rfl 0 rfl, hS172.cell 0 rfl 1 rfl, trivial⟩ ?_
  obtain ⟨t176, ht177, hx174⟩ := bind_some hx174
  refine WL.call (some 126) 39 #[(.agg e39)] (fun fb => by kernel_rfl) (weight_fraction_valid_calls t159 t176 _ ht177) (fun v w178 hR179 => ?_)
  obtain ⟨rfl, hk_⟩ := hR179
  have hS180 := hS172.keepN hk_
  refine ⟨trivial, ?_⟩
  refine sg 8 [] [6, 7, 13, 14, 128] [e11, e12, e29, e30, (128, (bv (!t176)))] (by kernel_rfl) ?_
  injection hx174 with hx174
  exact WL.to K (!t176) [6, 7, 13, 14, 128] rfl ⟨⟨(hS180.subR e24).sub [2, 3, 1, 0] (by decide), hx174.symm⟩, trivial⟩
 rintro y181 w183 ⟨⟨hS184, hq182⟩, hF185⟩
 subst hq182
 refine WL.done rfl (WX.next ?_)
 rcases br_some hf with ⟨h186, hf⟩ | ⟨h186, hf⟩
 ·refine WC.condT2 (fun fb => by kernel_rfl) h186 ?_
  refine WC.seq (WC.region ?_)
  refine sg 2 [] [6, 7, 129, 130] [e11, e12, (129, (.agg e18)), (130, (.agg e18))] (by kernel_rfl) ?_
  refine WL.store hS184 0 rfl [(0, (iv 0)), (1, (iv 0))] e18 (fun fb => by kernel_rfl) (by kernel_rfl) rfl [1, 2, 3] (by decide) (by decide) (fun w187 hS188 => ?_)
  refine ⟨trivial, ?_⟩
  refine WL.store hS188 1 rfl [(0, (iv 0)), (1, (iv 0))] e18 (fun fb => by kernel_rfl) (by kernel_rfl) rfl [0, 2, 3] (by decide) (by decide) (fun w189 hS190 => ?_)
  refine ⟨trivial, ?_⟩
  refine sg 5 [] [6, 7, 8] [e11, e12, (8, (iv 4))] (by kernel_rfl) ?_
  refine WL.done rfl (WX.next ?_)
  refine WC.ret ?_
  injection hf with hf
  subst hf
  exact WX.thenR (WX.ret_ [.v (iv 0), .v (iv 0), .v (iv 0), .v (iv 0)] (.tuple #[(.agg e18), (.agg e18), (iv 4)]) [.cell ⟨g10, 0, none⟩ (iv 0), .cell ⟨g10, 1, none⟩ (iv 0), .cell ⟨g13, 0, none⟩ (iv 0), .cell ⟨g13, 1, none⟩ (iv 0)] (fun fb => by kernel_rfl) ⟨hS190.cell 1 rfl 0 rfl, hS190.cell 1 rfl 1 rfl, hS190.cell 0 rfl 0 rfl, hS190.cell 0 rfl 1 rfl, trivial⟩ ⟨_, rfl, rfl, hS190.keep⟩)
 refine WC.condF2 (fun fb => by kernel_rfl) h186 ?_
 refine WC.skip (WX.next (WC.seq ?_))
 refine WC.regionD ([(0, ⟨g88, 0, none⟩, (iv t154.Num)), (0, ⟨g88, 1, none⟩, (iv t154.Den)), (1, ⟨g89, 0, none⟩, (iv t159.Num)), (1, ⟨g89, 1, none⟩, (iv t159.Den))], [0, 1, 4], [[], [], [0], [0, 1, 2], [0, 1, 2, 3]]) [[0, 1, 2, 3, 4]] (by kernel_rfl) (by kernel_rfl) (NoPanic.seq (NoPanic.body)) ?_
 have hS192 := hS184.drew
 revert hS192
 generalize World.drew w183 = w191
 intro hS192
 refine ⟨⟨hS192.cell 2 rfl 0 rfl, hS192.cell 2 rfl 1 rfl, hS192.cell 3 rfl 0 rfl, hS192.cell 3 rfl 1 rfl, trivial⟩, forallC ?_ (forallN)⟩
 refine segF 2 [.v (iv t154.Num), .v (iv t154.Den), .v (iv t159.Num), .v (iv t159.Den)] [6, 7, 131, 132] [e11, e12, (131, (.agg #[(iv t154.Num), (iv t154.Den)])), (132, (.agg e39))] [] [0, 1, 2, 3] [(0, ⟨g88, 0, none⟩, (iv t154.Num)), (0, ⟨g88, 1, none⟩, (iv t154.Den)), (1, ⟨g89, 0, none⟩, (iv t159.Num)), (1, ⟨g89, 1, none⟩, (iv t159.Den))] (fun fb => by kernel_rfl) rfl trivial rfl ?_
 refine WL.store hS192 0 rfl [(0, (iv t154.Num)), (1, (iv t154.Den))] #[(iv t154.Num), (iv t154.Den)] (fun fb => by kernel_rfl) (by kernel_rfl) rfl [1, 2, 3] (by decide) (by decide) (fun w193 hS194 => ?_)
 refine ⟨⟨hS194.cell 3 rfl 0 rfl, hS194.cell 3 rfl 1 rfl, trivial⟩, ?_⟩
 refine WL.store hS194 1 rfl [(0, (iv t159.Num)), (1, (iv t159.Den))] e39 (fun fb => by kernel_rfl) (by kernel_rfl) rfl [0, 2, 3] (by decide) (by decide) (fun w195 hS196 => ?_)
 refine ⟨trivial, ?_⟩
 refine sg 5 [] [6, 7, 8] [e11, e12, (8, (iv 0))] (by kernel_rfl) ?_
 refine WL.done rfl (WX.next ?_)
 refine WC.ret ?_
 injection hf with hf
 subst hf
 exact WX.ret_ [.v (iv t154.Num), .v (iv t154.Den), .v (iv t159.Num), .v (iv t159.Den)] (.tuple #[(.agg #[(iv t154.Num), (iv t154.Den)]), (.agg e39), (iv 0)]) [.cell ⟨g10, 0, none⟩ (iv t154.Num), .cell ⟨g10, 1, none⟩ (iv t154.Den), .cell ⟨g13, 0, none⟩ (iv t159.Num), .cell ⟨g13, 1, none⟩ (iv t159.Den)] (fun fb => by kernel_rfl) ⟨hS196.cell 1 rfl 0 rfl, hS196.cell 1 rfl 1 rfl, hS196.cell 0 rfl 0 rfl, hS196.cell 0 rfl 1 rfl, trivial⟩ ⟨_, rfl, rfl, hS196.keep⟩
theorem law06_awake_calls (k : Nat)  (mG : Glo) (r : Bool) (w : World) (hR0 : RO NoS w (tabO 0 md0)) (hR1 : RO NoS w (gloO Tryz.prog 5 8 3 4 mG)) (hf : law06_awake k = some r) :
  CallsR Tryz.prog 10 #[] w (fun v w' => v = (bv r) ∧ Keeps NoS w w') := by
 have hS : St NoS w w [tabO 0 md0, gloO Tryz.prog 5 8 3 4 mG] [] := St.init (ro_cons hR0 (ro_cons hR1 (ro_nil _ _)))
 refine enter 88 Tryz.func10 rfl Tryz.ntmps10 rfl ?_
 unfold law06_awake at hf
 refine WC.seq (WC.region ?_)
 refine sg 1 [] [] [] (by kernel_rfl) ?_
 refine WL.done rfl (WX.next (WC.seq (WC.region ?_)))
 obtain ⟨t3, ht4, hf⟩ := bind_some hf
 refine WL.call (some 14) 26 #[(.string (⟨#[50, 46, 48, 46, 49, 46, 48]⟩ : ByteArray))] (fun fb => by kernel_rfl) (tile_Parse_calls _ (⟨#[50, 46, 48, 46, 49, 46, 48]⟩ : ByteArray) mG t3 _ (hS.rd 1) ht4) (fun v w5 hR7 => ?_)
 obtain ⟨A9, c11, rfl, hk_⟩ := hR7
 have hS8 := hS.go w5 [rowO 44 enc_Tile A9 c11 t3.1] (hS.call hk_ [] [] (fun g hg => hg.elim) (by simp) (by decide))
 refine ⟨trivial, ?_⟩
 refine sg 6 [] [1] [(1, (sv A9 t3.1 c11))] (by kernel_rfl) ?_
 refine WL.done rfl (WX.next (WC.seq (WC.region ?_)))
 obtain ⟨t12, ht13, hf⟩ := bind_some hf
 refine WL.call (some 18) 26 #[(.string (⟨#[49, 46, 48, 46, 49, 46, 48]⟩ : ByteArray))] (fun fb => by kernel_rfl) (tile_Parse_calls _ (⟨#[49, 46, 48, 46, 49, 46, 48]⟩ : ByteArray) mG t12 _ (hS8.rd 1) ht13) (fun v w14 hR15 => ?_)
 obtain ⟨A17, c18, rfl, hk_⟩ := hR15
 have hS16 := hS8.go w14 [rowO 44 enc_Tile A17 c18 t12.1, rowO 44 enc_Tile A9 c11 t3.1] (hS8.call hk_ [] [0] (fun g hg => hg.elim) (by simp) (by decide))
 refine ⟨trivial, ?_⟩
 refine sg 6 [] [1, 3] [(1, (sv A9 t3.1 c11)), (3, (sv A17 t12.1 c18))] (by kernel_rfl) ?_
 refine WL.done rfl (WX.next (WC.seq (WC.region ?_)))
 refine sg 3 [] [1, 3, 21, 22, 23] [(1, (sv A9 t3.1 c11)), (3, (sv A17 t12.1 c18)), (21, (.agg #[(iv 0), (iv 1)])), (22, (.agg #[(iv 1), (iv 1)])), (23, (.agg #[(iv 2), (iv 1)]))] (by kernel_rfl) ?_
 refine WL.new hS16 24 [] (fun g => (.slice (some ⟨g, 0, none⟩) 3 3)) (.cells #[(iv 0), (iv 1), (iv 1), (iv 1), (iv 2), (iv 1)] 33 (0, 0)) [] (fun fb g => by kernel_rfl) trivial (fun g19 w20 hS21 => ?_)
 refine ⟨trivial, ?_⟩
 have hS22 := hS16.go w20 [rowO 33 enc_Frac (some ⟨g19, 0, none⟩) 3 [(Frac.mk 0 1), (Frac.mk 1 1), (Frac.mk 2 1)], rowO 44 enc_Tile A17 c18 t12.1, rowO 44 enc_Tile A9 c11 t3.1] (hS21.map1 0 _ (fun h => rowO.ofBlk h rfl (Nat.le_of_ble_eq_true (by kernel_rfl))) (fun _ h => by obtain ⟨_, h1, h2⟩ := h; injection h1 with h1; subst h1; exact h2) [1, 2] (by decide) (by decide))
 refine sg 5 [] [1, 3, 24, 25] [(1, (sv A9 t3.1 c11)), (3, (sv A17 t12.1 c18)), (24, (sv (some ⟨g19, 0, none⟩) [(Frac.mk 0 1), (Frac.mk 1 1), (Frac.mk 2 1)] 3)), (25, (.agg #[(iv 0), (iv 1)]))] (by kernel_rfl) ?_
 refine WL.new hS22 26 [] (fun g => (.slice (some ⟨g, 0, none⟩) 1 1)) (.cells #[(iv 0), (iv 1)] 33 (0, 0)) [] (fun fb g => by kernel_rfl) trivial (fun g23 w24 hS25 => ?_)
 refine ⟨trivial, ?_⟩
 have hS26 := hS22.go w24 [rowO 33 enc_Frac (some ⟨g23, 0, none⟩) 1 [(Frac.mk 0 1)], rowO 33 enc_Frac (some ⟨g19, 0, none⟩) 3 [(Frac.mk 0 1), (Frac.mk 1 1), (Frac.mk 2 1)], rowO 44 enc_Tile A17 c18 t12.1, rowO 44 enc_Tile A9 c11 t3.1] (hS25.map1 0 _ (fun h => rowO.ofBlk h rfl (Nat.le_of_ble_eq_true (by kernel_rfl))) (fun _ h => by obtain ⟨_, h1, h2⟩ := h; injection h1 with h1; subst h1; exact h2) [1, 2, 3] (by decide) (by decide))
 refine sg 7 [] [1, 3, 24, 26, 27] [(1, (sv A9 t3.1 c11)), (3, (sv A17 t12.1 c18)), (24, (sv (some ⟨g19, 0, none⟩) [(Frac.mk 0 1), (Frac.mk 1 1), (Frac.mk 2 1)] 3)), (26, (sv (some ⟨g23, 0, none⟩) [(Frac.mk 0 1)] 1)), (27, (.agg #[(iv 2), (iv 1)]))] (by kernel_rfl) ?_
 refine WL.new hS26 28 [] (fun g => (.slice (some ⟨g, 0, none⟩) 1 1)) (.cells #[(iv 2), (iv 1)] 33 (0, 0)) [] (fun fb g => by kernel_rfl) trivial (fun g27 w28 hS29 => ?_)
 refine ⟨trivial, ?_⟩
 have hS30 := hS26.go w28 [rowO 33 enc_Frac (some ⟨g27, 0, none⟩) 1 [(Frac.mk 2 1)], rowO 33 enc_Frac (some ⟨g23, 0, none⟩) 1 [(Frac.mk 0 1)], rowO 33 enc_Frac (some ⟨g19, 0, none⟩) 3 [(Frac.mk 0 1), (Frac.mk 1 1), (Frac.mk 2 1)], rowO 44 enc_Tile A17 c18 t12.1, rowO 44 enc_Tile A9 c11 t3.1] (hS29.map1 0 _ (fun h => rowO.ofBlk h rfl (Nat.le_of_ble_eq_true (by kernel_rfl))) (fun _ h => by obtain ⟨_, h1, h2⟩ := h; injection h1 with h1; subst h1; exact h2) [1, 2, 3, 4] (by decide) (by decide))
 refine WL.new hS30 29 [] (fun g => (.slice (some ⟨g, 0, none⟩) 1 1)) (.cells #[(iv 2)] 3 (0, 0)) [] (fun fb g => by kernel_rfl) trivial (fun g31 w32 hS33 => ?_)
 refine ⟨trivial, ?_⟩
 have hS34 := hS30.go w32 [rowO 3 encInt (some ⟨g31, 0, none⟩) 1 [2], rowO 33 enc_Frac (some ⟨g27, 0, none⟩) 1 [(Frac.mk 2 1)], rowO 33 enc_Frac (some ⟨g23, 0, none⟩) 1 [(Frac.mk 0 1)], rowO 33 enc_Frac (some ⟨g19, 0, none⟩) 3 [(Frac.mk 0 1), (Frac.mk 1 1), (Frac.mk 2 1)], rowO 44 enc_Tile A17 c18 t12.1, rowO 44 enc_Tile A9 c11 t3.1] (hS33.map1 0 _ (fun h => rowO.ofBlk h rfl (Nat.le_of_ble_eq_true (by kernel_rfl))) (fun _ h => by obtain ⟨_, h1, h2⟩ := h; injection h1 with h1; subst h1; exact h2) [1, 2, 3, 4, 5] (by decide) (by decide))
 refine WL.new hS34 30 [] (fun g => (.slice (some ⟨g, 0, none⟩) 1 1)) (.cells #[(iv 1)] 3 (0, 0)) [] (fun fb g => by kernel_rfl) trivial (fun g35 w36 hS37 => ?_)
 refine ⟨trivial, ?_⟩
 have hS38 := hS34.go w36 [rowO 3 encInt (some ⟨g35, 0, none⟩) 1 [1], rowO 3 encInt (some ⟨g31, 0, none⟩) 1 [2], rowO 33 enc_Frac (some ⟨g27, 0, none⟩) 1 [(Frac.mk 2 1)], rowO 33 enc_Frac (some ⟨g23, 0, none⟩) 1 [(Frac.mk 0 1)], rowO 33 enc_Frac (some ⟨g19, 0, none⟩) 3 [(Frac.mk 0 1), (Frac.mk 1 1), (Frac.mk 2 1)], rowO 44 enc_Tile A17 c18 t12.1, rowO 44 enc_Tile A9 c11 t3.1] (hS37.map1 0 _ (fun h => rowO.ofBlk h rfl (Nat.le_of_ble_eq_true (by kernel_rfl))) (fun _ h => by obtain ⟨_, h1, h2⟩ := h; injection h1 with h1; subst h1; exact h2) [1, 2, 3, 4, 5, 6] (by decide) (by decide))
 refine sg 11 [] [1, 3, 31] [(1, (sv A9 t3.1 c11)), (3, (sv A17 t12.1 c18)), (31, (.agg #[(sv (some ⟨g19, 0, none⟩) [(Frac.mk 0 1), (Frac.mk 1 1), (Frac.mk 2 1)] 3), (sv (some ⟨g23, 0, none⟩) [(Frac.mk 0 1)] 1), (sv (some ⟨g27, 0, none⟩) [(Frac.mk 2 1)] 1), (sv (some ⟨g31, 0, none⟩) [2] 1), (sv (some ⟨g35, 0, none⟩) [1] 1)]))] (by kernel_rfl) ?_
 refine WL.new hS38 5 [] (fun g => (pt g)) (.cells #[(.slice none 0 0), (.slice none 0 0), (.slice none 0 0), (.slice none 0 0), (.slice none 0 0)] 26 (0, 0)) [] (fun fb g => by kernel_rfl) trivial (fun g39 w40 hS41 => ?_)
 refine ⟨trivial, ?_⟩
 refine WL.store hS41 0 rfl [(0, (sv (some ⟨g19, 0, none⟩) [(Frac.mk 0 1), (Frac.mk 1 1), (Frac.mk 2 1)] 3)), (1, (sv (some ⟨g23, 0, none⟩) [(Frac.mk 0 1)] 1)), (2, (sv (some ⟨g27, 0, none⟩) [(Frac.mk 2 1)] 1)), (3, (sv (some ⟨g31, 0, none⟩) [2] 1)), (4, (sv (some ⟨g35, 0, none⟩) [1] 1))] #[(sv (some ⟨g19, 0, none⟩) [(Frac.mk 0 1), (Frac.mk 1 1), (Frac.mk 2 1)] 3), (sv (some ⟨g23, 0, none⟩) [(Frac.mk 0 1)] 1), (sv (some ⟨g27, 0, none⟩) [(Frac.mk 2 1)] 1), (sv (some ⟨g31, 0, none⟩) [2] 1), (sv (some ⟨g35, 0, none⟩) [1] 1)] (fun fb => by kernel_rfl) (by kernel_rfl) rfl [1, 2, 3, 4, 5, 6, 7] (by decide) (by decide) (fun w42 hS43 => ?_)
 refine ⟨trivial, ?_⟩
 refine WL.done rfl (WX.next (WC.seq (WC.region ?_)))
 refine seg 2 [.v (sv (some ⟨g19, 0, none⟩) [(Frac.mk 0 1), (Frac.mk 1 1), (Frac.mk 2 1)] 3), .v (sv (some ⟨g23, 0, none⟩) [(Frac.mk 0 1)] 1), .v (sv (some ⟨g27, 0, none⟩) [(Frac.mk 2 1)] 1), .v (sv (some ⟨g31, 0, none⟩) [2] 1), .v (sv (some ⟨g35, 0, none⟩) [1] 1)] [1, 3, 5, 33, 34] [(1, (sv A9 t3.1 c11)), (3, (sv A17 t12.1 c18)), (5, (pt g39)), (33, (sv A9 t3.1 c11)), (34, (.agg #[(sv (some ⟨g19, 0, none⟩) [(Frac.mk 0 1), (Frac.mk 1 1), (Frac.mk 2 1)] 3), (sv (some ⟨g23, 0, none⟩) [(Frac.mk 0 1)] 1), (sv (some ⟨g27, 0, none⟩) [(Frac.mk 2 1)] 1), (sv (some ⟨g31, 0, none⟩) [2] 1), (sv (some ⟨g35, 0, none⟩) [1] 1)]))] [.cell ⟨g39, 0, none⟩ (sv (some ⟨g19, 0, none⟩) [(Frac.mk 0 1), (Frac.mk 1 1), (Frac.mk 2 1)] 3), .cell ⟨g39, 1, none⟩ (sv (some ⟨g23, 0, none⟩) [(Frac.mk 0 1)] 1), .cell ⟨g39, 2, none⟩ (sv (some ⟨g27, 0, none⟩) [(Frac.mk 2 1)] 1), .cell ⟨g39, 3, none⟩ (sv (some ⟨g31, 0, none⟩) [2] 1), .cell ⟨g39, 4, none⟩ (sv (some ⟨g35, 0, none⟩) [1] 1)] (fun fb => by kernel_rfl) rfl ⟨hS43.cell 0 rfl 0 rfl, hS43.cell 0 rfl 1 rfl, hS43.cell 0 rfl 2 rfl, hS43.cell 0 rfl 3 rfl, hS43.cell 0 rfl 4 rfl, trivial⟩ ?_
 obtain ⟨t44, ht45, hf⟩ := bind_some hf
 refine WL.call (some 35) 11 #[(sv A9 t3.1 c11), (.agg #[(sv (some ⟨g19, 0, none⟩) [(Frac.mk 0 1), (Frac.mk 1 1), (Frac.mk 2 1)] 3), (sv (some ⟨g23, 0, none⟩) [(Frac.mk 0 1)] 1), (sv (some ⟨g27, 0, none⟩) [(Frac.mk 2 1)] 1), (sv (some ⟨g31, 0, none⟩) [2] 1), (sv (some ⟨g35, 0, none⟩) [1] 1)])] (fun fb => by kernel_rfl) (weight_Check_calls _ t3.1 (Weights.mk [(Frac.mk 0 1), (Frac.mk 1 1), (Frac.mk 2 1)] [(Frac.mk 0 1)] [(Frac.mk 2 1)] [2] [1]) A9 c11 (some ⟨g19, 0, none⟩) 3 (some ⟨g23, 0, none⟩) 1 (some ⟨g27, 0, none⟩) 1 (some ⟨g31, 0, none⟩) 1 (some ⟨g35, 0, none⟩) 1 t44 _ (hS43.ow 7).ofO (hS43.ow 5).ofO (hS43.ow 4).ofO (hS43.ow 3).ofO (hS43.ow 2).ofO (hS43.ow 1).ofO (hS43.rd 0) ht45) (fun v w46 hR47 => ?_)
 obtain ⟨rfl, hk_⟩ := hR47
 have hS48 := hS43.keepN hk_
 refine ⟨trivial, ?_⟩
 refine sg 8 [] [1, 3, 5, 6, 7] [(1, (sv A9 t3.1 c11)), (3, (sv A17 t12.1 c18)), (5, (pt g39)), (6, (bv t44.1)), (7, (iv t44.2))] (by kernel_rfl) ?_
 refine WL.done rfl (WX.next (WC.seq (WC.region ?_)))
 refine seg 2 [.v (sv (some ⟨g19, 0, none⟩) [(Frac.mk 0 1), (Frac.mk 1 1), (Frac.mk 2 1)] 3), .v (sv (some ⟨g23, 0, none⟩) [(Frac.mk 0 1)] 1), .v (sv (some ⟨g27, 0, none⟩) [(Frac.mk 2 1)] 1), .v (sv (some ⟨g31, 0, none⟩) [2] 1), .v (sv (some ⟨g35, 0, none⟩) [1] 1)] [3, 5, 6, 7, 39, 40] [(3, (sv A17 t12.1 c18)), (5, (pt g39)), (6, (bv t44.1)), (7, (iv t44.2)), (39, (sv A9 t3.1 c11)), (40, (.agg #[(sv (some ⟨g19, 0, none⟩) [(Frac.mk 0 1), (Frac.mk 1 1), (Frac.mk 2 1)] 3), (sv (some ⟨g23, 0, none⟩) [(Frac.mk 0 1)] 1), (sv (some ⟨g27, 0, none⟩) [(Frac.mk 2 1)] 1), (sv (some ⟨g31, 0, none⟩) [2] 1), (sv (some ⟨g35, 0, none⟩) [1] 1)]))] [.cell ⟨g39, 0, none⟩ (sv (some ⟨g19, 0, none⟩) [(Frac.mk 0 1), (Frac.mk 1 1), (Frac.mk 2 1)] 3), .cell ⟨g39, 1, none⟩ (sv (some ⟨g23, 0, none⟩) [(Frac.mk 0 1)] 1), .cell ⟨g39, 2, none⟩ (sv (some ⟨g27, 0, none⟩) [(Frac.mk 2 1)] 1), .cell ⟨g39, 3, none⟩ (sv (some ⟨g31, 0, none⟩) [2] 1), .cell ⟨g39, 4, none⟩ (sv (some ⟨g35, 0, none⟩) [1] 1)] (fun fb => by kernel_rfl) rfl ⟨hS48.cell 0 rfl 0 rfl, hS48.cell 0 rfl 1 rfl, hS48.cell 0 rfl 2 rfl, hS48.cell 0 rfl 3 rfl, hS48.cell 0 rfl 4 rfl, trivial⟩ ?_
 refine WL.new hS48 41 [] (fun g => (.slice (some ⟨g, 0, none⟩) 3 3)) (.cells #[(iv 0), (iv 0), (iv 0)] 3 (0, 0)) [] (fun fb g => by kernel_rfl) trivial (fun g49 w50 hS51 => ?_)
 refine ⟨trivial, ?_⟩
 have hS52 := hS38.go w50 [rowO 3 encInt (some ⟨g49, 0, none⟩) 3 [0, 0, 0], blk g39 (.cells #[(sv (some ⟨g19, 0, none⟩) [(Frac.mk 0 1), (Frac.mk 1 1), (Frac.mk 2 1)] 3), (sv (some ⟨g23, 0, none⟩) [(Frac.mk 0 1)] 1), (sv (some ⟨g27, 0, none⟩) [(Frac.mk 2 1)] 1), (sv (some ⟨g31, 0, none⟩) [2] 1), (sv (some ⟨g35, 0, none⟩) [1] 1)] 26 (0, 0)), rowO 3 encInt (some ⟨g35, 0, none⟩) 1 [1], rowO 3 encInt (some ⟨g31, 0, none⟩) 1 [2], rowO 33 enc_Frac (some ⟨g27, 0, none⟩) 1 [(Frac.mk 2 1)], rowO 33 enc_Frac (some ⟨g23, 0, none⟩) 1 [(Frac.mk 0 1)], rowO 33 enc_Frac (some ⟨g19, 0, none⟩) 3 [(Frac.mk 0 1), (Frac.mk 1 1), (Frac.mk 2 1)], rowO 44 enc_Tile A17 c18 t12.1, rowO 44 enc_Tile A9 c11 t3.1] (hS51.map1 0 _ (fun h => rowO.ofBlk h rfl (Nat.le_of_ble_eq_true (by kernel_rfl))) (fun _ h => by obtain ⟨_, h1, h2⟩ := h; injection h1 with h1; subst h1; exact h2) [1, 2, 3, 4, 5, 6, 7, 8] (by decide) (by decide))
 obtain ⟨t53, ht54, hf⟩ := bind_some hf
 refine WL.call (some 42) 14 #[(sv A9 t3.1 c11), (.agg #[(sv (some ⟨g19, 0, none⟩) [(Frac.mk 0 1), (Frac.mk 1 1), (Frac.mk 2 1)] 3), (sv (some ⟨g23, 0, none⟩) [(Frac.mk 0 1)] 1), (sv (some ⟨g27, 0, none⟩) [(Frac.mk 2 1)] 1), (sv (some ⟨g31, 0, none⟩) [2] 1), (sv (some ⟨g35, 0, none⟩) [1] 1)]), (sv (some ⟨g49, 0, none⟩) [0, 0, 0] 3)] (fun fb => by kernel_rfl) (weight_Row_calls _ t3.1 (Weights.mk [(Frac.mk 0 1), (Frac.mk 1 1), (Frac.mk 2 1)] [(Frac.mk 0 1)] [(Frac.mk 2 1)] [2] [1]) [0, 0, 0] A9 c11 (some ⟨g19, 0, none⟩) 3 (some ⟨g23, 0, none⟩) 1 (some ⟨g27, 0, none⟩) 1 (some ⟨g31, 0, none⟩) 1 (some ⟨g35, 0, none⟩) 1 (some ⟨g49, 0, none⟩) 3 t53 _ (hS52.ow 8).ofO (hS52.ow 6).ofO (hS52.ow 5).ofO (hS52.ow 4).ofO (hS52.ow 3).ofO (hS52.ow 2).ofO (hS52.ow 0).ofO ht54) (fun v w55 hR56 => ?_)
 obtain ⟨rfl, hk_⟩ := hR56
 have hS57 := hS52.keepN hk_
 refine ⟨trivial, ?_⟩
 refine sg 8 [] [3, 5, 6, 7, 43, 44, 45] [(3, (sv A17 t12.1 c18)), (5, (pt g39)), (6, (bv t44.1)), (7, (iv t44.2)), (43, (.agg #[(iv t53.1.Num), (iv t53.1.Den)])), (44, (.agg #[(iv t53.2.1.Num), (iv t53.2.1.Den)])), (45, (iv t53.2.2))] (by kernel_rfl) ?_
 refine WL.new hS57 8 [] (fun g => (pt g)) (.cells #[(iv 0), (iv 0)] 33 (0, 0)) [] (fun fb g => by kernel_rfl) trivial (fun g58 w59 hS60 => ?_)
 refine ⟨trivial, ?_⟩
 refine WL.new hS60 9 [] (fun g => (pt g)) (.cells #[(iv 0), (iv 0)] 33 (0, 0)) [] (fun fb g => by kernel_rfl) trivial (fun g61 w62 hS63 => ?_)
 refine ⟨trivial, ?_⟩
 refine WL.store hS63 1 rfl [(0, (iv t53.1.Num)), (1, (iv t53.1.Den))] #[(iv t53.1.Num), (iv t53.1.Den)] (fun fb => by kernel_rfl) (by kernel_rfl) rfl [0, 2, 3, 4, 5, 6, 7, 8, 9, 10] (by decide) (by decide) (fun w65 hS66 => ?_)
 refine ⟨trivial, ?_⟩
 refine WL.store hS66 1 rfl [(0, (iv t53.2.1.Num)), (1, (iv t53.2.1.Den))] #[(iv t53.2.1.Num), (iv t53.2.1.Den)] (fun fb => by kernel_rfl) (by kernel_rfl) rfl [0, 2, 3, 4, 5, 6, 7, 8, 9, 10] (by decide) (by decide) (fun w67 hS68 => ?_)
 refine ⟨trivial, ?_⟩
 refine sg 13 [] [3, 5, 6, 7, 8, 9, 10] [(3, (sv A17 t12.1 c18)), (5, (pt g39)), (6, (bv t44.1)), (7, (iv t44.2)), (8, (pt g58)), (9, (pt g61)), (10, (iv t53.2.2))] (by kernel_rfl) ?_
 refine WL.done rfl (WX.next (WC.seq (WC.region ?_)))
 refine seg 2 [.v (sv (some ⟨g19, 0, none⟩) [(Frac.mk 0 1), (Frac.mk 1 1), (Frac.mk 2 1)] 3)] [3, 5, 6, 7, 8, 9, 10, 47] [(3, (sv A17 t12.1 c18)), (5, (pt g39)), (6, (bv t44.1)), (7, (iv t44.2)), (8, (pt g58)), (9, (pt g61)), (10, (iv t53.2.2)), (47, (sv (some ⟨g19, 0, none⟩) [(Frac.mk 0 1), (Frac.mk 1 1), (Frac.mk 2 1)] 3))] [.cell ⟨g39, 0, none⟩ (sv (some ⟨g19, 0, none⟩) [(Frac.mk 0 1), (Frac.mk 1 1), (Frac.mk 2 1)] 3)] (fun fb => by kernel_rfl) rfl ⟨hS68.cell 3 rfl 0 rfl, trivial⟩ ?_
 obtain ⟨h69, hf⟩ := as_some hf
 refine seg 3 [] [3, 5, 6, 7, 8, 9, 10, 48] [(3, (sv A17 t12.1 c18)), (5, (pt g39)), (6, (bv t44.1)), (7, (iv t44.2)), (8, (pt g58)), (9, (pt g61)), (10, (iv t53.2.2)), (48, (.slice (subA (some ⟨g19, 0, none⟩) 3 (0 : Int).toNat 2) ((2 : Int).toNat - (0 : Int).toNat) (3 - (0 : Int).toNat)))] [.idx (some ⟨0, 0, none⟩) (0 : Int) ((2 : Int).toNat + 1), .idx (some ⟨0, 0, none⟩) (2 : Int) (3 + 1)] (fun fb => by kernel_rfl) rfl ⟨cut1 h69.1 h69.2.1, cut2 h69.1 h69.2.1 h69.2.2 (rowO.rd (hS68.own 8).1).2, trivial⟩ ?_
 refine WL.reE [3, 5, 6, 7, 8, 9, 10, 48] [(3, (.slice A17 t12.1.length c18)), (5, (pt g39)), (6, (.bool t44.1)), (7, (iv t44.2)), (8, (pt g58)), (9, (pt g61)), (10, (iv t53.2.2)), (48, (.slice (subA (some ⟨g19, 0, none⟩) 3 (0 : Int).toNat 2) ((2 : Int).toNat - (0 : Int).toNat) (3 - (0 : Int).toNat)))] [(3, (.slice A17 t12.1.length c18)), (5, (pt g39)), (6, (.bool t44.1)), (7, (iv t44.2)), (8, (pt g58)), (9, (pt g61)), (10, (iv t53.2.2)), (48, (.slice (subA (some ⟨g19, 0, none⟩) 3 (0 : Int).toNat 2) (cut [(Frac.mk 0 1), (Frac.mk 1 1), (Frac.mk 2 1)] (0 : Int) (2 : Int)).length (3 - (0 : Int).toNat)))] rfl (by rw [cut_length h69.1 h69.2.1 h69.2.2]) ?_
 refine sg 4 [] [3, 5, 6, 7, 8, 9, 10, 48, 49] [(3, (sv A17 t12.1 c18)), (5, (pt g39)), (6, (bv t44.1)), (7, (iv t44.2)), (8, (pt g58)), (9, (pt g61)), (10, (iv t53.2.2)), (48, (sv (subA (some ⟨g19, 0, none⟩) 3 (0 : Int).toNat 2) (cut [(Frac.mk 0 1), (Frac.mk 1 1), (Frac.mk 2 1)] (0 : Int) (2 : Int)) (3 - (0 : Int).toNat))), (49, (pt g39))] (by kernel_rfl) ?_
 refine WL.store hS68 3 rfl [(0, (sv (subA (some ⟨g19, 0, none⟩) 3 (0 : Int).toNat 2) (cut [(Frac.mk 0 1), (Frac.mk 1 1), (Frac.mk 2 1)] (0 : Int) (2 : Int)) (3 - (0 : Int).toNat)))] #[(sv (subA (some ⟨g19, 0, none⟩) 3 (0 : Int).toNat 2) (cut [(Frac.mk 0 1), (Frac.mk 1 1), (Frac.mk 2 1)] (0 : Int) (2 : Int)) (3 - (0 : Int).toNat)), (sv (some ⟨g23, 0, none⟩) [(Frac.mk 0 1)] 1), (sv (some ⟨g27, 0, none⟩) [(Frac.mk 2 1)] 1), (sv (some ⟨g31, 0, none⟩) [2] 1), (sv (some ⟨g35, 0, none⟩) [1] 1)] (fun fb => by kernel_rfl) (by kernel_rfl) rfl [0, 1, 2, 4, 5, 6, 7, 8, 9, 10] (by decide) (by decide) (fun w70 hS71 => ?_)
 refine ⟨trivial, ?_⟩
 refine WL.done rfl (WX.next (WC.seq (WC.region ?_)))
 refine seg 2 [.v (sv (subA (some ⟨g19, 0, none⟩) 3 (0 : Int).toNat 2) (cut [(Frac.mk 0 1), (Frac.mk 1 1), (Frac.mk 2 1)] (0 : Int) (2 : Int)) (3 - (0 : Int).toNat)), .v (sv (some ⟨g23, 0, none⟩) [(Frac.mk 0 1)] 1), .v (sv (some ⟨g27, 0, none⟩) [(Frac.mk 2 1)] 1), .v (sv (some ⟨g31, 0, none⟩) [2] 1), .v (sv (some ⟨g35, 0, none⟩) [1] 1)] [3, 5, 6, 7, 8, 9, 10, 51, 52] [(3, (sv A17 t12.1 c18)), (5, (pt g39)), (6, (bv t44.1)), (7, (iv t44.2)), (8, (pt g58)), (9, (pt g61)), (10, (iv t53.2.2)), (51, (sv A17 t12.1 c18)), (52, (.agg #[(sv (subA (some ⟨g19, 0, none⟩) 3 (0 : Int).toNat 2) (cut [(Frac.mk 0 1), (Frac.mk 1 1), (Frac.mk 2 1)] (0 : Int) (2 : Int)) (3 - (0 : Int).toNat)), (sv (some ⟨g23, 0, none⟩) [(Frac.mk 0 1)] 1), (sv (some ⟨g27, 0, none⟩) [(Frac.mk 2 1)] 1), (sv (some ⟨g31, 0, none⟩) [2] 1), (sv (some ⟨g35, 0, none⟩) [1] 1)]))] [.cell ⟨g39, 0, none⟩ (sv (subA (some ⟨g19, 0, none⟩) 3 (0 : Int).toNat 2) (cut [(Frac.mk 0 1), (Frac.mk 1 1), (Frac.mk 2 1)] (0 : Int) (2 : Int)) (3 - (0 : Int).toNat)), .cell ⟨g39, 1, none⟩ (sv (some ⟨g23, 0, none⟩) [(Frac.mk 0 1)] 1), .cell ⟨g39, 2, none⟩ (sv (some ⟨g27, 0, none⟩) [(Frac.mk 2 1)] 1), .cell ⟨g39, 3, none⟩ (sv (some ⟨g31, 0, none⟩) [2] 1), .cell ⟨g39, 4, none⟩ (sv (some ⟨g35, 0, none⟩) [1] 1)] (fun fb => by kernel_rfl) rfl ⟨hS71.cell 0 rfl 0 rfl, hS71.cell 0 rfl 1 rfl, hS71.cell 0 rfl 2 rfl, hS71.cell 0 rfl 3 rfl, hS71.cell 0 rfl 4 rfl, trivial⟩ ?_
 obtain ⟨t72, ht73, hf⟩ := bind_some hf
 refine WL.call (some 53) 11 #[(sv A17 t12.1 c18), (.agg #[(sv (subA (some ⟨g19, 0, none⟩) 3 (0 : Int).toNat 2) (cut [(Frac.mk 0 1), (Frac.mk 1 1), (Frac.mk 2 1)] (0 : Int) (2 : Int)) (3 - (0 : Int).toNat)), (sv (some ⟨g23, 0, none⟩) [(Frac.mk 0 1)] 1), (sv (some ⟨g27, 0, none⟩) [(Frac.mk 2 1)] 1), (sv (some ⟨g31, 0, none⟩) [2] 1), (sv (some ⟨g35, 0, none⟩) [1] 1)])] (fun fb => by kernel_rfl) (weight_Check_calls _ t12.1 (Weights.mk (cut [(Frac.mk 0 1), (Frac.mk 1 1), (Frac.mk 2 1)] (0 : Int) (2 : Int)) [(Frac.mk 0 1)] [(Frac.mk 2 1)] [2] [1]) A17 c18 (subA (some ⟨g19, 0, none⟩) 3 (0 : Int).toNat 2) (3 - (0 : Int).toNat) (some ⟨g23, 0, none⟩) 1 (some ⟨g27, 0, none⟩) 1 (some ⟨g31, 0, none⟩) 1 (some ⟨g35, 0, none⟩) 1 t72 _ (hS71.ow 9).ofO (cutR (((hS71.ow 8)).ofO) h69.1 h69.2.1 h69.2.2) (hS71.ow 7).ofO (hS71.ow 6).ofO (hS71.ow 5).ofO (hS71.ow 4).ofO (hS71.rd 0) ht73) (fun v w74 hR75 => ?_)
 obtain ⟨rfl, hk_⟩ := hR75
 have hS76 := hS71.keepN hk_
 refine ⟨trivial, ?_⟩
 refine sg 8 [] [3, 5, 6, 7, 8, 9, 10, 11, 12] [(3, (sv A17 t12.1 c18)), (5, (pt g39)), (6, (bv t44.1)), (7, (iv t44.2)), (8, (pt g58)), (9, (pt g61)), (10, (iv t53.2.2)), (11, (bv t72.1)), (12, (iv t72.2))] (by kernel_rfl) ?_
 refine WL.done rfl (WX.next (WC.seq (WC.region ?_)))
 refine sg 3 [] [3, 5, 6, 8, 9, 10, 11, 12, 58] [(3, (sv A17 t12.1 c18)), (5, (pt g39)), (6, (bv t44.1)), (8, (pt g58)), (9, (pt g61)), (10, (iv t53.2.2)), (11, (bv t72.1)), (12, (iv t72.2)), (58, (bv (t44.2 == 0)))] (by kernel_rfl) ?_
 refine WL.cutV (T := Bool) 6 (fun t => [(61, (bv t)), (3, (sv A17 t12.1 c18)), (5, (pt g39)), (6, (bv t44.1)), (8, (pt g58)), (9, (pt g61)), (11, (bv t72.1)), (12, (iv t72.2))]) (fun t => ((t44.2 == 0) && (t53.2.2 == 0)) = t) (fun K => ?_) ?_
 ·
  rcases Bool.eq_false_or_eq_true (t44.2 == 0) with h77 | h77
  ·
   refine WL.setB 58 h77 rfl ?_
   refine sg 6 [] [3, 5, 6, 8, 9, 11, 12, 61] [(3, (sv A17 t12.1 c18)), (5, (pt g39)), (6, (bv t44.1)), (8, (pt g58)), (9, (pt g61)), (11, (bv t72.1)), (12, (iv t72.2)), (61, (bv (t53.2.2 == 0)))] (by kernel_rfl) ?_
   exact WL.toV K (t53.2.2 == 0) [61, 3, 5, 6, 8, 9, 11, 12] rfl (by first | (rw [h77]; done) | (rw [h77]; rfl))
  refine WL.setB 58 h77 rfl ?_
  refine sg 6 [] [3, 5, 6, 8, 9, 11, 12, 61] [(3, (sv A17 t12.1 c18)), (5, (pt g39)), (6, (bv t44.1)), (8, (pt g58)), (9, (pt g61)), (11, (bv t72.1)), (12, (iv t72.2)), (61, (bv false))] (by kernel_rfl) ?_
  exact WL.toV K false [61, 3, 5, 6, 8, 9, 11, 12] rfl (by first | (rw [h77]; done) | (rw [h77]; rfl))
 rintro b78 rfl
 refine sg 7 [] [3, 5, 6, 8, 9, 11, 12, 62] [(3, (sv A17 t12.1 c18)), (5, (pt g39)), (6, (bv t44.1)), (8, (pt g58)), (9, (pt g61)), (11, (bv t72.1)), (12, (iv t72.2)), (62, (bv ((t44.2 == 0) && (t53.2.2 == 0))))] (by kernel_rfl) ?_
 refine WL.cutV (T := Bool) 10 (fun t => [(65, (bv t)), (3, (sv A17 t12.1 c18)), (5, (pt g39)), (6, (bv t44.1)), (8, (pt g58)), (9, (pt g61)), (11, (bv t72.1))]) (fun t => (((t44.2 == 0) && (t53.2.2 == 0)) && (t72.2 == 0)) = t) (fun K => ?_) ?_
 ·
  rcases Bool.eq_false_or_eq_true ((t44.2 == 0) && (t53.2.2 == 0)) with h79 | h79
  ·
   refine WL.setB 62 h79 rfl ?_
   refine sg 10 [] [3, 5, 6, 8, 9, 11, 65] [(3, (sv A17 t12.1 c18)), (5, (pt g39)), (6, (bv t44.1)), (8, (pt g58)), (9, (pt g61)), (11, (bv t72.1)), (65, (bv (t72.2 == 0)))] (by kernel_rfl) ?_
   exact WL.toV K (t72.2 == 0) [65, 3, 5, 6, 8, 9, 11] rfl (by first | (rw [h79]; done) | (rw [h79]; rfl))
  refine WL.setB 62 h79 rfl ?_
  refine sg 10 [] [3, 5, 6, 8, 9, 11, 65] [(3, (sv A17 t12.1 c18)), (5, (pt g39)), (6, (bv t44.1)), (8, (pt g58)), (9, (pt g61)), (11, (bv t72.1)), (65, (bv false))] (by kernel_rfl) ?_
  exact WL.toV K false [65, 3, 5, 6, 8, 9, 11] rfl (by first | (rw [h79]; done) | (rw [h79]; rfl))
 rintro b80 rfl
 refine sg 11 [] [3, 5, 6, 8, 9, 11, 66] [(3, (sv A17 t12.1 c18)), (5, (pt g39)), (6, (bv t44.1)), (8, (pt g58)), (9, (pt g61)), (11, (bv t72.1)), (66, (bv (((t44.2 == 0) && (t53.2.2 == 0)) && (t72.2 == 0))))] (by kernel_rfl) ?_
 refine WL.cutV (T := Bool) 13 (fun t => [(68, (bv t)), (3, (sv A17 t12.1 c18)), (5, (pt g39)), (8, (pt g58)), (9, (pt g61)), (11, (bv t72.1))]) (fun t => ((((t44.2 == 0) && (t53.2.2 == 0)) && (t72.2 == 0)) && t44.1) = t) (fun K => ?_) ?_
 ·
  rcases Bool.eq_false_or_eq_true (((t44.2 == 0) && (t53.2.2 == 0)) && (t72.2 == 0)) with h81 | h81
  ·
   refine WL.setB 66 h81 rfl ?_
   refine sg 13 [] [3, 5, 8, 9, 11, 68] [(3, (sv A17 t12.1 c18)), (5, (pt g39)), (8, (pt g58)), (9, (pt g61)), (11, (bv t72.1)), (68, (bv t44.1))] (by kernel_rfl) ?_
   exact WL.toV K t44.1 [68, 3, 5, 8, 9, 11] rfl (by first | (rw [h81]; done) | (rw [h81]; rfl))
  refine WL.setB 66 h81 rfl ?_
  refine sg 13 [] [3, 5, 8, 9, 11, 68] [(3, (sv A17 t12.1 c18)), (5, (pt g39)), (8, (pt g58)), (9, (pt g61)), (11, (bv t72.1)), (68, (bv false))] (by kernel_rfl) ?_
  exact WL.toV K false [68, 3, 5, 8, 9, 11] rfl (by first | (rw [h81]; done) | (rw [h81]; rfl))
 rintro b82 rfl
 refine sg 14 [] [3, 5, 8, 9, 11, 69] [(3, (sv A17 t12.1 c18)), (5, (pt g39)), (8, (pt g58)), (9, (pt g61)), (11, (bv t72.1)), (69, (bv ((((t44.2 == 0) && (t53.2.2 == 0)) && (t72.2 == 0)) && t44.1)))] (by kernel_rfl) ?_
 refine WL.cutV (T := Bool) 17 (fun t => [(72, (bv t)), (3, (sv A17 t12.1 c18)), (5, (pt g39)), (8, (pt g58)), (9, (pt g61))]) (fun t => (((((t44.2 == 0) && (t53.2.2 == 0)) && (t72.2 == 0)) && t44.1) && (!t72.1)) = t) (fun K => ?_) ?_
 ·
  rcases Bool.eq_false_or_eq_true ((((t44.2 == 0) && (t53.2.2 == 0)) && (t72.2 == 0)) && t44.1) with h83 | h83
  ·
   refine WL.setB 69 h83 rfl ?_
   refine sg 17 [] [3, 5, 8, 9, 72] [(3, (sv A17 t12.1 c18)), (5, (pt g39)), (8, (pt g58)), (9, (pt g61)), (72, (bv (!t72.1)))] (by kernel_rfl) ?_
   exact WL.toV K (!t72.1) [72, 3, 5, 8, 9] rfl (by first | (rw [h83]; done) | (rw [h83]; rfl))
  refine WL.setB 69 h83 rfl ?_
  refine sg 17 [] [3, 5, 8, 9, 72] [(3, (sv A17 t12.1 c18)), (5, (pt g39)), (8, (pt g58)), (9, (pt g61)), (72, (bv false))] (by kernel_rfl) ?_
  exact WL.toV K false [72, 3, 5, 8, 9] rfl (by first | (rw [h83]; done) | (rw [h83]; rfl))
 rintro b84 rfl
 refine sg 18 [] [3, 5, 8, 9, 73] [(3, (sv A17 t12.1 c18)), (5, (pt g39)), (8, (pt g58)), (9, (pt g61)), (73, (bv (((((t44.2 == 0) && (t53.2.2 == 0)) && (t72.2 == 0)) && t44.1) && (!t72.1))))] (by kernel_rfl) ?_
 refine WL.cutV (T := Bool) 22 (fun t => [(77, (bv t)), (3, (sv A17 t12.1 c18)), (5, (pt g39)), (9, (pt g61))]) (fun t => ((((((t44.2 == 0) && (t53.2.2 == 0)) && (t72.2 == 0)) && t44.1) && (!t72.1)) && (t53.1.Num == 3 && (t53.1.Den == 1))) = t) (fun K => ?_) ?_
 ·
  rcases Bool.eq_false_or_eq_true (((((t44.2 == 0) && (t53.2.2 == 0)) && (t72.2 == 0)) && t44.1) && (!t72.1)) with h85 | h85
  ·
   refine WL.setB 73 h85 rfl ?_
   refine seg 22 [.v (iv t53.1.Num), .v (iv t53.1.Den)] [3, 5, 9, 77] [(3, (sv A17 t12.1 c18)), (5, (pt g39)), (9, (pt g61)), (77, (bv (t53.1.Num == 3 && (t53.1.Den == 1))))] [.cell ⟨g58, 0, none⟩ (iv t53.1.Num), .cell ⟨g58, 1, none⟩ (iv t53.1.Den)] (fun fb => by kernel_rfl) rfl ⟨hS76.cell 2 rfl 0 rfl, hS76.cell 2 rfl 1 rfl, trivial⟩ ?_
   exact WL.toV K (t53.1.Num == 3 && (t53.1.Den == 1)) [77, 3, 5, 9] rfl (by first | (rw [h85]; done) | (rw [h85]; rfl))
  refine WL.setB 73 h85 rfl ?_
  refine sg 22 [] [3, 5, 9, 77] [(3, (sv A17 t12.1 c18)), (5, (pt g39)), (9, (pt g61)), (77, (bv false))] (by kernel_rfl) ?_
  exact WL.toV K false [77, 3, 5, 9] rfl (by first | (rw [h85]; done) | (rw [h85]; rfl))
 rintro b86 rfl
 refine sg 23 [] [3, 5, 9, 78] [(3, (sv A17 t12.1 c18)), (5, (pt g39)), (9, (pt g61)), (78, (bv ((((((t44.2 == 0) && (t53.2.2 == 0)) && (t72.2 == 0)) && t44.1) && (!t72.1)) && (t53.1.Num == 3 && (t53.1.Den == 1)))))] (by kernel_rfl) ?_
 refine WL.cutV (T := Bool) 27 (fun t => [(82, (bv t)), (3, (sv A17 t12.1 c18)), (5, (pt g39))]) (fun t => (((((((t44.2 == 0) && (t53.2.2 == 0)) && (t72.2 == 0)) && t44.1) && (!t72.1)) && (t53.1.Num == 3 && (t53.1.Den == 1))) && (t53.2.1.Num == 6 && (t53.2.1.Den == 1))) = t) (fun K => ?_) ?_
 ·
  rcases Bool.eq_false_or_eq_true ((((((t44.2 == 0) && (t53.2.2 == 0)) && (t72.2 == 0)) && t44.1) && (!t72.1)) && (t53.1.Num == 3 && (t53.1.Den == 1))) with h87 | h87
  ·
   refine WL.setB 78 h87 rfl ?_
   refine seg 27 [.v (iv t53.2.1.Num), .v (iv t53.2.1.Den)] [3, 5, 82] [(3, (sv A17 t12.1 c18)), (5, (pt g39)), (82, (bv (t53.2.1.Num == 6 && (t53.2.1.Den == 1))))] [.cell ⟨g61, 0, none⟩ (iv t53.2.1.Num), .cell ⟨g61, 1, none⟩ (iv t53.2.1.Den)] (fun fb => by kernel_rfl) rfl ⟨hS76.cell 1 rfl 0 rfl, hS76.cell 1 rfl 1 rfl, trivial⟩ ?_
   exact WL.toV K (t53.2.1.Num == 6 && (t53.2.1.Den == 1)) [82, 3, 5] rfl (by first | (rw [h87]; done) | (rw [h87]; rfl))
  refine WL.setB 78 h87 rfl ?_
  refine sg 27 [] [3, 5, 82] [(3, (sv A17 t12.1 c18)), (5, (pt g39)), (82, (bv false))] (by kernel_rfl) ?_
  exact WL.toV K false [82, 3, 5] rfl (by first | (rw [h87]; done) | (rw [h87]; rfl))
 rintro b88 rfl
 refine sg 28 [] [3, 5, 83] [(3, (sv A17 t12.1 c18)), (5, (pt g39)), (83, (bv (((((((t44.2 == 0) && (t53.2.2 == 0)) && (t72.2 == 0)) && t44.1) && (!t72.1)) && (t53.1.Num == 3 && (t53.1.Den == 1))) && (t53.2.1.Num == 6 && (t53.2.1.Den == 1)))))] (by kernel_rfl) ?_
 obtain ⟨x89, hx90, hf⟩ := bind_some hf
 refine WL.cutW (T := Bool) 32 (fun t => [(87, (bv t))]) (fun t w1 => (St NoS w w1 [tabO 0 md0, gloO Tryz.prog 5 8 3 4 mG] [] ∧ x89 = t) ∧ CellsOK [] w1) (fun K => ?_) ?_
 ·
  rcases br_some hx90 with ⟨h91, hx90⟩ | ⟨h91, hx90⟩
  ·
   refine WL.setB 83 h91 rfl ?_
   refine seg 30 [.v (sv (subA (some ⟨g19, 0, none⟩) 3 (0 : Int).toNat 2) (cut [(Frac.mk 0 1), (Frac.mk 1 1), (Frac.mk 2 1)] (0 : Int) (2 : Int)) (3 - (0 : Int).toNat)), .v (sv (some ⟨g23, 0, none⟩) [(Frac.mk 0 1)] 1), .v (sv (some ⟨g27, 0, none⟩) [(Frac.mk 2 1)] 1), .v (sv (some ⟨g31, 0, none⟩) [2] 1), .v (sv (some ⟨g35, 0, none⟩) [1] 1)] [83, 84, 85] [(83, (bv true)), (84, (sv A17 t12.1 c18)), (85, (.agg #[(sv (subA (some ⟨g19, 0, none⟩) 3 (0 : Int).toNat 2) (cut [(Frac.mk 0 1), (Frac.mk 1 1), (Frac.mk 2 1)] (0 : Int) (2 : Int)) (3 - (0 : Int).toNat)), (sv (some ⟨g23, 0, none⟩) [(Frac.mk 0 1)] 1), (sv (some ⟨g27, 0, none⟩) [(Frac.mk 2 1)] 1), (sv (some ⟨g31, 0, none⟩) [2] 1), (sv (some ⟨g35, 0, none⟩) [1] 1)]))] [.cell ⟨g39, 0, none⟩ (sv (subA (some ⟨g19, 0, none⟩) 3 (0 : Int).toNat 2) (cut [(Frac.mk 0 1), (Frac.mk 1 1), (Frac.mk 2 1)] (0 : Int) (2 : Int)) (3 - (0 : Int).toNat)), .cell ⟨g39, 1, none⟩ (sv (some ⟨g23, 0, none⟩) [(Frac.mk 0 1)] 1), .cell ⟨g39, 2, none⟩ (sv (some ⟨g27, 0, none⟩) [(Frac.mk 2 1)] 1), .cell ⟨g39, 3, none⟩ (sv (some ⟨g31, 0, none⟩) [2] 1), .cell ⟨g39, 4, none⟩ (sv (some ⟨g35, 0, none⟩) [1] 1)] (fun fb => by kernel_rfl) rfl ⟨hS76.cell 0 rfl 0 rfl, hS76.cell 0 rfl 1 rfl, hS76.cell 0 rfl 2 rfl, hS76.cell 0 rfl 3 rfl, hS76.cell 0 rfl 4 rfl, trivial⟩ ?_
   obtain ⟨t92, ht93, hx90⟩ := bind_some hx90
   refine WL.call (some 86) 12 #[(sv A17 t12.1 c18), (.agg #[(sv (subA (some ⟨g19, 0, none⟩) 3 (0 : Int).toNat 2) (cut [(Frac.mk 0 1), (Frac.mk 1 1), (Frac.mk 2 1)] (0 : Int) (2 : Int)) (3 - (0 : Int).toNat)), (sv (some ⟨g23, 0, none⟩) [(Frac.mk 0 1)] 1), (sv (some ⟨g27, 0, none⟩) [(Frac.mk 2 1)] 1), (sv (some ⟨g31, 0, none⟩) [2] 1), (sv (some ⟨g35, 0, none⟩) [1] 1)])] (fun fb => by kernel_rfl) (weight_Valid_calls _ t12.1 (Weights.mk (cut [(Frac.mk 0 1), (Frac.mk 1 1), (Frac.mk 2 1)] (0 : Int) (2 : Int)) [(Frac.mk 0 1)] [(Frac.mk 2 1)] [2] [1]) A17 c18 (subA (some ⟨g19, 0, none⟩) 3 (0 : Int).toNat 2) (3 - (0 : Int).toNat) (some ⟨g23, 0, none⟩) 1 (some ⟨g27, 0, none⟩) 1 (some ⟨g31, 0, none⟩) 1 (some ⟨g35, 0, none⟩) 1 t92 _ (hS76.ow 9).ofO (cutR (((hS76.ow 8)).ofO) h69.1 h69.2.1 h69.2.2) (hS76.ow 7).ofO (hS76.ow 6).ofO (hS76.ow 5).ofO (hS76.ow 4).ofO ht93) (fun v w94 hR95 => ?_)
   obtain ⟨rfl, hk_⟩ := hR95
   have hS96 := hS76.keepN hk_
   refine ⟨trivial, ?_⟩
   refine sg 32 [] [87] [(87, (bv t92))] (by kernel_rfl) ?_
   injection hx90 with hx90
   exact WL.to K t92 [87] rfl ⟨⟨(hS96.subR [0, 1]).sub [] (by decide), hx90.symm⟩, trivial⟩
  refine WL.setB 83 h91 rfl ?_
  refine sg 32 [] [87] [(87, (bv false))] (by kernel_rfl) ?_
  injection hx90 with hx90
  exact WL.to K false [87] rfl ⟨⟨(hS76.subR [0, 1]).sub [] (by decide), hx90.symm⟩, trivial⟩
 rintro y97 w99 ⟨⟨hS100, hq98⟩, hF101⟩
 subst hq98
 refine sg 33 [] [0] [(0, (bv x89))] (by kernel_rfl) ?_
 refine WL.done rfl (WX.next ?_)
 refine WC.ret ?_
 injection hf with hf
 subst hf
 exact WX.ret_ [] (bv x89) [] (fun fb => by kernel_rfl) trivial ⟨_, rfl, rfl, hS100.keep⟩
theorem ref06_valid_calls (p0 : Frac)  (r : Bool) (w : World)  (hf : ref06_valid p0 = some r) :
  CallsR Tryz.prog 53 #[(.agg #[(iv p0.Num), (iv p0.Den)])] w (fun v w' => v = (bv r) ∧ Keeps NoS w w') := by
 have hS : St NoS w w [] [] := St.init (ro_nil _ _)
 refine enter 21 Tryz.func53 rfl Tryz.ntmps53 rfl ?_
 unfold ref06_valid at hf
 refine WC.seq (WC.region ?_)
 refine WL.new hS 1 [] (fun g => (pt g)) (.cells #[(iv p0.Num), (iv p0.Den)] 33 (0, 0)) [] (fun fb g => by kernel_rfl) trivial (fun g1 w2 hS3 => ?_)
 refine ⟨trivial, ?_⟩
 refine sg 2 [] [1] [(1, (pt g1))] (by kernel_rfl) ?_
 refine WL.done rfl (WX.next (WC.seq (WC.region ?_)))
 refine seg 4 [.v (iv p0.Den)] [1, 6] [(1, (pt g1)), (6, (bv (decide (p0.Den ≥ 1))))] [.cell ⟨g1, 1, none⟩ (iv p0.Den)] (fun fb => by kernel_rfl) rfl ⟨hS3.cell 0 rfl 1 rfl, trivial⟩ ?_
 refine WL.cutV (T := Bool) 8 (fun t => [(10, (bv t)), (1, (pt g1))]) (fun t => ((decide (p0.Den ≥ 1)) && (decide (p0.Den ≤ 1000000))) = t) (fun K => ?_) ?_
 ·
  rcases Bool.eq_false_or_eq_true (decide (p0.Den ≥ 1)) with h4 | h4
  ·
   refine WL.setB 6 h4 rfl ?_
   refine seg 8 [.v (iv p0.Den)] [1, 10] [(1, (pt g1)), (10, (bv (decide (p0.Den ≤ 1000000))))] [.cell ⟨g1, 1, none⟩ (iv p0.Den)] (fun fb => by kernel_rfl) rfl ⟨hS3.cell 0 rfl 1 rfl, trivial⟩ ?_
   exact WL.toV K (decide (p0.Den ≤ 1000000)) [10, 1] rfl (by first | (rw [h4]; done) | (rw [h4]; rfl))
  refine WL.setB 6 h4 rfl ?_
  refine sg 8 [] [1, 10] [(1, (pt g1)), (10, (bv false))] (by kernel_rfl) ?_
  exact WL.toV K false [10, 1] rfl (by first | (rw [h4]; done) | (rw [h4]; rfl))
 rintro b5 rfl
 refine sg 9 [] [1, 11] [(1, (pt g1)), (11, (bv ((decide (p0.Den ≥ 1)) && (decide (p0.Den ≤ 1000000)))))] (by kernel_rfl) ?_
 refine WL.cutV (T := Bool) 13 (fun t => [(15, (bv t)), (1, (pt g1))]) (fun t => (((decide (p0.Den ≥ 1)) && (decide (p0.Den ≤ 1000000))) && (decide (p0.Num ≥ (-1000000)))) = t) (fun K => ?_) ?_
 ·
  rcases Bool.eq_false_or_eq_true ((decide (p0.Den ≥ 1)) && (decide (p0.Den ≤ 1000000))) with h7 | h7
  ·
   refine WL.setB 11 h7 rfl ?_
   refine seg 13 [.v (iv p0.Num)] [1, 15] [(1, (pt g1)), (15, (bv (decide (p0.Num ≥ (-1000000)))))] [.cell ⟨g1, 0, none⟩ (iv p0.Num)] (fun fb => by kernel_rfl) rfl ⟨hS3.cell 0 rfl 0 rfl, trivial⟩ ?_
   exact WL.toV K (decide (p0.Num ≥ (-1000000))) [15, 1] rfl (by first | (rw [h7]; done) | (rw [h7]; rfl))
  refine WL.setB 11 h7 rfl ?_
  refine sg 13 [] [1, 15] [(1, (pt g1)), (15, (bv false))] (by kernel_rfl) ?_
  exact WL.toV K false [15, 1] rfl (by first | (rw [h7]; done) | (rw [h7]; rfl))
 rintro b8 rfl
 refine sg 14 [] [1, 16] [(1, (pt g1)), (16, (bv (((decide (p0.Den ≥ 1)) && (decide (p0.Den ≤ 1000000))) && (decide (p0.Num ≥ (-1000000))))))] (by kernel_rfl) ?_
 refine WL.cutV (T := Bool) 18 (fun t => [(20, (bv t))]) (fun t => ((((decide (p0.Den ≥ 1)) && (decide (p0.Den ≤ 1000000))) && (decide (p0.Num ≥ (-1000000)))) && (decide (p0.Num ≤ 1000000))) = t) (fun K => ?_) ?_
 ·
  rcases Bool.eq_false_or_eq_true (((decide (p0.Den ≥ 1)) && (decide (p0.Den ≤ 1000000))) && (decide (p0.Num ≥ (-1000000)))) with h9 | h9
  ·
   refine WL.setB 16 h9 rfl ?_
   refine seg 18 [.v (iv p0.Num)] [20] [(20, (bv (decide (p0.Num ≤ 1000000))))] [.cell ⟨g1, 0, none⟩ (iv p0.Num)] (fun fb => by kernel_rfl) rfl ⟨hS3.cell 0 rfl 0 rfl, trivial⟩ ?_
   exact WL.toV K (decide (p0.Num ≤ 1000000)) [20] rfl (by first | (rw [h9]; done) | (rw [h9]; rfl))
  refine WL.setB 16 h9 rfl ?_
  refine sg 18 [] [20] [(20, (bv false))] (by kernel_rfl) ?_
  exact WL.toV K false [20] rfl (by first | (rw [h9]; done) | (rw [h9]; rfl))
 rintro b10 rfl
 refine sg 19 [] [2] [(2, (bv ((((decide (p0.Den ≥ 1)) && (decide (p0.Den ≤ 1000000))) && (decide (p0.Num ≥ (-1000000)))) && (decide (p0.Num ≤ 1000000)))))] (by kernel_rfl) ?_
 refine WL.done rfl (WX.next ?_)
 refine WC.ret ?_
 injection hf with hf
 subst hf
 exact WX.ret_ [] (bv ((((decide (p0.Den ≥ 1)) && (decide (p0.Den ≤ 1000000))) && (decide (p0.Num ≥ (-1000000)))) && (decide (p0.Num ≤ 1000000)))) [] (fun fb => by kernel_rfl) trivial ⟨_, rfl, rfl, hS3.keep⟩
theorem ref06_Fits_calls (p0 : Frac)  (r : Bool) (w : World)  (hf : ref06_Fits p0 = some r) :
  CallsR Tryz.prog 18 #[(.agg #[(iv p0.Num), (iv p0.Den)])] w (fun v w' => v = (bv r) ∧ Keeps NoS w w') := by
 have hS : St NoS w w [] [] := St.init (ro_nil _ _)
 refine enter 5 Tryz.func18 rfl Tryz.ntmps18 rfl ?_
 unfold ref06_Fits at hf
 refine WC.seq (WC.region ?_)
 refine WL.new hS 1 [] (fun g => (pt g)) (.cells #[(iv p0.Num), (iv p0.Den)] 33 (0, 0)) [] (fun fb g => by kernel_rfl) trivial (fun g1 w2 hS3 => ?_)
 refine ⟨trivial, ?_⟩
 refine sg 2 [] [1] [(1, (pt g1))] (by kernel_rfl) ?_
 refine WL.done rfl (WX.next (WC.seq (WC.region ?_)))
 refine seg 1 [.v (iv p0.Num), .v (iv p0.Den)] [3] [(3, (.agg #[(iv p0.Num), (iv p0.Den)]))] [.cell ⟨g1, 0, none⟩ (iv p0.Num), .cell ⟨g1, 1, none⟩ (iv p0.Den)] (fun fb => by kernel_rfl) rfl ⟨hS3.cell 0 rfl 0 rfl, hS3.cell 0 rfl 1 rfl, trivial⟩ ?_
 obtain ⟨t4, ht5, hf⟩ := bind_some hf
 refine WL.call (some 4) 53 #[(.agg #[(iv p0.Num), (iv p0.Den)])] (fun fb => by kernel_rfl) (ref06_valid_calls p0 t4 _ ht5) (fun v w7 hR8 => ?_)
 obtain ⟨rfl, hk_⟩ := hR8
 have hS9 := hS3.keepN hk_
 refine ⟨trivial, ?_⟩
 refine sg 3 [] [2] [(2, (bv t4))] (by kernel_rfl) ?_
 refine WL.done rfl (WX.next ?_)
 refine WC.ret ?_
 injection hf with hf
 subst hf
 exact WX.ret_ [] (bv t4) [] (fun fb => by kernel_rfl) trivial ⟨_, rfl, rfl, hS9.keep⟩
theorem law06_WeightRows_calls (k : Nat) (p0 : List Tile) (p1 : Weights) (p2 : List Int) (Aa : Option Addr) (ca : Nat) (Ab : Option Addr) (cb : Nat) (Ac : Option Addr) (cc : Nat) (Ad : Option Addr) (cd : Nat) (Ae : Option Addr) (ce : Nat) (Af : Option Addr) (cf : Nat) (Ag : Option Addr) (cg : Nat) (mG : Glo) (r : Bool) (w : World) (hR0 : RO NoS w (rowR enc_Tile Aa ca p0)) (hR1 : RO NoS w (rowR enc_Frac Ab cb p1.Values)) (hR2 : RO NoS w (rowR enc_Frac Ac cc p1.Carries)) (hR3 : RO NoS w (rowR enc_Frac Ad cd p1.Factors)) (hR4 : RO NoS w (rowR encInt Ae ce p1.Primes)) (hR5 : RO NoS w (rowR encInt Af cf p1.Logs)) (hR6 : RO NoS w (rowR encInt Ag cg p2)) (hR7 : RO NoS w (tabO 0 md0)) (hR8 : RO NoS w (gloO Tryz.prog 5 8 3 4 mG)) (hf : law06_WeightRows k p0 p1 p2 = some r) :
  CallsR Tryz.prog 5 #[(sv Aa p0 ca), (.agg #[(sv Ab p1.Values cb), (sv Ac p1.Carries cc), (sv Ad p1.Factors cd), (sv Ae p1.Primes ce), (sv Af p1.Logs cf)]), (sv Ag p2 cg)] w (fun v w' => v = (bv r) ∧ Keeps NoS w w') := by
 have hS : St NoS w w [rowR enc_Tile Aa ca p0, rowR enc_Frac Ab cb p1.Values, rowR enc_Frac Ac cc p1.Carries, rowR enc_Frac Ad cd p1.Factors, rowR encInt Ae ce p1.Primes, rowR encInt Af cf p1.Logs, rowR encInt Ag cg p2, tabO 0 md0, gloO Tryz.prog 5 8 3 4 mG] [] := St.init (ro_cons hR0 (ro_cons hR1 (ro_cons hR2 (ro_cons hR3 (ro_cons hR4 (ro_cons hR5 (ro_cons hR6 (ro_cons hR7 (ro_cons hR8 (ro_nil _ _))))))))))
 refine enter 142 Tryz.func5 rfl Tryz.ntmps5 rfl ?_
 unfold law06_WeightRows at hf
 refine WC.seq (WC.region ?_)
 refine WL.new hS 4 [] (fun g => (pt g)) (.cells #[(sv Ab p1.Values cb), (sv Ac p1.Carries cc), (sv Ad p1.Factors cd), (sv Ae p1.Primes ce), (sv Af p1.Logs cf)] 26 (0, 0)) [] (fun fb g => by kernel_rfl) trivial (fun g1 w2 hS3 => ?_)
 refine ⟨trivial, ?_⟩
 refine sg 2 [] [0, 2, 4] [(0, (sv Aa p0 ca)), (2, (sv Ag p2 cg)), (4, (pt g1))] (by kernel_rfl) ?_
 refine WL.done rfl (WX.next (WC.seq (WC.seq ?_)))
 obtain ⟨x9, hx10, hf⟩ := bind_some hf
 let e1 : List Own := [rowR enc_Tile Aa ca p0, rowR enc_Frac Ab cb p1.Values, rowR enc_Frac Ac cc p1.Carries, rowR enc_Frac Ad cd p1.Factors, rowR encInt Ae ce p1.Primes, rowR encInt Af cf p1.Logs, rowR encInt Ag cg p2, tabO 0 md0, gloO Tryz.prog 5 8 3 4 mG]
 let e2 : Array Value := #[(sv Ab p1.Values cb), (sv Ac p1.Carries cc), (sv Ad p1.Factors cd), (sv Ae p1.Primes ce), (sv Af p1.Logs cf)]
 let e20 : List Nat := [0, 1, 2, 3, 4, 5, 6, 7, 8, 9, 10, 11, 12, 13, 14, 15, 16, 17, 18, 19]
 let e3 := [[], [0], [0, 1], [0, 1, 2], [0, 1, 2, 3], [0, 1, 2, 3], [0, 1, 2, 3, 4, 5], [0, 1, 2, 3, 4, 5, 6], [0, 1, 2, 3, 4, 5, 6, 7], [0, 1, 2, 3, 4, 5, 6, 7, 8], [0, 1, 2, 3, 4, 5, 6, 7, 8, 9], [0, 1, 2, 3, 4, 5, 6, 7, 8, 9, 10], [0, 1, 2, 3, 4, 5, 6, 7, 8, 9, 10, 11], [0, 1, 2, 3, 4, 5, 6, 7, 8, 9, 10, 11, 12], [0, 1, 2, 3, 4, 5, 6, 7, 8, 9, 10, 11, 12, 13], [0, 1, 2, 3, 4, 5, 6, 7, 8, 9, 10, 11, 12, 13], [0, 1, 2, 3, 4, 5, 6, 7, 8, 9, 10, 11, 12, 13, 14, 15], [0, 1, 2, 3, 4, 5, 6, 7, 8, 9, 10, 11, 12, 13, 14, 15, 16], [0, 1, 2, 3, 4, 5, 6, 7, 8, 9, 10, 11, 12, 13, 14, 15, 16, 17], [0, 1, 2, 3, 4, 5, 6, 7, 8, 9, 10, 11, 12, 13, 14, 15, 16, 17, 18], e20, e20, [0, 1, 2, 3, 4, 5, 6, 7, 8, 9, 10, 11, 12, 13, 14, 15, 16, 17, 18, 19, 21], [0, 1, 2, 3, 4, 5, 6, 7, 8, 9, 10, 11, 12, 13, 14, 15, 16, 17, 18, 19, 21, 22], [0, 1, 2, 3, 4, 5, 6, 7, 8, 9, 10, 11, 12, 13, 14, 15, 16, 17, 18, 19, 20, 21, 22, 23], [0, 1, 2, 3, 4, 5, 6, 7, 8, 9, 10, 11, 12, 13, 14, 15, 16, 17, 18, 19, 20, 21, 22, 23, 24], [0, 1, 2, 3, 4, 5, 6, 7, 8, 9, 10, 11, 12, 13, 14, 15, 16, 17, 18, 19, 20, 21, 22, 23, 24, 25], e20, e20, e20, [0, 1, 2, 3, 4, 5, 6, 7, 8, 9, 10, 11, 12, 13, 14, 15, 16, 17, 18, 19, 29], [0, 1, 2, 3, 4, 5, 6, 7, 8, 9, 10, 11, 12, 13, 14, 15, 16, 17, 18, 19, 29, 30], [0, 1, 2, 3, 4, 5, 6, 7, 8, 9, 10, 11, 12, 13, 14, 15, 16, 17, 18, 19, 28, 29, 30, 31], [0, 1, 2, 3, 4, 5, 6, 7, 8, 9, 10, 11, 12, 13, 14, 15, 16, 17, 18, 19, 28, 29, 30, 31, 32], [0, 1, 2, 3, 4, 5, 6, 7, 8, 9, 10, 11, 12, 13, 14, 15, 16, 17, 18, 19, 27, 28, 29, 30, 31, 32, 33], [0, 1, 2, 3, 4, 5, 6, 7, 8, 9, 10, 11, 12, 13, 14, 15, 16, 17, 18, 19, 27, 28, 29, 30, 31, 32, 33, 34], [0, 1, 2, 3, 4, 5, 6, 7, 8, 9, 10, 11, 12, 13, 14, 15, 16, 17, 18, 19, 27, 28, 29, 30, 31, 32, 33, 34, 35], [0, 1, 2, 3, 4, 5, 6, 7, 8, 9, 10, 11, 12, 13, 14, 15, 16, 17, 18, 19, 20, 21, 22, 23, 24, 25, 26, 27, 28, 29, 30, 31, 32, 33, 34, 35, 36], [0, 1, 2, 3, 4, 5, 6, 7, 8, 9, 10, 11, 12, 13, 14, 15, 16, 17, 18, 19, 20, 21, 22, 23, 24, 25, 26, 27, 28, 29, 30, 31, 32, 33, 34, 35, 36, 37]]
 let e4 := sv Aa p0 ca
 let e5 : Nat × Value := (2, (sv Ag p2 cg))
 let e6 := (w64 ((p2.length : Int) - 1))
 let e7 : List (Nat × Addr × Value) := [(5, ⟨g1, 0, none⟩, (sv Ab p1.Values cb)), (5, ⟨g1, 1, none⟩, (sv Ac p1.Carries cc)), (5, ⟨g1, 2, none⟩, (sv Ad p1.Factors cd)), (5, ⟨g1, 3, none⟩, (sv Ae p1.Primes ce)), (5, ⟨g1, 4, none⟩, (sv Af p1.Logs cf))]
 let e8 : Nat × Value := (4, (pt g1))
 let e9 := [[0, 1, 2, 3, 4, 5, 6, 7, 8, 9, 10, 11, 12, 13, 14, 15, 16, 17, 18, 19, 20, 21, 22, 27, 28, 29, 30, 31, 32, 23, 24, 25, 26, 33, 34, 35, 36, 37, 38], [0, 1, 2, 3, 4, 5, 6, 7, 8, 9, 10, 11, 12, 13, 14, 15, 16, 17, 18, 19, 20, 21, 22, 27, 28, 29, 30, 31, 32, 23, 24, 25, 33, 34, 35, 26, 36, 37, 38], [0, 1, 2, 3, 4, 5, 6, 7, 8, 9, 10, 11, 12, 13, 14, 15, 16, 17, 18, 19, 20, 21, 22, 27, 28, 29, 30, 31, 32, 23, 24, 25, 33, 34, 35, 36, 26, 37, 38], [0, 1, 2, 3, 4, 5, 6, 7, 8, 9, 10, 11, 12, 13, 14, 15, 16, 17, 18, 19, 20, 21, 22, 27, 28, 29, 30, 31, 32, 33, 34, 35, 23, 24, 25, 26, 36, 37, 38], [0, 1, 2, 3, 4, 5, 6, 7, 8, 9, 10, 11, 12, 13, 14, 15, 16, 17, 18, 19, 20, 21, 22, 27, 28, 29, 30, 31, 32, 33, 34, 35, 23, 24, 25, 36, 26, 37, 38], [0, 1, 2, 3, 4, 5, 6, 7, 8, 9, 10, 11, 12, 13, 14, 15, 16, 17, 18, 19, 20, 21, 22, 27, 28, 29, 30, 31, 32, 33, 34, 35, 36, 23, 24, 25, 26, 37, 38]]
 let e10 : List Nat := [0, 1, 2, 3, 4, 5, 6, 7, 8]
 let e11 := (rdD p2 (0 : Int) 0)
 let e12 := (rdD p0 (rdD p2 e6 0) z_Tile).E
 let e13 := ((adr Ag).add (((0 : Int)).toNat * 1))
 let e14 := (rdD p0 e11 z_Tile).W
 let e15 : List (Nat × Value) := [(0, e4), e5, e8, (51, (bv true))]
 let e16 : List (Nat × Value) := [(0, e4), e5, e8, (26, (bv false)), (27, e4), (28, (sv Ag p2 cg))]
 let e17 : List (Nat × Value) := [(0, e4), e5, e8, (32, (bv false)), (33, e4), (34, (sv Ag p2 cg))]
 let e18 : List Nat := [0, 2, 4, 51]
 let e19 := rdD p2 e6 0
 let e21 := ((adr Aa).add ((e11).toNat * 4)).add 3
 let e23 := ((p0.length : Int) > 60)
 let e24 : List Nat := [0, 2, 4, 25]
 let e25 : List Nat := [0, 2, 4, 31]
 let e26 : List (Nat × Value) := [(0, e4), e5, e8, (21, (bv false)), (22, e4)]
 let e27 := (adr Ag).add (e6.toNat * 1)
 let e28 : List (Nat × Value) := [(0, e4), e5, e8, (51, (bv (e14 != e12)))]
 let e29 := ((adr Aa).add ((e19).toNat * 4)).add 1
 let e30 : Nat × Value := (32, (bv false))
 let e31 : List (Nat × Value) := [(0, e4), e5, e8, (25, (bv true))]
 let e32 : List (Nat × Value) := [(0, e4), e5, e8, (31, (bv true))]
 let e33 : List Nat := [0, 2, 4, 32, 33, 35, 40, 41, 44]
 let e35 : List Nat := [0, 1, 2, 3, 4, 5, 7, 8, 9, 11, 12, 13, 14, 15, 17, 18, 19, 20, 21, 22, 24, 25, 27, 28, 29, 30, 31, 32, 34, 35, 37, 38]
 let e36 : List Nat := [0, 2, 4, 16]
 let e37 := sv Ag p2 cg
 let e38 : List Nat := [51, 0, 2, 4]
 let e40 := sv Ac p1.Carries cc
 let e41 := sv Ad p1.Factors cd
 let e42 : List Nat := [0, 2, 4, 16, 17, 18]
 let e43 : List Nat := [0, 2, 4, 26, 27, 28]
 let e44 : List Nat := [0, 2, 4, 32, 33, 34]
 let e45 := sv Ab p1.Values cb
 let e46 := sv Ae p1.Primes ce
 let e47 := sv Af p1.Logs cf
 let e49 : List Nat := [0, 2, 4, 21, 22]
 let e50 : Nat × Value := (16, (bv false))
 let e51 : List Nat := [0, 1, 2, 3, 4]
 let e53 := some e13
 let e54 : Nat × Value := (46, (iv e19))
 let e55 : List Nat := [0, 2, 4, 32, 33, 36, 40, 45]
 let e56 : List Nat := [0, 2, 4, 32, 33, 35, 40, 46]
 let e57 : List Nat := [0, 2, 4, 21]
 let e58 : List Nat := [0, 2, 4, 26]
 let e59 : List Nat := [0, 2, 4, 32]
 let e60 : Nat × Value := (44, (iv e6))
 refine WC.cutN (T := Bool) (fun t => [(0, e4), e5, e8, (51, (bv t))]) (fun t w1 => St NoS w w1 e1 [blk g1 (.cells e2 26 (0, 0))] ∧ x9 = t) (fun Kx9 => ?_) ?_
 ·
  rcases br_some hx10 with ⟨h11, hx10⟩ | ⟨h11, hx10⟩
  ·
   refine WC.regionD ([], e35, e3) e9 (by kernel_rfl) (by kernel_rfl) (NoPanic.seq (NoPanic.seq (NoPanic.body))) ?_
   have hS13 := hS3.drew
   revert hS13
   generalize World.drew w2 = w12
   intro hS13
   refine ⟨trivial, forallC ?_ (forallC ?_ (forallC ?_ (forallC ?_ (forallC ?_ (forallC ?_ (forallN))))))⟩
   ·
    refine sg 4 [] e36 [(0, e4), e5, e8, (16, (bv (decide e23)))] (by kernel_rfl) ?_
    refine WL.setB 16 h11 rfl ?_
    refine sg 39 [] e18 e15 (by kernel_rfl) ?_
    refine WL.done rfl ?_
    injection hx10 with hx10
    exact WX.to Kx9 true e18 rfl ⟨(hS13.subR e10).sub [0] (by decide), hx10.symm⟩
   ·
    refine sg 4 [] e36 [(0, e4), e5, e8, (16, (bv (decide e23)))] (by kernel_rfl) ?_
    refine WL.setB 16 h11 rfl ?_
    refine sg 39 [] e18 e15 (by kernel_rfl) ?_
    refine WL.done rfl ?_
    injection hx10 with hx10
    exact WX.to Kx9 true e18 rfl ⟨(hS13.subR e10).sub [0] (by decide), hx10.symm⟩
   ·
    refine sg 4 [] e36 [(0, e4), e5, e8, (16, (bv (decide e23)))] (by kernel_rfl) ?_
    refine WL.setB 16 h11 rfl ?_
    refine sg 39 [] e18 e15 (by kernel_rfl) ?_
    refine WL.done rfl ?_
    injection hx10 with hx10
    exact WX.to Kx9 true e18 rfl ⟨(hS13.subR e10).sub [0] (by decide), hx10.symm⟩
   ·
    refine sg 4 [] e36 [(0, e4), e5, e8, (16, (bv (decide e23)))] (by kernel_rfl) ?_
    refine WL.setB 16 h11 rfl ?_
    refine sg 39 [] e18 e15 (by kernel_rfl) ?_
    refine WL.done rfl ?_
    injection hx10 with hx10
    exact WX.to Kx9 true e18 rfl ⟨(hS13.subR e10).sub [0] (by decide), hx10.symm⟩
   ·
    refine sg 4 [] e36 [(0, e4), e5, e8, (16, (bv (decide e23)))] (by kernel_rfl) ?_
    refine WL.setB 16 h11 rfl ?_
    refine sg 39 [] e18 e15 (by kernel_rfl) ?_
    refine WL.done rfl ?_
    injection hx10 with hx10
    exact WX.to Kx9 true e18 rfl ⟨(hS13.subR e10).sub [0] (by decide), hx10.symm⟩
   refine sg 4 [] e36 [(0, e4), e5, e8, (16, (bv (decide e23)))] (by kernel_rfl) ?_
   refine WL.setB 16 h11 rfl ?_
   refine sg 39 [] e18 e15 (by kernel_rfl) ?_
   refine WL.done rfl ?_
   injection hx10 with hx10
   exact WX.to Kx9 true e18 rfl ⟨(hS13.subR e10).sub [0] (by decide), hx10.symm⟩
  refine WC.regionD (e7, e35, e3) e9 (by kernel_rfl) (by kernel_rfl) (NoPanic.seq (NoPanic.seq (NoPanic.body))) ?_
  have hS15 := hS3.drew
  revert hS15
  generalize World.drew w2 = w14
  intro hS15
  refine ⟨⟨hS15.cell 0 rfl 0 rfl, hS15.cell 0 rfl 1 rfl, hS15.cell 0 rfl 2 rfl, hS15.cell 0 rfl 3 rfl, hS15.cell 0 rfl 4 rfl, trivial⟩, forallC ?_ (forallC ?_ (forallC ?_ (forallC ?_ (forallC ?_ (forallC ?_ (forallN))))))⟩
  ·
   refine sg 4 [] e36 [(0, e4), e5, e8, (16, (bv (decide e23)))] (by kernel_rfl) ?_
   refine WL.setB 16 h11 rfl ?_
   refine segF 6 [.v e45, .v e40, .v e41, .v e46, .v e47] e42 [(0, e4), e5, e8, e50, (17, e4), (18, (.agg e2))] [] e51 e7 (fun fb => by kernel_rfl) rfl trivial rfl ?_
   obtain ⟨t16, ht17, hx10⟩ := bind_some hx10
   refine WL.call (some 19) 8 #[e4, (.agg e2)] (fun fb => by kernel_rfl) (law06_wide_calls p0 p1 Aa ca Ab cb Ac cc Ad cd Ae ce Af cf t16 _ (hS15.rd 0) (hS15.rd 1) (hS15.rd 2) (hS15.rd 3) (hS15.rd 4) (hS15.rd 5) ht17) (fun v w18 hR19 => ?_)
   obtain ⟨rfl, hk_⟩ := hR19
   have hS20 := hS15.keepN hk_
   refine ⟨trivial, ?_⟩
   refine sg 9 [] e57 [(0, e4), e5, e8, (21, (bv t16))] (by kernel_rfl) ?_
   obtain ⟨x21, hx22, hx10⟩ := bind_some hx10
   refine WL.cutW (T := Bool) 13 (fun t => [(0, e4), e5, e8, (25, (bv t))]) (fun t w1 => (St NoS w w1 e1 [blk g1 (.cells e2 26 (0, 0))] ∧ x21 = t) ∧ CellsOK [] w1) (fun K => ?_) ?_
   ·
    rcases br_some hx22 with ⟨h23, hx22⟩ | ⟨h23, hx22⟩
    ·
     refine WL.setB 21 h23 rfl ?_
     refine sg 13 [] e24 e31 (by kernel_rfl) ?_
     injection hx22 with hx22
     exact WL.to K true e24 rfl ⟨⟨(hS20.subR e10).sub [0] (by decide), hx22.symm⟩, trivial⟩
    refine WL.setB 21 h23 rfl ?_
    refine sg 10 [] e49 e26 (by kernel_rfl) ?_
    obtain ⟨t24, ht25, hx22⟩ := bind_some hx22
    refine WL.call (some 23) 20 #[e4] (fun fb => by kernel_rfl) (ref01_Valid_calls _ p0 Aa ca t24 _ (hS20.rd 0) ht25) (fun v w26 hR27 => ?_)
    obtain ⟨rfl, hk_⟩ := hR27
    have hS28 := hS20.keepN hk_
    refine ⟨trivial, ?_⟩
    refine sg 13 [] e24 [(0, e4), e5, e8, (25, (bv (!t24)))] (by kernel_rfl) ?_
    injection hx22 with hx22
    exact WL.to K (!t24) e24 rfl ⟨⟨(hS28.subR e10).sub [0] (by decide), hx22.symm⟩, trivial⟩
   rintro y29 w31 ⟨⟨hS32, hq30⟩, hF33⟩
   subst hq30
   refine sg 14 [] e58 [(0, e4), e5, e8, (26, (bv x21))] (by kernel_rfl) ?_
   obtain ⟨x34, hx35, hx10⟩ := bind_some hx10
   refine WL.cutW (T := Bool) 19 (fun t => [(0, e4), e5, e8, (31, (bv t))]) (fun t w1 => (St NoS w w1 e1 [blk g1 (.cells e2 26 (0, 0))] ∧ x34 = t) ∧ CellsOK [] w1) (fun K => ?_) ?_
   ·
    rcases br_some hx35 with ⟨h36, hx35⟩ | ⟨h36, hx35⟩
    ·
     refine WL.setB 26 h36 rfl ?_
     refine sg 19 [] e25 e32 (by kernel_rfl) ?_
     injection hx35 with hx35
     exact WL.to K true e25 rfl ⟨⟨(hS32.subR e10).sub [0] (by decide), hx35.symm⟩, trivial⟩
    refine WL.setB 26 h36 rfl ?_
    refine sg 16 [] e43 e16 (by kernel_rfl) ?_
    obtain ⟨t37, ht38, hx35⟩ := bind_some hx35
    refine WL.call (some 29) 15 #[e4, e37] (fun fb => by kernel_rfl) (ref06_IsRow_calls _ p0 p2 Aa ca Ag cg t37 _ (hS32.rd 0) (hS32.rd 6) ht38) (fun v w39 hR40 => ?_)
    obtain ⟨rfl, hk_⟩ := hR40
    have hS41 := hS32.keepN hk_
    refine ⟨trivial, ?_⟩
    refine sg 19 [] e25 [(0, e4), e5, e8, (31, (bv (!t37)))] (by kernel_rfl) ?_
    injection hx35 with hx35
    exact WL.to K (!t37) e25 rfl ⟨⟨(hS41.subR e10).sub [0] (by decide), hx35.symm⟩, trivial⟩
   rintro y42 w44 ⟨⟨hS45, hq43⟩, hF46⟩
   subst hq43
   refine sg 20 [] e59 [(0, e4), e5, e8, (32, (bv x34))] (by kernel_rfl) ?_
   obtain ⟨b47, hv48, hx10⟩ := bind_some hx10
   refine WL.cutV (T := Unit) 39 (fun t => [(51, (bv b47)), (0, e4), e5, e8]) (fun t => True) (fun K => ?_) ?_
   ·
    rcases br_some hv48 with ⟨h49, hv48⟩ | ⟨h49, hv48⟩
    ·
     refine WL.setB 32 h49 rfl ?_
     refine sg 39 [] e18 e15 (by kernel_rfl) ?_
     injection hv48 with hv48
     subst hv48
     exact WL.toV K () e38 rfl trivial
    refine WL.setB 32 h49 rfl ?_
    refine sg 22 [] e44 e17 (by kernel_rfl) ?_
    obtain ⟨h50, hv48⟩ := as_some hv48
    refine seg 28 [] e33 [(0, e4), e5, e8, e30, (33, e4), (35, (.pointer e53)), (40, e4), (41, e37), e60] [.idx Ag (0 : Int) p2.length] (fun fb => by kernel_rfl) rfl ⟨rowR.adr (hS45.rd 6).1 h50.1 h50.2, trivial⟩ ?_
    obtain ⟨h51, hv48⟩ := as_some hv48
    refine seg 30 [.v (iv e11)] e55 [(0, e4), e5, e8, e30, (33, e4), (36, (iv e11)), (40, e4), (45, (.pointer (some e27)))] [.idx Ag e6 p2.length, .cell e13 (iv e11)] (fun fb => by kernel_rfl) rfl ⟨rowR.adr (hS45.rd 6).1 h51.1 h51.2, rowR.cell (hS45.rd 6).1 0 h50.1 h50.2 0 rfl, trivial⟩ ?_
    obtain ⟨h52, hv48⟩ := as_some hv48
    refine seg 34 [.v (iv e14), .v (iv e19)] [0, 2, 4, 32, 39, 40, 46] [(0, e4), e5, e8, e30, (39, (iv e14)), (40, e4), e54] [.idx Aa e11 p0.length, .cell e21 (iv e14), .cell e27 (iv e19)] (fun fb => by kernel_rfl) rfl ⟨rowR.adr (hS45.rd 0).1 h52.1 h52.2, rowR.cell (hS45.rd 0).1 z_Tile h52.1 h52.2 3 rfl, rowR.cell (hS45.rd 6).1 0 h51.1 h51.2 0 rfl, trivial⟩ ?_
    obtain ⟨h53, hv48⟩ := as_some hv48
    refine seg 39 [.v (iv e12)] e18 e28 [.idx Aa e19 p0.length, .cell e29 (iv e12)] (fun fb => by kernel_rfl) rfl ⟨rowR.adr (hS45.rd 0).1 h53.1 h53.2, rowR.cell (hS45.rd 0).1 z_Tile h53.1 h53.2 1 rfl, trivial⟩ ?_
    injection hv48 with hv48
    subst hv48
    exact WL.toV K () e38 rfl trivial
   rintro _ _
   refine WL.done rfl ?_
   injection hx10 with hx10
   exact WX.to Kx9 b47 e18 rfl ⟨(hS45.subR e10).sub [0] (by decide), hx10.symm⟩
  ·
   refine sg 4 [] e36 [(0, e4), e5, e8, (16, (bv (decide e23)))] (by kernel_rfl) ?_
   refine WL.setB 16 h11 rfl ?_
   refine segF 6 [.v e45, .v e40, .v e41, .v e46, .v e47] e42 [(0, e4), e5, e8, e50, (17, e4), (18, (.agg e2))] [] e51 e7 (fun fb => by kernel_rfl) rfl trivial rfl ?_
   obtain ⟨t54, ht55, hx10⟩ := bind_some hx10
   refine WL.call (some 19) 8 #[e4, (.agg e2)] (fun fb => by kernel_rfl) (law06_wide_calls p0 p1 Aa ca Ab cb Ac cc Ad cd Ae ce Af cf t54 _ (hS15.rd 0) (hS15.rd 1) (hS15.rd 2) (hS15.rd 3) (hS15.rd 4) (hS15.rd 5) ht55) (fun v w56 hR57 => ?_)
   obtain ⟨rfl, hk_⟩ := hR57
   have hS58 := hS15.keepN hk_
   refine ⟨trivial, ?_⟩
   refine sg 9 [] e57 [(0, e4), e5, e8, (21, (bv t54))] (by kernel_rfl) ?_
   obtain ⟨x59, hx60, hx10⟩ := bind_some hx10
   refine WL.cutW (T := Bool) 13 (fun t => [(0, e4), e5, e8, (25, (bv t))]) (fun t w1 => (St NoS w w1 e1 [blk g1 (.cells e2 26 (0, 0))] ∧ x59 = t) ∧ CellsOK [] w1) (fun K => ?_) ?_
   ·
    rcases br_some hx60 with ⟨h61, hx60⟩ | ⟨h61, hx60⟩
    ·
     refine WL.setB 21 h61 rfl ?_
     refine sg 13 [] e24 e31 (by kernel_rfl) ?_
     injection hx60 with hx60
     exact WL.to K true e24 rfl ⟨⟨(hS58.subR e10).sub [0] (by decide), hx60.symm⟩, trivial⟩
    refine WL.setB 21 h61 rfl ?_
    refine sg 10 [] e49 e26 (by kernel_rfl) ?_
    obtain ⟨t62, ht63, hx60⟩ := bind_some hx60
    refine WL.call (some 23) 20 #[e4] (fun fb => by kernel_rfl) (ref01_Valid_calls _ p0 Aa ca t62 _ (hS58.rd 0) ht63) (fun v w65 hR66 => ?_)
    obtain ⟨rfl, hk_⟩ := hR66
    have hS67 := hS58.keepN hk_
    refine ⟨trivial, ?_⟩
    refine sg 13 [] e24 [(0, e4), e5, e8, (25, (bv (!t62)))] (by kernel_rfl) ?_
    injection hx60 with hx60
    exact WL.to K (!t62) e24 rfl ⟨⟨(hS67.subR e10).sub [0] (by decide), hx60.symm⟩, trivial⟩
   rintro y68 w70 ⟨⟨hS71, hq69⟩, hF72⟩
   subst hq69
   refine sg 14 [] e58 [(0, e4), e5, e8, (26, (bv x59))] (by kernel_rfl) ?_
   obtain ⟨x73, hx74, hx10⟩ := bind_some hx10
   refine WL.cutW (T := Bool) 19 (fun t => [(0, e4), e5, e8, (31, (bv t))]) (fun t w1 => (St NoS w w1 e1 [blk g1 (.cells e2 26 (0, 0))] ∧ x73 = t) ∧ CellsOK [] w1) (fun K => ?_) ?_
   ·
    rcases br_some hx74 with ⟨h75, hx74⟩ | ⟨h75, hx74⟩
    ·
     refine WL.setB 26 h75 rfl ?_
     refine sg 19 [] e25 e32 (by kernel_rfl) ?_
     injection hx74 with hx74
     exact WL.to K true e25 rfl ⟨⟨(hS71.subR e10).sub [0] (by decide), hx74.symm⟩, trivial⟩
    refine WL.setB 26 h75 rfl ?_
    refine sg 16 [] e43 e16 (by kernel_rfl) ?_
    obtain ⟨t76, ht77, hx74⟩ := bind_some hx74
    refine WL.call (some 29) 15 #[e4, e37] (fun fb => by kernel_rfl) (ref06_IsRow_calls _ p0 p2 Aa ca Ag cg t76 _ (hS71.rd 0) (hS71.rd 6) ht77) (fun v w78 hR79 => ?_)
    obtain ⟨rfl, hk_⟩ := hR79
    have hS80 := hS71.keepN hk_
    refine ⟨trivial, ?_⟩
    refine sg 19 [] e25 [(0, e4), e5, e8, (31, (bv (!t76)))] (by kernel_rfl) ?_
    injection hx74 with hx74
    exact WL.to K (!t76) e25 rfl ⟨⟨(hS80.subR e10).sub [0] (by decide), hx74.symm⟩, trivial⟩
   rintro y81 w83 ⟨⟨hS84, hq82⟩, hF85⟩
   subst hq82
   refine sg 20 [] e59 [(0, e4), e5, e8, (32, (bv x73))] (by kernel_rfl) ?_
   obtain ⟨b86, hv87, hx10⟩ := bind_some hx10
   refine WL.cutV (T := Unit) 39 (fun t => [(51, (bv b86)), (0, e4), e5, e8]) (fun t => True) (fun K => ?_) ?_
   ·
    rcases br_some hv87 with ⟨h88, hv87⟩ | ⟨h88, hv87⟩
    ·
     refine WL.setB 32 h88 rfl ?_
     refine sg 39 [] e18 e15 (by kernel_rfl) ?_
     injection hv87 with hv87
     subst hv87
     exact WL.toV K () e38 rfl trivial
    refine WL.setB 32 h88 rfl ?_
    refine sg 22 [] e44 e17 (by kernel_rfl) ?_
    obtain ⟨h89, hv87⟩ := as_some hv87
    refine seg 28 [] e33 [(0, e4), e5, e8, e30, (33, e4), (35, (.pointer e53)), (40, e4), (41, e37), e60] [.idx Ag (0 : Int) p2.length] (fun fb => by kernel_rfl) rfl ⟨rowR.adr (hS84.rd 6).1 h89.1 h89.2, trivial⟩ ?_
    obtain ⟨h90, hv87⟩ := as_some hv87
    refine seg 30 [.v (iv e11)] e55 [(0, e4), e5, e8, e30, (33, e4), (36, (iv e11)), (40, e4), (45, (.pointer (some e27)))] [.idx Ag e6 p2.length, .cell e13 (iv e11)] (fun fb => by kernel_rfl) rfl ⟨rowR.adr (hS84.rd 6).1 h90.1 h90.2, rowR.cell (hS84.rd 6).1 0 h89.1 h89.2 0 rfl, trivial⟩ ?_
    obtain ⟨h91, hv87⟩ := as_some hv87
    refine seg 33 [.v (iv e19)] [0, 2, 4, 32, 38, 40, 46] [(0, e4), e5, e8, e30, (38, (.pointer (some e21))), (40, e4), e54] [.idx Aa e11 p0.length, .cell e27 (iv e19)] (fun fb => by kernel_rfl) rfl ⟨rowR.adr (hS84.rd 0).1 h91.1 h91.2, rowR.cell (hS84.rd 6).1 0 h90.1 h90.2 0 rfl, trivial⟩ ?_
    obtain ⟨h92, hv87⟩ := as_some hv87
    refine seg 39 [.v (iv e14), .v (iv e12)] e18 e28 [.idx Aa e19 p0.length, .cell e21 (iv e14), .cell e29 (iv e12)] (fun fb => by kernel_rfl) rfl ⟨rowR.adr (hS84.rd 0).1 h92.1 h92.2, rowR.cell (hS84.rd 0).1 z_Tile h91.1 h91.2 3 rfl, rowR.cell (hS84.rd 0).1 z_Tile h92.1 h92.2 1 rfl, trivial⟩ ?_
    injection hv87 with hv87
    subst hv87
    exact WL.toV K () e38 rfl trivial
   rintro _ _
   refine WL.done rfl ?_
   injection hx10 with hx10
   exact WX.to Kx9 b86 e18 rfl ⟨(hS84.subR e10).sub [0] (by decide), hx10.symm⟩
  ·
   refine sg 4 [] e36 [(0, e4), e5, e8, (16, (bv (decide e23)))] (by kernel_rfl) ?_
   refine WL.setB 16 h11 rfl ?_
   refine segF 6 [.v e45, .v e40, .v e41, .v e46, .v e47] e42 [(0, e4), e5, e8, e50, (17, e4), (18, (.agg e2))] [] e51 e7 (fun fb => by kernel_rfl) rfl trivial rfl ?_
   obtain ⟨t93, ht94, hx10⟩ := bind_some hx10
   refine WL.call (some 19) 8 #[e4, (.agg e2)] (fun fb => by kernel_rfl) (law06_wide_calls p0 p1 Aa ca Ab cb Ac cc Ad cd Ae ce Af cf t93 _ (hS15.rd 0) (hS15.rd 1) (hS15.rd 2) (hS15.rd 3) (hS15.rd 4) (hS15.rd 5) ht94) (fun v w95 hR96 => ?_)
   obtain ⟨rfl, hk_⟩ := hR96
   have hS97 := hS15.keepN hk_
   refine ⟨trivial, ?_⟩
   refine sg 9 [] e57 [(0, e4), e5, e8, (21, (bv t93))] (by kernel_rfl) ?_
   obtain ⟨x98, hx99, hx10⟩ := bind_some hx10
   refine WL.cutW (T := Bool) 13 (fun t => [(0, e4), e5, e8, (25, (bv t))]) (fun t w1 => (St NoS w w1 e1 [blk g1 (.cells e2 26 (0, 0))] ∧ x98 = t) ∧ CellsOK [] w1) (fun K => ?_) ?_
   ·
    rcases br_some hx99 with ⟨h100, hx99⟩ | ⟨h100, hx99⟩
    ·
     refine WL.setB 21 h100 rfl ?_
     refine sg 13 [] e24 e31 (by kernel_rfl) ?_
     injection hx99 with hx99
     exact WL.to K true e24 rfl ⟨⟨(hS97.subR e10).sub [0] (by decide), hx99.symm⟩, trivial⟩
    refine WL.setB 21 h100 rfl ?_
    refine sg 10 [] e49 e26 (by kernel_rfl) ?_
    obtain ⟨t101, ht102, hx99⟩ := bind_some hx99
    refine WL.call (some 23) 20 #[e4] (fun fb => by kernel_rfl) (ref01_Valid_calls _ p0 Aa ca t101 _ (hS97.rd 0) ht102) (fun v w103 hR104 => ?_)
    obtain ⟨rfl, hk_⟩ := hR104
    have hS105 := hS97.keepN hk_
    refine ⟨trivial, ?_⟩
    refine sg 13 [] e24 [(0, e4), e5, e8, (25, (bv (!t101)))] (by kernel_rfl) ?_
    injection hx99 with hx99
    exact WL.to K (!t101) e24 rfl ⟨⟨(hS105.subR e10).sub [0] (by decide), hx99.symm⟩, trivial⟩
   rintro y106 w108 ⟨⟨hS109, hq107⟩, hF110⟩
   subst hq107
   refine sg 14 [] e58 [(0, e4), e5, e8, (26, (bv x98))] (by kernel_rfl) ?_
   obtain ⟨x111, hx112, hx10⟩ := bind_some hx10
   refine WL.cutW (T := Bool) 19 (fun t => [(0, e4), e5, e8, (31, (bv t))]) (fun t w1 => (St NoS w w1 e1 [blk g1 (.cells e2 26 (0, 0))] ∧ x111 = t) ∧ CellsOK [] w1) (fun K => ?_) ?_
   ·
    rcases br_some hx112 with ⟨h113, hx112⟩ | ⟨h113, hx112⟩
    ·
     refine WL.setB 26 h113 rfl ?_
     refine sg 19 [] e25 e32 (by kernel_rfl) ?_
     injection hx112 with hx112
     exact WL.to K true e25 rfl ⟨⟨(hS109.subR e10).sub [0] (by decide), hx112.symm⟩, trivial⟩
    refine WL.setB 26 h113 rfl ?_
    refine sg 16 [] e43 e16 (by kernel_rfl) ?_
    obtain ⟨t114, ht115, hx112⟩ := bind_some hx112
    refine WL.call (some 29) 15 #[e4, e37] (fun fb => by kernel_rfl) (ref06_IsRow_calls _ p0 p2 Aa ca Ag cg t114 _ (hS109.rd 0) (hS109.rd 6) ht115) (fun v w116 hR117 => ?_)
    obtain ⟨rfl, hk_⟩ := hR117
    have hS118 := hS109.keepN hk_
    refine ⟨trivial, ?_⟩
    refine sg 19 [] e25 [(0, e4), e5, e8, (31, (bv (!t114)))] (by kernel_rfl) ?_
    injection hx112 with hx112
    exact WL.to K (!t114) e25 rfl ⟨⟨(hS118.subR e10).sub [0] (by decide), hx112.symm⟩, trivial⟩
   rintro y119 w121 ⟨⟨hS122, hq120⟩, hF123⟩
   subst hq120
   refine sg 20 [] e59 [(0, e4), e5, e8, (32, (bv x111))] (by kernel_rfl) ?_
   obtain ⟨b124, hv125, hx10⟩ := bind_some hx10
   refine WL.cutV (T := Unit) 39 (fun t => [(51, (bv b124)), (0, e4), e5, e8]) (fun t => True) (fun K => ?_) ?_
   ·
    rcases br_some hv125 with ⟨h126, hv125⟩ | ⟨h126, hv125⟩
    ·
     refine WL.setB 32 h126 rfl ?_
     refine sg 39 [] e18 e15 (by kernel_rfl) ?_
     injection hv125 with hv125
     subst hv125
     exact WL.toV K () e38 rfl trivial
    refine WL.setB 32 h126 rfl ?_
    refine sg 22 [] e44 e17 (by kernel_rfl) ?_
    obtain ⟨h127, hv125⟩ := as_some hv125
    refine seg 28 [] e33 [(0, e4), e5, e8, e30, (33, e4), (35, (.pointer e53)), (40, e4), (41, e37), e60] [.idx Ag (0 : Int) p2.length] (fun fb => by kernel_rfl) rfl ⟨rowR.adr (hS122.rd 6).1 h127.1 h127.2, trivial⟩ ?_
    obtain ⟨h128, hv125⟩ := as_some hv125
    refine seg 30 [.v (iv e11)] e55 [(0, e4), e5, e8, e30, (33, e4), (36, (iv e11)), (40, e4), (45, (.pointer (some e27)))] [.idx Ag e6 p2.length, .cell e13 (iv e11)] (fun fb => by kernel_rfl) rfl ⟨rowR.adr (hS122.rd 6).1 h128.1 h128.2, rowR.cell (hS122.rd 6).1 0 h127.1 h127.2 0 rfl, trivial⟩ ?_
    obtain ⟨h129, hv125⟩ := as_some hv125
    refine seg 33 [.v (iv e19)] [0, 2, 4, 32, 38, 40, 46] [(0, e4), e5, e8, e30, (38, (.pointer (some e21))), (40, e4), e54] [.idx Aa e11 p0.length, .cell e27 (iv e19)] (fun fb => by kernel_rfl) rfl ⟨rowR.adr (hS122.rd 0).1 h129.1 h129.2, rowR.cell (hS122.rd 6).1 0 h128.1 h128.2 0 rfl, trivial⟩ ?_
    obtain ⟨h130, hv125⟩ := as_some hv125
    refine seg 39 [.v (iv e12), .v (iv e14)] e18 e28 [.idx Aa e19 p0.length, .cell e29 (iv e12), .cell e21 (iv e14)] (fun fb => by kernel_rfl) rfl ⟨rowR.adr (hS122.rd 0).1 h130.1 h130.2, rowR.cell (hS122.rd 0).1 z_Tile h130.1 h130.2 1 rfl, rowR.cell (hS122.rd 0).1 z_Tile h129.1 h129.2 3 rfl, trivial⟩ ?_
    injection hv125 with hv125
    subst hv125
    exact WL.toV K () e38 rfl trivial
   rintro _ _
   refine WL.done rfl ?_
   injection hx10 with hx10
   exact WX.to Kx9 b124 e18 rfl ⟨(hS122.subR e10).sub [0] (by decide), hx10.symm⟩
  ·
   refine sg 4 [] e36 [(0, e4), e5, e8, (16, (bv (decide e23)))] (by kernel_rfl) ?_
   refine WL.setB 16 h11 rfl ?_
   refine segF 6 [.v e45, .v e40, .v e41, .v e46, .v e47] e42 [(0, e4), e5, e8, e50, (17, e4), (18, (.agg e2))] [] e51 e7 (fun fb => by kernel_rfl) rfl trivial rfl ?_
   obtain ⟨t131, ht132, hx10⟩ := bind_some hx10
   refine WL.call (some 19) 8 #[e4, (.agg e2)] (fun fb => by kernel_rfl) (law06_wide_calls p0 p1 Aa ca Ab cb Ac cc Ad cd Ae ce Af cf t131 _ (hS15.rd 0) (hS15.rd 1) (hS15.rd 2) (hS15.rd 3) (hS15.rd 4) (hS15.rd 5) ht132) (fun v w133 hR134 => ?_)
   obtain ⟨rfl, hk_⟩ := hR134
   have hS135 := hS15.keepN hk_
   refine ⟨trivial, ?_⟩
   refine sg 9 [] e57 [(0, e4), e5, e8, (21, (bv t131))] (by kernel_rfl) ?_
   obtain ⟨x136, hx137, hx10⟩ := bind_some hx10
   refine WL.cutW (T := Bool) 13 (fun t => [(0, e4), e5, e8, (25, (bv t))]) (fun t w1 => (St NoS w w1 e1 [blk g1 (.cells e2 26 (0, 0))] ∧ x136 = t) ∧ CellsOK [] w1) (fun K => ?_) ?_
   ·
    rcases br_some hx137 with ⟨h138, hx137⟩ | ⟨h138, hx137⟩
    ·
     refine WL.setB 21 h138 rfl ?_
     refine sg 13 [] e24 e31 (by kernel_rfl) ?_
     injection hx137 with hx137
     exact WL.to K true e24 rfl ⟨⟨(hS135.subR e10).sub [0] (by decide), hx137.symm⟩, trivial⟩
    refine WL.setB 21 h138 rfl ?_
    refine sg 10 [] e49 e26 (by kernel_rfl) ?_
    obtain ⟨t139, ht140, hx137⟩ := bind_some hx137
    refine WL.call (some 23) 20 #[e4] (fun fb => by kernel_rfl) (ref01_Valid_calls _ p0 Aa ca t139 _ (hS135.rd 0) ht140) (fun v w141 hR142 => ?_)
    obtain ⟨rfl, hk_⟩ := hR142
    have hS143 := hS135.keepN hk_
    refine ⟨trivial, ?_⟩
    refine sg 13 [] e24 [(0, e4), e5, e8, (25, (bv (!t139)))] (by kernel_rfl) ?_
    injection hx137 with hx137
    exact WL.to K (!t139) e24 rfl ⟨⟨(hS143.subR e10).sub [0] (by decide), hx137.symm⟩, trivial⟩
   rintro y144 w146 ⟨⟨hS147, hq145⟩, hF148⟩
   subst hq145
   refine sg 14 [] e58 [(0, e4), e5, e8, (26, (bv x136))] (by kernel_rfl) ?_
   obtain ⟨x149, hx150, hx10⟩ := bind_some hx10
   refine WL.cutW (T := Bool) 19 (fun t => [(0, e4), e5, e8, (31, (bv t))]) (fun t w1 => (St NoS w w1 e1 [blk g1 (.cells e2 26 (0, 0))] ∧ x149 = t) ∧ CellsOK [] w1) (fun K => ?_) ?_
   ·
    rcases br_some hx150 with ⟨h151, hx150⟩ | ⟨h151, hx150⟩
    ·
     refine WL.setB 26 h151 rfl ?_
     refine sg 19 [] e25 e32 (by kernel_rfl) ?_
     injection hx150 with hx150
     exact WL.to K true e25 rfl ⟨⟨(hS147.subR e10).sub [0] (by decide), hx150.symm⟩, trivial⟩
    refine WL.setB 26 h151 rfl ?_
    refine sg 16 [] e43 e16 (by kernel_rfl) ?_
    obtain ⟨t152, ht153, hx150⟩ := bind_some hx150
    refine WL.call (some 29) 15 #[e4, e37] (fun fb => by kernel_rfl) (ref06_IsRow_calls _ p0 p2 Aa ca Ag cg t152 _ (hS147.rd 0) (hS147.rd 6) ht153) (fun v w154 hR155 => ?_)
    obtain ⟨rfl, hk_⟩ := hR155
    have hS156 := hS147.keepN hk_
    refine ⟨trivial, ?_⟩
    refine sg 19 [] e25 [(0, e4), e5, e8, (31, (bv (!t152)))] (by kernel_rfl) ?_
    injection hx150 with hx150
    exact WL.to K (!t152) e25 rfl ⟨⟨(hS156.subR e10).sub [0] (by decide), hx150.symm⟩, trivial⟩
   rintro y157 w159 ⟨⟨hS160, hq158⟩, hF161⟩
   subst hq158
   refine sg 20 [] e59 [(0, e4), e5, e8, (32, (bv x149))] (by kernel_rfl) ?_
   obtain ⟨b162, hv163, hx10⟩ := bind_some hx10
   refine WL.cutV (T := Unit) 39 (fun t => [(51, (bv b162)), (0, e4), e5, e8]) (fun t => True) (fun K => ?_) ?_
   ·
    rcases br_some hv163 with ⟨h164, hv163⟩ | ⟨h164, hv163⟩
    ·
     refine WL.setB 32 h164 rfl ?_
     refine sg 39 [] e18 e15 (by kernel_rfl) ?_
     injection hv163 with hv163
     subst hv163
     exact WL.toV K () e38 rfl trivial
    refine WL.setB 32 h164 rfl ?_
    refine sg 22 [] e44 e17 (by kernel_rfl) ?_
    obtain ⟨h165, hv163⟩ := as_some hv163
    refine seg 28 [] e33 [(0, e4), e5, e8, e30, (33, e4), (35, (.pointer e53)), (40, e4), (41, e37), e60] [.idx Ag (0 : Int) p2.length] (fun fb => by kernel_rfl) rfl ⟨rowR.adr (hS160.rd 6).1 h165.1 h165.2, trivial⟩ ?_
    obtain ⟨h166, hv163⟩ := as_some hv163
    refine seg 30 [.v (iv e19)] e56 [(0, e4), e5, e8, e30, (33, e4), (35, (.pointer e53)), (40, e4), e54] [.idx Ag e6 p2.length, .cell e27 (iv e19)] (fun fb => by kernel_rfl) rfl ⟨rowR.adr (hS160.rd 6).1 h166.1 h166.2, rowR.cell (hS160.rd 6).1 0 h166.1 h166.2 0 rfl, trivial⟩ ?_
    obtain ⟨h167, hv163⟩ := as_some hv163
    obtain ⟨h168, hv163⟩ := as_some hv163
    refine seg 39 [.v (iv e11), .v (iv e14), .v (iv e12)] e18 e28 [.idx Aa e19 p0.length, .cell e13 (iv e11), .idx Aa e11 p0.length, .cell e21 (iv e14), .cell e29 (iv e12)] (fun fb => by kernel_rfl) rfl ⟨rowR.adr (hS160.rd 0).1 h168.1 h168.2, rowR.cell (hS160.rd 6).1 0 h165.1 h165.2 0 rfl, rowR.adr (hS160.rd 0).1 h167.1 h167.2, rowR.cell (hS160.rd 0).1 z_Tile h167.1 h167.2 3 rfl, rowR.cell (hS160.rd 0).1 z_Tile h168.1 h168.2 1 rfl, trivial⟩ ?_
    injection hv163 with hv163
    subst hv163
    exact WL.toV K () e38 rfl trivial
   rintro _ _
   refine WL.done rfl ?_
   injection hx10 with hx10
   exact WX.to Kx9 b162 e18 rfl ⟨(hS160.subR e10).sub [0] (by decide), hx10.symm⟩
  ·
   refine sg 4 [] e36 [(0, e4), e5, e8, (16, (bv (decide e23)))] (by kernel_rfl) ?_
   refine WL.setB 16 h11 rfl ?_
   refine segF 6 [.v e45, .v e40, .v e41, .v e46, .v e47] e42 [(0, e4), e5, e8, e50, (17, e4), (18, (.agg e2))] [] e51 e7 (fun fb => by kernel_rfl) rfl trivial rfl ?_
   obtain ⟨t169, ht170, hx10⟩ := bind_some hx10
   refine WL.call (some 19) 8 #[e4, (.agg e2)] (fun fb => by kernel_rfl) (law06_wide_calls p0 p1 Aa ca Ab cb Ac cc Ad cd Ae ce Af cf t169 _ (hS15.rd 0) (hS15.rd 1) (hS15.rd 2) (hS15.rd 3) (hS15.rd 4) (hS15.rd 5) ht170) (fun v w171 hR172 => ?_)
   obtain ⟨rfl, hk_⟩ := hR172
   have hS173 := hS15.keepN hk_
   refine ⟨trivial, ?_⟩
   refine sg 9 [] e57 [(0, e4), e5, e8, (21, (bv t169))] (by kernel_rfl) ?_
   obtain ⟨x174, hx175, hx10⟩ := bind_some hx10
   refine WL.cutW (T := Bool) 13 (fun t => [(0, e4), e5, e8, (25, (bv t))]) (fun t w1 => (St NoS w w1 e1 [blk g1 (.cells e2 26 (0, 0))] ∧ x174 = t) ∧ CellsOK [] w1) (fun K => ?_) ?_
   ·
    rcases br_some hx175 with ⟨h176, hx175⟩ | ⟨h176, hx175⟩
    ·
     refine WL.setB 21 h176 rfl ?_
     refine sg 13 [] e24 e31 (by kernel_rfl) ?_
     injection hx175 with hx175
     exact WL.to K true e24 rfl ⟨⟨(hS173.subR e10).sub [0] (by decide), hx175.symm⟩, trivial⟩
    refine WL.setB 21 h176 rfl ?_
    refine sg 10 [] e49 e26 (by kernel_rfl) ?_
    obtain ⟨t177, ht178, hx175⟩ := bind_some hx175
    refine WL.call (some 23) 20 #[e4] (fun fb => by kernel_rfl) (ref01_Valid_calls _ p0 Aa ca t177 _ (hS173.rd 0) ht178) (fun v w179 hR180 => ?_)
    obtain ⟨rfl, hk_⟩ := hR180
    have hS181 := hS173.keepN hk_
    refine ⟨trivial, ?_⟩
    refine sg 13 [] e24 [(0, e4), e5, e8, (25, (bv (!t177)))] (by kernel_rfl) ?_
    injection hx175 with hx175
    exact WL.to K (!t177) e24 rfl ⟨⟨(hS181.subR e10).sub [0] (by decide), hx175.symm⟩, trivial⟩
   rintro y182 w184 ⟨⟨hS185, hq183⟩, hF186⟩
   subst hq183
   refine sg 14 [] e58 [(0, e4), e5, e8, (26, (bv x174))] (by kernel_rfl) ?_
   obtain ⟨x187, hx188, hx10⟩ := bind_some hx10
   refine WL.cutW (T := Bool) 19 (fun t => [(0, e4), e5, e8, (31, (bv t))]) (fun t w1 => (St NoS w w1 e1 [blk g1 (.cells e2 26 (0, 0))] ∧ x187 = t) ∧ CellsOK [] w1) (fun K => ?_) ?_
   ·
    rcases br_some hx188 with ⟨h189, hx188⟩ | ⟨h189, hx188⟩
    ·
     refine WL.setB 26 h189 rfl ?_
     refine sg 19 [] e25 e32 (by kernel_rfl) ?_
     injection hx188 with hx188
     exact WL.to K true e25 rfl ⟨⟨(hS185.subR e10).sub [0] (by decide), hx188.symm⟩, trivial⟩
    refine WL.setB 26 h189 rfl ?_
    refine sg 16 [] e43 e16 (by kernel_rfl) ?_
    obtain ⟨t190, ht191, hx188⟩ := bind_some hx188
    refine WL.call (some 29) 15 #[e4, e37] (fun fb => by kernel_rfl) (ref06_IsRow_calls _ p0 p2 Aa ca Ag cg t190 _ (hS185.rd 0) (hS185.rd 6) ht191) (fun v w192 hR193 => ?_)
    obtain ⟨rfl, hk_⟩ := hR193
    have hS194 := hS185.keepN hk_
    refine ⟨trivial, ?_⟩
    refine sg 19 [] e25 [(0, e4), e5, e8, (31, (bv (!t190)))] (by kernel_rfl) ?_
    injection hx188 with hx188
    exact WL.to K (!t190) e25 rfl ⟨⟨(hS194.subR e10).sub [0] (by decide), hx188.symm⟩, trivial⟩
   rintro y195 w197 ⟨⟨hS198, hq196⟩, hF199⟩
   subst hq196
   refine sg 20 [] e59 [(0, e4), e5, e8, (32, (bv x187))] (by kernel_rfl) ?_
   obtain ⟨b200, hv201, hx10⟩ := bind_some hx10
   refine WL.cutV (T := Unit) 39 (fun t => [(51, (bv b200)), (0, e4), e5, e8]) (fun t => True) (fun K => ?_) ?_
   ·
    rcases br_some hv201 with ⟨h202, hv201⟩ | ⟨h202, hv201⟩
    ·
     refine WL.setB 32 h202 rfl ?_
     refine sg 39 [] e18 e15 (by kernel_rfl) ?_
     injection hv201 with hv201
     subst hv201
     exact WL.toV K () e38 rfl trivial
    refine WL.setB 32 h202 rfl ?_
    refine sg 22 [] e44 e17 (by kernel_rfl) ?_
    obtain ⟨h203, hv201⟩ := as_some hv201
    refine seg 28 [] e33 [(0, e4), e5, e8, e30, (33, e4), (35, (.pointer e53)), (40, e4), (41, e37), e60] [.idx Ag (0 : Int) p2.length] (fun fb => by kernel_rfl) rfl ⟨rowR.adr (hS198.rd 6).1 h203.1 h203.2, trivial⟩ ?_
    obtain ⟨h204, hv201⟩ := as_some hv201
    refine seg 30 [.v (iv e19)] e56 [(0, e4), e5, e8, e30, (33, e4), (35, (.pointer e53)), (40, e4), e54] [.idx Ag e6 p2.length, .cell e27 (iv e19)] (fun fb => by kernel_rfl) rfl ⟨rowR.adr (hS198.rd 6).1 h204.1 h204.2, rowR.cell (hS198.rd 6).1 0 h204.1 h204.2 0 rfl, trivial⟩ ?_
    obtain ⟨h205, hv201⟩ := as_some hv201
    obtain ⟨h206, hv201⟩ := as_some hv201
    refine seg 39 [.v (iv e11), .v (iv e12), .v (iv e14)] e18 e28 [.idx Aa e19 p0.length, .cell e13 (iv e11), .idx Aa e11 p0.length, .cell e29 (iv e12), .cell e21 (iv e14)] (fun fb => by kernel_rfl) rfl ⟨rowR.adr (hS198.rd 0).1 h206.1 h206.2, rowR.cell (hS198.rd 6).1 0 h203.1 h203.2 0 rfl, rowR.adr (hS198.rd 0).1 h205.1 h205.2, rowR.cell (hS198.rd 0).1 z_Tile h206.1 h206.2 1 rfl, rowR.cell (hS198.rd 0).1 z_Tile h205.1 h205.2 3 rfl, trivial⟩ ?_
    injection hv201 with hv201
    subst hv201
    exact WL.toV K () e38 rfl trivial
   rintro _ _
   refine WL.done rfl ?_
   injection hx10 with hx10
   exact WX.to Kx9 b200 e18 rfl ⟨(hS198.subR e10).sub [0] (by decide), hx10.symm⟩
  refine sg 4 [] e36 [(0, e4), e5, e8, (16, (bv (decide e23)))] (by kernel_rfl) ?_
  refine WL.setB 16 h11 rfl ?_
  refine segF 6 [.v e45, .v e40, .v e41, .v e46, .v e47] e42 [(0, e4), e5, e8, e50, (17, e4), (18, (.agg e2))] [] e51 e7 (fun fb => by kernel_rfl) rfl trivial rfl ?_
  obtain ⟨t207, ht208, hx10⟩ := bind_some hx10
  refine WL.call (some 19) 8 #[e4, (.agg e2)] (fun fb => by kernel_rfl) (law06_wide_calls p0 p1 Aa ca Ab cb Ac cc Ad cd Ae ce Af cf t207 _ (hS15.rd 0) (hS15.rd 1) (hS15.rd 2) (hS15.rd 3) (hS15.rd 4) (hS15.rd 5) ht208) (fun v w209 hR210 => ?_)
  obtain ⟨rfl, hk_⟩ := hR210
  have hS211 := hS15.keepN hk_
  refine ⟨trivial, ?_⟩
  refine sg 9 [] e57 [(0, e4), e5, e8, (21, (bv t207))] (by kernel_rfl) ?_
  obtain ⟨x212, hx213, hx10⟩ := bind_some hx10
  refine WL.cutW (T := Bool) 13 (fun t => [(0, e4), e5, e8, (25, (bv t))]) (fun t w1 => (St NoS w w1 e1 [blk g1 (.cells e2 26 (0, 0))] ∧ x212 = t) ∧ CellsOK [] w1) (fun K => ?_) ?_
  ·
   rcases br_some hx213 with ⟨h214, hx213⟩ | ⟨h214, hx213⟩
   ·
    refine WL.setB 21 h214 rfl ?_
    refine sg 13 [] e24 e31 (by kernel_rfl) ?_
    injection hx213 with hx213
    exact WL.to K true e24 rfl ⟨⟨(hS211.subR e10).sub [0] (by decide), hx213.symm⟩, trivial⟩
   refine WL.setB 21 h214 rfl ?_
   refine sg 10 [] e49 e26 (by kernel_rfl) ?_
   obtain ⟨t215, ht216, hx213⟩ := bind_some hx213
   refine WL.call (some 23) 20 #[e4] (fun fb => by kernel_rfl) (ref01_Valid_calls _ p0 Aa ca t215 _ (hS211.rd 0) ht216) (fun v w217 hR218 => ?_)
   obtain ⟨rfl, hk_⟩ := hR218
   have hS219 := hS211.keepN hk_
   refine ⟨trivial, ?_⟩
   refine sg 13 [] e24 [(0, e4), e5, e8, (25, (bv (!t215)))] (by kernel_rfl) ?_
   injection hx213 with hx213
   exact WL.to K (!t215) e24 rfl ⟨⟨(hS219.subR e10).sub [0] (by decide), hx213.symm⟩, trivial⟩
  rintro y220 w222 ⟨⟨hS223, hq221⟩, hF224⟩
  subst hq221
  refine sg 14 [] e58 [(0, e4), e5, e8, (26, (bv x212))] (by kernel_rfl) ?_
  obtain ⟨x225, hx226, hx10⟩ := bind_some hx10
  refine WL.cutW (T := Bool) 19 (fun t => [(0, e4), e5, e8, (31, (bv t))]) (fun t w1 => (St NoS w w1 e1 [blk g1 (.cells e2 26 (0, 0))] ∧ x225 = t) ∧ CellsOK [] w1) (fun K => ?_) ?_
  ·
   rcases br_some hx226 with ⟨h227, hx226⟩ | ⟨h227, hx226⟩
   ·
    refine WL.setB 26 h227 rfl ?_
    refine sg 19 [] e25 e32 (by kernel_rfl) ?_
    injection hx226 with hx226
    exact WL.to K true e25 rfl ⟨⟨(hS223.subR e10).sub [0] (by decide), hx226.symm⟩, trivial⟩
   refine WL.setB 26 h227 rfl ?_
   refine sg 16 [] e43 e16 (by kernel_rfl) ?_
   obtain ⟨t228, ht229, hx226⟩ := bind_some hx226
   refine WL.call (some 29) 15 #[e4, e37] (fun fb => by kernel_rfl) (ref06_IsRow_calls _ p0 p2 Aa ca Ag cg t228 _ (hS223.rd 0) (hS223.rd 6) ht229) (fun v w230 hR231 => ?_)
   obtain ⟨rfl, hk_⟩ := hR231
   have hS232 := hS223.keepN hk_
   refine ⟨trivial, ?_⟩
   refine sg 19 [] e25 [(0, e4), e5, e8, (31, (bv (!t228)))] (by kernel_rfl) ?_
   injection hx226 with hx226
   exact WL.to K (!t228) e25 rfl ⟨⟨(hS232.subR e10).sub [0] (by decide), hx226.symm⟩, trivial⟩
  rintro y233 w235 ⟨⟨hS236, hq234⟩, hF237⟩
  subst hq234
  refine sg 20 [] e59 [(0, e4), e5, e8, (32, (bv x225))] (by kernel_rfl) ?_
  obtain ⟨b238, hv239, hx10⟩ := bind_some hx10
  refine WL.cutV (T := Unit) 39 (fun t => [(51, (bv b238)), (0, e4), e5, e8]) (fun t => True) (fun K => ?_) ?_
  ·
   rcases br_some hv239 with ⟨h240, hv239⟩ | ⟨h240, hv239⟩
   ·
    refine WL.setB 32 h240 rfl ?_
    refine sg 39 [] e18 e15 (by kernel_rfl) ?_
    injection hv239 with hv239
    subst hv239
    exact WL.toV K () e38 rfl trivial
   refine WL.setB 32 h240 rfl ?_
   refine sg 22 [] e44 e17 (by kernel_rfl) ?_
   obtain ⟨h241, hv239⟩ := as_some hv239
   refine seg 28 [] e33 [(0, e4), e5, e8, e30, (33, e4), (35, (.pointer e53)), (40, e4), (41, e37), e60] [.idx Ag (0 : Int) p2.length] (fun fb => by kernel_rfl) rfl ⟨rowR.adr (hS236.rd 6).1 h241.1 h241.2, trivial⟩ ?_
   obtain ⟨h242, hv239⟩ := as_some hv239
   refine seg 30 [.v (iv e19)] e56 [(0, e4), e5, e8, e30, (33, e4), (35, (.pointer e53)), (40, e4), e54] [.idx Ag e6 p2.length, .cell e27 (iv e19)] (fun fb => by kernel_rfl) rfl ⟨rowR.adr (hS236.rd 6).1 h242.1 h242.2, rowR.cell (hS236.rd 6).1 0 h242.1 h242.2 0 rfl, trivial⟩ ?_
   obtain ⟨h243, hv239⟩ := as_some hv239
   obtain ⟨h244, hv239⟩ := as_some hv239
   refine seg 39 [.v (iv e12), .v (iv e11), .v (iv e14)] e18 e28 [.idx Aa e19 p0.length, .cell e29 (iv e12), .cell e13 (iv e11), .idx Aa e11 p0.length, .cell e21 (iv e14)] (fun fb => by kernel_rfl) rfl ⟨rowR.adr (hS236.rd 0).1 h244.1 h244.2, rowR.cell (hS236.rd 0).1 z_Tile h244.1 h244.2 1 rfl, rowR.cell (hS236.rd 6).1 0 h241.1 h241.2 0 rfl, rowR.adr (hS236.rd 0).1 h243.1 h243.2, rowR.cell (hS236.rd 0).1 z_Tile h243.1 h243.2 3 rfl, trivial⟩ ?_
   injection hv239 with hv239
   subst hv239
   exact WL.toV K () e38 rfl trivial
  rintro _ _
  refine WL.done rfl ?_
  injection hx10 with hx10
  exact WX.to Kx9 b238 e18 rfl ⟨(hS236.subR e10).sub [0] (by decide), hx10.symm⟩
 rintro y248 w245 ⟨hS246, hq247⟩
 subst hq247
 refine WX.next ?_
 rcases br_some hf with ⟨h249, hf⟩ | ⟨h249, hf⟩
 ·refine WC.condT2 (fun fb => by kernel_rfl) h249 ?_
  refine WC.seq (WC.region ?_)
  obtain ⟨t250, ht251, hf⟩ := bind_some hf
  refine WL.call (some 52) 10 #[] (fun fb => by kernel_rfl) (law06_awake_calls _ mG t250 _ (hS246.rd 7) (hS246.rd 8) ht251) (fun v w252 hR253 => ?_)
  obtain ⟨rfl, hk_⟩ := hR253
  have hS254 := hS246.keepN hk_
  refine ⟨trivial, ?_⟩
  refine sg 2 [] [6] [(6, (bv t250))] (by kernel_rfl) ?_
  refine WL.done rfl (WX.next ?_)
  refine WC.ret ?_
  injection hf with hf
  subst hf
  exact WX.thenR (WX.ret_ [] (bv t250) [] (fun fb => by kernel_rfl) trivial ⟨_, rfl, rfl, hS254.keep⟩)
 refine WC.condF2 (fun fb => by kernel_rfl) h249 ?_
 refine WC.skip (WX.next (WC.seq (WC.region ?_)))
 refine seg 2 [.v e45, .v e40, .v e41, .v e46, .v e47] [0, 2, 4, 54, 55] [(0, e4), e5, e8, (54, e4), (55, (.agg e2))] [.cell ⟨g1, 0, none⟩ e45, .cell ⟨g1, 1, none⟩ e40, .cell ⟨g1, 2, none⟩ e41, .cell ⟨g1, 3, none⟩ e46, .cell ⟨g1, 4, none⟩ e47] (fun fb => by kernel_rfl) rfl ⟨hS246.cell 0 rfl 0 rfl, hS246.cell 0 rfl 1 rfl, hS246.cell 0 rfl 2 rfl, hS246.cell 0 rfl 3 rfl, hS246.cell 0 rfl 4 rfl, trivial⟩ ?_
 obtain ⟨t255, ht256, hf⟩ := bind_some hf
 refine WL.call (some 56) 11 #[e4, (.agg e2)] (fun fb => by kernel_rfl) (weight_Check_calls _ p0 p1 Aa ca Ab cb Ac cc Ad cd Ae ce Af cf t255 _ (hS246.rd 0) (hS246.rd 1) (hS246.rd 2) (hS246.rd 3) (hS246.rd 4) (hS246.rd 5) (hS246.rd 7) ht256) (fun v w257 hR258 => ?_)
 obtain ⟨rfl, hk_⟩ := hR258
 have hS259 := hS246.keepN hk_
 refine ⟨trivial, ?_⟩
 refine sg 8 [] [0, 2, 4, 7, 8] [(0, e4), e5, e8, (7, (bv t255.1)), (8, (iv t255.2))] (by kernel_rfl) ?_
 refine WL.done rfl (WX.next (WC.seq (WC.seq (WC.region ?_))))
 refine sg 3 [] [0, 2, 4, 7, 8, 61] [(0, e4), e5, e8, (7, (bv t255.1)), (8, (iv t255.2)), (61, (bv (t255.2 != 0)))] (by kernel_rfl) ?_
 refine WL.cutV (T := Bool) 6 (fun t => [(64, (bv t)), (0, e4), e5, e8, (8, (iv t255.2))]) (fun t => ((t255.2 != 0) || (!t255.1)) = t) (fun K => ?_) ?_
 ·
  rcases Bool.eq_false_or_eq_true (t255.2 != 0) with h260 | h260
  ·
   refine WL.setB 61 h260 rfl ?_
   refine sg 6 [] [0, 2, 4, 8, 64] [(0, e4), e5, e8, (8, (iv t255.2)), (64, (bv true))] (by kernel_rfl) ?_
   exact WL.toV K true [64, 0, 2, 4, 8] rfl (by first | (rw [h260]; done) | (rw [h260]; rfl))
  refine WL.setB 61 h260 rfl ?_
  refine sg 6 [] [0, 2, 4, 8, 64] [(0, e4), e5, e8, (8, (iv t255.2)), (64, (bv (!t255.1)))] (by kernel_rfl) ?_
  exact WL.toV K (!t255.1) [64, 0, 2, 4, 8] rfl (by first | (rw [h260]; done) | (rw [h260]; rfl))
 rintro b261 rfl
 refine sg 7 [] [0, 2, 4, 8, 65] [(0, e4), e5, e8, (8, (iv t255.2)), (65, (bv ((t255.2 != 0) || (!t255.1))))] (by kernel_rfl) ?_
 refine WL.cutV (T := Bool) 14 (fun t => [(72, (bv t)), (0, e4), e5, e8, (8, (iv t255.2))]) (fun t => (((t255.2 != 0) || (!t255.1)) || ((p1.Factors.length : Int) != (p0.length : Int))) = t) (fun K => ?_) ?_
 ·
  rcases Bool.eq_false_or_eq_true ((t255.2 != 0) || (!t255.1)) with h262 | h262
  ·
   refine WL.setB 65 h262 rfl ?_
   refine sg 14 [] [0, 2, 4, 8, 72] [(0, e4), e5, e8, (8, (iv t255.2)), (72, (bv true))] (by kernel_rfl) ?_
   exact WL.toV K true [72, 0, 2, 4, 8] rfl (by first | (rw [h262]; done) | (rw [h262]; rfl))
  refine WL.setB 65 h262 rfl ?_
  refine seg 14 [.v e41] [0, 2, 4, 8, 72] [(0, e4), e5, e8, (8, (iv t255.2)), (72, (bv ((p1.Factors.length : Int) != (p0.length : Int))))] [.cell ⟨g1, 2, none⟩ e41] (fun fb => by kernel_rfl) rfl ⟨hS259.cell 0 rfl 2 rfl, trivial⟩ ?_
  exact WL.toV K ((p1.Factors.length : Int) != (p0.length : Int)) [72, 0, 2, 4, 8] rfl (by first | (rw [h262]; done) | (rw [h262]; rfl))
 rintro b263 rfl
 refine WL.done rfl (WX.next ?_)
 rcases br_some hf with ⟨h264, hf⟩ | ⟨h264, hf⟩
 ·refine WC.condT2 (fun fb => by kernel_rfl) h264 ?_
  refine WC.seq (WC.region ?_)
  refine sg 3 [] [8, 75] [(8, (iv t255.2)), (75, (bv (t255.2 == 0)))] (by kernel_rfl) ?_
  refine WL.cutV (T := Bool) 6 (fun t => [(78, (bv t))]) (fun t => ((t255.2 == 0) || (t255.2 == 1)) = t) (fun K => ?_) ?_
  ·
   rcases Bool.eq_false_or_eq_true (t255.2 == 0) with h265 | h265
   ·
    refine WL.setB 75 h265 rfl ?_
    refine sg 6 [] [78] [(78, (bv true))] (by kernel_rfl) ?_
    exact WL.toV K true [78] rfl (by first | (rw [h265]; done) | (rw [h265]; rfl))
   refine WL.setB 75 h265 rfl ?_
   refine sg 6 [] [78] [(78, (bv (t255.2 == 1)))] (by kernel_rfl) ?_
   exact WL.toV K (t255.2 == 1) [78] rfl (by first | (rw [h265]; done) | (rw [h265]; rfl))
  rintro b266 rfl
  refine sg 7 [] [79] [(79, (bv ((t255.2 == 0) || (t255.2 == 1))))] (by kernel_rfl) ?_
  obtain ⟨x267, hx268, hf⟩ := bind_some hf
  refine WL.cutW (T := Bool) 9 (fun t => [(81, (bv t))]) (fun t w1 => (St NoS w w1 e1 [] ∧ x267 = t) ∧ CellsOK [] w1) (fun K => ?_) ?_
  ·
   rcases br_some hx268 with ⟨h269, hx268⟩ | ⟨h269, hx268⟩
   ·
    refine WL.setB 79 h269 rfl ?_
    obtain ⟨t270, ht271, hx268⟩ := bind_some hx268
    refine WL.call (some 80) 10 #[] (fun fb => by kernel_rfl) (law06_awake_calls _ mG t270 _ (hS259.rd 7) (hS259.rd 8) ht271) (fun v w272 hR273 => ?_)
    obtain ⟨rfl, hk_⟩ := hR273
    have hS274 := hS259.keepN hk_
    refine ⟨trivial, ?_⟩
    refine sg 9 [] [81] [(81, (bv t270))] (by kernel_rfl) ?_
    injection hx268 with hx268
    exact WL.to K t270 [81] rfl ⟨⟨(hS274.subR e10).sub [] (by decide), hx268.symm⟩, trivial⟩
   refine WL.setB 79 h269 rfl ?_
   refine sg 9 [] [81] [(81, (bv false))] (by kernel_rfl) ?_
   injection hx268 with hx268
   exact WL.to K false [81] rfl ⟨⟨(hS259.subR e10).sub [] (by decide), hx268.symm⟩, trivial⟩
  rintro y275 w277 ⟨⟨hS278, hq276⟩, hF279⟩
  subst hq276
  refine sg 10 [] [6] [(6, (bv x267))] (by kernel_rfl) ?_
  refine WL.done rfl (WX.next ?_)
  refine WC.ret ?_
  injection hf with hf
  subst hf
  exact WX.thenR (WX.ret_ [] (bv x267) [] (fun fb => by kernel_rfl) trivial ⟨_, rfl, rfl, hS278.keep⟩)
 refine WC.condF2 (fun fb => by kernel_rfl) h264 ?_
 refine WC.skip (WX.next (WC.seq (WC.region ?_)))
 refine seg 3 [.v e45, .v e40, .v e41, .v e46, .v e47] [2, 4, 83, 84, 85] [e5, e8, (83, e4), (84, (.agg e2)), (85, e37)] [.cell ⟨g1, 0, none⟩ e45, .cell ⟨g1, 1, none⟩ e40, .cell ⟨g1, 2, none⟩ e41, .cell ⟨g1, 3, none⟩ e46, .cell ⟨g1, 4, none⟩ e47] (fun fb => by kernel_rfl) rfl ⟨hS259.cell 0 rfl 0 rfl, hS259.cell 0 rfl 1 rfl, hS259.cell 0 rfl 2 rfl, hS259.cell 0 rfl 3 rfl, hS259.cell 0 rfl 4 rfl, trivial⟩ ?_
 obtain ⟨t280, ht281, hf⟩ := bind_some hf
 refine WL.call (some 86) 14 #[e4, (.agg e2), e37] (fun fb => by kernel_rfl) (weight_Row_calls _ p0 p1 p2 Aa ca Ab cb Ac cc Ad cd Ae ce Af cf Ag cg t280 _ (hS259.rd 0) (hS259.rd 1) (hS259.rd 2) (hS259.rd 3) (hS259.rd 4) (hS259.rd 5) (hS259.rd 6) ht281) (fun v w282 hR283 => ?_)
 obtain ⟨rfl, hk_⟩ := hR283
 have hS284 := hS259.keepN hk_
 refine ⟨trivial, ?_⟩
 refine sg 8 [] [2, 4, 87, 88, 89] [e5, e8, (87, (.agg #[(iv t280.1.Num), (iv t280.1.Den)])), (88, (.agg #[(iv t280.2.1.Num), (iv t280.2.1.Den)])), (89, (iv t280.2.2))] (by kernel_rfl) ?_
 refine WL.new hS284 9 [] (fun g => (pt g)) (.cells #[(iv 0), (iv 0)] 33 (0, 0)) [] (fun fb g => by kernel_rfl) trivial (fun g285 w286 hS287 => ?_)
 refine ⟨trivial, ?_⟩
 refine WL.new hS287 10 [] (fun g => (pt g)) (.cells #[(iv 0), (iv 0)] 33 (0, 0)) [] (fun fb g => by kernel_rfl) trivial (fun g288 w289 hS290 => ?_)
 refine ⟨trivial, ?_⟩
 refine WL.store hS290 1 rfl [(0, (iv t280.1.Num)), (1, (iv t280.1.Den))] #[(iv t280.1.Num), (iv t280.1.Den)] (fun fb => by kernel_rfl) (by kernel_rfl) rfl [0, 2] (by decide) (by decide) (fun w291 hS292 => ?_)
 refine ⟨trivial, ?_⟩
 refine WL.store hS292 1 rfl [(0, (iv t280.2.1.Num)), (1, (iv t280.2.1.Den))] #[(iv t280.2.1.Num), (iv t280.2.1.Den)] (fun fb => by kernel_rfl) (by kernel_rfl) rfl [0, 2] (by decide) (by decide) (fun w293 hS294 => ?_)
 refine ⟨trivial, ?_⟩
 refine sg 13 [] [2, 4, 9, 10, 11] [e5, e8, (9, (pt g285)), (10, (pt g288)), (11, (iv t280.2.2))] (by kernel_rfl) ?_
 refine WL.done rfl (WX.next (WC.seq (WC.seq (WC.region ?_))))
 refine sg 2 [] [2, 4, 9, 10, 11, 91] [e5, e8, (9, (pt g285)), (10, (pt g288)), (11, (iv t280.2.2)), (91, (bv (t280.2.2 != 0)))] (by kernel_rfl) ?_
 refine WL.done rfl (WX.next ?_)
 rcases br_some hf with ⟨h295, hf⟩ | ⟨h295, hf⟩
 ·refine WC.condT2 (fun fb => by kernel_rfl) h295 ?_
  refine WC.seq (WC.region ?_)
  refine sg 3 [] [94] [(94, (bv (t280.2.2 == 4)))] (by kernel_rfl) ?_
  obtain ⟨x296, hx297, hf⟩ := bind_some hf
  refine WL.cutW (T := Bool) 5 (fun t => [(96, (bv t))]) (fun t w1 => (St NoS w w1 e1 [] ∧ x296 = t) ∧ CellsOK [] w1) (fun K => ?_) ?_
  ·
   rcases br_some hx297 with ⟨h298, hx297⟩ | ⟨h298, hx297⟩
   ·
    refine WL.setB 94 h298 rfl ?_
    obtain ⟨t299, ht300, hx297⟩ := bind_some hx297
    refine WL.call (some 95) 10 #[] (fun fb => by kernel_rfl) (law06_awake_calls _ mG t299 _ (hS294.rd 7) (hS294.rd 8) ht300) (fun v w301 hR302 => ?_)
    obtain ⟨rfl, hk_⟩ := hR302
    have hS303 := hS294.keepN hk_
    refine ⟨trivial, ?_⟩
    refine sg 5 [] [96] [(96, (bv t299))] (by kernel_rfl) ?_
    injection hx297 with hx297
    exact WL.to K t299 [96] rfl ⟨⟨(hS303.subR e10).sub [] (by decide), hx297.symm⟩, trivial⟩
   refine WL.setB 94 h298 rfl ?_
   refine sg 5 [] [96] [(96, (bv false))] (by kernel_rfl) ?_
   injection hx297 with hx297
   exact WL.to K false [96] rfl ⟨⟨(hS294.subR e10).sub [] (by decide), hx297.symm⟩, trivial⟩
  rintro y304 w306 ⟨⟨hS307, hq305⟩, hF308⟩
  subst hq305
  refine sg 6 [] [6] [(6, (bv x296))] (by kernel_rfl) ?_
  refine WL.done rfl (WX.next ?_)
  refine WC.ret ?_
  injection hf with hf
  subst hf
  exact WX.thenR (WX.ret_ [] (bv x296) [] (fun fb => by kernel_rfl) trivial ⟨_, rfl, rfl, hS307.keep⟩)
 refine WC.condF2 (fun fb => by kernel_rfl) h295 ?_
 refine WC.skip (WX.next (WC.seq ?_))
 obtain ⟨h311, hf⟩ := as_some hf
 obtain ⟨h312, hf⟩ := as_some hf
 refine WC.regionD ([(1, ⟨g1, 2, none⟩, e41), (4, e13, (iv e11)), (6, ((adr Ad).add ((e11).toNat * 2)), (iv ((rdD p1.Factors e11 z_Frac).Num))), (6, (((adr Ad).add ((e11).toNat * 2)).add 1), (iv ((rdD p1.Factors e11 z_Frac).Den)))], [0, 1, 2, 3, 4, 5, 6], [[], [0], [], [2], [2, 3], e51, [0, 1, 2, 3, 4, 5], [], [0, 1, 2, 3, 4, 5, 6, 7]]) [e10] (by kernel_rfl) (by kernel_rfl) (NoPanic.seq (NoPanic.body)) ?_
 have hS310 := hS294.drew
 revert hS310
 generalize World.drew w293 = w309
 intro hS310
 refine ⟨⟨hS310.cell 2 rfl 2 rfl, rowR.cell (hS310.rd 6).1 0 h311.1 h311.2 0 rfl, rowR.cell (hS310.rd 3).1 z_Frac h312.1 h312.2 0 rfl, rowR.cell (hS310.rd 3).1 z_Frac h312.1 h312.2 1 rfl, trivial⟩, forallC ?_ (forallN)⟩
 let e34 := rdD p1.Factors e11 z_Frac
 refine segF 7 [.v e41, .v (iv e11), .v (iv (e34.Num)), .v (iv (e34.Den))] [9, 10, 103] [(9, (pt g285)), (10, (pt g288)), (103, (.agg #[(iv (e34.Num)), (iv (e34.Den))]))] [.idx Ag (0 : Int) p2.length, .idx Ad e11 p1.Factors.length] [0, 1, 2, 3] [(1, ⟨g1, 2, none⟩, e41), (4, e13, (iv e11)), (6, ((adr Ad).add ((e11).toNat * 2)), (iv (e34.Num))), (6, (((adr Ad).add ((e11).toNat * 2)).add 1), (iv (e34.Den)))] (fun fb => by kernel_rfl) rfl ⟨rowR.adr (hS310.rd 6).1 h311.1 h311.2, rowR.adr (hS310.rd 3).1 h312.1 h312.2, trivial⟩ rfl ?_
 refine WL.new hS310 12 [] (fun g => (pt g)) (.cells #[(iv 0), (iv 0)] 33 (0, 0)) [] (fun fb g => by kernel_rfl) trivial (fun g313 w314 hS315 => ?_)
 refine ⟨⟨hS315.cell 3 rfl 2 rfl, rowR.cell (hS315.rd 6).1 0 h311.1 h311.2 0 rfl, rowR.cell (hS315.rd 3).1 z_Frac h312.1 h312.2 0 rfl, rowR.cell (hS315.rd 3).1 z_Frac h312.1 h312.2 1 rfl, trivial⟩, ?_⟩
 refine WL.store hS315 0 rfl [(0, (iv (e34.Num))), (1, (iv (e34.Den)))] #[(iv (e34.Num)), (iv (e34.Den))] (fun fb => by kernel_rfl) (by kernel_rfl) rfl [1, 2, 3] (by decide) (by decide) (fun w316 hS317 => ?_)
 refine ⟨trivial, ?_⟩
 refine WL.done rfl (WX.next (WC.seq (WC.seq (WC.region ?_))))
 refine seg 1 [.v (iv t280.1.Num), .v (iv t280.1.Den)] [9, 10, 12, 104] [(9, (pt g285)), (10, (pt g288)), (12, (pt g313)), (104, (.agg #[(iv t280.1.Num), (iv t280.1.Den)]))] [.cell ⟨g285, 0, none⟩ (iv t280.1.Num), .cell ⟨g285, 1, none⟩ (iv t280.1.Den)] (fun fb => by kernel_rfl) rfl ⟨hS317.cell 2 rfl 0 rfl, hS317.cell 2 rfl 1 rfl, trivial⟩ ?_
 obtain ⟨t318, ht319, hf⟩ := bind_some hf
 refine WL.call (some 105) 18 #[(.agg #[(iv t280.1.Num), (iv t280.1.Den)])] (fun fb => by kernel_rfl) (ref06_Fits_calls t280.1 t318 _ ht319) (fun v w320 hR321 => ?_)
 obtain ⟨rfl, hk_⟩ := hR321
 have hS322 := hS317.keepN hk_
 refine ⟨trivial, ?_⟩
 refine sg 4 [] [9, 10, 12, 107] [(9, (pt g285)), (10, (pt g288)), (12, (pt g313)), (107, (bv (!t318)))] (by kernel_rfl) ?_
 obtain ⟨x323, hx324, hf⟩ := bind_some hf
 let e48 : Array Value := #[(iv t280.2.1.Num), (iv t280.2.1.Den)]
 refine WL.cutW (T := Bool) 8 (fun t => [(9, (pt g285)), (10, (pt g288)), (12, (pt g313)), (111, (bv t))]) (fun t w1 => (St NoS w w1 e1 [blk g285 (.cells #[(iv t280.1.Num), (iv t280.1.Den)] 33 (0, 0)), blk g288 (.cells e48 33 (0, 0)), blk g313 (.cells #[(iv (e34.Num)), (iv (e34.Den))] 33 (0, 0))] ∧ x323 = t) ∧ CellsOK [] w1) (fun K => ?_) ?_
 ·
  rcases br_some hx324 with ⟨h325, hx324⟩ | ⟨h325, hx324⟩
  ·
   refine WL.setB 107 h325 rfl ?_
   refine sg 8 [] [9, 10, 12, 111] [(9, (pt g285)), (10, (pt g288)), (12, (pt g313)), (111, (bv true))] (by kernel_rfl) ?_
   injection hx324 with hx324
   exact WL.to K true [9, 10, 12, 111] rfl ⟨⟨(hS322.subR e10).sub [2, 1, 0] (by decide), hx324.symm⟩, trivial⟩
  refine WL.setB 107 h325 rfl ?_
  refine seg 5 [.v (iv t280.2.1.Num), .v (iv t280.2.1.Den)] [9, 10, 12, 107, 108] [(9, (pt g285)), (10, (pt g288)), (12, (pt g313)), (107, (bv false)), (108, (.agg e48))] [.cell ⟨g288, 0, none⟩ (iv t280.2.1.Num), .cell ⟨g288, 1, none⟩ (iv t280.2.1.Den)] (fun fb => by kernel_rfl) rfl ⟨hS322.cell 1 rfl 0 rfl, hS322.cell 1 rfl 1 rfl, trivial⟩ ?_
  obtain ⟨t326, ht327, hx324⟩ := bind_some hx324
  refine WL.call (some 109) 18 #[(.agg e48)] (fun fb => by kernel_rfl) (ref06_Fits_calls t280.2.1 t326 _ ht327) (fun v w328 hR329 => ?_)
  obtain ⟨rfl, hk_⟩ := hR329
  have hS330 := hS322.keepN hk_
  refine ⟨trivial, ?_⟩
  refine sg 8 [] [9, 10, 12, 111] [(9, (pt g285)), (10, (pt g288)), (12, (pt g313)), (111, (bv (!t326)))] (by kernel_rfl) ?_
  injection hx324 with hx324
  exact WL.to K (!t326) [9, 10, 12, 111] rfl ⟨⟨(hS330.subR e10).sub [2, 1, 0] (by decide), hx324.symm⟩, trivial⟩
 rintro y331 w333 ⟨⟨hS334, hq332⟩, hF335⟩
 subst hq332
 refine sg 9 [] [9, 10, 12, 112] [(9, (pt g285)), (10, (pt g288)), (12, (pt g313)), (112, (bv x323))] (by kernel_rfl) ?_
 obtain ⟨x336, hx337, hf⟩ := bind_some hf
 let e22 := rdD p1.Factors e11 z_Frac
 let e52 : Array Value := #[(iv (e22.Num)), (iv (e22.Den))]
 refine WL.cutW (T := Bool) 13 (fun t => [(9, (pt g285)), (10, (pt g288)), (12, (pt g313)), (116, (bv t))]) (fun t w1 => (St NoS w w1 e1 [blk g285 (.cells #[(iv t280.1.Num), (iv t280.1.Den)] 33 (0, 0)), blk g288 (.cells e48 33 (0, 0)), blk g313 (.cells e52 33 (0, 0))] ∧ x336 = t) ∧ CellsOK [] w1) (fun K => ?_) ?_
 ·
  rcases br_some hx337 with ⟨h338, hx337⟩ | ⟨h338, hx337⟩
  ·
   refine WL.setB 112 h338 rfl ?_
   refine sg 13 [] [9, 10, 12, 116] [(9, (pt g285)), (10, (pt g288)), (12, (pt g313)), (116, (bv true))] (by kernel_rfl) ?_
   injection hx337 with hx337
   exact WL.to K true [9, 10, 12, 116] rfl ⟨⟨(hS334.subR e10).sub [0, 1, 2] (by decide), hx337.symm⟩, trivial⟩
  refine WL.setB 112 h338 rfl ?_
  refine seg 10 [.v (iv (e22.Num)), .v (iv (e22.Den))] [9, 10, 12, 112, 113] [(9, (pt g285)), (10, (pt g288)), (12, (pt g313)), (112, (bv false)), (113, (.agg e52))] [.cell ⟨g313, 0, none⟩ (iv (e22.Num)), .cell ⟨g313, 1, none⟩ (iv (e22.Den))] (fun fb => by kernel_rfl) rfl ⟨hS334.cell 2 rfl 0 rfl, hS334.cell 2 rfl 1 rfl, trivial⟩ ?_
  obtain ⟨t339, ht340, hx337⟩ := bind_some hx337
  refine WL.call (some 114) 18 #[(.agg e52)] (fun fb => by kernel_rfl) (ref06_Fits_calls e22 t339 _ ht340) (fun v w341 hR342 => ?_)
  obtain ⟨rfl, hk_⟩ := hR342
  have hS343 := hS334.keepN hk_
  refine ⟨trivial, ?_⟩
  refine sg 13 [] [9, 10, 12, 116] [(9, (pt g285)), (10, (pt g288)), (12, (pt g313)), (116, (bv (!t339)))] (by kernel_rfl) ?_
  injection hx337 with hx337
  exact WL.to K (!t339) [9, 10, 12, 116] rfl ⟨⟨(hS343.subR e10).sub [0, 1, 2] (by decide), hx337.symm⟩, trivial⟩
 rintro y344 w346 ⟨⟨hS347, hq345⟩, hF348⟩
 subst hq345
 refine WL.done rfl (WX.next ?_)
 rcases br_some hf with ⟨h349, hf⟩ | ⟨h349, hf⟩
 ·refine WC.condT2 (fun fb => by kernel_rfl) h349 ?_
  refine WC.seq (WC.region ?_)
  refine sg 1 [] [6] [(6, (bv false))] (by kernel_rfl) ?_
  refine WL.done rfl (WX.next ?_)
  refine WC.ret ?_
  injection hf with hf
  subst hf
  exact WX.thenR (WX.ret_ [] (bv false) [] (fun fb => by kernel_rfl) trivial ⟨_, rfl, rfl, hS347.keep⟩)
 refine WC.condF2 (fun fb => by kernel_rfl) h349 ?_
 refine WC.skip (WX.next (WC.seq (WC.region ?_)))
 refine seg 4 [.v (iv t280.1.Num)] [9, 10, 12, 120] [(9, (pt g285)), (10, (pt g288)), (12, (pt g313)), (120, (bv (decide (t280.1.Num > 0))))] [.cell ⟨g285, 0, none⟩ (iv t280.1.Num)] (fun fb => by kernel_rfl) rfl ⟨hS347.cell 0 rfl 0 rfl, trivial⟩ ?_
 let e39 := (w64 ((w64 (t280.2.1.Num * t280.1.Den)) * (e22.Den))) == (w64 ((w64 ((e22.Num) * t280.1.Num)) * t280.2.1.Den))
 refine WL.cutV (T := Bool) 22 (fun t => [(138, (bv t))]) (fun t => ((decide (t280.1.Num > 0)) && e39) = t) (fun K => ?_) ?_
 ·
  rcases Bool.eq_false_or_eq_true (decide (t280.1.Num > 0)) with h350 | h350
  ·
   refine WL.setB 120 h350 rfl ?_
   refine seg 22 [.v (iv t280.2.1.Num), .v (iv t280.1.Den), .v (iv (e22.Den)), .v (iv (e22.Num)), .v (iv t280.1.Num), .v (iv t280.2.1.Den)] [138] [(138, (bv e39))] [.cell ⟨g288, 0, none⟩ (iv t280.2.1.Num), .cell ⟨g285, 1, none⟩ (iv t280.1.Den), .cell ⟨g313, 1, none⟩ (iv (e22.Den)), .cell ⟨g313, 0, none⟩ (iv (e22.Num)), .cell ⟨g285, 0, none⟩ (iv t280.1.Num), .cell ⟨g288, 1, none⟩ (iv t280.2.1.Den)] (fun fb => by kernel_rfl) rfl ⟨hS347.cell 1 rfl 0 rfl, hS347.cell 0 rfl 1 rfl, hS347.cell 2 rfl 1 rfl, hS347.cell 2 rfl 0 rfl, hS347.cell 0 rfl 0 rfl, hS347.cell 1 rfl 1 rfl, trivial⟩ ?_
   exact WL.toV K ((w64 ((w64 (t280.2.1.Num * t280.1.Den)) * ((rdD p1.Factors (rdD p2 (0 : Int) 0) z_Frac).Den))) == (w64 ((w64 (((rdD p1.Factors (rdD p2 (0 : Int) 0) z_Frac).Num) * t280.1.Num)) * t280.2.1.Den))) [138] rfl (by first | (rw [h350]; done) | (rw [h350]; rfl))
  refine WL.setB 120 h350 rfl ?_
  refine sg 22 [] [138] [(138, (bv false))] (by kernel_rfl) ?_
  exact WL.toV K false [138] rfl (by first | (rw [h350]; done) | (rw [h350]; rfl))
 rintro b351 rfl
 refine sg 23 [] [139] [(139, (bv ((decide (t280.1.Num > 0)) && e39)))] (by kernel_rfl) ?_
 obtain ⟨x352, hx353, hf⟩ := bind_some hf
 refine WL.cutW (T := Bool) 25 (fun t => [(141, (bv t))]) (fun t w1 => (St NoS w w1 e1 [] ∧ x352 = t) ∧ CellsOK [] w1) (fun K => ?_) ?_
 ·
  rcases br_some hx353 with ⟨h354, hx353⟩ | ⟨h354, hx353⟩
  ·
   refine WL.setB 139 h354 rfl ?_
   obtain ⟨t355, ht356, hx353⟩ := bind_some hx353
   refine WL.call (some 140) 10 #[] (fun fb => by kernel_rfl) (law06_awake_calls _ mG t355 _ (hS347.rd 7) (hS347.rd 8) ht356) (fun v w357 hR358 => ?_)
   obtain ⟨rfl, hk_⟩ := hR358
   have hS359 := hS347.keepN hk_
   refine ⟨trivial, ?_⟩
   refine sg 25 [] [141] [(141, (bv t355))] (by kernel_rfl) ?_
   injection hx353 with hx353
   exact WL.to K t355 [141] rfl ⟨⟨(hS359.subR e10).sub [] (by decide), hx353.symm⟩, trivial⟩
  refine WL.setB 139 h354 rfl ?_
  refine sg 25 [] [141] [(141, (bv false))] (by kernel_rfl) ?_
  injection hx353 with hx353
  exact WL.to K false [141] rfl ⟨⟨(hS347.subR e10).sub [] (by decide), hx353.symm⟩, trivial⟩
 rintro y360 w362 ⟨⟨hS363, hq361⟩, hF364⟩
 subst hq361
 refine sg 26 [] [6] [(6, (bv x352))] (by kernel_rfl) ?_
 refine WL.done rfl (WX.next ?_)
 refine WC.ret ?_
 injection hf with hf
 subst hf
 exact WX.ret_ [] (bv x352) [] (fun fb => by kernel_rfl) trivial ⟨_, rfl, rfl, hS363.keep⟩
end Gp
