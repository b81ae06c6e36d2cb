/- Walks: each function of the program computes its plain function. -/
import Derived.Test.YtdjkmioemobdbaaGreatGx3
set_option linter.unusedVariables false
set_option linter.unusedSimpArgs false
set_option maxHeartbeats 4000000
set_option maxRecDepth 8000
namespace Gp
open Go Gw Go.Proofs
theorem ref07_put_calls (k : Nat) (p0 : List Made) (p1 : Made) (Aa : Option Addr) (ca : Nat) (r : (List Made)) (w : World) (hI : IoOK w [rowO 90 enc_Made Aa ca p0]) (hf : ref07_put k p0 p1 = some r) :
  CallsR Tryz.prog 94 #[(sv Aa p0 ca), (.agg #[(iv p1.Piece), (iv p1.S), (iv p1.N), (iv p1.W), (iv p1.E)])] w (fun v w' => ∃ (A1_ : Option Addr), ∃ (c1_ : Nat), v = (sv A1_ r c1_) ∧ St (fpL [rowO 90 enc_Made Aa ca p0]) w w' [] [rowO 90 enc_Made A1_ c1_ r]) := by
 have hS : St (fpL [rowO 90 enc_Made Aa ca p0]) w w [] [rowO 90 enc_Made Aa ca p0] := St.initIO (ro_nil _ _) hI
 refine enter 45 Tryz.func94 rfl Tryz.ntmps94 rfl ?_
 unfold ref07_put at hf
 refine WC.seq (WC.region ?_)
 refine WL.new hS 3 [] (fun g => (pt g)) (.cells #[(iv p1.Piece), (iv p1.S), (iv p1.N), (iv p1.W), (iv p1.E)] 90 (0, 0)) [] (fun fb g => by kernel_rfl) trivial (fun g3 w4 hS5 => ?_)
 refine ⟨trivial, ?_⟩
 refine sg 2 [] [0, 3] [(0, (sv Aa p0 ca)), (3, (pt g3))] (by kernel_rfl) ?_
 refine WL.done rfl (WX.next (WC.seq (WC.region ?_)))
 refine sg 1 [] [0, 3, 5] [(0, (sv Aa p0 ca)), (3, (pt g3)), (5, (iv 0))] (by kernel_rfl) ?_
 refine WL.done rfl (WX.next (WC.seq ?_))
 obtain ⟨x8, hx9, hf⟩ := bind_some hf
 let e7 : Array Value := #[(iv p1.Piece), (iv p1.S), (iv p1.N), (iv p1.W), (iv p1.E)]
 let e10 := [[], [], [1], [0, 1, 2], [0, 1, 2, 3], [0, 1, 2, 3, 4], [0, 1, 2, 3, 4], [0, 1, 2, 3, 4, 5, 6], [0, 1, 2, 3, 4, 5, 6, 7], [0, 1, 2, 3, 4], [0, 1, 2, 3, 4, 5, 6, 7, 8, 9], [0, 1, 2, 3, 4, 5, 6, 7, 8, 9, 10]]
 let e13 : Nat × Value := (0, (sv Aa p0 ca))
 let e19 : Nat × Value := (3, (pt g3))
 let e21 := fpL [rowO 90 enc_Made Aa ca p0]
 refine WC.cutN (T := Int) (fun t => [e13, e19, (5, (iv t))]) (fun t w1 => St e21 w w1 [] [rowO 90 enc_Made Aa ca p0, blk g3 (.cells e7 90 (0, 0))] ∧ x8 = t) (fun Kx8 => ?_) ?_
 ·
  refine WC.block ?_
  refine WC.loop (T := Int) (fun t => [e13, e19, (5, (iv t))]) (fun n t w1 => St e21 w w1 [] [rowO 90 enc_Made Aa ca p0, blk g3 (.cells e7 90 (0, 0))] ∧ ref07_put.l0 n t p0 p1 = some x8) k 0 [0, 3, 5] rfl ⟨(hS5.subR []).sub [1, 0] (by decide), hx9⟩ ?_
  rintro k10 x6 w11 ⟨hS12, hl13⟩
  let e15 := (adr Aa).add ((x6).toNat * 5)
  let e25 := rdD p0 x6 z_Made
  let e3 : List (Nat × Addr × Value) := [(8, e15, (iv (e25.Piece))), (8, (e15.add 1), (iv (e25.S))), (8, (e15.add 2), (iv (e25.N))), (8, (e15.add 3), (iv (e25.W))), (8, (e15.add 4), (iv (e25.E))), (9, ⟨g3, 0, none⟩, (iv p1.Piece)), (9, ⟨g3, 1, none⟩, (iv p1.S)), (9, ⟨g3, 2, none⟩, (iv p1.N)), (9, ⟨g3, 3, none⟩, (iv p1.W)), (9, ⟨g3, 4, none⟩, (iv p1.E))]
  let e8 := rdD p0 x6 z_Made
  let e20 : Array Value := #[(iv (e8.Piece)), (iv (e8.S)), (iv (e8.N)), (iv (e8.W)), (iv (e8.E))]
  cases k10 with
  | zero => rw [ref07_put.l0] at hl13; cases hl13
  | succ k10 =>
   rw [ref07_put.l0] at hl13
   refine WC.seq (WC.seq ?_)
   obtain ⟨x14, hx15, hl13⟩ := bind_some hl13
   refine WC.cutN (T := Bool) (fun t => [e13, e19, (5, (iv x6)), (17, (bv t))]) (fun t w1 => St e21 w w1 [] [rowO 90 enc_Made Aa ca p0, blk g3 (.cells e7 90 (0, 0))] ∧ x14 = t) (fun Kx14 => ?_) ?_
   ·
    rcases br_some hx15 with ⟨h16, hx15⟩ | ⟨h16, hx15⟩
    ·
     obtain ⟨h19, hx15⟩ := as_some hx15
     refine WC.regionD (e3, [0, 1, 2, 3, 4, 5, 6, 7, 8, 9, 11], e10) [[0, 1, 2, 3, 4, 5, 6, 7, 8, 9, 10, 11]] (by kernel_rfl) (by kernel_rfl) (NoPanic.seq (NoPanic.seq (NoPanic.seq (NoPanic.block (NoPanic.seq (NoPanic.body)))))) ?_
     have hS18 := hS12.drew
     revert hS18
     generalize World.drew w11 = w17
     intro hS18
     refine ⟨⟨rowR.cell (rowO.rd (hS18.own 0).1) z_Made h19.1 h19.2 0 rfl, rowR.cell (rowO.rd (hS18.own 0).1) z_Made h19.1 h19.2 1 rfl, rowR.cell (rowO.rd (hS18.own 0).1) z_Made h19.1 h19.2 2 rfl, rowR.cell (rowO.rd (hS18.own 0).1) z_Made h19.1 h19.2 3 rfl, rowR.cell (rowO.rd (hS18.own 0).1) z_Made h19.1 h19.2 4 rfl, hS18.cell 1 rfl 0 rfl, hS18.cell 1 rfl 1 rfl, hS18.cell 1 rfl 2 rfl, hS18.cell 1 rfl 3 rfl, hS18.cell 1 rfl 4 rfl, trivial⟩, forallC ?_ (forallN)⟩
     refine sg 5 [] [0, 3, 5, 10] [e13, e19, (5, (iv x6)), (10, (bv (decide (x6 < (p0.length : Int)))))] (by kernel_rfl) ?_
     refine WL.setB 10 h16 rfl ?_
     refine segF 10 [.v (iv (e8.Piece)), .v (iv (e8.S)), .v (iv (e8.N)), .v (iv (e8.W)), .v (iv (e8.E)), .v (iv p1.Piece), .v (iv p1.S), .v (iv p1.N), .v (iv p1.W), .v (iv p1.E)] [0, 3, 5, 10, 14, 15] [e13, e19, (5, (iv x6)), (10, (bv true)), (14, (.agg e20)), (15, (.agg e7))] [.idx Aa x6 p0.length] [0, 1, 2, 3, 4, 5, 6, 7, 8, 9] e3 (fun fb => by kernel_rfl) rfl ⟨rowR.adr (rowO.rd (hS18.own 0).1) h19.1 h19.2, trivial⟩ rfl ?_
     obtain ⟨t20, ht21, hx15⟩ := bind_some hx15
     refine WL.call (some 16) 112 #[(.agg e20), (.agg e7)] (fun fb => by kernel_rfl) (ref07_before_calls e8 p1 t20 _ ht21) (fun v w22 hR23 => ?_)
     obtain ⟨rfl, hk_⟩ := hR23
     have hS24 := hS18.keepN hk_
     refine ⟨trivial, ?_⟩
     refine sg 12 [] [0, 3, 5, 17] [e13, e19, (5, (iv x6)), (17, (bv t20))] (by kernel_rfl) ?_
     refine WL.done rfl ?_
     injection hx15 with hx15
     exact WX.to Kx14 t20 [0, 3, 5, 17] rfl ⟨(hS24.subR []).sub [0, 1] (by decide), hx15.symm⟩
    refine WC.regionD ([], [0, 1, 2, 3, 4, 5, 6, 7, 8, 9, 11], e10) [[0, 1, 2, 3, 4, 5, 6, 7, 8, 9, 10, 11]] (by kernel_rfl) (by kernel_rfl) (NoPanic.seq (NoPanic.seq (NoPanic.seq (NoPanic.block (NoPanic.seq (NoPanic.body)))))) ?_
    have hS26 := hS12.drew
    revert hS26
    generalize World.drew w11 = w25
    intro hS26
    refine ⟨trivial, forallC ?_ (forallN)⟩
    refine sg 5 [] [0, 3, 5, 10] [e13, e19, (5, (iv x6)), (10, (bv (decide (x6 < (p0.length : Int)))))] (by kernel_rfl) ?_
    refine WL.setB 10 h16 rfl ?_
    refine sg 12 [] [0, 3, 5, 17] [e13, e19, (5, (iv x6)), (17, (bv false))] (by kernel_rfl) ?_
    refine WL.done rfl ?_
    injection hx15 with hx15
    exact WX.to Kx14 false [0, 3, 5, 17] rfl ⟨(hS26.subR []).sub [0, 1] (by decide), hx15.symm⟩
   rintro y30 w27 ⟨hS28, hq29⟩
   subst hq29
   refine WX.next ?_
   rcases br_some hl13 with ⟨h31, hl13⟩ | ⟨h31, hl13⟩
   ·refine WC.condT2 (fun fb => by kernel_rfl) h31 ?_
    refine WC.skip (WX.next (WC.block (WC.region ?_)))
    refine sg 3 [] [0, 3, 5] [e13, e19, (5, (iv (w64 (x6 + 1))))] (by kernel_rfl) ?_
    refine WL.done rfl ?_
    exact WX.blockN (WX.again k10 (Nat.lt_succ_self _) (w64 (x6 + 1)) [0, 3, 5] rfl ⟨(hS28.subR []).sub [0, 1] (by decide), hl13⟩)
   refine WC.condF2 (fun fb => by kernel_rfl) h31 ?_
   refine WC.exit ?_
   injection hl13 with hl13
   exact WX.thenX (WX.thenX (WX.blockHere (WX.to Kx8 x6 [0, 3, 5] rfl ⟨(hS28.subR []).sub [0, 1] (by decide), hl13.symm⟩)))
 rintro y35 w32 ⟨hS33, hq34⟩
 subst hq34
 refine WX.next (WC.seq (WC.seq ?_))
 obtain ⟨x36, hx37, hf⟩ := bind_some hf
 let e14 := (adr Aa).add ((x8).toNat * 5)
 let e22 := rdD p0 x8 z_Made
 let e2 : List (Nat × Addr × Value) := [(8, e14, (iv (e22.Piece))), (8, (e14.add 1), (iv (e22.S))), (8, (e14.add 2), (iv (e22.N))), (8, (e14.add 3), (iv (e22.W))), (8, (e14.add 4), (iv (e22.E))), (9, ⟨g3, 0, none⟩, (iv p1.Piece)), (9, ⟨g3, 1, none⟩, (iv p1.S)), (9, ⟨g3, 2, none⟩, (iv p1.N)), (9, ⟨g3, 3, none⟩, (iv p1.W)), (9, ⟨g3, 4, none⟩, (iv p1.E))]
 let e9 := rdD p0 x8 z_Made
 let e17 : List Nat := [0, 1, 2, 3, 4, 5, 6, 7, 8, 9, 10, 11]
 refine WC.cutN (T := Bool) (fun t => [e13, e19, (5, (iv x8)), (31, (bv t))]) (fun t w1 => St e21 w w1 [] [rowO 90 enc_Made Aa ca p0, blk g3 (.cells e7 90 (0, 0))] ∧ x36 = t) (fun Kx36 => ?_) ?_
 ·
  rcases br_some hx37 with ⟨h38, hx37⟩ | ⟨h38, hx37⟩
  ·
   obtain ⟨h41, hx37⟩ := as_some hx37
   refine WC.regionD (e2, e17, e10) [e17] (by kernel_rfl) (by kernel_rfl) (NoPanic.seq (NoPanic.seq (NoPanic.body))) ?_
   have hS40 := hS33.drew
   revert hS40
   generalize World.drew w32 = w39
   intro hS40
   refine ⟨⟨rowR.cell (rowO.rd (hS40.own 0).1) z_Made h41.1 h41.2 0 rfl, rowR.cell (rowO.rd (hS40.own 0).1) z_Made h41.1 h41.2 1 rfl, rowR.cell (rowO.rd (hS40.own 0).1) z_Made h41.1 h41.2 2 rfl, rowR.cell (rowO.rd (hS40.own 0).1) z_Made h41.1 h41.2 3 rfl, rowR.cell (rowO.rd (hS40.own 0).1) z_Made h41.1 h41.2 4 rfl, hS40.cell 1 rfl 0 rfl, hS40.cell 1 rfl 1 rfl, hS40.cell 1 rfl 2 rfl, hS40.cell 1 rfl 3 rfl, hS40.cell 1 rfl 4 rfl, trivial⟩, forallC ?_ (forallN)⟩
   refine sg 5 [] [0, 3, 5, 24] [e13, e19, (5, (iv x8)), (24, (bv (decide (x8 < (p0.length : Int)))))] (by kernel_rfl) ?_
   refine WL.setB 24 h38 rfl ?_
   refine segF 12 [.v (iv (e9.Piece)), .v (iv (e9.S)), .v (iv (e9.N)), .v (iv (e9.W)), .v (iv (e9.E)), .v (iv p1.Piece), .v (iv p1.S), .v (iv p1.N), .v (iv p1.W), .v (iv p1.E)] [0, 3, 5, 31] [e13, e19, (5, (iv x8)), (31, (bv ((e9.Piece) == p1.Piece && ((e9.S) == p1.S && ((e9.N) == p1.N && ((e9.W) == p1.W && ((e9.E) == p1.E)))))))] [.idx Aa x8 p0.length] [0, 1, 2, 3, 4, 5, 6, 7, 8, 9] e2 (fun fb => by kernel_rfl) rfl ⟨rowR.adr (rowO.rd (hS40.own 0).1) h41.1 h41.2, trivial⟩ rfl ?_
   refine WL.done rfl ?_
   injection hx37 with hx37
   exact WX.to Kx36 ((e9.Piece) == p1.Piece && ((e9.S) == p1.S && ((e9.N) == p1.N && ((e9.W) == p1.W && ((e9.E) == p1.E))))) [0, 3, 5, 31] rfl ⟨(hS40.subR []).sub [0, 1] (by decide), hx37.symm⟩
  refine WC.regionD ([], e17, e10) [e17] (by kernel_rfl) (by kernel_rfl) (NoPanic.seq (NoPanic.seq (NoPanic.body))) ?_
  have hS43 := hS33.drew
  revert hS43
  generalize World.drew w32 = w42
  intro hS43
  refine ⟨trivial, forallC ?_ (forallN)⟩
  refine sg 5 [] [0, 3, 5, 24] [e13, e19, (5, (iv x8)), (24, (bv (decide (x8 < (p0.length : Int)))))] (by kernel_rfl) ?_
  refine WL.setB 24 h38 rfl ?_
  refine sg 12 [] [0, 3, 5, 31] [e13, e19, (5, (iv x8)), (31, (bv false))] (by kernel_rfl) ?_
  refine WL.done rfl ?_
  injection hx37 with hx37
  exact WX.to Kx36 false [0, 3, 5, 31] rfl ⟨(hS43.subR []).sub [0, 1] (by decide), hx37.symm⟩
 rintro y47 w44 ⟨hS45, hq46⟩
 subst hq46
 refine WX.next ?_
 rcases br_some hf with ⟨h48, hf⟩ | ⟨h48, hf⟩
 ·refine WC.condT2 (fun fb => by kernel_rfl) h48 ?_
  refine WC.seq (WC.region ?_)
  refine sg 2 [] [4] [(4, (sv Aa p0 ca))] (by kernel_rfl) ?_
  refine WL.done rfl (WX.next ?_)
  refine WC.ret ?_
  injection hf with hf
  subst hf
  exact WX.thenR (WX.ret_ [] (sv Aa p0 ca) [] (fun fb => by kernel_rfl) trivial ⟨_, rfl, Aa, ca, rfl, (hS45.sub [0] (by decide)).noR⟩)
 refine WC.condF2 (fun fb => by kernel_rfl) h48 ?_
 refine WC.skip (WX.next (WC.seq ?_))
 obtain ⟨x51, hx52, hf⟩ := bind_some hf
 let e1 : Array Value := e7
 let e4 : List (Nat × Addr × Value) := [(5, ⟨g3, 0, none⟩, (iv p1.Piece)), (5, ⟨g3, 1, none⟩, (iv p1.S)), (5, ⟨g3, 2, none⟩, (iv p1.N)), (5, ⟨g3, 3, none⟩, (iv p1.W)), (5, ⟨g3, 4, none⟩, (iv p1.E))]
 let e5 : Nat × Value := (36, (sv (subA Aa ca (0 : Int).toNat 5) (cut p0 (0 : Int) x8) (ca - (0 : Int).toNat)))
 let e6 : Array Value := #[(iv 0), (iv 0), (iv 0), (iv 0), (iv 0)]
 let e11 := (p0.length : Int)
 let e12 : List (Nat × Value) := [e13, e19, (5, (iv x8)), (34, (sv Aa p0 ca)), (35, (iv x8))]
 let e16 := (cut p0 (0 : Int) x8)
 let e18 := (ca - (0 : Int).toNat)
 let e23 := ca - x8.toNat
 let e24 := cut p0 x8 e11
 let e26 := (subA Aa ca (0 : Int).toNat 5)
 let e27 := (x8.toNat - (0 : Int).toNat)
 refine WC.cutN (T := (List Made) × (Option Addr) × Nat) (fun t => [(4, (sv t.2.1 t.1 t.2.2))]) (fun t w1 => St e21 w w1 [] [rowO 90 enc_Made t.2.1 t.2.2 t.1] ∧ x51 = t.1) (fun Kx51 => ?_) ?_
 ·
  obtain ⟨h55, hx52⟩ := as_some hx52
  obtain ⟨h56, hx52⟩ := as_some hx52
  refine WC.regionD (e4, [1, 2, 3, 5, 8, 9, 10, 12], [[], [], [], [1, 2], [0, 1, 2, 3], [], [5], [0, 1, 2, 3, 4, 5, 6], [], [], [8, 9], [0, 1, 2, 3, 4, 5, 6, 7, 8, 9, 10], e17]) [[1, 2, 3, 5, 8, 9, 10, 0, 4, 6, 7, 11, 12], [1, 2, 3, 5, 8, 9, 10, 0, 6, 4, 7, 11, 12], [1, 2, 3, 5, 8, 9, 10, 6, 0, 4, 7, 11, 12]] (by kernel_rfl) (by kernel_rfl) (NoPanic.seq (NoPanic.body)) ?_
  have hS54 := hS45.drew
  revert hS54
  generalize World.drew w44 = w53
  intro hS54
  refine ⟨⟨hS54.cell 1 rfl 0 rfl, hS54.cell 1 rfl 1 rfl, hS54.cell 1 rfl 2 rfl, hS54.cell 1 rfl 3 rfl, hS54.cell 1 rfl 4 rfl, trivial⟩, forallC ?_ (forallC ?_ (forallC ?_ (forallN)))⟩
  ·
   refine sg 2 [] [0, 3, 5, 34, 35] e12 (by kernel_rfl) ?_
   refine seg 3 [] [0, 3, 5, 36] [e13, e19, (5, (iv x8)), (36, (.slice e26 e27 e18))] [.idx (some ⟨0, 0, none⟩) (0 : Int) (x8.toNat + 1), .idx (some ⟨0, 0, none⟩) x8 (ca + 1)] (fun fb => by kernel_rfl) rfl ⟨cut1 h55.1 h55.2.1, cut2 h55.1 h55.2.1 h55.2.2 (rowO.rd (hS54.own 0).1).2, trivial⟩ ?_
   refine WL.reE [0, 3, 5, 36] [(0, (.slice Aa p0.length ca)), (3, (pt g3)), (5, (iv x8)), (36, (.slice (subA Aa ca (0 : Int).toNat 5) (x8.toNat - (0 : Int).toNat) (ca - (0 : Int).toNat)))] [(0, (.slice Aa p0.length ca)), (3, (pt g3)), (5, (iv x8)), (36, (.slice (subA Aa ca (0 : Int).toNat 5) (cut p0 (0 : Int) x8).length (ca - (0 : Int).toNat)))] rfl (by rw [cut_length h55.1 h55.2.1 h55.2.2]) ?_
   refine segF 6 [.v (iv p1.Piece), .v (iv p1.S), .v (iv p1.N), .v (iv p1.W), .v (iv p1.E)] [36, 38, 41, 42] [e5, (38, (.agg e1)), (41, (sv Aa p0 ca)), (42, (iv x8))] [] [0, 1, 2, 3, 4] e4 (fun fb => by kernel_rfl) rfl trivial rfl ?_
   refine seg 7 [] [36, 38, 43] [e5, (38, (.agg e1)), (43, (.slice (subA Aa ca x8.toNat 5) (e11.toNat - x8.toNat) e23))] [.idx (some ⟨0, 0, none⟩) x8 (e11.toNat + 1), .idx (some ⟨0, 0, none⟩) e11 (ca + 1)] (fun fb => by kernel_rfl) rfl ⟨cut1 h56.1 h56.2.1, cut2 h56.1 h56.2.1 h56.2.2 (rowO.rd (hS54.own 0).1).2, trivial⟩ ?_
   refine WL.reE [36, 38, 43] [(36, (.slice (subA Aa ca (0 : Int).toNat 5) (cut p0 (0 : Int) x8).length (ca - (0 : Int).toNat))), (38, (.agg #[(iv p1.Piece), (iv p1.S), (iv p1.N), (iv p1.W), (iv p1.E)])), (43, (.slice (subA Aa ca x8.toNat 5) ((p0.length : Int).toNat - x8.toNat) (ca - x8.toNat)))] [(36, (.slice (subA Aa ca (0 : Int).toNat 5) (cut p0 (0 : Int) x8).length (ca - (0 : Int).toNat))), (38, (.agg #[(iv p1.Piece), (iv p1.S), (iv p1.N), (iv p1.W), (iv p1.E)])), (43, (.slice (subA Aa ca x8.toNat 5) (cut p0 x8 (p0.length : Int)).length (ca - x8.toNat)))] rfl (by rw [cut_length h56.1 h56.2.1 h56.2.2]) ?_
   refine WL.new hS54 33 [] (fun g => (.slice (some ⟨g, 0, none⟩) 0 0)) (.cells #[] 90 (0, 0)) [] (fun fb g => by kernel_rfl) trivial (fun g57 w58 hS59 => ?_)
   refine ⟨⟨hS59.cell 2 rfl 0 rfl, hS59.cell 2 rfl 1 rfl, hS59.cell 2 rfl 2 rfl, hS59.cell 2 rfl 3 rfl, hS59.cell 2 rfl 4 rfl, trivial⟩, ?_⟩
   have hS60 := hS.go w58 [rowO 90 enc_Made (some ⟨g57, 0, none⟩) 0 ([] : List Made), rowO 90 enc_Made Aa ca p0, blk g3 (.cells e1 90 (0, 0))] (hS59.map1 0 _ (fun h => rowO.ofBlk h rfl (Nat.le_of_ble_eq_true (by kernel_rfl))) (fun _ h => by obtain ⟨_, h1, h2⟩ := h; injection h1 with h1; subst h1; exact h2) [1, 2] (by decide) (by decide))
   obtain ⟨h61, hx52⟩ := as_some hx52
   refine WL.append hS60 0 (d := 37) (tS := 85) (z := (.agg e6)) (bytes := 40) (c2 := e18) rfl (fun fb => by kernel_rfl) ((cutR ((hS60.ow 1).ofO) h55.1 h55.2.1 h55.2.2)).1 (by kernel_rfl) (by kernel_rfl) rfl (by decide) h61 (by decide) [1, 2] (by decide) (by decide) (fun A62 c63 w65 hS66 => ?_)
   refine ⟨⟨hS66.cell 2 rfl 0 rfl, hS66.cell 2 rfl 1 rfl, hS66.cell 2 rfl 2 rfl, hS66.cell 2 rfl 3 rfl, hS66.cell 2 rfl 4 rfl, trivial⟩, ?_⟩
   refine WL.new hS66 39 [] (fun g => (.slice (some ⟨g, 0, none⟩) 1 1)) (.cells e1 90 (0, 0)) [] (fun fb g => by kernel_rfl) trivial (fun g67 w68 hS69 => ?_)
   refine ⟨trivial, ?_⟩
   have hS70 := hS60.go w68 [rowO 90 enc_Made (some ⟨g67, 0, none⟩) 1 [p1], rowO 90 enc_Made A62 c63 (([] : List Made) ++ e16), rowO 90 enc_Made Aa ca p0, blk g3 (.cells e1 90 (0, 0))] (hS69.map1 0 _ (fun h => rowO.ofBlk h rfl (Nat.le_of_ble_eq_true (by kernel_rfl))) (fun _ h => by obtain ⟨_, h1, h2⟩ := h; injection h1 with h1; subst h1; exact h2) [1, 2, 3] (by decide) (by decide))
   obtain ⟨h71, hx52⟩ := as_some hx52
   refine WL.append hS70 1 (d := 40) (tS := 85) (z := (.agg e6)) (bytes := 40) (c2 := 1) rfl (fun fb => by kernel_rfl) (rowO.rd (hS70.own 0).1) (by kernel_rfl) (by kernel_rfl) rfl (by decide) h71 (by decide) [0, 2, 3] (by decide) (by decide) (fun A72 c73 w74 hS75 => ?_)
   refine ⟨trivial, ?_⟩
   obtain ⟨h76, hx52⟩ := as_some hx52
   refine WL.append hS75 0 (d := 44) (tS := 85) (z := (.agg e6)) (bytes := 40) (c2 := e23) rfl (fun fb => by kernel_rfl) ((cutR ((hS75.ow 2).ofO) h56.1 h56.2.1 h56.2.2)).1 (by kernel_rfl) (by kernel_rfl) rfl (by decide) h76 (by decide) [1, 2, 3] (by decide) (by decide) (fun A77 c78 w79 hS80 => ?_)
   refine ⟨trivial, ?_⟩
   refine sg 13 [] [4] [(4, (sv A77 (((([] : List Made) ++ e16) ++ [p1]) ++ e24) c78))] (by kernel_rfl) ?_
   refine WL.done rfl ?_
   injection hx52 with hx52
   exact WX.to Kx51 (((([] : List Made) ++ e16) ++ [p1]) ++ e24, A77, c78) [4] rfl ⟨(hS80.subR []).sub [0] (by decide), hx52.symm⟩
  ·
   refine sg 2 [] [0, 3, 5, 34, 35] e12 (by kernel_rfl) ?_
   refine seg 3 [] [0, 3, 5, 36] [e13, e19, (5, (iv x8)), (36, (.slice e26 e27 e18))] [.idx (some ⟨0, 0, none⟩) (0 : Int) (x8.toNat + 1), .idx (some ⟨0, 0, none⟩) x8 (ca + 1)] (fun fb => by kernel_rfl) rfl ⟨cut1 h55.1 h55.2.1, cut2 h55.1 h55.2.1 h55.2.2 (rowO.rd (hS54.own 0).1).2, trivial⟩ ?_
   refine WL.reE [0, 3, 5, 36] [(0, (.slice Aa p0.length ca)), (3, (pt g3)), (5, (iv x8)), (36, (.slice (subA Aa ca (0 : Int).toNat 5) (x8.toNat - (0 : Int).toNat) (ca - (0 : Int).toNat)))] [(0, (.slice Aa p0.length ca)), (3, (pt g3)), (5, (iv x8)), (36, (.slice (subA Aa ca (0 : Int).toNat 5) (cut p0 (0 : Int) x8).length (ca - (0 : Int).toNat)))] rfl (by rw [cut_length h55.1 h55.2.1 h55.2.2]) ?_
   refine segF 6 [.v (iv p1.Piece), .v (iv p1.S), .v (iv p1.N), .v (iv p1.W), .v (iv p1.E)] [36, 38, 41, 42] [e5, (38, (.agg e1)), (41, (sv Aa p0 ca)), (42, (iv x8))] [] [0, 1, 2, 3, 4] e4 (fun fb => by kernel_rfl) rfl trivial rfl ?_
   refine seg 7 [] [36, 38, 43] [e5, (38, (.agg e1)), (43, (.slice (subA Aa ca x8.toNat 5) (e11.toNat - x8.toNat) e23))] [.idx (some ⟨0, 0, none⟩) x8 (e11.toNat + 1), .idx (some ⟨0, 0, none⟩) e11 (ca + 1)] (fun fb => by kernel_rfl) rfl ⟨cut1 h56.1 h56.2.1, cut2 h56.1 h56.2.1 h56.2.2 (rowO.rd (hS54.own 0).1).2, trivial⟩ ?_
   refine WL.reE [36, 38, 43] [(36, (.slice (subA Aa ca (0 : Int).toNat 5) (cut p0 (0 : Int) x8).length (ca - (0 : Int).toNat))), (38, (.agg #[(iv p1.Piece), (iv p1.S), (iv p1.N), (iv p1.W), (iv p1.E)])), (43, (.slice (subA Aa ca x8.toNat 5) ((p0.length : Int).toNat - x8.toNat) (ca - x8.toNat)))] [(36, (.slice (subA Aa ca (0 : Int).toNat 5) (cut p0 (0 : Int) x8).length (ca - (0 : Int).toNat))), (38, (.agg #[(iv p1.Piece), (iv p1.S), (iv p1.N), (iv p1.W), (iv p1.E)])), (43, (.slice (subA Aa ca x8.toNat 5) (cut p0 x8 (p0.length : Int)).length (ca - x8.toNat)))] rfl (by rw [cut_length h56.1 h56.2.1 h56.2.2]) ?_
   refine WL.new hS54 33 [] (fun g => (.slice (some ⟨g, 0, none⟩) 0 0)) (.cells #[] 90 (0, 0)) [] (fun fb g => by kernel_rfl) trivial (fun g81 w82 hS83 => ?_)
   refine ⟨⟨hS83.cell 2 rfl 0 rfl, hS83.cell 2 rfl 1 rfl, hS83.cell 2 rfl 2 rfl, hS83.cell 2 rfl 3 rfl, hS83.cell 2 rfl 4 rfl, trivial⟩, ?_⟩
   have hS84 := hS.go w82 [rowO 90 enc_Made (some ⟨g81, 0, none⟩) 0 ([] : List Made), rowO 90 enc_Made Aa ca p0, blk g3 (.cells e1 90 (0, 0))] (hS83.map1 0 _ (fun h => rowO.ofBlk h rfl (Nat.le_of_ble_eq_true (by kernel_rfl))) (fun _ h => by obtain ⟨_, h1, h2⟩ := h; injection h1 with h1; subst h1; exact h2) [1, 2] (by decide) (by decide))
   refine WL.new hS84 39 [] (fun g => (.slice (some ⟨g, 0, none⟩) 1 1)) (.cells e1 90 (0, 0)) [] (fun fb g => by kernel_rfl) trivial (fun g85 w86 hS87 => ?_)
   refine ⟨trivial, ?_⟩
   have hS88 := hS84.go w86 [rowO 90 enc_Made (some ⟨g85, 0, none⟩) 1 [p1], rowO 90 enc_Made (some ⟨g81, 0, none⟩) 0 ([] : List Made), rowO 90 enc_Made Aa ca p0, blk g3 (.cells e1 90 (0, 0))] (hS87.map1 0 _ (fun h => rowO.ofBlk h rfl (Nat.le_of_ble_eq_true (by kernel_rfl))) (fun _ h => by obtain ⟨_, h1, h2⟩ := h; injection h1 with h1; subst h1; exact h2) [1, 2, 3] (by decide) (by decide))
   obtain ⟨h89, hx52⟩ := as_some hx52
   refine WL.append hS88 1 (d := 37) (tS := 85) (z := (.agg e6)) (bytes := 40) (c2 := e18) rfl (fun fb => by kernel_rfl) ((cutR ((hS88.ow 2).ofO) h55.1 h55.2.1 h55.2.2)).1 (by kernel_rfl) (by kernel_rfl) rfl (by decide) h89 (by decide) [0, 2, 3] (by decide) (by decide) (fun A90 c91 w92 hS93 => ?_)
   refine ⟨⟨hS93.cell 3 rfl 0 rfl, hS93.cell 3 rfl 1 rfl, hS93.cell 3 rfl 2 rfl, hS93.cell 3 rfl 3 rfl, hS93.cell 3 rfl 4 rfl, trivial⟩, ?_⟩
   obtain ⟨h95, hx52⟩ := as_some hx52
   refine WL.append hS93 0 (d := 40) (tS := 85) (z := (.agg e6)) (bytes := 40) (c2 := 1) rfl (fun fb => by kernel_rfl) (rowO.rd (hS93.own 1).1) (by kernel_rfl) (by kernel_rfl) rfl (by decide) h95 (by decide) [1, 2, 3] (by decide) (by decide) (fun A96 c97 w98 hS99 => ?_)
   refine ⟨trivial, ?_⟩
   obtain ⟨h100, hx52⟩ := as_some hx52
   refine WL.append hS99 0 (d := 44) (tS := 85) (z := (.agg e6)) (bytes := 40) (c2 := e23) rfl (fun fb => by kernel_rfl) ((cutR ((hS99.ow 2).ofO) h56.1 h56.2.1 h56.2.2)).1 (by kernel_rfl) (by kernel_rfl) rfl (by decide) h100 (by decide) [1, 2, 3] (by decide) (by decide) (fun A101 c102 w103 hS104 => ?_)
   refine ⟨trivial, ?_⟩
   refine sg 13 [] [4] [(4, (sv A101 (((([] : List Made) ++ e16) ++ [p1]) ++ e24) c102))] (by kernel_rfl) ?_
   refine WL.done rfl ?_
   injection hx52 with hx52
   exact WX.to Kx51 (((([] : List Made) ++ e16) ++ [p1]) ++ e24, A101, c102) [4] rfl ⟨(hS104.subR []).sub [0] (by decide), hx52.symm⟩
  refine sg 2 [] [0, 3, 5, 34, 35] e12 (by kernel_rfl) ?_
  refine seg 3 [] [0, 3, 5, 36] [e13, e19, (5, (iv x8)), (36, (.slice e26 e27 e18))] [.idx (some ⟨0, 0, none⟩) (0 : Int) (x8.toNat + 1), .idx (some ⟨0, 0, none⟩) x8 (ca + 1)] (fun fb => by kernel_rfl) rfl ⟨cut1 h55.1 h55.2.1, cut2 h55.1 h55.2.1 h55.2.2 (rowO.rd (hS54.own 0).1).2, trivial⟩ ?_
  refine WL.reE [0, 3, 5, 36] [(0, (.slice Aa p0.length ca)), (3, (pt g3)), (5, (iv x8)), (36, (.slice (subA Aa ca (0 : Int).toNat 5) (x8.toNat - (0 : Int).toNat) (ca - (0 : Int).toNat)))] [(0, (.slice Aa p0.length ca)), (3, (pt g3)), (5, (iv x8)), (36, (.slice (subA Aa ca (0 : Int).toNat 5) (cut p0 (0 : Int) x8).length (ca - (0 : Int).toNat)))] rfl (by rw [cut_length h55.1 h55.2.1 h55.2.2]) ?_
  refine segF 6 [.v (iv p1.Piece), .v (iv p1.S), .v (iv p1.N), .v (iv p1.W), .v (iv p1.E)] [36, 38, 41, 42] [e5, (38, (.agg e1)), (41, (sv Aa p0 ca)), (42, (iv x8))] [] [0, 1, 2, 3, 4] e4 (fun fb => by kernel_rfl) rfl trivial rfl ?_
  refine seg 7 [] [36, 38, 43] [e5, (38, (.agg e1)), (43, (.slice (subA Aa ca x8.toNat 5) (e11.toNat - x8.toNat) e23))] [.idx (some ⟨0, 0, none⟩) x8 (e11.toNat + 1), .idx (some ⟨0, 0, none⟩) e11 (ca + 1)] (fun fb => by kernel_rfl) rfl ⟨cut1 h56.1 h56.2.1, cut2 h56.1 h56.2.1 h56.2.2 (rowO.rd (hS54.own 0).1).2, trivial⟩ ?_
  refine WL.reE [36, 38, 43] [(36, (.slice (subA Aa ca (0 : Int).toNat 5) (cut p0 (0 : Int) x8).length (ca - (0 : Int).toNat))), (38, (.agg #[(iv p1.Piece), (iv p1.S), (iv p1.N), (iv p1.W), (iv p1.E)])), (43, (.slice (subA Aa ca x8.toNat 5) ((p0.length : Int).toNat - x8.toNat) (ca - x8.toNat)))] [(36, (.slice (subA Aa ca (0 : Int).toNat 5) (cut p0 (0 : Int) x8).length (ca - (0 : Int).toNat))), (38, (.agg #[(iv p1.Piece), (iv p1.S), (iv p1.N), (iv p1.W), (iv p1.E)])), (43, (.slice (subA Aa ca x8.toNat 5) (cut p0 x8 (p0.length : Int)).length (ca - x8.toNat)))] rfl (by rw [cut_length h56.1 h56.2.1 h56.2.2]) ?_
  refine WL.new hS54 39 [] (fun g => (.slice (some ⟨g, 0, none⟩) 1 1)) (.cells e1 90 (0, 0)) [] (fun fb g => by kernel_rfl) trivial (fun g105 w106 hS107 => ?_)
  refine ⟨trivial, ?_⟩
  have hS108 := hS.go w106 [rowO 90 enc_Made (some ⟨g105, 0, none⟩) 1 [p1], rowO 90 enc_Made Aa ca p0, blk g3 (.cells e1 90 (0, 0))] (hS107.map1 0 _ (fun h => rowO.ofBlk h rfl (Nat.le_of_ble_eq_true (by kernel_rfl))) (fun _ h => by obtain ⟨_, h1, h2⟩ := h; injection h1 with h1; subst h1; exact h2) [1, 2] (by decide) (by decide))
  refine WL.new hS108 33 [] (fun g => (.slice (some ⟨g, 0, none⟩) 0 0)) (.cells #[] 90 (0, 0)) [] (fun fb g => by kernel_rfl) trivial (fun g109 w110 hS111 => ?_)
  refine ⟨⟨hS111.cell 3 rfl 0 rfl, hS111.cell 3 rfl 1 rfl, hS111.cell 3 rfl 2 rfl, hS111.cell 3 rfl 3 rfl, hS111.cell 3 rfl 4 rfl, trivial⟩, ?_⟩
  have hS112 := hS108.go w110 [rowO 90 enc_Made (some ⟨g109, 0, none⟩) 0 ([] : List Made), rowO 90 enc_Made (some ⟨g105, 0, none⟩) 1 [p1], rowO 90 enc_Made Aa ca p0, blk g3 (.cells e1 90 (0, 0))] (hS111.map1 0 _ (fun h => rowO.ofBlk h rfl (Nat.le_of_ble_eq_true (by kernel_rfl))) (fun _ h => by obtain ⟨_, h1, h2⟩ := h; injection h1 with h1; subst h1; exact h2) [1, 2, 3] (by decide) (by decide))
  obtain ⟨h113, hx52⟩ := as_some hx52
  refine WL.append hS112 0 (d := 37) (tS := 85) (z := (.agg e6)) (bytes := 40) (c2 := e18) rfl (fun fb => by kernel_rfl) ((cutR ((hS112.ow 2).ofO) h55.1 h55.2.1 h55.2.2)).1 (by kernel_rfl) (by kernel_rfl) rfl (by decide) h113 (by decide) [1, 2, 3] (by decide) (by decide) (fun A114 c115 w116 hS117 => ?_)
  refine ⟨⟨hS117.cell 3 rfl 0 rfl, hS117.cell 3 rfl 1 rfl, hS117.cell 3 rfl 2 rfl, hS117.cell 3 rfl 3 rfl, hS117.cell 3 rfl 4 rfl, trivial⟩, ?_⟩
  obtain ⟨h118, hx52⟩ := as_some hx52
  refine WL.append hS117 0 (d := 40) (tS := 85) (z := (.agg e6)) (bytes := 40) (c2 := 1) rfl (fun fb => by kernel_rfl) (rowO.rd (hS117.own 1).1) (by kernel_rfl) (by kernel_rfl) rfl (by decide) h118 (by decide) [1, 2, 3] (by decide) (by decide) (fun A119 c120 w121 hS122 => ?_)
  refine ⟨trivial, ?_⟩
  obtain ⟨h123, hx52⟩ := as_some hx52
  refine WL.append hS122 0 (d := 44) (tS := 85) (z := (.agg e6)) (bytes := 40) (c2 := e23) rfl (fun fb => by kernel_rfl) ((cutR ((hS122.ow 2).ofO) h56.1 h56.2.1 h56.2.2)).1 (by kernel_rfl) (by kernel_rfl) rfl (by decide) h123 (by decide) [1, 2, 3] (by decide) (by decide) (fun A124 c125 w126 hS127 => ?_)
  refine ⟨trivial, ?_⟩
  refine sg 13 [] [4] [(4, (sv A124 (((([] : List Made) ++ e16) ++ [p1]) ++ e24) c125))] (by kernel_rfl) ?_
  refine WL.done rfl ?_
  injection hx52 with hx52
  exact WX.to Kx51 (((([] : List Made) ++ e16) ++ [p1]) ++ e24, A124, c125) [4] rfl ⟨(hS127.subR []).sub [0] (by decide), hx52.symm⟩
 rintro ⟨y131, A49, c50⟩ w128 ⟨hS129, hq130⟩
 subst hq130
 refine WX.next ?_
 refine WC.ret ?_
 injection hf with hf
 subst hf
 exact WX.ret_ [] (sv A49 x51 c50) [] (fun fb => by kernel_rfl) trivial ⟨_, rfl, A49, c50, rfl, (hS129.sub [0] (by decide)).noR⟩
theorem ref07_made_calls (k : Nat) (p0 : Int) (p1 : Piece)  (r : (List Made)) (w : World)  (hf : ref07_made k p0 p1 = some r) :
  CallsR Tryz.prog 69 #[(iv p0), (.agg #[(iv p1.Factor.Num), (iv p1.Factor.Den), (iv p1.Low.Num), (iv p1.Low.Den), (iv p1.High.Num), (iv p1.High.Den)])] w (fun v w' => ∃ (A1_ : Option Addr), ∃ (c1_ : Nat), v = (sv A1_ r c1_) ∧ St NoS w w' [] [rowO 90 enc_Made A1_ c1_ r]) := by
 have hS : St NoS w w [] [] := St.init (ro_nil _ _)
 refine enter 73 Tryz.func69 rfl Tryz.ntmps69 rfl ?_
 unfold ref07_made at hf
 refine WC.seq (WC.region ?_)
 refine WL.new hS 3 [] (fun g => (pt g)) (.cells #[(iv p1.Factor.Num), (iv p1.Factor.Den), (iv p1.Low.Num), (iv p1.Low.Den), (iv p1.High.Num), (iv p1.High.Den)] 66 (0, 0)) [] (fun fb g => by kernel_rfl) trivial (fun g4 w5 hS6 => ?_)
 refine ⟨trivial, ?_⟩
 refine sg 2 [] [0, 3] [(0, (iv p0)), (3, (pt g4))] (by kernel_rfl) ?_
 refine WL.done rfl (WX.next (WC.seq (WC.region ?_)))
 refine sg 1 [] [0, 3, 5] [(0, (iv p0)), (3, (pt g4)), (5, (.slice none 0 0))] (by kernel_rfl) ?_
 refine WL.done rfl (WX.next (WC.seq ?_))
 refine WC.regionD ([(2, ⟨g4, 0, none⟩, (iv p1.Factor.Num)), (5, ⟨g4, 1, none⟩, (iv p1.Factor.Den))], [0, 1, 2, 3, 4, 5, 6, 7], [[], [0], [0, 1], [], [3], [3, 4], [0, 1, 2], [0, 1, 2, 3, 4, 5, 6]]) [[0, 1, 2, 3, 4, 5, 6, 7]] (by kernel_rfl) (by kernel_rfl) (NoPanic.seq (NoPanic.body)) ?_
 have hS9 := hS6.drew
 revert hS9
 generalize World.drew w5 = w8
 intro hS9
 refine ⟨⟨hS9.cell 0 rfl 0 rfl, hS9.cell 0 rfl 1 rfl, trivial⟩, forallC ?_ (forallN)⟩
 refine segF 8 [.v (iv p1.Factor.Num), .v (iv p1.Factor.Den)] [0, 3, 5, 6, 7] [(0, (iv p0)), (3, (pt g4)), (5, (.slice none 0 0)), (6, (iv p1.Factor.Num)), (7, (iv p1.Factor.Den))] [] [0, 1] [(2, ⟨g4, 0, none⟩, (iv p1.Factor.Num)), (5, ⟨g4, 1, none⟩, (iv p1.Factor.Den))] (fun fb => by kernel_rfl) rfl trivial rfl ?_
 refine WL.done rfl (WX.next (WC.seq (WC.seq (WC.region ?_))))
 refine sg 1 [] [0, 3, 5, 6, 7, 8] [(0, (iv p0)), (3, (pt g4)), (5, (.slice none 0 0)), (6, (iv p1.Factor.Num)), (7, (iv p1.Factor.Den)), (8, (iv 0))] (by kernel_rfl) ?_
 refine WL.done rfl (WX.next ?_)
 have hS10 := hS9.nilrow 90 enc_Made
 obtain ⟨x17, hx18, hf⟩ := bind_some hf
 let e1 : Array Value := #[(iv p1.Factor.Num), (iv p1.Factor.Den), (iv p1.Low.Num), (iv p1.Low.Den), (iv p1.High.Num), (iv p1.High.Den)]
 let e2 : Nat × Value := (6, (iv p1.Factor.Num))
 let e3 : Nat × Value := (7, (iv p1.Factor.Den))
 let e4 : Nat × Value := (0, (iv p0))
 let e5 : Nat × Value := (3, (pt g4))
 let e8 : List Nat := [0, 3, 5, 6, 7, 8, 9, 10, 11]
 let e11 : List Nat := [0, 3, 5, 6, 7, 8, 9, 10]
 let e12 := Option Addr
 let e13 : List Nat := [0, 3, 5, 6, 7, 8, 9]
 let e14 := List Made
 refine WC.cutN (T := e14 × e12 × Nat) (fun t => [(5, (sv t.2.1 t.1 t.2.2))]) (fun t w1 => St NoS w w1 [] [rowO 90 enc_Made t.2.1 t.2.2 t.1] ∧ x17 = t.1) (fun Kx17 => ?_) ?_
 ·
  refine WC.block ?_
  refine WC.loop (T := (e14 × Int) × e12 × Nat) (fun t => [e4, e5, (5, (sv t.2.1 t.1.1 t.2.2)), e2, e3, (8, (iv t.1.2))]) (fun n t w1 => St NoS w w1 [] [blk g4 (.cells e1 66 (0, 0)), rowO 90 enc_Made t.2.1 t.2.2 t.1.1] ∧ ref07_made.l0 n t.1.1 t.1.2 p0 p1 = some x17) k ((([] : List Made), 0), none, 0) [0, 3, 5, 6, 7, 8] rfl ⟨(hS10.subR []).sub [1, 0] (by decide), hx18⟩ ?_
  rintro k19 ⟨⟨l13, x14⟩, A11, c12⟩ w20 ⟨hS21, hl22⟩
  let e6 : Nat × Value := (8, (iv x14))
  cases k19 with
  | zero => rw [ref07_made.l0] at hl22; cases hl22
  | succ k19 =>
   rw [ref07_made.l0] at hl22
   refine WC.seq (WC.seq (WC.region ?_))
   refine sg 3 [] [0, 3, 5, 6, 7, 8, 20] [e4, e5, (5, (sv A11 l13 c12)), e2, e3, e6, (20, (bv (decide (x14 < p1.Factor.Den))))] (by kernel_rfl) ?_
   refine WL.done rfl (WX.next ?_)
   rcases br_some hl22 with ⟨h23, hl22⟩ | ⟨h23, hl22⟩
   ·refine WC.condT2 (fun fb => by kernel_rfl) h23 ?_
    refine WC.skip (WX.next (WC.seq (WC.block (WC.seq (WC.region ?_)))))
    refine sg 1 [] e13 [e4, e5, (5, (sv A11 l13 c12)), e2, e3, e6, (9, (iv 0))] (by kernel_rfl) ?_
    refine WL.done rfl (WX.next ?_)
    obtain ⟨x30, hx31, hl22⟩ := bind_some hl22
    refine WC.cutN (T := e14 × e12 × Nat) (fun t => [e4, e5, (5, (sv t.2.1 t.1 t.2.2)), e2, e3, e6]) (fun t w1 => St NoS w w1 [] [blk g4 (.cells e1 66 (0, 0)), rowO 90 enc_Made t.2.1 t.2.2 t.1] ∧ x30 = t.1) (fun Kx30 => ?_) ?_
    ·
     refine WC.block ?_
     refine WC.loop (T := (e14 × Int) × e12 × Nat) (fun t => [e4, e5, (5, (sv t.2.1 t.1.1 t.2.2)), e2, e3, e6, (9, (iv t.1.2))]) (fun n t w1 => St NoS w w1 [] [blk g4 (.cells e1 66 (0, 0)), rowO 90 enc_Made t.2.1 t.2.2 t.1.1] ∧ ref07_made.l1 n t.1.1 t.1.2 p0 p1 x14 = some x30) k19 ((l13, 0), A11, c12) e13 rfl ⟨(hS21.subR []).sub [0, 1] (by decide), hx31⟩ ?_
     rintro k32 ⟨⟨l26, x27⟩, A24, c25⟩ w33 ⟨hS34, hl35⟩
     let e9 : Nat × Value := (9, (iv x27))
     cases k32 with
     | zero => rw [ref07_made.l1] at hl35; cases hl35
     | succ k32 =>
      rw [ref07_made.l1] at hl35
      refine WC.seq (WC.seq (WC.region ?_))
      refine sg 2 [] [0, 3, 5, 6, 7, 8, 9, 24] [e4, e5, (5, (sv A24 l26 c25)), e2, e3, e6, e9, (24, (bv (decide (x27 ≤ 12))))] (by kernel_rfl) ?_
      refine WL.done rfl (WX.next ?_)
      rcases br_some hl35 with ⟨h36, hl35⟩ | ⟨h36, hl35⟩
      ·refine WC.condT2 (fun fb => by kernel_rfl) h36 ?_
       refine WC.skip (WX.next (WC.seq (WC.block (WC.seq (WC.region ?_)))))
       refine sg 1 [] e11 [e4, e5, (5, (sv A24 l26 c25)), e2, e3, e6, e9, (10, (iv 0))] (by kernel_rfl) ?_
       refine WL.done rfl (WX.next ?_)
       obtain ⟨x43, hx44, hl35⟩ := bind_some hl35
       refine WC.cutN (T := e14 × e12 × Nat) (fun t => [e4, e5, (5, (sv t.2.1 t.1 t.2.2)), e2, e3, e6, e9]) (fun t w1 => St NoS w w1 [] [blk g4 (.cells e1 66 (0, 0)), rowO 90 enc_Made t.2.1 t.2.2 t.1] ∧ x43 = t.1) (fun Kx43 => ?_) ?_
       ·
        refine WC.block ?_
        refine WC.loop (T := (e14 × Int) × e12 × Nat) (fun t => [e4, e5, (5, (sv t.2.1 t.1.1 t.2.2)), e2, e3, e6, e9, (10, (iv t.1.2))]) (fun n t w1 => St NoS w w1 [] [blk g4 (.cells e1 66 (0, 0)), rowO 90 enc_Made t.2.1 t.2.2 t.1.1] ∧ ref07_made.l2 n t.1.1 t.1.2 p0 p1 x14 x27 = some x43) k32 ((l26, 0), A24, c25) e11 rfl ⟨(hS34.subR []).sub [0, 1] (by decide), hx44⟩ ?_
        rintro k45 ⟨⟨l39, x40⟩, A37, c38⟩ w46 ⟨hS47, hl48⟩
        let e10 : Nat × Value := (10, (iv x40))
        let e15 := w64 ((w64 (p1.Factor.Num * x14)) - (w64 (x40 * p1.Factor.Den)))
        cases k45 with
        | zero => rw [ref07_made.l2] at hl48; cases hl48
        | succ k45 =>
         rw [ref07_made.l2] at hl48
         refine WC.seq (WC.seq (WC.region ?_))
         refine sg 3 [] [0, 3, 5, 6, 7, 8, 9, 10, 29] [e4, e5, (5, (sv A37 l39 c38)), e2, e3, e6, e9, e10, (29, (bv (decide (x40 < p1.Factor.Num))))] (by kernel_rfl) ?_
         refine WL.done rfl (WX.next ?_)
         rcases br_some hl48 with ⟨h49, hl48⟩ | ⟨h49, hl48⟩
         ·refine WC.condT2 (fun fb => by kernel_rfl) h49 ?_
          refine WC.skip (WX.next (WC.seq (WC.block (WC.seq (WC.region ?_)))))
          refine sg 1 [] e8 [e4, e5, (5, (sv A37 l39 c38)), e2, e3, e6, e9, e10, (11, (iv 0))] (by kernel_rfl) ?_
          refine WL.done rfl (WX.next ?_)
          obtain ⟨x56, hx57, hl48⟩ := bind_some hl48
          refine WC.cutN (T := e14 × e12 × Nat) (fun t => [e4, e5, (5, (sv t.2.1 t.1 t.2.2)), e2, e3, e6, e9, e10]) (fun t w1 => St NoS w w1 [] [blk g4 (.cells e1 66 (0, 0)), rowO 90 enc_Made t.2.1 t.2.2 t.1] ∧ x56 = t.1) (fun Kx56 => ?_) ?_
          ·
           refine WC.block ?_
           refine WC.loop (T := (e14 × Int) × e12 × Nat) (fun t => [e4, e5, (5, (sv t.2.1 t.1.1 t.2.2)), e2, e3, e6, e9, e10, (11, (iv t.1.2))]) (fun n t w1 => St NoS w w1 [] [blk g4 (.cells e1 66 (0, 0)), rowO 90 enc_Made t.2.1 t.2.2 t.1.1] ∧ ref07_made.l3 n t.1.1 t.1.2 p0 p1 x14 x27 x40 = some x56) k45 ((l39, 0), A37, c38) e8 rfl ⟨(hS47.subR []).sub [0, 1] (by decide), hx57⟩ ?_
           rintro k58 ⟨⟨l52, x53⟩, A50, c51⟩ w59 ⟨hS60, hl61⟩
           let e7 : Array Value := #[(iv p0), (iv x27), (iv (w64 (x53 - x40))), (iv e15), (iv (w64 ((w64 (p1.Factor.Num * (w64 (x14 + x27)))) - (w64 (x53 * p1.Factor.Den)))))]
           cases k58 with
           | zero => rw [ref07_made.l3] at hl61; cases hl61
           | succ k58 =>
            rw [ref07_made.l3] at hl61
            refine WC.seq (WC.seq (WC.region ?_))
            refine sg 8 [] [0, 3, 5, 6, 7, 8, 9, 10, 11, 39] [e4, e5, (5, (sv A50 l52 c51)), e2, e3, e6, e9, e10, (11, (iv x53)), (39, (bv (decide (x53 ≤ w64 (p1.Factor.Num * (w64 ((w64 (x14 + x27)) + 2)))))))] (by kernel_rfl) ?_
            refine WL.done rfl (WX.next ?_)
            rcases br_some hl61 with ⟨h62, hl61⟩ | ⟨h62, hl61⟩
            ·refine WC.condT2 (fun fb => by kernel_rfl) h62 ?_
             refine WC.skip (WX.next (WC.seq (WC.block (WC.seq (WC.region ?_)))))
             refine seg 5 [.v (iv p1.Factor.Num), .v (iv p1.Factor.Den), .v (iv p1.Low.Num), .v (iv p1.Low.Den), .v (iv p1.High.Num), .v (iv p1.High.Den)] [0, 3, 5, 6, 7, 8, 9, 10, 11, 42, 43, 44, 45, 46] [e4, e5, (5, (sv A50 l52 c51)), e2, e3, e6, e9, e10, (11, (iv x53)), (42, (.agg e1)), (43, (iv x14)), (44, (iv x27)), (45, (iv x40)), (46, (iv x53))] [.cell ⟨g4, 0, none⟩ (iv p1.Factor.Num), .cell ⟨g4, 1, none⟩ (iv p1.Factor.Den), .cell ⟨g4, 2, none⟩ (iv p1.Low.Num), .cell ⟨g4, 3, none⟩ (iv p1.Low.Den), .cell ⟨g4, 4, none⟩ (iv p1.High.Num), .cell ⟨g4, 5, none⟩ (iv p1.High.Den)] (fun fb => by kernel_rfl) rfl ⟨hS60.cell 0 rfl 0 rfl, hS60.cell 0 rfl 1 rfl, hS60.cell 0 rfl 2 rfl, hS60.cell 0 rfl 3 rfl, hS60.cell 0 rfl 4 rfl, hS60.cell 0 rfl 5 rfl, trivial⟩ ?_
             obtain ⟨t63, ht65, hl61⟩ := bind_some hl61
             refine WL.call (some 47) 93 #[(.agg e1), (iv x14), (iv x27), (iv x40), (iv x53)] (fun fb => by kernel_rfl) (ref07_possible_calls p1 x14 x27 x40 x53 t63 _ ht65) (fun v w66 hR67 => ?_)
             obtain ⟨rfl, hk_⟩ := hR67
             have hS68 := hS60.keepN hk_
             refine ⟨trivial, ?_⟩
             refine WL.done rfl (WX.next ?_)
             obtain ⟨x72, hx73, hl61⟩ := bind_some hl61
             refine WC.cutN (T := e14 × e12 × Nat) (fun t => [e4, e5, (5, (sv t.2.1 t.1 t.2.2)), e2, e3, e6, e9, e10, (11, (iv x53))]) (fun t w1 => St NoS w w1 [] [blk g4 (.cells e1 66 (0, 0)), rowO 90 enc_Made t.2.1 t.2.2 t.1] ∧ x72 = t.1) (fun Kx72 => ?_) ?_
             ·
              rcases br_some hx73 with ⟨h74, hx73⟩ | ⟨h74, hx73⟩
              ·refine WC.condT2 (fun fb => by kernel_rfl) h74 ?_
               refine WC.region ?_
               refine sg 23 [] [0, 3, 6, 7, 8, 9, 10, 11, 48, 70] [e4, e5, e2, e3, e6, e9, e10, (11, (iv x53)), (48, (sv A50 l52 c51)), (70, (.agg e7))] (by kernel_rfl) ?_
               obtain ⟨t75, ht76, hx73⟩ := bind_some hx73
               refine WL.call (some 71) 94 #[(sv A50 l52 c51), (.agg e7)] (fun fb => by kernel_rfl) (ref07_put_calls _ l52 (Made.mk p0 x27 (w64 (x53 - x40)) e15 (w64 ((w64 (p1.Factor.Num * (w64 (x14 + x27)))) - (w64 (x53 * p1.Factor.Den))))) A50 c51 t75 _ (hS68.io [1] (by decide)) ht76) (fun v w77 hR78 => ?_)
               obtain ⟨A80, c81, rfl, hk_⟩ := hR78
               have hS79 := hS.go w77 [rowO 90 enc_Made A80 c81 t75, blk g4 (.cells e1 66 (0, 0))] (hS68.call hk_ [1] [0] (fun g hg => fpL_sel g hg) (by decide) (by decide))
               refine ⟨trivial, ?_⟩
               refine sg 25 [] e8 [e4, e5, (5, (sv A80 t75 c81)), e2, e3, e6, e9, e10, (11, (iv x53))] (by kernel_rfl) ?_
               refine WL.done rfl ?_
               injection hx73 with hx73
               exact WX.to Kx72 (t75, A80, c81) e8 rfl ⟨(hS79.subR []).sub [1, 0] (by decide), hx73.symm⟩
              refine WC.condF2 (fun fb => by kernel_rfl) h74 ?_
              refine WC.skip ?_
              injection hx73 with hx73
              exact WX.to Kx72 (l52, A50, c51) e8 rfl ⟨(hS68.subR []).sub [0, 1] (by decide), hx73.symm⟩
             rintro ⟨y85, A70, c71⟩ w82 ⟨hS83, hq84⟩
             subst hq84
             refine WX.blockN (WX.next ?_)
             refine WC.region ?_
             refine sg 3 [] e8 [e4, e5, (5, (sv A70 x72 c71)), e2, e3, e6, e9, e10, (11, (iv (w64 (x53 + 1))))] (by kernel_rfl) ?_
             refine WL.done rfl ?_
             exact WX.again k58 (Nat.lt_succ_self _) ((x72, w64 (x53 + 1)), A70, c71) e8 rfl ⟨(hS83.subR []).sub [0, 1] (by decide), hl61⟩
            refine WC.condF2 (fun fb => by kernel_rfl) h62 ?_
            refine WC.exit ?_
            injection hl61 with hl61
            exact WX.thenX (WX.thenX (WX.blockHere (WX.to Kx56 (l52, A50, c51) e11 rfl ⟨(hS60.subR []).sub [0, 1] (by decide), hl61.symm⟩)))
          rintro ⟨y89, A54, c55⟩ w86 ⟨hS87, hq88⟩
          subst hq88
          refine WX.blockN (WX.next ?_)
          refine WC.region ?_
          refine sg 3 [] e11 [e4, e5, (5, (sv A54 x56 c55)), e2, e3, e6, e9, (10, (iv (w64 (x40 + 1))))] (by kernel_rfl) ?_
          refine WL.done rfl ?_
          exact WX.again k45 (Nat.lt_succ_self _) ((x56, w64 (x40 + 1)), A54, c55) e11 rfl ⟨(hS87.subR []).sub [0, 1] (by decide), hl48⟩
         refine WC.condF2 (fun fb => by kernel_rfl) h49 ?_
         refine WC.exit ?_
         injection hl48 with hl48
         exact WX.thenX (WX.thenX (WX.blockHere (WX.to Kx43 (l39, A37, c38) e13 rfl ⟨(hS47.subR []).sub [0, 1] (by decide), hl48.symm⟩)))
       rintro ⟨y93, A41, c42⟩ w90 ⟨hS91, hq92⟩
       subst hq92
       refine WX.blockN (WX.next ?_)
       refine WC.region ?_
       refine sg 3 [] e13 [e4, e5, (5, (sv A41 x43 c42)), e2, e3, e6, (9, (iv (w64 (x27 + 1))))] (by kernel_rfl) ?_
       refine WL.done rfl ?_
       exact WX.again k32 (Nat.lt_succ_self _) ((x43, w64 (x27 + 1)), A41, c42) e13 rfl ⟨(hS91.subR []).sub [0, 1] (by decide), hl35⟩
      refine WC.condF2 (fun fb => by kernel_rfl) h36 ?_
      refine WC.exit ?_
      injection hl35 with hl35
      exact WX.thenX (WX.thenX (WX.blockHere (WX.to Kx30 (l26, A24, c25) [0, 3, 5, 6, 7, 8] rfl ⟨(hS34.subR []).sub [0, 1] (by decide), hl35.symm⟩)))
    rintro ⟨y97, A28, c29⟩ w94 ⟨hS95, hq96⟩
    subst hq96
    refine WX.blockN (WX.next ?_)
    refine WC.region ?_
    refine sg 3 [] [0, 3, 5, 6, 7, 8] [e4, e5, (5, (sv A28 x30 c29)), e2, e3, (8, (iv (w64 (x14 + 1))))] (by kernel_rfl) ?_
    refine WL.done rfl ?_
    exact WX.again k19 (Nat.lt_succ_self _) ((x30, w64 (x14 + 1)), A28, c29) [0, 3, 5, 6, 7, 8] rfl ⟨(hS95.subR []).sub [0, 1] (by decide), hl22⟩
   refine WC.condF2 (fun fb => by kernel_rfl) h23 ?_
   refine WC.exit ?_
   injection hl22 with hl22
   exact WX.thenX (WX.thenX (WX.blockHere (WX.to Kx17 (l13, A11, c12) [5] rfl ⟨(hS21.subR []).sub [1] (by decide), hl22.symm⟩)))
 rintro ⟨y101, A15, c16⟩ w98 ⟨hS99, hq100⟩
 subst hq100
 refine WX.next (WC.seq (WC.region ?_))
 refine sg 2 [] [4] [(4, (sv A15 x17 c16))] (by kernel_rfl) ?_
 refine WL.done rfl (WX.next ?_)
 refine WC.ret ?_
 injection hf with hf
 subst hf
 exact WX.ret_ [] (sv A15 x17 c16) [] (fun fb => by kernel_rfl) trivial ⟨_, rfl, A15, c16, rfl, (hS99.sub [0] (by decide)).noR⟩
theorem ref07_All_calls (k : Nat) (p0 : List Piece) (Aa : Option Addr) (ca : Nat) (r : (List Made)) (w : World) (hR0 : RO NoS w (rowR enc_Piece Aa ca p0)) (hf : ref07_All k p0 = some r) :
  CallsR Tryz.prog 41 #[(sv Aa p0 ca)] w (fun v w' => ∃ (A1_ : Option Addr), ∃ (c1_ : Nat), v = (sv A1_ r c1_) ∧ St NoS w w' [] [rowO 90 enc_Made A1_ c1_ r]) := by
 have hS : St NoS w w [rowR enc_Piece Aa ca p0] [] := St.init (ro_cons hR0 (ro_nil _ _))
 refine enter 20 Tryz.func41 rfl Tryz.ntmps41 rfl ?_
 unfold ref07_All at hf
 refine WC.seq (WC.region ?_)
 refine sg 1 [] [0] [(0, (sv Aa p0 ca))] (by kernel_rfl) ?_
 refine WL.done rfl (WX.next (WC.seq (WC.region ?_)))
 refine sg 1 [] [0, 3] [(0, (sv Aa p0 ca)), (3, (.slice none 0 0))] (by kernel_rfl) ?_
 refine WL.done rfl (WX.next (WC.seq (WC.seq (WC.region ?_))))
 refine sg 1 [] [0, 3, 4] [(0, (sv Aa p0 ca)), (3, (.slice none 0 0)), (4, (iv 0))] (by kernel_rfl) ?_
 refine WL.done rfl (WX.next ?_)
 have hS3 := hS.nilrow 90 enc_Made
 obtain ⟨x11, hx12, hf⟩ := bind_some hf
 let e4 : Nat × Value := (0, (sv Aa p0 ca))
 refine WC.cutN (T := (List Made) × (Option Addr) × Nat) (fun t => [(3, (sv t.2.1 t.1 t.2.2))]) (fun t w1 => St NoS w w1 [rowR enc_Piece Aa ca p0] [rowO 90 enc_Made t.2.1 t.2.2 t.1] ∧ x11 = t.1) (fun Kx11 => ?_) ?_
 ·
  refine WC.block ?_
  refine WC.loop (T := ((List Made) × Int) × (Option Addr) × Nat) (fun t => [e4, (3, (sv t.2.1 t.1.1 t.2.2)), (4, (iv t.1.2))]) (fun n t w1 => St NoS w w1 [rowR enc_Piece Aa ca p0] [rowO 90 enc_Made t.2.1 t.2.2 t.1.1] ∧ ref07_All.l0 n t.1.1 t.1.2 p0 = some x11) k ((([] : List Made), 0), none, 0) [0, 3, 4] rfl ⟨(hS3.subR [0]).sub [0] (by decide), hx12⟩ ?_
  rintro k13 ⟨⟨l6, x8⟩, A4, c5⟩ w14 ⟨hS15, hl16⟩
  let e1 := rdD p0 x8 z_Piece
  let e2 := (adr Aa).add ((x8).toNat * 6)
  let e3 : Array Value := #[(iv ((e1.Factor).Num)), (iv ((e1.Factor).Den)), (iv ((e1.Low).Num)), (iv ((e1.Low).Den)), (iv ((e1.High).Num)), (iv ((e1.High).Den))]
  cases k13 with
  | zero => rw [ref07_All.l0] at hl16; cases hl16
  | succ k13 =>
   rw [ref07_All.l0] at hl16
   refine WC.seq (WC.seq (WC.region ?_))
   refine sg 4 [] [0, 3, 4, 8] [e4, (3, (sv A4 l6 c5)), (4, (iv x8)), (8, (bv (decide (x8 < (p0.length : Int)))))] (by kernel_rfl) ?_
   refine WL.done rfl (WX.next ?_)
   rcases br_some hl16 with ⟨h17, hl16⟩ | ⟨h17, hl16⟩
   ·refine WC.condT2 (fun fb => by kernel_rfl) h17 ?_
    refine WC.skip (WX.next (WC.seq (WC.block (WC.region ?_))))
    refine sg 4 [] [0, 4, 11, 12, 13, 14] [e4, (4, (iv x8)), (11, (sv A4 l6 c5)), (12, (iv x8)), (13, (sv Aa p0 ca)), (14, (iv x8))] (by kernel_rfl) ?_
    obtain ⟨h18, hl16⟩ := as_some hl16
    refine seg 6 [.v (iv ((e1.Factor).Num)), .v (iv ((e1.Factor).Den)), .v (iv ((e1.Low).Num)), .v (iv ((e1.Low).Den)), .v (iv ((e1.High).Num)), .v (iv ((e1.High).Den))] [0, 4, 11, 12, 16] [e4, (4, (iv x8)), (11, (sv A4 l6 c5)), (12, (iv x8)), (16, (.agg e3))] [.idx Aa x8 p0.length, .cell e2 (iv ((e1.Factor).Num)), .cell (e2.add 1) (iv ((e1.Factor).Den)), .cell (e2.add 2) (iv ((e1.Low).Num)), .cell (e2.add 3) (iv ((e1.Low).Den)), .cell (e2.add 4) (iv ((e1.High).Num)), .cell (e2.add 5) (iv ((e1.High).Den))] (fun fb => by kernel_rfl) rfl ⟨rowR.adr (hS15.rd 0).1 h18.1 h18.2, rowR.cell (hS15.rd 0).1 z_Piece h18.1 h18.2 0 rfl, rowR.cell (hS15.rd 0).1 z_Piece h18.1 h18.2 1 rfl, rowR.cell (hS15.rd 0).1 z_Piece h18.1 h18.2 2 rfl, rowR.cell (hS15.rd 0).1 z_Piece h18.1 h18.2 3 rfl, rowR.cell (hS15.rd 0).1 z_Piece h18.1 h18.2 4 rfl, rowR.cell (hS15.rd 0).1 z_Piece h18.1 h18.2 5 rfl, trivial⟩ ?_
    obtain ⟨t19, ht20, hl16⟩ := bind_some hl16
    refine WL.call (some 17) 69 #[(iv x8), (.agg e3)] (fun fb => by kernel_rfl) (ref07_made_calls _ x8 e1 t19 _ ht20) (fun v w21 hR22 => ?_)
    obtain ⟨A24, c25, rfl, hk_⟩ := hR22
    have hS23 := hS.go w21 [rowO 90 enc_Made A24 c25 t19, rowO 90 enc_Made A4 c5 l6] (hS15.call hk_ [] [0] (fun g hg => hg.elim) (by simp) (by decide))
    refine ⟨trivial, ?_⟩
    obtain ⟨h26, hl16⟩ := as_some hl16
    refine WL.append hS23 1 (d := 18) (tS := 85) (z := (.agg #[(iv 0), (iv 0), (iv 0), (iv 0), (iv 0)])) (bytes := 40) (c2 := c25) rfl (fun fb => by kernel_rfl) (rowO.rd (hS23.own 0).1) (by kernel_rfl) (by kernel_rfl) rfl (by decide) h26 (by decide) [0] (by decide) (by decide) (fun A27 c28 w29 hS30 => ?_)
    refine ⟨trivial, ?_⟩
    refine sg 9 [] [0, 3, 4] [e4, (3, (sv A27 (l6 ++ t19) c28)), (4, (iv x8))] (by kernel_rfl) ?_
    refine WL.done rfl ?_
    refine WX.blockN (WX.next ?_)
    refine WC.region ?_
    refine sg 3 [] [0, 3, 4] [e4, (3, (sv A27 (l6 ++ t19) c28)), (4, (iv (w64 (x8 + 1))))] (by kernel_rfl) ?_
    refine WL.done rfl ?_
    exact WX.again k13 (Nat.lt_succ_self _) ((l6 ++ t19, w64 (x8 + 1)), A27, c28) [0, 3, 4] rfl ⟨(hS30.subR [0]).sub [0] (by decide), hl16⟩
   refine WC.condF2 (fun fb => by kernel_rfl) h17 ?_
   refine WC.exit ?_
   injection hl16 with hl16
   exact WX.thenX (WX.thenX (WX.blockHere (WX.to Kx11 (l6, A4, c5) [3] rfl ⟨(hS15.subR [0]).sub [0] (by decide), hl16.symm⟩)))
 rintro ⟨y34, A9, c10⟩ w31 ⟨hS32, hq33⟩
 subst hq33
 refine WX.next (WC.seq (WC.region ?_))
 refine sg 2 [] [2] [(2, (sv A9 x11 c10))] (by kernel_rfl) ?_
 refine WL.done rfl (WX.next ?_)
 refine WC.ret ?_
 injection hf with hf
 subst hf
 exact WX.ret_ [] (sv A9 x11 c10) [] (fun fb => by kernel_rfl) trivial ⟨_, rfl, A9, c10, rfl, (hS32.sub [0] (by decide)).noR⟩
theorem ref07_add_calls (k : Nat) (p0 : List Colour) (p1 : Colour) (Aa : Option Addr) (ca : Nat) (r : (List Colour)) (w : World) (hI : IoOK w [rowO 93 enc_Colour Aa ca p0]) (hf : ref07_add k p0 p1 = some r) :
  CallsR Tryz.prog 70 #[(sv Aa p0 ca), (.agg #[(iv p1.Piece), (iv p1.Carry)])] w (fun v w' => ∃ (A1_ : Option Addr), ∃ (c1_ : Nat), v = (sv A1_ r c1_) ∧ St (fpL [rowO 93 enc_Colour Aa ca p0]) w w' [] [rowO 93 enc_Colour A1_ c1_ r]) := by
 have hS : St (fpL [rowO 93 enc_Colour Aa ca p0]) w w [] [rowO 93 enc_Colour Aa ca p0] := St.initIO (ro_nil _ _) hI
 refine enter 67 Tryz.func70 rfl Tryz.ntmps70 rfl ?_
 unfold ref07_add at hf
 refine WC.seq (WC.region ?_)
 refine WL.new hS 3 [] (fun g => (pt g)) (.cells #[(iv p1.Piece), (iv p1.Carry)] 93 (0, 0)) [] (fun fb g => by kernel_rfl) trivial (fun g3 w4 hS5 => ?_)
 refine ⟨trivial, ?_⟩
 refine sg 2 [] [0, 3] [(0, (sv Aa p0 ca)), (3, (pt g3))] (by kernel_rfl) ?_
 refine WL.done rfl (WX.next (WC.seq (WC.region ?_)))
 refine sg 1 [] [0, 3, 5] [(0, (sv Aa p0 ca)), (3, (pt g3)), (5, (iv 0))] (by kernel_rfl) ?_
 refine WL.done rfl (WX.next (WC.seq ?_))
 obtain ⟨x8, hx9, hf⟩ := bind_some hf
 let e15 : List Nat := [0, 1, 2, 3, 4, 5, 6, 7, 8, 9, 10, 11, 12, 13, 14, 15, 16, 17, 18, 19, 20, 21, 22]
 let e23 : List Nat := [0, 1, 2, 3, 4, 5, 6, 7, 8, 9, 10, 11, 12, 13]
 let e1 := [[], [], [1], [0, 1, 2], [0, 1, 2, 3], [0, 1, 2, 3, 4], [0, 1, 2, 3, 4], [0, 1, 2, 3, 4, 5, 6], [0, 1, 2, 3, 4, 5, 6, 7], [0, 1, 2, 3, 4, 5, 6, 7, 8], [0, 1, 2, 3, 4], [0, 1, 2, 3, 4, 10], [0, 1, 2, 3, 4, 5, 6, 7, 8, 9, 10, 11], [0, 1, 2, 3, 4, 5, 6, 7, 8, 9, 10, 11, 12], e23, e23, [0, 1, 2, 3, 4, 5, 6, 7, 8, 9, 10, 11, 12, 13, 14, 15], [0, 1, 2, 3, 4, 5, 6, 7, 8, 9, 10, 11, 12, 13, 14, 15, 16], [0, 1, 2, 3, 4, 5, 6, 7, 8, 9, 10, 11, 12, 13, 14, 15, 16, 17], e23, [0, 1, 2, 3, 4, 5, 6, 7, 8, 9, 10, 11, 12, 13, 19], [0, 1, 2, 3, 4, 5, 6, 7, 8, 9, 10, 11, 12, 13, 14, 15, 16, 17, 18, 19, 20], [0, 1, 2, 3, 4, 5, 6, 7, 8, 9, 10, 11, 12, 13, 14, 15, 16, 17, 18, 19, 20, 21], e15, e15, [0, 1, 2, 3, 4, 5, 6, 7, 8, 9, 10, 11, 12, 13, 14, 15, 16, 17, 18, 19, 20, 21, 22, 23, 24], [0, 1, 2, 3, 4, 5, 6, 7, 8, 9, 10, 11, 12, 13, 14, 15, 16, 17, 18, 19, 20, 21, 22, 23, 24, 25], [0, 1, 2, 3, 4, 5, 6, 7, 8, 9, 10, 11, 12, 13, 14, 15, 16, 17, 18, 19, 20, 21, 22, 23, 24, 25, 26], e15, [0, 1, 2, 3, 4, 5, 6, 7, 8, 9, 10, 11, 12, 13, 14, 15, 16, 17, 18, 19, 20, 21, 22, 28], [0, 1, 2, 3, 4, 5, 6, 7, 8, 9, 10, 11, 12, 13, 14, 15, 16, 17, 18, 19, 20, 21, 22, 23, 24, 25, 26, 27, 28, 29], [0, 1, 2, 3, 4, 5, 6, 7, 8, 9, 10, 11, 12, 13, 14, 15, 16, 17, 18, 19, 20, 21, 22, 23, 24, 25, 26, 27, 28, 29, 30], [0, 1, 2, 3, 4, 5, 6, 7, 8, 9, 10, 11, 12, 13, 14, 15, 16, 17, 18, 19, 20, 21, 22, 23, 24, 25, 26, 27, 28, 29, 30, 31], [0, 1, 2, 3, 4, 5, 6, 7, 8, 9, 10, 11, 12, 13, 14, 15, 16, 17, 18, 19, 20, 21, 22, 23, 24, 25, 26, 27, 28, 29, 30, 31, 32]]
 let e2 : List Nat := [0, 1, 2, 3, 4, 5, 6, 7, 8, 9, 10, 11, 12, 13, 14, 15, 16, 17, 18, 19, 20, 21, 22, 23, 24, 25, 26, 27, 28, 29, 30, 31, 32, 33]
 let e13 : Nat × Addr × Value := (11, ⟨g3, 0, none⟩, (iv p1.Piece))
 let e14 : Nat × Value := (0, (sv Aa p0 ca))
 let e17 := iv p1.Piece
 let e21 : Nat × Value := (3, (pt g3))
 let e25 : Nat × Addr × Value := (20, ⟨g3, 0, none⟩, e17)
 let e26 : List Nat := [0, 3, 5, 39]
 let e27 := fpL [rowO 93 enc_Colour Aa ca p0]
 let e32 := iv p1.Carry
 refine WC.cutN (T := Int) (fun t => [e14, e21, (5, (iv t))]) (fun t w1 => St e27 w w1 [] [rowO 93 enc_Colour Aa ca p0, blk g3 (.cells #[e17, e32] 93 (0, 0))] ∧ x8 = t) (fun Kx8 => ?_) ?_
 ·
  refine WC.block ?_
  refine WC.loop (T := Int) (fun t => [e14, e21, (5, (iv t))]) (fun n t w1 => St e27 w w1 [] [rowO 93 enc_Colour Aa ca p0, blk g3 (.cells #[e17, e32] 93 (0, 0))] ∧ ref07_add.l0 n t p0 p1 = some x8) k 0 [0, 3, 5] rfl ⟨(hS5.subR []).sub [1, 0] (by decide), hx9⟩ ?_
  rintro k10 x6 w11 ⟨hS12, hl13⟩
  let e3 := iv ((rdD p0 x6 z_Colour).Piece)
  let e6 := (adr Aa).add ((x6).toNat * 2)
  let e7 : List (Nat × Value) := [e14, e21, (5, (iv x6)), (10, (bv (decide (x6 < (p0.length : Int)))))]
  let e8 : List (Nat × Value) := [e14, e21, (5, (iv x6)), (10, (bv true)), (19, (bv (decide ((rdD p0 x6 z_Colour).Piece < p1.Piece))))]
  let e20 := rdD p0 x6 z_Colour
  let e31 : Nat × Value := (5, (iv x6))
  cases k10 with
  | zero => rw [ref07_add.l0] at hl13; cases hl13
  | succ k10 =>
   rw [ref07_add.l0] at hl13
   refine WC.seq (WC.seq ?_)
   obtain ⟨x14, hx15, hl13⟩ := bind_some hl13
   refine WC.cutN (T := Bool) (fun t => [e14, e21, e31, (39, (bv t))]) (fun t w1 => St e27 w w1 [] [rowO 93 enc_Colour Aa ca p0, blk g3 (.cells #[e17, e32] 93 (0, 0))] ∧ x14 = t) (fun Kx14 => ?_) ?_
   ·
    rcases br_some hx15 with ⟨h16, hx15⟩ | ⟨h16, hx15⟩
    ·
     rcases br_some hx15 with ⟨h17, hx15⟩ | ⟨h17, hx15⟩
     ·
      obtain ⟨h20, hx15⟩ := as_some hx15
      refine WC.regionD ([(9, e6, e3), e13], e2, e1) [e2] (by kernel_rfl) (by kernel_rfl) (NoPanic.seq (NoPanic.seq (NoPanic.seq (NoPanic.block (NoPanic.seq (NoPanic.body)))))) ?_
      have hS19 := hS12.drew
      revert hS19
      generalize World.drew w11 = w18
      intro hS19
      refine ⟨⟨rowR.cell (rowO.rd (hS19.own 0).1) z_Colour h20.1 h20.2 0 rfl, hS19.cell 1 rfl 0 rfl, trivial⟩, forallC ?_ (forallN)⟩
      refine sg 5 [] [0, 3, 5, 10] e7 (by kernel_rfl) ?_
      refine WL.setB 10 h16 rfl ?_
      refine segF 14 [.v e3, .v e17] [0, 3, 5, 10, 19] e8 [.idx Aa x6 p0.length] [0, 1] [(9, e6, e3), e13] (fun fb => by kernel_rfl) rfl ⟨rowR.adr (rowO.rd (hS19.own 0).1) h20.1 h20.2, trivial⟩ rfl ?_
      refine WL.setB 19 h17 rfl ?_
      refine sg 34 [] e26 [e14, e21, e31, (39, (bv true))] (by kernel_rfl) ?_
      refine WL.done rfl ?_
      injection hx15 with hx15
      exact WX.to Kx14 true e26 rfl ⟨(hS19.subR []).sub [0, 1] (by decide), hx15.symm⟩
     rcases br_some hx15 with ⟨h21, hx15⟩ | ⟨h21, hx15⟩
     ·
      obtain ⟨h24, hx15⟩ := as_some hx15
      refine WC.regionD ([(9, e6, e3), e13, (18, e6, e3), e25, (27, (e6.add 1), (iv (e20.Carry))), (29, ⟨g3, 1, none⟩, e32)], e2, e1) [e2] (by kernel_rfl) (by kernel_rfl) (NoPanic.seq (NoPanic.seq (NoPanic.seq (NoPanic.block (NoPanic.seq (NoPanic.body)))))) ?_
      have hS23 := hS12.drew
      revert hS23
      generalize World.drew w11 = w22
      intro hS23
      refine ⟨⟨rowR.cell (rowO.rd (hS23.own 0).1) z_Colour h24.1 h24.2 0 rfl, hS23.cell 1 rfl 0 rfl, rowR.cell (rowO.rd (hS23.own 0).1) z_Colour h24.1 h24.2 0 rfl, hS23.cell 1 rfl 0 rfl, rowR.cell (rowO.rd (hS23.own 0).1) z_Colour h24.1 h24.2 1 rfl, hS23.cell 1 rfl 1 rfl, trivial⟩, forallC ?_ (forallN)⟩
      refine sg 5 [] [0, 3, 5, 10] e7 (by kernel_rfl) ?_
      refine WL.setB 10 h16 rfl ?_
      refine segF 14 [.v e3, .v e17] [0, 3, 5, 10, 19] e8 [.idx Aa x6 p0.length] [0, 1] [(9, e6, e3), e13] (fun fb => by kernel_rfl) rfl ⟨rowR.adr (rowO.rd (hS23.own 0).1) h24.1 h24.2, trivial⟩ rfl ?_
      refine WL.setB 19 h17 rfl ?_
      refine segF 23 [.v e3, .v e17] [0, 3, 5, 10, 19, 28] [e14, e21, e31, (10, (bv true)), (19, (bv false)), (28, (bv ((e20.Piece) == p1.Piece)))] [.idx Aa x6 p0.length] [2, 3] [(18, e6, e3), e25] (fun fb => by kernel_rfl) rfl ⟨rowR.adr (rowO.rd (hS23.own 0).1) h24.1 h24.2, trivial⟩ rfl ?_
      refine WL.setB 28 h21 rfl ?_
      refine segF 34 [.v (iv (e20.Carry)), .v e32] e26 [e14, e21, e31, (39, (bv (decide (e20.Carry < p1.Carry))))] [.idx Aa x6 p0.length] [4, 5] [(27, (e6.add 1), (iv (e20.Carry))), (29, ⟨g3, 1, none⟩, e32)] (fun fb => by kernel_rfl) rfl ⟨rowR.adr (rowO.rd (hS23.own 0).1) h24.1 h24.2, trivial⟩ rfl ?_
      refine WL.done rfl ?_
      injection hx15 with hx15
      exact WX.to Kx14 (decide (e20.Carry < p1.Carry)) e26 rfl ⟨(hS23.subR []).sub [0, 1] (by decide), hx15.symm⟩
     obtain ⟨h27, hx15⟩ := as_some hx15
     refine WC.regionD ([(9, e6, e3), e13, (18, e6, e3), e25], e2, e1) [e2] (by kernel_rfl) (by kernel_rfl) (NoPanic.seq (NoPanic.seq (NoPanic.seq (NoPanic.block (NoPanic.seq (NoPanic.body)))))) ?_
     have hS26 := hS12.drew
     revert hS26
     generalize World.drew w11 = w25
     intro hS26
     refine ⟨⟨rowR.cell (rowO.rd (hS26.own 0).1) z_Colour h27.1 h27.2 0 rfl, hS26.cell 1 rfl 0 rfl, rowR.cell (rowO.rd (hS26.own 0).1) z_Colour h27.1 h27.2 0 rfl, hS26.cell 1 rfl 0 rfl, trivial⟩, forallC ?_ (forallN)⟩
     refine sg 5 [] [0, 3, 5, 10] e7 (by kernel_rfl) ?_
     refine WL.setB 10 h16 rfl ?_
     refine segF 14 [.v e3, .v e17] [0, 3, 5, 10, 19] e8 [.idx Aa x6 p0.length] [0, 1] [(9, e6, e3), e13] (fun fb => by kernel_rfl) rfl ⟨rowR.adr (rowO.rd (hS26.own 0).1) h27.1 h27.2, trivial⟩ rfl ?_
     refine WL.setB 19 h17 rfl ?_
     refine segF 23 [.v e3, .v e17] [0, 3, 5, 10, 19, 28] [e14, e21, e31, (10, (bv true)), (19, (bv false)), (28, (bv ((e20.Piece) == p1.Piece)))] [.idx Aa x6 p0.length] [2, 3] [(18, e6, e3), e25] (fun fb => by kernel_rfl) rfl ⟨rowR.adr (rowO.rd (hS26.own 0).1) h27.1 h27.2, trivial⟩ rfl ?_
     refine WL.setB 28 h21 rfl ?_
     refine sg 34 [] e26 [e14, e21, e31, (39, (bv false))] (by kernel_rfl) ?_
     refine WL.done rfl ?_
     injection hx15 with hx15
     exact WX.to Kx14 false e26 rfl ⟨(hS26.subR []).sub [0, 1] (by decide), hx15.symm⟩
    refine WC.regionD ([], e2, e1) [e2] (by kernel_rfl) (by kernel_rfl) (NoPanic.seq (NoPanic.seq (NoPanic.seq (NoPanic.block (NoPanic.seq (NoPanic.body)))))) ?_
    have hS29 := hS12.drew
    revert hS29
    generalize World.drew w11 = w28
    intro hS29
    refine ⟨trivial, forallC ?_ (forallN)⟩
    refine sg 5 [] [0, 3, 5, 10] e7 (by kernel_rfl) ?_
    refine WL.setB 10 h16 rfl ?_
    refine sg 34 [] e26 [e14, e21, e31, (39, (bv false))] (by kernel_rfl) ?_
    refine WL.done rfl ?_
    injection hx15 with hx15
    exact WX.to Kx14 false e26 rfl ⟨(hS29.subR []).sub [0, 1] (by decide), hx15.symm⟩
   rintro y33 w30 ⟨hS31, hq32⟩
   subst hq32
   refine WX.next ?_
   rcases br_some hl13 with ⟨h34, hl13⟩ | ⟨h34, hl13⟩
   ·refine WC.condT2 (fun fb => by kernel_rfl) h34 ?_
    refine WC.skip (WX.next (WC.block (WC.region ?_)))
    refine sg 3 [] [0, 3, 5] [e14, e21, (5, (iv (w64 (x6 + 1))))] (by kernel_rfl) ?_
    refine WL.done rfl ?_
    exact WX.blockN (WX.again k10 (Nat.lt_succ_self _) (w64 (x6 + 1)) [0, 3, 5] rfl ⟨(hS31.subR []).sub [0, 1] (by decide), hl13⟩)
   refine WC.condF2 (fun fb => by kernel_rfl) h34 ?_
   refine WC.exit ?_
   injection hl13 with hl13
   exact WX.thenX (WX.thenX (WX.blockHere (WX.to Kx8 x6 [0, 3, 5] rfl ⟨(hS31.subR []).sub [0, 1] (by decide), hl13.symm⟩)))
 rintro y38 w35 ⟨hS36, hq37⟩
 subst hq37
 refine WX.next (WC.seq (WC.seq ?_))
 obtain ⟨x39, hx40, hf⟩ := bind_some hf
 let e9 : List (Nat × Addr × Value) := [(8, ((adr Aa).add ((x8).toNat * 2)), (iv ((rdD p0 x8 z_Colour).Piece))), (8, (((adr Aa).add ((x8).toNat * 2)).add 1), (iv ((rdD p0 x8 z_Colour).Carry))), (9, ⟨g3, 0, none⟩, e17), (9, ⟨g3, 1, none⟩, e32)]
 let e11 := [[], [], [1], [0, 1, 2], [0, 1, 2, 3], [0, 1, 2, 3, 4], [0, 1, 2, 3, 4], [0, 1, 2, 3, 4, 5, 6], [0, 1, 2, 3, 4, 5, 6, 7], [0, 1, 2, 3, 4], [0, 1, 2, 3, 4, 5, 6, 7, 8, 9], [0, 1, 2, 3, 4, 5, 6, 7, 8, 9, 10]]
 let e19 : List Nat := [0, 1, 2, 3, 4, 5, 6, 7, 8, 9, 10, 11]
 let e24 := rdD p0 x8 z_Colour
 refine WC.cutN (T := Bool) (fun t => [e14, e21, (5, (iv x8)), (53, (bv t))]) (fun t w1 => St e27 w w1 [] [rowO 93 enc_Colour Aa ca p0, blk g3 (.cells #[e17, e32] 93 (0, 0))] ∧ x39 = t) (fun Kx39 => ?_) ?_
 ·
  rcases br_some hx40 with ⟨h41, hx40⟩ | ⟨h41, hx40⟩
  ·
   obtain ⟨h44, hx40⟩ := as_some hx40
   refine WC.regionD (e9, e19, e11) [e19] (by kernel_rfl) (by kernel_rfl) (NoPanic.seq (NoPanic.seq (NoPanic.body))) ?_
   have hS43 := hS36.drew
   revert hS43
   generalize World.drew w35 = w42
   intro hS43
   refine ⟨⟨rowR.cell (rowO.rd (hS43.own 0).1) z_Colour h44.1 h44.2 0 rfl, rowR.cell (rowO.rd (hS43.own 0).1) z_Colour h44.1 h44.2 1 rfl, hS43.cell 1 rfl 0 rfl, hS43.cell 1 rfl 1 rfl, trivial⟩, forallC ?_ (forallN)⟩
   refine sg 5 [] [0, 3, 5, 46] [e14, e21, (5, (iv x8)), (46, (bv (decide (x8 < (p0.length : Int)))))] (by kernel_rfl) ?_
   refine WL.setB 46 h41 rfl ?_
   refine segF 12 [.v (iv (e24.Piece)), .v (iv (e24.Carry)), .v e17, .v e32] [0, 3, 5, 53] [e14, e21, (5, (iv x8)), (53, (bv ((e24.Piece) == p1.Piece && ((e24.Carry) == p1.Carry))))] [.idx Aa x8 p0.length] [0, 1, 2, 3] e9 (fun fb => by kernel_rfl) rfl ⟨rowR.adr (rowO.rd (hS43.own 0).1) h44.1 h44.2, trivial⟩ rfl ?_
   refine WL.done rfl ?_
   injection hx40 with hx40
   exact WX.to Kx39 ((e24.Piece) == p1.Piece && ((e24.Carry) == p1.Carry)) [0, 3, 5, 53] rfl ⟨(hS43.subR []).sub [0, 1] (by decide), hx40.symm⟩
  refine WC.regionD ([], e19, e11) [e19] (by kernel_rfl) (by kernel_rfl) (NoPanic.seq (NoPanic.seq (NoPanic.body))) ?_
  have hS46 := hS36.drew
  revert hS46
  generalize World.drew w35 = w45
  intro hS46
  refine ⟨trivial, forallC ?_ (forallN)⟩
  refine sg 5 [] [0, 3, 5, 46] [e14, e21, (5, (iv x8)), (46, (bv (decide (x8 < (p0.length : Int)))))] (by kernel_rfl) ?_
  refine WL.setB 46 h41 rfl ?_
  refine sg 12 [] [0, 3, 5, 53] [e14, e21, (5, (iv x8)), (53, (bv false))] (by kernel_rfl) ?_
  refine WL.done rfl ?_
  injection hx40 with hx40
  exact WX.to Kx39 false [0, 3, 5, 53] rfl ⟨(hS46.subR []).sub [0, 1] (by decide), hx40.symm⟩
 rintro y50 w47 ⟨hS48, hq49⟩
 subst hq49
 refine WX.next ?_
 rcases br_some hf with ⟨h51, hf⟩ | ⟨h51, hf⟩
 ·refine WC.condT2 (fun fb => by kernel_rfl) h51 ?_
  refine WC.seq (WC.region ?_)
  refine sg 2 [] [4] [(4, (sv Aa p0 ca))] (by kernel_rfl) ?_
  refine WL.done rfl (WX.next ?_)
  refine WC.ret ?_
  injection hf with hf
  subst hf
  exact WX.thenR (WX.ret_ [] (sv Aa p0 ca) [] (fun fb => by kernel_rfl) trivial ⟨_, rfl, Aa, ca, rfl, (hS48.sub [0] (by decide)).noR⟩)
 refine WC.condF2 (fun fb => by kernel_rfl) h51 ?_
 refine WC.skip (WX.next (WC.seq ?_))
 obtain ⟨x54, hx55, hf⟩ := bind_some hf
 let e4 : Nat × Value := (58, (sv (subA Aa ca (0 : Int).toNat 2) (cut p0 (0 : Int) x8) (ca - (0 : Int).toNat)))
 let e5 : Array Value := #[e17, e32]
 let e10 : List (Nat × Addr × Value) := [(5, ⟨g3, 0, none⟩, e17), (5, ⟨g3, 1, none⟩, e32)]
 let e12 := (p0.length : Int)
 let e16 : Array Value := #[(iv 0), (iv 0)]
 let e18 := (cut p0 (0 : Int) x8)
 let e22 := (ca - (0 : Int).toNat)
 let e28 := ca - x8.toNat
 let e29 := cut p0 x8 e12
 let e30 := (subA Aa ca (0 : Int).toNat 2)
 let e33 := sv Aa p0 ca
 let e34 := (x8.toNat - (0 : Int).toNat)
 refine WC.cutN (T := (List Colour) × (Option Addr) × Nat) (fun t => [(4, (sv t.2.1 t.1 t.2.2))]) (fun t w1 => St e27 w w1 [] [rowO 93 enc_Colour t.2.1 t.2.2 t.1] ∧ x54 = t.1) (fun Kx54 => ?_) ?_
 ·
  obtain ⟨h58, hx55⟩ := as_some hx55
  obtain ⟨h59, hx55⟩ := as_some hx55
  refine WC.regionD (e10, [1, 2, 3, 5, 8, 9, 10, 12], [[], [], [], [1, 2], [0, 1, 2, 3], [], [5], [0, 1, 2, 3, 4, 5, 6], [], [], [8, 9], [0, 1, 2, 3, 4, 5, 6, 7, 8, 9, 10], e19]) [[1, 2, 3, 5, 8, 9, 10, 0, 4, 6, 7, 11, 12], [1, 2, 3, 5, 8, 9, 10, 0, 6, 4, 7, 11, 12], [1, 2, 3, 5, 8, 9, 10, 6, 0, 4, 7, 11, 12]] (by kernel_rfl) (by kernel_rfl) (NoPanic.seq (NoPanic.body)) ?_
  have hS57 := hS48.drew
  revert hS57
  generalize World.drew w47 = w56
  intro hS57
  refine ⟨⟨hS57.cell 1 rfl 0 rfl, hS57.cell 1 rfl 1 rfl, trivial⟩, forallC ?_ (forallC ?_ (forallC ?_ (forallN)))⟩
  ·
   refine sg 2 [] [0, 3, 5, 56, 57] [e14, e21, (5, (iv x8)), (56, e33), (57, (iv x8))] (by kernel_rfl) ?_
   refine seg 3 [] [0, 3, 5, 58] [e14, e21, (5, (iv x8)), (58, (.slice e30 e34 e22))] [.idx (some ⟨0, 0, none⟩) (0 : Int) (x8.toNat + 1), .idx (some ⟨0, 0, none⟩) x8 (ca + 1)] (fun fb => by kernel_rfl) rfl ⟨cut1 h58.1 h58.2.1, cut2 h58.1 h58.2.1 h58.2.2 (rowO.rd (hS57.own 0).1).2, trivial⟩ ?_
   refine WL.reE [0, 3, 5, 58] [(0, (.slice Aa p0.length ca)), (3, (pt g3)), (5, (iv x8)), (58, (.slice (subA Aa ca (0 : Int).toNat 2) (x8.toNat - (0 : Int).toNat) (ca - (0 : Int).toNat)))] [(0, (.slice Aa p0.length ca)), (3, (pt g3)), (5, (iv x8)), (58, (.slice (subA Aa ca (0 : Int).toNat 2) (cut p0 (0 : Int) x8).length (ca - (0 : Int).toNat)))] rfl (by rw [cut_length h58.1 h58.2.1 h58.2.2]) ?_
   refine segF 6 [.v e17, .v e32] [58, 60, 63, 64] [e4, (60, (.agg e5)), (63, e33), (64, (iv x8))] [] [0, 1] e10 (fun fb => by kernel_rfl) rfl trivial rfl ?_
   refine seg 7 [] [58, 60, 65] [e4, (60, (.agg e5)), (65, (.slice (subA Aa ca x8.toNat 2) (e12.toNat - x8.toNat) e28))] [.idx (some ⟨0, 0, none⟩) x8 (e12.toNat + 1), .idx (some ⟨0, 0, none⟩) e12 (ca + 1)] (fun fb => by kernel_rfl) rfl ⟨cut1 h59.1 h59.2.1, cut2 h59.1 h59.2.1 h59.2.2 (rowO.rd (hS57.own 0).1).2, trivial⟩ ?_
   refine WL.reE [58, 60, 65] [(58, (.slice (subA Aa ca (0 : Int).toNat 2) (cut p0 (0 : Int) x8).length (ca - (0 : Int).toNat))), (60, (.agg #[(iv p1.Piece), (iv p1.Carry)])), (65, (.slice (subA Aa ca x8.toNat 2) ((p0.length : Int).toNat - x8.toNat) (ca - x8.toNat)))] [(58, (.slice (subA Aa ca (0 : Int).toNat 2) (cut p0 (0 : Int) x8).length (ca - (0 : Int).toNat))), (60, (.agg #[(iv p1.Piece), (iv p1.Carry)])), (65, (.slice (subA Aa ca x8.toNat 2) (cut p0 x8 (p0.length : Int)).length (ca - x8.toNat)))] rfl (by rw [cut_length h59.1 h59.2.1 h59.2.2]) ?_
   refine WL.new hS57 55 [] (fun g => (.slice (some ⟨g, 0, none⟩) 0 0)) (.cells #[] 93 (0, 0)) [] (fun fb g => by kernel_rfl) trivial (fun g60 w61 hS62 => ?_)
   refine ⟨⟨hS62.cell 2 rfl 0 rfl, hS62.cell 2 rfl 1 rfl, trivial⟩, ?_⟩
   have hS63 := hS.go w61 [rowO 93 enc_Colour (some ⟨g60, 0, none⟩) 0 ([] : List Colour), rowO 93 enc_Colour Aa ca p0, blk g3 (.cells e5 93 (0, 0))] (hS62.map1 0 _ (fun h => rowO.ofBlk h rfl (Nat.le_of_ble_eq_true (by kernel_rfl))) (fun _ h => by obtain ⟨_, h1, h2⟩ := h; injection h1 with h1; subst h1; exact h2) [1, 2] (by decide) (by decide))
   obtain ⟨h65, hx55⟩ := as_some hx55
   refine WL.append hS63 0 (d := 59) (tS := 87) (z := (.agg e16)) (bytes := 16) (c2 := e22) rfl (fun fb => by kernel_rfl) ((cutR ((hS63.ow 1).ofO) h58.1 h58.2.1 h58.2.2)).1 (by kernel_rfl) (by kernel_rfl) rfl (by decide) h65 (by decide) [1, 2] (by decide) (by decide) (fun A66 c67 w68 hS69 => ?_)
   refine ⟨⟨hS69.cell 2 rfl 0 rfl, hS69.cell 2 rfl 1 rfl, trivial⟩, ?_⟩
   refine WL.new hS69 61 [] (fun g => (.slice (some ⟨g, 0, none⟩) 1 1)) (.cells e5 93 (0, 0)) [] (fun fb g => by kernel_rfl) trivial (fun g71 w72 hS73 => ?_)
   refine ⟨trivial, ?_⟩
   have hS74 := hS63.go w72 [rowO 93 enc_Colour (some ⟨g71, 0, none⟩) 1 [p1], rowO 93 enc_Colour A66 c67 (([] : List Colour) ++ e18), rowO 93 enc_Colour Aa ca p0, blk g3 (.cells e5 93 (0, 0))] (hS73.map1 0 _ (fun h => rowO.ofBlk h rfl (Nat.le_of_ble_eq_true (by kernel_rfl))) (fun _ h => by obtain ⟨_, h1, h2⟩ := h; injection h1 with h1; subst h1; exact h2) [1, 2, 3] (by decide) (by decide))
   obtain ⟨h75, hx55⟩ := as_some hx55
   refine WL.append hS74 1 (d := 62) (tS := 87) (z := (.agg e16)) (bytes := 16) (c2 := 1) rfl (fun fb => by kernel_rfl) (rowO.rd (hS74.own 0).1) (by kernel_rfl) (by kernel_rfl) rfl (by decide) h75 (by decide) [0, 2, 3] (by decide) (by decide) (fun A76 c77 w78 hS79 => ?_)
   refine ⟨trivial, ?_⟩
   obtain ⟨h80, hx55⟩ := as_some hx55
   refine WL.append hS79 0 (d := 66) (tS := 87) (z := (.agg e16)) (bytes := 16) (c2 := e28) rfl (fun fb => by kernel_rfl) ((cutR ((hS79.ow 2).ofO) h59.1 h59.2.1 h59.2.2)).1 (by kernel_rfl) (by kernel_rfl) rfl (by decide) h80 (by decide) [1, 2, 3] (by decide) (by decide) (fun A81 c82 w83 hS84 => ?_)
   refine ⟨trivial, ?_⟩
   refine sg 13 [] [4] [(4, (sv A81 (((([] : List Colour) ++ e18) ++ [p1]) ++ e29) c82))] (by kernel_rfl) ?_
   refine WL.done rfl ?_
   injection hx55 with hx55
   exact WX.to Kx54 (((([] : List Colour) ++ e18) ++ [p1]) ++ e29, A81, c82) [4] rfl ⟨(hS84.subR []).sub [0] (by decide), hx55.symm⟩
  ·
   refine sg 2 [] [0, 3, 5, 56, 57] [e14, e21, (5, (iv x8)), (56, e33), (57, (iv x8))] (by kernel_rfl) ?_
   refine seg 3 [] [0, 3, 5, 58] [e14, e21, (5, (iv x8)), (58, (.slice e30 e34 e22))] [.idx (some ⟨0, 0, none⟩) (0 : Int) (x8.toNat + 1), .idx (some ⟨0, 0, none⟩) x8 (ca + 1)] (fun fb => by kernel_rfl) rfl ⟨cut1 h58.1 h58.2.1, cut2 h58.1 h58.2.1 h58.2.2 (rowO.rd (hS57.own 0).1).2, trivial⟩ ?_
   refine WL.reE [0, 3, 5, 58] [(0, (.slice Aa p0.length ca)), (3, (pt g3)), (5, (iv x8)), (58, (.slice (subA Aa ca (0 : Int).toNat 2) (x8.toNat - (0 : Int).toNat) (ca - (0 : Int).toNat)))] [(0, (.slice Aa p0.length ca)), (3, (pt g3)), (5, (iv x8)), (58, (.slice (subA Aa ca (0 : Int).toNat 2) (cut p0 (0 : Int) x8).length (ca - (0 : Int).toNat)))] rfl (by rw [cut_length h58.1 h58.2.1 h58.2.2]) ?_
   refine segF 6 [.v e17, .v e32] [58, 60, 63, 64] [e4, (60, (.agg e5)), (63, e33), (64, (iv x8))] [] [0, 1] e10 (fun fb => by kernel_rfl) rfl trivial rfl ?_
   refine seg 7 [] [58, 60, 65] [e4, (60, (.agg e5)), (65, (.slice (subA Aa ca x8.toNat 2) (e12.toNat - x8.toNat) e28))] [.idx (some ⟨0, 0, none⟩) x8 (e12.toNat + 1), .idx (some ⟨0, 0, none⟩) e12 (ca + 1)] (fun fb => by kernel_rfl) rfl ⟨cut1 h59.1 h59.2.1, cut2 h59.1 h59.2.1 h59.2.2 (rowO.rd (hS57.own 0).1).2, trivial⟩ ?_
   refine WL.reE [58, 60, 65] [(58, (.slice (subA Aa ca (0 : Int).toNat 2) (cut p0 (0 : Int) x8).length (ca - (0 : Int).toNat))), (60, (.agg #[(iv p1.Piece), (iv p1.Carry)])), (65, (.slice (subA Aa ca x8.toNat 2) ((p0.length : Int).toNat - x8.toNat) (ca - x8.toNat)))] [(58, (.slice (subA Aa ca (0 : Int).toNat 2) (cut p0 (0 : Int) x8).length (ca - (0 : Int).toNat))), (60, (.agg #[(iv p1.Piece), (iv p1.Carry)])), (65, (.slice (subA Aa ca x8.toNat 2) (cut p0 x8 (p0.length : Int)).length (ca - x8.toNat)))] rfl (by rw [cut_length h59.1 h59.2.1 h59.2.2]) ?_
   refine WL.new hS57 55 [] (fun g => (.slice (some ⟨g, 0, none⟩) 0 0)) (.cells #[] 93 (0, 0)) [] (fun fb g => by kernel_rfl) trivial (fun g85 w86 hS87 => ?_)
   refine ⟨⟨hS87.cell 2 rfl 0 rfl, hS87.cell 2 rfl 1 rfl, trivial⟩, ?_⟩
   have hS88 := hS.go w86 [rowO 93 enc_Colour (some ⟨g85, 0, none⟩) 0 ([] : List Colour), rowO 93 enc_Colour Aa ca p0, blk g3 (.cells e5 93 (0, 0))] (hS87.map1 0 _ (fun h => rowO.ofBlk h rfl (Nat.le_of_ble_eq_true (by kernel_rfl))) (fun _ h => by obtain ⟨_, h1, h2⟩ := h; injection h1 with h1; subst h1; exact h2) [1, 2] (by decide) (by decide))
   refine WL.new hS88 61 [] (fun g => (.slice (some ⟨g, 0, none⟩) 1 1)) (.cells e5 93 (0, 0)) [] (fun fb g => by kernel_rfl) trivial (fun g89 w90 hS91 => ?_)
   refine ⟨trivial, ?_⟩
   have hS92 := hS88.go w90 [rowO 93 enc_Colour (some ⟨g89, 0, none⟩) 1 [p1], rowO 93 enc_Colour (some ⟨g85, 0, none⟩) 0 ([] : List Colour), rowO 93 enc_Colour Aa ca p0, blk g3 (.cells e5 93 (0, 0))] (hS91.map1 0 _ (fun h => rowO.ofBlk h rfl (Nat.le_of_ble_eq_true (by kernel_rfl))) (fun _ h => by obtain ⟨_, h1, h2⟩ := h; injection h1 with h1; subst h1; exact h2) [1, 2, 3] (by decide) (by decide))
   obtain ⟨h93, hx55⟩ := as_some hx55
   refine WL.append hS92 1 (d := 59) (tS := 87) (z := (.agg e16)) (bytes := 16) (c2 := e22) rfl (fun fb => by kernel_rfl) ((cutR ((hS92.ow 2).ofO) h58.1 h58.2.1 h58.2.2)).1 (by kernel_rfl) (by kernel_rfl) rfl (by decide) h93 (by decide) [0, 2, 3] (by decide) (by decide) (fun A94 c95 w96 hS97 => ?_)
   refine ⟨⟨hS97.cell 3 rfl 0 rfl, hS97.cell 3 rfl 1 rfl, trivial⟩, ?_⟩
   obtain ⟨h98, hx55⟩ := as_some hx55
   refine WL.append hS97 0 (d := 62) (tS := 87) (z := (.agg e16)) (bytes := 16) (c2 := 1) rfl (fun fb => by kernel_rfl) (rowO.rd (hS97.own 1).1) (by kernel_rfl) (by kernel_rfl) rfl (by decide) h98 (by decide) [1, 2, 3] (by decide) (by decide) (fun A99 c100 w101 hS102 => ?_)
   refine ⟨trivial, ?_⟩
   obtain ⟨h103, hx55⟩ := as_some hx55
   refine WL.append hS102 0 (d := 66) (tS := 87) (z := (.agg e16)) (bytes := 16) (c2 := e28) rfl (fun fb => by kernel_rfl) ((cutR ((hS102.ow 2).ofO) h59.1 h59.2.1 h59.2.2)).1 (by kernel_rfl) (by kernel_rfl) rfl (by decide) h103 (by decide) [1, 2, 3] (by decide) (by decide) (fun A104 c105 w106 hS107 => ?_)
   refine ⟨trivial, ?_⟩
   refine sg 13 [] [4] [(4, (sv A104 (((([] : List Colour) ++ e18) ++ [p1]) ++ e29) c105))] (by kernel_rfl) ?_
   refine WL.done rfl ?_
   injection hx55 with hx55
   exact WX.to Kx54 (((([] : List Colour) ++ e18) ++ [p1]) ++ e29, A104, c105) [4] rfl ⟨(hS107.subR []).sub [0] (by decide), hx55.symm⟩
  refine sg 2 [] [0, 3, 5, 56, 57] [e14, e21, (5, (iv x8)), (56, e33), (57, (iv x8))] (by kernel_rfl) ?_
  refine seg 3 [] [0, 3, 5, 58] [e14, e21, (5, (iv x8)), (58, (.slice e30 e34 e22))] [.idx (some ⟨0, 0, none⟩) (0 : Int) (x8.toNat + 1), .idx (some ⟨0, 0, none⟩) x8 (ca + 1)] (fun fb => by kernel_rfl) rfl ⟨cut1 h58.1 h58.2.1, cut2 h58.1 h58.2.1 h58.2.2 (rowO.rd (hS57.own 0).1).2, trivial⟩ ?_
  refine WL.reE [0, 3, 5, 58] [(0, (.slice Aa p0.length ca)), (3, (pt g3)), (5, (iv x8)), (58, (.slice (subA Aa ca (0 : Int).toNat 2) (x8.toNat - (0 : Int).toNat) (ca - (0 : Int).toNat)))] [(0, (.slice Aa p0.length ca)), (3, (pt g3)), (5, (iv x8)), (58, (.slice (subA Aa ca (0 : Int).toNat 2) (cut p0 (0 : Int) x8).length (ca - (0 : Int).toNat)))] rfl (by rw [cut_length h58.1 h58.2.1 h58.2.2]) ?_
  refine segF 6 [.v e17, .v e32] [58, 60, 63, 64] [e4, (60, (.agg e5)), (63, e33), (64, (iv x8))] [] [0, 1] e10 (fun fb => by kernel_rfl) rfl trivial rfl ?_
  refine seg 7 [] [58, 60, 65] [e4, (60, (.agg e5)), (65, (.slice (subA Aa ca x8.toNat 2) (e12.toNat - x8.toNat) e28))] [.idx (some ⟨0, 0, none⟩) x8 (e12.toNat + 1), .idx (some ⟨0, 0, none⟩) e12 (ca + 1)] (fun fb => by kernel_rfl) rfl ⟨cut1 h59.1 h59.2.1, cut2 h59.1 h59.2.1 h59.2.2 (rowO.rd (hS57.own 0).1).2, trivial⟩ ?_
  refine WL.reE [58, 60, 65] [(58, (.slice (subA Aa ca (0 : Int).toNat 2) (cut p0 (0 : Int) x8).length (ca - (0 : Int).toNat))), (60, (.agg #[(iv p1.Piece), (iv p1.Carry)])), (65, (.slice (subA Aa ca x8.toNat 2) ((p0.length : Int).toNat - x8.toNat) (ca - x8.toNat)))] [(58, (.slice (subA Aa ca (0 : Int).toNat 2) (cut p0 (0 : Int) x8).length (ca - (0 : Int).toNat))), (60, (.agg #[(iv p1.Piece), (iv p1.Carry)])), (65, (.slice (subA Aa ca x8.toNat 2) (cut p0 x8 (p0.length : Int)).length (ca - x8.toNat)))] rfl (by rw [cut_length h59.1 h59.2.1 h59.2.2]) ?_
  refine WL.new hS57 61 [] (fun g => (.slice (some ⟨g, 0, none⟩) 1 1)) (.cells e5 93 (0, 0)) [] (fun fb g => by kernel_rfl) trivial (fun g108 w109 hS110 => ?_)
  refine ⟨trivial, ?_⟩
  have hS111 := hS.go w109 [rowO 93 enc_Colour (some ⟨g108, 0, none⟩) 1 [p1], rowO 93 enc_Colour Aa ca p0, blk g3 (.cells e5 93 (0, 0))] (hS110.map1 0 _ (fun h => rowO.ofBlk h rfl (Nat.le_of_ble_eq_true (by kernel_rfl))) (fun _ h => by obtain ⟨_, h1, h2⟩ := h; injection h1 with h1; subst h1; exact h2) [1, 2] (by decide) (by decide))
  refine WL.new hS111 55 [] (fun g => (.slice (some ⟨g, 0, none⟩) 0 0)) (.cells #[] 93 (0, 0)) [] (fun fb g => by kernel_rfl) trivial (fun g112 w113 hS114 => ?_)
  refine ⟨⟨hS114.cell 3 rfl 0 rfl, hS114.cell 3 rfl 1 rfl, trivial⟩, ?_⟩
  have hS115 := hS111.go w113 [rowO 93 enc_Colour (some ⟨g112, 0, none⟩) 0 ([] : List Colour), rowO 93 enc_Colour (some ⟨g108, 0, none⟩) 1 [p1], rowO 93 enc_Colour Aa ca p0, blk g3 (.cells e5 93 (0, 0))] (hS114.map1 0 _ (fun h => rowO.ofBlk h rfl (Nat.le_of_ble_eq_true (by kernel_rfl))) (fun _ h => by obtain ⟨_, h1, h2⟩ := h; injection h1 with h1; subst h1; exact h2) [1, 2, 3] (by decide) (by decide))
  obtain ⟨h116, hx55⟩ := as_some hx55
  refine WL.append hS115 0 (d := 59) (tS := 87) (z := (.agg e16)) (bytes := 16) (c2 := e22) rfl (fun fb => by kernel_rfl) ((cutR ((hS115.ow 2).ofO) h58.1 h58.2.1 h58.2.2)).1 (by kernel_rfl) (by kernel_rfl) rfl (by decide) h116 (by decide) [1, 2, 3] (by decide) (by decide) (fun A117 c118 w119 hS120 => ?_)
  refine ⟨⟨hS120.cell 3 rfl 0 rfl, hS120.cell 3 rfl 1 rfl, trivial⟩, ?_⟩
  obtain ⟨h121, hx55⟩ := as_some hx55
  refine WL.append hS120 0 (d := 62) (tS := 87) (z := (.agg e16)) (bytes := 16) (c2 := 1) rfl (fun fb => by kernel_rfl) (rowO.rd (hS120.own 1).1) (by kernel_rfl) (by kernel_rfl) rfl (by decide) h121 (by decide) [1, 2, 3] (by decide) (by decide) (fun A122 c123 w124 hS125 => ?_)
  refine ⟨trivial, ?_⟩
  obtain ⟨h126, hx55⟩ := as_some hx55
  refine WL.append hS125 0 (d := 66) (tS := 87) (z := (.agg e16)) (bytes := 16) (c2 := e28) rfl (fun fb => by kernel_rfl) ((cutR ((hS125.ow 2).ofO) h59.1 h59.2.1 h59.2.2)).1 (by kernel_rfl) (by kernel_rfl) rfl (by decide) h126 (by decide) [1, 2, 3] (by decide) (by decide) (fun A127 c128 w129 hS130 => ?_)
  refine ⟨trivial, ?_⟩
  refine sg 13 [] [4] [(4, (sv A127 (((([] : List Colour) ++ e18) ++ [p1]) ++ e29) c128))] (by kernel_rfl) ?_
  refine WL.done rfl ?_
  injection hx55 with hx55
  exact WX.to Kx54 (((([] : List Colour) ++ e18) ++ [p1]) ++ e29, A127, c128) [4] rfl ⟨(hS130.subR []).sub [0] (by decide), hx55.symm⟩
 rintro ⟨y134, A52, c53⟩ w131 ⟨hS132, hq133⟩
 subst hq133
 refine WX.next ?_
 refine WC.ret ?_
 injection hf with hf
 subst hf
 exact WX.ret_ [] (sv A52 x54 c53) [] (fun fb => by kernel_rfl) trivial ⟨_, rfl, A52, c53, rfl, (hS132.sub [0] (by decide)).noR⟩
theorem ref07_Colours_calls (k : Nat) (p0 : List Made) (Aa : Option Addr) (ca : Nat) (r : (List Colour)) (w : World) (hR0 : RO NoS w (rowR enc_Made Aa ca p0)) (hf : ref07_Colours k p0 = some r) :
  CallsR Tryz.prog 42 #[(sv Aa p0 ca)] w (fun v w' => ∃ (A1_ : Option Addr), ∃ (c1_ : Nat), v = (sv A1_ r c1_) ∧ St NoS w w' [] [rowO 93 enc_Colour A1_ c1_ r]) := by
 have hS : St NoS w w [rowR enc_Made Aa ca p0] [] := St.init (ro_cons hR0 (ro_nil _ _))
 refine enter 37 Tryz.func42 rfl Tryz.ntmps42 rfl ?_
 unfold ref07_Colours at hf
 refine WC.seq (WC.region ?_)
 refine sg 1 [] [0] [(0, (sv Aa p0 ca))] (by kernel_rfl) ?_
 refine WL.done rfl (WX.next (WC.seq (WC.region ?_)))
 refine sg 1 [] [0, 3] [(0, (sv Aa p0 ca)), (3, (.slice none 0 0))] (by kernel_rfl) ?_
 refine WL.done rfl (WX.next (WC.seq (WC.seq (WC.region ?_))))
 refine sg 1 [] [0, 3, 4] [(0, (sv Aa p0 ca)), (3, (.slice none 0 0)), (4, (iv 0))] (by kernel_rfl) ?_
 refine WL.done rfl (WX.next ?_)
 have hS3 := hS.nilrow 93 enc_Colour
 obtain ⟨x11, hx12, hf⟩ := bind_some hf
 let e4 : Nat × Value := (0, (sv Aa p0 ca))
 refine WC.cutN (T := (List Colour) × (Option Addr) × Nat) (fun t => [(3, (sv t.2.1 t.1 t.2.2))]) (fun t w1 => St NoS w w1 [rowR enc_Made Aa ca p0] [rowO 93 enc_Colour t.2.1 t.2.2 t.1] ∧ x11 = t.1) (fun Kx11 => ?_) ?_
 ·
  refine WC.block ?_
  refine WC.loop (T := ((List Colour) × Int) × (Option Addr) × Nat) (fun t => [e4, (3, (sv t.2.1 t.1.1 t.2.2)), (4, (iv t.1.2))]) (fun n t w1 => St NoS w w1 [rowR enc_Made Aa ca p0] [rowO 93 enc_Colour t.2.1 t.2.2 t.1.1] ∧ ref07_Colours.l0 n t.1.1 t.1.2 p0 = some x11) k ((([] : List Colour), 0), none, 0) [0, 3, 4] rfl ⟨(hS3.subR [0]).sub [0] (by decide), hx12⟩ ?_
  rintro k13 ⟨⟨l6, x8⟩, A4, c5⟩ w14 ⟨hS15, hl16⟩
  let e1 := rdD p0 x8 z_Made
  let e3 := (adr Aa).add ((x8).toNat * 5)
  let e2 : List (Nat × Addr × Value) := [(5, e3, (iv (e1.Piece))), (10, (e3.add 3), (iv (e1.W))), (17, e3, (iv (e1.Piece))), (22, (e3.add 4), (iv (e1.E)))]
  let e5 := iv (e1.Piece)
  cases k13 with
  | zero => rw [ref07_Colours.l0] at hl16; cases hl16
  | succ k13 =>
   rw [ref07_Colours.l0] at hl16
   refine WC.seq (WC.seq (WC.region ?_))
   refine sg 4 [] [0, 3, 4, 8] [e4, (3, (sv A4 l6 c5)), (4, (iv x8)), (8, (bv (decide (x8 < (p0.length : Int)))))] (by kernel_rfl) ?_
   refine WL.done rfl (WX.next ?_)
   rcases br_some hl16 with ⟨h17, hl16⟩ | ⟨h17, hl16⟩
   ·refine WC.condT2 (fun fb => by kernel_rfl) h17 ?_
    refine WC.skip (WX.next (WC.seq (WC.block ?_)))
    obtain ⟨h20, hl16⟩ := as_some hl16
    refine WC.regionD (e2, [0, 1, 2, 3, 4, 5, 6, 7, 8, 9, 10, 11, 13, 14, 15, 16, 17, 18, 19, 20, 21, 22, 23, 25], [[], [], [], [1, 2], [1, 2, 3], [1, 2, 3, 4], [], [], [6, 7], [6, 7, 8], [6, 7, 8, 9], [1, 2, 3, 4, 5, 6, 7, 8, 9, 10], [0, 1, 2, 3, 4, 5, 6, 7, 8, 9, 10, 11], [], [], [13, 14], [13, 14, 15], [13, 14, 15, 16], [], [], [18, 19], [18, 19, 20], [18, 19, 20, 21], [13, 14, 15, 16, 17, 18, 19, 20, 21, 22], [0, 1, 2, 3, 4, 5, 6, 7, 8, 9, 10, 11, 12, 13, 14, 15, 16, 17, 18, 19, 20, 21, 22, 23], [0, 1, 2, 3, 4, 5, 6, 7, 8, 9, 10, 11, 12, 13, 14, 15, 16, 17, 18, 19, 20, 21, 22, 23, 24]]) [[0, 1, 2, 3, 4, 5, 6, 7, 8, 9, 10, 11, 13, 14, 15, 16, 17, 18, 19, 20, 21, 22, 23, 12, 24, 25]] (by kernel_rfl) (by kernel_rfl) (NoPanic.block (NoPanic.seq (NoPanic.seq (NoPanic.block (NoPanic.seq (NoPanic.body)))))) ?_
    have hS19 := hS15.drew
    revert hS19
    generalize World.drew w14 = w18
    intro hS19
    refine ⟨⟨rowR.cell (hS19.rd 0).1 z_Made h20.1 h20.2 0 rfl, rowR.cell (hS19.rd 0).1 z_Made h20.1 h20.2 3 rfl, rowR.cell (hS19.rd 0).1 z_Made h20.1 h20.2 0 rfl, rowR.cell (hS19.rd 0).1 z_Made h20.1 h20.2 4 rfl, trivial⟩, forallC ?_ (forallN)⟩
    refine segF 23 [.v e5, .v (iv (e1.W)), .v e5, .v (iv (e1.E))] [0, 4, 11, 22, 34] [e4, (4, (iv x8)), (11, (sv A4 l6 c5)), (22, (.agg #[e5, (iv (e1.W))])), (34, (.agg #[e5, (iv (e1.E))]))] [.idx Aa x8 p0.length, .idx Aa x8 p0.length, .idx Aa x8 p0.length, .idx Aa x8 p0.length] [0, 1, 2, 3] e2 (fun fb => by kernel_rfl) rfl ⟨rowR.adr (hS19.rd 0).1 h20.1 h20.2, rowR.adr (hS19.rd 0).1 h20.1 h20.2, rowR.adr (hS19.rd 0).1 h20.1 h20.2, rowR.adr (hS19.rd 0).1 h20.1 h20.2, trivial⟩ rfl ?_
    obtain ⟨t21, ht22, hl16⟩ := bind_some hl16
    refine WL.call (some 23) 70 #[(sv A4 l6 c5), (.agg #[e5, (iv (e1.W))])] (fun fb => by kernel_rfl) (ref07_add_calls _ l6 (Colour.mk (e1.Piece) (e1.W)) A4 c5 t21 _ (hS19.io [0] (by decide)) ht22) (fun v w23 hR24 => ?_)
    obtain ⟨A26, c27, rfl, hk_⟩ := hR24
    have hS25 := hS.go w23 [rowO 93 enc_Colour A26 c27 t21] (hS19.call hk_ [0] [] (fun g hg => fpL_sel g hg) (by decide) (by decide))
    refine ⟨⟨rowR.cell (hS25.rd 0).1 z_Made h20.1 h20.2 0 rfl, rowR.cell (hS25.rd 0).1 z_Made h20.1 h20.2 4 rfl, trivial⟩, ?_⟩
    obtain ⟨t28, ht29, hl16⟩ := bind_some hl16
    refine WL.call (some 35) 70 #[(sv A26 t21 c27), (.agg #[e5, (iv (e1.E))])] (fun fb => by kernel_rfl) (ref07_add_calls _ t21 (Colour.mk (e1.Piece) (e1.E)) A26 c27 t28 _ (hS25.io [0] (by decide)) ht29) (fun v w30 hR31 => ?_)
    obtain ⟨A33, c34, rfl, hk_⟩ := hR31
    have hS32 := hS25.go w30 [rowO 93 enc_Colour A33 c34 t28] (hS25.call hk_ [0] [] (fun g hg => fpL_sel g hg) (by decide) (by decide))
    refine ⟨trivial, ?_⟩
    refine sg 26 [] [0, 3, 4] [e4, (3, (sv A33 t28 c34)), (4, (iv x8))] (by kernel_rfl) ?_
    refine WL.done rfl ?_
    refine WX.blockN (WX.next ?_)
    refine WC.region ?_
    refine sg 3 [] [0, 3, 4] [e4, (3, (sv A33 t28 c34)), (4, (iv (w64 (x8 + 1))))] (by kernel_rfl) ?_
    refine WL.done rfl ?_
    exact WX.again k13 (Nat.lt_succ_self _) ((t28, w64 (x8 + 1)), A33, c34) [0, 3, 4] rfl ⟨(hS32.subR [0]).sub [0] (by decide), hl16⟩
   refine WC.condF2 (fun fb => by kernel_rfl) h17 ?_
   refine WC.exit ?_
   injection hl16 with hl16
   exact WX.thenX (WX.thenX (WX.blockHere (WX.to Kx11 (l6, A4, c5) [3] rfl ⟨(hS15.subR [0]).sub [0] (by decide), hl16.symm⟩)))
 rintro ⟨y38, A9, c10⟩ w35 ⟨hS36, hq37⟩
 subst hq37
 refine WX.next (WC.seq (WC.region ?_))
 refine sg 2 [] [2] [(2, (sv A9 x11 c10))] (by kernel_rfl) ?_
 refine WL.done rfl (WX.next ?_)
 refine WC.ret ?_
 injection hf with hf
 subst hf
 exact WX.ret_ [] (sv A9 x11 c10) [] (fun fb => by kernel_rfl) trivial ⟨_, rfl, A9, c10, rfl, (hS36.sub [0] (by decide)).noR⟩
theorem ref07_place_calls (k : Nat) (p0 : List Colour) (p1 : Colour) (Aa : Option Addr) (ca : Nat) (r : Int) (w : World) (hR0 : RO NoS w (rowR enc_Colour Aa ca p0)) (hf : ref07_place k p0 p1 = some r) :
  CallsR Tryz.prog 43 #[(sv Aa p0 ca), (.agg #[(iv p1.Piece), (iv p1.Carry)])] w (fun v w' => v = (iv r) ∧ Keeps NoS w w') := by
 have hS : St NoS w w [rowR enc_Colour Aa ca p0] [] := St.init (ro_cons hR0 (ro_nil _ _))
 refine enter 19 Tryz.func43 rfl Tryz.ntmps43 rfl ?_
 unfold ref07_place at hf
 refine WC.seq (WC.region ?_)
 refine WL.new hS 3 [] (fun g => (pt g)) (.cells #[(iv p1.Piece), (iv p1.Carry)] 93 (0, 0)) [] (fun fb g => by kernel_rfl) trivial (fun g3 w4 hS5 => ?_)
 refine ⟨trivial, ?_⟩
 refine sg 2 [] [0, 3] [(0, (sv Aa p0 ca)), (3, (pt g3))] (by kernel_rfl) ?_
 refine WL.done rfl (WX.next (WC.seq (WC.seq (WC.region ?_))))
 refine sg 1 [] [0, 3, 5] [(0, (sv Aa p0 ca)), (3, (pt g3)), (5, (iv 0))] (by kernel_rfl) ?_
 refine WL.done rfl (WX.next ?_)
 obtain ⟨x8, hx9, hf⟩ := bind_some hf
 refine WC.cutN (T := Unit) (fun t => []) (fun t w1 => St NoS w w1 [rowR enc_Colour Aa ca p0] [] ∧ x8 = .inr t) (fun Kx8 => ?_) ?_
 ·
  refine WC.block ?_
  refine WC.loop (T := Int) (fun t => [(0, (sv Aa p0 ca)), (3, (pt g3)), (5, (iv t))]) (fun n t w1 => St NoS w w1 [rowR enc_Colour Aa ca p0] [blk g3 (.cells #[(iv p1.Piece), (iv p1.Carry)] 93 (0, 0))] ∧ ref07_place.l0 n t p0 p1 = some x8) k 0 [0, 3, 5] rfl ⟨(hS5.subR [0]).sub [0] (by decide), hx9⟩ ?_
  rintro k10 x6 w11 ⟨hS12, hl13⟩
  let e1 : List (Nat × Addr × Value) := [(3, ((adr Aa).add ((x6).toNat * 2)), (iv ((rdD p0 x6 z_Colour).Piece))), (3, (((adr Aa).add ((x6).toNat * 2)).add 1), (iv ((rdD p0 x6 z_Colour).Carry))), (4, ⟨g3, 0, none⟩, (iv p1.Piece)), (4, ⟨g3, 1, none⟩, (iv p1.Carry))]
  let e2 := rdD p0 x6 z_Colour
  cases k10 with
  | zero => rw [ref07_place.l0] at hl13; cases hl13
  | succ k10 =>
   rw [ref07_place.l0] at hl13
   refine WC.seq (WC.seq (WC.region ?_))
   refine sg 4 [] [0, 3, 5, 9] [(0, (sv Aa p0 ca)), (3, (pt g3)), (5, (iv x6)), (9, (bv (decide (x6 < (p0.length : Int)))))] (by kernel_rfl) ?_
   refine WL.done rfl (WX.next ?_)
   rcases br_some hl13 with ⟨h14, hl13⟩ | ⟨h14, hl13⟩
   ·refine WC.condT2 (fun fb => by kernel_rfl) h14 ?_
    refine WC.skip (WX.next (WC.seq (WC.block (WC.seq ?_))))
    obtain ⟨h17, hl13⟩ := as_some hl13
    refine WC.regionD (e1, [0, 1, 2, 3, 4, 5], [[], [], [0, 1], [0, 1, 2], [], [0, 1, 2, 3, 4]]) [[0, 1, 2, 3, 4, 5]] (by kernel_rfl) (by kernel_rfl) (NoPanic.seq (NoPanic.block (NoPanic.seq (NoPanic.seq (NoPanic.block (NoPanic.seq (NoPanic.body))))))) ?_
    have hS16 := hS12.drew
    revert hS16
    generalize World.drew w11 = w15
    intro hS16
    refine ⟨⟨rowR.cell (hS16.rd 0).1 z_Colour h17.1 h17.2 0 rfl, rowR.cell (hS16.rd 0).1 z_Colour h17.1 h17.2 1 rfl, hS16.cell 0 rfl 0 rfl, hS16.cell 0 rfl 1 rfl, trivial⟩, forallC ?_ (forallN)⟩
    refine segF 6 [.v (iv (e2.Piece)), .v (iv (e2.Carry)), .v (iv p1.Piece), .v (iv p1.Carry)] [0, 3, 5, 17] [(0, (sv Aa p0 ca)), (3, (pt g3)), (5, (iv x6)), (17, (bv ((e2.Piece) == p1.Piece && ((e2.Carry) == p1.Carry))))] [.idx Aa x6 p0.length] [0, 1, 2, 3] e1 (fun fb => by kernel_rfl) rfl ⟨rowR.adr (hS16.rd 0).1 h17.1 h17.2, trivial⟩ rfl ?_
    refine WL.done rfl (WX.next ?_)
    rcases br_some hl13 with ⟨h18, hl13⟩ | ⟨h18, hl13⟩
    ·refine WC.condT2 (fun fb => by kernel_rfl) h18 ?_
     refine WC.seq (WC.region ?_)
     refine sg 2 [] [4] [(4, (iv x6))] (by kernel_rfl) ?_
     refine WL.done rfl (WX.next ?_)
     refine WC.ret ?_
     injection hl13 with hl13
     subst hl13
     injection hf with hf
     subst hf
     exact WX.blockR (WX.thenR (WX.thenR (WX.blockR (WX.thenR (WX.ret_ [] (iv x6) [] (fun fb => by kernel_rfl) trivial ⟨_, rfl, rfl, hS16.keep⟩)))))
    refine WC.condF2 (fun fb => by kernel_rfl) h18 ?_
    refine WC.skip ?_
    refine WX.blockN (WX.next ?_)
    refine WC.region ?_
    refine sg 3 [] [0, 3, 5] [(0, (sv Aa p0 ca)), (3, (pt g3)), (5, (iv (w64 (x6 + 1))))] (by kernel_rfl) ?_
    refine WL.done rfl ?_
    exact WX.again k10 (Nat.lt_succ_self _) (w64 (x6 + 1)) [0, 3, 5] rfl ⟨(hS16.subR [0]).sub [0] (by decide), hl13⟩
   refine WC.condF2 (fun fb => by kernel_rfl) h14 ?_
   refine WC.exit ?_
   injection hl13 with hl13
   exact WX.thenX (WX.thenX (WX.blockHere (WX.to Kx8 () [] rfl ⟨(hS12.subR [0]).sub [] (by decide), hl13.symm⟩)))
 rintro y22 w19 ⟨hS20, hq21⟩
 subst hq21
 have hf := sum_inr hf
 refine WX.next (WC.seq (WC.region ?_))
 refine sg 1 [] [4] [(4, (iv (-1)))] (by kernel_rfl) ?_
 refine WL.done rfl (WX.next ?_)
 refine WC.ret ?_
 injection hf with hf
 subst hf
 exact WX.ret_ [] (iv (-1)) [] (fun fb => by kernel_rfl) trivial ⟨_, rfl, rfl, hS20.keep⟩
theorem ref07_Tiles_calls (k : Nat) (p0 : List Piece) (Aa : Option Addr) (ca : Nat) (r : (List Tile)) (w : World) (hR0 : RO NoS w (rowR enc_Piece Aa ca p0)) (hf : ref07_Tiles k p0 = some r) :
  CallsR Tryz.prog 14 #[(sv Aa p0 ca)] w (fun v w' => ∃ (A1_ : Option Addr), ∃ (c1_ : Nat), v = (sv A1_ r c1_) ∧ St NoS w w' [] [rowO 64 enc_Tile A1_ c1_ r]) := by
 have hS : St NoS w w [rowR enc_Piece Aa ca p0] [] := St.init (ro_cons hR0 (ro_nil _ _))
 refine enter 45 Tryz.func14 rfl Tryz.ntmps14 rfl ?_
 unfold ref07_Tiles at hf
 refine WC.seq (WC.region ?_)
 refine sg 1 [] [0] [(0, (sv Aa p0 ca))] (by kernel_rfl) ?_
 refine WL.done rfl (WX.next (WC.seq (WC.region ?_)))
 refine sg 1 [] [8] [(8, (sv Aa p0 ca))] (by kernel_rfl) ?_
 obtain ⟨t3, ht4, hf⟩ := bind_some hf
 refine WL.call (some 9) 41 #[(sv Aa p0 ca)] (fun fb => by kernel_rfl) (ref07_All_calls _ p0 Aa ca t3 _ (hS.rd 0) ht4) (fun v w5 hR6 => ?_)
 obtain ⟨A9, c10, rfl, hk_⟩ := hR6
 have hS8 := hS.go w5 [rowO 90 enc_Made A9 c10 t3] (hS.call hk_ [] [] (fun g hg => hg.elim) (by simp) (by decide))
 refine ⟨trivial, ?_⟩
 refine sg 3 [] [3] [(3, (sv A9 t3 c10))] (by kernel_rfl) ?_
 refine WL.done rfl (WX.next (WC.seq (WC.region ?_)))
 refine sg 1 [] [3, 10] [(3, (sv A9 t3 c10)), (10, (sv A9 t3 c10))] (by kernel_rfl) ?_
 obtain ⟨t11, ht12, hf⟩ := bind_some hf
 refine WL.call (some 11) 42 #[(sv A9 t3 c10)] (fun fb => by kernel_rfl) (ref07_Colours_calls _ t3 A9 c10 t11 _ (hS8.ow 0).ofO ht12) (fun v w13 hR15 => ?_)
 obtain ⟨A17, c18, rfl, hk_⟩ := hR15
 have hS16 := hS8.go w13 [rowO 93 enc_Colour A17 c18 t11, rowO 90 enc_Made A9 c10 t3] (hS8.call hk_ [] [0] (fun g hg => hg.elim) (by simp) (by decide))
 refine ⟨trivial, ?_⟩
 refine sg 3 [] [3, 4] [(3, (sv A9 t3 c10)), (4, (sv A17 t11 c18))] (by kernel_rfl) ?_
 refine WL.done rfl (WX.next (WC.seq (WC.region ?_)))
 refine sg 1 [] [3, 4, 5] [(3, (sv A9 t3 c10)), (4, (sv A17 t11 c18)), (5, (.slice none 0 0))] (by kernel_rfl) ?_
 refine WL.done rfl (WX.next (WC.seq (WC.seq (WC.region ?_))))
 refine sg 1 [] [3, 4, 5, 6] [(3, (sv A9 t3 c10)), (4, (sv A17 t11 c18)), (5, (.slice none 0 0)), (6, (iv 0))] (by kernel_rfl) ?_
 refine WL.done rfl (WX.next ?_)
 have hS19 := hS16.nilrow 64 enc_Tile
 obtain ⟨x26, hx27, hf⟩ := bind_some hf
 let e3 := sv A17 t11 c18
 let e5 : Nat × Value := (3, (sv A9 t3 c10))
 refine WC.cutN (T := (List Tile) × (Option Addr) × Nat) (fun t => [(5, (sv t.2.1 t.1 t.2.2))]) (fun t w1 => St NoS w w1 [rowR enc_Piece Aa ca p0] [rowO 64 enc_Tile t.2.1 t.2.2 t.1] ∧ x26 = t.1) (fun Kx26 => ?_) ?_
 ·
  refine WC.block ?_
  refine WC.loop (T := ((List Tile) × Int) × (Option Addr) × Nat) (fun t => [e5, (4, e3), (5, (sv t.2.1 t.1.1 t.2.2)), (6, (iv t.1.2))]) (fun n t w1 => St NoS w w1 [rowR enc_Piece Aa ca p0] [rowO 90 enc_Made A9 c10 t3, rowO 93 enc_Colour A17 c18 t11, rowO 64 enc_Tile t.2.1 t.2.2 t.1.1] ∧ ref07_Tiles.l0 n t.1.1 t.1.2 t3 t11 = some x26) k ((([] : List Tile), 0), none, 0) [3, 4, 5, 6] rfl ⟨(hS19.subR [0]).sub [2, 1, 0] (by decide), hx27⟩ ?_
  rintro k28 ⟨⟨l22, x23⟩, A20, c21⟩ w29 ⟨hS30, hl31⟩
  let e1 := rdD t3 x23 z_Made
  let e2 := iv (e1.Piece)
  let e4 := (adr A9).add ((x23).toNat * 5)
  let e6 : Array Value := #[e2, (iv (e1.S)), (iv (e1.N)), (iv (e1.W)), (iv (e1.E))]
  let e7 := iv (e1.S)
  let e8 := iv (e1.N)
  let e9 := iv (e1.W)
  let e10 := iv (e1.E)
  let e11 := sv A20 l22 c21
  cases k28 with
  | zero => rw [ref07_Tiles.l0] at hl31; cases hl31
  | succ k28 =>
   rw [ref07_Tiles.l0] at hl31
   refine WC.seq (WC.seq (WC.region ?_))
   refine sg 4 [] [3, 4, 5, 6, 15] [e5, (4, e3), (5, e11), (6, (iv x23)), (15, (bv (decide (x23 < (t3.length : Int)))))] (by kernel_rfl) ?_
   refine WL.done rfl (WX.next ?_)
   rcases br_some hl31 with ⟨h32, hl31⟩ | ⟨h32, hl31⟩
   ·refine WC.condT2 (fun fb => by kernel_rfl) h32 ?_
    refine WC.skip (WX.next (WC.seq (WC.block (WC.seq (WC.region ?_)))))
    refine sg 2 [] [3, 4, 5, 6, 18, 19] [e5, (4, e3), (5, e11), (6, (iv x23)), (18, (sv A9 t3 c10)), (19, (iv x23))] (by kernel_rfl) ?_
    obtain ⟨h33, hl31⟩ := as_some hl31
    refine seg 4 [.v e2, .v e7, .v e8, .v e9, .v e10] [3, 4, 5, 6, 21] [e5, (4, e3), (5, e11), (6, (iv x23)), (21, (.agg e6))] [.idx A9 x23 t3.length, .cell e4 e2, .cell (e4.add 1) e7, .cell (e4.add 2) e8, .cell (e4.add 3) e9, .cell (e4.add 4) e10] (fun fb => by kernel_rfl) rfl ⟨rowR.adr (rowO.rd (hS30.own 0).1) h33.1 h33.2, rowR.cell (rowO.rd (hS30.own 0).1) z_Made h33.1 h33.2 0 rfl, rowR.cell (rowO.rd (hS30.own 0).1) z_Made h33.1 h33.2 1 rfl, rowR.cell (rowO.rd (hS30.own 0).1) z_Made h33.1 h33.2 2 rfl, rowR.cell (rowO.rd (hS30.own 0).1) z_Made h33.1 h33.2 3 rfl, rowR.cell (rowO.rd (hS30.own 0).1) z_Made h33.1 h33.2 4 rfl, trivial⟩ ?_
    refine WL.new hS30 7 [] (fun g => (pt g)) (.cells #[(iv 0), (iv 0), (iv 0), (iv 0), (iv 0)] 90 (0, 0)) [] (fun fb g => by kernel_rfl) trivial (fun g34 w35 hS36 => ?_)
    refine ⟨trivial, ?_⟩
    refine WL.store hS36 0 rfl [(0, e2), (1, e7), (2, e8), (3, e9), (4, e10)] e6 (fun fb => by kernel_rfl) (by kernel_rfl) rfl [1, 2, 3] (by decide) (by decide) (fun w37 hS38 => ?_)
    refine ⟨trivial, ?_⟩
    refine WL.done rfl (WX.next ?_)
    refine WC.regionD ([(2, ⟨g34, 2, none⟩, e8), (4, ⟨g34, 1, none⟩, e7), (7, ⟨g34, 0, none⟩, e2), (9, ⟨g34, 3, none⟩, e9), (14, ⟨g34, 0, none⟩, e2), (16, ⟨g34, 4, none⟩, e10)], [0, 1, 2, 3, 4, 5, 6, 7, 8, 9, 10, 12, 13, 14, 15, 16, 17, 19, 22], [[], [], [1], [], [3], [], [], [6], [], [8], [6, 7, 8, 9], [5, 6, 7, 8, 9, 10], [], [], [13], [], [15], [13, 14, 15, 16], [5, 6, 7, 8, 9, 10, 11, 12, 13, 14, 15, 16, 17], [1, 2, 3, 4, 5, 6, 7, 8, 9, 10, 11, 12, 13, 14, 15, 16, 17, 18], [1, 2, 3, 4, 5, 6, 7, 8, 9, 10, 11, 12, 13, 14, 15, 16, 17, 18, 19], [0, 1, 2, 3, 4, 5, 6, 7, 8, 9, 10, 11, 12, 13, 14, 15, 16, 17, 18, 19, 20], [0, 1, 2, 3, 4, 5, 6, 7, 8, 9, 10, 11, 12, 13, 14, 15, 16, 17, 18, 19, 20, 21]]) [[0, 1, 2, 3, 4, 5, 6, 7, 8, 9, 10, 12, 13, 14, 15, 16, 17, 11, 18, 19, 20, 21, 22]] (by kernel_rfl) (by kernel_rfl) (NoPanic.block (NoPanic.seq (NoPanic.seq (NoPanic.block (NoPanic.seq (NoPanic.body)))))) ?_
    have hS40 := hS38.drew
    revert hS40
    generalize World.drew w37 = w39
    intro hS40
    refine ⟨⟨hS40.cell 0 rfl 2 rfl, hS40.cell 0 rfl 1 rfl, hS40.cell 0 rfl 0 rfl, hS40.cell 0 rfl 3 rfl, hS40.cell 0 rfl 0 rfl, hS40.cell 0 rfl 4 rfl, trivial⟩, forallC ?_ (forallN)⟩
    refine segF 17 [.v e8, .v e7, .v e2, .v e9, .v e2, .v e10] [3, 4, 6, 22, 24, 26, 27, 32, 34, 39] [e5, (4, e3), (6, (iv x23)), (22, e11), (24, e8), (26, e7), (27, e3), (32, (.agg #[e2, e9])), (34, e3), (39, (.agg #[e2, e10]))] [] [0, 1, 2, 3, 4, 5] [(2, ⟨g34, 2, none⟩, e8), (4, ⟨g34, 1, none⟩, e7), (7, ⟨g34, 0, none⟩, e2), (9, ⟨g34, 3, none⟩, e9), (14, ⟨g34, 0, none⟩, e2), (16, ⟨g34, 4, none⟩, e10)] (fun fb => by kernel_rfl) rfl trivial rfl ?_
    obtain ⟨t41, ht42, hl31⟩ := bind_some hl31
    refine WL.call (some 33) 43 #[e3, (.agg #[e2, e9])] (fun fb => by kernel_rfl) (ref07_place_calls _ t11 (Colour.mk (e1.Piece) (e1.W)) A17 c18 t41 _ (hS40.ow 2).ofO ht42) (fun v w43 hR44 => ?_)
    obtain ⟨rfl, hk_⟩ := hR44
    have hS45 := hS40.keepN hk_
    refine ⟨⟨hS45.cell 0 rfl 2 rfl, hS45.cell 0 rfl 1 rfl, hS45.cell 0 rfl 0 rfl, hS45.cell 0 rfl 4 rfl, trivial⟩, ?_⟩
    obtain ⟨t46, ht47, hl31⟩ := bind_some hl31
    refine WL.call (some 40) 43 #[e3, (.agg #[e2, e10])] (fun fb => by kernel_rfl) (ref07_place_calls _ t11 (Colour.mk (e1.Piece) (e1.E)) A17 c18 t46 _ (hS45.ow 2).ofO ht47) (fun v w48 hR49 => ?_)
    obtain ⟨rfl, hk_⟩ := hR49
    have hS50 := hS45.keepN hk_
    refine ⟨⟨hS50.cell 0 rfl 2 rfl, hS50.cell 0 rfl 1 rfl, trivial⟩, ?_⟩
    refine sg 20 [] [3, 4, 6, 22, 41] [e5, (4, e3), (6, (iv x23)), (22, e11), (41, (.agg #[e8, (iv t46), e7, (iv t41)]))] (by kernel_rfl) ?_
    refine WL.new hS50 42 [] (fun g => (.slice (some ⟨g, 0, none⟩) 1 1)) (.cells #[e8, (iv t46), e7, (iv t41)] 64 (0, 0)) [] (fun fb g => by kernel_rfl) trivial (fun g51 w52 hS53 => ?_)
    refine ⟨trivial, ?_⟩
    have hS54 := hS16.go w52 [rowO 64 enc_Tile (some ⟨g51, 0, none⟩) 1 [(Tile.mk (e1.N) t46 (e1.S) t41)], blk g34 (.cells e6 90 (0, 0)), rowO 90 enc_Made A9 c10 t3, rowO 93 enc_Colour A17 c18 t11, rowO 64 enc_Tile A20 c21 l22] (hS53.map1 0 _ (fun h => rowO.ofBlk h rfl (Nat.le_of_ble_eq_true (by kernel_rfl))) (fun _ h => by obtain ⟨_, h1, h2⟩ := h; injection h1 with h1; subst h1; exact h2) [1, 2, 3, 4] (by decide) (by decide))
    obtain ⟨h55, hl31⟩ := as_some hl31
    refine WL.append hS54 4 (d := 43) (tS := 27) (z := (.agg #[(iv 0), (iv 0), (iv 0), (iv 0)])) (bytes := 32) (c2 := 1) rfl (fun fb => by kernel_rfl) (rowO.rd (hS54.own 0).1) (by kernel_rfl) (by kernel_rfl) rfl (by decide) h55 (by decide) [0, 1, 2, 3] (by decide) (by decide) (fun A56 c57 w58 hS59 => ?_)
    refine ⟨trivial, ?_⟩
    refine sg 23 [] [3, 4, 5, 6] [e5, (4, e3), (5, (sv A56 (l22 ++ [(Tile.mk (e1.N) t46 (e1.S) t41)]) c57)), (6, (iv x23))] (by kernel_rfl) ?_
    refine WL.done rfl ?_
    refine WX.blockN (WX.next ?_)
    refine WC.region ?_
    refine sg 3 [] [3, 4, 5, 6] [e5, (4, e3), (5, (sv A56 (l22 ++ [(Tile.mk (e1.N) t46 (e1.S) t41)]) c57)), (6, (iv (w64 (x23 + 1))))] (by kernel_rfl) ?_
    refine WL.done rfl ?_
    exact WX.again k28 (Nat.lt_succ_self _) ((l22 ++ [(Tile.mk (e1.N) t46 (e1.S) t41)], w64 (x23 + 1)), A56, c57) [3, 4, 5, 6] rfl ⟨(hS59.subR [0]).sub [3, 4, 0] (by decide), hl31⟩
   refine WC.condF2 (fun fb => by kernel_rfl) h32 ?_
   refine WC.exit ?_
   injection hl31 with hl31
   exact WX.thenX (WX.thenX (WX.blockHere (WX.to Kx26 (l22, A20, c21) [5] rfl ⟨(hS30.subR [0]).sub [2] (by decide), hl31.symm⟩)))
 rintro ⟨y63, A24, c25⟩ w60 ⟨hS61, hq62⟩
 subst hq62
 refine WX.next (WC.seq (WC.region ?_))
 refine sg 2 [] [2] [(2, (sv A24 x26 c25))] (by kernel_rfl) ?_
 refine WL.done rfl (WX.next ?_)
 refine WC.ret ?_
 injection hf with hf
 subst hf
 exact WX.ret_ [] (sv A24 x26 c25) [] (fun fb => by kernel_rfl) trivial ⟨_, rfl, A24, c25, rfl, (hS61.sub [0] (by decide)).noR⟩
theorem ref01_colour_calls (p0 : Int)  (r : Bool) (w : World)  (hf : ref01_colour p0 = some r) :
  CallsR Tryz.prog 44 #[(iv p0)] w (fun v w' => v = (bv r) ∧ Keeps NoS w w') := by
 have hS : St NoS w w [] [] := St.init (ro_nil _ _)
 refine enter 9 Tryz.func44 rfl Tryz.ntmps44 rfl ?_
 unfold ref01_colour at hf
 refine WC.seq (WC.region ?_)
 refine sg 1 [] [0] [(0, (iv p0))] (by kernel_rfl) ?_
 refine WL.done rfl (WX.next (WC.seq (WC.region ?_)))
 refine sg 3 [] [0, 5] [(0, (iv p0)), (5, (bv (decide (p0 ≥ 0))))] (by kernel_rfl) ?_
 refine WL.cutV (T := Bool) 6 (fun t => [(8, (bv t))]) (fun t => ((decide (p0 ≥ 0)) && (decide (p0 < 1000))) = t) (fun K => ?_) ?_
 ·
  rcases Bool.eq_false_or_eq_true (decide (p0 ≥ 0)) with h2 | h2
  ·
   refine WL.setB 5 h2 rfl ?_
   refine sg 6 [] [8] [(8, (bv (decide (p0 < 1000))))] (by kernel_rfl) ?_
   exact WL.toV K (decide (p0 < 1000)) [8] rfl (by first | (rw [h2]; done) | (rw [h2]; rfl))
  refine WL.setB 5 h2 rfl ?_
  refine sg 6 [] [8] [(8, (bv false))] (by kernel_rfl) ?_
  exact WL.toV K false [8] rfl (by first | (rw [h2]; done) | (rw [h2]; rfl))
 rintro b3 rfl
 refine sg 7 [] [2] [(2, (bv ((decide (p0 ≥ 0)) && (decide (p0 < 1000)))))] (by kernel_rfl) ?_
 refine WL.done rfl (WX.next ?_)
 refine WC.ret ?_
 injection hf with hf
 subst hf
 exact WX.ret_ [] (bv ((decide (p0 ≥ 0)) && (decide (p0 < 1000)))) [] (fun fb => by kernel_rfl) trivial ⟨_, rfl, rfl, hS.keep⟩
theorem ref01_Index_calls (k : Nat) (p0 : List Tile) (p1 : Tile) (Aa : Option Addr) (ca : Nat) (r : Int) (w : World) (hR0 : RO NoS w (rowR enc_Tile Aa ca p0)) (hf : ref01_Index k p0 p1 = some r) :
  CallsR Tryz.prog 45 #[(sv Aa p0 ca), (.agg #[(iv p1.N), (iv p1.E), (iv p1.S), (iv p1.W)])] w (fun v w' => v = (iv r) ∧ Keeps NoS w w') := by
 have hS : St NoS w w [rowR enc_Tile Aa ca p0] [] := St.init (ro_cons hR0 (ro_nil _ _))
 refine enter 19 Tryz.func45 rfl Tryz.ntmps45 rfl ?_
 unfold ref01_Index at hf
 refine WC.seq (WC.region ?_)
 refine WL.new hS 3 [] (fun g => (pt g)) (.cells #[(iv p1.N), (iv p1.E), (iv p1.S), (iv p1.W)] 64 (0, 0)) [] (fun fb g => by kernel_rfl) trivial (fun g3 w4 hS5 => ?_)
 refine ⟨trivial, ?_⟩
 refine sg 2 [] [0, 3] [(0, (sv Aa p0 ca)), (3, (pt g3))] (by kernel_rfl) ?_
 refine WL.done rfl (WX.next (WC.seq (WC.seq (WC.region ?_))))
 refine sg 1 [] [0, 3, 5] [(0, (sv Aa p0 ca)), (3, (pt g3)), (5, (iv 0))] (by kernel_rfl) ?_
 refine WL.done rfl (WX.next ?_)
 obtain ⟨x7, hx8, hf⟩ := bind_some hf
 refine WC.cutN (T := Unit) (fun t => []) (fun t w1 => St NoS w w1 [rowR enc_Tile Aa ca p0] [] ∧ x7 = .inr t) (fun Kx7 => ?_) ?_
 ·
  refine WC.block ?_
  refine WC.loop (T := Int) (fun t => [(0, (sv Aa p0 ca)), (3, (pt g3)), (5, (iv t))]) (fun n t w1 => St NoS w w1 [rowR enc_Tile Aa ca p0] [blk g3 (.cells #[(iv p1.N), (iv p1.E), (iv p1.S), (iv p1.W)] 64 (0, 0))] ∧ ref01_Index.l0 n t p0 p1 = some x7) k 0 [0, 3, 5] rfl ⟨(hS5.subR [0]).sub [0] (by decide), hx8⟩ ?_
  rintro k9 x6 w10 ⟨hS11, hl12⟩
  let e3 := (adr Aa).add ((x6).toNat * 4)
  let e1 : List (Nat × Addr × Value) := [(3, e3, (iv ((rdD p0 x6 z_Tile).N))), (3, (e3.add 1), (iv ((rdD p0 x6 z_Tile).E))), (3, (e3.add 2), (iv ((rdD p0 x6 z_Tile).S))), (3, (e3.add 3), (iv ((rdD p0 x6 z_Tile).W))), (4, ⟨g3, 0, none⟩, (iv p1.N)), (4, ⟨g3, 1, none⟩, (iv p1.E)), (4, ⟨g3, 2, none⟩, (iv p1.S)), (4, ⟨g3, 3, none⟩, (iv p1.W))]
  let e2 := rdD p0 x6 z_Tile
  cases k9 with
  | zero => rw [ref01_Index.l0] at hl12; cases hl12
  | succ k9 =>
   rw [ref01_Index.l0] at hl12
   refine WC.seq (WC.seq (WC.region ?_))
   refine sg 4 [] [0, 3, 5, 9] [(0, (sv Aa p0 ca)), (3, (pt g3)), (5, (iv x6)), (9, (bv (decide (x6 < (p0.length : Int)))))] (by kernel_rfl) ?_
   refine WL.done rfl (WX.next ?_)
   rcases br_some hl12 with ⟨h13, hl12⟩ | ⟨h13, hl12⟩
   ·refine WC.condT2 (fun fb => by kernel_rfl) h13 ?_
    refine WC.skip (WX.next (WC.seq (WC.block (WC.seq ?_))))
    obtain ⟨h16, hl12⟩ := as_some hl12
    refine WC.regionD (e1, [0, 1, 2, 3, 4, 5], [[], [], [0, 1], [0, 1, 2], [], [0, 1, 2, 3, 4]]) [[0, 1, 2, 3, 4, 5]] (by kernel_rfl) (by kernel_rfl) (NoPanic.seq (NoPanic.block (NoPanic.seq (NoPanic.seq (NoPanic.block (NoPanic.seq (NoPanic.body))))))) ?_
    have hS15 := hS11.drew
    revert hS15
    generalize World.drew w10 = w14
    intro hS15
    refine ⟨⟨rowR.cell (hS15.rd 0).1 z_Tile h16.1 h16.2 0 rfl, rowR.cell (hS15.rd 0).1 z_Tile h16.1 h16.2 1 rfl, rowR.cell (hS15.rd 0).1 z_Tile h16.1 h16.2 2 rfl, rowR.cell (hS15.rd 0).1 z_Tile h16.1 h16.2 3 rfl, hS15.cell 0 rfl 0 rfl, hS15.cell 0 rfl 1 rfl, hS15.cell 0 rfl 2 rfl, hS15.cell 0 rfl 3 rfl, trivial⟩, forallC ?_ (forallN)⟩
    refine segF 6 [.v (iv (e2.N)), .v (iv (e2.E)), .v (iv (e2.S)), .v (iv (e2.W)), .v (iv p1.N), .v (iv p1.E), .v (iv p1.S), .v (iv p1.W)] [0, 3, 5, 17] [(0, (sv Aa p0 ca)), (3, (pt g3)), (5, (iv x6)), (17, (bv ((e2.N) == p1.N && ((e2.E) == p1.E && ((e2.S) == p1.S && ((e2.W) == p1.W))))))] [.idx Aa x6 p0.length] [0, 1, 2, 3, 4, 5, 6, 7] e1 (fun fb => by kernel_rfl) rfl ⟨rowR.adr (hS15.rd 0).1 h16.1 h16.2, trivial⟩ rfl ?_
    refine WL.done rfl (WX.next ?_)
    rcases br_some hl12 with ⟨h17, hl12⟩ | ⟨h17, hl12⟩
    ·refine WC.condT2 (fun fb => by kernel_rfl) h17 ?_
     refine WC.seq (WC.region ?_)
     refine sg 2 [] [4] [(4, (iv x6))] (by kernel_rfl) ?_
     refine WL.done rfl (WX.next ?_)
     refine WC.ret ?_
     injection hl12 with hl12
     subst hl12
     injection hf with hf
     subst hf
     exact WX.blockR (WX.thenR (WX.thenR (WX.blockR (WX.thenR (WX.ret_ [] (iv x6) [] (fun fb => by kernel_rfl) trivial ⟨_, rfl, rfl, hS15.keep⟩)))))
    refine WC.condF2 (fun fb => by kernel_rfl) h17 ?_
    refine WC.skip ?_
    refine WX.blockN (WX.next ?_)
    refine WC.region ?_
    refine sg 3 [] [0, 3, 5] [(0, (sv Aa p0 ca)), (3, (pt g3)), (5, (iv (w64 (x6 + 1))))] (by kernel_rfl) ?_
    refine WL.done rfl ?_
    exact WX.again k9 (Nat.lt_succ_self _) (w64 (x6 + 1)) [0, 3, 5] rfl ⟨(hS15.subR [0]).sub [0] (by decide), hl12⟩
   refine WC.condF2 (fun fb => by kernel_rfl) h13 ?_
   refine WC.exit ?_
   injection hl12 with hl12
   exact WX.thenX (WX.thenX (WX.blockHere (WX.to Kx7 () [] rfl ⟨(hS11.subR [0]).sub [] (by decide), hl12.symm⟩)))
 rintro y21 w18 ⟨hS19, hq20⟩
 subst hq20
 have hf := sum_inr hf
 refine WX.next (WC.seq (WC.region ?_))
 refine sg 1 [] [4] [(4, (iv (-1)))] (by kernel_rfl) ?_
 refine WL.done rfl (WX.next ?_)
 refine WC.ret ?_
 injection hf with hf
 subst hf
 exact WX.ret_ [] (iv (-1)) [] (fun fb => by kernel_rfl) trivial ⟨_, rfl, rfl, hS19.keep⟩
theorem ref01_Valid_calls (k : Nat) (p0 : List Tile) (Aa : Option Addr) (ca : Nat) (r : Bool) (w : World) (hR0 : RO NoS w (rowR enc_Tile Aa ca p0)) (hf : ref01_Valid k p0 = some r) :
  CallsR Tryz.prog 15 #[(sv Aa p0 ca)] w (fun v w' => v = (bv r) ∧ Keeps NoS w w') := by
 have hS : St NoS w w [rowR enc_Tile Aa ca p0] [] := St.init (ro_cons hR0 (ro_nil _ _))
 refine enter 48 Tryz.func15 rfl Tryz.ntmps15 rfl ?_
 unfold ref01_Valid at hf
 refine WC.seq (WC.region ?_)
 refine sg 1 [] [0] [(0, (sv Aa p0 ca))] (by kernel_rfl) ?_
 refine WL.done rfl (WX.next (WC.seq (WC.seq (WC.region ?_))))
 refine sg 3 [] [0, 7] [(0, (sv Aa p0 ca)), (7, (bv (decide ((p0.length : Int) > 1000))))] (by kernel_rfl) ?_
 refine WL.done rfl (WX.next ?_)
 rcases br_some hf with ⟨h3, hf⟩ | ⟨h3, hf⟩
 ·refine WC.condT2 (fun fb => by kernel_rfl) h3 ?_
  refine WC.seq (WC.region ?_)
  refine sg 1 [] [2] [(2, (bv false))] (by kernel_rfl) ?_
  refine WL.done rfl (WX.next ?_)
  refine WC.ret ?_
  injection hf with hf
  subst hf
  exact WX.thenR (WX.ret_ [] (bv false) [] (fun fb => by kernel_rfl) trivial ⟨_, rfl, rfl, hS.keep⟩)
 refine WC.condF2 (fun fb => by kernel_rfl) h3 ?_
 refine WC.skip (WX.next (WC.seq (WC.seq (WC.region ?_))))
 refine sg 1 [] [0, 3] [(0, (sv Aa p0 ca)), (3, (iv 0))] (by kernel_rfl) ?_
 refine WL.done rfl (WX.next ?_)
 obtain ⟨x5, hx6, hf⟩ := bind_some hf
 let e2 : Nat × Value := (0, (sv Aa p0 ca))
 let e5 : List Nat := [0, 1, 2, 3, 4, 5, 6, 7, 8, 9, 10, 11, 12, 13, 14, 15, 16, 17, 18, 19, 20, 21, 22]
 let e6 : List Own := [rowR enc_Tile Aa ca p0]
 let e8 := (subA Aa ca (0 : Int).toNat 4)
 let e13 := (ca - (0 : Int).toNat)
 refine WC.cutN (T := Unit) (fun t => []) (fun t w1 => St NoS w w1 e6 [] ∧ x5 = .inr t) (fun Kx5 => ?_) ?_
 ·
  refine WC.block ?_
  refine WC.loop (T := Int) (fun t => [e2, (3, (iv t))]) (fun n t w1 => St NoS w w1 e6 [] ∧ ref01_Valid.l0 n t p0 = some x5) k 0 [0, 3] rfl ⟨(hS.subR [0]).sub [] (by decide), hx6⟩ ?_
  rintro k7 x4 w8 ⟨hS9, hl10⟩
  let e1 := rdD p0 x4 z_Tile
  let e3 : Array Value := #[(iv (e1.N)), (iv (e1.E)), (iv (e1.S)), (iv (e1.W))]
  let e4 : Nat × Value := (3, (iv x4))
  let e7 := (adr Aa).add ((x4).toNat * 4)
  let e9 := iv (e1.N)
  let e10 := iv (e1.E)
  let e11 := iv (e1.S)
  let e12 := iv (e1.W)
  cases k7 with
  | zero => rw [ref01_Valid.l0] at hl10; cases hl10
  | succ k7 =>
   rw [ref01_Valid.l0] at hl10
   refine WC.seq (WC.seq (WC.region ?_))
   refine sg 4 [] [0, 3, 11] [e2, e4, (11, (bv (decide (x4 < (p0.length : Int)))))] (by kernel_rfl) ?_
   refine WL.done rfl (WX.next ?_)
   rcases br_some hl10 with ⟨h11, hl10⟩ | ⟨h11, hl10⟩
   ·refine WC.condT2 (fun fb => by kernel_rfl) h11 ?_
    refine WC.skip (WX.next (WC.seq (WC.block (WC.seq (WC.region ?_)))))
    refine sg 2 [] [0, 3, 14, 15] [e2, e4, (14, (sv Aa p0 ca)), (15, (iv x4))] (by kernel_rfl) ?_
    obtain ⟨h12, hl10⟩ := as_some hl10
    refine seg 4 [.v e9, .v e10, .v e11, .v e12] [0, 3, 17] [e2, e4, (17, (.agg e3))] [.idx Aa x4 p0.length, .cell e7 e9, .cell (e7.add 1) e10, .cell (e7.add 2) e11, .cell (e7.add 3) e12] (fun fb => by kernel_rfl) rfl ⟨rowR.adr (hS9.rd 0).1 h12.1 h12.2, rowR.cell (hS9.rd 0).1 z_Tile h12.1 h12.2 0 rfl, rowR.cell (hS9.rd 0).1 z_Tile h12.1 h12.2 1 rfl, rowR.cell (hS9.rd 0).1 z_Tile h12.1 h12.2 2 rfl, rowR.cell (hS9.rd 0).1 z_Tile h12.1 h12.2 3 rfl, trivial⟩ ?_
    refine WL.new hS9 4 [] (fun g => (pt g)) (.cells #[(iv 0), (iv 0), (iv 0), (iv 0)] 64 (0, 0)) [] (fun fb g => by kernel_rfl) trivial (fun g13 w14 hS16 => ?_)
    refine ⟨trivial, ?_⟩
    refine WL.store hS16 0 rfl [(0, e9), (1, e10), (2, e11), (3, e12)] e3 (fun fb => by kernel_rfl) (by kernel_rfl) rfl [] (by decide) (by decide) (fun w17 hS18 => ?_)
    refine ⟨trivial, ?_⟩
    refine WL.done rfl (WX.next (WC.seq ?_))
    refine WC.regionD ([(1, ⟨g13, 0, none⟩, e9), (6, ⟨g13, 1, none⟩, e10), (12, ⟨g13, 2, none⟩, e11), (18, ⟨g13, 3, none⟩, e12), (26, ⟨g13, 0, none⟩, e9), (26, ⟨g13, 1, none⟩, e10), (26, ⟨g13, 2, none⟩, e11), (26, ⟨g13, 3, none⟩, e12)], [0, 1, 3, 4, 5, 6, 8, 9, 10, 11, 12, 14, 15, 16, 17, 18, 20, 21, 22, 23, 24, 25, 26, 28, 29], [[], [0], [0, 1], [0, 1, 2], [0, 1, 2, 3], [0, 1, 2, 3, 4], [0, 1, 2, 3, 4, 5], [0, 1, 2, 3, 4, 5, 6], [0, 1, 2, 3, 4, 5, 6, 7], [0, 1, 2, 3, 4, 5, 6, 7, 8], [0, 1, 2, 3, 4, 5, 6, 7, 8, 9], [0, 1, 2, 3, 4, 5, 6, 7, 8, 9, 10], [0, 1, 2, 3, 4, 5, 6, 7, 8, 9, 10, 11], [0, 1, 2, 3, 4, 5, 6, 7, 8, 9, 10, 11, 12], [0, 1, 2, 3, 4, 5, 6, 7, 8, 9, 10, 11, 12, 13], [0, 1, 2, 3, 4, 5, 6, 7, 8, 9, 10, 11, 12, 13, 14], [0, 1, 2, 3, 4, 5, 6, 7, 8, 9, 10, 11, 12, 13, 14, 15], [0, 1, 2, 3, 4, 5, 6, 7, 8, 9, 10, 11, 12, 13, 14, 15, 16], [0, 1, 2, 3, 4, 5, 6, 7, 8, 9, 10, 11, 12, 13, 14, 15, 16, 17], [0, 1, 2, 3, 4, 5, 6, 7, 8, 9, 10, 11, 12, 13, 14, 15, 16, 17, 18], [0, 1, 2, 3, 4, 5, 6, 7, 8, 9, 10, 11, 12, 13, 14, 15, 16, 17, 18, 19], [0, 1, 2, 3, 4, 5, 6, 7, 8, 9, 10, 11, 12, 13, 14, 15, 16, 17, 18, 19, 20], [0, 1, 2, 3, 4, 5, 6, 7, 8, 9, 10, 11, 12, 13, 14, 15, 16, 17, 18, 19, 20, 21], e5, e5, [0, 1, 2, 3, 4, 5, 6, 7, 8, 9, 10, 11, 12, 13, 14, 15, 16, 17, 18, 19, 20, 21, 22, 23, 24], e5, [0, 1, 2, 3, 4, 5, 6, 7, 8, 9, 10, 11, 12, 13, 14, 15, 16, 17, 18, 19, 20, 21, 22, 23, 24, 25, 26], [0, 1, 2, 3, 4, 5, 6, 7, 8, 9, 10, 11, 12, 13, 14, 15, 16, 17, 18, 19, 20, 21, 22, 23, 24, 25, 26, 27], [0, 1, 2, 3, 4, 5, 6, 7, 8, 9, 10, 11, 12, 13, 14, 15, 16, 17, 18, 19, 20, 21, 22, 23, 24, 25, 26, 27, 28]]) [[0, 1, 2, 3, 4, 5, 6, 7, 8, 9, 10, 11, 12, 13, 14, 15, 16, 17, 18, 19, 20, 21, 22, 23, 24, 25, 26, 27, 28, 29]] (by kernel_rfl) (by kernel_rfl) (NoPanic.seq (NoPanic.block (NoPanic.seq (NoPanic.seq (NoPanic.block (NoPanic.seq (NoPanic.body))))))) ?_
    have hS20 := hS18.drew
    revert hS20
    generalize World.drew w17 = w19
    intro hS20
    refine ⟨⟨hS20.cell 0 rfl 0 rfl, hS20.cell 0 rfl 1 rfl, hS20.cell 0 rfl 2 rfl, hS20.cell 0 rfl 3 rfl, hS20.cell 0 rfl 0 rfl, hS20.cell 0 rfl 1 rfl, hS20.cell 0 rfl 2 rfl, hS20.cell 0 rfl 3 rfl, trivial⟩, forallC ?_ (forallN)⟩
    refine segF 2 [.v e9] [0, 3, 4, 19] [e2, e4, (4, (pt g13)), (19, e9)] [] [0] [(1, ⟨g13, 0, none⟩, e9)] (fun fb => by kernel_rfl) rfl trivial rfl ?_
    obtain ⟨t21, ht22, hl10⟩ := bind_some hl10
    refine WL.call (some 20) 44 #[e9] (fun fb => by kernel_rfl) (ref01_colour_calls (e1.N) t21 _ ht22) (fun v w23 hR24 => ?_)
    obtain ⟨rfl, hk_⟩ := hR24
    have hS25 := hS20.keepN hk_
    refine ⟨⟨hS25.cell 0 rfl 1 rfl, hS25.cell 0 rfl 2 rfl, hS25.cell 0 rfl 3 rfl, hS25.cell 0 rfl 0 rfl, hS25.cell 0 rfl 1 rfl, hS25.cell 0 rfl 2 rfl, hS25.cell 0 rfl 3 rfl, trivial⟩, ?_⟩
    refine sg 5 [] [0, 3, 4, 22] [e2, e4, (4, (pt g13)), (22, (bv (!t21)))] (by kernel_rfl) ?_
    obtain ⟨x26, hx27, hl10⟩ := bind_some hl10
    refine WL.cutW (T := Bool) 10 (fun t => [e2, e4, (4, (pt g13)), (27, (bv t))]) (fun t w1 => (St NoS w w1 e6 [blk g13 (.cells e3 64 (0, 0))] ∧ x26 = t) ∧ CellsOK [] w1) (fun K => ?_) ?_
    ·
     rcases br_some hx27 with ⟨h28, hx27⟩ | ⟨h28, hx27⟩
     ·
      refine WL.setB 22 h28 rfl ?_
      refine sg 10 [] [0, 3, 4, 27] [e2, e4, (4, (pt g13)), (27, (bv true))] (by kernel_rfl) ?_
      injection hx27 with hx27
      exact WL.to K true [0, 3, 4, 27] rfl ⟨⟨(hS25.subR [0]).sub [0] (by decide), hx27.symm⟩, trivial⟩
     refine WL.setB 22 h28 rfl ?_
     refine segF 7 [.v e10] [0, 3, 4, 22, 24] [e2, e4, (4, (pt g13)), (22, (bv false)), (24, e10)] [] [1] [(6, ⟨g13, 1, none⟩, e10)] (fun fb => by kernel_rfl) rfl trivial rfl ?_
     obtain ⟨t29, ht30, hx27⟩ := bind_some hx27
     refine WL.call (some 25) 44 #[e10] (fun fb => by kernel_rfl) (ref01_colour_calls (e1.E) t29 _ ht30) (fun v w31 hR32 => ?_)
     obtain ⟨rfl, hk_⟩ := hR32
     have hS33 := hS25.keepN hk_
     refine ⟨⟨hS33.cell 0 rfl 2 rfl, hS33.cell 0 rfl 3 rfl, hS33.cell 0 rfl 0 rfl, hS33.cell 0 rfl 1 rfl, hS33.cell 0 rfl 2 rfl, hS33.cell 0 rfl 3 rfl, trivial⟩, ?_⟩
     refine sg 10 [] [0, 3, 4, 27] [e2, e4, (4, (pt g13)), (27, (bv (!t29)))] (by kernel_rfl) ?_
     injection hx27 with hx27
     exact WL.to K (!t29) [0, 3, 4, 27] rfl ⟨⟨(hS33.subR [0]).sub [0] (by decide), hx27.symm⟩, trivial⟩
    rintro y34 w36 ⟨⟨hS37, hq35⟩, hF38⟩
    subst hq35
    refine sg 11 [] [0, 3, 4, 28] [e2, e4, (4, (pt g13)), (28, (bv x26))] (by kernel_rfl) ?_
    obtain ⟨x39, hx40, hl10⟩ := bind_some hl10
    refine WL.cutW (T := Bool) 16 (fun t => [e2, e4, (4, (pt g13)), (33, (bv t))]) (fun t w1 => (St NoS w w1 e6 [blk g13 (.cells e3 64 (0, 0))] ∧ x39 = t) ∧ CellsOK [] w1) (fun K => ?_) ?_
    ·
     rcases br_some hx40 with ⟨h41, hx40⟩ | ⟨h41, hx40⟩
     ·
      refine WL.setB 28 h41 rfl ?_
      refine sg 16 [] [0, 3, 4, 33] [e2, e4, (4, (pt g13)), (33, (bv true))] (by kernel_rfl) ?_
      injection hx40 with hx40
      exact WL.to K true [0, 3, 4, 33] rfl ⟨⟨(hS37.subR [0]).sub [0] (by decide), hx40.symm⟩, trivial⟩
     refine WL.setB 28 h41 rfl ?_
     refine segF 13 [.v e11] [0, 3, 4, 28, 30] [e2, e4, (4, (pt g13)), (28, (bv false)), (30, e11)] [] [2] [(12, ⟨g13, 2, none⟩, e11)] (fun fb => by kernel_rfl) rfl trivial rfl ?_
     obtain ⟨t42, ht43, hx40⟩ := bind_some hx40
     refine WL.call (some 31) 44 #[e11] (fun fb => by kernel_rfl) (ref01_colour_calls (e1.S) t42 _ ht43) (fun v w44 hR45 => ?_)
     obtain ⟨rfl, hk_⟩ := hR45
     have hS46 := hS37.keepN hk_
     refine ⟨⟨hS46.cell 0 rfl 3 rfl, hS46.cell 0 rfl 0 rfl, hS46.cell 0 rfl 1 rfl, hS46.cell 0 rfl 2 rfl, hS46.cell 0 rfl 3 rfl, trivial⟩, ?_⟩
     refine sg 16 [] [0, 3, 4, 33] [e2, e4, (4, (pt g13)), (33, (bv (!t42)))] (by kernel_rfl) ?_
     injection hx40 with hx40
     exact WL.to K (!t42) [0, 3, 4, 33] rfl ⟨⟨(hS46.subR [0]).sub [0] (by decide), hx40.symm⟩, trivial⟩
    rintro y47 w49 ⟨⟨hS50, hq48⟩, hF51⟩
    subst hq48
    refine sg 17 [] [0, 3, 4, 34] [e2, e4, (4, (pt g13)), (34, (bv x39))] (by kernel_rfl) ?_
    obtain ⟨x52, hx53, hl10⟩ := bind_some hl10
    refine WL.cutW (T := Bool) 22 (fun t => [e2, e4, (4, (pt g13)), (39, (bv t))]) (fun t w1 => (St NoS w w1 e6 [blk g13 (.cells e3 64 (0, 0))] ∧ x52 = t) ∧ CellsOK [] w1) (fun K => ?_) ?_
    ·
     rcases br_some hx53 with ⟨h54, hx53⟩ | ⟨h54, hx53⟩
     ·
      refine WL.setB 34 h54 rfl ?_
      refine sg 22 [] [0, 3, 4, 39] [e2, e4, (4, (pt g13)), (39, (bv true))] (by kernel_rfl) ?_
      injection hx53 with hx53
      exact WL.to K true [0, 3, 4, 39] rfl ⟨⟨(hS50.subR [0]).sub [0] (by decide), hx53.symm⟩, trivial⟩
     refine WL.setB 34 h54 rfl ?_
     refine segF 19 [.v e12] [0, 3, 4, 34, 36] [e2, e4, (4, (pt g13)), (34, (bv false)), (36, e12)] [] [3] [(18, ⟨g13, 3, none⟩, e12)] (fun fb => by kernel_rfl) rfl trivial rfl ?_
     obtain ⟨t55, ht56, hx53⟩ := bind_some hx53
     refine WL.call (some 37) 44 #[e12] (fun fb => by kernel_rfl) (ref01_colour_calls (e1.W) t55 _ ht56) (fun v w57 hR58 => ?_)
     obtain ⟨rfl, hk_⟩ := hR58
     have hS59 := hS50.keepN hk_
     refine ⟨⟨hS59.cell 0 rfl 0 rfl, hS59.cell 0 rfl 1 rfl, hS59.cell 0 rfl 2 rfl, hS59.cell 0 rfl 3 rfl, trivial⟩, ?_⟩
     refine sg 22 [] [0, 3, 4, 39] [e2, e4, (4, (pt g13)), (39, (bv (!t55)))] (by kernel_rfl) ?_
     injection hx53 with hx53
     exact WL.to K (!t55) [0, 3, 4, 39] rfl ⟨⟨(hS59.subR [0]).sub [0] (by decide), hx53.symm⟩, trivial⟩
    rintro y60 w62 ⟨⟨hS63, hq61⟩, hF65⟩
    subst hq61
    refine sg 23 [] [0, 3, 4, 40] [e2, e4, (4, (pt g13)), (40, (bv x52))] (by kernel_rfl) ?_
    obtain ⟨x66, hx67, hl10⟩ := bind_some hl10
    refine WL.cutW (T := Bool) 30 (fun t => [e2, e4, (47, (bv t))]) (fun t w1 => (St NoS w w1 e6 [] ∧ x66 = t) ∧ CellsOK [] w1) (fun K => ?_) ?_
    ·
     rcases br_some hx67 with ⟨h68, hx67⟩ | ⟨h68, hx67⟩
     ·
      refine WL.setB 40 h68 rfl ?_
      refine sg 30 [] [0, 3, 47] [e2, e4, (47, (bv true))] (by kernel_rfl) ?_
      injection hx67 with hx67
      exact WL.to K true [0, 3, 47] rfl ⟨⟨(hS63.subR [0]).sub [] (by decide), hx67.symm⟩, trivial⟩
     refine WL.setB 40 h68 rfl ?_
     refine sg 25 [] [0, 3, 4, 40, 41, 42] [e2, e4, (4, (pt g13)), (40, (bv false)), (41, (sv Aa p0 ca)), (42, (iv x4))] (by kernel_rfl) ?_
     obtain ⟨h69, hx67⟩ := as_some hx67
     refine seg 26 [] [0, 3, 4, 40, 43] [e2, e4, (4, (pt g13)), (40, (bv false)), (43, (.slice e8 (x4.toNat - (0 : Int).toNat) e13))] [.idx (some ⟨0, 0, none⟩) (0 : Int) (x4.toNat + 1), .idx (some ⟨0, 0, none⟩) x4 (ca + 1)] (fun fb => by kernel_rfl) rfl ⟨cut1 h69.1 h69.2.1, cut2 h69.1 h69.2.1 h69.2.2 (hS63.rd 0).1.2, trivial⟩ ?_
     refine WL.reE [0, 3, 4, 40, 43] [(0, (.slice Aa p0.length ca)), (3, (iv x4)), (4, (pt g13)), (40, (.bool false)), (43, (.slice (subA Aa ca (0 : Int).toNat 4) (x4.toNat - (0 : Int).toNat) (ca - (0 : Int).toNat)))] [(0, (.slice Aa p0.length ca)), (3, (iv x4)), (4, (pt g13)), (40, (.bool false)), (43, (.slice (subA Aa ca (0 : Int).toNat 4) (cut p0 (0 : Int) x4).length (ca - (0 : Int).toNat)))] rfl (by rw [cut_length h69.1 h69.2.1 h69.2.2]) ?_
     have hS70 := hS63.cutR 0 rfl h69.1 h69.2.1 h69.2.2
     refine segF 27 [.v e9, .v e10, .v e11, .v e12] [0, 3, 40, 43, 44] [e2, e4, (40, (bv false)), (43, (sv e8 (cut p0 (0 : Int) x4) e13)), (44, (.agg e3))] [] [4, 5, 6, 7] [(26, ⟨g13, 0, none⟩, e9), (26, ⟨g13, 1, none⟩, e10), (26, ⟨g13, 2, none⟩, e11), (26, ⟨g13, 3, none⟩, e12)] (fun fb => by kernel_rfl) rfl trivial rfl ?_
     obtain ⟨t71, ht72, hx67⟩ := bind_some hx67
     refine WL.call (some 45) 45 #[(sv e8 (cut p0 (0 : Int) x4) e13), (.agg e3)] (fun fb => by kernel_rfl) (ref01_Index_calls _ (cut p0 (0 : Int) x4) e1 e8 e13 t71 _ (hS70.rd 0) ht72) (fun v w73 hR74 => ?_)
     obtain ⟨rfl, hk_⟩ := hR74
     have hS75 := hS70.keepN hk_
     refine ⟨trivial, ?_⟩
     refine sg 30 [] [0, 3, 47] [e2, e4, (47, (bv (decide (t71 ≥ 0))))] (by kernel_rfl) ?_
     injection hx67 with hx67
     exact WL.to K (decide (t71 ≥ 0)) [0, 3, 47] rfl ⟨⟨(hS75.subR [1]).sub [] (by decide), hx67.symm⟩, trivial⟩
    rintro y76 w78 ⟨⟨hS79, hq77⟩, hF80⟩
    subst hq77
    refine WL.done rfl (WX.next ?_)
    rcases br_some hl10 with ⟨h81, hl10⟩ | ⟨h81, hl10⟩
    ·refine WC.condT2 (fun fb => by kernel_rfl) h81 ?_
     refine WC.seq (WC.region ?_)
     refine sg 1 [] [2] [(2, (bv false))] (by kernel_rfl) ?_
     refine WL.done rfl (WX.next ?_)
     refine WC.ret ?_
     injection hl10 with hl10
     subst hl10
     injection hf with hf
     subst hf
     exact WX.blockR (WX.thenR (WX.thenR (WX.blockR (WX.thenR (WX.ret_ [] (bv false) [] (fun fb => by kernel_rfl) trivial ⟨_, rfl, rfl, hS79.keep⟩)))))
    refine WC.condF2 (fun fb => by kernel_rfl) h81 ?_
    refine WC.skip ?_
    refine WX.blockN (WX.next ?_)
    refine WC.region ?_
    refine sg 3 [] [0, 3] [e2, (3, (iv (w64 (x4 + 1))))] (by kernel_rfl) ?_
    refine WL.done rfl ?_
    exact WX.again k7 (Nat.lt_succ_self _) (w64 (x4 + 1)) [0, 3] rfl ⟨(hS79.subR [0]).sub [] (by decide), hl10⟩
   refine WC.condF2 (fun fb => by kernel_rfl) h11 ?_
   refine WC.exit ?_
   injection hl10 with hl10
   exact WX.thenX (WX.thenX (WX.blockHere (WX.to Kx5 () [] rfl ⟨(hS9.subR [0]).sub [] (by decide), hl10.symm⟩)))
 rintro y85 w82 ⟨hS83, hq84⟩
 subst hq84
 have hf := sum_inr hf
 refine WX.next (WC.seq (WC.region ?_))
 refine sg 1 [] [2] [(2, (bv true))] (by kernel_rfl) ?_
 refine WL.done rfl (WX.next ?_)
 refine WC.ret ?_
 injection hf with hf
 subst hf
 exact WX.ret_ [] (bv true) [] (fun fb => by kernel_rfl) trivial ⟨_, rfl, rfl, hS83.keep⟩
theorem ref07_primes_calls (k : Nat) (p0 : List Piece) (Aa : Option Addr) (ca : Nat) (r : (List Int)) (w : World) (hR0 : RO NoS w (rowR enc_Piece Aa ca p0)) (hf : ref07_primes k p0 = some r) :
  CallsR Tryz.prog 50 #[(sv Aa p0 ca)] w (fun v w' => ∃ (A1_ : Option Addr), ∃ (c1_ : Nat), v = (sv A1_ r c1_) ∧ St NoS w w' [] [rowO 3 encInt A1_ c1_ r]) := by
 have hS : St NoS w w [rowR enc_Piece Aa ca p0] [] := St.init (ro_cons hR0 (ro_nil _ _))
 refine enter 63 Tryz.func50 rfl Tryz.ntmps50 rfl ?_
 unfold ref07_primes at hf
 refine WC.seq (WC.region ?_)
 refine sg 1 [] [0] [(0, (sv Aa p0 ca))] (by kernel_rfl) ?_
 refine WL.done rfl (WX.next (WC.seq (WC.region ?_)))
 refine sg 1 [] [0, 3] [(0, (sv Aa p0 ca)), (3, (.slice none 0 0))] (by kernel_rfl) ?_
 refine WL.done rfl (WX.next (WC.seq (WC.seq (WC.region ?_))))
 refine sg 1 [] [0, 3, 4] [(0, (sv Aa p0 ca)), (3, (.slice none 0 0)), (4, (iv 2))] (by kernel_rfl) ?_
 refine WL.done rfl (WX.next ?_)
 have hS3 := hS.nilrow 3 encInt
 obtain ⟨x11, hx12, hf⟩ := bind_some hf
 let e1 : Nat × Value := (0, (sv Aa p0 ca))
 let e6 : Nat × Value := (6, (bv false))
 let e7 : List Own := [rowR enc_Piece Aa ca p0]
 let e10 : List Nat := [0, 3, 4, 5, 6, 7]
 let e11 : List Nat := [0, 3, 4, 5, 6, 8]
 refine WC.cutN (T := (List Int) × (Option Addr) × Nat) (fun t => [(3, (sv t.2.1 t.1 t.2.2))]) (fun t w1 => St NoS w w1 e7 [rowO 3 encInt t.2.1 t.2.2 t.1] ∧ x11 = t.1) (fun Kx11 => ?_) ?_
 ·
  refine WC.block ?_
  refine WC.loop (T := ((List Int) × Int) × (Option Addr) × Nat) (fun t => [e1, (3, (sv t.2.1 t.1.1 t.2.2)), (4, (iv t.1.2))]) (fun n t w1 => St NoS w w1 e7 [rowO 3 encInt t.2.1 t.2.2 t.1.1] ∧ ref07_primes.l0 n t.1.1 t.1.2 p0 = some x11) k ((([] : List Int), 2), none, 0) [0, 3, 4] rfl ⟨(hS3.subR [0]).sub [0] (by decide), hx12⟩ ?_
  rintro k13 ⟨⟨l6, x8⟩, A4, c5⟩ w14 ⟨hS15, hl16⟩
  let e2 : Nat × Value := (3, (sv A4 l6 c5))
  let e3 : Nat × Value := (4, (iv x8))
  let e9 : List Own := [rowO 3 encInt A4 c5 l6]
  cases k13 with
  | zero => rw [ref07_primes.l0] at hl16; cases hl16
  | succ k13 =>
   rw [ref07_primes.l0] at hl16
   refine WC.seq (WC.seq (WC.region ?_))
   refine sg 2 [] [0, 3, 4, 10] [e1, e2, e3, (10, (bv (decide (x8 ≤ 12))))] (by kernel_rfl) ?_
   refine WL.done rfl (WX.next ?_)
   rcases br_some hl16 with ⟨h17, hl16⟩ | ⟨h17, hl16⟩
   ·refine WC.condT2 (fun fb => by kernel_rfl) h17 ?_
    refine WC.skip (WX.next (WC.seq (WC.block (WC.seq (WC.region ?_)))))
    refine sg 2 [] [0, 3, 4, 5, 6] [e1, e2, e3, (5, (bv true)), e6] (by kernel_rfl) ?_
    refine WL.done rfl (WX.next (WC.seq (WC.seq (WC.region ?_))))
    refine sg 1 [] e10 [e1, e2, e3, (5, (bv true)), e6, (7, (iv 2))] (by kernel_rfl) ?_
    refine WL.done rfl (WX.next ?_)
    obtain ⟨x20, hx21, hl16⟩ := bind_some hl16
    refine WC.cutN (T := Bool) (fun t => [e1, e2, e3, (5, (bv t)), e6]) (fun t w1 => St NoS w w1 e7 e9 ∧ x20 = t) (fun Kx20 => ?_) ?_
    ·
     refine WC.block ?_
     refine WC.loop (T := Bool × Int) (fun t => [e1, e2, e3, (5, (bv t.1)), e6, (7, (iv t.2))]) (fun n t w1 => St NoS w w1 e7 e9 ∧ ref07_primes.l1 n t.1 t.2 x8 = some x20) k13 (true, 2) e10 rfl ⟨(hS15.subR [0]).sub [0] (by decide), hx21⟩ ?_
     rintro k22 ⟨b18, x19⟩ w23 ⟨hS24, hl25⟩
     let e12 : Nat × Value := (7, (iv x19))
     cases k22 with
     | zero => rw [ref07_primes.l1] at hl25; cases hl25
     | succ k22 =>
      rw [ref07_primes.l1] at hl25
      refine WC.seq (WC.seq (WC.region ?_))
      refine sg 3 [] [0, 3, 4, 5, 6, 7, 15] [e1, e2, e3, (5, (bv b18)), e6, e12, (15, (bv (decide (x19 < x8))))] (by kernel_rfl) ?_
      refine WL.done rfl (WX.next ?_)
      rcases br_some hl25 with ⟨h26, hl25⟩ | ⟨h26, hl25⟩
      ·refine WC.condT2 (fun fb => by kernel_rfl) h26 ?_
       refine WC.skip (WX.next (WC.seq (WC.block (WC.region ?_))))
       refine sg 2 [] [0, 3, 4, 6, 7, 19] [e1, e2, e3, e6, e12, (19, (bv b18))] (by kernel_rfl) ?_
       obtain ⟨b27, hv28, hl25⟩ := bind_some hl25
       refine WL.cutV (T := Unit) 7 (fun t => [(24, (bv b27)), e1, e2, e3, e6, e12]) (fun t => True) (fun K => ?_) ?_
       ·
        rcases br_some hv28 with ⟨h29, hv28⟩ | ⟨h29, hv28⟩
        ·
         refine WL.setB 19 h29 rfl ?_
         refine sg 4 [] [0, 3, 4, 6, 7, 19, 20, 21] [e1, e2, e3, e6, e12, (19, (bv true)), (20, (iv x8)), (21, (iv x19))] (by kernel_rfl) ?_
         obtain ⟨h30, hv28⟩ := as_some hv28
         refine seg 7 [] [0, 3, 4, 6, 7, 24] [e1, e2, e3, e6, e12, (24, (bv ((Int.tmod x8 x19) != 0)))] [.ne x19] (fun fb => by kernel_rfl) rfl ⟨h30, trivial⟩ ?_
         injection hv28 with hv28
         subst hv28
         exact WL.toV K () [24, 0, 3, 4, 6, 7] rfl trivial
        refine WL.setB 19 h29 rfl ?_
        refine sg 7 [] [0, 3, 4, 6, 7, 24] [e1, e2, e3, e6, e12, (24, (bv false))] (by kernel_rfl) ?_
        injection hv28 with hv28
        subst hv28
        exact WL.toV K () [24, 0, 3, 4, 6, 7] rfl trivial
       rintro _ _
       refine sg 8 [] e10 [e1, e2, e3, (5, (bv b27)), e6, e12] (by kernel_rfl) ?_
       refine WL.done rfl ?_
       refine WX.blockN (WX.next ?_)
       refine WC.region ?_
       refine sg 3 [] e10 [e1, e2, e3, (5, (bv b27)), e6, (7, (iv (w64 (x19 + 1))))] (by kernel_rfl) ?_
       refine WL.done rfl ?_
       exact WX.again k22 (Nat.lt_succ_self _) (b27, w64 (x19 + 1)) e10 rfl ⟨(hS24.subR [0]).sub [0] (by decide), hl25⟩
      refine WC.condF2 (fun fb => by kernel_rfl) h26 ?_
      refine WC.exit ?_
      injection hl25 with hl25
      exact WX.thenX (WX.thenX (WX.blockHere (WX.to Kx20 b18 [0, 3, 4, 5, 6] rfl ⟨(hS24.subR [0]).sub [0] (by decide), hl25.symm⟩)))
    rintro y34 w31 ⟨hS32, hq33⟩
    subst hq33
    refine WX.next (WC.seq (WC.seq (WC.region ?_)))
    refine sg 1 [] e11 [e1, e2, e3, (5, (bv x20)), e6, (8, (iv 0))] (by kernel_rfl) ?_
    refine WL.done rfl (WX.next ?_)
    obtain ⟨x37, hx38, hl16⟩ := bind_some hl16
    let e5 : Nat × Value := (5, (bv x20))
    refine WC.cutN (T := Bool) (fun t => [e1, e2, e3, e5, (6, (bv t))]) (fun t w1 => St NoS w w1 e7 e9 ∧ x37 = t) (fun Kx37 => ?_) ?_
    ·
     refine WC.block ?_
     refine WC.loop (T := Bool × Int) (fun t => [e1, e2, e3, e5, (6, (bv t.1)), (8, (iv t.2))]) (fun n t w1 => St NoS w w1 e7 e9 ∧ ref07_primes.l2 n t.1 t.2 p0 x8 = some x37) k13 (false, 0) e11 rfl ⟨(hS32.subR [0]).sub [0] (by decide), hx38⟩ ?_
     rintro k39 ⟨b35, x36⟩ w40 ⟨hS41, hl42⟩
     let e4 := (rdD p0 x36 z_Piece).Factor
     let e8 : Nat × Value := (8, (iv x36))
     cases k39 with
     | zero => rw [ref07_primes.l2] at hl42; cases hl42
     | succ k39 =>
      rw [ref07_primes.l2] at hl42
      refine WC.seq (WC.seq (WC.region ?_))
      refine sg 4 [] [0, 3, 4, 5, 6, 8, 28] [e1, e2, e3, e5, (6, (bv b35)), e8, (28, (bv (decide (x36 < (p0.length : Int)))))] (by kernel_rfl) ?_
      refine WL.done rfl (WX.next ?_)
      rcases br_some hl42 with ⟨h43, hl42⟩ | ⟨h43, hl42⟩
      ·refine WC.condT2 (fun fb => by kernel_rfl) h43 ?_
       refine WC.skip (WX.next (WC.seq (WC.block (WC.region ?_))))
       refine sg 2 [] [0, 3, 4, 5, 8, 32] [e1, e2, e3, e5, e8, (32, (bv b35))] (by kernel_rfl) ?_
       obtain ⟨b44, hv45, hl42⟩ := bind_some hl42
       refine WL.cutV (T := Unit) 12 (fun t => [(42, (bv b44)), e1, e2, e3, e5, e8]) (fun t => True) (fun K => ?_) ?_
       ·
        rcases br_some hv45 with ⟨h46, hv45⟩ | ⟨h46, hv45⟩
        ·
         refine WL.setB 32 h46 rfl ?_
         refine sg 12 [] [0, 3, 4, 5, 8, 42] [e1, e2, e3, e5, e8, (42, (bv true))] (by kernel_rfl) ?_
         injection hv45 with hv45
         subst hv45
         exact WL.toV K () [42, 0, 3, 4, 5, 8] rfl trivial
        refine WL.setB 32 h46 rfl ?_
        refine sg 4 [] [0, 3, 4, 5, 8, 32, 33, 34] [e1, e2, e3, e5, e8, (32, (bv false)), (33, (sv Aa p0 ca)), (34, (iv x36))] (by kernel_rfl) ?_
        obtain ⟨h47, hv45⟩ := as_some hv45
        refine seg 9 [.v (iv (e4.Num))] [0, 3, 4, 5, 8, 32, 38, 39] [e1, e2, e3, e5, e8, (32, (bv false)), (38, (iv (e4.Num))), (39, (iv x8))] [.idx Aa x36 p0.length, .cell ((adr Aa).add ((x36).toNat * 6)) (iv (e4.Num))] (fun fb => by kernel_rfl) rfl ⟨rowR.adr (hS41.rd 0).1 h47.1 h47.2, rowR.cell (hS41.rd 0).1 z_Piece h47.1 h47.2 0 rfl, trivial⟩ ?_
        obtain ⟨h48, hv45⟩ := as_some hv45
        refine seg 12 [] [0, 3, 4, 5, 8, 42] [e1, e2, e3, e5, e8, (42, (bv ((Int.tmod (e4.Num) x8) == 0)))] [.ne x8] (fun fb => by kernel_rfl) rfl ⟨h48, trivial⟩ ?_
        injection hv45 with hv45
        subst hv45
        exact WL.toV K () [42, 0, 3, 4, 5, 8] rfl trivial
       rintro _ _
       refine sg 13 [] [0, 3, 4, 5, 8, 43] [e1, e2, e3, e5, e8, (43, (bv b44))] (by kernel_rfl) ?_
       obtain ⟨b49, hv51, hl42⟩ := bind_some hl42
       refine WL.cutV (T := Unit) 23 (fun t => [(53, (bv b49)), e1, e2, e3, e5, e8]) (fun t => True) (fun K => ?_) ?_
       ·
        rcases br_some hv51 with ⟨h52, hv51⟩ | ⟨h52, hv51⟩
        ·
         refine WL.setB 43 h52 rfl ?_
         refine sg 23 [] [0, 3, 4, 5, 8, 53] [e1, e2, e3, e5, e8, (53, (bv true))] (by kernel_rfl) ?_
         injection hv51 with hv51
         subst hv51
         exact WL.toV K () [53, 0, 3, 4, 5, 8] rfl trivial
        refine WL.setB 43 h52 rfl ?_
        refine sg 15 [] [0, 3, 4, 5, 8, 43, 44, 45] [e1, e2, e3, e5, e8, (43, (bv false)), (44, (sv Aa p0 ca)), (45, (iv x36))] (by kernel_rfl) ?_
        obtain ⟨h53, hv51⟩ := as_some hv51
        refine seg 20 [.v (iv (e4.Den))] [0, 3, 4, 5, 8, 43, 49, 50] [e1, e2, e3, e5, e8, (43, (bv false)), (49, (iv (e4.Den))), (50, (iv x8))] [.idx Aa x36 p0.length, .cell (((adr Aa).add ((x36).toNat * 6)).add 1) (iv (e4.Den))] (fun fb => by kernel_rfl) rfl ⟨rowR.adr (hS41.rd 0).1 h53.1 h53.2, rowR.cell (hS41.rd 0).1 z_Piece h53.1 h53.2 1 rfl, trivial⟩ ?_
        obtain ⟨h54, hv51⟩ := as_some hv51
        refine seg 23 [] [0, 3, 4, 5, 8, 53] [e1, e2, e3, e5, e8, (53, (bv ((Int.tmod (e4.Den) x8) == 0)))] [.ne x8] (fun fb => by kernel_rfl) rfl ⟨h54, trivial⟩ ?_
        injection hv51 with hv51
        subst hv51
        exact WL.toV K () [53, 0, 3, 4, 5, 8] rfl trivial
       rintro _ _
       refine sg 24 [] e11 [e1, e2, e3, e5, (6, (bv b49)), e8] (by kernel_rfl) ?_
       refine WL.done rfl ?_
       refine WX.blockN (WX.next ?_)
       refine WC.region ?_
       refine sg 3 [] e11 [e1, e2, e3, e5, (6, (bv b49)), (8, (iv (w64 (x36 + 1))))] (by kernel_rfl) ?_
       refine WL.done rfl ?_
       exact WX.again k39 (Nat.lt_succ_self _) (b49, w64 (x36 + 1)) e11 rfl ⟨(hS41.subR [0]).sub [0] (by decide), hl42⟩
      refine WC.condF2 (fun fb => by kernel_rfl) h43 ?_
      refine WC.exit ?_
      injection hl42 with hl42
      exact WX.thenX (WX.thenX (WX.blockHere (WX.to Kx37 b35 [0, 3, 4, 5, 6] rfl ⟨(hS41.subR [0]).sub [0] (by decide), hl42.symm⟩)))
    rintro y58 w55 ⟨hS56, hq57⟩
    subst hq57
    refine WX.next (WC.seq (WC.region ?_))
    refine sg 2 [] [0, 3, 4, 6, 55] [e1, e2, e3, (6, (bv x37)), (55, (bv x20))] (by kernel_rfl) ?_
    refine WL.cutV (T := Bool) 4 (fun t => [(57, (bv t)), e1, e2, e3]) (fun t => (x20 && x37) = t) (fun K => ?_) ?_
    ·
     rcases Bool.eq_false_or_eq_true x20 with h59 | h59
     ·
      refine WL.setB 55 h59 rfl ?_
      refine sg 4 [] [0, 3, 4, 57] [e1, e2, e3, (57, (bv x37))] (by kernel_rfl) ?_
      exact WL.toV K x37 [57, 0, 3, 4] rfl (by first | (rw [h59]; done) | (rw [h59]; rfl))
     refine WL.setB 55 h59 rfl ?_
     refine sg 4 [] [0, 3, 4, 57] [e1, e2, e3, (57, (bv false))] (by kernel_rfl) ?_
     exact WL.toV K false [57, 0, 3, 4] rfl (by first | (rw [h59]; done) | (rw [h59]; rfl))
    rintro b60 rfl
    refine WL.done rfl (WX.next ?_)
    obtain ⟨x63, hx65, hl16⟩ := bind_some hl16
    refine WC.cutN (T := (List Int) × (Option Addr) × Nat) (fun t => [e1, (3, (sv t.2.1 t.1 t.2.2)), e3]) (fun t w1 => St NoS w w1 e7 [rowO 3 encInt t.2.1 t.2.2 t.1] ∧ x63 = t.1) (fun Kx63 => ?_) ?_
    ·
     rcases br_some hx65 with ⟨h66, hx65⟩ | ⟨h66, hx65⟩
     ·refine WC.condT2 (fun fb => by kernel_rfl) h66 ?_
      refine WC.region ?_
      refine sg 2 [] [0, 4, 58, 59] [e1, e3, (58, (sv A4 l6 c5)), (59, (iv x8))] (by kernel_rfl) ?_
      refine WL.new hS56 60 [] (fun g => (.slice (some ⟨g, 0, none⟩) 1 1)) (.cells #[(iv x8)] 3 (0, 0)) [] (fun fb g => by kernel_rfl) trivial (fun g67 w68 hS69 => ?_)
      refine ⟨trivial, ?_⟩
      have hS70 := hS.go w68 [rowO 3 encInt (some ⟨g67, 0, none⟩) 1 [x8], rowO 3 encInt A4 c5 l6] (hS69.map1 0 _ (fun h => rowO.ofBlk h rfl (Nat.le_of_ble_eq_true (by kernel_rfl))) (fun _ h => by obtain ⟨_, h1, h2⟩ := h; injection h1 with h1; subst h1; exact h2) [1] (by decide) (by decide))
      obtain ⟨h71, hx65⟩ := as_some hx65
      refine WL.append hS70 1 (d := 61) (tS := 35) (z := (iv 0)) (bytes := 8) (c2 := 1) rfl (fun fb => by kernel_rfl) (rowO.rd (hS70.own 0).1) (by kernel_rfl) (by kernel_rfl) rfl (by decide) h71 (by decide) [0] (by decide) (by decide) (fun A72 c73 w74 hS75 => ?_)
      refine ⟨trivial, ?_⟩
      refine sg 5 [] [0, 3, 4] [e1, (3, (sv A72 (l6 ++ [x8]) c73)), e3] (by kernel_rfl) ?_
      refine WL.done rfl ?_
      injection hx65 with hx65
      exact WX.to Kx63 (l6 ++ [x8], A72, c73) [0, 3, 4] rfl ⟨(hS75.subR [0]).sub [0] (by decide), hx65.symm⟩
     refine WC.condF2 (fun fb => by kernel_rfl) h66 ?_
     refine WC.skip ?_
     injection hx65 with hx65
     exact WX.to Kx63 (l6, A4, c5) [0, 3, 4] rfl ⟨(hS56.subR [0]).sub [0] (by decide), hx65.symm⟩
    rintro ⟨y79, A61, c62⟩ w76 ⟨hS77, hq78⟩
    subst hq78
    refine WX.blockN (WX.next ?_)
    refine WC.region ?_
    refine sg 3 [] [0, 3, 4] [e1, (3, (sv A61 x63 c62)), (4, (iv (w64 (x8 + 1))))] (by kernel_rfl) ?_
    refine WL.done rfl ?_
    exact WX.again k13 (Nat.lt_succ_self _) ((x63, w64 (x8 + 1)), A61, c62) [0, 3, 4] rfl ⟨(hS77.subR [0]).sub [0] (by decide), hl16⟩
   refine WC.condF2 (fun fb => by kernel_rfl) h17 ?_
   refine WC.exit ?_
   injection hl16 with hl16
   exact WX.thenX (WX.thenX (WX.blockHere (WX.to Kx11 (l6, A4, c5) [3] rfl ⟨(hS15.subR [0]).sub [0] (by decide), hl16.symm⟩)))
 rintro ⟨y83, A9, c10⟩ w80 ⟨hS81, hq82⟩
 subst hq82
 refine WX.next (WC.seq (WC.region ?_))
 refine sg 2 [] [2] [(2, (sv A9 x11 c10))] (by kernel_rfl) ?_
 refine WL.done rfl (WX.next ?_)
 refine WC.ret ?_
 injection hf with hf
 subst hf
 exact WX.ret_ [] (sv A9 x11 c10) [] (fun fb => by kernel_rfl) trivial ⟨_, rfl, A9, c10, rfl, (hS81.sub [0] (by decide)).noR⟩
theorem ref07_exponent_calls (k : Nat) (p0 : Int) (p1 : Int)  (r : Int) (w : World)  (hf : ref07_exponent k p0 p1 = some r) :
  CallsR Tryz.prog 99 #[(iv p0), (iv p1)] w (fun v w' => v = (iv r) ∧ Keeps NoS w w') := by
 have hS : St NoS w w [] [] := St.init (ro_nil _ _)
 refine enter 16 Tryz.func99 rfl Tryz.ntmps99 rfl ?_
 unfold ref07_exponent at hf
 refine WC.seq (WC.region ?_)
 refine sg 1 [] [0, 1] [(0, (iv p0)), (1, (iv p1))] (by kernel_rfl) ?_
 refine WL.done rfl (WX.next (WC.seq (WC.region ?_)))
 refine sg 1 [] [0, 1, 5] [(0, (iv p0)), (1, (iv p1)), (5, (iv 0))] (by kernel_rfl) ?_
 refine WL.done rfl (WX.next (WC.seq ?_))
 obtain ⟨x5, hx6, hf⟩ := bind_some hf
 refine WC.cutN (T := Int) (fun t => [(5, (iv t))]) (fun t w1 => St NoS w w1 [] [] ∧ x5 = t) (fun Kx5 => ?_) ?_
 ·
  refine WC.block ?_
  refine WC.loop (T := Int × Int) (fun t => [(0, (iv t.1)), (1, (iv p1)), (5, (iv t.2))]) (fun n t w1 => St NoS w w1 [] [] ∧ ref07_exponent.l0 n t.1 t.2 p1 = some x5) k (p0, 0) [0, 1, 5] rfl ⟨(hS.subR []).sub [] (by decide), hx6⟩ ?_
  rintro k8 ⟨x3, x4⟩ w9 ⟨hS10, hl11⟩
  cases k8 with
  | zero => rw [ref07_exponent.l0] at hl11; cases hl11
  | succ k8 =>
   rw [ref07_exponent.l0] at hl11
   refine WC.seq (WC.seq (WC.region ?_))
   refine sg 2 [] [0, 1, 5, 6, 7] [(0, (iv x3)), (1, (iv p1)), (5, (iv x4)), (6, (iv x3)), (7, (iv p1))] (by kernel_rfl) ?_
   obtain ⟨h12, hl11⟩ := as_some hl11
   refine seg 4 [] [0, 1, 5, 9] [(0, (iv x3)), (1, (iv p1)), (5, (iv x4)), (9, (bv ((Int.tmod x3 p1) == 0)))] [.ne p1] (fun fb => by kernel_rfl) rfl ⟨h12, trivial⟩ ?_
   refine WL.done rfl (WX.next ?_)
   rcases br_some hl11 with ⟨h13, hl11⟩ | ⟨h13, hl11⟩
   ·refine WC.condT2 (fun fb => by kernel_rfl) h13 ?_
    refine WC.skip (WX.next (WC.block (WC.region ?_)))
    refine seg 7 [] [0, 1, 5] [(0, (iv (w64 (Int.tdiv x3 p1)))), (1, (iv p1)), (5, (iv (w64 (x4 + 1))))] [.ne p1] (fun fb => by kernel_rfl) rfl ⟨h12, trivial⟩ ?_
    refine WL.done rfl ?_
    exact WX.blockN (WX.again k8 (Nat.lt_succ_self _) (w64 (Int.tdiv x3 p1), w64 (x4 + 1)) [0, 1, 5] rfl ⟨(hS10.subR []).sub [] (by decide), hl11⟩)
   refine WC.condF2 (fun fb => by kernel_rfl) h13 ?_
   refine WC.exit ?_
   injection hl11 with hl11
   exact WX.thenX (WX.thenX (WX.blockHere (WX.to Kx5 x4 [5] rfl ⟨(hS10.subR []).sub [] (by decide), hl11.symm⟩)))
 rintro y17 w14 ⟨hS15, hq16⟩
 subst hq16
 refine WX.next (WC.seq (WC.region ?_))
 refine sg 2 [] [4] [(4, (iv x5))] (by kernel_rfl) ?_
 refine WL.done rfl (WX.next ?_)
 refine WC.ret ?_
 injection hf with hf
 subst hf
 exact WX.ret_ [] (iv x5) [] (fun fb => by kernel_rfl) trivial ⟨_, rfl, rfl, hS15.keep⟩
theorem ref07_rises_calls (k : Nat) (p0 : List Piece) (p1 : List Int) (p2 : List Int) (Aa : Option Addr) (ca : Nat) (Ab : Option Addr) (cb : Nat) (Ac : Option Addr) (cc : Nat) (r : Bool) (w : World) (hR0 : RO NoS w (rowR enc_Piece Aa ca p0)) (hR1 : RO NoS w (rowR encInt Ab cb p1)) (hR2 : RO NoS w (rowR encInt Ac cc p2)) (hf : ref07_rises k p0 p1 p2 = some r) :
  CallsR Tryz.prog 79 #[(sv Aa p0 ca), (sv Ab p1 cb), (sv Ac p2 cc)] w (fun v w' => v = (bv r) ∧ Keeps NoS w w') := by
 have hS : St NoS w w [rowR enc_Piece Aa ca p0, rowR encInt Ab cb p1, rowR encInt Ac cc p2] [] := St.init (ro_cons hR0 (ro_cons hR1 (ro_cons hR2 (ro_nil _ _))))
 refine enter 54 Tryz.func79 rfl Tryz.ntmps79 rfl ?_
 unfold ref07_rises at hf
 refine WC.seq (WC.region ?_)
 refine sg 1 [] [0, 1, 2] [(0, (sv Aa p0 ca)), (1, (sv Ab p1 cb)), (2, (sv Ac p2 cc))] (by kernel_rfl) ?_
 refine WL.done rfl (WX.next (WC.seq (WC.seq (WC.region ?_))))
 refine sg 1 [] [0, 1, 2, 7] [(0, (sv Aa p0 ca)), (1, (sv Ab p1 cb)), (2, (sv Ac p2 cc)), (7, (iv 0))] (by kernel_rfl) ?_
 refine WL.done rfl (WX.next ?_)
 obtain ⟨x4, hx5, hf⟩ := bind_some hf
 let e3 : List Own := [rowR enc_Piece Aa ca p0, rowR encInt Ab cb p1, rowR encInt Ac cc p2]
 let e4 : Nat × Value := (0, (sv Aa p0 ca))
 let e5 : Nat × Value := (1, (sv Ab p1 cb))
 let e6 : Nat × Value := (2, (sv Ac p2 cc))
 let e9 : List Nat := [0, 1, 2, 7, 8, 9]
 refine WC.cutN (T := Unit) (fun t => []) (fun t w1 => St NoS w w1 e3 [] ∧ x4 = .inr t) (fun Kx4 => ?_) ?_
 ·
  refine WC.block ?_
  refine WC.loop (T := Int) (fun t => [e4, e5, e6, (7, (iv t))]) (fun n t w1 => St NoS w w1 e3 [] ∧ ref07_rises.l0 n t p0 p1 p2 = some x4) k 0 [0, 1, 2, 7] rfl ⟨(hS.subR [0, 1, 2]).sub [] (by decide), hx5⟩ ?_
  rintro k6 x3 w8 ⟨hS9, hl10⟩
  let e2 := (rdD p0 x3 z_Piece).Factor
  let e7 : Nat × Value := (7, (iv x3))
  cases k6 with
  | zero => rw [ref07_rises.l0] at hl10; cases hl10
  | succ k6 =>
   rw [ref07_rises.l0] at hl10
   refine WC.seq (WC.seq (WC.region ?_))
   refine sg 4 [] [0, 1, 2, 7, 13] [e4, e5, e6, e7, (13, (bv (decide (x3 < (p0.length : Int)))))] (by kernel_rfl) ?_
   refine WL.done rfl (WX.next ?_)
   rcases br_some hl10 with ⟨h11, hl10⟩ | ⟨h11, hl10⟩
   ·refine WC.condT2 (fun fb => by kernel_rfl) h11 ?_
    refine WC.skip (WX.next (WC.seq (WC.block (WC.seq (WC.region ?_)))))
    refine sg 1 [] [0, 1, 2, 7, 8] [e4, e5, e6, e7, (8, (iv 0))] (by kernel_rfl) ?_
    refine WL.done rfl (WX.next (WC.seq (WC.seq (WC.region ?_))))
    refine sg 1 [] e9 [e4, e5, e6, e7, (8, (iv 0)), (9, (iv 0))] (by kernel_rfl) ?_
    refine WL.done rfl (WX.next ?_)
    obtain ⟨x14, hx15, hl10⟩ := bind_some hl10
    refine WC.cutN (T := Int) (fun t => [e4, e5, e6, e7, (8, (iv t))]) (fun t w1 => St NoS w w1 e3 [] ∧ x14 = t) (fun Kx14 => ?_) ?_
    ·
     refine WC.block ?_
     refine WC.loop (T := Int × Int) (fun t => [e4, e5, e6, e7, (8, (iv t.1)), (9, (iv t.2))]) (fun n t w1 => St NoS w w1 e3 [] ∧ ref07_rises.l1 n t.1 t.2 p0 p1 p2 x3 = some x14) k6 (0, 0) e9 rfl ⟨(hS9.subR [0, 1, 2]).sub [] (by decide), hx15⟩ ?_
     rintro k16 ⟨x12, x13⟩ w17 ⟨hS18, hl19⟩
     let e1 : List (Nat × Addr × Value) := [(4, ((adr Ac).add ((x13).toNat * 1)), (iv (rdD p2 x13 0))), (10, ((adr Aa).add ((x3).toNat * 6)), (iv (e2.Num))), (14, ((adr Ab).add ((x13).toNat * 1)), (iv (rdD p1 x13 0))), (21, (((adr Aa).add ((x3).toNat * 6)).add 1), (iv (e2.Den))), (25, ((adr Ab).add ((x13).toNat * 1)), (iv (rdD p1 x13 0)))]
     let e8 := iv (rdD p1 x13 0)
     cases k16 with
     | zero => rw [ref07_rises.l1] at hl19; cases hl19
     | succ k16 =>
      rw [ref07_rises.l1] at hl19
      refine WC.seq (WC.seq (WC.region ?_))
      refine sg 4 [] [0, 1, 2, 7, 8, 9, 19] [e4, e5, e6, e7, (8, (iv x12)), (9, (iv x13)), (19, (bv (decide (x13 < (p1.length : Int)))))] (by kernel_rfl) ?_
      refine WL.done rfl (WX.next ?_)
      rcases br_some hl19 with ⟨h20, hl19⟩ | ⟨h20, hl19⟩
      ·refine WC.condT2 (fun fb => by kernel_rfl) h20 ?_
       refine WC.skip (WX.next (WC.seq (WC.block ?_)))
       obtain ⟨h23, hl19⟩ := as_some hl19
       obtain ⟨h24, hl19⟩ := as_some hl19
       obtain ⟨h25, hl19⟩ := as_some hl19
       refine WC.regionD (e1, [0, 1, 2, 3, 4, 5, 6, 7, 8, 9, 10, 11, 12, 13, 14, 16, 17, 18, 19, 20, 21, 22, 23, 24, 25, 27, 28, 29, 30], [[], [], [], [1, 2], [1, 2, 3], [], [], [5, 6], [5, 6, 7], [5, 6, 7, 8], [5, 6, 7, 8, 9], [], [], [11, 12], [11, 12, 13], [5, 6, 7, 8, 9, 10, 11, 12, 13, 14], [], [], [16, 17], [16, 17, 18], [16, 17, 18, 19], [16, 17, 18, 19, 20], [], [], [22, 23], [22, 23, 24], [5, 6, 7, 8, 9, 10, 11, 12, 13, 14, 15, 16, 17, 18, 19, 20, 21, 22, 23, 24, 25], [5, 6, 7, 8, 9, 10, 11, 12, 13, 14, 15, 16, 17, 18, 19, 20, 21, 22, 23, 24, 25, 26], [1, 2, 3, 4, 5, 6, 7, 8, 9, 10, 11, 12, 13, 14, 15, 16, 17, 18, 19, 20, 21, 22, 23, 24, 25, 26, 27], [0, 1, 2, 3, 4, 5, 6, 7, 8, 9, 10, 11, 12, 13, 14, 15, 16, 17, 18, 19, 20, 21, 22, 23, 24, 25, 26, 27, 28], [0, 1, 2, 3, 4, 5, 6, 7, 8, 9, 10, 11, 12, 13, 14, 15, 16, 17, 18, 19, 20, 21, 22, 23, 24, 25, 26, 27, 28, 29]]) [[0, 1, 2, 3, 4, 5, 6, 7, 8, 9, 10, 11, 12, 13, 14, 16, 17, 18, 19, 20, 21, 22, 23, 24, 25, 15, 26, 27, 28, 29, 30]] (by kernel_rfl) (by kernel_rfl) (NoPanic.block (NoPanic.seq (NoPanic.seq (NoPanic.block (NoPanic.seq (NoPanic.block (NoPanic.seq (NoPanic.seq (NoPanic.block (NoPanic.seq (NoPanic.body))))))))))) ?_
       have hS22 := hS18.drew
       revert hS22
       generalize World.drew w17 = w21
       intro hS22
       refine ⟨⟨rowR.cell (hS22.rd 2).1 0 h23.1 h23.2 0 rfl, rowR.cell (hS22.rd 0).1 z_Piece h24.1 h24.2 0 rfl, rowR.cell (hS22.rd 1).1 0 h25.1 h25.2 0 rfl, rowR.cell (hS22.rd 0).1 z_Piece h24.1 h24.2 1 rfl, rowR.cell (hS22.rd 1).1 0 h25.1 h25.2 0 rfl, trivial⟩, forallC ?_ (forallN)⟩
       refine segF 25 [.v (iv (rdD p2 x13 0)), .v (iv (e2.Num)), .v e8, .v (iv (e2.Den)), .v e8] [0, 1, 2, 7, 9, 22, 26, 32, 36, 43, 47] [e4, e5, e6, e7, (9, (iv x13)), (22, (iv x12)), (26, (iv (rdD p2 x13 0))), (32, (iv (e2.Num))), (36, e8), (43, (iv (e2.Den))), (47, e8)] [.idx Ac x13 p2.length, .idx Aa x3 p0.length, .idx Ab x13 p1.length, .idx Aa x3 p0.length, .idx Ab x13 p1.length] [0, 1, 2, 3, 4] e1 (fun fb => by kernel_rfl) rfl ⟨rowR.adr (hS22.rd 2).1 h23.1 h23.2, rowR.adr (hS22.rd 0).1 h24.1 h24.2, rowR.adr (hS22.rd 1).1 h25.1 h25.2, rowR.adr (hS22.rd 0).1 h24.1 h24.2, rowR.adr (hS22.rd 1).1 h25.1 h25.2, trivial⟩ rfl ?_
       obtain ⟨t26, ht27, hl19⟩ := bind_some hl19
       refine WL.call (some 37) 99 #[(iv (e2.Num)), e8] (fun fb => by kernel_rfl) (ref07_exponent_calls _ (e2.Num) (rdD p1 x13 0) t26 _ ht27) (fun v w28 hR29 => ?_)
       obtain ⟨rfl, hk_⟩ := hR29
       have hS30 := hS22.keepN hk_
       refine ⟨⟨rowR.cell (hS30.rd 2).1 0 h23.1 h23.2 0 rfl, rowR.cell (hS30.rd 0).1 z_Piece h24.1 h24.2 1 rfl, rowR.cell (hS30.rd 1).1 0 h25.1 h25.2 0 rfl, trivial⟩, ?_⟩
       obtain ⟨t31, ht32, hl19⟩ := bind_some hl19
       refine WL.call (some 48) 99 #[(iv (e2.Den)), e8] (fun fb => by kernel_rfl) (ref07_exponent_calls _ (e2.Den) (rdD p1 x13 0) t31 _ ht32) (fun v w33 hR34 => ?_)
       obtain ⟨rfl, hk_⟩ := hR34
       have hS35 := hS30.keepN hk_
       refine ⟨⟨rowR.cell (hS35.rd 2).1 0 h23.1 h23.2 0 rfl, trivial⟩, ?_⟩
       refine sg 31 [] e9 [e4, e5, e6, e7, (8, (iv (w64 (x12 + (w64 ((rdD p2 x13 0) * (w64 (t26 - t31)))))))), (9, (iv x13))] (by kernel_rfl) ?_
       refine WL.done rfl ?_
       refine WX.blockN (WX.next ?_)
       refine WC.region ?_
       refine sg 3 [] e9 [e4, e5, e6, e7, (8, (iv (w64 (x12 + (w64 ((rdD p2 x13 0) * (w64 (t26 - t31)))))))), (9, (iv (w64 (x13 + 1))))] (by kernel_rfl) ?_
       refine WL.done rfl ?_
       exact WX.again k16 (Nat.lt_succ_self _) (w64 (x12 + (w64 ((rdD p2 x13 0) * (w64 (t26 - t31))))), w64 (x13 + 1)) e9 rfl ⟨(hS35.subR [0, 1, 2]).sub [] (by decide), hl19⟩
      refine WC.condF2 (fun fb => by kernel_rfl) h20 ?_
      refine WC.exit ?_
      injection hl19 with hl19
      exact WX.thenX (WX.thenX (WX.blockHere (WX.to Kx14 x12 [0, 1, 2, 7, 8] rfl ⟨(hS18.subR [0, 1, 2]).sub [] (by decide), hl19.symm⟩)))
    rintro y39 w36 ⟨hS37, hq38⟩
    subst hq38
    refine WX.next (WC.seq (WC.region ?_))
    refine sg 2 [] [0, 1, 2, 7, 53] [e4, e5, e6, e7, (53, (bv (decide (x14 ≤ 0))))] (by kernel_rfl) ?_
    refine WL.done rfl (WX.next ?_)
    rcases br_some hl10 with ⟨h40, hl10⟩ | ⟨h40, hl10⟩
    ·refine WC.condT2 (fun fb => by kernel_rfl) h40 ?_
     refine WC.seq (WC.region ?_)
     refine sg 1 [] [6] [(6, (bv false))] (by kernel_rfl) ?_
     refine WL.done rfl (WX.next ?_)
     refine WC.ret ?_
     injection hl10 with hl10
     subst hl10
     injection hf with hf
     subst hf
     exact WX.blockR (WX.thenR (WX.thenR (WX.blockR (WX.thenR (WX.ret_ [] (bv false) [] (fun fb => by kernel_rfl) trivial ⟨_, rfl, rfl, hS37.keep⟩)))))
    refine WC.condF2 (fun fb => by kernel_rfl) h40 ?_
    refine WC.skip ?_
    refine WX.blockN (WX.next ?_)
    refine WC.region ?_
    refine sg 3 [] [0, 1, 2, 7] [e4, e5, e6, (7, (iv (w64 (x3 + 1))))] (by kernel_rfl) ?_
    refine WL.done rfl ?_
    exact WX.again k6 (Nat.lt_succ_self _) (w64 (x3 + 1)) [0, 1, 2, 7] rfl ⟨(hS37.subR [0, 1, 2]).sub [] (by decide), hl10⟩
   refine WC.condF2 (fun fb => by kernel_rfl) h11 ?_
   refine WC.exit ?_
   injection hl10 with hl10
   exact WX.thenX (WX.thenX (WX.blockHere (WX.to Kx4 () [] rfl ⟨(hS9.subR [0, 1, 2]).sub [] (by decide), hl10.symm⟩)))
 rintro y44 w41 ⟨hS42, hq43⟩
 subst hq43
 have hf := sum_inr hf
 refine WX.next (WC.seq (WC.region ?_))
 refine sg 1 [] [6] [(6, (bv true))] (by kernel_rfl) ?_
 refine WL.done rfl (WX.next ?_)
 refine WC.ret ?_
 injection hf with hf
 subst hf
 exact WX.ret_ [] (bv true) [] (fun fb => by kernel_rfl) trivial ⟨_, rfl, rfl, hS42.keep⟩
theorem ref07_logs_calls : ∀ (k : Nat) (p0 : List Piece) (p1 : List Int) (p2 : List Int) (Aa : Option Addr) (ca : Nat) (Ab : Option Addr) (cb : Nat) (Ac : Option Addr) (cc : Nat) (r : (List Int) × Bool) (w : World) (hR0 : RO (fpL [rowO 3 encInt Ac cc p2]) w (rowR enc_Piece Aa ca p0)) (hR1 : RO (fpL [rowO 3 encInt Ac cc p2]) w (rowR encInt Ab cb p1)) (hI : IoOK w [rowO 3 encInt Ac cc p2]) (hf : ref07_logs k p0 p1 p2 = some r),
  CallsR Tryz.prog 51 #[(sv Aa p0 ca), (sv Ab p1 cb), (sv Ac p2 cc)] w (fun v w' => ∃ (A1_ : Option Addr), ∃ (c1_ : Nat), v = (.tuple #[(sv A1_ r.1 c1_), (bv r.2)]) ∧ St (fpL [rowO 3 encInt Ac cc p2]) w w' [] [rowO 3 encInt A1_ c1_ r.1]) := by
 intro k
 induction k with
 | zero => intro p0 p1 p2 Aa ca Ab cb Ac cc r w hR0 hR1 hI hf; rw [ref07_logs] at hf; cases hf
 | succ k ih_ =>
 intro p0 p1 p2 Aa ca Ab cb Ac cc r w hR0 hR1 hI hf
 have hS : St (fpL [rowO 3 encInt Ac cc p2]) w w [rowR enc_Piece Aa ca p0, rowR encInt Ab cb p1] [rowO 3 encInt Ac cc p2] := St.initIO (ro_cons hR0 (ro_cons hR1 (ro_nil _ _))) hI
 rw [ref07_logs] at hf
 generalize ref07_logs k = rc_ at hf ih_
 refine enter 39 Tryz.func51 rfl Tryz.ntmps51 rfl ?_
 refine WC.seq (WC.region ?_)
 refine sg 2 [] [0, 1, 2] [(0, (sv Aa p0 ca)), (1, (sv Ab p1 cb)), (2, (sv Ac p2 cc))] (by kernel_rfl) ?_
 refine WL.done rfl (WX.next (WC.seq (WC.seq (WC.region ?_))))
 refine sg 5 [] [0, 1, 2, 15] [(0, (sv Aa p0 ca)), (1, (sv Ab p1 cb)), (2, (sv Ac p2 cc)), (15, (bv ((p2.length : Int) == (p1.length : Int))))] (by kernel_rfl) ?_
 refine WL.done rfl (WX.next ?_)
 rcases br_some hf with ⟨h3, hf⟩ | ⟨h3, hf⟩
 ·refine WC.condT2 (fun fb => by kernel_rfl) h3 ?_
  refine WC.seq (WC.region ?_)
  refine sg 4 [] [16, 17, 18, 19] [(16, (sv Ac p2 cc)), (17, (sv Aa p0 ca)), (18, (sv Ab p1 cb)), (19, (sv Ac p2 cc))] (by kernel_rfl) ?_
  obtain ⟨t4, ht5, hf⟩ := bind_some hf
  refine WL.call (some 20) 79 #[(sv Aa p0 ca), (sv Ab p1 cb), (sv Ac p2 cc)] (fun fb => by kernel_rfl) (ref07_rises_calls _ p0 p1 p2 Aa ca Ab cb Ac cc t4 _ (hS.rd 0) (hS.rd 1) (hS.ow 0).ofO ht5) (fun v w6 hR8 => ?_)
  obtain ⟨rfl, hk_⟩ := hR8
  have hS9 := hS.keepN hk_
  refine ⟨trivial, ?_⟩
  refine sg 7 [] [6, 7] [(6, (sv Ac p2 cc)), (7, (bv t4))] (by kernel_rfl) ?_
  refine WL.done rfl (WX.next ?_)
  refine WC.ret ?_
  injection hf with hf
  subst hf
  exact WX.thenR (WX.ret_ [] (.tuple #[(sv Ac p2 cc), (bv t4)]) [] (fun fb => by kernel_rfl) trivial ⟨_, rfl, Ac, cc, rfl, (hS9.sub [0] (by decide)).noR⟩)
 refine WC.condF2 (fun fb => by kernel_rfl) h3 ?_
 refine WC.skip (WX.next (WC.seq (WC.seq (WC.region ?_))))
 refine sg 1 [] [0, 1, 2, 8] [(0, (sv Aa p0 ca)), (1, (sv Ab p1 cb)), (2, (sv Ac p2 cc)), (8, (iv (-3)))] (by kernel_rfl) ?_
 refine WL.done rfl (WX.next ?_)
 obtain ⟨x11, hx12, hf⟩ := bind_some hf
 let e1 := sv Aa p0 ca
 let e2 := sv Ab p1 cb
 let e3 : Nat × Value := (2, (sv Ac p2 cc))
 let e4 := ([] : List Int)
 refine WC.cutN (T := Unit) (fun t => []) (fun t w1 => St (fpL [rowO 3 encInt Ac cc p2]) w w1 [rowR enc_Piece Aa ca p0, rowR encInt Ab cb p1] [] ∧ x11 = .inr t) (fun Kx11 => ?_) ?_
 ·
  refine WC.block ?_
  refine WC.loop (T := Int) (fun t => [(0, e1), (1, e2), e3, (8, (iv t))]) (fun n t w1 => St (fpL [rowO 3 encInt Ac cc p2]) w w1 [rowR enc_Piece Aa ca p0, rowR encInt Ab cb p1] [rowO 3 encInt Ac cc p2] ∧ ref07_logs.l0 n t p0 p1 p2 rc_ = some x11) k (-3) [0, 1, 2, 8] rfl ⟨(hS.subR [0, 1]).sub [0] (by decide), hx12⟩ ?_
  rintro k13 x10 w14 ⟨hS15, hl16⟩
  cases k13 with
  | zero => rw [ref07_logs.l0] at hl16; cases hl16
  | succ k13 =>
   rw [ref07_logs.l0] at hl16
   refine WC.seq (WC.seq (WC.region ?_))
   refine sg 2 [] [0, 1, 2, 8, 22] [(0, e1), (1, e2), e3, (8, (iv x10)), (22, (bv (decide (x10 ≤ 3))))] (by kernel_rfl) ?_
   refine WL.done rfl (WX.next ?_)
   rcases br_some hl16 with ⟨h17, hl16⟩ | ⟨h17, hl16⟩
   ·refine WC.condT2 (fun fb => by kernel_rfl) h17 ?_
    refine WC.skip (WX.next (WC.seq (WC.block (WC.seq (WC.region ?_)))))
    refine sg 2 [] [0, 1, 2, 8, 26, 27] [(0, e1), (1, e2), e3, (8, (iv x10)), (26, e1), (27, e2)] (by kernel_rfl) ?_
    refine WL.new hS15 28 [] (fun g => (.slice (some ⟨g, 0, none⟩) 0 0)) (.cells #[] 3 (0, 0)) [] (fun fb g => by kernel_rfl) trivial (fun g18 w19 hS20 => ?_)
    refine ⟨trivial, ?_⟩
    have hS21 := hS.go w19 [rowO 3 encInt (some ⟨g18, 0, none⟩) 0 e4, rowO 3 encInt Ac cc p2] (hS20.map1 0 _ (fun h => rowO.ofBlk h rfl (Nat.le_of_ble_eq_true (by kernel_rfl))) (fun _ h => by obtain ⟨_, h1, h2⟩ := h; injection h1 with h1; subst h1; exact h2) [1] (by decide) (by decide))
    refine sg 4 [] [0, 1, 2, 8, 26, 27, 28, 29] [(0, e1), (1, e2), e3, (8, (iv x10)), (26, e1), (27, e2), (28, (sv (some ⟨g18, 0, none⟩) e4 0)), (29, (sv Ac p2 cc))] (by kernel_rfl) ?_
    obtain ⟨h22, hl16⟩ := as_some hl16
    refine WL.append hS21 0 (d := 30) (tS := 35) (z := (iv 0)) (bytes := 8) (c2 := cc) rfl (fun fb => by kernel_rfl) (rowO.rd (hS21.own 1).1) (by kernel_rfl) (by kernel_rfl) rfl (by decide) h22 (by decide) [1] (by decide) (by decide) (fun A23 c24 w25 hS26 => ?_)
    refine ⟨trivial, ?_⟩
    refine sg 6 [] [0, 1, 2, 8, 26, 27, 30, 31] [(0, e1), (1, e2), e3, (8, (iv x10)), (26, e1), (27, e2), (30, (sv A23 (e4 ++ p2) c24)), (31, (iv x10))] (by kernel_rfl) ?_
    refine WL.new hS26 32 [] (fun g => (.slice (some ⟨g, 0, none⟩) 1 1)) (.cells #[(iv x10)] 3 (0, 0)) [] (fun fb g => by kernel_rfl) trivial (fun g27 w28 hS29 => ?_)
    refine ⟨trivial, ?_⟩
    have hS30 := hS21.go w28 [rowO 3 encInt (some ⟨g27, 0, none⟩) 1 [x10], rowO 3 encInt A23 c24 (e4 ++ p2), rowO 3 encInt Ac cc p2] (hS29.map1 0 _ (fun h => rowO.ofBlk h rfl (Nat.le_of_ble_eq_true (by kernel_rfl))) (fun _ h => by obtain ⟨_, h1, h2⟩ := h; injection h1 with h1; subst h1; exact h2) [1, 2] (by decide) (by decide))
    obtain ⟨h31, hl16⟩ := as_some hl16
    refine WL.append hS30 1 (d := 33) (tS := 35) (z := (iv 0)) (bytes := 8) (c2 := 1) rfl (fun fb => by kernel_rfl) (rowO.rd (hS30.own 0).1) (by kernel_rfl) (by kernel_rfl) rfl (by decide) h31 (by decide) [0, 2] (by decide) (by decide) (fun A32 c33 w34 hS35 => ?_)
    refine ⟨trivial, ?_⟩
    obtain ⟨t36, ht37, hl16⟩ := bind_some hl16
    refine WL.call (some 34) 51 #[e1, e2, (sv A32 ((e4 ++ p2) ++ [x10]) c33)] (fun fb => by kernel_rfl) (ih_ p0 p1 ((e4 ++ p2) ++ [x10]) Aa ca Ab cb A32 c33 t36 _ (hS35.rdT [0] 0) (hS35.rdT [0] 1) (hS35.io [0] (by decide)) ht37) (fun v w38 hR39 => ?_)
    obtain ⟨A41, c42, rfl, hk_⟩ := hR39
    have hS40 := hS30.go w38 [rowO 3 encInt A41 c42 t36.1, rowO 3 encInt (some ⟨g27, 0, none⟩) 1 [x10], rowO 3 encInt Ac cc p2] (hS35.call hk_ [0] [1, 2] (fun g hg => fpL_sel g hg) (by decide) (by decide))
    refine ⟨trivial, ?_⟩
    refine sg 14 [] [0, 1, 2, 8, 9, 10] [(0, e1), (1, e2), e3, (8, (iv x10)), (9, (sv A41 t36.1 c42)), (10, (bv t36.2))] (by kernel_rfl) ?_
    refine WL.done rfl (WX.next (WC.seq (WC.region ?_)))
    refine sg 1 [] [0, 1, 2, 8, 9, 37] [(0, e1), (1, e2), e3, (8, (iv x10)), (9, (sv A41 t36.1 c42)), (37, (bv t36.2))] (by kernel_rfl) ?_
    refine WL.done rfl (WX.next ?_)
    rcases br_some hl16 with ⟨h43, hl16⟩ | ⟨h43, hl16⟩
    ·refine WC.condT2 (fun fb => by kernel_rfl) h43 ?_
     refine WC.seq (WC.region ?_)
     refine sg 3 [] [6, 7] [(6, (sv A41 t36.1 c42)), (7, (bv true))] (by kernel_rfl) ?_
     refine WL.done rfl (WX.next ?_)
     refine WC.ret ?_
     injection hl16 with hl16
     subst hl16
     injection hf with hf
     subst hf
     exact WX.blockR (WX.thenR (WX.thenR (WX.blockR (WX.thenR (WX.ret_ [] (.tuple #[(sv A41 t36.1 c42), (bv true)]) [] (fun fb => by kernel_rfl) trivial ⟨_, rfl, A41, c42, rfl, (hS40.sub [0] (by decide)).noR⟩)))))
    refine WC.condF2 (fun fb => by kernel_rfl) h43 ?_
    refine WC.skip ?_
    refine WX.blockN (WX.next ?_)
    refine WC.region ?_
    refine sg 3 [] [0, 1, 2, 8] [(0, e1), (1, e2), e3, (8, (iv (w64 (x10 + 1))))] (by kernel_rfl) ?_
    refine WL.done rfl ?_
    exact WX.again k13 (Nat.lt_succ_self _) (w64 (x10 + 1)) [0, 1, 2, 8] rfl ⟨(hS40.subR [0, 1]).sub [2] (by decide), hl16⟩
   refine WC.condF2 (fun fb => by kernel_rfl) h17 ?_
   refine WC.exit ?_
   injection hl16 with hl16
   exact WX.thenX (WX.thenX (WX.blockHere (WX.to Kx11 () [] rfl ⟨(hS15.subR [0, 1]).sub [] (by decide), hl16.symm⟩)))
 rintro y47 w44 ⟨hS45, hq46⟩
 subst hq46
 have hf := sum_inr hf
 refine WX.next (WC.seq (WC.region ?_))
 refine sg 2 [] [6, 7] [(6, (.slice none 0 0)), (7, (bv false))] (by kernel_rfl) ?_
 refine WL.done rfl (WX.next ?_)
 refine WC.ret ?_
 have hS48 := hS45.nilrow 3 encInt
 injection hf with hf
 subst hf
 exact WX.ret_ [] (.tuple #[(sv none e4 0), (bv false)]) [] (fun fb => by kernel_rfl) trivial ⟨_, rfl, none, 0, rfl, (hS48.sub [0] (by decide)).noR⟩
theorem ref07_lowest_calls (k : Nat) (p0 : Int) (p1 : Int)  (r : Frac) (w : World)  (hf : ref07_lowest k p0 p1 = some r) :
  CallsR Tryz.prog 52 #[(iv p0), (iv p1)] w (fun v w' => v = (.agg #[(iv r.Num), (iv r.Den)]) ∧ Keeps NoS w w') := by
 have hS : St NoS w w [] [] := St.init (ro_nil _ _)
 refine enter 25 Tryz.func52 rfl Tryz.ntmps52 rfl ?_
 unfold ref07_lowest at hf
 refine WC.seq (WC.region ?_)
 refine WL.new hS 4 [] (fun g => (pt g)) (.cells #[(iv 0), (iv 0)] 44 (0, 0)) [] (fun fb g => by kernel_rfl) trivial (fun g3 w4 hS5 => ?_)
 refine ⟨trivial, ?_⟩
 refine WL.done rfl (WX.next (WC.seq (WC.region ?_)))
 refine sg 2 [] [0, 1, 4, 5] [(0, (iv p0)), (1, (iv p1)), (4, (pt g3)), (5, (iv p0))] (by kernel_rfl) ?_
 refine WL.done rfl (WX.next (WC.seq (WC.seq (WC.region ?_))))
 refine sg 2 [] [0, 1, 4, 5, 9] [(0, (iv p0)), (1, (iv p1)), (4, (pt g3)), (5, (iv p0)), (9, (bv (decide (p0 < 0))))] (by kernel_rfl) ?_
 refine WL.done rfl (WX.next ?_)
 obtain ⟨x6, hx8, hf⟩ := bind_some hf
 refine WC.cutN (T := Int) (fun t => [(0, (iv p0)), (1, (iv p1)), (4, (pt g3)), (5, (iv t))]) (fun t w1 => St NoS w w1 [] [blk g3 (.cells #[(iv 0), (iv 0)] 44 (0, 0))] ∧ x6 = t) (fun Kx6 => ?_) ?_
 ·
  rcases br_some hx8 with ⟨h9, hx8⟩ | ⟨h9, hx8⟩
  ·refine WC.condT2 (fun fb => by kernel_rfl) h9 ?_
   refine WC.region ?_
   refine sg 3 [] [0, 1, 4, 5] [(0, (iv p0)), (1, (iv p1)), (4, (pt g3)), (5, (iv (w64 (0 - p0))))] (by kernel_rfl) ?_
   refine WL.done rfl ?_
   injection hx8 with hx8
   exact WX.to Kx6 (w64 (0 - p0)) [0, 1, 4, 5] rfl ⟨(hS5.subR []).sub [0] (by decide), hx8.symm⟩
  refine WC.condF2 (fun fb => by kernel_rfl) h9 ?_
  refine WC.skip ?_
  injection hx8 with hx8
  exact WX.to Kx6 p0 [0, 1, 4, 5] rfl ⟨(hS5.subR []).sub [0] (by decide), hx8.symm⟩
 rintro y13 w10 ⟨hS11, hq12⟩
 subst hq12
 refine WX.next (WC.seq (WC.region ?_))
 refine sg 4 [] [0, 1, 4, 13, 15] [(0, (iv p0)), (1, (iv p1)), (4, (pt g3)), (13, (.int .u64 (IntKind.wrap .u64 (x6)))), (15, (.int .u64 (IntKind.wrap .u64 (p1))))] (by kernel_rfl) ?_
 obtain ⟨t14, ht15, hf⟩ := bind_some hf
 refine WL.call (some 16) 59 #[(.int .u64 (IntKind.wrap .u64 (x6))), (.int .u64 (IntKind.wrap .u64 (p1)))] (fun fb => by kernel_rfl) (ref07_gcd_calls _ (IntKind.wrap .u64 (x6)) (IntKind.wrap .u64 (p1)) t14 _ ht15) (fun v w16 hR17 => ?_)
 obtain ⟨rfl, hk_⟩ := hR17
 have hS18 := hS11.keepN hk_
 refine ⟨trivial, ?_⟩
 refine sg 7 [] [0, 1, 4, 6] [(0, (iv p0)), (1, (iv p1)), (4, (pt g3)), (6, (iv (w64 (t14))))] (by kernel_rfl) ?_
 refine WL.done rfl (WX.next (WC.seq ?_))
 obtain ⟨h21, hf⟩ := as_some hf
 refine WC.regionD ([], [0, 1, 2, 3, 4, 5, 6], [[], [], [0, 1], [], [], [3, 4], [0, 1, 2, 3, 4, 5], [0, 1, 2, 3, 4, 5, 6]]) [[0, 1, 2, 3, 4, 5, 6, 7]] (by kernel_rfl) (by kernel_rfl) (NoPanic.seq (NoPanic.body)) ?_
 have hS20 := hS18.drew
 revert hS20
 generalize World.drew w16 = w19
 intro hS20
 refine ⟨trivial, forallC ?_ (forallN)⟩
 refine seg 7 [] [4, 24] [(4, (pt g3)), (24, (.agg #[(iv (w64 (Int.tdiv p0 (w64 (t14))))), (iv (w64 (Int.tdiv p1 (w64 (t14)))))]))] [.ne (w64 (t14)), .ne (w64 (t14))] (fun fb => by kernel_rfl) rfl ⟨h21, h21, trivial⟩ ?_
 refine WL.store hS20 0 rfl [(0, (iv (w64 (Int.tdiv p0 (w64 (t14)))))), (1, (iv (w64 (Int.tdiv p1 (w64 (t14))))))] #[(iv (w64 (Int.tdiv p0 (w64 (t14))))), (iv (w64 (Int.tdiv p1 (w64 (t14)))))] (fun fb => by kernel_rfl) (by kernel_rfl) rfl [] (by decide) (by decide) (fun w22 hS23 => ?_)
 refine ⟨trivial, ?_⟩
 refine WL.done rfl (WX.next ?_)
 refine WC.ret ?_
 injection hf with hf
 subst hf
 let e1 := iv (w64 (Int.tdiv p0 (w64 (t14))))
 let e2 := iv (w64 (Int.tdiv p1 (w64 (t14))))
 exact WX.ret_ [.v e1, .v e2] (.agg #[e1, e2]) [.cell ⟨g3, 0, none⟩ e1, .cell ⟨g3, 1, none⟩ e2] (fun fb => by kernel_rfl) ⟨hS23.cell 0 rfl 0 rfl, hS23.cell 0 rfl 1 rfl, trivial⟩ ⟨_, rfl, rfl, hS23.keep⟩
end Gp
