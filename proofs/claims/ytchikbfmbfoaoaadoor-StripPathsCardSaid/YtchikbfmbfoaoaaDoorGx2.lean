/- Walks: each function of the program computes its plain function. -/
import Derived.Test.YtchikbfmbfoaoaaDoorGx1
set_option linter.unusedVariables false
set_option linter.unusedSimpArgs false
set_option maxHeartbeats 4000000
set_option maxRecDepth 8000
namespace Gp
open Go Gw Go.Proofs
theorem ref01_Valid_calls (k : Nat) (p0 : List Tile) (Aa : Option Addr) (ca : Nat) (r : Bool) (w : World) (hR0 : RO NoS w (rowR enc_Tile Aa ca p0)) (hf : ref01_Valid k p0 = some r) :
  CallsR Tryd.prog 8 #[(sv Aa p0 ca)] w (fun v w' => v = (bv r) ∧ Keeps NoS w w') := by
 have hS : St NoS w w [rowR enc_Tile Aa ca p0] [] := St.init (ro_cons hR0 (ro_nil _ _))
 refine enter 48 Tryd.func8 rfl Tryd.ntmps8 rfl ?_
 unfold ref01_Valid at hf
 refine WC.seq (WC.region ?_)
 refine seg 1 [] [0] [(0, (sv Aa p0 ca))] [] (fun fb => by kernel_rfl) rfl trivial ?_
 refine WL.done rfl (WX.next (WC.seq (WC.seq (WC.region ?_))))
 refine seg 3 [] [0, 7] [(0, (sv Aa p0 ca)), (7, (bv (decide ((p0.length : Int) > 1000))))] [] (fun fb => by kernel_rfl) rfl trivial ?_
 refine WL.done rfl (WX.next ?_)
 rcases br_some hf with ⟨h3, hf⟩ | ⟨h3, hf⟩
 ·refine WC.condT2 (fun fb => by kernel_rfl) h3 ?_
  refine WC.seq (WC.region ?_)
  refine seg 1 [] [2] [(2, (bv false))] [] (fun fb => by kernel_rfl) rfl trivial ?_
  refine WL.done rfl (WX.next ?_)
  refine WC.ret ?_
  injection hf with hf
  subst hf
  exact WX.thenR (WX.ret_ [] (bv false) [] (fun fb => by kernel_rfl) trivial ⟨_, rfl, rfl, hS.keep⟩)
 refine WC.condF2 (fun fb => by kernel_rfl) h3 ?_
 refine WC.skip (WX.next (WC.seq (WC.seq (WC.region ?_))))
 refine seg 1 [] [0, 3] [(0, (sv Aa p0 ca)), (3, (iv 0))] [] (fun fb => by kernel_rfl) rfl trivial ?_
 refine WL.done rfl (WX.next ?_)
 obtain ⟨x5, hx6, hf⟩ := bind_some hf
 let e2 : Nat × Value := (0, (sv Aa p0 ca))
 let e5 : List Nat := [0, 1, 2, 3, 4, 5, 6, 7, 8, 9, 10, 11, 12, 13, 14, 15, 16, 17, 18, 19, 20, 21, 22]
 let e6 : List Own := [rowR enc_Tile Aa ca p0]
 let e8 := (subA Aa ca (0 : Int).toNat 4)
 let e13 := (ca - (0 : Int).toNat)
 refine WC.cutN (T := Unit) (fun t => []) (fun t w1 => St NoS w w1 e6 [] ∧ x5 = .inr t) (fun Kx5 => ?_) ?_
 ·
  refine WC.block ?_
  refine WC.loop (T := Int) (fun t => [e2, (3, (iv t))]) (fun n t w1 => St NoS w w1 e6 [] ∧ ref01_Valid.l0 n t p0 = some x5) k 0 [0, 3] rfl ⟨(hS.subR [0]).sub [] (by decide), hx6⟩ ?_
  rintro k7 x4 w9 ⟨hS10, hl11⟩
  let e1 := rdD p0 x4 z_Tile
  let e3 : Array Value := #[(iv (e1.N)), (iv (e1.E)), (iv (e1.S)), (iv (e1.W))]
  let e4 : Nat × Value := (3, (iv x4))
  let e7 := (adr Aa).add ((x4).toNat * 4)
  let e9 := iv (e1.N)
  let e10 := iv (e1.E)
  let e11 := iv (e1.S)
  let e12 := iv (e1.W)
  cases k7 with
  | zero => rw [ref01_Valid.l0] at hl11; cases hl11
  | succ k7 =>
   rw [ref01_Valid.l0] at hl11
   refine WC.seq (WC.seq (WC.region ?_))
   refine seg 4 [] [0, 3, 11] [e2, e4, (11, (bv (decide (x4 < (p0.length : Int)))))] [] (fun fb => by kernel_rfl) rfl trivial ?_
   refine WL.done rfl (WX.next ?_)
   rcases br_some hl11 with ⟨h12, hl11⟩ | ⟨h12, hl11⟩
   ·refine WC.condT2 (fun fb => by kernel_rfl) h12 ?_
    refine WC.skip (WX.next (WC.seq (WC.block (WC.seq (WC.region ?_)))))
    refine seg 2 [] [0, 3, 14, 15] [e2, e4, (14, (sv Aa p0 ca)), (15, (iv x4))] [] (fun fb => by kernel_rfl) rfl trivial ?_
    obtain ⟨h13, hl11⟩ := as_some hl11
    refine seg 4 [.v e9, .v e10, .v e11, .v e12] [0, 3, 17] [e2, e4, (17, (.agg e3))] [.idx Aa x4 p0.length, .cell e7 e9, .cell (e7.add 1) e10, .cell (e7.add 2) e11, .cell (e7.add 3) e12] (fun fb => by kernel_rfl) rfl ⟨rowR.adr (hS10.rd 0).1 h13.1 h13.2, rowR.cell (hS10.rd 0).1 z_Tile h13.1 h13.2 0 rfl, rowR.cell (hS10.rd 0).1 z_Tile h13.1 h13.2 1 rfl, rowR.cell (hS10.rd 0).1 z_Tile h13.1 h13.2 2 rfl, rowR.cell (hS10.rd 0).1 z_Tile h13.1 h13.2 3 rfl, trivial⟩ ?_
    refine WL.new hS10 4 [] (fun g => (pt g)) (.cells #[(iv 0), (iv 0), (iv 0), (iv 0)] 53 (0, 0)) [] (fun fb g => by kernel_rfl) trivial (fun g14 w15 hS16 => ?_)
    refine ⟨trivial, ?_⟩
    refine WL.store hS16 0 rfl [(0, e9), (1, e10), (2, e11), (3, e12)] e3 (fun fb => by kernel_rfl) (by kernel_rfl) rfl [] (by decide) (by decide) (fun w17 hS18 => ?_)
    refine ⟨trivial, ?_⟩
    refine WL.done rfl (WX.next (WC.seq ?_))
    refine WC.regionD ([(1, ⟨g14, 0, none⟩, e9), (6, ⟨g14, 1, none⟩, e10), (12, ⟨g14, 2, none⟩, e11), (18, ⟨g14, 3, none⟩, e12), (26, ⟨g14, 0, none⟩, e9), (26, ⟨g14, 1, none⟩, e10), (26, ⟨g14, 2, none⟩, e11), (26, ⟨g14, 3, none⟩, e12)], [0, 1, 3, 4, 5, 6, 8, 9, 10, 11, 12, 14, 15, 16, 17, 18, 20, 21, 22, 23, 24, 25, 26, 28, 29], [[], [0], [0, 1], [0, 1, 2], [0, 1, 2, 3], [0, 1, 2, 3, 4], [0, 1, 2, 3, 4, 5], [0, 1, 2, 3, 4, 5, 6], [0, 1, 2, 3, 4, 5, 6, 7], [0, 1, 2, 3, 4, 5, 6, 7, 8], [0, 1, 2, 3, 4, 5, 6, 7, 8, 9], [0, 1, 2, 3, 4, 5, 6, 7, 8, 9, 10], [0, 1, 2, 3, 4, 5, 6, 7, 8, 9, 10, 11], [0, 1, 2, 3, 4, 5, 6, 7, 8, 9, 10, 11, 12], [0, 1, 2, 3, 4, 5, 6, 7, 8, 9, 10, 11, 12, 13], [0, 1, 2, 3, 4, 5, 6, 7, 8, 9, 10, 11, 12, 13, 14], [0, 1, 2, 3, 4, 5, 6, 7, 8, 9, 10, 11, 12, 13, 14, 15], [0, 1, 2, 3, 4, 5, 6, 7, 8, 9, 10, 11, 12, 13, 14, 15, 16], [0, 1, 2, 3, 4, 5, 6, 7, 8, 9, 10, 11, 12, 13, 14, 15, 16, 17], [0, 1, 2, 3, 4, 5, 6, 7, 8, 9, 10, 11, 12, 13, 14, 15, 16, 17, 18], [0, 1, 2, 3, 4, 5, 6, 7, 8, 9, 10, 11, 12, 13, 14, 15, 16, 17, 18, 19], [0, 1, 2, 3, 4, 5, 6, 7, 8, 9, 10, 11, 12, 13, 14, 15, 16, 17, 18, 19, 20], [0, 1, 2, 3, 4, 5, 6, 7, 8, 9, 10, 11, 12, 13, 14, 15, 16, 17, 18, 19, 20, 21], e5, e5, [0, 1, 2, 3, 4, 5, 6, 7, 8, 9, 10, 11, 12, 13, 14, 15, 16, 17, 18, 19, 20, 21, 22, 23, 24], e5, [0, 1, 2, 3, 4, 5, 6, 7, 8, 9, 10, 11, 12, 13, 14, 15, 16, 17, 18, 19, 20, 21, 22, 23, 24, 25, 26], [0, 1, 2, 3, 4, 5, 6, 7, 8, 9, 10, 11, 12, 13, 14, 15, 16, 17, 18, 19, 20, 21, 22, 23, 24, 25, 26, 27], [0, 1, 2, 3, 4, 5, 6, 7, 8, 9, 10, 11, 12, 13, 14, 15, 16, 17, 18, 19, 20, 21, 22, 23, 24, 25, 26, 27, 28]]) [[0, 1, 2, 3, 4, 5, 6, 7, 8, 9, 10, 11, 12, 13, 14, 15, 16, 17, 18, 19, 20, 21, 22, 23, 24, 25, 26, 27, 28, 29]] (by kernel_rfl) (by kernel_rfl) (NoPanic.seq (NoPanic.block (NoPanic.seq (NoPanic.seq (NoPanic.block (NoPanic.seq (NoPanic.body))))))) ?_
    have hS20 := hS18.drew
    revert hS20
    generalize World.drew w17 = w19
    intro hS20
    refine ⟨⟨hS20.cell 0 rfl 0 rfl, hS20.cell 0 rfl 1 rfl, hS20.cell 0 rfl 2 rfl, hS20.cell 0 rfl 3 rfl, hS20.cell 0 rfl 0 rfl, hS20.cell 0 rfl 1 rfl, hS20.cell 0 rfl 2 rfl, hS20.cell 0 rfl 3 rfl, trivial⟩, forallC ?_ (forallN)⟩
    refine segF 2 [.v e9] [0, 3, 4, 19] [e2, e4, (4, (pt g14)), (19, e9)] [] [0] [(1, ⟨g14, 0, none⟩, e9)] (fun fb => by kernel_rfl) rfl trivial rfl ?_
    obtain ⟨t21, ht22, hl11⟩ := bind_some hl11
    refine WL.call (some 20) 28 #[e9] (fun fb => by kernel_rfl) (ref01_colour_calls (e1.N) t21 _ ht22) (fun v w23 hR24 => ?_)
    obtain ⟨rfl, hk_⟩ := hR24
    have hS25 := hS20.keepN hk_
    refine ⟨⟨hS25.cell 0 rfl 1 rfl, hS25.cell 0 rfl 2 rfl, hS25.cell 0 rfl 3 rfl, hS25.cell 0 rfl 0 rfl, hS25.cell 0 rfl 1 rfl, hS25.cell 0 rfl 2 rfl, hS25.cell 0 rfl 3 rfl, trivial⟩, ?_⟩
    refine seg 5 [] [0, 3, 4, 22] [e2, e4, (4, (pt g14)), (22, (bv (!t21)))] [] (fun fb => by kernel_rfl) rfl trivial ?_
    obtain ⟨x26, hx27, hl11⟩ := bind_some hl11
    refine WL.cutW (T := Bool) 10 (fun t => [e2, e4, (4, (pt g14)), (27, (bv t))]) (fun t w1 => (St NoS w w1 e6 [blk g14 (.cells e3 53 (0, 0))] ∧ x26 = t) ∧ CellsOK [] w1) (fun K => ?_) ?_
    ·
     rcases br_some hx27 with ⟨h28, hx27⟩ | ⟨h28, hx27⟩
     ·
      refine WL.setB 22 h28 rfl ?_
      refine seg 10 [] [0, 3, 4, 27] [e2, e4, (4, (pt g14)), (27, (bv true))] [] (fun fb => by kernel_rfl) rfl trivial ?_
      injection hx27 with hx27
      exact WL.to K true [0, 3, 4, 27] rfl ⟨⟨(hS25.subR [0]).sub [0] (by decide), hx27.symm⟩, trivial⟩
     refine WL.setB 22 h28 rfl ?_
     refine segF 7 [.v e10] [0, 3, 4, 22, 24] [e2, e4, (4, (pt g14)), (22, (bv false)), (24, e10)] [] [1] [(6, ⟨g14, 1, none⟩, e10)] (fun fb => by kernel_rfl) rfl trivial rfl ?_
     obtain ⟨t29, ht30, hx27⟩ := bind_some hx27
     refine WL.call (some 25) 28 #[e10] (fun fb => by kernel_rfl) (ref01_colour_calls (e1.E) t29 _ ht30) (fun v w31 hR32 => ?_)
     obtain ⟨rfl, hk_⟩ := hR32
     have hS33 := hS25.keepN hk_
     refine ⟨⟨hS33.cell 0 rfl 2 rfl, hS33.cell 0 rfl 3 rfl, hS33.cell 0 rfl 0 rfl, hS33.cell 0 rfl 1 rfl, hS33.cell 0 rfl 2 rfl, hS33.cell 0 rfl 3 rfl, trivial⟩, ?_⟩
     refine seg 10 [] [0, 3, 4, 27] [e2, e4, (4, (pt g14)), (27, (bv (!t29)))] [] (fun fb => by kernel_rfl) rfl trivial ?_
     injection hx27 with hx27
     exact WL.to K (!t29) [0, 3, 4, 27] rfl ⟨⟨(hS33.subR [0]).sub [0] (by decide), hx27.symm⟩, trivial⟩
    rintro y34 w36 ⟨⟨hS37, hq35⟩, hF38⟩
    subst hq35
    refine seg 11 [] [0, 3, 4, 28] [e2, e4, (4, (pt g14)), (28, (bv x26))] [] (fun fb => by kernel_rfl) rfl trivial ?_
    obtain ⟨x39, hx40, hl11⟩ := bind_some hl11
    refine WL.cutW (T := Bool) 16 (fun t => [e2, e4, (4, (pt g14)), (33, (bv t))]) (fun t w1 => (St NoS w w1 e6 [blk g14 (.cells e3 53 (0, 0))] ∧ x39 = t) ∧ CellsOK [] w1) (fun K => ?_) ?_
    ·
     rcases br_some hx40 with ⟨h41, hx40⟩ | ⟨h41, hx40⟩
     ·
      refine WL.setB 28 h41 rfl ?_
      refine seg 16 [] [0, 3, 4, 33] [e2, e4, (4, (pt g14)), (33, (bv true))] [] (fun fb => by kernel_rfl) rfl trivial ?_
      injection hx40 with hx40
      exact WL.to K true [0, 3, 4, 33] rfl ⟨⟨(hS37.subR [0]).sub [0] (by decide), hx40.symm⟩, trivial⟩
     refine WL.setB 28 h41 rfl ?_
     refine segF 13 [.v e11] [0, 3, 4, 28, 30] [e2, e4, (4, (pt g14)), (28, (bv false)), (30, e11)] [] [2] [(12, ⟨g14, 2, none⟩, e11)] (fun fb => by kernel_rfl) rfl trivial rfl ?_
     obtain ⟨t42, ht43, hx40⟩ := bind_some hx40
     refine WL.call (some 31) 28 #[e11] (fun fb => by kernel_rfl) (ref01_colour_calls (e1.S) t42 _ ht43) (fun v w44 hR45 => ?_)
     obtain ⟨rfl, hk_⟩ := hR45
     have hS46 := hS37.keepN hk_
     refine ⟨⟨hS46.cell 0 rfl 3 rfl, hS46.cell 0 rfl 0 rfl, hS46.cell 0 rfl 1 rfl, hS46.cell 0 rfl 2 rfl, hS46.cell 0 rfl 3 rfl, trivial⟩, ?_⟩
     refine seg 16 [] [0, 3, 4, 33] [e2, e4, (4, (pt g14)), (33, (bv (!t42)))] [] (fun fb => by kernel_rfl) rfl trivial ?_
     injection hx40 with hx40
     exact WL.to K (!t42) [0, 3, 4, 33] rfl ⟨⟨(hS46.subR [0]).sub [0] (by decide), hx40.symm⟩, trivial⟩
    rintro y47 w49 ⟨⟨hS50, hq48⟩, hF51⟩
    subst hq48
    refine seg 17 [] [0, 3, 4, 34] [e2, e4, (4, (pt g14)), (34, (bv x39))] [] (fun fb => by kernel_rfl) rfl trivial ?_
    obtain ⟨x52, hx53, hl11⟩ := bind_some hl11
    refine WL.cutW (T := Bool) 22 (fun t => [e2, e4, (4, (pt g14)), (39, (bv t))]) (fun t w1 => (St NoS w w1 e6 [blk g14 (.cells e3 53 (0, 0))] ∧ x52 = t) ∧ CellsOK [] w1) (fun K => ?_) ?_
    ·
     rcases br_some hx53 with ⟨h54, hx53⟩ | ⟨h54, hx53⟩
     ·
      refine WL.setB 34 h54 rfl ?_
      refine seg 22 [] [0, 3, 4, 39] [e2, e4, (4, (pt g14)), (39, (bv true))] [] (fun fb => by kernel_rfl) rfl trivial ?_
      injection hx53 with hx53
      exact WL.to K true [0, 3, 4, 39] rfl ⟨⟨(hS50.subR [0]).sub [0] (by decide), hx53.symm⟩, trivial⟩
     refine WL.setB 34 h54 rfl ?_
     refine segF 19 [.v e12] [0, 3, 4, 34, 36] [e2, e4, (4, (pt g14)), (34, (bv false)), (36, e12)] [] [3] [(18, ⟨g14, 3, none⟩, e12)] (fun fb => by kernel_rfl) rfl trivial rfl ?_
     obtain ⟨t55, ht56, hx53⟩ := bind_some hx53
     refine WL.call (some 37) 28 #[e12] (fun fb => by kernel_rfl) (ref01_colour_calls (e1.W) t55 _ ht56) (fun v w57 hR58 => ?_)
     obtain ⟨rfl, hk_⟩ := hR58
     have hS59 := hS50.keepN hk_
     refine ⟨⟨hS59.cell 0 rfl 0 rfl, hS59.cell 0 rfl 1 rfl, hS59.cell 0 rfl 2 rfl, hS59.cell 0 rfl 3 rfl, trivial⟩, ?_⟩
     refine seg 22 [] [0, 3, 4, 39] [e2, e4, (4, (pt g14)), (39, (bv (!t55)))] [] (fun fb => by kernel_rfl) rfl trivial ?_
     injection hx53 with hx53
     exact WL.to K (!t55) [0, 3, 4, 39] rfl ⟨⟨(hS59.subR [0]).sub [0] (by decide), hx53.symm⟩, trivial⟩
    rintro y60 w62 ⟨⟨hS63, hq61⟩, hF65⟩
    subst hq61
    refine seg 23 [] [0, 3, 4, 40] [e2, e4, (4, (pt g14)), (40, (bv x52))] [] (fun fb => by kernel_rfl) rfl trivial ?_
    obtain ⟨x66, hx67, hl11⟩ := bind_some hl11
    refine WL.cutW (T := Bool) 30 (fun t => [e2, e4, (47, (bv t))]) (fun t w1 => (St NoS w w1 e6 [] ∧ x66 = t) ∧ CellsOK [] w1) (fun K => ?_) ?_
    ·
     rcases br_some hx67 with ⟨h68, hx67⟩ | ⟨h68, hx67⟩
     ·
      refine WL.setB 40 h68 rfl ?_
      refine seg 30 [] [0, 3, 47] [e2, e4, (47, (bv true))] [] (fun fb => by kernel_rfl) rfl trivial ?_
      injection hx67 with hx67
      exact WL.to K true [0, 3, 47] rfl ⟨⟨(hS63.subR [0]).sub [] (by decide), hx67.symm⟩, trivial⟩
     refine WL.setB 40 h68 rfl ?_
     refine seg 25 [] [0, 3, 4, 40, 41, 42] [e2, e4, (4, (pt g14)), (40, (bv false)), (41, (sv Aa p0 ca)), (42, (iv x4))] [] (fun fb => by kernel_rfl) rfl trivial ?_
     obtain ⟨h69, hx67⟩ := as_some hx67
     refine seg 26 [] [0, 3, 4, 40, 43] [e2, e4, (4, (pt g14)), (40, (bv false)), (43, (.slice e8 (x4.toNat - (0 : Int).toNat) e13))] [.idx (some ⟨0, 0, none⟩) (0 : Int) (x4.toNat + 1), .idx (some ⟨0, 0, none⟩) x4 (ca + 1)] (fun fb => by kernel_rfl) rfl ⟨cut1 h69.1 h69.2.1, cut2 h69.1 h69.2.1 h69.2.2 (hS63.rd 0).1.2, trivial⟩ ?_
     refine WL.reE [0, 3, 4, 40, 43] [(0, (.slice Aa p0.length ca)), (3, (iv x4)), (4, (pt g14)), (40, (.bool false)), (43, (.slice (subA Aa ca (0 : Int).toNat 4) (x4.toNat - (0 : Int).toNat) (ca - (0 : Int).toNat)))] [(0, (.slice Aa p0.length ca)), (3, (iv x4)), (4, (pt g14)), (40, (.bool false)), (43, (.slice (subA Aa ca (0 : Int).toNat 4) (cut p0 (0 : Int) x4).length (ca - (0 : Int).toNat)))] rfl (by rw [cut_length h69.1 h69.2.1 h69.2.2]) ?_
     have hS70 := hS63.cutR 0 rfl h69.1 h69.2.1 h69.2.2
     refine segF 27 [.v e9, .v e10, .v e11, .v e12] [0, 3, 40, 43, 44] [e2, e4, (40, (bv false)), (43, (sv e8 (cut p0 (0 : Int) x4) e13)), (44, (.agg e3))] [] [4, 5, 6, 7] [(26, ⟨g14, 0, none⟩, e9), (26, ⟨g14, 1, none⟩, e10), (26, ⟨g14, 2, none⟩, e11), (26, ⟨g14, 3, none⟩, e12)] (fun fb => by kernel_rfl) rfl trivial rfl ?_
     obtain ⟨t71, ht72, hx67⟩ := bind_some hx67
     refine WL.call (some 45) 24 #[(sv e8 (cut p0 (0 : Int) x4) e13), (.agg e3)] (fun fb => by kernel_rfl) (ref01_Index_calls _ (cut p0 (0 : Int) x4) e1 e8 e13 t71 _ (hS70.rd 0) ht72) (fun v w73 hR74 => ?_)
     obtain ⟨rfl, hk_⟩ := hR74
     have hS75 := hS70.keepN hk_
     refine ⟨trivial, ?_⟩
     refine seg 30 [] [0, 3, 47] [e2, e4, (47, (bv (decide (t71 ≥ 0))))] [] (fun fb => by kernel_rfl) rfl trivial ?_
     injection hx67 with hx67
     exact WL.to K (decide (t71 ≥ 0)) [0, 3, 47] rfl ⟨⟨(hS75.subR [1]).sub [] (by decide), hx67.symm⟩, trivial⟩
    rintro y76 w78 ⟨⟨hS79, hq77⟩, hF80⟩
    subst hq77
    refine WL.done rfl (WX.next ?_)
    rcases br_some hl11 with ⟨h81, hl11⟩ | ⟨h81, hl11⟩
    ·refine WC.condT2 (fun fb => by kernel_rfl) h81 ?_
     refine WC.seq (WC.region ?_)
     refine seg 1 [] [2] [(2, (bv false))] [] (fun fb => by kernel_rfl) rfl trivial ?_
     refine WL.done rfl (WX.next ?_)
     refine WC.ret ?_
     injection hl11 with hl11
     subst hl11
     injection hf with hf
     subst hf
     exact WX.blockR (WX.thenR (WX.thenR (WX.blockR (WX.thenR (WX.ret_ [] (bv false) [] (fun fb => by kernel_rfl) trivial ⟨_, rfl, rfl, hS79.keep⟩)))))
    refine WC.condF2 (fun fb => by kernel_rfl) h81 ?_
    refine WC.skip ?_
    refine WX.blockN (WX.next ?_)
    refine WC.region ?_
    refine seg 3 [] [0, 3] [e2, (3, (iv (w64 (x4 + 1))))] [] (fun fb => by kernel_rfl) rfl trivial ?_
    refine WL.done rfl ?_
    exact WX.again k7 (Nat.lt_succ_self _) (w64 (x4 + 1)) [0, 3] rfl ⟨(hS79.subR [0]).sub [] (by decide), hl11⟩
   refine WC.condF2 (fun fb => by kernel_rfl) h12 ?_
   refine WC.exit ?_
   injection hl11 with hl11
   exact WX.thenX (WX.thenX (WX.blockHere (WX.to Kx5 () [] rfl ⟨(hS10.subR [0]).sub [] (by decide), hl11.symm⟩)))
 rintro y85 w82 ⟨hS83, hq84⟩
 subst hq84
 have hf := sum_inr hf
 refine WX.next (WC.seq (WC.region ?_))
 refine seg 1 [] [2] [(2, (bv true))] [] (fun fb => by kernel_rfl) rfl trivial ?_
 refine WL.done rfl (WX.next ?_)
 refine WC.ret ?_
 injection hf with hf
 subst hf
 exact WX.ret_ [] (bv true) [] (fun fb => by kernel_rfl) trivial ⟨_, rfl, rfl, hS83.keep⟩
theorem ref04_Path_calls (k : Nat) (p0 : List Tile) (p1 : Int) (p2 : Int) (p3 : Int) (Aa : Option Addr) (ca : Nat) (r : (List Int) × Bool) (w : World) (hR0 : RO NoS w (rowR enc_Tile Aa ca p0)) (hf : ref04_Path k p0 p1 p2 p3 = some r) :
  CallsR Tryd.prog 20 #[(sv Aa p0 ca), (iv p1), (iv p2), (iv p3)] w (fun v w' => ∃ (A1_ : Option Addr), ∃ (c1_ : Nat), v = (.tuple #[(sv A1_ r.1 c1_), (bv r.2)]) ∧ St NoS w w' [] [rowO 3 encInt A1_ c1_ r.1]) := by
 have hS : St NoS w w [rowR enc_Tile Aa ca p0] [] := St.init (ro_cons hR0 (ro_nil _ _))
 refine enter 150 Tryd.func20 rfl Tryd.ntmps20 rfl ?_
 unfold ref04_Path at hf
 refine WC.seq (WC.region ?_)
 refine seg 2 [] [0, 1, 2, 3] [(0, (sv Aa p0 ca)), (1, (iv p1)), (2, (iv p2)), (3, (iv p3))] [] (fun fb => by kernel_rfl) rfl trivial ?_
 refine WL.done rfl (WX.next (WC.seq (WC.region ?_)))
 refine seg 1 [] [0, 1, 2, 3, 18] [(0, (sv Aa p0 ca)), (1, (iv p1)), (2, (iv p2)), (3, (iv p3)), (18, (iv p3))] [] (fun fb => by kernel_rfl) rfl trivial ?_
 obtain ⟨h5, hf⟩ := as_some hf
 refine WL.make hS (e := (encSl Bool)) (T := 74) (tS := 84) (z := (.slice none 0 0)) (bytes := 24) (d := 19) (((none, 0), []) : (Option Addr × Nat) × (List Bool)) p3 (fun fb => by kernel_rfl) (by kernel_rfl) (by kernel_rfl) rfl (by decide) h5 (by decide) (fun g6 w7 hS8 => ?_)
 refine ⟨trivial, ?_⟩
 have hS9 := hS.go w7 [rowO 74 (encSl Bool) (some ⟨g6, 0, none⟩) p3.toNat (tag hf0 (List.replicate p3.toNat ([] : List Bool)))] (by rw [show tag hf0 (List.replicate p3.toNat ([] : List Bool)) = _ from tag_rep (none, 0) [] _]; exact hS8)
 have hS10 := hS9.rowsNil 4 encBool p3.toNat
 refine WL.reE [0, 1, 2, 3, 19] [(0, (.slice Aa p0.length ca)), (1, (iv p1)), (2, (iv p2)), (3, (iv p3)), (19, (.slice (some ⟨g6, 0, none⟩) (List.replicate p3.toNat (((none, 0), []) : (Option Addr × Nat) × (List Bool))).length p3.toNat))] [(0, (.slice Aa p0.length ca)), (1, (iv p1)), (2, (iv p2)), (3, (iv p3)), (19, (.slice (some ⟨g6, 0, none⟩) (List.replicate p3.toNat ([] : List Bool)).length p3.toNat))] rfl (by simp only [List.length_replicate]) ?_
 refine seg 3 [] [0, 1, 2, 3, 10] [(0, (sv Aa p0 ca)), (1, (iv p1)), (2, (iv p2)), (3, (iv p3)), (10, (sv (some ⟨g6, 0, none⟩) (List.replicate p3.toNat ([] : List Bool)) p3.toNat))] [] (fun fb => by kernel_rfl) rfl trivial ?_
 refine WL.done rfl (WX.next (WC.seq (WC.seq (WC.region ?_))))
 refine seg 3 [] [0, 1, 2, 3, 10, 11] [(0, (sv Aa p0 ca)), (1, (iv p1)), (2, (iv p2)), (3, (iv p3)), (10, (sv (some ⟨g6, 0, none⟩) (List.replicate p3.toNat ([] : List Bool)) p3.toNat)), (11, (iv (w64 (p3 - 1))))] [] (fun fb => by kernel_rfl) rfl trivial ?_
 refine WL.done rfl (WX.next ?_)
 obtain ⟨x19, hx21, hf⟩ := bind_some hf
 let e39 : List Nat := [5, 6, 7, 8, 9, 10, 11, 12, 13]
 let e1 := [[], [], [0, 1], [0, 1, 2], [], [], [], [6], [5, 6, 7], [5, 6, 7, 8], [], [5, 6, 7, 8, 9, 10], [5, 6, 7, 8, 9, 10, 11], [5, 6, 7, 8, 9, 10, 11, 12], e39, e39, [5, 6, 7, 8, 9, 10, 11, 12, 13, 14, 15], [5, 6, 7, 8, 9, 10, 11, 12, 13, 14, 15, 16], [5, 6, 7, 8, 9, 10, 11, 12, 13, 14, 15, 16, 17], e39, e39, [5, 6, 7, 8, 9, 10, 11, 12, 13, 19, 20], [5, 6, 7, 8, 9, 10, 11, 12, 13, 19, 20, 21], [5, 6, 7, 8, 9, 10, 11, 12, 13, 19, 20, 21, 22], [5, 6, 7, 8, 9, 10, 11, 12, 13, 14, 15, 16, 17, 18, 19, 20, 21, 22, 23], [5, 6, 7, 8, 9, 10, 11, 12, 13, 14, 15, 16, 17, 18, 19, 20, 21, 22, 23, 24], [0, 1, 2, 3, 4, 5, 6, 7, 8, 9, 10, 11, 12, 13, 14, 15, 16, 17, 18, 19, 20, 21, 22, 23, 24, 25], [0, 1, 2, 3, 4, 5, 6, 7, 8, 9, 10, 11, 12, 13, 14, 15, 16, 17, 18, 19, 20, 21, 22, 23, 24, 25, 26]]
 let e3 : Nat × Value := (0, (sv Aa p0 ca))
 let e5 := [[], [], [0, 1], [0, 1, 2], [], [], [], [6], [5, 6, 7], [5, 6, 7, 8], [5, 6, 7, 8, 9], [5, 6, 7, 8, 9], [5, 6, 7, 8, 9, 10, 11], [5, 6, 7, 8, 9, 10, 11, 12], e39, [5, 6, 7, 8, 9], [5, 6, 7, 8, 9, 10, 11, 12, 13, 14, 15], [5, 6, 7, 8, 9, 10, 11, 12, 13, 14, 15, 16], [0, 1, 2, 3, 4, 5, 6, 7, 8, 9, 10, 11, 12, 13, 14, 15, 16, 17], [0, 1, 2, 3, 4, 5, 6, 7, 8, 9, 10, 11, 12, 13, 14, 15, 16, 17, 18]]
 let e11 : Nat × Value := (1, (iv p1))
 let e12 : Nat × Value := (3, (iv p3))
 let e13 : Nat × Value := (2, (iv p2))
 let e23 : List Own := [rowR enc_Tile Aa ca p0]
 let e27 : List Nat := [0, 1, 2, 3, 10, 11, 12]
 let e28 : List Nat := [0, 1, 2, 3, 10, 11, 12, 13]
 let e35 := List (List Bool)
 let e36 := [[0, 1, 2, 3, 4, 5, 6, 7, 8, 9, 10, 11, 12, 13, 14, 15, 16, 17, 18, 19, 20, 21, 22, 23, 24, 25, 26, 27]]
 let e37 : List Nat := [0, 1, 2, 3, 4, 5, 6, 7, 8, 9, 10, 11, 12, 13, 14, 15, 16, 17, 18, 19, 20, 21, 22, 23, 24, 25, 26]
 let e41 := encSl Bool
 let e43 := Option Addr
 let e44 := [[0, 1, 2, 3, 4, 5, 6, 7, 8, 9, 10, 11, 12, 13, 14, 15, 16, 17, 18, 19]]
 let e46 : List Nat := [0, 1, 2, 3, 4, 5, 6, 7, 8, 9, 10, 11, 12, 13, 14, 15, 16, 17, 18]
 let e50 : List Nat := [0, 1, 2, 3, 10, 11]
 refine WC.cutN (T := e35 × e43 × Nat × HF) (fun t => [e3, e11, e12, (10, (sv t.2.1 t.1 t.2.2.1))]) (fun t w1 => St NoS w w1 e23 [rowO 74 e41 t.2.1 t.2.2.1 (tag t.2.2.2 t.1), rowsO 4 encBool t.2.2.2 t.1] ∧ x19 = t.1) (fun Kx19 => ?_) ?_
 ·
  refine WC.block ?_
  refine WC.loop (T := (e35 × Int) × e43 × Nat × HF) (fun t => [e3, e11, e13, e12, (10, (sv t.2.1 t.1.1 t.2.2.1)), (11, (iv t.1.2))]) (fun n t w1 => St NoS w w1 e23 [rowO 74 e41 t.2.1 t.2.2.1 (tag t.2.2.2 t.1.1), rowsO 4 encBool t.2.2.2 t.1.1] ∧ ref04_Path.l0 n t.1.1 t.1.2 p0 p2 p3 = some x19) k (((List.replicate p3.toNat ([] : List Bool)), w64 (p3 - 1)), (some ⟨g6, 0, none⟩), p3.toNat, hf0) e50 rfl ⟨(hS10.subR [0]).sub [1, 0] (by decide), hx21⟩ ?_
  rintro k22 ⟨⟨l13, x15⟩, A11, c12, H14⟩ w23 ⟨hS24, hl25⟩
  let e9 : Nat × Value := (11, (iv x15))
  let e10 := w64 (x15 + 1)
  let e18 := (p0.length : Int)
  let e22 := (List.replicate e18.toNat (false : Bool))
  let e47 := (x15).toNat * 1
  let e51 := decide (x15 < w64 (p3 - 1))
  cases k22 with
  | zero => rw [ref04_Path.l0] at hl25; cases hl25
  | succ k22 =>
   rw [ref04_Path.l0] at hl25
   refine WC.seq (WC.seq (WC.region ?_))
   refine seg 2 [] [0, 1, 2, 3, 10, 11, 23] [e3, e11, e13, e12, (10, (sv A11 l13 c12)), e9, (23, (bv (decide (x15 ≥ 0))))] [] (fun fb => by kernel_rfl) rfl trivial ?_
   refine WL.done rfl (WX.next ?_)
   rcases br_some hl25 with ⟨h26, hl25⟩ | ⟨h26, hl25⟩
   ·refine WC.condT2 (fun fb => by kernel_rfl) h26 ?_
    refine WC.skip (WX.next (WC.seq (WC.block (WC.seq (WC.region ?_)))))
    refine seg 4 [] [0, 1, 2, 3, 10, 11, 26, 27, 29] [e3, e11, e13, e12, (10, (sv A11 l13 c12)), e9, (26, (sv A11 l13 c12)), (27, (iv x15)), (29, (iv e18))] [] (fun fb => by kernel_rfl) rfl trivial ?_
    obtain ⟨h27, hl25⟩ := as_some hl25
    refine WL.make hS24 (e := encBool) (T := 4) (tS := 74) (z := (bv false)) (bytes := 1) (d := 30) (false : Bool) e18 (fun fb => by kernel_rfl) (by kernel_rfl) (by kernel_rfl) rfl (by decide) h27 (by decide) (fun g28 w29 hS30 => ?_)
    refine ⟨trivial, ?_⟩
    obtain ⟨h31, hl25⟩ := as_some hl25
    refine seg 6 [] [0, 1, 2, 3, 10, 11, 30, 31] [e3, e11, e13, e12, (10, (sv A11 l13 c12)), e9, (30, (sv (some ⟨g28, 0, none⟩) e22 (e18.toNat))), (31, (.pointer (some ((adr A11).add e47))))] [.idx A11 x15 l13.length] (fun fb => by kernel_rfl) rfl ⟨nrow_adr (rowO.rd (hS30.own 1).1) h31.1 h31.2, trivial⟩ ?_
    refine WL.storeRow hS30 1 rfl (x15) (((some ⟨g28, 0, none⟩), (p0.length : Int).toNat), (List.replicate (p0.length : Int).toNat (false : Bool))) ((none, 0), []) [(0, (.slice (some ⟨g28, 0, none⟩) (List.replicate (p0.length : Int).toNat (false : Bool)).length ((p0.length : Int).toNat)))] (fun fb => by kernel_rfl) h31.1 (by rw [tag_length]; exact h31.2) (by kernel_rfl) (by kernel_rfl) [0, 2] (by decide) (by decide) (fun w32 hS33 => ?_)
    have hS34 := hS9.go w32 [rowO 74 (encSl Bool) A11 c12 (tag (updH H14 x15.toNat ((some ⟨g28, 0, none⟩), (p0.length : Int).toNat)) (l13.set x15.toNat (List.replicate (p0.length : Int).toNat (false : Bool)))), rowO 4 encBool (some ⟨g28, 0, none⟩) ((p0.length : Int).toNat) (List.replicate (p0.length : Int).toNat (false : Bool)), rowsO 4 encBool H14 l13] (by rw [tag_set]; exact hS33)
    let e49 := updH H14 x15.toNat ((some ⟨g28, 0, none⟩), e18.toNat)
    have hS35 := hS34.go w32 [rowsO 4 encBool e49 (l13.set x15.toNat e22), rowO 74 e41 A11 c12 (tag e49 (l13.set x15.toNat e22))] (hS34.rowsSet 2 1 rfl rfl (by decide) (x15.toNat) [0] (by decide) (by decide))
    refine ⟨trivial, ?_⟩
    refine WL.reE [0, 1, 2, 3, 10, 11] [(0, (.slice Aa p0.length ca)), (1, (iv p1)), (2, (iv p2)), (3, (iv p3)), (10, (.slice A11 l13.length c12)), (11, (iv x15))] [(0, (.slice Aa p0.length ca)), (1, (iv p1)), (2, (iv p2)), (3, (iv p3)), (10, (.slice A11 (l13.set x15.toNat (List.replicate (p0.length : Int).toNat (false : Bool))).length c12)), (11, (iv x15))] rfl (by simp only [List.length_set]) ?_
    refine WL.done rfl (WX.next (WC.seq (WC.region ?_)))
    refine seg 1 [] e27 [e3, e11, e13, e12, (10, (sv A11 (l13.set x15.toNat e22) c12)), e9, (12, (iv 0))] [] (fun fb => by kernel_rfl) rfl trivial ?_
    refine WL.done rfl (WX.next ?_)
    obtain ⟨x44, hx45, hl25⟩ := bind_some hl25
    refine WC.cutN (T := e35 × e43 × Nat × HF) (fun t => [e3, e11, e13, e12, (10, (sv t.2.1 t.1 t.2.2.1)), e9]) (fun t w1 => St NoS w w1 e23 [rowO 74 e41 t.2.1 t.2.2.1 (tag t.2.2.2 t.1), rowsO 4 encBool t.2.2.2 t.1] ∧ x44 = t.1) (fun Kx44 => ?_) ?_
    ·
     refine WC.block ?_
     refine WC.loop (T := (e35 × Int) × e43 × Nat × HF) (fun t => [e3, e11, e13, e12, (10, (sv t.2.1 t.1.1 t.2.2.1)), e9, (12, (iv t.1.2))]) (fun n t w1 => St NoS w w1 e23 [rowO 74 e41 t.2.1 t.2.2.1 (tag t.2.2.2 t.1.1), rowsO 4 encBool t.2.2.2 t.1.1] ∧ ref04_Path.l1 n t.1.1 t.1.2 p0 p2 p3 x15 = some x44) k22 ((l13.set x15.toNat e22, 0), A11, c12, e49) e27 rfl ⟨(hS35.subR [0]).sub [1, 0] (by decide), hx45⟩ ?_
     rintro k46 ⟨⟨l38, x40⟩, A36, c37, H39⟩ w47 ⟨hS48, hl49⟩
     let e7 := sv ((H39 x15.toNat).1) (rdD l38 x15 []) ((H39 x15.toNat).2)
     let e14 : Nat × Value := (12, (iv x40))
     let e15 := (rdD p0 x40 z_Tile).E
     let e31 : Nat × Addr × Value := (3, ((adr A36).add e47), e7)
     let e34 := ((adr Aa).add ((x40).toNat * 4)).add 1
     let e42 : Nat × Value := (10, (sv A36 l38 c37))
     cases k46 with
     | zero => rw [ref04_Path.l1] at hl49; cases hl49
     | succ k46 =>
      rw [ref04_Path.l1] at hl49
      refine WC.seq (WC.seq (WC.region ?_))
      refine seg 4 [] [0, 1, 2, 3, 10, 11, 12, 35] [e3, e11, e13, e12, e42, e9, e14, (35, (bv (decide (x40 < e18))))] [] (fun fb => by kernel_rfl) rfl trivial ?_
      refine WL.done rfl (WX.next ?_)
      rcases br_some hl49 with ⟨h50, hl49⟩ | ⟨h50, hl49⟩
      ·refine WC.condT2 (fun fb => by kernel_rfl) h50 ?_
       refine WC.skip (WX.next (WC.seq (WC.block (WC.seq ?_))))
       obtain ⟨x54, hx55, hl49⟩ := bind_some hl49
       refine WC.cutN (T := e35 × e43 × Nat × HF) (fun t => [e3, e11, e13, e12, (10, (sv t.2.1 t.1 t.2.2.1)), e9, e14]) (fun t w1 => St NoS w w1 e23 [rowO 74 e41 t.2.1 t.2.2.1 (tag t.2.2.2 t.1), rowsO 4 encBool t.2.2.2 t.1] ∧ x54 = t.1) (fun Kx54 => ?_) ?_
       ·
        rcases br_some hx55 with ⟨h56, hx55⟩ | ⟨h56, hx55⟩
        ·
         obtain ⟨h59, hx55⟩ := as_some hx55
         obtain ⟨h60, hx55⟩ := as_some hx55
         obtain ⟨h61, hx55⟩ := as_some hx55
         refine WC.regionD ([e31, (14, e34, (iv e15))], e46, e5) e44 (by kernel_rfl) (by kernel_rfl) (NoPanic.seq (NoPanic.block (NoPanic.seq (NoPanic.seq (NoPanic.block (NoPanic.block (NoPanic.seq (NoPanic.seq (NoPanic.block (NoPanic.seq (NoPanic.body))))))))))) ?_
         have hS58 := hS48.drew
         revert hS58
         generalize World.drew w47 = w57
         intro hS58
         refine ⟨⟨nrow_cell (rowO.rd (hS58.own 0).1) [] h59.1 h59.2 0 rfl, rowR.cell (hS58.rd 0).1 z_Tile h60.1 h60.2 1 rfl, trivial⟩, forallC ?_ (forallN)⟩
         refine segF 10 [.v e7] [0, 1, 2, 3, 10, 11, 12, 41, 42, 47] [e3, e11, e13, e12, e42, e9, e14, (41, e7), (42, (iv x40)), (47, (bv (x15 == (w64 (p3 - 1)))))] [.idx A36 x15 l38.length] [0] [e31] (fun fb => by kernel_rfl) rfl ⟨nrow_adr (rowO.rd (hS58.own 0).1) h59.1 h59.2, trivial⟩ rfl ?_
         refine WL.setB 47 h56 rfl ?_
         refine segF 19 [.v (iv e15)] [0, 1, 2, 3, 10, 11, 12, 55, 56] [e3, e11, e13, e12, e42, e9, e14, (55, (bv (e15 == p2))), (56, (.pointer (some ((adr ((H39 x15.toNat).1)).add ((x40).toNat * 1)))))] [.idx Aa x40 p0.length, .idx ((H39 x15.toNat).1) x40 (rdD l38 x15 []).length] [1] [(14, e34, (iv e15))] (fun fb => by kernel_rfl) rfl ⟨rowR.adr (hS58.rd 0).1 h60.1 h60.2, rowR.adr (rowO.rd (rowsO.at (hS58.own 1).1 h59.1 h59.2)) h61.1 h61.2, trivial⟩ rfl ?_
         refine WL.storeRR hS58 1 rfl h59.1 h59.2 (x40) (e15 == p2) (false) [(0, (bv (e15 == p2)))] (fun fb => by kernel_rfl) h61.1 h61.2 (by kernel_rfl) rfl [0] (by decide) (by decide) (fun w62 hS63 => ?_)
         have hS65 := hS35.go w62 [rowO 74 (encSl Bool) A36 c37 (tag H39 (l38.set x15.toNat ((rdD l38 x15 []).set x40.toNat (((rdD p0 x40 z_Tile).E) == p2)))), rowsO 4 encBool H39 (l38.set x15.toNat ((rdD l38 x15 []).set x40.toNat (((rdD p0 x40 z_Tile).E) == p2)))] (hS63.slRow 1 rfl (rdD_at (d := []) h59.1 h59.2) ((rdD l38 x15 []).set x40.toNat (((rdD p0 x40 z_Tile).E) == p2)) (by simp only [List.length_set]) [0] (by decide) (by decide))
         refine ⟨trivial, ?_⟩
         refine WL.reE [0, 1, 2, 3, 10, 11, 12] [(0, (.slice Aa p0.length ca)), (1, (iv p1)), (2, (iv p2)), (3, (iv p3)), (10, (.slice A36 l38.length c37)), (11, (iv x15)), (12, (iv x40))] [(0, (.slice Aa p0.length ca)), (1, (iv p1)), (2, (iv p2)), (3, (iv p3)), (10, (.slice A36 (l38.set x15.toNat ((rdD l38 x15 []).set x40.toNat (((rdD p0 x40 z_Tile).E) == p2))).length c37)), (11, (iv x15)), (12, (iv x40))] rfl (by simp only [List.length_set]) ?_
         refine WL.done rfl ?_
         injection hx55 with hx55
         exact WX.to Kx54 (l38.set x15.toNat ((rdD l38 x15 []).set x40.toNat (e15 == p2)), A36, c37, H39) e27 rfl ⟨(hS65.subR [0]).sub [0, 1] (by decide), hx55.symm⟩
        obtain ⟨h68, hx55⟩ := as_some hx55
        obtain ⟨h69, hx55⟩ := as_some hx55
        refine WC.regionD ([e31], e46, e5) e44 (by kernel_rfl) (by kernel_rfl) (NoPanic.seq (NoPanic.block (NoPanic.seq (NoPanic.seq (NoPanic.block (NoPanic.block (NoPanic.seq (NoPanic.seq (NoPanic.block (NoPanic.seq (NoPanic.body))))))))))) ?_
        have hS67 := hS48.drew
        revert hS67
        generalize World.drew w47 = w66
        intro hS67
        refine ⟨⟨nrow_cell (rowO.rd (hS67.own 0).1) [] h68.1 h68.2 0 rfl, trivial⟩, forallC ?_ (forallN)⟩
        refine segF 10 [.v e7] [0, 1, 2, 3, 10, 11, 12, 41, 42, 47] [e3, e11, e13, e12, e42, e9, e14, (41, e7), (42, (iv x40)), (47, (bv (x15 == (w64 (p3 - 1)))))] [.idx A36 x15 l38.length] [0] [e31] (fun fb => by kernel_rfl) rfl ⟨nrow_adr (rowO.rd (hS67.own 0).1) h68.1 h68.2, trivial⟩ rfl ?_
        refine WL.setB 47 h56 rfl ?_
        refine seg 19 [] [0, 1, 2, 3, 10, 11, 12, 55, 56] [e3, e11, e13, e12, e42, e9, e14, (55, (bv false)), (56, (.pointer (some ((adr ((H39 x15.toNat).1)).add ((x40).toNat * 1)))))] [.idx ((H39 x15.toNat).1) x40 (rdD l38 x15 []).length] (fun fb => by kernel_rfl) rfl ⟨rowR.adr (rowO.rd (rowsO.at (hS67.own 1).1 h68.1 h68.2)) h69.1 h69.2, trivial⟩ ?_
        refine WL.storeRR hS67 1 rfl h68.1 h68.2 (x40) (false) (false) [(0, (bv false))] (fun fb => by kernel_rfl) h69.1 h69.2 (by kernel_rfl) rfl [0] (by decide) (by decide) (fun w70 hS71 => ?_)
        have hS72 := hS35.go w70 [rowO 74 (encSl Bool) A36 c37 (tag H39 (l38.set x15.toNat ((rdD l38 x15 []).set x40.toNat false))), rowsO 4 encBool H39 (l38.set x15.toNat ((rdD l38 x15 []).set x40.toNat false))] (hS71.slRow 1 rfl (rdD_at (d := []) h68.1 h68.2) ((rdD l38 x15 []).set x40.toNat false) (by simp only [List.length_set]) [0] (by decide) (by decide))
        refine ⟨trivial, ?_⟩
        refine WL.reE [0, 1, 2, 3, 10, 11, 12] [(0, (.slice Aa p0.length ca)), (1, (iv p1)), (2, (iv p2)), (3, (iv p3)), (10, (.slice A36 l38.length c37)), (11, (iv x15)), (12, (iv x40))] [(0, (.slice Aa p0.length ca)), (1, (iv p1)), (2, (iv p2)), (3, (iv p3)), (10, (.slice A36 (l38.set x15.toNat ((rdD l38 x15 []).set x40.toNat false)).length c37)), (11, (iv x15)), (12, (iv x40))] rfl (by simp only [List.length_set]) ?_
        refine WL.done rfl ?_
        injection hx55 with hx55
        exact WX.to Kx54 (l38.set x15.toNat ((rdD l38 x15 []).set x40.toNat false), A36, c37, H39) e27 rfl ⟨(hS72.subR [0]).sub [0, 1] (by decide), hx55.symm⟩
       rintro ⟨y76, A51, c52, H53⟩ w73 ⟨hS74, hq75⟩
       subst hq75
       refine WX.next (WC.seq (WC.region ?_))
       refine seg 1 [] e28 [e3, e11, e13, e12, (10, (sv A51 x54 c52)), e9, e14, (13, (iv 0))] [] (fun fb => by kernel_rfl) rfl trivial ?_
       refine WL.done rfl (WX.next ?_)
       obtain ⟨x85, hx86, hl49⟩ := bind_some hl49
       refine WC.cutN (T := e35 × e43 × Nat × HF) (fun t => [e3, e11, e13, e12, (10, (sv t.2.1 t.1 t.2.2.1)), e9, e14]) (fun t w1 => St NoS w w1 e23 [rowO 74 e41 t.2.1 t.2.2.1 (tag t.2.2.2 t.1), rowsO 4 encBool t.2.2.2 t.1] ∧ x85 = t.1) (fun Kx85 => ?_) ?_
       ·
        refine WC.block ?_
        refine WC.loop (T := (e35 × Int) × e43 × Nat × HF) (fun t => [e3, e11, e13, e12, (10, (sv t.2.1 t.1.1 t.2.2.1)), e9, e14, (13, (iv t.1.2))]) (fun n t w1 => St NoS w w1 e23 [rowO 74 e41 t.2.1 t.2.2.1 (tag t.2.2.2 t.1.1), rowsO 4 encBool t.2.2.2 t.1.1] ∧ ref04_Path.l2 n t.1.1 t.1.2 p0 p3 x15 x40 = some x85) k46 ((x54, 0), A51, c52, H53) e28 rfl ⟨(hS74.subR [0]).sub [0, 1] (by decide), hx86⟩ ?_
        rintro k87 ⟨⟨l79, x81⟩, A77, c78, H80⟩ w88 ⟨hS89, hl90⟩
        let e2 : List (Nat × Addr × Value) := [(3, ((adr A77).add e47), (sv ((H80 x15.toNat).1) (rdD l79 x15 []) ((H80 x15.toNat).2))), (9, ((adr A77).add (e10.toNat * 1)), (sv ((H80 e10.toNat).1) (rdD l79 e10 []) ((H80 e10.toNat).2))), (12, ((adr ((H80 e10.toNat).1)).add ((x81).toNat * 1)), (bv (rdD (rdD l79 e10 []) x81 false)))]
        let e8 := sv ((H80 x15.toNat).1) (rdD l79 x15 []) ((H80 x15.toNat).2)
        let e17 : Nat × Value := (10, (sv A77 l79 c78))
        let e24 : Nat × Value := (13, (iv x81))
        let e26 := bv (rdD (rdD l79 e10 []) x81 false)
        let e32 := (rdD p0 x81 z_Tile).W
        let e33 := sv ((H80 e10.toNat).1) (rdD l79 e10 []) ((H80 e10.toNat).2)
        let e38 := (adr ((H80 x15.toNat).1)).add ((x40).toNat * 1)
        let e40 := rdD l79 x15 []
        cases k87 with
        | zero => rw [ref04_Path.l2] at hl90; cases hl90
        | succ k87 =>
         rw [ref04_Path.l2] at hl90
         refine WC.seq (WC.seq (WC.region ?_))
         refine seg 5 [] [0, 1, 2, 3, 10, 11, 12, 13, 61] [e3, e11, e13, e12, e17, e9, e14, e24, (61, (bv (decide (x81 < e18))))] [] (fun fb => by kernel_rfl) rfl trivial ?_
         refine WL.cutV (T := Bool) 10 (fun t => [(66, (bv t)), e3, e11, e13, e12, e17, e9, e14, e24]) (fun t => ((decide (x81 < e18)) && e51) = t) (fun K => ?_) ?_
         ·
          rcases Bool.eq_false_or_eq_true (decide (x81 < e18)) with h91 | h91
          ·
           refine WL.setB 61 h91 rfl ?_
           refine seg 10 [] [0, 1, 2, 3, 10, 11, 12, 13, 66] [e3, e11, e13, e12, e17, e9, e14, e24, (66, (bv e51))] [] (fun fb => by kernel_rfl) rfl trivial ?_
           exact WL.toV K (decide (x15 < w64 (p3 - 1))) [66, 0, 1, 2, 3, 10, 11, 12, 13] rfl (by first | (rw [h91]; done) | (rw [h91]; rfl))
          refine WL.setB 61 h91 rfl ?_
          refine seg 10 [] [0, 1, 2, 3, 10, 11, 12, 13, 66] [e3, e11, e13, e12, e17, e9, e14, e24, (66, (bv false))] [] (fun fb => by kernel_rfl) rfl trivial ?_
          exact WL.toV K false [66, 0, 1, 2, 3, 10, 11, 12, 13] rfl (by first | (rw [h91]; done) | (rw [h91]; rfl))
         rintro b92 rfl
         refine seg 11 [] [0, 1, 2, 3, 10, 11, 12, 13, 67] [e3, e11, e13, e12, e17, e9, e14, e24, (67, (bv ((decide (x81 < e18)) && e51)))] [] (fun fb => by kernel_rfl) rfl trivial ?_
         obtain ⟨b93, hv94, hl90⟩ := bind_some hl90
         refine WL.cutV (T := Unit) 20 (fun t => [(76, (bv b93)), e3, e11, e13, e12, e17, e9, e14, e24]) (fun t => True) (fun K => ?_) ?_
         ·
          rcases br_some hv94 with ⟨h95, hv94⟩ | ⟨h95, hv94⟩
          ·
           refine WL.setB 67 h95 rfl ?_
           refine seg 13 [] [0, 1, 2, 3, 10, 11, 12, 13, 67, 68, 69] [e3, e11, e13, e12, e17, e9, e14, e24, (67, (bv true)), (68, (sv A77 l79 c78)), (69, (iv x15))] [] (fun fb => by kernel_rfl) rfl trivial ?_
           obtain ⟨h96, hv94⟩ := as_some hv94
           refine seg 16 [.v e8] [0, 1, 2, 3, 10, 11, 12, 13, 67, 71, 72] [e3, e11, e13, e12, e17, e9, e14, e24, (67, (bv true)), (71, e8), (72, (iv x40))] [.idx A77 x15 l79.length, .cell ((adr A77).add e47) e8] (fun fb => by kernel_rfl) rfl ⟨nrow_adr (rowO.rd (hS89.own 0).1) h96.1 h96.2, nrow_cell (rowO.rd (hS89.own 0).1) [] h96.1 h96.2 0 rfl, trivial⟩ ?_
           obtain ⟨h97, hv94⟩ := as_some hv94
           refine seg 20 [.v (bv (rdD e40 x40 false))] [0, 1, 2, 3, 10, 11, 12, 13, 76] [e3, e11, e13, e12, e17, e9, e14, e24, (76, (bv (!(rdD e40 x40 false))))] [.idx ((H80 x15.toNat).1) x40 e40.length, .cell e38 (bv (rdD e40 x40 false))] (fun fb => by kernel_rfl) rfl ⟨rowR.adr (rowO.rd (rowsO.at (hS89.own 1).1 h96.1 h96.2)) h97.1 h97.2, rowR.cell (rowO.rd (rowsO.at (hS89.own 1).1 h96.1 h96.2)) false h97.1 h97.2 0 rfl, trivial⟩ ?_
           injection hv94 with hv94
           subst hv94
           exact WL.toV K () [76, 0, 1, 2, 3, 10, 11, 12, 13] rfl trivial
          refine WL.setB 67 h95 rfl ?_
          refine seg 20 [] [0, 1, 2, 3, 10, 11, 12, 13, 76] [e3, e11, e13, e12, e17, e9, e14, e24, (76, (bv false))] [] (fun fb => by kernel_rfl) rfl trivial ?_
          injection hv94 with hv94
          subst hv94
          exact WL.toV K () [76, 0, 1, 2, 3, 10, 11, 12, 13] rfl trivial
         rintro _ _
         refine WL.done rfl (WX.next ?_)
         rcases br_some hl90 with ⟨h98, hl90⟩ | ⟨h98, hl90⟩
         ·refine WC.condT2 (fun fb => by kernel_rfl) h98 ?_
          refine WC.skip (WX.next (WC.seq (WC.block ?_)))
          obtain ⟨x102, hx103, hl90⟩ := bind_some hl90
          refine WC.cutN (T := e35 × e43 × Nat × HF) (fun t => [e3, e11, e13, e12, (10, (sv t.2.1 t.1 t.2.2.1)), e9, e14, e24]) (fun t w1 => St NoS w w1 e23 [rowO 74 e41 t.2.1 t.2.2.1 (tag t.2.2.2 t.1), rowsO 4 encBool t.2.2.2 t.1] ∧ x102 = t.1) (fun Kx102 => ?_) ?_
          ·
           rcases br_some hx103 with ⟨h104, hx103⟩ | ⟨h104, hx103⟩
           ·
            obtain ⟨h107, hx103⟩ := as_some hx103
            obtain ⟨h108, hx103⟩ := as_some hx103
            obtain ⟨h109, hx103⟩ := as_some hx103
            obtain ⟨h110, hx103⟩ := as_some hx103
            obtain ⟨h111, hx103⟩ := as_some hx103
            obtain ⟨h112, hx103⟩ := as_some hx103
            refine WC.regionD ([(3, ((adr A77).add e47), e8), (9, ((adr A77).add (e10.toNat * 1)), e33), (12, ((adr ((H80 e10.toNat).1)).add ((x81).toNat * 1)), e26), (18, e34, (iv e15)), (23, (((adr Aa).add ((x81).toNat * 4)).add 3), (iv e32))], e37, e1) e36 (by kernel_rfl) (by kernel_rfl) (NoPanic.block (NoPanic.seq (NoPanic.seq (NoPanic.block (NoPanic.block (NoPanic.seq (NoPanic.seq (NoPanic.block (NoPanic.block (NoPanic.seq (NoPanic.seq (NoPanic.block (NoPanic.seq (NoPanic.body)))))))))))))) ?_
            have hS106 := hS89.drew
            revert hS106
            generalize World.drew w88 = w105
            intro hS106
            refine ⟨⟨nrow_cell (rowO.rd (hS106.own 0).1) [] h107.1 h107.2 0 rfl, nrow_cell (rowO.rd (hS106.own 0).1) [] h108.1 h108.2 0 rfl, rowR.cell (rowO.rd (rowsO.at (hS106.own 1).1 h108.1 h108.2)) false h109.1 h109.2 0 rfl, rowR.cell (hS106.rd 0).1 z_Tile h110.1 h110.2 1 rfl, rowR.cell (hS106.rd 0).1 z_Tile h111.1 h111.2 3 rfl, trivial⟩, forallC ?_ (forallN)⟩
            refine segF 14 [.v e8, .v e33, .v e26] [0, 1, 2, 3, 10, 11, 12, 13, 82, 83, 92] [e3, e11, e13, e12, e17, e9, e14, e24, (82, e8), (83, (iv x40)), (92, e26)] [.idx A77 x15 l79.length, .idx A77 e10 l79.length, .idx ((H80 e10.toNat).1) x81 (rdD l79 e10 []).length] [0, 1, 2] e2 (fun fb => by kernel_rfl) rfl ⟨nrow_adr (rowO.rd (hS106.own 0).1) h107.1 h107.2, nrow_adr (rowO.rd (hS106.own 0).1) h108.1 h108.2, rowR.adr (rowO.rd (rowsO.at (hS106.own 1).1 h108.1 h108.2)) h109.1 h109.2, trivial⟩ rfl ?_
            refine WL.setB 92 h104 rfl ?_
            refine segF 27 [.v (iv e15), .v (iv e32)] [0, 1, 2, 3, 10, 11, 12, 13, 104, 105] [e3, e11, e13, e12, e17, e9, e14, e24, (104, (bv (e15 == e32))), (105, (.pointer (some e38)))] [.idx Aa x40 p0.length, .idx Aa x81 p0.length, .idx ((H80 x15.toNat).1) x40 e40.length] [3, 4] [(18, e34, (iv e15)), (23, (((adr Aa).add ((x81).toNat * 4)).add 3), (iv e32))] (fun fb => by kernel_rfl) rfl ⟨rowR.adr (hS106.rd 0).1 h110.1 h110.2, rowR.adr (hS106.rd 0).1 h111.1 h111.2, rowR.adr (rowO.rd (rowsO.at (hS106.own 1).1 h107.1 h107.2)) h112.1 h112.2, trivial⟩ rfl ?_
            refine WL.storeRR hS106 1 rfl h107.1 h107.2 (x40) (e15 == e32) (false) [(0, (bv (e15 == e32)))] (fun fb => by kernel_rfl) h112.1 h112.2 (by kernel_rfl) rfl [0] (by decide) (by decide) (fun w113 hS114 => ?_)
            have hS115 := hS35.go w113 [rowO 74 (encSl Bool) A77 c78 (tag H80 (l79.set x15.toNat ((rdD l79 x15 []).set x40.toNat (((rdD p0 x40 z_Tile).E) == ((rdD p0 x81 z_Tile).W))))), rowsO 4 encBool H80 (l79.set x15.toNat ((rdD l79 x15 []).set x40.toNat (((rdD p0 x40 z_Tile).E) == ((rdD p0 x81 z_Tile).W))))] (hS114.slRow 1 rfl (rdD_at (d := []) h107.1 h107.2) ((rdD l79 x15 []).set x40.toNat (((rdD p0 x40 z_Tile).E) == ((rdD p0 x81 z_Tile).W))) (by simp only [List.length_set]) [0] (by decide) (by decide))
            refine ⟨trivial, ?_⟩
            refine WL.reE [0, 1, 2, 3, 10, 11, 12, 13] [(0, (.slice Aa p0.length ca)), (1, (iv p1)), (2, (iv p2)), (3, (iv p3)), (10, (.slice A77 l79.length c78)), (11, (iv x15)), (12, (iv x40)), (13, (iv x81))] [(0, (.slice Aa p0.length ca)), (1, (iv p1)), (2, (iv p2)), (3, (iv p3)), (10, (.slice A77 (l79.set x15.toNat ((rdD l79 x15 []).set x40.toNat (((rdD p0 x40 z_Tile).E) == ((rdD p0 x81 z_Tile).W)))).length c78)), (11, (iv x15)), (12, (iv x40)), (13, (iv x81))] rfl (by simp only [List.length_set]) ?_
            refine WL.done rfl ?_
            injection hx103 with hx103
            exact WX.to Kx102 (l79.set x15.toNat (e40.set x40.toNat (e15 == e32)), A77, c78, H80) e28 rfl ⟨(hS115.subR [0]).sub [0, 1] (by decide), hx103.symm⟩
           obtain ⟨h118, hx103⟩ := as_some hx103
           obtain ⟨h119, hx103⟩ := as_some hx103
           obtain ⟨h120, hx103⟩ := as_some hx103
           obtain ⟨h121, hx103⟩ := as_some hx103
           refine WC.regionD (e2, e37, e1) e36 (by kernel_rfl) (by kernel_rfl) (NoPanic.block (NoPanic.seq (NoPanic.seq (NoPanic.block (NoPanic.block (NoPanic.seq (NoPanic.seq (NoPanic.block (NoPanic.block (NoPanic.seq (NoPanic.seq (NoPanic.block (NoPanic.seq (NoPanic.body)))))))))))))) ?_
           have hS117 := hS89.drew
           revert hS117
           generalize World.drew w88 = w116
           intro hS117
           refine ⟨⟨nrow_cell (rowO.rd (hS117.own 0).1) [] h118.1 h118.2 0 rfl, nrow_cell (rowO.rd (hS117.own 0).1) [] h119.1 h119.2 0 rfl, rowR.cell (rowO.rd (rowsO.at (hS117.own 1).1 h119.1 h119.2)) false h120.1 h120.2 0 rfl, trivial⟩, forallC ?_ (forallN)⟩
           refine segF 14 [.v e8, .v e33, .v e26] [0, 1, 2, 3, 10, 11, 12, 13, 82, 83, 92] [e3, e11, e13, e12, e17, e9, e14, e24, (82, e8), (83, (iv x40)), (92, e26)] [.idx A77 x15 l79.length, .idx A77 e10 l79.length, .idx ((H80 e10.toNat).1) x81 (rdD l79 e10 []).length] [0, 1, 2] e2 (fun fb => by kernel_rfl) rfl ⟨nrow_adr (rowO.rd (hS117.own 0).1) h118.1 h118.2, nrow_adr (rowO.rd (hS117.own 0).1) h119.1 h119.2, rowR.adr (rowO.rd (rowsO.at (hS117.own 1).1 h119.1 h119.2)) h120.1 h120.2, trivial⟩ rfl ?_
           refine WL.setB 92 h104 rfl ?_
           refine seg 27 [] [0, 1, 2, 3, 10, 11, 12, 13, 104, 105] [e3, e11, e13, e12, e17, e9, e14, e24, (104, (bv false)), (105, (.pointer (some e38)))] [.idx ((H80 x15.toNat).1) x40 e40.length] (fun fb => by kernel_rfl) rfl ⟨rowR.adr (rowO.rd (rowsO.at (hS117.own 1).1 h118.1 h118.2)) h121.1 h121.2, trivial⟩ ?_
           refine WL.storeRR hS117 1 rfl h118.1 h118.2 (x40) (false) (false) [(0, (bv false))] (fun fb => by kernel_rfl) h121.1 h121.2 (by kernel_rfl) rfl [0] (by decide) (by decide) (fun w122 hS123 => ?_)
           have hS124 := hS35.go w122 [rowO 74 (encSl Bool) A77 c78 (tag H80 (l79.set x15.toNat ((rdD l79 x15 []).set x40.toNat false))), rowsO 4 encBool H80 (l79.set x15.toNat ((rdD l79 x15 []).set x40.toNat false))] (hS123.slRow 1 rfl (rdD_at (d := []) h118.1 h118.2) ((rdD l79 x15 []).set x40.toNat false) (by simp only [List.length_set]) [0] (by decide) (by decide))
           refine ⟨trivial, ?_⟩
           refine WL.reE [0, 1, 2, 3, 10, 11, 12, 13] [(0, (.slice Aa p0.length ca)), (1, (iv p1)), (2, (iv p2)), (3, (iv p3)), (10, (.slice A77 l79.length c78)), (11, (iv x15)), (12, (iv x40)), (13, (iv x81))] [(0, (.slice Aa p0.length ca)), (1, (iv p1)), (2, (iv p2)), (3, (iv p3)), (10, (.slice A77 (l79.set x15.toNat ((rdD l79 x15 []).set x40.toNat false)).length c78)), (11, (iv x15)), (12, (iv x40)), (13, (iv x81))] rfl (by simp only [List.length_set]) ?_
           refine WL.done rfl ?_
           injection hx103 with hx103
           exact WX.to Kx102 (l79.set x15.toNat (e40.set x40.toNat false), A77, c78, H80) e28 rfl ⟨(hS124.subR [0]).sub [0, 1] (by decide), hx103.symm⟩
          rintro ⟨y128, A99, c100, H101⟩ w125 ⟨hS126, hq127⟩
          subst hq127
          refine WX.blockN (WX.next ?_)
          refine WC.region ?_
          refine seg 3 [] e28 [e3, e11, e13, e12, (10, (sv A99 x102 c100)), e9, e14, (13, (iv (w64 (x81 + 1))))] [] (fun fb => by kernel_rfl) rfl trivial ?_
          refine WL.done rfl ?_
          exact WX.again k87 (Nat.lt_succ_self _) ((x102, w64 (x81 + 1)), A99, c100, H101) e28 rfl ⟨(hS126.subR [0]).sub [0, 1] (by decide), hl90⟩
         refine WC.condF2 (fun fb => by kernel_rfl) h98 ?_
         refine WC.exit ?_
         injection hl90 with hl90
         exact WX.thenX (WX.thenX (WX.blockHere (WX.to Kx85 (l79, A77, c78, H80) e27 rfl ⟨(hS89.subR [0]).sub [0, 1] (by decide), hl90.symm⟩)))
       rintro ⟨y132, A82, c83, H84⟩ w129 ⟨hS130, hq131⟩
       subst hq131
       refine WX.blockN (WX.next ?_)
       refine WC.region ?_
       refine seg 3 [] e27 [e3, e11, e13, e12, (10, (sv A82 x85 c83)), e9, (12, (iv (w64 (x40 + 1))))] [] (fun fb => by kernel_rfl) rfl trivial ?_
       refine WL.done rfl ?_
       exact WX.again k46 (Nat.lt_succ_self _) ((x85, w64 (x40 + 1)), A82, c83, H84) e27 rfl ⟨(hS130.subR [0]).sub [0, 1] (by decide), hl49⟩
      refine WC.condF2 (fun fb => by kernel_rfl) h50 ?_
      refine WC.exit ?_
      injection hl49 with hl49
      exact WX.thenX (WX.thenX (WX.blockHere (WX.to Kx44 (l38, A36, c37, H39) e50 rfl ⟨(hS48.subR [0]).sub [0, 1] (by decide), hl49.symm⟩)))
    rintro ⟨y136, A41, c42, H43⟩ w133 ⟨hS134, hq135⟩
    subst hq135
    refine WX.blockN (WX.next ?_)
    refine WC.region ?_
    refine seg 3 [] e50 [e3, e11, e13, e12, (10, (sv A41 x44 c42)), (11, (iv (w64 (x15 - 1))))] [] (fun fb => by kernel_rfl) rfl trivial ?_
    refine WL.done rfl ?_
    exact WX.again k22 (Nat.lt_succ_self _) ((x44, w64 (x15 - 1)), A41, c42, H43) e50 rfl ⟨(hS134.subR [0]).sub [0, 1] (by decide), hl25⟩
   refine WC.condF2 (fun fb => by kernel_rfl) h26 ?_
   refine WC.exit ?_
   injection hl25 with hl25
   exact WX.thenX (WX.thenX (WX.blockHere (WX.to Kx19 (l13, A11, c12, H14) [0, 1, 3, 10] rfl ⟨(hS24.subR [0]).sub [0, 1] (by decide), hl25.symm⟩)))
 rintro ⟨y140, A16, c17, H18⟩ w137 ⟨hS138, hq139⟩
 subst hq139
 refine WX.next (WC.seq (WC.region ?_))
 refine seg 1 [] [0, 1, 3, 10, 14] [e3, e11, e12, (10, (sv A16 x19 c17)), (14, (.slice none 0 0))] [] (fun fb => by kernel_rfl) rfl trivial ?_
 refine WL.done rfl (WX.next (WC.seq (WC.seq (WC.region ?_))))
 refine seg 1 [] [0, 1, 3, 10, 14, 15] [e3, e11, e12, (10, (sv A16 x19 c17)), (14, (.slice none 0 0)), (15, (iv 0))] [] (fun fb => by kernel_rfl) rfl trivial ?_
 refine WL.done rfl (WX.next ?_)
 have hS141 := hS138.nilrow 3 encInt
 obtain ⟨x149, hx150, hf⟩ := bind_some hf
 let e4 : Nat × Value := (10, (sv A16 x19 c17))
 let e21 : List Nat := [0, 1, 3, 10, 14, 15, 16, 17]
 let e48 : List Nat := [0, 1, 3, 10, 14, 15]
 refine WC.cutN (T := (List Int) × e43 × Nat) (fun t => [(14, (sv t.2.1 t.1 t.2.2))]) (fun t w1 => St NoS w w1 e23 [rowO 3 encInt t.2.1 t.2.2 t.1] ∧ x149 = .inr t.1) (fun Kx149 => ?_) ?_
 ·
  refine WC.block ?_
  refine WC.loop (T := (Int × (List Int) × Int) × e43 × Nat) (fun t => [e3, (1, (iv t.1.1)), e12, e4, (14, (sv t.2.1 t.1.2.1 t.2.2)), (15, (iv t.1.2.2))]) (fun n t w1 => St NoS w w1 e23 [rowO 74 e41 A16 c17 (tag H18 x19), rowsO 4 encBool H18 x19, rowO 3 encInt t.2.1 t.2.2 t.1.2.1] ∧ ref04_Path.l3 n t.1.1 t.1.2.1 t.1.2.2 p0 p3 x19 = some x149) k ((p1, ([] : List Int), 0), none, 0) e48 rfl ⟨(hS141.subR [0]).sub [1, 2, 0] (by decide), hx150⟩ ?_
  rintro k151 ⟨⟨x142, l145, x146⟩, A143, c144⟩ w152 ⟨hS153, hl154⟩
  let e6 : Nat × Value := (14, (sv A143 l145 c144))
  let e16 : Nat × Value := (15, (iv x146))
  let e19 : List Own := [rowO 74 e41 A16 c17 (tag H18 x19), rowsO 4 encBool H18 x19, rowO 3 encInt A143 c144 l145]
  let e20 : Nat × Value := (1, (iv x142))
  let e29 := sv ((H18 x146.toNat).1) (rdD x19 x146 []) ((H18 x146.toNat).2)
  cases k151 with
  | zero => rw [ref04_Path.l3] at hl154; cases hl154
  | succ k151 =>
   rw [ref04_Path.l3] at hl154
   refine WC.seq (WC.seq (WC.region ?_))
   refine seg 3 [] [0, 1, 3, 10, 14, 15, 108] [e3, e20, e12, e4, e6, e16, (108, (bv (decide (x146 < p3))))] [] (fun fb => by kernel_rfl) rfl trivial ?_
   refine WL.done rfl (WX.next ?_)
   rcases br_some hl154 with ⟨h155, hl154⟩ | ⟨h155, hl154⟩
   ·refine WC.condT2 (fun fb => by kernel_rfl) h155 ?_
    refine WC.skip (WX.next (WC.seq (WC.block (WC.seq (WC.region ?_)))))
    refine seg 1 [] [0, 1, 3, 10, 14, 15, 16] [e3, e20, e12, e4, e6, e16, (16, (iv (-1)))] [] (fun fb => by kernel_rfl) rfl trivial ?_
    refine WL.done rfl (WX.next (WC.seq (WC.seq (WC.region ?_))))
    refine seg 1 [] e21 [e3, e20, e12, e4, e6, e16, (16, (iv (-1))), (17, (iv 0))] [] (fun fb => by kernel_rfl) rfl trivial ?_
    refine WL.done rfl (WX.next ?_)
    obtain ⟨x158, hx159, hl154⟩ := bind_some hl154
    refine WC.cutN (T := Int) (fun t => [e3, e12, e4, e6, e16, (16, (iv t))]) (fun t w1 => St NoS w w1 e23 e19 ∧ x158 = t) (fun Kx158 => ?_) ?_
    ·
     refine WC.block ?_
     refine WC.loop (T := Int × Int) (fun t => [e3, e20, e12, e4, e6, e16, (16, (iv t.1)), (17, (iv t.2))]) (fun n t w1 => St NoS w w1 e23 e19 ∧ ref04_Path.l4 n t.1 t.2 p0 x19 x142 x146 = some x158) k151 ((-1), 0) e21 rfl ⟨(hS153.subR [0]).sub [0, 1, 2] (by decide), hx159⟩ ?_
     rintro k160 ⟨x156, x157⟩ w161 ⟨hS162, hl163⟩
     let e25 : Nat × Value := (17, (iv x157))
     let e30 : Nat × Value := (16, (iv x156))
     let e45 := bv (rdD (rdD x19 x146 []) x157 false)
     cases k160 with
     | zero => rw [ref04_Path.l4] at hl163; cases hl163
     | succ k160 =>
      rw [ref04_Path.l4] at hl163
      refine WC.seq (WC.seq (WC.region ?_))
      refine seg 5 [] [0, 1, 3, 10, 14, 15, 16, 17, 115] [e3, e20, e12, e4, e6, e16, e30, e25, (115, (bv (decide (x157 < (p0.length : Int)))))] [] (fun fb => by kernel_rfl) rfl trivial ?_
      refine WL.cutV (T := Bool) 8 (fun t => [(118, (bv t)), e3, e20, e12, e4, e6, e16, e30, e25]) (fun t => ((decide (x157 < (p0.length : Int))) && (decide (x156 < 0))) = t) (fun K => ?_) ?_
      ·
       rcases Bool.eq_false_or_eq_true (decide (x157 < (p0.length : Int))) with h164 | h164
       ·
        refine WL.setB 115 h164 rfl ?_
        refine seg 8 [] [0, 1, 3, 10, 14, 15, 16, 17, 118] [e3, e20, e12, e4, e6, e16, e30, e25, (118, (bv (decide (x156 < 0))))] [] (fun fb => by kernel_rfl) rfl trivial ?_
        exact WL.toV K (decide (x156 < 0)) [118, 0, 1, 3, 10, 14, 15, 16, 17] rfl (by first | (rw [h164]; done) | (rw [h164]; rfl))
       refine WL.setB 115 h164 rfl ?_
       refine seg 8 [] [0, 1, 3, 10, 14, 15, 16, 17, 118] [e3, e20, e12, e4, e6, e16, e30, e25, (118, (bv false))] [] (fun fb => by kernel_rfl) rfl trivial ?_
       exact WL.toV K false [118, 0, 1, 3, 10, 14, 15, 16, 17] rfl (by first | (rw [h164]; done) | (rw [h164]; rfl))
      rintro b165 rfl
      refine WL.done rfl (WX.next ?_)
      rcases br_some hl163 with ⟨h166, hl163⟩ | ⟨h166, hl163⟩
      ·refine WC.condT2 (fun fb => by kernel_rfl) h166 ?_
       refine WC.skip (WX.next (WC.seq (WC.block (WC.seq (WC.region ?_)))))
       refine seg 2 [] [0, 1, 3, 10, 14, 15, 16, 17, 121, 122] [e3, e20, e12, e4, e6, e16, e30, e25, (121, (sv A16 x19 c17)), (122, (iv x146))] [] (fun fb => by kernel_rfl) rfl trivial ?_
       obtain ⟨h167, hl163⟩ := as_some hl163
       refine seg 5 [.v e29] [0, 1, 3, 10, 14, 15, 16, 17, 124, 125] [e3, e20, e12, e4, e6, e16, e30, e25, (124, e29), (125, (iv x157))] [.idx A16 x146 x19.length, .cell ((adr A16).add ((x146).toNat * 1)) e29] (fun fb => by kernel_rfl) rfl ⟨nrow_adr (rowO.rd (hS162.own 0).1) h167.1 h167.2, nrow_cell (rowO.rd (hS162.own 0).1) [] h167.1 h167.2 0 rfl, trivial⟩ ?_
       obtain ⟨h168, hl163⟩ := as_some hl163
       refine seg 8 [.v e45] [0, 1, 3, 10, 14, 15, 16, 17, 128] [e3, e20, e12, e4, e6, e16, e30, e25, (128, e45)] [.idx ((H18 x146.toNat).1) x157 (rdD x19 x146 []).length, .cell ((adr ((H18 x146.toNat).1)).add ((x157).toNat * 1)) e45] (fun fb => by kernel_rfl) rfl ⟨rowR.adr (rowO.rd (rowsO.at (hS162.own 1).1 h167.1 h167.2)) h168.1 h168.2, rowR.cell (rowO.rd (rowsO.at (hS162.own 1).1 h167.1 h167.2)) false h168.1 h168.2 0 rfl, trivial⟩ ?_
       obtain ⟨b169, hv170, hl163⟩ := bind_some hl163
       refine WL.cutV (T := Unit) 16 (fun t => [(136, (bv b169)), e3, e20, e12, e4, e6, e16, e30, e25]) (fun t => True) (fun K => ?_) ?_
       ·
        rcases br_some hv170 with ⟨h171, hv170⟩ | ⟨h171, hv170⟩
        ·
         refine WL.setB 128 h171 rfl ?_
         refine seg 10 [] [0, 1, 3, 10, 14, 15, 16, 17, 128, 129, 130] [e3, e20, e12, e4, e6, e16, e30, e25, (128, (bv true)), (129, (sv Aa p0 ca)), (130, (iv x157))] [] (fun fb => by kernel_rfl) rfl trivial ?_
         obtain ⟨h172, hv170⟩ := as_some hv170
         refine seg 16 [.v (iv ((rdD p0 x157 z_Tile).W))] [0, 1, 3, 10, 14, 15, 16, 17, 136] [e3, e20, e12, e4, e6, e16, e30, e25, (136, (bv (((rdD p0 x157 z_Tile).W) == x142)))] [.idx Aa x157 p0.length, .cell (((adr Aa).add ((x157).toNat * 4)).add 3) (iv ((rdD p0 x157 z_Tile).W))] (fun fb => by kernel_rfl) rfl ⟨rowR.adr (hS162.rd 0).1 h172.1 h172.2, rowR.cell (hS162.rd 0).1 z_Tile h172.1 h172.2 3 rfl, trivial⟩ ?_
         injection hv170 with hv170
         subst hv170
         exact WL.toV K () [136, 0, 1, 3, 10, 14, 15, 16, 17] rfl trivial
        refine WL.setB 128 h171 rfl ?_
        refine seg 16 [] [0, 1, 3, 10, 14, 15, 16, 17, 136] [e3, e20, e12, e4, e6, e16, e30, e25, (136, (bv false))] [] (fun fb => by kernel_rfl) rfl trivial ?_
        injection hv170 with hv170
        subst hv170
        exact WL.toV K () [136, 0, 1, 3, 10, 14, 15, 16, 17] rfl trivial
       rintro _ _
       refine WL.done rfl (WX.next ?_)
       obtain ⟨x173, hx174, hl163⟩ := bind_some hl163
       refine WC.cutN (T := Int) (fun t => [e3, e20, e12, e4, e6, e16, (16, (iv t)), e25]) (fun t w1 => St NoS w w1 e23 e19 ∧ x173 = t) (fun Kx173 => ?_) ?_
       ·
        rcases br_some hx174 with ⟨h175, hx174⟩ | ⟨h175, hx174⟩
        ·refine WC.condT2 (fun fb => by kernel_rfl) h175 ?_
         refine WC.region ?_
         refine seg 2 [] e21 [e3, e20, e12, e4, e6, e16, (16, (iv x157)), e25] [] (fun fb => by kernel_rfl) rfl trivial ?_
         refine WL.done rfl ?_
         injection hx174 with hx174
         exact WX.to Kx173 x157 e21 rfl ⟨(hS162.subR [0]).sub [0, 1, 2] (by decide), hx174.symm⟩
        refine WC.condF2 (fun fb => by kernel_rfl) h175 ?_
        refine WC.skip ?_
        injection hx174 with hx174
        exact WX.to Kx173 x156 e21 rfl ⟨(hS162.subR [0]).sub [0, 1, 2] (by decide), hx174.symm⟩
       rintro y179 w176 ⟨hS177, hq178⟩
       subst hq178
       refine WX.blockN (WX.next ?_)
       refine WC.region ?_
       refine seg 3 [] e21 [e3, e20, e12, e4, e6, e16, (16, (iv x173)), (17, (iv (w64 (x157 + 1))))] [] (fun fb => by kernel_rfl) rfl trivial ?_
       refine WL.done rfl ?_
       exact WX.again k160 (Nat.lt_succ_self _) (x173, w64 (x157 + 1)) e21 rfl ⟨(hS177.subR [0]).sub [0, 1, 2] (by decide), hl163⟩
      refine WC.condF2 (fun fb => by kernel_rfl) h166 ?_
      refine WC.exit ?_
      injection hl163 with hl163
      exact WX.thenX (WX.thenX (WX.blockHere (WX.to Kx158 x156 [0, 3, 10, 14, 15, 16] rfl ⟨(hS162.subR [0]).sub [0, 1, 2] (by decide), hl163.symm⟩)))
    rintro y183 w180 ⟨hS181, hq182⟩
    subst hq182
    refine WX.next (WC.seq (WC.seq (WC.region ?_)))
    refine seg 2 [] [0, 3, 10, 14, 15, 16, 139] [e3, e12, e4, e6, e16, (16, (iv x158)), (139, (bv (decide (x158 < 0))))] [] (fun fb => by kernel_rfl) rfl trivial ?_
    refine WL.done rfl (WX.next ?_)
    rcases br_some hl154 with ⟨h184, hl154⟩ | ⟨h184, hl154⟩
    ·refine WC.condT2 (fun fb => by kernel_rfl) h184 ?_
     refine WC.seq (WC.region ?_)
     refine seg 2 [] [8, 9] [(8, (.slice none 0 0)), (9, (bv false))] [] (fun fb => by kernel_rfl) rfl trivial ?_
     refine WL.done rfl (WX.next ?_)
     refine WC.ret ?_
     have hS185 := hS181.nilrow 3 encInt
     injection hl154 with hl154
     subst hl154
     injection hf with hf
     subst hf
     exact WX.thenR (WX.blockR (WX.thenR (WX.thenR (WX.blockR (WX.thenR (WX.ret_ [] (.tuple #[(sv none ([] : List Int) 0), (bv false)]) [] (fun fb => by kernel_rfl) trivial ⟨_, rfl, none, 0, rfl, (hS185.sub [0] (by decide)).noR⟩))))))
    refine WC.condF2 (fun fb => by kernel_rfl) h184 ?_
    refine WC.skip (WX.next ?_)
    obtain ⟨h188, hl154⟩ := as_some hl154
    refine WC.regionD ([(8, (((adr Aa).add ((x158).toNat * 4)).add 1), (iv ((rdD p0 x158 z_Tile).E)))], [0, 1, 4, 5, 6, 7, 8, 9, 10], [[], [], [1], [0, 1, 2], [], [], [4, 5], [4, 5, 6], [4, 5, 6, 7], [0, 1, 2, 3], [0, 1, 2, 3, 4, 5, 6, 7, 8, 9]]) [[0, 1, 4, 5, 6, 7, 8, 2, 3, 9, 10]] (by kernel_rfl) (by kernel_rfl) (NoPanic.block (NoPanic.seq (NoPanic.seq (NoPanic.block (NoPanic.seq (NoPanic.body)))))) ?_
    have hS187 := hS181.drew
    revert hS187
    generalize World.drew w180 = w186
    intro hS187
    refine ⟨⟨rowR.cell (hS187.rd 0).1 z_Tile h188.1 h188.2 1 rfl, trivial⟩, forallC ?_ (forallN)⟩
    refine segF 7 [.v (iv ((rdD p0 x158 z_Tile).E))] [0, 3, 10, 15, 140, 141, 148] [e3, e12, e4, e16, (140, (sv A143 l145 c144)), (141, (iv x158)), (148, (iv ((rdD p0 x158 z_Tile).E)))] [.idx Aa x158 p0.length] [0] [(8, (((adr Aa).add ((x158).toNat * 4)).add 1), (iv ((rdD p0 x158 z_Tile).E)))] (fun fb => by kernel_rfl) rfl ⟨rowR.adr (hS187.rd 0).1 h188.1 h188.2, trivial⟩ rfl ?_
    refine WL.new hS187 142 [] (fun g => (.slice (some ⟨g, 0, none⟩) 1 1)) (.cells #[(iv x158)] 3 (0, 0)) [] (fun fb g => by kernel_rfl) trivial (fun g189 w190 hS191 => ?_)
    refine ⟨⟨rowR.cell (hS191.rd 0).1 z_Tile h188.1 h188.2 1 rfl, trivial⟩, ?_⟩
    have hS192 := hS9.go w190 [rowO 3 encInt (some ⟨g189, 0, none⟩) 1 [x158], rowO 74 e41 A16 c17 (tag H18 x19), rowsO 4 encBool H18 x19, rowO 3 encInt A143 c144 l145] (hS191.map1 0 _ (fun h => rowO.ofBlk h rfl (Nat.le_of_ble_eq_true (by kernel_rfl))) (fun _ h => by obtain ⟨_, h1, h2⟩ := h; injection h1 with h1; subst h1; exact h2) [1, 2, 3] (by decide) (by decide))
    obtain ⟨h193, hl154⟩ := as_some hl154
    refine WL.append hS192 3 (d := 143) (tS := 25) (z := (iv 0)) (bytes := 8) (c2 := 1) rfl (fun fb => by kernel_rfl) (rowO.rd (hS192.own 0).1) (by kernel_rfl) (by kernel_rfl) rfl (by decide) h193 (by decide) [0, 1, 2] (by decide) (by decide) (fun A194 c195 w196 hS197 => ?_)
    refine ⟨⟨rowR.cell (hS197.rd 0).1 z_Tile h188.1 h188.2 1 rfl, trivial⟩, ?_⟩
    refine seg 11 [] e48 [e3, (1, (iv ((rdD p0 x158 z_Tile).E))), e12, e4, (14, (sv A194 (l145 ++ [x158]) c195)), e16] [] (fun fb => by kernel_rfl) rfl trivial ?_
    refine WL.done rfl ?_
    refine WX.blockN (WX.next ?_)
    refine WC.region ?_
    refine seg 3 [] e48 [e3, (1, (iv ((rdD p0 x158 z_Tile).E))), e12, e4, (14, (sv A194 (l145 ++ [x158]) c195)), (15, (iv (w64 (x146 + 1))))] [] (fun fb => by kernel_rfl) rfl trivial ?_
    refine WL.done rfl ?_
    exact WX.again k151 (Nat.lt_succ_self _) (((rdD p0 x158 z_Tile).E, l145 ++ [x158], w64 (x146 + 1)), A194, c195) e48 rfl ⟨(hS197.subR [0]).sub [2, 3, 0] (by decide), hl154⟩
   refine WC.condF2 (fun fb => by kernel_rfl) h155 ?_
   refine WC.exit ?_
   injection hl154 with hl154
   exact WX.thenX (WX.thenX (WX.blockHere (WX.to Kx149 (l145, A143, c144) [14] rfl ⟨(hS153.subR [0]).sub [2] (by decide), hl154.symm⟩)))
 rintro ⟨y201, A147, c148⟩ w198 ⟨hS199, hq200⟩
 subst hq200
 have hf := sum_inr hf
 refine WX.next (WC.seq (WC.region ?_))
 refine seg 3 [] [8, 9] [(8, (sv A147 y201 c148)), (9, (bv true))] [] (fun fb => by kernel_rfl) rfl trivial ?_
 refine WL.done rfl (WX.next ?_)
 refine WC.ret ?_
 injection hf with hf
 subst hf
 exact WX.ret_ [] (.tuple #[(sv A147 y201 c148), (bv true)]) [] (fun fb => by kernel_rfl) trivial ⟨_, rfl, A147, c148, rfl, (hS199.sub [0] (by decide)).noR⟩
theorem law04_StripPaths_calls (k : Nat) (p0 : List Tile) (p1 : Int) (p2 : Int) (p3 : Int) (Aa : Option Addr) (ca : Nat) (mG : Glo) (r : Bool) (w : World) (hR0 : RO NoS w (rowR enc_Tile Aa ca p0)) (hR1 : RO NoS w (gloO Tryd.prog 2 5 0 1 mG)) (hf : law04_StripPaths k p0 p1 p2 p3 = some r) :
  CallsR Tryd.prog 5 #[(sv Aa p0 ca), (iv p1), (iv p2), (iv p3)] w (fun v w' => v = (bv r) ∧ Keeps NoS w w') := by
 have hS : St NoS w w [rowR enc_Tile Aa ca p0, gloO Tryd.prog 2 5 0 1 mG] [] := St.init (ro_cons hR0 (ro_cons hR1 (ro_nil _ _)))
 refine enter 109 Tryd.func5 rfl Tryd.ntmps5 rfl ?_
 unfold law04_StripPaths at hf
 refine WC.seq (WC.region ?_)
 refine seg 1 [] [0, 1, 2, 3] [(0, (sv Aa p0 ca)), (1, (iv p1)), (2, (iv p2)), (3, (iv p3))] [] (fun fb => by kernel_rfl) rfl trivial ?_
 refine WL.done rfl (WX.next (WC.seq (WC.seq (WC.region ?_))))
 refine seg 3 [] [0, 1, 2, 3, 17] [(0, (sv Aa p0 ca)), (1, (iv p1)), (2, (iv p2)), (3, (iv p3)), (17, (bv (decide ((p0.length : Int) > 1100))))] [] (fun fb => by kernel_rfl) rfl trivial ?_
 refine WL.done rfl (WX.next ?_)
 rcases br_some hf with ⟨h1, hf⟩ | ⟨h1, hf⟩
 ·refine WC.condT2 (fun fb => by kernel_rfl) h1 ?_
  refine WC.seq (WC.region ?_)
  obtain ⟨t6, ht7, hf⟩ := bind_some hf
  refine WL.call (some 18) 9 #[] (fun fb => by kernel_rfl) (law04_awake_calls _ mG t6 _ (hS.rd 1) ht7) (fun v w8 hR9 => ?_)
  obtain ⟨rfl, hk_⟩ := hR9
  have hS10 := hS.keepN hk_
  refine ⟨trivial, ?_⟩
  refine seg 2 [] [8] [(8, (bv t6))] [] (fun fb => by kernel_rfl) rfl trivial ?_
  refine WL.done rfl (WX.next ?_)
  refine WC.ret ?_
  injection hf with hf
  subst hf
  exact WX.thenR (WX.ret_ [] (bv t6) [] (fun fb => by kernel_rfl) trivial ⟨_, rfl, rfl, hS10.keep⟩)
 refine WC.condF2 (fun fb => by kernel_rfl) h1 ?_
 refine WC.skip (WX.next (WC.seq (WC.seq (WC.region ?_))))
 refine seg 1 [] [0, 1, 2, 3, 19] [(0, (sv Aa p0 ca)), (1, (iv p1)), (2, (iv p2)), (3, (iv p3)), (19, (sv Aa p0 ca))] [] (fun fb => by kernel_rfl) rfl trivial ?_
 obtain ⟨t11, ht12, hf⟩ := bind_some hf
 refine WL.call (some 20) 8 #[(sv Aa p0 ca)] (fun fb => by kernel_rfl) (ref01_Valid_calls _ p0 Aa ca t11 _ (hS.rd 0) ht12) (fun v w13 hR14 => ?_)
 obtain ⟨rfl, hk_⟩ := hR14
 have hS15 := hS.keepN hk_
 refine ⟨trivial, ?_⟩
 refine seg 4 [] [0, 1, 2, 3, 22] [(0, (sv Aa p0 ca)), (1, (iv p1)), (2, (iv p2)), (3, (iv p3)), (22, (bv (!t11)))] [] (fun fb => by kernel_rfl) rfl trivial ?_
 refine WL.cutV (T := Bool) 7 (fun t => [(25, (bv t)), (0, (sv Aa p0 ca)), (1, (iv p1)), (2, (iv p2)), (3, (iv p3))]) (fun t => ((!t11) || (decide (p3 < 1))) = t) (fun K => ?_) ?_
 ·
  rcases Bool.eq_false_or_eq_true (!t11) with h16 | h16
  ·
   refine WL.setB 22 h16 rfl ?_
   refine seg 7 [] [0, 1, 2, 3, 25] [(0, (sv Aa p0 ca)), (1, (iv p1)), (2, (iv p2)), (3, (iv p3)), (25, (bv true))] [] (fun fb => by kernel_rfl) rfl trivial ?_
   exact WL.toV K true [25, 0, 1, 2, 3] rfl (by first | (rw [h16]; done) | (rw [h16]; rfl))
  refine WL.setB 22 h16 rfl ?_
  refine seg 7 [] [0, 1, 2, 3, 25] [(0, (sv Aa p0 ca)), (1, (iv p1)), (2, (iv p2)), (3, (iv p3)), (25, (bv (decide (p3 < 1))))] [] (fun fb => by kernel_rfl) rfl trivial ?_
  exact WL.toV K (decide (p3 < 1)) [25, 0, 1, 2, 3] rfl (by first | (rw [h16]; done) | (rw [h16]; rfl))
 rintro b17 rfl
 refine seg 8 [] [0, 1, 2, 3, 26] [(0, (sv Aa p0 ca)), (1, (iv p1)), (2, (iv p2)), (3, (iv p3)), (26, (bv ((!t11) || (decide (p3 < 1)))))] [] (fun fb => by kernel_rfl) rfl trivial ?_
 refine WL.cutV (T := Bool) 11 (fun t => [(29, (bv t)), (0, (sv Aa p0 ca)), (1, (iv p1)), (2, (iv p2)), (3, (iv p3))]) (fun t => (((!t11) || (decide (p3 < 1))) || (decide (p3 > 40000))) = t) (fun K => ?_) ?_
 ·
  rcases Bool.eq_false_or_eq_true ((!t11) || (decide (p3 < 1))) with h18 | h18
  ·
   refine WL.setB 26 h18 rfl ?_
   refine seg 11 [] [0, 1, 2, 3, 29] [(0, (sv Aa p0 ca)), (1, (iv p1)), (2, (iv p2)), (3, (iv p3)), (29, (bv true))] [] (fun fb => by kernel_rfl) rfl trivial ?_
   exact WL.toV K true [29, 0, 1, 2, 3] rfl (by first | (rw [h18]; done) | (rw [h18]; rfl))
  refine WL.setB 26 h18 rfl ?_
  refine seg 11 [] [0, 1, 2, 3, 29] [(0, (sv Aa p0 ca)), (1, (iv p1)), (2, (iv p2)), (3, (iv p3)), (29, (bv (decide (p3 > 40000))))] [] (fun fb => by kernel_rfl) rfl trivial ?_
  exact WL.toV K (decide (p3 > 40000)) [29, 0, 1, 2, 3] rfl (by first | (rw [h18]; done) | (rw [h18]; rfl))
 rintro b19 rfl
 refine WL.done rfl (WX.next ?_)
 let e1 := sv Aa p0 ca
 rcases br_some hf with ⟨h20, hf⟩ | ⟨h20, hf⟩
 ·refine WC.condT2 (fun fb => by kernel_rfl) h20 ?_
  refine WC.seq (WC.region ?_)
  refine seg 4 [] [0, 31, 32, 33, 34] [(0, e1), (31, e1), (32, (iv p1)), (33, (iv p2)), (34, (iv p3))] [] (fun fb => by kernel_rfl) rfl trivial ?_
  obtain ⟨t21, ht22, hf⟩ := bind_some hf
  refine WL.call (some 35) 19 #[e1, (iv p1), (iv p2), (iv p3)] (fun fb => by kernel_rfl) (strip_Path_calls _ p0 p1 p2 p3 Aa ca t21 _ (hS15.rd 0) ht22) (fun v w23 hR24 => ?_)
  obtain ⟨A26, c27, rfl, hk_⟩ := hR24
  have hS25 := hS.go w23 [rowO 3 encInt A26 c27 t21.1] (hS15.call hk_ [] [] (fun g hg => hg.elim) (by simp) (by decide))
  refine ⟨trivial, ?_⟩
  refine seg 10 [] [0, 9, 10] [(0, e1), (9, (sv A26 t21.1 c27)), (10, (iv t21.2))] [] (fun fb => by kernel_rfl) rfl trivial ?_
  refine WL.done rfl (WX.next (WC.seq (WC.seq (WC.region ?_))))
  refine seg 1 [] [9, 10, 38] [(9, (sv A26 t21.1 c27)), (10, (iv t21.2)), (38, e1)] [] (fun fb => by kernel_rfl) rfl trivial ?_
  obtain ⟨t28, ht29, hf⟩ := bind_some hf
  refine WL.call (some 39) 8 #[e1] (fun fb => by kernel_rfl) (ref01_Valid_calls _ p0 Aa ca t28 _ (hS25.rd 0) ht29) (fun v w30 hR31 => ?_)
  obtain ⟨rfl, hk_⟩ := hR31
  have hS32 := hS25.keepN hk_
  refine ⟨trivial, ?_⟩
  refine seg 3 [] [9, 10, 40] [(9, (sv A26 t21.1 c27)), (10, (iv t21.2)), (40, (bv (!t28)))] [] (fun fb => by kernel_rfl) rfl trivial ?_
  refine WL.done rfl (WX.next ?_)
  rcases br_some hf with ⟨h33, hf⟩ | ⟨h33, hf⟩
  ·refine WC.condT2 (fun fb => by kernel_rfl) h33 ?_
   refine WC.seq (WC.region ?_)
   refine seg 3 [] [9, 43] [(9, (sv A26 t21.1 c27)), (43, (bv (t21.2 == 1)))] [] (fun fb => by kernel_rfl) rfl trivial ?_
   refine WL.cutV (T := Bool) 7 (fun t => [(47, (bv t))]) (fun t => ((t21.2 == 1) && ((t21.1.length : Int) == 0)) = t) (fun K => ?_) ?_
   ·
    rcases Bool.eq_false_or_eq_true (t21.2 == 1) with h34 | h34
    ·
     refine WL.setB 43 h34 rfl ?_
     refine seg 7 [] [47] [(47, (bv ((t21.1.length : Int) == 0)))] [] (fun fb => by kernel_rfl) rfl trivial ?_
     exact WL.toV K ((t21.1.length : Int) == 0) [47] rfl (by first | (rw [h34]; done) | (rw [h34]; rfl))
    refine WL.setB 43 h34 rfl ?_
    refine seg 7 [] [47] [(47, (bv false))] [] (fun fb => by kernel_rfl) rfl trivial ?_
    exact WL.toV K false [47] rfl (by first | (rw [h34]; done) | (rw [h34]; rfl))
   rintro b35 rfl
   refine seg 8 [] [48] [(48, (bv ((t21.2 == 1) && ((t21.1.length : Int) == 0))))] [] (fun fb => by kernel_rfl) rfl trivial ?_
   obtain ⟨x36, hx37, hf⟩ := bind_some hf
   refine WL.cutW (T := Bool) 10 (fun t => [(50, (bv t))]) (fun t w1 => (St NoS w w1 [rowR enc_Tile Aa ca p0, gloO Tryd.prog 2 5 0 1 mG] [] ∧ x36 = t) ∧ CellsOK [] w1) (fun K => ?_) ?_
   ·
    rcases br_some hx37 with ⟨h38, hx37⟩ | ⟨h38, hx37⟩
    ·
     refine WL.setB 48 h38 rfl ?_
     obtain ⟨t39, ht40, hx37⟩ := bind_some hx37
     refine WL.call (some 49) 9 #[] (fun fb => by kernel_rfl) (law04_awake_calls _ mG t39 _ (hS32.rd 1) ht40) (fun v w41 hR42 => ?_)
     obtain ⟨rfl, hk_⟩ := hR42
     have hS43 := hS32.keepN hk_
     refine ⟨trivial, ?_⟩
     refine seg 10 [] [50] [(50, (bv t39))] [] (fun fb => by kernel_rfl) rfl trivial ?_
     injection hx37 with hx37
     exact WL.to K t39 [50] rfl ⟨⟨(hS43.subR [0, 1]).sub [] (by decide), hx37.symm⟩, trivial⟩
    refine WL.setB 48 h38 rfl ?_
    refine seg 10 [] [50] [(50, (bv false))] [] (fun fb => by kernel_rfl) rfl trivial ?_
    injection hx37 with hx37
    exact WL.to K false [50] rfl ⟨⟨(hS32.subR [0, 1]).sub [] (by decide), hx37.symm⟩, trivial⟩
   rintro y44 w46 ⟨⟨hS47, hq45⟩, hF48⟩
   subst hq45
   refine seg 11 [] [8] [(8, (bv x36))] [] (fun fb => by kernel_rfl) rfl trivial ?_
   refine WL.done rfl (WX.next ?_)
   refine WC.ret ?_
   injection hf with hf
   subst hf
   exact WX.thenR (WX.thenR (WX.ret_ [] (bv x36) [] (fun fb => by kernel_rfl) trivial ⟨_, rfl, rfl, hS47.keep⟩))
  refine WC.condF2 (fun fb => by kernel_rfl) h33 ?_
  refine WC.skip (WX.next (WC.seq (WC.region ?_)))
  refine seg 3 [] [9, 53] [(9, (sv A26 t21.1 c27)), (53, (bv (t21.2 == 2)))] [] (fun fb => by kernel_rfl) rfl trivial ?_
  refine WL.cutV (T := Bool) 7 (fun t => [(57, (bv t))]) (fun t => ((t21.2 == 2) && ((t21.1.length : Int) == 0)) = t) (fun K => ?_) ?_
  ·
   rcases Bool.eq_false_or_eq_true (t21.2 == 2) with h49 | h49
   ·
    refine WL.setB 53 h49 rfl ?_
    refine seg 7 [] [57] [(57, (bv ((t21.1.length : Int) == 0)))] [] (fun fb => by kernel_rfl) rfl trivial ?_
    exact WL.toV K ((t21.1.length : Int) == 0) [57] rfl (by first | (rw [h49]; done) | (rw [h49]; rfl))
   refine WL.setB 53 h49 rfl ?_
   refine seg 7 [] [57] [(57, (bv false))] [] (fun fb => by kernel_rfl) rfl trivial ?_
   exact WL.toV K false [57] rfl (by first | (rw [h49]; done) | (rw [h49]; rfl))
  rintro b50 rfl
  refine seg 8 [] [58] [(58, (bv ((t21.2 == 2) && ((t21.1.length : Int) == 0))))] [] (fun fb => by kernel_rfl) rfl trivial ?_
  obtain ⟨x51, hx52, hf⟩ := bind_some hf
  refine WL.cutW (T := Bool) 10 (fun t => [(60, (bv t))]) (fun t w1 => (St NoS w w1 [rowR enc_Tile Aa ca p0, gloO Tryd.prog 2 5 0 1 mG] [] ∧ x51 = t) ∧ CellsOK [] w1) (fun K => ?_) ?_
  ·
   rcases br_some hx52 with ⟨h53, hx52⟩ | ⟨h53, hx52⟩
   ·
    refine WL.setB 58 h53 rfl ?_
    obtain ⟨t54, ht55, hx52⟩ := bind_some hx52
    refine WL.call (some 59) 9 #[] (fun fb => by kernel_rfl) (law04_awake_calls _ mG t54 _ (hS32.rd 1) ht55) (fun v w56 hR57 => ?_)
    obtain ⟨rfl, hk_⟩ := hR57
    have hS58 := hS32.keepN hk_
    refine ⟨trivial, ?_⟩
    refine seg 10 [] [60] [(60, (bv t54))] [] (fun fb => by kernel_rfl) rfl trivial ?_
    injection hx52 with hx52
    exact WL.to K t54 [60] rfl ⟨⟨(hS58.subR [0, 1]).sub [] (by decide), hx52.symm⟩, trivial⟩
   refine WL.setB 58 h53 rfl ?_
   refine seg 10 [] [60] [(60, (bv false))] [] (fun fb => by kernel_rfl) rfl trivial ?_
   injection hx52 with hx52
   exact WL.to K false [60] rfl ⟨⟨(hS32.subR [0, 1]).sub [] (by decide), hx52.symm⟩, trivial⟩
  rintro y59 w61 ⟨⟨hS62, hq60⟩, hF63⟩
  subst hq60
  refine seg 11 [] [8] [(8, (bv x51))] [] (fun fb => by kernel_rfl) rfl trivial ?_
  refine WL.done rfl (WX.next ?_)
  refine WC.ret ?_
  injection hf with hf
  subst hf
  exact WX.thenR (WX.ret_ [] (bv x51) [] (fun fb => by kernel_rfl) trivial ⟨_, rfl, rfl, hS62.keep⟩)
 refine WC.condF2 (fun fb => by kernel_rfl) h20 ?_
 refine WC.skip (WX.next (WC.seq (WC.seq (WC.region ?_))))
 refine seg 9 [] [0, 1, 2, 3, 69] [(0, e1), (1, (iv p1)), (2, (iv p2)), (3, (iv p3)), (69, (bv (decide (w64 (p3 * (maxI (w64 ((p0.length : Int) * (p0.length : Int))) 1)) > 300000))))] [] (fun fb => by kernel_rfl) rfl trivial ?_
 refine WL.done rfl (WX.next ?_)
 rcases br_some hf with ⟨h65, hf⟩ | ⟨h65, hf⟩
 ·refine WC.condT2 (fun fb => by kernel_rfl) h65 ?_
  refine WC.seq (WC.region ?_)
  obtain ⟨t66, ht67, hf⟩ := bind_some hf
  refine WL.call (some 70) 9 #[] (fun fb => by kernel_rfl) (law04_awake_calls _ mG t66 _ (hS15.rd 1) ht67) (fun v w68 hR69 => ?_)
  obtain ⟨rfl, hk_⟩ := hR69
  have hS70 := hS15.keepN hk_
  refine ⟨trivial, ?_⟩
  refine seg 2 [] [8] [(8, (bv t66))] [] (fun fb => by kernel_rfl) rfl trivial ?_
  refine WL.done rfl (WX.next ?_)
  refine WC.ret ?_
  injection hf with hf
  subst hf
  exact WX.thenR (WX.ret_ [] (bv t66) [] (fun fb => by kernel_rfl) trivial ⟨_, rfl, rfl, hS70.keep⟩)
 refine WC.condF2 (fun fb => by kernel_rfl) h65 ?_
 refine WC.skip (WX.next (WC.seq (WC.region ?_)))
 refine seg 4 [] [0, 1, 2, 3, 72, 73, 74, 75] [(0, e1), (1, (iv p1)), (2, (iv p2)), (3, (iv p3)), (72, e1), (73, (iv p1)), (74, (iv p2)), (75, (iv p3))] [] (fun fb => by kernel_rfl) rfl trivial ?_
 obtain ⟨t71, ht72, hf⟩ := bind_some hf
 refine WL.call (some 76) 19 #[e1, (iv p1), (iv p2), (iv p3)] (fun fb => by kernel_rfl) (strip_Path_calls _ p0 p1 p2 p3 Aa ca t71 _ (hS15.rd 0) ht72) (fun v w73 hR74 => ?_)
 obtain ⟨A76, c77, rfl, hk_⟩ := hR74
 have hS75 := hS.go w73 [rowO 3 encInt A76 c77 t71.1] (hS15.call hk_ [] [] (fun g hg => hg.elim) (by simp) (by decide))
 refine ⟨trivial, ?_⟩
 refine seg 10 [] [0, 1, 2, 3, 11, 12] [(0, e1), (1, (iv p1)), (2, (iv p2)), (3, (iv p3)), (11, (sv A76 t71.1 c77)), (12, (iv t71.2))] [] (fun fb => by kernel_rfl) rfl trivial ?_
 refine WL.done rfl (WX.next (WC.seq (WC.region ?_)))
 refine seg 4 [] [11, 12, 80, 81, 82, 83] [(11, (sv A76 t71.1 c77)), (12, (iv t71.2)), (80, e1), (81, (iv p1)), (82, (iv p2)), (83, (iv p3))] [] (fun fb => by kernel_rfl) rfl trivial ?_
 obtain ⟨t78, ht79, hf⟩ := bind_some hf
 refine WL.call (some 84) 20 #[e1, (iv p1), (iv p2), (iv p3)] (fun fb => by kernel_rfl) (ref04_Path_calls _ p0 p1 p2 p3 Aa ca t78 _ (hS75.rd 0) ht79) (fun v w80 hR81 => ?_)
 obtain ⟨A83, c84, rfl, hk_⟩ := hR81
 have hS82 := hS75.go w80 [rowO 3 encInt A83 c84 t78.1, rowO 3 encInt A76 c77 t71.1] (hS75.call hk_ [] [0] (fun g hg => hg.elim) (by simp) (by decide))
 refine ⟨trivial, ?_⟩
 refine seg 10 [] [11, 12, 13, 14] [(11, (sv A76 t71.1 c77)), (12, (iv t71.2)), (13, (sv A83 t78.1 c84)), (14, (bv t78.2))] [] (fun fb => by kernel_rfl) rfl trivial ?_
 refine WL.done rfl (WX.next (WC.seq (WC.seq (WC.region ?_))))
 refine seg 2 [] [11, 12, 13, 88] [(11, (sv A76 t71.1 c77)), (12, (iv t71.2)), (13, (sv A83 t78.1 c84)), (88, (bv (!t78.2)))] [] (fun fb => by kernel_rfl) rfl trivial ?_
 refine WL.done rfl (WX.next ?_)
 rcases br_some hf with ⟨h85, hf⟩ | ⟨h85, hf⟩
 ·refine WC.condT2 (fun fb => by kernel_rfl) h85 ?_
  refine WC.seq (WC.region ?_)
  refine seg 3 [] [11, 91] [(11, (sv A76 t71.1 c77)), (91, (bv (t71.2 == 6)))] [] (fun fb => by kernel_rfl) rfl trivial ?_
  refine WL.cutV (T := Bool) 7 (fun t => [(95, (bv t))]) (fun t => ((t71.2 == 6) && ((t71.1.length : Int) == 0)) = t) (fun K => ?_) ?_
  ·
   rcases Bool.eq_false_or_eq_true (t71.2 == 6) with h86 | h86
   ·
    refine WL.setB 91 h86 rfl ?_
    refine seg 7 [] [95] [(95, (bv ((t71.1.length : Int) == 0)))] [] (fun fb => by kernel_rfl) rfl trivial ?_
    exact WL.toV K ((t71.1.length : Int) == 0) [95] rfl (by first | (rw [h86]; done) | (rw [h86]; rfl))
   refine WL.setB 91 h86 rfl ?_
   refine seg 7 [] [95] [(95, (bv false))] [] (fun fb => by kernel_rfl) rfl trivial ?_
   exact WL.toV K false [95] rfl (by first | (rw [h86]; done) | (rw [h86]; rfl))
  rintro b87 rfl
  refine seg 8 [] [96] [(96, (bv ((t71.2 == 6) && ((t71.1.length : Int) == 0))))] [] (fun fb => by kernel_rfl) rfl trivial ?_
  obtain ⟨x88, hx89, hf⟩ := bind_some hf
  refine WL.cutW (T := Bool) 10 (fun t => [(98, (bv t))]) (fun t w1 => (St NoS w w1 [rowR enc_Tile Aa ca p0, gloO Tryd.prog 2 5 0 1 mG] [] ∧ x88 = t) ∧ CellsOK [] w1) (fun K => ?_) ?_
  ·
   rcases br_some hx89 with ⟨h90, hx89⟩ | ⟨h90, hx89⟩
   ·
    refine WL.setB 96 h90 rfl ?_
    obtain ⟨t91, ht92, hx89⟩ := bind_some hx89
    refine WL.call (some 97) 9 #[] (fun fb => by kernel_rfl) (law04_awake_calls _ mG t91 _ (hS82.rd 1) ht92) (fun v w93 hR94 => ?_)
    obtain ⟨rfl, hk_⟩ := hR94
    have hS95 := hS82.keepN hk_
    refine ⟨trivial, ?_⟩
    refine seg 10 [] [98] [(98, (bv t91))] [] (fun fb => by kernel_rfl) rfl trivial ?_
    injection hx89 with hx89
    exact WL.to K t91 [98] rfl ⟨⟨(hS95.subR [0, 1]).sub [] (by decide), hx89.symm⟩, trivial⟩
   refine WL.setB 96 h90 rfl ?_
   refine seg 10 [] [98] [(98, (bv false))] [] (fun fb => by kernel_rfl) rfl trivial ?_
   injection hx89 with hx89
   exact WL.to K false [98] rfl ⟨⟨(hS82.subR [0, 1]).sub [] (by decide), hx89.symm⟩, trivial⟩
  rintro y96 w98 ⟨⟨hS99, hq97⟩, hF100⟩
  subst hq97
  refine seg 11 [] [8] [(8, (bv x88))] [] (fun fb => by kernel_rfl) rfl trivial ?_
  refine WL.done rfl (WX.next ?_)
  refine WC.ret ?_
  injection hf with hf
  subst hf
  exact WX.thenR (WX.ret_ [] (bv x88) [] (fun fb => by kernel_rfl) trivial ⟨_, rfl, rfl, hS99.keep⟩)
 refine WC.condF2 (fun fb => by kernel_rfl) h85 ?_
 refine WC.skip (WX.next (WC.seq (WC.region ?_)))
 refine seg 3 [] [11, 13, 101] [(11, (sv A76 t71.1 c77)), (13, (sv A83 t78.1 c84)), (101, (bv (t71.2 == 0)))] [] (fun fb => by kernel_rfl) rfl trivial ?_
 obtain ⟨x101, hx102, hf⟩ := bind_some hf
 refine WL.cutW (T := Bool) 7 (fun t => [(105, (bv t))]) (fun t w1 => (St NoS w w1 [rowR enc_Tile Aa ca p0, gloO Tryd.prog 2 5 0 1 mG] [] ∧ x101 = t) ∧ CellsOK [] w1) (fun K => ?_) ?_
 ·
  rcases br_some hx102 with ⟨h103, hx102⟩ | ⟨h103, hx102⟩
  ·
   refine WL.setB 101 h103 rfl ?_
   refine seg 5 [] [101, 102, 103] [(101, (bv true)), (102, (sv A76 t71.1 c77)), (103, (sv A83 t78.1 c84))] [] (fun fb => by kernel_rfl) rfl trivial ?_
   obtain ⟨t104, ht105, hx102⟩ := bind_some hx102
   refine WL.call (some 104) 12 #[(sv A76 t71.1 c77), (sv A83 t78.1 c84)] (fun fb => by kernel_rfl) (ref01_Same_calls _ t71.1 t78.1 A76 c77 A83 c84 t104 _ (hS82.ow 1).ofO (hS82.ow 0).ofO ht105) (fun v w106 hR107 => ?_)
   obtain ⟨rfl, hk_⟩ := hR107
   have hS108 := hS82.keepN hk_
   refine ⟨trivial, ?_⟩
   refine seg 7 [] [105] [(105, (bv t104))] [] (fun fb => by kernel_rfl) rfl trivial ?_
   injection hx102 with hx102
   exact WL.to K t104 [105] rfl ⟨⟨(hS108.subR [0, 1]).sub [] (by decide), hx102.symm⟩, trivial⟩
  refine WL.setB 101 h103 rfl ?_
  refine seg 7 [] [105] [(105, (bv false))] [] (fun fb => by kernel_rfl) rfl trivial ?_
  injection hx102 with hx102
  exact WL.to K false [105] rfl ⟨⟨(hS82.subR [0, 1]).sub [] (by decide), hx102.symm⟩, trivial⟩
 rintro y109 w111 ⟨⟨hS112, hq110⟩, hF113⟩
 subst hq110
 refine seg 8 [] [106] [(106, (bv x101))] [] (fun fb => by kernel_rfl) rfl trivial ?_
 obtain ⟨x114, hx115, hf⟩ := bind_some hf
 refine WL.cutW (T := Bool) 10 (fun t => [(108, (bv t))]) (fun t w1 => (St NoS w w1 [rowR enc_Tile Aa ca p0, gloO Tryd.prog 2 5 0 1 mG] [] ∧ x114 = t) ∧ CellsOK [] w1) (fun K => ?_) ?_
 ·
  rcases br_some hx115 with ⟨h116, hx115⟩ | ⟨h116, hx115⟩
  ·
   refine WL.setB 106 h116 rfl ?_
   obtain ⟨t117, ht118, hx115⟩ := bind_some hx115
   refine WL.call (some 107) 9 #[] (fun fb => by kernel_rfl) (law04_awake_calls _ mG t117 _ (hS112.rd 1) ht118) (fun v w119 hR120 => ?_)
   obtain ⟨rfl, hk_⟩ := hR120
   have hS121 := hS112.keepN hk_
   refine ⟨trivial, ?_⟩
   refine seg 10 [] [108] [(108, (bv t117))] [] (fun fb => by kernel_rfl) rfl trivial ?_
   injection hx115 with hx115
   exact WL.to K t117 [108] rfl ⟨⟨(hS121.subR [0, 1]).sub [] (by decide), hx115.symm⟩, trivial⟩
  refine WL.setB 106 h116 rfl ?_
  refine seg 10 [] [108] [(108, (bv false))] [] (fun fb => by kernel_rfl) rfl trivial ?_
  injection hx115 with hx115
  exact WL.to K false [108] rfl ⟨⟨(hS112.subR [0, 1]).sub [] (by decide), hx115.symm⟩, trivial⟩
 rintro y122 w124 ⟨⟨hS125, hq123⟩, hF126⟩
 subst hq123
 refine seg 11 [] [8] [(8, (bv x114))] [] (fun fb => by kernel_rfl) rfl trivial ?_
 refine WL.done rfl (WX.next ?_)
 refine WC.ret ?_
 injection hf with hf
 subst hf
 exact WX.ret_ [] (bv x114) [] (fun fb => by kernel_rfl) trivial ⟨_, rfl, rfl, hS125.keep⟩
end Gp
