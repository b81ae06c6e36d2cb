/- Walks: each function of the program computes its plain function. -/
import Derived.Test.YtchikbfmbfoaoaaGreatDoorGp
set_option linter.unusedVariables false
set_option linter.unusedSimpArgs false
set_option maxHeartbeats 4000000
set_option maxRecDepth 8000
namespace Gp
open Go Gw Go.Proofs
theorem ref01_colour_calls (p0 : Int)  (r : Bool) (w : World)  (hf : ref01_colour p0 = some r) :
  CallsR Tryz.prog 12 #[(iv p0)] w (fun v w' => v = (bv r) ∧ Keeps NoS w w') := by
 have hS : St NoS w w [] [] := St.init (ro_nil _ _)
 refine enter 9 Tryz.func12 rfl Tryz.ntmps12 rfl ?_
 unfold ref01_colour at hf
 refine WC.seq (WC.region ?_)
 refine seg 1 [] [0] [(0, (iv p0))] [] (fun fb => by kernel_rfl) rfl trivial ?_
 refine WL.done rfl (WX.next (WC.seq (WC.region ?_)))
 refine seg 3 [] [0, 5] [(0, (iv p0)), (5, (bv (decide (p0 ≥ 0))))] [] (fun fb => by kernel_rfl) rfl trivial ?_
 refine WL.cutV (T := Bool) 6 (fun t => [(8, (bv t))]) (fun t => ((decide (p0 ≥ 0)) && (decide (p0 < 1000))) = t) (fun K => ?_) ?_
 ·
  rcases Bool.eq_false_or_eq_true (decide (p0 ≥ 0)) with h10 | h10
  ·
   refine WL.setB 5 h10 rfl ?_
   refine seg 6 [] [8] [(8, (bv (decide (p0 < 1000))))] [] (fun fb => by kernel_rfl) rfl trivial ?_
   exact WL.toV K (decide (p0 < 1000)) [8] rfl (by first | (rw [h10]; done) | (rw [h10]; rfl))
  refine WL.setB 5 h10 rfl ?_
  refine seg 6 [] [8] [(8, (bv false))] [] (fun fb => by kernel_rfl) rfl trivial ?_
  exact WL.toV K false [8] rfl (by first | (rw [h10]; done) | (rw [h10]; rfl))
 rintro b11 rfl
 refine seg 7 [] [2] [(2, (bv ((decide (p0 ≥ 0)) && (decide (p0 < 1000)))))] [] (fun fb => by kernel_rfl) rfl trivial ?_
 refine WL.done rfl (WX.next ?_)
 refine WC.ret ?_
 injection hf with hf
 subst hf
 exact WX.ret_ [] (bv ((decide (p0 ≥ 0)) && (decide (p0 < 1000)))) [] (fun fb => by kernel_rfl) trivial ⟨_, rfl, rfl, hS.keep⟩
theorem ref01_Index_calls (k : Nat) (p0 : List Tile) (p1 : Tile) (Aa : Option Addr) (ca : Nat) (r : Int) (w : World) (hR0 : RO NoS w (rowR enc_Tile Aa ca p0)) (hf : ref01_Index k p0 p1 = some r) :
  CallsR Tryz.prog 13 #[(sv Aa p0 ca), (.agg #[(iv p1.N), (iv p1.E), (iv p1.S), (iv p1.W)])] w (fun v w' => v = (iv r) ∧ Keeps NoS w w') := by
 have hS : St NoS w w [rowR enc_Tile Aa ca p0] [] := St.init (ro_cons hR0 (ro_nil _ _))
 refine enter 19 Tryz.func13 rfl Tryz.ntmps13 rfl ?_
 unfold ref01_Index at hf
 refine WC.seq (WC.region ?_)
 refine WL.new hS 3 [] (fun g => (pt g)) (.cells #[(iv p1.N), (iv p1.E), (iv p1.S), (iv p1.W)] 32 (0, 0)) [] (fun fb g => by kernel_rfl) trivial (fun g76 w77 hS78 => ?_)
 refine ⟨trivial, ?_⟩
 refine seg 2 [] [0, 3] [(0, (sv Aa p0 ca)), (3, (pt g76))] [] (fun fb => by kernel_rfl) rfl trivial ?_
 refine WL.done rfl (WX.next (WC.seq (WC.seq (WC.region ?_))))
 refine seg 1 [] [0, 3, 5] [(0, (sv Aa p0 ca)), (3, (pt g76)), (5, (iv 0))] [] (fun fb => by kernel_rfl) rfl trivial ?_
 refine WL.done rfl (WX.next ?_)
 obtain ⟨x96, hx97, hf⟩ := bind_some hf
 refine WC.cutN (T := Unit) (fun t => []) (fun t w1 => St NoS w w1 [rowR enc_Tile Aa ca p0] [] ∧ x96 = .inr t) (fun Kx96 => ?_) ?_
 ·
  refine WC.block ?_
  refine WC.loop (T := Int) (fun t => [(0, (sv Aa p0 ca)), (3, (pt g76)), (5, (iv t))]) (fun n t w1 => St NoS w w1 [rowR enc_Tile Aa ca p0] [blk g76 (.cells #[(iv p1.N), (iv p1.E), (iv p1.S), (iv p1.W)] 32 (0, 0))] ∧ ref01_Index.l0 n t p0 p1 = some x96) k 0 [0, 3, 5] rfl ⟨(hS78.subR [0]).sub [0] (by decide), hx97⟩ ?_
  rintro k98 x95 w99 ⟨hS3, hl4⟩
  let e3 := (adr Aa).add ((x95).toNat * 4)
  let e1 : List (Nat × Addr × Value) := [(3, e3, (iv ((rdD p0 x95 z_Tile).N))), (3, (e3.add 1), (iv ((rdD p0 x95 z_Tile).E))), (3, (e3.add 2), (iv ((rdD p0 x95 z_Tile).S))), (3, (e3.add 3), (iv ((rdD p0 x95 z_Tile).W))), (4, ⟨g76, 0, none⟩, (iv p1.N)), (4, ⟨g76, 1, none⟩, (iv p1.E)), (4, ⟨g76, 2, none⟩, (iv p1.S)), (4, ⟨g76, 3, none⟩, (iv p1.W))]
  let e2 := rdD p0 x95 z_Tile
  cases k98 with
  | zero => rw [ref01_Index.l0] at hl4; cases hl4
  | succ k98 =>
   rw [ref01_Index.l0] at hl4
   refine WC.seq (WC.seq (WC.region ?_))
   refine seg 4 [] [0, 3, 5, 9] [(0, (sv Aa p0 ca)), (3, (pt g76)), (5, (iv x95)), (9, (bv (decide (x95 < (p0.length : Int)))))] [] (fun fb => by kernel_rfl) rfl trivial ?_
   refine WL.done rfl (WX.next ?_)
   rcases br_some hl4 with ⟨h5, hl4⟩ | ⟨h5, hl4⟩
   ·refine WC.condT2 (fun fb => by kernel_rfl) h5 ?_
    refine WC.skip (WX.next (WC.seq (WC.block (WC.seq ?_))))
    obtain ⟨h8, hl4⟩ := as_some hl4
    refine WC.regionD (e1, [0, 1, 2, 3, 4, 5], [[], [], [0, 1], [0, 1, 2], [], [0, 1, 2, 3, 4]]) [[0, 1, 2, 3, 4, 5]] (by kernel_rfl) (by kernel_rfl) (NoPanic.seq (NoPanic.block (NoPanic.seq (NoPanic.seq (NoPanic.block (NoPanic.seq (NoPanic.body))))))) ?_
    have hS7 := hS3.drew
    revert hS7
    generalize World.drew w99 = w6
    intro hS7
    refine ⟨⟨rowR.cell (hS7.rd 0).1 z_Tile h8.1 h8.2 0 rfl, rowR.cell (hS7.rd 0).1 z_Tile h8.1 h8.2 1 rfl, rowR.cell (hS7.rd 0).1 z_Tile h8.1 h8.2 2 rfl, rowR.cell (hS7.rd 0).1 z_Tile h8.1 h8.2 3 rfl, hS7.cell 0 rfl 0 rfl, hS7.cell 0 rfl 1 rfl, hS7.cell 0 rfl 2 rfl, hS7.cell 0 rfl 3 rfl, trivial⟩, forallC ?_ (forallN)⟩
    refine segF 6 [.v (iv (e2.N)), .v (iv (e2.E)), .v (iv (e2.S)), .v (iv (e2.W)), .v (iv p1.N), .v (iv p1.E), .v (iv p1.S), .v (iv p1.W)] [0, 3, 5, 17] [(0, (sv Aa p0 ca)), (3, (pt g76)), (5, (iv x95)), (17, (bv ((e2.N) == p1.N && ((e2.E) == p1.E && ((e2.S) == p1.S && ((e2.W) == p1.W))))))] [.idx Aa x95 p0.length] [0, 1, 2, 3, 4, 5, 6, 7] e1 (fun fb => by kernel_rfl) rfl ⟨rowR.adr (hS7.rd 0).1 h8.1 h8.2, trivial⟩ rfl ?_
    refine WL.done rfl (WX.next ?_)
    rcases br_some hl4 with ⟨h9, hl4⟩ | ⟨h9, hl4⟩
    ·refine WC.condT2 (fun fb => by kernel_rfl) h9 ?_
     refine WC.seq (WC.region ?_)
     refine seg 2 [] [4] [(4, (iv x95))] [] (fun fb => by kernel_rfl) rfl trivial ?_
     refine WL.done rfl (WX.next ?_)
     refine WC.ret ?_
     injection hl4 with hl4
     subst hl4
     injection hf with hf
     subst hf
     exact WX.blockR (WX.thenR (WX.thenR (WX.blockR (WX.thenR (WX.ret_ [] (iv x95) [] (fun fb => by kernel_rfl) trivial ⟨_, rfl, rfl, hS7.keep⟩)))))
    refine WC.condF2 (fun fb => by kernel_rfl) h9 ?_
    refine WC.skip ?_
    refine WX.blockN (WX.next ?_)
    refine WC.region ?_
    refine seg 3 [] [0, 3, 5] [(0, (sv Aa p0 ca)), (3, (pt g76)), (5, (iv (w64 (x95 + 1))))] [] (fun fb => by kernel_rfl) rfl trivial ?_
    refine WL.done rfl ?_
    exact WX.again k98 (Nat.lt_succ_self _) (w64 (x95 + 1)) [0, 3, 5] rfl ⟨(hS7.subR [0]).sub [0] (by decide), hl4⟩
   refine WC.condF2 (fun fb => by kernel_rfl) h5 ?_
   refine WC.exit ?_
   injection hl4 with hl4
   exact WX.thenX (WX.thenX (WX.blockHere (WX.to Kx96 () [] rfl ⟨(hS3.subR [0]).sub [] (by decide), hl4.symm⟩)))
 rintro y14 w10 ⟨hS11, hq12⟩
 subst hq12
 have hf := sum_inr hf
 refine WX.next (WC.seq (WC.region ?_))
 refine seg 1 [] [4] [(4, (iv (-1)))] [] (fun fb => by kernel_rfl) rfl trivial ?_
 refine WL.done rfl (WX.next ?_)
 refine WC.ret ?_
 injection hf with hf
 subst hf
 exact WX.ret_ [] (iv (-1)) [] (fun fb => by kernel_rfl) trivial ⟨_, rfl, rfl, hS11.keep⟩
theorem ref01_Valid_calls (k : Nat) (p0 : List Tile) (Aa : Option Addr) (ca : Nat) (r : Bool) (w : World) (hR0 : RO NoS w (rowR enc_Tile Aa ca p0)) (hf : ref01_Valid k p0 = some r) :
  CallsR Tryz.prog 4 #[(sv Aa p0 ca)] w (fun v w' => v = (bv r) ∧ Keeps NoS w w') := by
 have hS : St NoS w w [rowR enc_Tile Aa ca p0] [] := St.init (ro_cons hR0 (ro_nil _ _))
 refine enter 48 Tryz.func4 rfl Tryz.ntmps4 rfl ?_
 unfold ref01_Valid at hf
 refine WC.seq (WC.region ?_)
 refine seg 1 [] [0] [(0, (sv Aa p0 ca))] [] (fun fb => by kernel_rfl) rfl trivial ?_
 refine WL.done rfl (WX.next (WC.seq (WC.seq (WC.region ?_))))
 refine seg 3 [] [0, 7] [(0, (sv Aa p0 ca)), (7, (bv (decide ((p0.length : Int) > 1000))))] [] (fun fb => by kernel_rfl) rfl trivial ?_
 refine WL.done rfl (WX.next ?_)
 rcases br_some hf with ⟨h1, hf⟩ | ⟨h1, hf⟩
 ·refine WC.condT2 (fun fb => by kernel_rfl) h1 ?_
  refine WC.seq (WC.region ?_)
  refine seg 1 [] [2] [(2, (bv false))] [] (fun fb => by kernel_rfl) rfl trivial ?_
  refine WL.done rfl (WX.next ?_)
  refine WC.ret ?_
  injection hf with hf
  subst hf
  exact WX.thenR (WX.ret_ [] (bv false) [] (fun fb => by kernel_rfl) trivial ⟨_, rfl, rfl, hS.keep⟩)
 refine WC.condF2 (fun fb => by kernel_rfl) h1 ?_
 refine WC.skip (WX.next (WC.seq (WC.seq (WC.region ?_))))
 refine seg 1 [] [0, 3] [(0, (sv Aa p0 ca)), (3, (iv 0))] [] (fun fb => by kernel_rfl) rfl trivial ?_
 refine WL.done rfl (WX.next ?_)
 obtain ⟨x5, hx6, hf⟩ := bind_some hf
 let e2 : Nat × Value := (0, (sv Aa p0 ca))
 let e5 : List Nat := [0, 1, 2, 3, 4, 5, 6, 7, 8, 9, 10, 11, 12, 13, 14, 15, 16, 17, 18, 19, 20, 21, 22]
 let e6 : List Own := [rowR enc_Tile Aa ca p0]
 let e8 := (subA Aa ca (0 : Int).toNat 4)
 let e13 := (ca - (0 : Int).toNat)
 refine WC.cutN (T := Unit) (fun t => []) (fun t w1 => St NoS w w1 e6 [] ∧ x5 = .inr t) (fun Kx5 => ?_) ?_
 ·
  refine WC.block ?_
  refine WC.loop (T := Int) (fun t => [e2, (3, (iv t))]) (fun n t w1 => St NoS w w1 e6 [] ∧ ref01_Valid.l0 n t p0 = some x5) k 0 [0, 3] rfl ⟨(hS.subR [0]).sub [] (by decide), hx6⟩ ?_
  rintro k7 x3 w8 ⟨hS9, hl10⟩
  let e1 := rdD p0 x3 z_Tile
  let e3 : Array Value := #[(iv (e1.N)), (iv (e1.E)), (iv (e1.S)), (iv (e1.W))]
  let e4 : Nat × Value := (3, (iv x3))
  let e7 := (adr Aa).add ((x3).toNat * 4)
  let e9 := iv (e1.N)
  let e10 := iv (e1.E)
  let e11 := iv (e1.S)
  let e12 := iv (e1.W)
  cases k7 with
  | zero => rw [ref01_Valid.l0] at hl10; cases hl10
  | succ k7 =>
   rw [ref01_Valid.l0] at hl10
   refine WC.seq (WC.seq (WC.region ?_))
   refine seg 4 [] [0, 3, 11] [e2, e4, (11, (bv (decide (x3 < (p0.length : Int)))))] [] (fun fb => by kernel_rfl) rfl trivial ?_
   refine WL.done rfl (WX.next ?_)
   rcases br_some hl10 with ⟨h11, hl10⟩ | ⟨h11, hl10⟩
   ·refine WC.condT2 (fun fb => by kernel_rfl) h11 ?_
    refine WC.skip (WX.next (WC.seq (WC.block (WC.seq (WC.region ?_)))))
    refine seg 2 [] [0, 3, 14, 15] [e2, e4, (14, (sv Aa p0 ca)), (15, (iv x3))] [] (fun fb => by kernel_rfl) rfl trivial ?_
    obtain ⟨h12, hl10⟩ := as_some hl10
    refine seg 4 [.v e9, .v e10, .v e11, .v e12] [0, 3, 17] [e2, e4, (17, (.agg e3))] [.idx Aa x3 p0.length, .cell e7 e9, .cell (e7.add 1) e10, .cell (e7.add 2) e11, .cell (e7.add 3) e12] (fun fb => by kernel_rfl) rfl ⟨rowR.adr (hS9.rd 0).1 h12.1 h12.2, rowR.cell (hS9.rd 0).1 z_Tile h12.1 h12.2 0 rfl, rowR.cell (hS9.rd 0).1 z_Tile h12.1 h12.2 1 rfl, rowR.cell (hS9.rd 0).1 z_Tile h12.1 h12.2 2 rfl, rowR.cell (hS9.rd 0).1 z_Tile h12.1 h12.2 3 rfl, trivial⟩ ?_
    refine WL.new hS9 4 [] (fun g => (pt g)) (.cells #[(iv 0), (iv 0), (iv 0), (iv 0)] 32 (0, 0)) [] (fun fb g => by kernel_rfl) trivial (fun g13 w14 hS15 => ?_)
    refine ⟨trivial, ?_⟩
    refine WL.store hS15 0 rfl [(0, e9), (1, e10), (2, e11), (3, e12)] e3 (fun fb => by kernel_rfl) (by kernel_rfl) rfl [] (by decide) (by decide) (fun w16 hS17 => ?_)
    refine ⟨trivial, ?_⟩
    refine WL.done rfl (WX.next (WC.seq ?_))
    refine WC.regionD ([(1, ⟨g13, 0, none⟩, e9), (6, ⟨g13, 1, none⟩, e10), (12, ⟨g13, 2, none⟩, e11), (18, ⟨g13, 3, none⟩, e12), (26, ⟨g13, 0, none⟩, e9), (26, ⟨g13, 1, none⟩, e10), (26, ⟨g13, 2, none⟩, e11), (26, ⟨g13, 3, none⟩, e12)], [0, 1, 3, 4, 5, 6, 8, 9, 10, 11, 12, 14, 15, 16, 17, 18, 20, 21, 22, 23, 24, 25, 26, 28, 29], [[], [0], [0, 1], [0, 1, 2], [0, 1, 2, 3], [0, 1, 2, 3, 4], [0, 1, 2, 3, 4, 5], [0, 1, 2, 3, 4, 5, 6], [0, 1, 2, 3, 4, 5, 6, 7], [0, 1, 2, 3, 4, 5, 6, 7, 8], [0, 1, 2, 3, 4, 5, 6, 7, 8, 9], [0, 1, 2, 3, 4, 5, 6, 7, 8, 9, 10], [0, 1, 2, 3, 4, 5, 6, 7, 8, 9, 10, 11], [0, 1, 2, 3, 4, 5, 6, 7, 8, 9, 10, 11, 12], [0, 1, 2, 3, 4, 5, 6, 7, 8, 9, 10, 11, 12, 13], [0, 1, 2, 3, 4, 5, 6, 7, 8, 9, 10, 11, 12, 13, 14], [0, 1, 2, 3, 4, 5, 6, 7, 8, 9, 10, 11, 12, 13, 14, 15], [0, 1, 2, 3, 4, 5, 6, 7, 8, 9, 10, 11, 12, 13, 14, 15, 16], [0, 1, 2, 3, 4, 5, 6, 7, 8, 9, 10, 11, 12, 13, 14, 15, 16, 17], [0, 1, 2, 3, 4, 5, 6, 7, 8, 9, 10, 11, 12, 13, 14, 15, 16, 17, 18], [0, 1, 2, 3, 4, 5, 6, 7, 8, 9, 10, 11, 12, 13, 14, 15, 16, 17, 18, 19], [0, 1, 2, 3, 4, 5, 6, 7, 8, 9, 10, 11, 12, 13, 14, 15, 16, 17, 18, 19, 20], [0, 1, 2, 3, 4, 5, 6, 7, 8, 9, 10, 11, 12, 13, 14, 15, 16, 17, 18, 19, 20, 21], e5, e5, [0, 1, 2, 3, 4, 5, 6, 7, 8, 9, 10, 11, 12, 13, 14, 15, 16, 17, 18, 19, 20, 21, 22, 23, 24], e5, [0, 1, 2, 3, 4, 5, 6, 7, 8, 9, 10, 11, 12, 13, 14, 15, 16, 17, 18, 19, 20, 21, 22, 23, 24, 25, 26], [0, 1, 2, 3, 4, 5, 6, 7, 8, 9, 10, 11, 12, 13, 14, 15, 16, 17, 18, 19, 20, 21, 22, 23, 24, 25, 26, 27], [0, 1, 2, 3, 4, 5, 6, 7, 8, 9, 10, 11, 12, 13, 14, 15, 16, 17, 18, 19, 20, 21, 22, 23, 24, 25, 26, 27, 28]]) [[0, 1, 2, 3, 4, 5, 6, 7, 8, 9, 10, 11, 12, 13, 14, 15, 16, 17, 18, 19, 20, 21, 22, 23, 24, 25, 26, 27, 28, 29]] (by kernel_rfl) (by kernel_rfl) (NoPanic.seq (NoPanic.block (NoPanic.seq (NoPanic.seq (NoPanic.block (NoPanic.seq (NoPanic.body))))))) ?_
    have hS19 := hS17.drew
    revert hS19
    generalize World.drew w16 = w18
    intro hS19
    refine ⟨⟨hS19.cell 0 rfl 0 rfl, hS19.cell 0 rfl 1 rfl, hS19.cell 0 rfl 2 rfl, hS19.cell 0 rfl 3 rfl, hS19.cell 0 rfl 0 rfl, hS19.cell 0 rfl 1 rfl, hS19.cell 0 rfl 2 rfl, hS19.cell 0 rfl 3 rfl, trivial⟩, forallC ?_ (forallN)⟩
    refine segF 2 [.v e9] [0, 3, 4, 19] [e2, e4, (4, (pt g13)), (19, e9)] [] [0] [(1, ⟨g13, 0, none⟩, e9)] (fun fb => by kernel_rfl) rfl trivial rfl ?_
    obtain ⟨t20, ht21, hl10⟩ := bind_some hl10
    refine WL.call (some 20) 12 #[e9] (fun fb => by kernel_rfl) (ref01_colour_calls (e1.N) t20 _ ht21) (fun v w22 hR23 => ?_)
    obtain ⟨rfl, hk_⟩ := hR23
    have hS24 := hS19.keepN hk_
    refine ⟨⟨hS24.cell 0 rfl 1 rfl, hS24.cell 0 rfl 2 rfl, hS24.cell 0 rfl 3 rfl, hS24.cell 0 rfl 0 rfl, hS24.cell 0 rfl 1 rfl, hS24.cell 0 rfl 2 rfl, hS24.cell 0 rfl 3 rfl, trivial⟩, ?_⟩
    refine seg 5 [] [0, 3, 4, 22] [e2, e4, (4, (pt g13)), (22, (bv (!t20)))] [] (fun fb => by kernel_rfl) rfl trivial ?_
    obtain ⟨x25, hx26, hl10⟩ := bind_some hl10
    refine WL.cutW (T := Bool) 10 (fun t => [e2, e4, (4, (pt g13)), (27, (bv t))]) (fun t w1 => (St NoS w w1 e6 [blk g13 (.cells e3 32 (0, 0))] ∧ x25 = t) ∧ CellsOK [] w1) (fun K => ?_) ?_
    ·
     rcases br_some hx26 with ⟨h27, hx26⟩ | ⟨h27, hx26⟩
     ·
      refine WL.setB 22 h27 rfl ?_
      refine seg 10 [] [0, 3, 4, 27] [e2, e4, (4, (pt g13)), (27, (bv true))] [] (fun fb => by kernel_rfl) rfl trivial ?_
      injection hx26 with hx26
      exact WL.to K true [0, 3, 4, 27] rfl ⟨⟨(hS24.subR [0]).sub [0] (by decide), hx26.symm⟩, trivial⟩
     refine WL.setB 22 h27 rfl ?_
     refine segF 7 [.v e10] [0, 3, 4, 22, 24] [e2, e4, (4, (pt g13)), (22, (bv false)), (24, e10)] [] [1] [(6, ⟨g13, 1, none⟩, e10)] (fun fb => by kernel_rfl) rfl trivial rfl ?_
     obtain ⟨t28, ht29, hx26⟩ := bind_some hx26
     refine WL.call (some 25) 12 #[e10] (fun fb => by kernel_rfl) (ref01_colour_calls (e1.E) t28 _ ht29) (fun v w30 hR31 => ?_)
     obtain ⟨rfl, hk_⟩ := hR31
     have hS32 := hS24.keepN hk_
     refine ⟨⟨hS32.cell 0 rfl 2 rfl, hS32.cell 0 rfl 3 rfl, hS32.cell 0 rfl 0 rfl, hS32.cell 0 rfl 1 rfl, hS32.cell 0 rfl 2 rfl, hS32.cell 0 rfl 3 rfl, trivial⟩, ?_⟩
     refine seg 10 [] [0, 3, 4, 27] [e2, e4, (4, (pt g13)), (27, (bv (!t28)))] [] (fun fb => by kernel_rfl) rfl trivial ?_
     injection hx26 with hx26
     exact WL.to K (!t28) [0, 3, 4, 27] rfl ⟨⟨(hS32.subR [0]).sub [0] (by decide), hx26.symm⟩, trivial⟩
    rintro y33 w35 ⟨⟨hS36, hq34⟩, hF37⟩
    subst hq34
    refine seg 11 [] [0, 3, 4, 28] [e2, e4, (4, (pt g13)), (28, (bv x25))] [] (fun fb => by kernel_rfl) rfl trivial ?_
    obtain ⟨x38, hx39, hl10⟩ := bind_some hl10
    refine WL.cutW (T := Bool) 16 (fun t => [e2, e4, (4, (pt g13)), (33, (bv t))]) (fun t w1 => (St NoS w w1 e6 [blk g13 (.cells e3 32 (0, 0))] ∧ x38 = t) ∧ CellsOK [] w1) (fun K => ?_) ?_
    ·
     rcases br_some hx39 with ⟨h40, hx39⟩ | ⟨h40, hx39⟩
     ·
      refine WL.setB 28 h40 rfl ?_
      refine seg 16 [] [0, 3, 4, 33] [e2, e4, (4, (pt g13)), (33, (bv true))] [] (fun fb => by kernel_rfl) rfl trivial ?_
      injection hx39 with hx39
      exact WL.to K true [0, 3, 4, 33] rfl ⟨⟨(hS36.subR [0]).sub [0] (by decide), hx39.symm⟩, trivial⟩
     refine WL.setB 28 h40 rfl ?_
     refine segF 13 [.v e11] [0, 3, 4, 28, 30] [e2, e4, (4, (pt g13)), (28, (bv false)), (30, e11)] [] [2] [(12, ⟨g13, 2, none⟩, e11)] (fun fb => by kernel_rfl) rfl trivial rfl ?_
     obtain ⟨t41, ht42, hx39⟩ := bind_some hx39
     refine WL.call (some 31) 12 #[e11] (fun fb => by kernel_rfl) (ref01_colour_calls (e1.S) t41 _ ht42) (fun v w43 hR44 => ?_)
     obtain ⟨rfl, hk_⟩ := hR44
     have hS45 := hS36.keepN hk_
     refine ⟨⟨hS45.cell 0 rfl 3 rfl, hS45.cell 0 rfl 0 rfl, hS45.cell 0 rfl 1 rfl, hS45.cell 0 rfl 2 rfl, hS45.cell 0 rfl 3 rfl, trivial⟩, ?_⟩
     refine seg 16 [] [0, 3, 4, 33] [e2, e4, (4, (pt g13)), (33, (bv (!t41)))] [] (fun fb => by kernel_rfl) rfl trivial ?_
     injection hx39 with hx39
     exact WL.to K (!t41) [0, 3, 4, 33] rfl ⟨⟨(hS45.subR [0]).sub [0] (by decide), hx39.symm⟩, trivial⟩
    rintro y46 w48 ⟨⟨hS49, hq47⟩, hF50⟩
    subst hq47
    refine seg 17 [] [0, 3, 4, 34] [e2, e4, (4, (pt g13)), (34, (bv x38))] [] (fun fb => by kernel_rfl) rfl trivial ?_
    obtain ⟨x51, hx52, hl10⟩ := bind_some hl10
    refine WL.cutW (T := Bool) 22 (fun t => [e2, e4, (4, (pt g13)), (39, (bv t))]) (fun t w1 => (St NoS w w1 e6 [blk g13 (.cells e3 32 (0, 0))] ∧ x51 = t) ∧ CellsOK [] w1) (fun K => ?_) ?_
    ·
     rcases br_some hx52 with ⟨h53, hx52⟩ | ⟨h53, hx52⟩
     ·
      refine WL.setB 34 h53 rfl ?_
      refine seg 22 [] [0, 3, 4, 39] [e2, e4, (4, (pt g13)), (39, (bv true))] [] (fun fb => by kernel_rfl) rfl trivial ?_
      injection hx52 with hx52
      exact WL.to K true [0, 3, 4, 39] rfl ⟨⟨(hS49.subR [0]).sub [0] (by decide), hx52.symm⟩, trivial⟩
     refine WL.setB 34 h53 rfl ?_
     refine segF 19 [.v e12] [0, 3, 4, 34, 36] [e2, e4, (4, (pt g13)), (34, (bv false)), (36, e12)] [] [3] [(18, ⟨g13, 3, none⟩, e12)] (fun fb => by kernel_rfl) rfl trivial rfl ?_
     obtain ⟨t54, ht55, hx52⟩ := bind_some hx52
     refine WL.call (some 37) 12 #[e12] (fun fb => by kernel_rfl) (ref01_colour_calls (e1.W) t54 _ ht55) (fun v w56 hR57 => ?_)
     obtain ⟨rfl, hk_⟩ := hR57
     have hS58 := hS49.keepN hk_
     refine ⟨⟨hS58.cell 0 rfl 0 rfl, hS58.cell 0 rfl 1 rfl, hS58.cell 0 rfl 2 rfl, hS58.cell 0 rfl 3 rfl, trivial⟩, ?_⟩
     refine seg 22 [] [0, 3, 4, 39] [e2, e4, (4, (pt g13)), (39, (bv (!t54)))] [] (fun fb => by kernel_rfl) rfl trivial ?_
     injection hx52 with hx52
     exact WL.to K (!t54) [0, 3, 4, 39] rfl ⟨⟨(hS58.subR [0]).sub [0] (by decide), hx52.symm⟩, trivial⟩
    rintro y59 w61 ⟨⟨hS62, hq60⟩, hF63⟩
    subst hq60
    refine seg 23 [] [0, 3, 4, 40] [e2, e4, (4, (pt g13)), (40, (bv x51))] [] (fun fb => by kernel_rfl) rfl trivial ?_
    obtain ⟨x65, hx66, hl10⟩ := bind_some hl10
    refine WL.cutW (T := Bool) 30 (fun t => [e2, e4, (47, (bv t))]) (fun t w1 => (St NoS w w1 e6 [] ∧ x65 = t) ∧ CellsOK [] w1) (fun K => ?_) ?_
    ·
     rcases br_some hx66 with ⟨h67, hx66⟩ | ⟨h67, hx66⟩
     ·
      refine WL.setB 40 h67 rfl ?_
      refine seg 30 [] [0, 3, 47] [e2, e4, (47, (bv true))] [] (fun fb => by kernel_rfl) rfl trivial ?_
      injection hx66 with hx66
      exact WL.to K true [0, 3, 47] rfl ⟨⟨(hS62.subR [0]).sub [] (by decide), hx66.symm⟩, trivial⟩
     refine WL.setB 40 h67 rfl ?_
     refine seg 25 [] [0, 3, 4, 40, 41, 42] [e2, e4, (4, (pt g13)), (40, (bv false)), (41, (sv Aa p0 ca)), (42, (iv x3))] [] (fun fb => by kernel_rfl) rfl trivial ?_
     obtain ⟨h68, hx66⟩ := as_some hx66
     refine seg 26 [] [0, 3, 4, 40, 43] [e2, e4, (4, (pt g13)), (40, (bv false)), (43, (.slice e8 (x3.toNat - (0 : Int).toNat) e13))] [.idx (some ⟨0, 0, none⟩) (0 : Int) (x3.toNat + 1), .idx (some ⟨0, 0, none⟩) x3 (ca + 1)] (fun fb => by kernel_rfl) rfl ⟨cut1 h68.1 h68.2.1, cut2 h68.1 h68.2.1 h68.2.2 (hS62.rd 0).1.2, trivial⟩ ?_
     refine WL.reE [0, 3, 4, 40, 43] [(0, (.slice Aa p0.length ca)), (3, (iv x3)), (4, (pt g13)), (40, (.bool false)), (43, (.slice (subA Aa ca (0 : Int).toNat 4) (x3.toNat - (0 : Int).toNat) (ca - (0 : Int).toNat)))] [(0, (.slice Aa p0.length ca)), (3, (iv x3)), (4, (pt g13)), (40, (.bool false)), (43, (.slice (subA Aa ca (0 : Int).toNat 4) (cut p0 (0 : Int) x3).length (ca - (0 : Int).toNat)))] rfl (by rw [cut_length h68.1 h68.2.1 h68.2.2]) ?_
     have hS69 := hS62.cutR 0 rfl h68.1 h68.2.1 h68.2.2
     refine segF 27 [.v e9, .v e10, .v e11, .v e12] [0, 3, 40, 43, 44] [e2, e4, (40, (bv false)), (43, (sv e8 (cut p0 (0 : Int) x3) e13)), (44, (.agg e3))] [] [4, 5, 6, 7] [(26, ⟨g13, 0, none⟩, e9), (26, ⟨g13, 1, none⟩, e10), (26, ⟨g13, 2, none⟩, e11), (26, ⟨g13, 3, none⟩, e12)] (fun fb => by kernel_rfl) rfl trivial rfl ?_
     obtain ⟨t70, ht71, hx66⟩ := bind_some hx66
     refine WL.call (some 45) 13 #[(sv e8 (cut p0 (0 : Int) x3) e13), (.agg e3)] (fun fb => by kernel_rfl) (ref01_Index_calls _ (cut p0 (0 : Int) x3) e1 e8 e13 t70 _ (hS69.rd 0) ht71) (fun v w72 hR73 => ?_)
     obtain ⟨rfl, hk_⟩ := hR73
     have hS74 := hS69.keepN hk_
     refine ⟨trivial, ?_⟩
     refine seg 30 [] [0, 3, 47] [e2, e4, (47, (bv (decide (t70 ≥ 0))))] [] (fun fb => by kernel_rfl) rfl trivial ?_
     injection hx66 with hx66
     exact WL.to K (decide (t70 ≥ 0)) [0, 3, 47] rfl ⟨⟨(hS74.subR [1]).sub [] (by decide), hx66.symm⟩, trivial⟩
    rintro y75 w77 ⟨⟨hS78, hq76⟩, hF79⟩
    subst hq76
    refine WL.done rfl (WX.next ?_)
    rcases br_some hl10 with ⟨h80, hl10⟩ | ⟨h80, hl10⟩
    ·refine WC.condT2 (fun fb => by kernel_rfl) h80 ?_
     refine WC.seq (WC.region ?_)
     refine seg 1 [] [2] [(2, (bv false))] [] (fun fb => by kernel_rfl) rfl trivial ?_
     refine WL.done rfl (WX.next ?_)
     refine WC.ret ?_
     injection hl10 with hl10
     subst hl10
     injection hf with hf
     subst hf
     exact WX.blockR (WX.thenR (WX.thenR (WX.blockR (WX.thenR (WX.ret_ [] (bv false) [] (fun fb => by kernel_rfl) trivial ⟨_, rfl, rfl, hS78.keep⟩)))))
    refine WC.condF2 (fun fb => by kernel_rfl) h80 ?_
    refine WC.skip ?_
    refine WX.blockN (WX.next ?_)
    refine WC.region ?_
    refine seg 3 [] [0, 3] [e2, (3, (iv (w64 (x3 + 1))))] [] (fun fb => by kernel_rfl) rfl trivial ?_
    refine WL.done rfl ?_
    exact WX.again k7 (Nat.lt_succ_self _) (w64 (x3 + 1)) [0, 3] rfl ⟨(hS78.subR [0]).sub [] (by decide), hl10⟩
   refine WC.condF2 (fun fb => by kernel_rfl) h11 ?_
   refine WC.exit ?_
   injection hl10 with hl10
   exact WX.thenX (WX.thenX (WX.blockHere (WX.to Kx5 () [] rfl ⟨(hS9.subR [0]).sub [] (by decide), hl10.symm⟩)))
 rintro y84 w81 ⟨hS82, hq83⟩
 subst hq83
 have hf := sum_inr hf
 refine WX.next (WC.seq (WC.region ?_))
 refine seg 1 [] [2] [(2, (bv true))] [] (fun fb => by kernel_rfl) rfl trivial ?_
 refine WL.done rfl (WX.next ?_)
 refine WC.ret ?_
 injection hf with hf
 subst hf
 exact WX.ret_ [] (bv true) [] (fun fb => by kernel_rfl) trivial ⟨_, rfl, rfl, hS82.keep⟩
theorem ref02_at_calls (k : Nat) (p0 : List Int) (p1 : Int) (Aa : Option Addr) (ca : Nat) (r : Int) (w : World) (hR0 : RO NoS w (rowR encInt Aa ca p0)) (hf : ref02_at k p0 p1 = some r) :
  CallsR Tryz.prog 45 #[(sv Aa p0 ca), (iv p1)] w (fun v w' => v = (iv r) ∧ Keeps NoS w w') := by
 have hS : St NoS w w [rowR encInt Aa ca p0] [] := St.init (ro_cons hR0 (ro_nil _ _))
 refine enter 19 Tryz.func45 rfl Tryz.ntmps45 rfl ?_
 unfold ref02_at at hf
 refine WC.seq (WC.region ?_)
 refine seg 1 [] [0, 1] [(0, (sv Aa p0 ca)), (1, (iv p1))] [] (fun fb => by kernel_rfl) rfl trivial ?_
 refine WL.done rfl (WX.next (WC.seq (WC.seq (WC.region ?_))))
 refine seg 1 [] [0, 1, 5] [(0, (sv Aa p0 ca)), (1, (iv p1)), (5, (iv 0))] [] (fun fb => by kernel_rfl) rfl trivial ?_
 refine WL.done rfl (WX.next ?_)
 obtain ⟨x4, hx5, hf⟩ := bind_some hf
 let e1 : Nat × Value := (0, (sv Aa p0 ca))
 refine WC.cutN (T := Unit) (fun t => []) (fun t w1 => St NoS w w1 [rowR encInt Aa ca p0] [] ∧ x4 = .inr t) (fun Kx4 => ?_) ?_
 ·
  refine WC.block ?_
  refine WC.loop (T := Int) (fun t => [e1, (1, (iv p1)), (5, (iv t))]) (fun n t w1 => St NoS w w1 [rowR encInt Aa ca p0] [] ∧ ref02_at.l0 n t p0 p1 = some x4) k 0 [0, 1, 5] rfl ⟨(hS.subR [0]).sub [] (by decide), hx5⟩ ?_
  rintro k6 x3 w7 ⟨hS8, hl9⟩
  cases k6 with
  | zero => rw [ref02_at.l0] at hl9; cases hl9
  | succ k6 =>
   rw [ref02_at.l0] at hl9
   refine WC.seq (WC.seq (WC.region ?_))
   refine seg 4 [] [0, 1, 5, 9] [e1, (1, (iv p1)), (5, (iv x3)), (9, (bv (decide (x3 < (p0.length : Int)))))] [] (fun fb => by kernel_rfl) rfl trivial ?_
   refine WL.done rfl (WX.next ?_)
   rcases br_some hl9 with ⟨h10, hl9⟩ | ⟨h10, hl9⟩
   ·refine WC.condT2 (fun fb => by kernel_rfl) h10 ?_
    refine WC.skip (WX.next (WC.seq (WC.block (WC.seq (WC.region ?_)))))
    refine seg 2 [] [0, 1, 5, 12, 13] [e1, (1, (iv p1)), (5, (iv x3)), (12, (sv Aa p0 ca)), (13, (iv x3))] [] (fun fb => by kernel_rfl) rfl trivial ?_
    obtain ⟨h11, hl9⟩ := as_some hl9
    refine seg 6 [.v (iv (rdD p0 x3 0))] [0, 1, 5, 17] [e1, (1, (iv p1)), (5, (iv x3)), (17, (bv ((rdD p0 x3 0) == p1)))] [.idx Aa x3 p0.length, .cell ((adr Aa).add ((x3).toNat * 1)) (iv (rdD p0 x3 0))] (fun fb => by kernel_rfl) rfl ⟨rowR.adr (hS8.rd 0).1 h11.1 h11.2, rowR.cell (hS8.rd 0).1 0 h11.1 h11.2 0 rfl, trivial⟩ ?_
    refine WL.done rfl (WX.next ?_)
    rcases br_some hl9 with ⟨h12, hl9⟩ | ⟨h12, hl9⟩
    ·refine WC.condT2 (fun fb => by kernel_rfl) h12 ?_
     refine WC.seq (WC.region ?_)
     refine seg 2 [] [4] [(4, (iv x3))] [] (fun fb => by kernel_rfl) rfl trivial ?_
     refine WL.done rfl (WX.next ?_)
     refine WC.ret ?_
     injection hl9 with hl9
     subst hl9
     injection hf with hf
     subst hf
     exact WX.blockR (WX.thenR (WX.thenR (WX.blockR (WX.thenR (WX.ret_ [] (iv x3) [] (fun fb => by kernel_rfl) trivial ⟨_, rfl, rfl, hS8.keep⟩)))))
    refine WC.condF2 (fun fb => by kernel_rfl) h12 ?_
    refine WC.skip ?_
    refine WX.blockN (WX.next ?_)
    refine WC.region ?_
    refine seg 3 [] [0, 1, 5] [e1, (1, (iv p1)), (5, (iv (w64 (x3 + 1))))] [] (fun fb => by kernel_rfl) rfl trivial ?_
    refine WL.done rfl ?_
    exact WX.again k6 (Nat.lt_succ_self _) (w64 (x3 + 1)) [0, 1, 5] rfl ⟨(hS8.subR [0]).sub [] (by decide), hl9⟩
   refine WC.condF2 (fun fb => by kernel_rfl) h10 ?_
   refine WC.exit ?_
   injection hl9 with hl9
   exact WX.thenX (WX.thenX (WX.blockHere (WX.to Kx4 () [] rfl ⟨(hS8.subR [0]).sub [] (by decide), hl9.symm⟩)))
 rintro y16 w13 ⟨hS14, hq15⟩
 subst hq15
 have hf := sum_inr hf
 refine WX.next (WC.seq (WC.region ?_))
 refine seg 1 [] [4] [(4, (iv (-1)))] [] (fun fb => by kernel_rfl) rfl trivial ?_
 refine WL.done rfl (WX.next ?_)
 refine WC.ret ?_
 injection hf with hf
 subst hf
 exact WX.ret_ [] (iv (-1)) [] (fun fb => by kernel_rfl) trivial ⟨_, rfl, rfl, hS14.keep⟩
theorem ref02_with_calls (k : Nat) (p0 : List Int) (p1 : Int) (Aa : Option Addr) (ca : Nat) (r : (List Int)) (w : World) (hI : IoOK w [rowO 3 encInt Aa ca p0]) (hf : ref02_with k p0 p1 = some r) :
  CallsR Tryz.prog 30 #[(sv Aa p0 ca), (iv p1)] w (fun v w' => ∃ (A1_ : Option Addr), ∃ (c1_ : Nat), v = (sv A1_ r c1_) ∧ St (fpL [rowO 3 encInt Aa ca p0]) w w' [] [rowO 3 encInt A1_ c1_ r]) := by
 have hS : St (fpL [rowO 3 encInt Aa ca p0]) w w [] [rowO 3 encInt Aa ca p0] := St.initIO (ro_nil _ _) hI
 refine enter 14 Tryz.func30 rfl Tryz.ntmps30 rfl ?_
 unfold ref02_with at hf
 refine WC.seq (WC.region ?_)
 refine seg 1 [] [0, 1] [(0, (sv Aa p0 ca)), (1, (iv p1))] [] (fun fb => by kernel_rfl) rfl trivial ?_
 refine WL.done rfl (WX.next (WC.seq (WC.seq (WC.region ?_))))
 refine seg 2 [] [0, 1, 5, 6] [(0, (sv Aa p0 ca)), (1, (iv p1)), (5, (sv Aa p0 ca)), (6, (iv p1))] [] (fun fb => by kernel_rfl) rfl trivial ?_
 obtain ⟨t3, ht4, hf⟩ := bind_some hf
 refine WL.call (some 7) 45 #[(sv Aa p0 ca), (iv p1)] (fun fb => by kernel_rfl) (ref02_at_calls _ p0 p1 Aa ca t3 _ (hS.ow 0).ofO ht4) (fun v w5 hR6 => ?_)
 obtain ⟨rfl, hk_⟩ := hR6
 have hS7 := hS.keepN hk_
 refine ⟨trivial, ?_⟩
 refine seg 4 [] [0, 1, 8] [(0, (sv Aa p0 ca)), (1, (iv p1)), (8, (bv (decide (t3 < 0))))] [] (fun fb => by kernel_rfl) rfl trivial ?_
 refine WL.done rfl (WX.next ?_)
 obtain ⟨x10, hx11, hf⟩ := bind_some hf
 refine WC.cutN (T := (List Int) × (Option Addr) × Nat) (fun t => [(0, (sv t.2.1 t.1 t.2.2))]) (fun t w1 => St (fpL [rowO 3 encInt Aa ca p0]) w w1 [] [rowO 3 encInt t.2.1 t.2.2 t.1] ∧ x10 = t.1) (fun Kx10 => ?_) ?_
 ·
  rcases br_some hx11 with ⟨h12, hx11⟩ | ⟨h12, hx11⟩
  ·refine WC.condT2 (fun fb => by kernel_rfl) h12 ?_
   refine WC.region ?_
   refine seg 2 [] [9, 10] [(9, (sv Aa p0 ca)), (10, (iv p1))] [] (fun fb => by kernel_rfl) rfl trivial ?_
   refine WL.new hS7 11 [] (fun g => (.slice (some ⟨g, 0, none⟩) 1 1)) (.cells #[(iv p1)] 3 (0, 0)) [] (fun fb g => by kernel_rfl) trivial (fun g13 w14 hS15 => ?_)
   refine ⟨trivial, ?_⟩
   have hS16 := hS.go w14 [rowO 3 encInt (some ⟨g13, 0, none⟩) 1 [p1], rowO 3 encInt Aa ca p0] (hS15.map1 0 _ (fun h => rowO.ofBlk h rfl (Nat.le_of_ble_eq_true (by kernel_rfl))) (fun _ h => by obtain ⟨_, h1, h2⟩ := h; injection h1 with h1; subst h1; exact h2) [1] (by decide) (by decide))
   obtain ⟨h17, hx11⟩ := as_some hx11
   refine WL.append hS16 1 (d := 12) (tS := 35) (z := (iv 0)) (bytes := 8) (c2 := 1) rfl (fun fb => by kernel_rfl) (rowO.rd (hS16.own 0).1) (by kernel_rfl) (by kernel_rfl) rfl (by decide) h17 (by decide) [0] (by decide) (by decide) (fun A18 c19 w20 hS21 => ?_)
   refine ⟨trivial, ?_⟩
   refine seg 5 [] [0] [(0, (sv A18 (p0 ++ [p1]) c19))] [] (fun fb => by kernel_rfl) rfl trivial ?_
   refine WL.done rfl ?_
   injection hx11 with hx11
   exact WX.to Kx10 (p0 ++ [p1], A18, c19) [0] rfl ⟨(hS21.subR []).sub [0] (by decide), hx11.symm⟩
  refine WC.condF2 (fun fb => by kernel_rfl) h12 ?_
  refine WC.skip ?_
  injection hx11 with hx11
  exact WX.to Kx10 (p0, Aa, ca) [0] rfl ⟨(hS7.subR []).sub [0] (by decide), hx11.symm⟩
 rintro ⟨y25, A8, c9⟩ w22 ⟨hS23, hq24⟩
 subst hq24
 refine WX.next (WC.seq (WC.region ?_))
 refine seg 2 [] [4] [(4, (sv A8 x10 c9))] [] (fun fb => by kernel_rfl) rfl trivial ?_
 refine WL.done rfl (WX.next ?_)
 refine WC.ret ?_
 injection hf with hf
 subst hf
 exact WX.ret_ [] (sv A8 x10 c9) [] (fun fb => by kernel_rfl) trivial ⟨_, rfl, A8, c9, rfl, (hS23.sub [0] (by decide)).noR⟩
theorem ref02_Colours_calls (k : Nat) (p0 : List Tile) (Aa : Option Addr) (ca : Nat) (r : (List Int)) (w : World) (hR0 : RO NoS w (rowR enc_Tile Aa ca p0)) (hf : ref02_Colours k p0 = some r) :
  CallsR Tryz.prog 15 #[(sv Aa p0 ca)] w (fun v w' => ∃ (A1_ : Option Addr), ∃ (c1_ : Nat), v = (sv A1_ r c1_) ∧ St NoS w w' [] [rowO 3 encInt A1_ c1_ r]) := by
 have hS : St NoS w w [rowR enc_Tile Aa ca p0] [] := St.init (ro_cons hR0 (ro_nil _ _))
 refine enter 25 Tryz.func15 rfl Tryz.ntmps15 rfl ?_
 unfold ref02_Colours at hf
 refine WC.seq (WC.region ?_)
 refine seg 1 [] [0] [(0, (sv Aa p0 ca))] [] (fun fb => by kernel_rfl) rfl trivial ?_
 refine WL.done rfl (WX.next (WC.seq (WC.region ?_)))
 refine seg 1 [] [0, 3] [(0, (sv Aa p0 ca)), (3, (.slice none 0 0))] [] (fun fb => by kernel_rfl) rfl trivial ?_
 refine WL.done rfl (WX.next (WC.seq (WC.seq (WC.region ?_))))
 refine seg 1 [] [0, 3, 4] [(0, (sv Aa p0 ca)), (3, (.slice none 0 0)), (4, (iv 0))] [] (fun fb => by kernel_rfl) rfl trivial ?_
 refine WL.done rfl (WX.next ?_)
 have hS3 := hS.nilrow 3 encInt
 obtain ⟨x10, hx11, hf⟩ := bind_some hf
 let e3 : Nat × Value := (0, (sv Aa p0 ca))
 refine WC.cutN (T := (List Int) × (Option Addr) × Nat) (fun t => [(3, (sv t.2.1 t.1 t.2.2))]) (fun t w1 => St NoS w w1 [rowR enc_Tile Aa ca p0] [rowO 3 encInt t.2.1 t.2.2 t.1] ∧ x10 = t.1) (fun Kx10 => ?_) ?_
 ·
  refine WC.block ?_
  refine WC.loop (T := ((List Int) × Int) × (Option Addr) × Nat) (fun t => [e3, (3, (sv t.2.1 t.1.1 t.2.2)), (4, (iv t.1.2))]) (fun n t w1 => St NoS w w1 [rowR enc_Tile Aa ca p0] [rowO 3 encInt t.2.1 t.2.2 t.1.1] ∧ ref02_Colours.l0 n t.1.1 t.1.2 p0 = some x10) k ((([] : List Int), 0), none, 0) [0, 3, 4] rfl ⟨(hS3.subR [0]).sub [0] (by decide), hx11⟩ ?_
  rintro k12 ⟨⟨l6, x7⟩, A4, c5⟩ w13 ⟨hS14, hl16⟩
  let e1 := rdD p0 x7 z_Tile
  let e2 : List (Nat × Addr × Value) := [(5, ((adr Aa).add ((x7).toNat * 4)), (iv (e1.N))), (11, (((adr Aa).add ((x7).toNat * 4)).add 2), (iv (e1.S)))]
  cases k12 with
  | zero => rw [ref02_Colours.l0] at hl16; cases hl16
  | succ k12 =>
   rw [ref02_Colours.l0] at hl16
   refine WC.seq (WC.seq (WC.region ?_))
   refine seg 4 [] [0, 3, 4, 8] [e3, (3, (sv A4 l6 c5)), (4, (iv x7)), (8, (bv (decide (x7 < (p0.length : Int)))))] [] (fun fb => by kernel_rfl) rfl trivial ?_
   refine WL.done rfl (WX.next ?_)
   rcases br_some hl16 with ⟨h17, hl16⟩ | ⟨h17, hl16⟩
   ·refine WC.condT2 (fun fb => by kernel_rfl) h17 ?_
    refine WC.skip (WX.next (WC.seq (WC.block ?_)))
    obtain ⟨h20, hl16⟩ := as_some hl16
    refine WC.regionD (e2, [0, 1, 2, 3, 4, 5, 7, 8, 9, 10, 11, 13], [[], [], [], [1, 2], [1, 2, 3], [1, 2, 3, 4], [0, 1, 2, 3, 4, 5], [], [], [7, 8], [7, 8, 9], [7, 8, 9, 10], [0, 1, 2, 3, 4, 5, 6, 7, 8, 9, 10, 11], [0, 1, 2, 3, 4, 5, 6, 7, 8, 9, 10, 11, 12]]) [[0, 1, 2, 3, 4, 5, 7, 8, 9, 10, 11, 6, 12, 13]] (by kernel_rfl) (by kernel_rfl) (NoPanic.block (NoPanic.seq (NoPanic.seq (NoPanic.block (NoPanic.seq (NoPanic.body)))))) ?_
    have hS19 := hS14.drew
    revert hS19
    generalize World.drew w13 = w18
    intro hS19
    refine ⟨⟨rowR.cell (hS19.rd 0).1 z_Tile h20.1 h20.2 0 rfl, rowR.cell (hS19.rd 0).1 z_Tile h20.1 h20.2 2 rfl, trivial⟩, forallC ?_ (forallN)⟩
    refine segF 11 [.v (iv (e1.N)), .v (iv (e1.S))] [0, 4, 11, 16, 22] [e3, (4, (iv x7)), (11, (sv A4 l6 c5)), (16, (iv (e1.N))), (22, (iv (e1.S)))] [.idx Aa x7 p0.length, .idx Aa x7 p0.length] [0, 1] e2 (fun fb => by kernel_rfl) rfl ⟨rowR.adr (hS19.rd 0).1 h20.1 h20.2, rowR.adr (hS19.rd 0).1 h20.1 h20.2, trivial⟩ rfl ?_
    obtain ⟨t21, ht22, hl16⟩ := bind_some hl16
    refine WL.call (some 17) 30 #[(sv A4 l6 c5), (iv (e1.N))] (fun fb => by kernel_rfl) (ref02_with_calls _ l6 (e1.N) A4 c5 t21 _ (hS19.io [0] (by decide)) ht22) (fun v w23 hR24 => ?_)
    obtain ⟨A26, c27, rfl, hk_⟩ := hR24
    have hS25 := hS.go w23 [rowO 3 encInt A26 c27 t21] (hS19.call hk_ [0] [] (fun g hg => fpL_sel g hg) (by decide) (by decide))
    refine ⟨⟨rowR.cell (hS25.rd 0).1 z_Tile h20.1 h20.2 2 rfl, trivial⟩, ?_⟩
    obtain ⟨t28, ht29, hl16⟩ := bind_some hl16
    refine WL.call (some 23) 30 #[(sv A26 t21 c27), (iv (e1.S))] (fun fb => by kernel_rfl) (ref02_with_calls _ t21 (e1.S) A26 c27 t28 _ (hS25.io [0] (by decide)) ht29) (fun v w30 hR31 => ?_)
    obtain ⟨A33, c34, rfl, hk_⟩ := hR31
    have hS32 := hS25.go w30 [rowO 3 encInt A33 c34 t28] (hS25.call hk_ [0] [] (fun g hg => fpL_sel g hg) (by decide) (by decide))
    refine ⟨trivial, ?_⟩
    refine seg 14 [] [0, 3, 4] [e3, (3, (sv A33 t28 c34)), (4, (iv x7))] [] (fun fb => by kernel_rfl) rfl trivial ?_
    refine WL.done rfl ?_
    refine WX.blockN (WX.next ?_)
    refine WC.region ?_
    refine seg 3 [] [0, 3, 4] [e3, (3, (sv A33 t28 c34)), (4, (iv (w64 (x7 + 1))))] [] (fun fb => by kernel_rfl) rfl trivial ?_
    refine WL.done rfl ?_
    exact WX.again k12 (Nat.lt_succ_self _) ((t28, w64 (x7 + 1)), A33, c34) [0, 3, 4] rfl ⟨(hS32.subR [0]).sub [0] (by decide), hl16⟩
   refine WC.condF2 (fun fb => by kernel_rfl) h17 ?_
   refine WC.exit ?_
   injection hl16 with hl16
   exact WX.thenX (WX.thenX (WX.blockHere (WX.to Kx10 (l6, A4, c5) [3] rfl ⟨(hS14.subR [0]).sub [0] (by decide), hl16.symm⟩)))
 rintro ⟨y38, A8, c9⟩ w35 ⟨hS36, hq37⟩
 subst hq37
 refine WX.next (WC.seq (WC.region ?_))
 refine seg 2 [] [2] [(2, (sv A8 x10 c9))] [] (fun fb => by kernel_rfl) rfl trivial ?_
 refine WL.done rfl (WX.next ?_)
 refine WC.ret ?_
 injection hf with hf
 subst hf
 exact WX.ret_ [] (sv A8 x10 c9) [] (fun fb => by kernel_rfl) trivial ⟨_, rfl, A8, c9, rfl, (hS36.sub [0] (by decide)).noR⟩
theorem ref02_Power_calls (k : Nat) (p0 : Int) (p1 : Int)  (r : Int) (w : World)  (hf : ref02_Power k p0 p1 = some r) :
  CallsR Tryz.prog 14 #[(iv p0), (iv p1)] w (fun v w' => v = (iv r) ∧ Keeps NoS w w') := by
 have hS : St NoS w w [] [] := St.init (ro_nil _ _)
 refine enter 17 Tryz.func14 rfl Tryz.ntmps14 rfl ?_
 unfold ref02_Power at hf
 refine WC.seq (WC.region ?_)
 refine seg 1 [] [0, 1] [(0, (iv p0)), (1, (iv p1))] [] (fun fb => by kernel_rfl) rfl trivial ?_
 refine WL.done rfl (WX.next (WC.seq (WC.region ?_)))
 refine seg 1 [] [0, 1, 5] [(0, (iv p0)), (1, (iv p1)), (5, (iv 1))] [] (fun fb => by kernel_rfl) rfl trivial ?_
 refine WL.done rfl (WX.next (WC.seq (WC.seq (WC.region ?_))))
 refine seg 1 [] [0, 1, 5, 6] [(0, (iv p0)), (1, (iv p1)), (5, (iv 1)), (6, (iv 0))] [] (fun fb => by kernel_rfl) rfl trivial ?_
 refine WL.done rfl (WX.next ?_)
 obtain ⟨x5, hx6, hf⟩ := bind_some hf
 refine WC.cutN (T := Int) (fun t => [(5, (iv t))]) (fun t w1 => St NoS w w1 [] [] ∧ x5 = t) (fun Kx5 => ?_) ?_
 ·
  refine WC.block ?_
  refine WC.loop (T := Int × Int) (fun t => [(0, (iv p0)), (1, (iv p1)), (5, (iv t.1)), (6, (iv t.2))]) (fun n t w1 => St NoS w w1 [] [] ∧ ref02_Power.l0 n t.1 t.2 p0 p1 = some x5) k (1, 0) [0, 1, 5, 6] rfl ⟨(hS.subR []).sub [] (by decide), hx6⟩ ?_
  rintro k7 ⟨x3, x4⟩ w8 ⟨hS9, hl10⟩
  cases k7 with
  | zero => rw [ref02_Power.l0] at hl10; cases hl10
  | succ k7 =>
   rw [ref02_Power.l0] at hl10
   refine WC.seq (WC.seq (WC.region ?_))
   refine seg 3 [] [0, 1, 5, 6, 9] [(0, (iv p0)), (1, (iv p1)), (5, (iv x3)), (6, (iv x4)), (9, (bv (decide (x4 < p1))))] [] (fun fb => by kernel_rfl) rfl trivial ?_
   refine WL.done rfl (WX.next ?_)
   rcases br_some hl10 with ⟨h11, hl10⟩ | ⟨h11, hl10⟩
   ·refine WC.condT2 (fun fb => by kernel_rfl) h11 ?_
    refine WC.skip (WX.next (WC.seq (WC.block (WC.region ?_))))
    refine seg 5 [] [0, 1, 5, 6] [(0, (iv p0)), (1, (iv p1)), (5, (iv (minI (w64 (x3 * p0)) 1000000))), (6, (iv x4))] [] (fun fb => by kernel_rfl) rfl trivial ?_
    refine WL.done rfl ?_
    refine WX.blockN (WX.next ?_)
    refine WC.region ?_
    refine seg 3 [] [0, 1, 5, 6] [(0, (iv p0)), (1, (iv p1)), (5, (iv (minI (w64 (x3 * p0)) 1000000))), (6, (iv (w64 (x4 + 1))))] [] (fun fb => by kernel_rfl) rfl trivial ?_
    refine WL.done rfl ?_
    exact WX.again k7 (Nat.lt_succ_self _) (minI (w64 (x3 * p0)) 1000000, w64 (x4 + 1)) [0, 1, 5, 6] rfl ⟨(hS9.subR []).sub [] (by decide), hl10⟩
   refine WC.condF2 (fun fb => by kernel_rfl) h11 ?_
   refine WC.exit ?_
   injection hl10 with hl10
   exact WX.thenX (WX.thenX (WX.blockHere (WX.to Kx5 x3 [5] rfl ⟨(hS9.subR []).sub [] (by decide), hl10.symm⟩)))
 rintro y16 w12 ⟨hS13, hq15⟩
 subst hq15
 refine WX.next (WC.seq (WC.region ?_))
 refine seg 2 [] [4] [(4, (iv x5))] [] (fun fb => by kernel_rfl) rfl trivial ?_
 refine WL.done rfl (WX.next ?_)
 refine WC.ret ?_
 injection hf with hf
 subst hf
 exact WX.ret_ [] (iv x5) [] (fun fb => by kernel_rfl) trivial ⟨_, rfl, rfl, hS13.keep⟩
theorem ref02_Light_calls (k : Nat) (p0 : List Tile) (p1 : Int) (Aa : Option Addr) (ca : Nat) (r : Bool) (w : World) (hR0 : RO NoS w (rowR enc_Tile Aa ca p0)) (hf : ref02_Light k p0 p1 = some r) :
  CallsR Tryz.prog 5 #[(sv Aa p0 ca), (iv p1)] w (fun v w' => v = (bv r) ∧ Keeps NoS w w') := by
 have hS : St NoS w w [rowR enc_Tile Aa ca p0] [] := St.init (ro_cons hR0 (ro_nil _ _))
 refine enter 18 Tryz.func5 rfl Tryz.ntmps5 rfl ?_
 unfold ref02_Light at hf
 refine WC.seq (WC.region ?_)
 refine seg 1 [] [0, 1] [(0, (sv Aa p0 ca)), (1, (iv p1))] [] (fun fb => by kernel_rfl) rfl trivial ?_
 refine WL.done rfl (WX.next (WC.seq (WC.region ?_)))
 refine seg 1 [] [0, 1, 5] [(0, (sv Aa p0 ca)), (1, (iv p1)), (5, (sv Aa p0 ca))] [] (fun fb => by kernel_rfl) rfl trivial ?_
 obtain ⟨t3, ht4, hf⟩ := bind_some hf
 refine WL.call (some 6) 15 #[(sv Aa p0 ca)] (fun fb => by kernel_rfl) (ref02_Colours_calls _ p0 Aa ca t3 _ (hS.rd 0) ht4) (fun v w6 hR7 => ?_)
 obtain ⟨A9, c10, rfl, hk_⟩ := hR7
 have hS8 := hS.go w6 [rowO 3 encInt A9 c10 t3] (hS.call hk_ [] [] (fun g hg => hg.elim) (by simp) (by decide))
 refine ⟨trivial, ?_⟩
 refine seg 4 [] [0, 1, 7, 8] [(0, (sv Aa p0 ca)), (1, (iv p1)), (7, (iv (t3.length : Int))), (8, (iv p1))] [] (fun fb => by kernel_rfl) rfl trivial ?_
 obtain ⟨t11, ht12, hf⟩ := bind_some hf
 refine WL.call (some 9) 14 #[(iv (t3.length : Int)), (iv p1)] (fun fb => by kernel_rfl) (ref02_Power_calls _ (t3.length : Int) p1 t11 _ ht12) (fun v w13 hR14 => ?_)
 obtain ⟨rfl, hk_⟩ := hR14
 have hS15 := hS8.keepN hk_
 refine ⟨trivial, ?_⟩
 refine seg 7 [] [0, 1, 11] [(0, (sv Aa p0 ca)), (1, (iv p1)), (11, (bv (decide (t11 ≤ 1500))))] [] (fun fb => by kernel_rfl) rfl trivial ?_
 obtain ⟨x16, hx17, hf⟩ := bind_some hf
 refine WL.cutW (T := Bool) 13 (fun t => [(17, (bv t))]) (fun t w1 => (St NoS w w1 [rowR enc_Tile Aa ca p0] [] ∧ x16 = t) ∧ CellsOK [] w1) (fun K => ?_) ?_
 ·
  rcases br_some hx17 with ⟨h18, hx17⟩ | ⟨h18, hx17⟩
  ·
   refine WL.setB 11 h18 rfl ?_
   refine seg 10 [] [11, 13, 14] [(11, (bv true)), (13, (iv (p0.length : Int))), (14, (iv p1))] [] (fun fb => by kernel_rfl) rfl trivial ?_
   obtain ⟨t19, ht20, hx17⟩ := bind_some hx17
   refine WL.call (some 15) 14 #[(iv (p0.length : Int)), (iv p1)] (fun fb => by kernel_rfl) (ref02_Power_calls _ (p0.length : Int) p1 t19 _ ht20) (fun v w21 hR22 => ?_)
   obtain ⟨rfl, hk_⟩ := hR22
   have hS23 := hS15.keepN hk_
   refine ⟨trivial, ?_⟩
   refine seg 13 [] [17] [(17, (bv (decide (t19 ≤ 40000))))] [] (fun fb => by kernel_rfl) rfl trivial ?_
   injection hx17 with hx17
   exact WL.to K (decide (t19 ≤ 40000)) [17] rfl ⟨⟨(hS23.subR [0]).sub [] (by decide), hx17.symm⟩, trivial⟩
  refine WL.setB 11 h18 rfl ?_
  refine seg 13 [] [17] [(17, (bv false))] [] (fun fb => by kernel_rfl) rfl trivial ?_
  injection hx17 with hx17
  exact WL.to K false [17] rfl ⟨⟨(hS15.subR [0]).sub [] (by decide), hx17.symm⟩, trivial⟩
 rintro y24 w26 ⟨⟨hS27, hq25⟩, hF28⟩
 subst hq25
 refine seg 14 [] [4] [(4, (bv x16))] [] (fun fb => by kernel_rfl) rfl trivial ?_
 refine WL.done rfl (WX.next ?_)
 refine WC.ret ?_
 injection hf with hf
 subst hf
 exact WX.ret_ [] (bv x16) [] (fun fb => by kernel_rfl) trivial ⟨_, rfl, rfl, hS27.keep⟩
theorem tile_colour_1_calls (p0 : Int)  (r : Bool) (w : World)  (hf : tile_colour_1 p0 = some r) :
  CallsR Tryz.prog 59 #[(iv p0)] w (fun v w' => v = (bv r) ∧ Keeps NoS w w') := by
 have hS : St NoS w w [] [] := St.init (ro_nil _ _)
 refine enter 9 Tryz.func59 rfl Tryz.ntmps59 rfl ?_
 unfold tile_colour_1 at hf
 refine WC.seq (WC.region ?_)
 refine seg 1 [] [0] [(0, (iv p0))] [] (fun fb => by kernel_rfl) rfl trivial ?_
 refine WL.done rfl (WX.next (WC.seq (WC.region ?_)))
 refine seg 3 [] [0, 5] [(0, (iv p0)), (5, (bv (decide (p0 < 0))))] [] (fun fb => by kernel_rfl) rfl trivial ?_
 refine WL.cutV (T := Bool) 6 (fun t => [(8, (bv t))]) (fun t => ((decide (p0 < 0)) || (decide (p0 ≥ 1000))) = t) (fun K => ?_) ?_
 ·
  rcases Bool.eq_false_or_eq_true (decide (p0 < 0)) with h2 | h2
  ·
   refine WL.setB 5 h2 rfl ?_
   refine seg 6 [] [8] [(8, (bv true))] [] (fun fb => by kernel_rfl) rfl trivial ?_
   exact WL.toV K true [8] rfl (by first | (rw [h2]; done) | (rw [h2]; rfl))
  refine WL.setB 5 h2 rfl ?_
  refine seg 6 [] [8] [(8, (bv (decide (p0 ≥ 1000))))] [] (fun fb => by kernel_rfl) rfl trivial ?_
  exact WL.toV K (decide (p0 ≥ 1000)) [8] rfl (by first | (rw [h2]; done) | (rw [h2]; rfl))
 rintro b3 rfl
 refine seg 7 [] [2] [(2, (bv ((decide (p0 < 0)) || (decide (p0 ≥ 1000)))))] [] (fun fb => by kernel_rfl) rfl trivial ?_
 refine WL.done rfl (WX.next ?_)
 refine WC.ret ?_
 injection hf with hf
 subst hf
 exact WX.ret_ [] (bv ((decide (p0 < 0)) || (decide (p0 ≥ 1000)))) [] (fun fb => by kernel_rfl) trivial ⟨_, rfl, rfl, hS.keep⟩
theorem slices_IndexFunc_int_int_with_tile_colour_1_calls (k : Nat) (p0 : List Int) (Aa : Option Addr) (ca : Nat) (r : Int) (w : World) (hR0 : RO NoS w (rowR encInt Aa ca p0)) (hf : slices_IndexFunc_int_int_with_tile_colour_1 k p0 = some r) :
  CallsR Tryz.prog 76 #[(sv Aa p0 ca), (.func (.func 59) #[] #[])] w (fun v w' => v = (iv r) ∧ Keeps NoS w w') := by
 have hS : St NoS w w [rowR encInt Aa ca p0] [] := St.init (ro_cons hR0 (ro_nil _ _))
 refine enter 19 Tryz.func76 rfl Tryz.ntmps76 rfl ?_
 unfold slices_IndexFunc_int_int_with_tile_colour_1 at hf
 refine WC.seq (WC.region ?_)
 refine seg 1 [] [0, 1] [(0, (sv Aa p0 ca)), (1, (.func (.func 59) #[] #[]))] [] (fun fb => by kernel_rfl) rfl trivial ?_
 refine WL.done rfl (WX.next (WC.seq (WC.seq (WC.region ?_))))
 refine seg 3 [] [0, 1, 7, 8] [(0, (sv Aa p0 ca)), (1, (.func (.func 59) #[] #[])), (7, (iv (p0.length : Int))), (8, (iv 0))] [] (fun fb => by kernel_rfl) rfl trivial ?_
 refine WL.done rfl (WX.next ?_)
 obtain ⟨x4, hx5, hf⟩ := bind_some hf
 let e1 : Nat × Value := (7, (iv (p0.length : Int)))
 let e2 : Nat × Value := (0, (sv Aa p0 ca))
 refine WC.cutN (T := Unit) (fun t => []) (fun t w1 => St NoS w w1 [rowR encInt Aa ca p0] [] ∧ x4 = .inr t) (fun Kx4 => ?_) ?_
 ·
  refine WC.block ?_
  refine WC.loop (T := Int) (fun t => [e2, (1, (.func (.func 59) #[] #[])), e1, (8, (iv t))]) (fun n t w1 => St NoS w w1 [rowR encInt Aa ca p0] [] ∧ slices_IndexFunc_int_int_with_tile_colour_1.l0 n t p0 = some x4) k 0 [0, 1, 7, 8] rfl ⟨(hS.subR [0]).sub [] (by decide), hx5⟩ ?_
  rintro k6 x3 w7 ⟨hS8, hl9⟩
  cases k6 with
  | zero => rw [slices_IndexFunc_int_int_with_tile_colour_1.l0] at hl9; cases hl9
  | succ k6 =>
   rw [slices_IndexFunc_int_int_with_tile_colour_1.l0] at hl9
   refine WC.seq (WC.region ?_)
   refine seg 1 [] [0, 1, 7, 8, 9] [e2, (1, (.func (.func 59) #[] #[])), e1, (8, (iv x3)), (9, (bv (decide (x3 < (p0.length : Int)))))] [] (fun fb => by kernel_rfl) rfl trivial ?_
   refine WL.done rfl (WX.next (WC.seq ?_))
   rcases br_some hl9 with ⟨h10, hl9⟩ | ⟨h10, hl9⟩
   ·refine WC.condT2 (fun fb => by kernel_rfl) h10 ?_
    refine WC.skip (WX.next (WC.seq (WC.block (WC.seq (WC.region ?_)))))
    refine seg 2 [] [0, 1, 5, 7, 8] [e2, (1, (.func (.func 59) #[] #[])), (5, (iv x3)), e1, (8, (iv x3))] [] (fun fb => by kernel_rfl) rfl trivial ?_
    refine WL.done rfl (WX.next (WC.seq (WC.region ?_)))
    refine seg 3 [] [0, 1, 5, 7, 8, 11, 12, 13] [e2, (1, (.func (.func 59) #[] #[])), (5, (iv x3)), e1, (8, (iv x3)), (11, (.func (.func 59) #[] #[])), (12, (sv Aa p0 ca)), (13, (iv x3))] [] (fun fb => by kernel_rfl) rfl trivial ?_
    obtain ⟨h11, hl9⟩ := as_some hl9
    refine seg 5 [.v (iv (rdD p0 x3 0))] [0, 1, 5, 7, 8, 11, 15] [e2, (1, (.func (.func 59) #[] #[])), (5, (iv x3)), e1, (8, (iv x3)), (11, (.func (.func 59) #[] #[])), (15, (iv (rdD p0 x3 0)))] [.idx Aa x3 p0.length, .cell ((adr Aa).add ((x3).toNat * 1)) (iv (rdD p0 x3 0))] (fun fb => by kernel_rfl) rfl ⟨rowR.adr (hS8.rd 0).1 h11.1 h11.2, rowR.cell (hS8.rd 0).1 0 h11.1 h11.2 0 rfl, trivial⟩ ?_
    obtain ⟨t12, ht13, hl9⟩ := bind_some hl9
    refine WL.call (some 16) 59 #[(iv (rdD p0 x3 0))] (fun fb => by kernel_rfl) (tile_colour_1_calls (rdD p0 x3 0) t12 _ ht13) (fun v w14 hR15 => ?_)
    obtain ⟨rfl, hk_⟩ := hR15
    have hS16 := hS8.keepN hk_
    refine ⟨trivial, ?_⟩
    refine WL.done rfl (WX.next ?_)
    rcases br_some hl9 with ⟨h17, hl9⟩ | ⟨h17, hl9⟩
    ·refine WC.condT2 (fun fb => by kernel_rfl) h17 ?_
     refine WC.seq (WC.region ?_)
     refine seg 2 [] [4] [(4, (iv x3))] [] (fun fb => by kernel_rfl) rfl trivial ?_
     refine WL.done rfl (WX.next ?_)
     refine WC.ret ?_
     injection hl9 with hl9
     subst hl9
     injection hf with hf
     subst hf
     exact WX.blockR (WX.thenR (WX.thenR (WX.blockR (WX.thenR (WX.ret_ [] (iv x3) [] (fun fb => by kernel_rfl) trivial ⟨_, rfl, rfl, hS16.keep⟩)))))
    refine WC.condF2 (fun fb => by kernel_rfl) h17 ?_
    refine WC.skip ?_
    refine WX.blockN (WX.next ?_)
    refine WC.region ?_
    refine seg 2 [] [0, 1, 7, 8] [e2, (1, (.func (.func 59) #[] #[])), e1, (8, (iv (w64 (x3 + 1))))] [] (fun fb => by kernel_rfl) rfl trivial ?_
    refine WL.done rfl ?_
    exact WX.again k6 (Nat.lt_succ_self _) (w64 (x3 + 1)) [0, 1, 7, 8] rfl ⟨(hS16.subR [0]).sub [] (by decide), hl9⟩
   refine WC.condF2 (fun fb => by kernel_rfl) h10 ?_
   refine WC.exit ?_
   injection hl9 with hl9
   exact WX.thenX (WX.thenX (WX.blockHere (WX.to Kx4 () [] rfl ⟨(hS8.subR [0]).sub [] (by decide), hl9.symm⟩)))
 rintro y21 w18 ⟨hS19, hq20⟩
 subst hq20
 have hf := sum_inr hf
 refine WX.next (WC.seq (WC.region ?_))
 refine seg 1 [] [4] [(4, (iv (-1)))] [] (fun fb => by kernel_rfl) rfl trivial ?_
 refine WL.done rfl (WX.next ?_)
 refine WC.ret ?_
 injection hf with hf
 subst hf
 exact WX.ret_ [] (iv (-1)) [] (fun fb => by kernel_rfl) trivial ⟨_, rfl, rfl, hS19.keep⟩
theorem slices_ContainsFunc_int_int_with_tile_colour_1_calls (k : Nat) (p0 : List Int) (Aa : Option Addr) (ca : Nat) (r : Bool) (w : World) (hR0 : RO NoS w (rowR encInt Aa ca p0)) (hf : slices_ContainsFunc_int_int_with_tile_colour_1 k p0 = some r) :
  CallsR Tryz.prog 58 #[(sv Aa p0 ca), (.func (.func 59) #[] #[])] w (fun v w' => v = (bv r) ∧ Keeps NoS w w') := by
 have hS : St NoS w w [rowR encInt Aa ca p0] [] := St.init (ro_cons hR0 (ro_nil _ _))
 refine enter 9 Tryz.func58 rfl Tryz.ntmps58 rfl ?_
 unfold slices_ContainsFunc_int_int_with_tile_colour_1 at hf
 refine WC.seq (WC.region ?_)
 refine seg 1 [] [0, 1] [(0, (sv Aa p0 ca)), (1, (.func (.func 59) #[] #[]))] [] (fun fb => by kernel_rfl) rfl trivial ?_
 refine WL.done rfl (WX.next (WC.seq (WC.region ?_)))
 refine seg 2 [] [5, 6] [(5, (sv Aa p0 ca)), (6, (.func (.func 59) #[] #[]))] [] (fun fb => by kernel_rfl) rfl trivial ?_
 obtain ⟨t2, ht3, hf⟩ := bind_some hf
 refine WL.call (some 7) 76 #[(sv Aa p0 ca), (.func (.func 59) #[] #[])] (fun fb => by kernel_rfl) (slices_IndexFunc_int_int_with_tile_colour_1_calls _ p0 Aa ca t2 _ (hS.rd 0) ht3) (fun v w4 hR5 => ?_)
 obtain ⟨rfl, hk_⟩ := hR5
 have hS6 := hS.keepN hk_
 refine ⟨trivial, ?_⟩
 refine seg 5 [] [4] [(4, (bv (decide (t2 ≥ 0))))] [] (fun fb => by kernel_rfl) rfl trivial ?_
 refine WL.done rfl (WX.next ?_)
 refine WC.ret ?_
 injection hf with hf
 subst hf
 exact WX.ret_ [] (bv (decide (t2 ≥ 0))) [] (fun fb => by kernel_rfl) trivial ⟨_, rfl, rfl, hS6.keep⟩
theorem tile_colour_calls (k : Nat) (p0 : List Int) (Aa : Option Addr) (ca : Nat) (r : Bool) (w : World) (hR0 : RO NoS w (rowR encInt Aa ca p0)) (hf : tile_colour k p0 = some r) :
  CallsR Tryz.prog 38 #[(sv Aa p0 ca)] w (fun v w' => v = (bv r) ∧ Keeps NoS w w') := by
 have hS : St NoS w w [rowR encInt Aa ca p0] [] := St.init (ro_cons hR0 (ro_nil _ _))
 refine enter 6 Tryz.func38 rfl Tryz.ntmps38 rfl ?_
 unfold tile_colour at hf
 refine WC.seq (WC.region ?_)
 refine seg 1 [] [0] [(0, (sv Aa p0 ca))] [] (fun fb => by kernel_rfl) rfl trivial ?_
 refine WL.done rfl (WX.next (WC.seq (WC.region ?_)))
 refine seg 1 [] [3] [(3, (sv Aa p0 ca))] [] (fun fb => by kernel_rfl) rfl trivial ?_
 obtain ⟨t2, ht3, hf⟩ := bind_some hf
 refine WL.call (some 4) 58 #[(sv Aa p0 ca), (.func (.func 59) #[] #[])] (fun fb => by kernel_rfl) (slices_ContainsFunc_int_int_with_tile_colour_1_calls _ p0 Aa ca t2 _ (hS.rd 0) ht3) (fun v w4 hR5 => ?_)
 obtain ⟨rfl, hk_⟩ := hR5
 have hS6 := hS.keepN hk_
 refine ⟨trivial, ?_⟩
 refine seg 4 [] [2] [(2, (bv (!t2)))] [] (fun fb => by kernel_rfl) rfl trivial ?_
 refine WL.done rfl (WX.next ?_)
 refine WC.ret ?_
 injection hf with hf
 subst hf
 exact WX.ret_ [] (bv (!t2)) [] (fun fb => by kernel_rfl) trivial ⟨_, rfl, rfl, hS6.keep⟩
theorem tile_Valid_key32 : KeyK Tryz.prog 32 (aggI ints_Tile) := KeyK.struct (n := 4) (by kernel_rfl) ints_Tile (fun _ => rfl) (fun x y h => by cases x; cases y; simp only [ints_Tile, List.cons.injEq, and_true] at h; obtain ⟨rfl, rfl, rfl, rfl⟩ := h; rfl)
theorem tile_Valid_calls (k : Nat) (p0 : List Tile) (Aa : Option Addr) (ca : Nat) (r : Bool) (w : World) (hR0 : RO NoS w (rowR enc_Tile Aa ca p0)) (hf : tile_Valid k p0 = some r) :
  CallsR Tryz.prog 22 #[(sv Aa p0 ca)] w (fun v w' => v = (bv r) ∧ Keeps NoS w w') := by
 have hS : St NoS w w [rowR enc_Tile Aa ca p0] [] := St.init (ro_cons hR0 (ro_nil _ _))
 refine enter 35 Tryz.func22 rfl Tryz.ntmps22 rfl ?_
 unfold tile_Valid at hf
 refine WC.seq (WC.region ?_)
 refine seg 1 [] [0] [(0, (sv Aa p0 ca))] [] (fun fb => by kernel_rfl) rfl trivial ?_
 refine WL.done rfl (WX.next (WC.seq (WC.seq (WC.region ?_))))
 refine seg 3 [] [0, 8] [(0, (sv Aa p0 ca)), (8, (bv (decide ((p0.length : Int) > 1000))))] [] (fun fb => by kernel_rfl) rfl trivial ?_
 refine WL.done rfl (WX.next ?_)
 rcases br_some hf with ⟨h3, hf⟩ | ⟨h3, hf⟩
 ·refine WC.condT2 (fun fb => by kernel_rfl) h3 ?_
  refine WC.seq (WC.region ?_)
  refine seg 1 [] [2] [(2, (bv false))] [] (fun fb => by kernel_rfl) rfl trivial ?_
  refine WL.done rfl (WX.next ?_)
  refine WC.ret ?_
  injection hf with hf
  subst hf
  exact WX.thenR (WX.ret_ [] (bv false) [] (fun fb => by kernel_rfl) trivial ⟨_, rfl, rfl, hS.keep⟩)
 refine WC.condF2 (fun fb => by kernel_rfl) h3 ?_
 refine WC.skip (WX.next (WC.seq (WC.region ?_)))
 refine WL.new hS 9 [] (fun g => (.map (some g))) (mapObj (aggI ints_Tile) vB ([] : List (Tile × Bool))) [] (fun fb g => by kernel_rfl) trivial (fun g4 w5 hS6 => ?_)
 refine ⟨trivial, ?_⟩
 refine seg 2 [] [0, 3] [(0, (sv Aa p0 ca)), (3, (.map (some g4)))] [] (fun fb => by kernel_rfl) rfl trivial ?_
 refine WL.done rfl (WX.next (WC.seq (WC.seq (WC.region ?_))))
 refine seg 3 [] [3, 10, 11, 12] [(3, (.map (some g4))), (10, (sv Aa p0 ca)), (11, (iv (p0.length : Int))), (12, (iv 0))] [] (fun fb => by kernel_rfl) rfl trivial ?_
 refine WL.done rfl (WX.next ?_)
 obtain ⟨x9, hx10, hf⟩ := bind_some hf
 let e3 : Nat × Value := (11, (iv (p0.length : Int)))
 let e4 : Nat × Value := (10, (sv Aa p0 ca))
 let e11 : List Nat := [3, 5, 10, 11, 12, 31]
 let e12 := aggI ints_Tile
 refine WC.cutN (T := Unit) (fun t => []) (fun t w1 => St NoS w w1 [rowR enc_Tile Aa ca p0] [] ∧ x9 = .inr t) (fun Kx9 => ?_) ?_
 ·
  refine WC.block ?_
  refine WC.loop (T := (List (Tile × Bool)) × Int) (fun t => [(3, (.map (some g4))), e4, e3, (12, (iv t.2))]) (fun n t w1 => St NoS w w1 [rowR enc_Tile Aa ca p0] [blk g4 (mapObj e12 vB t.1)] ∧ tile_Valid.l0 n t.1 t.2 p0 = some x9) k (([] : List (Tile × Bool)), 0) [3, 10, 11, 12] rfl ⟨(hS6.subR [0]).sub [0] (by decide), hx10⟩ ?_
  rintro k11 ⟨l7, x8⟩ w12 ⟨hS13, hl14⟩
  let e1 := rdD p0 x8 z_Tile
  let e2 : Array Value := #[(iv (e1.N)), (iv (e1.E)), (iv (e1.S)), (iv (e1.W))]
  let e5 := (adr Aa).add ((x8).toNat * 4)
  let e6 : Nat × Value := (12, (iv x8))
  let e7 := iv (e1.N)
  let e8 := iv (e1.E)
  let e9 := iv (e1.S)
  let e10 := iv (e1.W)
  cases k11 with
  | zero => rw [tile_Valid.l0] at hl14; cases hl14
  | succ k11 =>
   rw [tile_Valid.l0] at hl14
   refine WC.seq (WC.region ?_)
   refine seg 1 [] [3, 10, 11, 12, 13] [(3, (.map (some g4))), e4, e3, e6, (13, (bv (decide (x8 < (p0.length : Int)))))] [] (fun fb => by kernel_rfl) rfl trivial ?_
   refine WL.done rfl (WX.next (WC.seq ?_))
   rcases br_some hl14 with ⟨h15, hl14⟩ | ⟨h15, hl14⟩
   ·refine WC.condT2 (fun fb => by kernel_rfl) h15 ?_
    refine WC.skip (WX.next (WC.seq (WC.block (WC.seq (WC.region ?_)))))
    obtain ⟨h16, hl14⟩ := as_some hl14
    refine seg 2 [.v e7, .v e8, .v e9, .v e10] [3, 10, 11, 12, 15] [(3, (.map (some g4))), e4, e3, e6, (15, (.agg e2))] [.idx Aa x8 p0.length, .cell e5 e7, .cell (e5.add 1) e8, .cell (e5.add 2) e9, .cell (e5.add 3) e10] (fun fb => by kernel_rfl) rfl ⟨rowR.adr (hS13.rd 0).1 h16.1 h16.2, rowR.cell (hS13.rd 0).1 z_Tile h16.1 h16.2 0 rfl, rowR.cell (hS13.rd 0).1 z_Tile h16.1 h16.2 1 rfl, rowR.cell (hS13.rd 0).1 z_Tile h16.1 h16.2 2 rfl, rowR.cell (hS13.rd 0).1 z_Tile h16.1 h16.2 3 rfl, trivial⟩ ?_
    refine WL.new hS13 5 [] (fun g => (pt g)) (.cells #[(iv 0), (iv 0), (iv 0), (iv 0)] 32 (0, 0)) [] (fun fb g => by kernel_rfl) trivial (fun g17 w18 hS19 => ?_)
    refine ⟨trivial, ?_⟩
    refine WL.store hS19 0 rfl [(0, e7), (1, e8), (2, e9), (3, e10)] e2 (fun fb => by kernel_rfl) (by kernel_rfl) rfl [1] (by decide) (by decide) (fun w20 hS21 => ?_)
    refine ⟨trivial, ?_⟩
    refine WL.done rfl (WX.next (WC.seq (WC.seq (WC.region ?_))))
    refine seg 2 [.v e7, .v e8, .v e9, .v e10] [3, 5, 10, 11, 12, 16, 17] [(3, (.map (some g4))), (5, (pt g17)), e4, e3, e6, (16, (.map (some g4))), (17, (.agg e2))] [.cell ⟨g17, 0, none⟩ e7, .cell ⟨g17, 1, none⟩ e8, .cell ⟨g17, 2, none⟩ e9, .cell ⟨g17, 3, none⟩ e10] (fun fb => by kernel_rfl) rfl ⟨hS21.cell 0 rfl 0 rfl, hS21.cell 0 rfl 1 rfl, hS21.cell 0 rfl 2 rfl, hS21.cell 0 rfl 3 rfl, trivial⟩ ?_
    refine WL.lookup (hS21.own 1).1 e1 (d := 18) (c := false) (t := 55) (kT := 32) (eT := 4) (z := false) (kE := e12) (vE := vB) (l := l7) (bv (mget e1 false l7)) (fun fb => by kernel_rfl) tile_Valid_key32 (by kernel_rfl) (fun _ => by kernel_rfl) rfl ?_
    refine ⟨trivial, ?_⟩
    refine seg 4 [] [3, 5, 10, 11, 12, 19] [(3, (.map (some g4))), (5, (pt g17)), e4, e3, e6, (19, (bv (mget e1 false l7)))] [] (fun fb => by kernel_rfl) rfl trivial ?_
    obtain ⟨x23, hx24, hl14⟩ := bind_some hl14
    refine WL.cutW (T := Bool) 16 (fun t => [(3, (.map (some g4))), (5, (pt g17)), e4, e3, e6, (31, (bv t))]) (fun t w1 => (St NoS w w1 [rowR enc_Tile Aa ca p0] [blk g4 (mapObj e12 vB l7), blk g17 (.cells e2 32 (0, 0))] ∧ x23 = t) ∧ CellsOK [] w1) (fun K => ?_) ?_
    ·
     rcases br_some hx24 with ⟨h25, hx24⟩ | ⟨h25, hx24⟩
     ·
      refine WL.setB 19 h25 rfl ?_
      refine seg 16 [] e11 [(3, (.map (some g4))), (5, (pt g17)), e4, e3, e6, (31, (bv true))] [] (fun fb => by kernel_rfl) rfl trivial ?_
      injection hx24 with hx24
      exact WL.to K true e11 rfl ⟨⟨(hS21.subR [0]).sub [1, 0] (by decide), hx24.symm⟩, trivial⟩
     refine WL.setB 19 h25 rfl ?_
     refine seg 12 [.v e7, .v e8, .v e9, .v e10] [3, 5, 10, 11, 12, 19, 21, 23, 25, 27] [(3, (.map (some g4))), (5, (pt g17)), e4, e3, e6, (19, (bv false)), (21, e7), (23, e8), (25, e9), (27, e10)] [.cell ⟨g17, 0, none⟩ e7, .cell ⟨g17, 1, none⟩ e8, .cell ⟨g17, 2, none⟩ e9, .cell ⟨g17, 3, none⟩ e10] (fun fb => by kernel_rfl) rfl ⟨hS21.cell 0 rfl 0 rfl, hS21.cell 0 rfl 1 rfl, hS21.cell 0 rfl 2 rfl, hS21.cell 0 rfl 3 rfl, trivial⟩ ?_
     refine WL.new hS21 28 [] (fun g => (.slice (some ⟨g, 0, none⟩) 4 4)) (.cells e2 3 (0, 0)) [] (fun fb g => by kernel_rfl) trivial (fun g26 w27 hS28 => ?_)
     refine ⟨trivial, ?_⟩
     have hS29 := hS.go w27 [rowO 3 encInt (some ⟨g26, 0, none⟩) 4 [e1.N, e1.E, e1.S, e1.W], blk g17 (.cells e2 32 (0, 0)), blk g4 (mapObj e12 vB l7)] (hS28.map1 0 _ (fun h => rowO.ofBlk h rfl (Nat.le_of_ble_eq_true (by kernel_rfl))) (fun _ h => by obtain ⟨_, h1, h2⟩ := h; injection h1 with h1; subst h1; exact h2) [1, 2] (by decide) (by decide))
     obtain ⟨t30, ht31, hx24⟩ := bind_some hx24
     refine WL.call (some 29) 38 #[(sv (some ⟨g26, 0, none⟩) [e1.N, e1.E, e1.S, e1.W] 4)] (fun fb => by kernel_rfl) (tile_colour_calls _ [e1.N, e1.E, e1.S, e1.W] (some ⟨g26, 0, none⟩) 4 t30 _ (hS29.ow 0).ofO ht31) (fun v w33 hR34 => ?_)
     obtain ⟨rfl, hk_⟩ := hR34
     have hS35 := hS29.keepN hk_
     refine ⟨trivial, ?_⟩
     refine seg 16 [] e11 [(3, (.map (some g4))), (5, (pt g17)), e4, e3, e6, (31, (bv (!t30)))] [] (fun fb => by kernel_rfl) rfl trivial ?_
     injection hx24 with hx24
     exact WL.to K (!t30) e11 rfl ⟨⟨(hS35.subR [0]).sub [2, 1] (by decide), hx24.symm⟩, trivial⟩
    rintro y36 w38 ⟨⟨hS39, hq37⟩, hF40⟩
    subst hq37
    refine WL.done rfl (WX.next ?_)
    rcases br_some hl14 with ⟨h41, hl14⟩ | ⟨h41, hl14⟩
    ·refine WC.condT2 (fun fb => by kernel_rfl) h41 ?_
     refine WC.seq (WC.region ?_)
     refine seg 1 [] [2] [(2, (bv false))] [] (fun fb => by kernel_rfl) rfl trivial ?_
     refine WL.done rfl (WX.next ?_)
     refine WC.ret ?_
     injection hl14 with hl14
     subst hl14
     injection hf with hf
     subst hf
     exact WX.thenR (WX.blockR (WX.thenR (WX.thenR (WX.blockR (WX.thenR (WX.ret_ [] (bv false) [] (fun fb => by kernel_rfl) trivial ⟨_, rfl, rfl, hS39.keep⟩))))))
    refine WC.condF2 (fun fb => by kernel_rfl) h41 ?_
    refine WC.skip (WX.next (WC.region ?_))
    refine seg 2 [.v e7, .v e8, .v e9, .v e10] [3, 10, 11, 12, 32, 33] [(3, (.map (some g4))), e4, e3, e6, (32, (.map (some g4))), (33, (.agg e2))] [.cell ⟨g17, 0, none⟩ e7, .cell ⟨g17, 1, none⟩ e8, .cell ⟨g17, 2, none⟩ e9, .cell ⟨g17, 3, none⟩ e10] (fun fb => by kernel_rfl) rfl ⟨hS39.cell 1 rfl 0 rfl, hS39.cell 1 rfl 1 rfl, hS39.cell 1 rfl 2 rfl, hS39.cell 1 rfl 3 rfl, trivial⟩ ?_
    refine WL.mapput hS39 0 (t := 55) (kT := 32) (eT := 4) (kE := e12) (vE := vB) (l := l7) rfl e1 true (fun fb => by kernel_rfl) tile_Valid_key32 (by kernel_rfl) [1] (by decide) (by decide) (fun w42 hS43 => ?_)
    refine ⟨trivial, ?_⟩
    refine WL.done rfl ?_
    refine WX.blockN (WX.next ?_)
    refine WC.region ?_
    refine seg 2 [] [3, 10, 11, 12] [(3, (.map (some g4))), e4, e3, (12, (iv (w64 (x8 + 1))))] [] (fun fb => by kernel_rfl) rfl trivial ?_
    refine WL.done rfl ?_
    exact WX.again k11 (Nat.lt_succ_self _) (mput e1 true l7, w64 (x8 + 1)) [3, 10, 11, 12] rfl ⟨(hS43.subR [0]).sub [0] (by decide), hl14⟩
   refine WC.condF2 (fun fb => by kernel_rfl) h15 ?_
   refine WC.exit ?_
   injection hl14 with hl14
   exact WX.thenX (WX.thenX (WX.blockHere (WX.to Kx9 () [] rfl ⟨(hS13.subR [0]).sub [] (by decide), hl14.symm⟩)))
 rintro y47 w44 ⟨hS45, hq46⟩
 subst hq46
 have hf := sum_inr hf
 refine WX.next (WC.seq (WC.region ?_))
 refine seg 1 [] [2] [(2, (bv true))] [] (fun fb => by kernel_rfl) rfl trivial ?_
 refine WL.done rfl (WX.next ?_)
 refine WC.ret ?_
 injection hf with hf
 subst hf
 exact WX.ret_ [] (bv true) [] (fun fb => by kernel_rfl) trivial ⟨_, rfl, rfl, hS45.keep⟩
theorem tile_write_calls (k : Nat) (p0 : List Tile) (Aa : Option Addr) (ca : Nat) (mG : Glo) (r : ByteArray) (w : World) (hR0 : RO NoS w (rowR enc_Tile Aa ca p0)) (hR1 : RO NoS w (gloO Tryz.prog 2 5 0 1 mG)) (hf : tile_write k p0 = some r) :
  CallsR Tryz.prog 33 #[(sv Aa p0 ca)] w (fun v w' => v = (.string r) ∧ Keeps NoS w w') := by
 have hS : St NoS w w [rowR enc_Tile Aa ca p0, gloO Tryz.prog 2 5 0 1 mG] [] := St.init (ro_cons hR0 (ro_cons hR1 (ro_nil _ _)))
 refine enter 41 Tryz.func33 rfl Tryz.ntmps33 rfl ?_
 unfold tile_write at hf
 refine WC.seq (WC.region ?_)
 refine seg 1 [] [0] [(0, (sv Aa p0 ca))] [] (fun fb => by kernel_rfl) rfl trivial ?_
 refine WL.done rfl (WX.next (WC.seq (WC.region ?_)))
 refine seg 1 [] [0, 3] [(0, (sv Aa p0 ca)), (3, (.slice none 0 0))] [] (fun fb => by kernel_rfl) rfl trivial ?_
 refine WL.done rfl (WX.next (WC.seq (WC.seq (WC.region ?_))))
 refine seg 3 [] [3, 9, 10, 11] [(3, (.slice none 0 0)), (9, (sv Aa p0 ca)), (10, (iv (p0.length : Int))), (11, (iv 0))] [] (fun fb => by kernel_rfl) rfl trivial ?_
 refine WL.done rfl (WX.next ?_)
 have hS3 := hS.nilrow 9 encStr
 obtain ⟨x10, hx11, hf⟩ := bind_some hf
 let e2 : Nat × Value := (10, (iv (p0.length : Int)))
 let e4 : Nat × Value := (9, (sv Aa p0 ca))
 let e6 : List Nat := [3, 6, 9, 10, 11, 23, 24]
 let e9 : List Own := [rowR enc_Tile Aa ca p0, gloO Tryz.prog 2 5 0 1 mG]
 let e12 : List Nat := [3, 9, 10, 11, 23, 24, 27, 28]
 let e13 : List Nat := [3, 6, 9, 10, 11, 23, 24, 26]
 let e14 : List Nat := [3, 6, 8, 9, 10, 11, 23, 24]
 refine WC.cutN (T := (List ByteArray) × (Option Addr) × Nat) (fun t => [(3, (sv t.2.1 t.1 t.2.2))]) (fun t w1 => St NoS w w1 e9 [rowO 9 encStr t.2.1 t.2.2 t.1] ∧ x10 = t.1) (fun Kx10 => ?_) ?_
 ·
  refine WC.block ?_
  refine WC.loop (T := ((List ByteArray) × Int) × (Option Addr) × Nat) (fun t => [(3, (sv t.2.1 t.1.1 t.2.2)), e4, e2, (11, (iv t.1.2))]) (fun n t w1 => St NoS w w1 e9 [rowO 9 encStr t.2.1 t.2.2 t.1.1] ∧ tile_write.l0 n t.1.1 t.1.2 p0 = some x10) k ((([] : List ByteArray), 0), none, 0) [3, 9, 10, 11] rfl ⟨(hS3.subR [0, 1]).sub [0] (by decide), hx11⟩ ?_
  rintro k12 ⟨⟨l6, x7⟩, A4, c5⟩ w13 ⟨hS14, hl15⟩
  let e1 : Array Value := #[(iv ((rdD p0 x7 z_Tile).N)), (iv ((rdD p0 x7 z_Tile).E)), (iv ((rdD p0 x7 z_Tile).S)), (iv ((rdD p0 x7 z_Tile).W))]
  let e3 := rdD p0 x7 z_Tile
  let e5 : Nat × Value := (3, (sv A4 l6 c5))
  let e7 : Nat × Value := (11, (iv x7))
  let e11 := (adr Aa).add ((x7).toNat * 4)
  let e16 := iv (e3.N)
  let e17 := iv (e3.E)
  let e18 := iv (e3.S)
  let e19 := iv (e3.W)
  cases k12 with
  | zero => rw [tile_write.l0] at hl15; cases hl15
  | succ k12 =>
   rw [tile_write.l0] at hl15
   refine WC.seq (WC.region ?_)
   refine seg 1 [] [3, 9, 10, 11, 12] [e5, e4, e2, e7, (12, (bv (decide (x7 < (p0.length : Int)))))] [] (fun fb => by kernel_rfl) rfl trivial ?_
   refine WL.done rfl (WX.next (WC.seq ?_))
   rcases br_some hl15 with ⟨h16, hl15⟩ | ⟨h16, hl15⟩
   ·refine WC.condT2 (fun fb => by kernel_rfl) h16 ?_
    refine WC.skip (WX.next (WC.seq (WC.block (WC.seq (WC.region ?_)))))
    obtain ⟨h17, hl15⟩ := as_some hl15
    refine seg 2 [.v e16, .v e17, .v e18, .v e19] [3, 9, 10, 11, 14] [e5, e4, e2, e7, (14, (.agg e1))] [.idx Aa x7 p0.length, .cell e11 e16, .cell (e11.add 1) e17, .cell (e11.add 2) e18, .cell (e11.add 3) e19] (fun fb => by kernel_rfl) rfl ⟨rowR.adr (hS14.rd 0).1 h17.1 h17.2, rowR.cell (hS14.rd 0).1 z_Tile h17.1 h17.2 0 rfl, rowR.cell (hS14.rd 0).1 z_Tile h17.1 h17.2 1 rfl, rowR.cell (hS14.rd 0).1 z_Tile h17.1 h17.2 2 rfl, rowR.cell (hS14.rd 0).1 z_Tile h17.1 h17.2 3 rfl, trivial⟩ ?_
    refine WL.new hS14 5 [] (fun g => (pt g)) (.cells #[(iv 0), (iv 0), (iv 0), (iv 0)] 32 (0, 0)) [] (fun fb g => by kernel_rfl) trivial (fun g18 w19 hS20 => ?_)
    refine ⟨trivial, ?_⟩
    refine WL.store hS20 0 rfl [(0, e16), (1, e17), (2, e18), (3, e19)] e1 (fun fb => by kernel_rfl) (by kernel_rfl) rfl [1] (by decide) (by decide) (fun w21 hS22 => ?_)
    refine ⟨trivial, ?_⟩
    refine WL.done rfl (WX.next (WC.seq (WC.region ?_)))
    refine seg 1 [] [3, 5, 6, 9, 10, 11] [e5, (5, (pt g18)), (6, (.slice none 0 0)), e4, e2, e7] [] (fun fb => by kernel_rfl) rfl trivial ?_
    refine WL.done rfl (WX.next (WC.seq (WC.seq (WC.region ?_))))
    refine seg 10 [.v e16, .v e17, .v e18, .v e19] e6 [e5, (6, (.slice none 0 0)), e4, e2, e7, (23, (.agg e1)), (24, (iv 0))] [.cell ⟨g18, 0, none⟩ e16, .cell ⟨g18, 1, none⟩ e17, .cell ⟨g18, 2, none⟩ e18, .cell ⟨g18, 3, none⟩ e19] (fun fb => by kernel_rfl) rfl ⟨hS22.cell 0 rfl 0 rfl, hS22.cell 0 rfl 1 rfl, hS22.cell 0 rfl 2 rfl, hS22.cell 0 rfl 3 rfl, trivial⟩ ?_
    refine WL.done rfl (WX.next ?_)
    have hS23 := hS22.nilrow 9 encStr
    obtain ⟨x30, hx31, hl15⟩ := bind_some hl15
    refine WC.cutN (T := (List ByteArray) × (Option Addr) × Nat) (fun t => [e5, (6, (sv t.2.1 t.1 t.2.2)), e4, e2, e7]) (fun t w1 => St NoS w w1 e9 [rowO 9 encStr A4 c5 l6, rowO 9 encStr t.2.1 t.2.2 t.1] ∧ x30 = t.1) (fun Kx30 => ?_) ?_
    ·
     refine WC.block ?_
     refine WC.loop (T := ((List ByteArray) × Int) × (Option Addr) × Nat) (fun t => [e5, (6, (sv t.2.1 t.1.1 t.2.2)), e4, e2, e7, (23, (.agg e1)), (24, (iv t.1.2))]) (fun n t w1 => St NoS w w1 e9 [rowO 9 encStr A4 c5 l6, rowO 9 encStr t.2.1 t.2.2 t.1.1] ∧ tile_write.l1 n t.1.1 t.1.2 p0 x7 = some x30) k12 ((([] : List ByteArray), 0), none, 0) e6 rfl ⟨(hS23.subR [0, 1]).sub [2, 0] (by decide), hx31⟩ ?_
     rintro k32 ⟨⟨l26, x27⟩, A24, c25⟩ w34 ⟨hS35, hl36⟩
     let e8 := sv A24 l26 c25
     let e10 : Nat × Value := (24, (iv x27))
     let e15 : Nat × Value := (24, (iv (w64 (x27 + 1))))
     cases k32 with
     | zero => rw [tile_write.l1] at hl36; cases hl36
     | succ k32 =>
      rw [tile_write.l1] at hl36
      refine WC.seq (WC.region ?_)
      refine seg 1 [] [3, 6, 9, 10, 11, 23, 24, 25] [e5, (6, e8), e4, e2, e7, (23, (.agg e1)), e10, (25, (bv (decide (x27 < 4))))] [] (fun fb => by kernel_rfl) rfl trivial ?_
      refine WL.done rfl (WX.next (WC.seq ?_))
      rcases br_some hl36 with ⟨h37, hl36⟩ | ⟨h37, hl36⟩
      ·refine WC.condT2 (fun fb => by kernel_rfl) h37 ?_
       refine WC.skip (WX.next (WC.seq (WC.block (WC.seq (WC.region ?_)))))
       rcases br_some hl36 with ⟨h38, hl36⟩ | ⟨h38, hl36⟩
       ·
        refine WL.setI 24 (eq_of_beq h38) rfl ?_
        refine seg 1 [] e13 [e5, (6, e8), e4, e2, e7, (23, (.agg e1)), (24, (iv 0)), (26, e16)] [] (fun fb => by kernel_rfl) rfl trivial ?_
        refine WL.setI 24 (eq_of_beq h38).symm rfl ?_
        refine seg 2 [] e14 [e5, (6, e8), (8, e16), e4, e2, e7, (23, (.agg e1)), e10] [] (fun fb => by kernel_rfl) rfl trivial ?_
        refine WL.done rfl (WX.next (WC.region ?_))
        refine seg 2 [] e12 [e5, e4, e2, e7, (23, (.agg e1)), e10, (27, e8), (28, e16)] [] (fun fb => by kernel_rfl) rfl trivial ?_
        obtain ⟨t42, ht43, hl36⟩ := bind_some hl36
        refine WL.call (some 29) 49 #[e16] (fun fb => by kernel_rfl) (itoaN_calls Tryz.strconv_Itoa (e3.N) t42 _ (hS35.rd 1) ht43) (fun v w40 hR39 => ?_)
        obtain ⟨rfl, hk_⟩ := hR39
        have hS41 := hS35.keepN hk_
        refine ⟨trivial, ?_⟩
        refine WL.new hS41 30 [] (fun g => (.slice (some ⟨g, 0, none⟩) 1 1)) (.cells #[(.string t42)] 9 (0, 0)) [] (fun fb g => by kernel_rfl) trivial (fun g44 w45 hS46 => ?_)
        refine ⟨trivial, ?_⟩
        have hS47 := hS.go w45 [rowO 9 encStr (some ⟨g44, 0, none⟩) 1 [t42], rowO 9 encStr A4 c5 l6, rowO 9 encStr A24 c25 l26] (hS46.map1 0 _ (fun h => rowO.ofBlk h rfl (Nat.le_of_ble_eq_true (by kernel_rfl))) (fun _ h => by obtain ⟨_, h1, h2⟩ := h; injection h1 with h1; subst h1; exact h2) [1, 2] (by decide) (by decide))
        obtain ⟨h48, hl36⟩ := as_some hl36
        refine WL.append hS47 2 (d := 31) (tS := 75) (z := (.string ByteArray.empty)) (bytes := 16) (c2 := 1) rfl (fun fb => by kernel_rfl) (rowO.rd (hS47.own 0).1) (by kernel_rfl) (by kernel_rfl) rfl (by decide) h48 (by decide) [0, 1] (by decide) (by decide) (fun A49 c50 w51 hS52 => ?_)
        refine ⟨trivial, ?_⟩
        refine seg 6 [] e6 [e5, (6, (sv A49 (l26 ++ [t42]) c50)), e4, e2, e7, (23, (.agg e1)), e10] [] (fun fb => by kernel_rfl) rfl trivial ?_
        refine WL.done rfl ?_
        refine WX.blockN (WX.next ?_)
        refine WC.region ?_
        refine seg 2 [] e6 [e5, (6, (sv A49 (l26 ++ [t42]) c50)), e4, e2, e7, (23, (.agg e1)), e15] [] (fun fb => by kernel_rfl) rfl trivial ?_
        refine WL.done rfl ?_
        exact WX.again k32 (Nat.lt_succ_self _) ((l26 ++ [t42], w64 (x27 + 1)), A49, c50) e6 rfl ⟨(hS52.subR [0, 1]).sub [2, 0] (by decide), hl36⟩
       rcases br_some hl36 with ⟨h53, hl36⟩ | ⟨h53, hl36⟩
       ·
        refine WL.setI 24 (eq_of_beq h53) rfl ?_
        refine seg 1 [] e13 [e5, (6, e8), e4, e2, e7, (23, (.agg e1)), (24, (iv 1)), (26, e17)] [] (fun fb => by kernel_rfl) rfl trivial ?_
        refine WL.setI 24 (eq_of_beq h53).symm rfl ?_
        refine seg 2 [] e14 [e5, (6, e8), (8, e17), e4, e2, e7, (23, (.agg e1)), e10] [] (fun fb => by kernel_rfl) rfl trivial ?_
        refine WL.done rfl (WX.next (WC.region ?_))
        refine seg 2 [] e12 [e5, e4, e2, e7, (23, (.agg e1)), e10, (27, e8), (28, e17)] [] (fun fb => by kernel_rfl) rfl trivial ?_
        obtain ⟨t57, ht58, hl36⟩ := bind_some hl36
        refine WL.call (some 29) 49 #[e17] (fun fb => by kernel_rfl) (itoaN_calls Tryz.strconv_Itoa (e3.E) t57 _ (hS35.rd 1) ht58) (fun v w55 hR54 => ?_)
        obtain ⟨rfl, hk_⟩ := hR54
        have hS56 := hS35.keepN hk_
        refine ⟨trivial, ?_⟩
        refine WL.new hS56 30 [] (fun g => (.slice (some ⟨g, 0, none⟩) 1 1)) (.cells #[(.string t57)] 9 (0, 0)) [] (fun fb g => by kernel_rfl) trivial (fun g59 w60 hS61 => ?_)
        refine ⟨trivial, ?_⟩
        have hS62 := hS.go w60 [rowO 9 encStr (some ⟨g59, 0, none⟩) 1 [t57], rowO 9 encStr A4 c5 l6, rowO 9 encStr A24 c25 l26] (hS61.map1 0 _ (fun h => rowO.ofBlk h rfl (Nat.le_of_ble_eq_true (by kernel_rfl))) (fun _ h => by obtain ⟨_, h1, h2⟩ := h; injection h1 with h1; subst h1; exact h2) [1, 2] (by decide) (by decide))
        obtain ⟨h63, hl36⟩ := as_some hl36
        refine WL.append hS62 2 (d := 31) (tS := 75) (z := (.string ByteArray.empty)) (bytes := 16) (c2 := 1) rfl (fun fb => by kernel_rfl) (rowO.rd (hS62.own 0).1) (by kernel_rfl) (by kernel_rfl) rfl (by decide) h63 (by decide) [0, 1] (by decide) (by decide) (fun A65 c66 w67 hS68 => ?_)
        refine ⟨trivial, ?_⟩
        refine seg 6 [] e6 [e5, (6, (sv A65 (l26 ++ [t57]) c66)), e4, e2, e7, (23, (.agg e1)), e10] [] (fun fb => by kernel_rfl) rfl trivial ?_
        refine WL.done rfl ?_
        refine WX.blockN (WX.next ?_)
        refine WC.region ?_
        refine seg 2 [] e6 [e5, (6, (sv A65 (l26 ++ [t57]) c66)), e4, e2, e7, (23, (.agg e1)), e15] [] (fun fb => by kernel_rfl) rfl trivial ?_
        refine WL.done rfl ?_
        exact WX.again k32 (Nat.lt_succ_self _) ((l26 ++ [t57], w64 (x27 + 1)), A65, c66) e6 rfl ⟨(hS68.subR [0, 1]).sub [2, 0] (by decide), hl36⟩
       rcases br_some hl36 with ⟨h69, hl36⟩ | ⟨h69, hl36⟩
       ·
        refine WL.setI 24 (eq_of_beq h69) rfl ?_
        refine seg 1 [] e13 [e5, (6, e8), e4, e2, e7, (23, (.agg e1)), (24, (iv 2)), (26, e18)] [] (fun fb => by kernel_rfl) rfl trivial ?_
        refine WL.setI 24 (eq_of_beq h69).symm rfl ?_
        refine seg 2 [] e14 [e5, (6, e8), (8, e18), e4, e2, e7, (23, (.agg e1)), e10] [] (fun fb => by kernel_rfl) rfl trivial ?_
        refine WL.done rfl (WX.next (WC.region ?_))
        refine seg 2 [] e12 [e5, e4, e2, e7, (23, (.agg e1)), e10, (27, e8), (28, e18)] [] (fun fb => by kernel_rfl) rfl trivial ?_
        obtain ⟨t73, ht74, hl36⟩ := bind_some hl36
        refine WL.call (some 29) 49 #[e18] (fun fb => by kernel_rfl) (itoaN_calls Tryz.strconv_Itoa (e3.S) t73 _ (hS35.rd 1) ht74) (fun v w71 hR70 => ?_)
        obtain ⟨rfl, hk_⟩ := hR70
        have hS72 := hS35.keepN hk_
        refine ⟨trivial, ?_⟩
        refine WL.new hS72 30 [] (fun g => (.slice (some ⟨g, 0, none⟩) 1 1)) (.cells #[(.string t73)] 9 (0, 0)) [] (fun fb g => by kernel_rfl) trivial (fun g75 w76 hS77 => ?_)
        refine ⟨trivial, ?_⟩
        have hS78 := hS.go w76 [rowO 9 encStr (some ⟨g75, 0, none⟩) 1 [t73], rowO 9 encStr A4 c5 l6, rowO 9 encStr A24 c25 l26] (hS77.map1 0 _ (fun h => rowO.ofBlk h rfl (Nat.le_of_ble_eq_true (by kernel_rfl))) (fun _ h => by obtain ⟨_, h1, h2⟩ := h; injection h1 with h1; subst h1; exact h2) [1, 2] (by decide) (by decide))
        obtain ⟨h79, hl36⟩ := as_some hl36
        refine WL.append hS78 2 (d := 31) (tS := 75) (z := (.string ByteArray.empty)) (bytes := 16) (c2 := 1) rfl (fun fb => by kernel_rfl) (rowO.rd (hS78.own 0).1) (by kernel_rfl) (by kernel_rfl) rfl (by decide) h79 (by decide) [0, 1] (by decide) (by decide) (fun A80 c81 w82 hS83 => ?_)
        refine ⟨trivial, ?_⟩
        refine seg 6 [] e6 [e5, (6, (sv A80 (l26 ++ [t73]) c81)), e4, e2, e7, (23, (.agg e1)), e10] [] (fun fb => by kernel_rfl) rfl trivial ?_
        refine WL.done rfl ?_
        refine WX.blockN (WX.next ?_)
        refine WC.region ?_
        refine seg 2 [] e6 [e5, (6, (sv A80 (l26 ++ [t73]) c81)), e4, e2, e7, (23, (.agg e1)), e15] [] (fun fb => by kernel_rfl) rfl trivial ?_
        refine WL.done rfl ?_
        exact WX.again k32 (Nat.lt_succ_self _) ((l26 ++ [t73], w64 (x27 + 1)), A80, c81) e6 rfl ⟨(hS83.subR [0, 1]).sub [2, 0] (by decide), hl36⟩
       rcases br_some hl36 with ⟨h84, hl36⟩ | ⟨h84, hl36⟩
       ·
        refine WL.setI 24 (eq_of_beq h84) rfl ?_
        refine seg 1 [] e13 [e5, (6, e8), e4, e2, e7, (23, (.agg e1)), (24, (iv 3)), (26, e19)] [] (fun fb => by kernel_rfl) rfl trivial ?_
        refine WL.setI 24 (eq_of_beq h84).symm rfl ?_
        refine seg 2 [] e14 [e5, (6, e8), (8, e19), e4, e2, e7, (23, (.agg e1)), e10] [] (fun fb => by kernel_rfl) rfl trivial ?_
        refine WL.done rfl (WX.next (WC.region ?_))
        refine seg 2 [] e12 [e5, e4, e2, e7, (23, (.agg e1)), e10, (27, e8), (28, e19)] [] (fun fb => by kernel_rfl) rfl trivial ?_
        obtain ⟨t88, ht89, hl36⟩ := bind_some hl36
        refine WL.call (some 29) 49 #[e19] (fun fb => by kernel_rfl) (itoaN_calls Tryz.strconv_Itoa (e3.W) t88 _ (hS35.rd 1) ht89) (fun v w86 hR85 => ?_)
        obtain ⟨rfl, hk_⟩ := hR85
        have hS87 := hS35.keepN hk_
        refine ⟨trivial, ?_⟩
        refine WL.new hS87 30 [] (fun g => (.slice (some ⟨g, 0, none⟩) 1 1)) (.cells #[(.string t88)] 9 (0, 0)) [] (fun fb g => by kernel_rfl) trivial (fun g90 w91 hS92 => ?_)
        refine ⟨trivial, ?_⟩
        have hS93 := hS.go w91 [rowO 9 encStr (some ⟨g90, 0, none⟩) 1 [t88], rowO 9 encStr A4 c5 l6, rowO 9 encStr A24 c25 l26] (hS92.map1 0 _ (fun h => rowO.ofBlk h rfl (Nat.le_of_ble_eq_true (by kernel_rfl))) (fun _ h => by obtain ⟨_, h1, h2⟩ := h; injection h1 with h1; subst h1; exact h2) [1, 2] (by decide) (by decide))
        obtain ⟨h94, hl36⟩ := as_some hl36
        refine WL.append hS93 2 (d := 31) (tS := 75) (z := (.string ByteArray.empty)) (bytes := 16) (c2 := 1) rfl (fun fb => by kernel_rfl) (rowO.rd (hS93.own 0).1) (by kernel_rfl) (by kernel_rfl) rfl (by decide) h94 (by decide) [0, 1] (by decide) (by decide) (fun A95 c96 w97 hS98 => ?_)
        refine ⟨trivial, ?_⟩
        refine seg 6 [] e6 [e5, (6, (sv A95 (l26 ++ [t88]) c96)), e4, e2, e7, (23, (.agg e1)), e10] [] (fun fb => by kernel_rfl) rfl trivial ?_
        refine WL.done rfl ?_
        refine WX.blockN (WX.next ?_)
        refine WC.region ?_
        refine seg 2 [] e6 [e5, (6, (sv A95 (l26 ++ [t88]) c96)), e4, e2, e7, (23, (.agg e1)), e15] [] (fun fb => by kernel_rfl) rfl trivial ?_
        refine WL.done rfl ?_
        exact WX.again k32 (Nat.lt_succ_self _) ((l26 ++ [t88], w64 (x27 + 1)), A95, c96) e6 rfl ⟨(hS98.subR [0, 1]).sub [2, 0] (by decide), hl36⟩
       cases hl36
      refine WC.condF2 (fun fb => by kernel_rfl) h37 ?_
      refine WC.exit ?_
      injection hl36 with hl36
      exact WX.thenX (WX.thenX (WX.blockHere (WX.to Kx30 (l26, A24, c25) [3, 6, 9, 10, 11] rfl ⟨(hS35.subR [0, 1]).sub [0, 1] (by decide), hl36.symm⟩)))
    rintro ⟨y102, A28, c29⟩ w99 ⟨hS100, hq101⟩
    subst hq101
    refine WX.next (WC.region ?_)
    refine seg 2 [] [9, 10, 11, 33, 34] [e4, e2, e7, (33, (sv A4 l6 c5)), (34, (sv A28 x30 c29))] [] (fun fb => by kernel_rfl) rfl trivial ?_
    obtain ⟨t106, ht107, hl15⟩ := bind_some hl15
    refine WL.call (some 35) 50 #[(sv A28 x30 c29), (.string (⟨#[46]⟩ : ByteArray))] (fun fb => by kernel_rfl) (join_calls Tryz.strings_Join Tryz.strings_Join_none x30 (⟨#[46]⟩ : ByteArray) A28 c29 t106 _ (hS100.ow 1) ht107) (fun v w104 hR103 => ?_)
    obtain ⟨rfl, hk_⟩ := hR103
    have hS105 := hS100.keepN hk_
    refine ⟨trivial, ?_⟩
    refine WL.new hS105 36 [] (fun g => (.slice (some ⟨g, 0, none⟩) 1 1)) (.cells #[(.string t106)] 9 (0, 0)) [] (fun fb g => by kernel_rfl) trivial (fun g108 w109 hS110 => ?_)
    refine ⟨trivial, ?_⟩
    have hS111 := hS.go w109 [rowO 9 encStr (some ⟨g108, 0, none⟩) 1 [t106], rowO 9 encStr A4 c5 l6, rowO 9 encStr A28 c29 x30] (hS110.map1 0 _ (fun h => rowO.ofBlk h rfl (Nat.le_of_ble_eq_true (by kernel_rfl))) (fun _ h => by obtain ⟨_, h1, h2⟩ := h; injection h1 with h1; subst h1; exact h2) [1, 2] (by decide) (by decide))
    obtain ⟨h112, hl15⟩ := as_some hl15
    refine WL.append hS111 1 (d := 37) (tS := 75) (z := (.string ByteArray.empty)) (bytes := 16) (c2 := 1) rfl (fun fb => by kernel_rfl) (rowO.rd (hS111.own 0).1) (by kernel_rfl) (by kernel_rfl) rfl (by decide) h112 (by decide) [0, 2] (by decide) (by decide) (fun A113 c114 w115 hS116 => ?_)
    refine ⟨trivial, ?_⟩
    refine seg 6 [] [3, 9, 10, 11] [(3, (sv A113 (l6 ++ [t106]) c114)), e4, e2, e7] [] (fun fb => by kernel_rfl) rfl trivial ?_
    refine WL.done rfl ?_
    refine WX.blockN (WX.next ?_)
    refine WC.region ?_
    refine seg 2 [] [3, 9, 10, 11] [(3, (sv A113 (l6 ++ [t106]) c114)), e4, e2, (11, (iv (w64 (x7 + 1))))] [] (fun fb => by kernel_rfl) rfl trivial ?_
    refine WL.done rfl ?_
    exact WX.again k12 (Nat.lt_succ_self _) ((l6 ++ [t106], w64 (x7 + 1)), A113, c114) [3, 9, 10, 11] rfl ⟨(hS116.subR [0, 1]).sub [0] (by decide), hl15⟩
   refine WC.condF2 (fun fb => by kernel_rfl) h16 ?_
   refine WC.exit ?_
   injection hl15 with hl15
   exact WX.thenX (WX.thenX (WX.blockHere (WX.to Kx10 (l6, A4, c5) [3] rfl ⟨(hS14.subR [0, 1]).sub [0] (by decide), hl15.symm⟩)))
 rintro ⟨y120, A8, c9⟩ w117 ⟨hS118, hq119⟩
 subst hq119
 refine WX.next (WC.seq (WC.region ?_))
 refine seg 1 [] [39] [(39, (sv A8 x10 c9))] [] (fun fb => by kernel_rfl) rfl trivial ?_
 obtain ⟨t124, ht125, hf⟩ := bind_some hf
 refine WL.call (some 40) 50 #[(sv A8 x10 c9), (.string (⟨#[32]⟩ : ByteArray))] (fun fb => by kernel_rfl) (join_calls Tryz.strings_Join Tryz.strings_Join_none x10 (⟨#[32]⟩ : ByteArray) A8 c9 t124 _ (hS118.ow 0) ht125) (fun v w122 hR121 => ?_)
 obtain ⟨rfl, hk_⟩ := hR121
 have hS123 := hS118.keepN hk_
 refine ⟨trivial, ?_⟩
 refine seg 3 [] [2] [(2, (.string t124))] [] (fun fb => by kernel_rfl) rfl trivial ?_
 refine WL.done rfl (WX.next ?_)
 refine WC.ret ?_
 injection hf with hf
 subst hf
 exact WX.ret_ [] (.string t124) [] (fun fb => by kernel_rfl) trivial ⟨_, rfl, rfl, hS123.keep⟩
theorem tile_Parse_calls (k : Nat) (p0 : ByteArray) (mG : Glo) (r : (List Tile) × Int) (w : World) (hR0 : RO NoS w (gloO Tryz.prog 2 5 0 1 mG)) (hf : tile_Parse k p0 = some r) :
  CallsR Tryz.prog 16 #[(.string p0)] w (fun v w' => ∃ (A1_ : Option Addr), ∃ (c1_ : Nat), v = (.tuple #[(sv A1_ r.1 c1_), (iv r.2)]) ∧ St NoS w w' [] [rowO 32 enc_Tile A1_ c1_ r.1]) := by
 have hS : St NoS w w [gloO Tryz.prog 2 5 0 1 mG] [] := St.init (ro_cons hR0 (ro_nil _ _))
 refine enter 76 Tryz.func16 rfl Tryz.ntmps16 rfl ?_
 unfold tile_Parse at hf
 refine WC.seq (WC.region ?_)
 refine seg 2 [] [0] [(0, (.string p0))] [] (fun fb => by kernel_rfl) rfl trivial ?_
 refine WL.done rfl (WX.next (WC.seq (WC.region ?_)))
 refine seg 1 [] [0, 4] [(0, (.string p0)), (4, (.slice none 0 0))] [] (fun fb => by kernel_rfl) rfl trivial ?_
 refine WL.done rfl (WX.next (WC.seq (WC.seq (WC.region ?_))))
 refine seg 1 [] [0, 4, 13] [(0, (.string p0)), (4, (.slice none 0 0)), (13, (.string p0))] [] (fun fb => by kernel_rfl) rfl trivial ?_
 refine seg 2 [] [0, 4, 14] [(0, (.string p0)), (4, (.slice none 0 0)), (14, (bv (p0.toList == (⟨#[]⟩ : ByteArray).toList)))] [] (fun fb => by kernel_rfl) rfl trivial ?_
 refine WL.setB 14 (strEq_raw p0 (⟨#[]⟩ : ByteArray)) rfl ?_
 refine WL.done rfl (WX.next ?_)
 rcases br_some hf with ⟨h3, hf⟩ | ⟨h3, hf⟩
 ·refine WC.condT2 (fun fb => by kernel_rfl) h3 ?_
  refine WC.seq (WC.region ?_)
  refine seg 2 [] [2, 3] [(2, (.slice none 0 0)), (3, (iv 0))] [] (fun fb => by kernel_rfl) rfl trivial ?_
  refine WL.done rfl (WX.next ?_)
  refine WC.ret ?_
  have hS4 := hS.nilrow 32 enc_Tile
  injection hf with hf
  subst hf
  exact WX.thenR (WX.ret_ [] (.tuple #[(sv none ([] : List Tile) 0), (iv 0)]) [] (fun fb => by kernel_rfl) trivial ⟨_, rfl, none, 0, rfl, (hS4.sub [0] (by decide)).noR⟩)
 refine WC.condF2 (fun fb => by kernel_rfl) h3 ?_
 refine WC.skip (WX.next (WC.seq (WC.seq (WC.region ?_))))
 refine seg 3 [] [0, 4, 17] [(0, (.string p0)), (4, (.slice none 0 0)), (17, (bv (decide ((p0.size : Int) > 16000))))] [] (fun fb => by kernel_rfl) rfl trivial ?_
 refine WL.done rfl (WX.next ?_)
 rcases br_some hf with ⟨h5, hf⟩ | ⟨h5, hf⟩
 ·refine WC.condT2 (fun fb => by kernel_rfl) h5 ?_
  refine WC.seq (WC.region ?_)
  refine seg 2 [] [2, 3] [(2, (.slice none 0 0)), (3, (iv 3))] [] (fun fb => by kernel_rfl) rfl trivial ?_
  refine WL.done rfl (WX.next ?_)
  refine WC.ret ?_
  have hS6 := hS.nilrow 32 enc_Tile
  injection hf with hf
  subst hf
  exact WX.thenR (WX.ret_ [] (.tuple #[(sv none ([] : List Tile) 0), (iv 3)]) [] (fun fb => by kernel_rfl) trivial ⟨_, rfl, none, 0, rfl, (hS6.sub [0] (by decide)).noR⟩)
 refine WC.condF2 (fun fb => by kernel_rfl) h5 ?_
 refine WC.skip (WX.next (WC.seq (WC.seq (WC.region ?_))))
 refine seg 1 [] [0, 4, 18] [(0, (.string p0)), (4, (.slice none 0 0)), (18, (.string p0))] [] (fun fb => by kernel_rfl) rfl trivial ?_
 obtain ⟨h10, hf⟩ := as_some hf
 refine WL.call (some 19) 31 #[(.string p0), (.string (⟨#[32]⟩ : ByteArray))] (fun fb => by kernel_rfl) (split_calls Tryz.strings_Split p0 (⟨#[32]⟩ : ByteArray) mG.m _ (gloO.cel (hS.rd 0)) h10) (fun v w8 hR7 => ?_)
 obtain ⟨A11, c12, rfl, hk_⟩ := hR7
 have hS9 := hS.go w8 [rowO 9 encStr A11 c12 (splitP p0 (⟨#[32]⟩ : ByteArray))] (hS.call hk_ [] [] (fun g hg => hg.elim) (by simp) (by decide))
 refine ⟨trivial, ?_⟩
 refine seg 4 [] [0, 4, 19, 20, 21] [(0, (.string p0)), (4, (.slice none 0 0)), (19, (sv A11 (splitP p0 (⟨#[32]⟩ : ByteArray)) c12)), (20, (iv ((splitP p0 (⟨#[32]⟩ : ByteArray)).length : Int))), (21, (iv 0))] [] (fun fb => by kernel_rfl) rfl trivial ?_
 refine WL.done rfl (WX.next ?_)
 have hS13 := hS9.nilrow 32 enc_Tile
 obtain ⟨x21, hx22, hf⟩ := bind_some hf
 let e3 : List Nat := [0, 4, 8, 19, 20, 21, 35, 36, 37]
 let e6 : List Nat := [0, 4, 8, 19, 20, 21, 35, 36, 37, 50, 51]
 let e8 := [gloO Tryz.prog 2 5 0 1 mG]
 refine WC.cutN (T := (List Tile) × (Option Addr) × Nat) (fun t => [(0, (.string p0)), (4, (sv t.2.1 t.1 t.2.2))]) (fun t w1 => St NoS w w1 e8 [rowO 32 enc_Tile t.2.1 t.2.2 t.1] ∧ x21 = .inr t.1) (fun Kx21 => ?_) ?_
 ·
  refine WC.block ?_
  refine WC.loop (T := ((List Tile) × Int) × (Option Addr) × Nat) (fun t => [(0, (.string p0)), (4, (sv t.2.1 t.1.1 t.2.2)), (19, (sv A11 (splitP p0 (⟨#[32]⟩ : ByteArray)) c12)), (20, (iv ((splitP p0 (⟨#[32]⟩ : ByteArray)).length : Int))), (21, (iv t.1.2))]) (fun n t w1 => St NoS w w1 e8 [rowO 32 enc_Tile t.2.1 t.2.2 t.1.1, rowO 9 encStr A11 c12 (splitP p0 (⟨#[32]⟩ : ByteArray))] ∧ tile_Parse.l0 n t.1.1 t.1.2 p0 = some x21) k ((([] : List Tile), 0), none, 0) [0, 4, 19, 20, 21] rfl ⟨(hS13.subR [0]).sub [0, 1] (by decide), hx22⟩ ?_
  rintro k23 ⟨⟨l17, x18⟩, A14, c15⟩ w24 ⟨hS25, hl26⟩
  let e1 : Nat × Value := (4, (sv A14 l17 c15))
  let e2 : Nat × Value := (21, (iv x18))
  cases k23 with
  | zero => rw [tile_Parse.l0] at hl26; cases hl26
  | succ k23 =>
   rw [tile_Parse.l0] at hl26
   refine WC.seq (WC.region ?_)
   refine seg 1 [] [0, 4, 19, 20, 21, 22] [(0, (.string p0)), e1, (19, (sv A11 (splitP p0 (⟨#[32]⟩ : ByteArray)) c12)), (20, (iv ((splitP p0 (⟨#[32]⟩ : ByteArray)).length : Int))), e2, (22, (bv (decide (x18 < ((splitP p0 (⟨#[32]⟩ : ByteArray)).length : Int)))))] [] (fun fb => by kernel_rfl) rfl trivial ?_
   refine WL.done rfl (WX.next (WC.seq ?_))
   rcases br_some hl26 with ⟨h27, hl26⟩ | ⟨h27, hl26⟩
   ·refine WC.condT2 (fun fb => by kernel_rfl) h27 ?_
    refine WC.skip (WX.next (WC.seq (WC.block (WC.seq (WC.region ?_)))))
    obtain ⟨h28, hl26⟩ := as_some hl26
    refine seg 3 [.v (.string (rdD (splitP p0 (⟨#[32]⟩ : ByteArray)) x18 ByteArray.empty))] [0, 4, 6, 19, 20, 21] [(0, (.string p0)), e1, (6, (.string (rdD (splitP p0 (⟨#[32]⟩ : ByteArray)) x18 ByteArray.empty))), (19, (sv A11 (splitP p0 (⟨#[32]⟩ : ByteArray)) c12)), (20, (iv ((splitP p0 (⟨#[32]⟩ : ByteArray)).length : Int))), e2] [.idx A11 x18 (splitP p0 (⟨#[32]⟩ : ByteArray)).length, .cell ((adr A11).add ((x18).toNat * 1)) (.string (rdD (splitP p0 (⟨#[32]⟩ : ByteArray)) x18 ByteArray.empty))] (fun fb => by kernel_rfl) rfl ⟨rowR.adr (rowO.rd (hS25.own 1).1) h28.1 h28.2, rowR.cell (rowO.rd (hS25.own 1).1) ByteArray.empty h28.1 h28.2 0 rfl, trivial⟩ ?_
    refine WL.done rfl (WX.next (WC.seq (WC.region ?_)))
    refine seg 1 [] [0, 4, 19, 20, 21, 25] [(0, (.string p0)), e1, (19, (sv A11 (splitP p0 (⟨#[32]⟩ : ByteArray)) c12)), (20, (iv ((splitP p0 (⟨#[32]⟩ : ByteArray)).length : Int))), e2, (25, (.string (rdD (splitP p0 (⟨#[32]⟩ : ByteArray)) x18 ByteArray.empty)))] [] (fun fb => by kernel_rfl) rfl trivial ?_
    obtain ⟨h32, hl26⟩ := as_some hl26
    refine WL.call (some 26) 31 #[(.string (rdD (splitP p0 (⟨#[32]⟩ : ByteArray)) x18 ByteArray.empty)), (.string (⟨#[46]⟩ : ByteArray))] (fun fb => by kernel_rfl) (split_calls Tryz.strings_Split (rdD (splitP p0 (⟨#[32]⟩ : ByteArray)) x18 ByteArray.empty) (⟨#[46]⟩ : ByteArray) mG.m _ (gloO.cel (hS25.rd 0)) h32) (fun v w30 hR29 => ?_)
    obtain ⟨A33, c34, rfl, hk_⟩ := hR29
    have hS31 := hS9.go w30 [rowO 9 encStr A33 c34 (splitP (rdD (splitP p0 (⟨#[32]⟩ : ByteArray)) x18 ByteArray.empty) (⟨#[46]⟩ : ByteArray)), rowO 32 enc_Tile A14 c15 l17, rowO 9 encStr A11 c12 (splitP p0 (⟨#[32]⟩ : ByteArray))] (hS25.call hk_ [] [0, 1] (fun g hg => hg.elim) (by simp) (by decide))
    refine ⟨trivial, ?_⟩
    refine seg 3 [] [0, 4, 7, 19, 20, 21] [(0, (.string p0)), e1, (7, (sv A33 (splitP (rdD (splitP p0 (⟨#[32]⟩ : ByteArray)) x18 ByteArray.empty) (⟨#[46]⟩ : ByteArray)) c34)), (19, (sv A11 (splitP p0 (⟨#[32]⟩ : ByteArray)) c12)), (20, (iv ((splitP p0 (⟨#[32]⟩ : ByteArray)).length : Int))), e2] [] (fun fb => by kernel_rfl) rfl trivial ?_
    refine WL.done rfl (WX.next (WC.seq (WC.seq (WC.region ?_))))
    refine seg 4 [] [0, 4, 7, 19, 20, 21, 30] [(0, (.string p0)), e1, (7, (sv A33 (splitP (rdD (splitP p0 (⟨#[32]⟩ : ByteArray)) x18 ByteArray.empty) (⟨#[46]⟩ : ByteArray)) c34)), (19, (sv A11 (splitP p0 (⟨#[32]⟩ : ByteArray)) c12)), (20, (iv ((splitP p0 (⟨#[32]⟩ : ByteArray)).length : Int))), e2, (30, (bv (((splitP (rdD (splitP p0 (⟨#[32]⟩ : ByteArray)) x18 ByteArray.empty) (⟨#[46]⟩ : ByteArray)).length : Int) != 4)))] [] (fun fb => by kernel_rfl) rfl trivial ?_
    refine WL.cutV (T := Bool) 8 (fun t => [(34, (bv t)), (0, (.string p0)), e1, (7, (sv A33 (splitP (rdD (splitP p0 (⟨#[32]⟩ : ByteArray)) x18 ByteArray.empty) (⟨#[46]⟩ : ByteArray)) c34)), (19, (sv A11 (splitP p0 (⟨#[32]⟩ : ByteArray)) c12)), (20, (iv ((splitP p0 (⟨#[32]⟩ : ByteArray)).length : Int))), e2]) (fun t => ((((splitP (rdD (splitP p0 (⟨#[32]⟩ : ByteArray)) x18 ByteArray.empty) (⟨#[46]⟩ : ByteArray)).length : Int) != 4) || (decide ((l17.length : Int) > 1000))) = t) (fun K => ?_) ?_
    ·
     rcases Bool.eq_false_or_eq_true (((splitP (rdD (splitP p0 (⟨#[32]⟩ : ByteArray)) x18 ByteArray.empty) (⟨#[46]⟩ : ByteArray)).length : Int) != 4) with h35 | h35
     ·
      refine WL.setB 30 h35 rfl ?_
      refine seg 8 [] [0, 4, 7, 19, 20, 21, 34] [(0, (.string p0)), e1, (7, (sv A33 (splitP (rdD (splitP p0 (⟨#[32]⟩ : ByteArray)) x18 ByteArray.empty) (⟨#[46]⟩ : ByteArray)) c34)), (19, (sv A11 (splitP p0 (⟨#[32]⟩ : ByteArray)) c12)), (20, (iv ((splitP p0 (⟨#[32]⟩ : ByteArray)).length : Int))), e2, (34, (bv true))] [] (fun fb => by kernel_rfl) rfl trivial ?_
      exact WL.toV K true [34, 0, 4, 7, 19, 20, 21] rfl (by first | (rw [h35]; done) | (rw [h35]; rfl))
     refine WL.setB 30 h35 rfl ?_
     refine seg 8 [] [0, 4, 7, 19, 20, 21, 34] [(0, (.string p0)), e1, (7, (sv A33 (splitP (rdD (splitP p0 (⟨#[32]⟩ : ByteArray)) x18 ByteArray.empty) (⟨#[46]⟩ : ByteArray)) c34)), (19, (sv A11 (splitP p0 (⟨#[32]⟩ : ByteArray)) c12)), (20, (iv ((splitP p0 (⟨#[32]⟩ : ByteArray)).length : Int))), e2, (34, (bv (decide ((l17.length : Int) > 1000))))] [] (fun fb => by kernel_rfl) rfl trivial ?_
     exact WL.toV K (decide ((l17.length : Int) > 1000)) [34, 0, 4, 7, 19, 20, 21] rfl (by first | (rw [h35]; done) | (rw [h35]; rfl))
    rintro b36 rfl
    refine WL.done rfl (WX.next ?_)
    rcases br_some hl26 with ⟨h37, hl26⟩ | ⟨h37, hl26⟩
    ·refine WC.condT2 (fun fb => by kernel_rfl) h37 ?_
     refine WC.seq (WC.region ?_)
     refine seg 2 [] [2, 3] [(2, (.slice none 0 0)), (3, (iv 3))] [] (fun fb => by kernel_rfl) rfl trivial ?_
     refine WL.done rfl (WX.next ?_)
     refine WC.ret ?_
     have hS38 := hS31.nilrow 32 enc_Tile
     injection hl26 with hl26
     subst hl26
     injection hf with hf
     subst hf
     exact WX.thenR (WX.blockR (WX.thenR (WX.thenR (WX.blockR (WX.thenR (WX.ret_ [] (.tuple #[(sv none ([] : List Tile) 0), (iv 3)]) [] (fun fb => by kernel_rfl) trivial ⟨_, rfl, none, 0, rfl, (hS38.sub [0] (by decide)).noR⟩))))))
    refine WC.condF2 (fun fb => by kernel_rfl) h37 ?_
    refine WC.skip (WX.next (WC.seq (WC.region ?_)))
    refine WL.new hS31 8 [] (fun g => (pt g)) (.cells #[(iv 0), (iv 0), (iv 0), (iv 0)] 77 (0, 0)) [] (fun fb g => by kernel_rfl) trivial (fun g39 w40 hS41 => ?_)
    refine ⟨trivial, ?_⟩
    refine WL.done rfl (WX.next (WC.seq (WC.seq (WC.region ?_))))
    refine seg 3 [] e3 [(0, (.string p0)), e1, (8, (pt g39)), (19, (sv A11 (splitP p0 (⟨#[32]⟩ : ByteArray)) c12)), (20, (iv ((splitP p0 (⟨#[32]⟩ : ByteArray)).length : Int))), e2, (35, (sv A33 (splitP (rdD (splitP p0 (⟨#[32]⟩ : ByteArray)) x18 ByteArray.empty) (⟨#[46]⟩ : ByteArray)) c34)), (36, (iv ((splitP (rdD (splitP p0 (⟨#[32]⟩ : ByteArray)) x18 ByteArray.empty) (⟨#[46]⟩ : ByteArray)).length : Int))), (37, (iv 0))] [] (fun fb => by kernel_rfl) rfl trivial ?_
    refine WL.done rfl (WX.next ?_)
    obtain ⟨x47, hx48, hl26⟩ := bind_some hl26
    let e4 : Nat × Value := (8, (pt g39))
    refine WC.cutN (T := Int × Int × Int × Int) (fun t => [(0, (.string p0)), e1, e4, (19, (sv A11 (splitP p0 (⟨#[32]⟩ : ByteArray)) c12)), (20, (iv ((splitP p0 (⟨#[32]⟩ : ByteArray)).length : Int))), e2]) (fun t w1 => St NoS w w1 e8 [rowO 32 enc_Tile A14 c15 l17, blk g39 (.cells #[(iv t.1), (iv t.2.1), (iv t.2.2.1), (iv t.2.2.2)] 77 (0, 0)), rowO 9 encStr A11 c12 (splitP p0 (⟨#[32]⟩ : ByteArray))] ∧ x47 = .inr t) (fun Kx47 => ?_) ?_
    ·
     refine WC.block ?_
     refine WC.loop (T := Int × Int × Int × Int × Int) (fun t => [(0, (.string p0)), e1, e4, (19, (sv A11 (splitP p0 (⟨#[32]⟩ : ByteArray)) c12)), (20, (iv ((splitP p0 (⟨#[32]⟩ : ByteArray)).length : Int))), e2, (35, (sv A33 (splitP (rdD (splitP p0 (⟨#[32]⟩ : ByteArray)) x18 ByteArray.empty) (⟨#[46]⟩ : ByteArray)) c34)), (36, (iv ((splitP (rdD (splitP p0 (⟨#[32]⟩ : ByteArray)) x18 ByteArray.empty) (⟨#[46]⟩ : ByteArray)).length : Int))), (37, (iv t.2.2.2.2))]) (fun n t w1 => St NoS w w1 e8 [rowO 32 enc_Tile A14 c15 l17, blk g39 (.cells #[(iv t.1), (iv t.2.1), (iv t.2.2.1), (iv t.2.2.2.1)] 77 (0, 0)), rowO 9 encStr A11 c12 (splitP p0 (⟨#[32]⟩ : ByteArray)), rowO 9 encStr A33 c34 (splitP (rdD (splitP p0 (⟨#[32]⟩ : ByteArray)) x18 ByteArray.empty) (⟨#[46]⟩ : ByteArray))] ∧ tile_Parse.l1 n t.1 t.2.1 t.2.2.1 t.2.2.2.1 t.2.2.2.2 p0 x18 = some x47) k23 (0, 0, 0, 0, 0) e3 rfl ⟨(hS41.subR [0]).sub [2, 0, 3, 1] (by decide), hx48⟩ ?_
     rintro k49 ⟨x42, x43, x44, x45, x46⟩ w50 ⟨hS51, hl52⟩
     let e5 : Nat × Value := (37, (iv x46))
     let e9 : Nat × Value := (37, (iv (w64 (x46 + 1))))
     cases k49 with
     | zero => rw [tile_Parse.l1] at hl52; cases hl52
     | succ k49 =>
      rw [tile_Parse.l1] at hl52
      refine WC.seq (WC.region ?_)
      refine seg 1 [] [0, 4, 8, 19, 20, 21, 35, 36, 37, 38] [(0, (.string p0)), e1, e4, (19, (sv A11 (splitP p0 (⟨#[32]⟩ : ByteArray)) c12)), (20, (iv ((splitP p0 (⟨#[32]⟩ : ByteArray)).length : Int))), e2, (35, (sv A33 (splitP (rdD (splitP p0 (⟨#[32]⟩ : ByteArray)) x18 ByteArray.empty) (⟨#[46]⟩ : ByteArray)) c34)), (36, (iv ((splitP (rdD (splitP p0 (⟨#[32]⟩ : ByteArray)) x18 ByteArray.empty) (⟨#[46]⟩ : ByteArray)).length : Int))), e5, (38, (bv (decide (x46 < ((splitP (rdD (splitP p0 (⟨#[32]⟩ : ByteArray)) x18 ByteArray.empty) (⟨#[46]⟩ : ByteArray)).length : Int)))))] [] (fun fb => by kernel_rfl) rfl trivial ?_
      refine WL.done rfl (WX.next (WC.seq ?_))
      rcases br_some hl52 with ⟨h53, hl52⟩ | ⟨h53, hl52⟩
      ·refine WC.condT2 (fun fb => by kernel_rfl) h53 ?_
       refine WC.skip (WX.next (WC.seq (WC.block (WC.seq (WC.region ?_)))))
       refine seg 1 [] [0, 4, 8, 19, 20, 21, 35, 36, 37, 39] [(0, (.string p0)), e1, e4, (19, (sv A11 (splitP p0 (⟨#[32]⟩ : ByteArray)) c12)), (20, (iv ((splitP p0 (⟨#[32]⟩ : ByteArray)).length : Int))), e2, (35, (sv A33 (splitP (rdD (splitP p0 (⟨#[32]⟩ : ByteArray)) x18 ByteArray.empty) (⟨#[46]⟩ : ByteArray)) c34)), (36, (iv ((splitP (rdD (splitP p0 (⟨#[32]⟩ : ByteArray)) x18 ByteArray.empty) (⟨#[46]⟩ : ByteArray)).length : Int))), e5, (39, (iv x46))] [] (fun fb => by kernel_rfl) rfl trivial ?_
       obtain ⟨h54, hl52⟩ := as_some hl52
       refine seg 5 [.v (.string (rdD (splitP (rdD (splitP p0 (⟨#[32]⟩ : ByteArray)) x18 ByteArray.empty) (⟨#[46]⟩ : ByteArray)) x46 ByteArray.empty))] [0, 4, 8, 9, 10, 19, 20, 21, 35, 36, 37] [(0, (.string p0)), e1, e4, (9, (iv x46)), (10, (.string (rdD (splitP (rdD (splitP p0 (⟨#[32]⟩ : ByteArray)) x18 ByteArray.empty) (⟨#[46]⟩ : ByteArray)) x46 ByteArray.empty))), (19, (sv A11 (splitP p0 (⟨#[32]⟩ : ByteArray)) c12)), (20, (iv ((splitP p0 (⟨#[32]⟩ : ByteArray)).length : Int))), e2, (35, (sv A33 (splitP (rdD (splitP p0 (⟨#[32]⟩ : ByteArray)) x18 ByteArray.empty) (⟨#[46]⟩ : ByteArray)) c34)), (36, (iv ((splitP (rdD (splitP p0 (⟨#[32]⟩ : ByteArray)) x18 ByteArray.empty) (⟨#[46]⟩ : ByteArray)).length : Int))), e5] [.idx A33 x46 (splitP (rdD (splitP p0 (⟨#[32]⟩ : ByteArray)) x18 ByteArray.empty) (⟨#[46]⟩ : ByteArray)).length, .cell ((adr A33).add ((x46).toNat * 1)) (.string (rdD (splitP (rdD (splitP p0 (⟨#[32]⟩ : ByteArray)) x18 ByteArray.empty) (⟨#[46]⟩ : ByteArray)) x46 ByteArray.empty))] (fun fb => by kernel_rfl) rfl ⟨rowR.adr (rowO.rd (hS51.own 3).1) h54.1 h54.2, rowR.cell (rowO.rd (hS51.own 3).1) ByteArray.empty h54.1 h54.2 0 rfl, trivial⟩ ?_
       refine WL.done rfl (WX.next (WC.seq (WC.region ?_)))
       refine seg 1 [] [0, 4, 8, 9, 19, 20, 21, 35, 36, 37, 43] [(0, (.string p0)), e1, e4, (9, (iv x46)), (19, (sv A11 (splitP p0 (⟨#[32]⟩ : ByteArray)) c12)), (20, (iv ((splitP p0 (⟨#[32]⟩ : ByteArray)).length : Int))), e2, (35, (sv A33 (splitP (rdD (splitP p0 (⟨#[32]⟩ : ByteArray)) x18 ByteArray.empty) (⟨#[46]⟩ : ByteArray)) c34)), (36, (iv ((splitP (rdD (splitP p0 (⟨#[32]⟩ : ByteArray)) x18 ByteArray.empty) (⟨#[46]⟩ : ByteArray)).length : Int))), e5, (43, (.string (rdD (splitP (rdD (splitP p0 (⟨#[32]⟩ : ByteArray)) x18 ByteArray.empty) (⟨#[46]⟩ : ByteArray)) x46 ByteArray.empty)))] [] (fun fb => by kernel_rfl) rfl trivial ?_
       obtain ⟨t58, ht59, hl52⟩ := bind_some hl52
       refine WL.call (some 44) 32 #[(.string (rdD (splitP (rdD (splitP p0 (⟨#[32]⟩ : ByteArray)) x18 ByteArray.empty) (⟨#[46]⟩ : ByteArray)) x46 ByteArray.empty))] (fun fb => by kernel_rfl) (atoiN_calls Tryz.strconv_Atoi_ok Tryz.strconv_Atoi_syntax Tryz.strconv_Atoi_range (rdD (splitP (rdD (splitP p0 (⟨#[32]⟩ : ByteArray)) x18 ByteArray.empty) (⟨#[46]⟩ : ByteArray)) x46 ByteArray.empty) t58 _ (hS51.rd 0) ht59) (fun v w56 hR55 => ?_)
       obtain ⟨x60, rfl, hx61, hk_⟩ := hR55
       have hS57 := hS51.keepN hk_
       refine ⟨trivial, ?_⟩
       rcases br_some hl52 with ⟨h62, hl52⟩ | ⟨h62, hl52⟩
       ·
        obtain ⟨te63, pe65, rfl⟩ := errV_true h62 hx61
        refine seg 7 [] [0, 4, 8, 9, 11, 12, 19, 20, 21, 35, 36, 37] [(0, (.string p0)), e1, e4, (9, (iv x46)), (11, (iv t58.1)), (12, (.iface te63 pe65)), (19, (sv A11 (splitP p0 (⟨#[32]⟩ : ByteArray)) c12)), (20, (iv ((splitP p0 (⟨#[32]⟩ : ByteArray)).length : Int))), e2, (35, (sv A33 (splitP (rdD (splitP p0 (⟨#[32]⟩ : ByteArray)) x18 ByteArray.empty) (⟨#[46]⟩ : ByteArray)) c34)), (36, (iv ((splitP (rdD (splitP p0 (⟨#[32]⟩ : ByteArray)) x18 ByteArray.empty) (⟨#[46]⟩ : ByteArray)).length : Int))), e5] [] (fun fb => by kernel_rfl) rfl trivial ?_
        refine WL.done rfl (WX.next (WC.seq (WC.seq (WC.region ?_))))
        refine seg 2 [] [0, 4, 8, 9, 11, 19, 20, 21, 35, 36, 37, 48] [(0, (.string p0)), e1, e4, (9, (iv x46)), (11, (iv t58.1)), (19, (sv A11 (splitP p0 (⟨#[32]⟩ : ByteArray)) c12)), (20, (iv ((splitP p0 (⟨#[32]⟩ : ByteArray)).length : Int))), e2, (35, (sv A33 (splitP (rdD (splitP p0 (⟨#[32]⟩ : ByteArray)) x18 ByteArray.empty) (⟨#[46]⟩ : ByteArray)) c34)), (36, (iv ((splitP (rdD (splitP p0 (⟨#[32]⟩ : ByteArray)) x18 ByteArray.empty) (⟨#[46]⟩ : ByteArray)).length : Int))), e5, (48, (bv true))] [] (fun fb => by kernel_rfl) rfl trivial ?_
        refine WL.done rfl (WX.next ?_)
        refine WC.condT (fun fb => by kernel_rfl) ?_
        refine WC.seq (WC.region ?_)
        refine seg 2 [] [2, 3] [(2, (.slice none 0 0)), (3, (iv 3))] [] (fun fb => by kernel_rfl) rfl trivial ?_
        refine WL.done rfl (WX.next ?_)
        refine WC.ret ?_
        have hS66 := hS57.nilrow 32 enc_Tile
        injection hl52 with hl52
        subst hl52
        injection hl26 with hl26
        subst hl26
        injection hf with hf
        subst hf
        exact WX.thenR (WX.blockR (WX.thenR (WX.thenR (WX.blockR (WX.thenR (WX.blockR (WX.thenR (WX.thenR (WX.blockR (WX.thenR (WX.ret_ [] (.tuple #[(sv none ([] : List Tile) 0), (iv 3)]) [] (fun fb => by kernel_rfl) trivial ⟨_, rfl, none, 0, rfl, (hS66.sub [0] (by decide)).noR⟩)))))))))))
       obtain rfl := errV_false h62 hx61
       refine seg 7 [] [0, 4, 8, 9, 11, 12, 19, 20, 21, 35, 36, 37] [(0, (.string p0)), e1, e4, (9, (iv x46)), (11, (iv t58.1)), (12, .nilIface), (19, (sv A11 (splitP p0 (⟨#[32]⟩ : ByteArray)) c12)), (20, (iv ((splitP p0 (⟨#[32]⟩ : ByteArray)).length : Int))), e2, (35, (sv A33 (splitP (rdD (splitP p0 (⟨#[32]⟩ : ByteArray)) x18 ByteArray.empty) (⟨#[46]⟩ : ByteArray)) c34)), (36, (iv ((splitP (rdD (splitP p0 (⟨#[32]⟩ : ByteArray)) x18 ByteArray.empty) (⟨#[46]⟩ : ByteArray)).length : Int))), e5] [] (fun fb => by kernel_rfl) rfl trivial ?_
       refine WL.done rfl (WX.next (WC.seq (WC.seq (WC.region ?_))))
       refine seg 2 [] [0, 4, 8, 9, 11, 19, 20, 21, 35, 36, 37, 48] [(0, (.string p0)), e1, e4, (9, (iv x46)), (11, (iv t58.1)), (19, (sv A11 (splitP p0 (⟨#[32]⟩ : ByteArray)) c12)), (20, (iv ((splitP p0 (⟨#[32]⟩ : ByteArray)).length : Int))), e2, (35, (sv A33 (splitP (rdD (splitP p0 (⟨#[32]⟩ : ByteArray)) x18 ByteArray.empty) (⟨#[46]⟩ : ByteArray)) c34)), (36, (iv ((splitP (rdD (splitP p0 (⟨#[32]⟩ : ByteArray)) x18 ByteArray.empty) (⟨#[46]⟩ : ByteArray)).length : Int))), e5, (48, (bv false))] [] (fun fb => by kernel_rfl) rfl trivial ?_
       refine WL.done rfl (WX.next ?_)
       refine WC.condF (fun fb => by kernel_rfl) ?_
       refine WC.skip (WX.next (WC.region ?_))
       refine seg 2 [] [0, 4, 8, 19, 20, 21, 35, 36, 37, 49, 50] [(0, (.string p0)), e1, e4, (19, (sv A11 (splitP p0 (⟨#[32]⟩ : ByteArray)) c12)), (20, (iv ((splitP p0 (⟨#[32]⟩ : ByteArray)).length : Int))), e2, (35, (sv A33 (splitP (rdD (splitP p0 (⟨#[32]⟩ : ByteArray)) x18 ByteArray.empty) (⟨#[46]⟩ : ByteArray)) c34)), (36, (iv ((splitP (rdD (splitP p0 (⟨#[32]⟩ : ByteArray)) x18 ByteArray.empty) (⟨#[46]⟩ : ByteArray)).length : Int))), e5, (49, (iv x46)), (50, (iv t58.1))] [] (fun fb => by kernel_rfl) rfl trivial ?_
       rcases br_some hl52 with ⟨h67, hl52⟩ | ⟨h67, hl52⟩
       ·
        refine WL.setI 49 (eq_of_beq h67) rfl ?_
        refine seg 3 [] e6 [(0, (.string p0)), e1, e4, (19, (sv A11 (splitP p0 (⟨#[32]⟩ : ByteArray)) c12)), (20, (iv ((splitP p0 (⟨#[32]⟩ : ByteArray)).length : Int))), e2, (35, (sv A33 (splitP (rdD (splitP p0 (⟨#[32]⟩ : ByteArray)) x18 ByteArray.empty) (⟨#[46]⟩ : ByteArray)) c34)), (36, (iv ((splitP (rdD (splitP p0 (⟨#[32]⟩ : ByteArray)) x18 ByteArray.empty) (⟨#[46]⟩ : ByteArray)).length : Int))), e5, (50, (iv t58.1)), (51, (pt g39))] [] (fun fb => by kernel_rfl) rfl trivial ?_
        refine WL.store hS57 1 rfl [(0, (iv t58.1))] #[(iv t58.1), (iv x43), (iv x44), (iv x45)] (fun fb => by kernel_rfl) (by kernel_rfl) rfl [0, 2, 3] (by decide) (by decide) (fun w68 hS69 => ?_)
        refine ⟨trivial, ?_⟩
        refine WL.done rfl ?_
        refine WX.blockN (WX.next ?_)
        refine WC.region ?_
        refine seg 2 [] e3 [(0, (.string p0)), e1, e4, (19, (sv A11 (splitP p0 (⟨#[32]⟩ : ByteArray)) c12)), (20, (iv ((splitP p0 (⟨#[32]⟩ : ByteArray)).length : Int))), e2, (35, (sv A33 (splitP (rdD (splitP p0 (⟨#[32]⟩ : ByteArray)) x18 ByteArray.empty) (⟨#[46]⟩ : ByteArray)) c34)), (36, (iv ((splitP (rdD (splitP p0 (⟨#[32]⟩ : ByteArray)) x18 ByteArray.empty) (⟨#[46]⟩ : ByteArray)).length : Int))), e9] [] (fun fb => by kernel_rfl) rfl trivial ?_
        refine WL.done rfl ?_
        exact WX.again k49 (Nat.lt_succ_self _) (t58.1, x43, x44, x45, w64 (x46 + 1)) e3 rfl ⟨(hS69.subR [0]).sub [1, 0, 2, 3] (by decide), hl52⟩
       rcases br_some hl52 with ⟨h70, hl52⟩ | ⟨h70, hl52⟩
       ·
        refine WL.setI 49 (eq_of_beq h70) rfl ?_
        refine seg 3 [] e6 [(0, (.string p0)), e1, e4, (19, (sv A11 (splitP p0 (⟨#[32]⟩ : ByteArray)) c12)), (20, (iv ((splitP p0 (⟨#[32]⟩ : ByteArray)).length : Int))), e2, (35, (sv A33 (splitP (rdD (splitP p0 (⟨#[32]⟩ : ByteArray)) x18 ByteArray.empty) (⟨#[46]⟩ : ByteArray)) c34)), (36, (iv ((splitP (rdD (splitP p0 (⟨#[32]⟩ : ByteArray)) x18 ByteArray.empty) (⟨#[46]⟩ : ByteArray)).length : Int))), e5, (50, (iv t58.1)), (51, (.pointer (some ⟨g39, 1, none⟩)))] [] (fun fb => by kernel_rfl) rfl trivial ?_
        refine WL.store hS57 1 rfl [(1, (iv t58.1))] #[(iv x42), (iv t58.1), (iv x44), (iv x45)] (fun fb => by kernel_rfl) (by kernel_rfl) rfl [0, 2, 3] (by decide) (by decide) (fun w71 hS72 => ?_)
        refine ⟨trivial, ?_⟩
        refine WL.done rfl ?_
        refine WX.blockN (WX.next ?_)
        refine WC.region ?_
        refine seg 2 [] e3 [(0, (.string p0)), e1, e4, (19, (sv A11 (splitP p0 (⟨#[32]⟩ : ByteArray)) c12)), (20, (iv ((splitP p0 (⟨#[32]⟩ : ByteArray)).length : Int))), e2, (35, (sv A33 (splitP (rdD (splitP p0 (⟨#[32]⟩ : ByteArray)) x18 ByteArray.empty) (⟨#[46]⟩ : ByteArray)) c34)), (36, (iv ((splitP (rdD (splitP p0 (⟨#[32]⟩ : ByteArray)) x18 ByteArray.empty) (⟨#[46]⟩ : ByteArray)).length : Int))), e9] [] (fun fb => by kernel_rfl) rfl trivial ?_
        refine WL.done rfl ?_
        exact WX.again k49 (Nat.lt_succ_self _) (x42, t58.1, x44, x45, w64 (x46 + 1)) e3 rfl ⟨(hS72.subR [0]).sub [1, 0, 2, 3] (by decide), hl52⟩
       rcases br_some hl52 with ⟨h73, hl52⟩ | ⟨h73, hl52⟩
       ·
        refine WL.setI 49 (eq_of_beq h73) rfl ?_
        refine seg 3 [] e6 [(0, (.string p0)), e1, e4, (19, (sv A11 (splitP p0 (⟨#[32]⟩ : ByteArray)) c12)), (20, (iv ((splitP p0 (⟨#[32]⟩ : ByteArray)).length : Int))), e2, (35, (sv A33 (splitP (rdD (splitP p0 (⟨#[32]⟩ : ByteArray)) x18 ByteArray.empty) (⟨#[46]⟩ : ByteArray)) c34)), (36, (iv ((splitP (rdD (splitP p0 (⟨#[32]⟩ : ByteArray)) x18 ByteArray.empty) (⟨#[46]⟩ : ByteArray)).length : Int))), e5, (50, (iv t58.1)), (51, (.pointer (some ⟨g39, 2, none⟩)))] [] (fun fb => by kernel_rfl) rfl trivial ?_
        refine WL.store hS57 1 rfl [(2, (iv t58.1))] #[(iv x42), (iv x43), (iv t58.1), (iv x45)] (fun fb => by kernel_rfl) (by kernel_rfl) rfl [0, 2, 3] (by decide) (by decide) (fun w74 hS75 => ?_)
        refine ⟨trivial, ?_⟩
        refine WL.done rfl ?_
        refine WX.blockN (WX.next ?_)
        refine WC.region ?_
        refine seg 2 [] e3 [(0, (.string p0)), e1, e4, (19, (sv A11 (splitP p0 (⟨#[32]⟩ : ByteArray)) c12)), (20, (iv ((splitP p0 (⟨#[32]⟩ : ByteArray)).length : Int))), e2, (35, (sv A33 (splitP (rdD (splitP p0 (⟨#[32]⟩ : ByteArray)) x18 ByteArray.empty) (⟨#[46]⟩ : ByteArray)) c34)), (36, (iv ((splitP (rdD (splitP p0 (⟨#[32]⟩ : ByteArray)) x18 ByteArray.empty) (⟨#[46]⟩ : ByteArray)).length : Int))), e9] [] (fun fb => by kernel_rfl) rfl trivial ?_
        refine WL.done rfl ?_
        exact WX.again k49 (Nat.lt_succ_self _) (x42, x43, t58.1, x45, w64 (x46 + 1)) e3 rfl ⟨(hS75.subR [0]).sub [1, 0, 2, 3] (by decide), hl52⟩
       rcases br_some hl52 with ⟨h76, hl52⟩ | ⟨h76, hl52⟩
       ·
        refine WL.setI 49 (eq_of_beq h76) rfl ?_
        refine seg 3 [] e6 [(0, (.string p0)), e1, e4, (19, (sv A11 (splitP p0 (⟨#[32]⟩ : ByteArray)) c12)), (20, (iv ((splitP p0 (⟨#[32]⟩ : ByteArray)).length : Int))), e2, (35, (sv A33 (splitP (rdD (splitP p0 (⟨#[32]⟩ : ByteArray)) x18 ByteArray.empty) (⟨#[46]⟩ : ByteArray)) c34)), (36, (iv ((splitP (rdD (splitP p0 (⟨#[32]⟩ : ByteArray)) x18 ByteArray.empty) (⟨#[46]⟩ : ByteArray)).length : Int))), e5, (50, (iv t58.1)), (51, (.pointer (some ⟨g39, 3, none⟩)))] [] (fun fb => by kernel_rfl) rfl trivial ?_
        refine WL.store hS57 1 rfl [(3, (iv t58.1))] #[(iv x42), (iv x43), (iv x44), (iv t58.1)] (fun fb => by kernel_rfl) (by kernel_rfl) rfl [0, 2, 3] (by decide) (by decide) (fun w77 hS78 => ?_)
        refine ⟨trivial, ?_⟩
        refine WL.done rfl ?_
        refine WX.blockN (WX.next ?_)
        refine WC.region ?_
        refine seg 2 [] e3 [(0, (.string p0)), e1, e4, (19, (sv A11 (splitP p0 (⟨#[32]⟩ : ByteArray)) c12)), (20, (iv ((splitP p0 (⟨#[32]⟩ : ByteArray)).length : Int))), e2, (35, (sv A33 (splitP (rdD (splitP p0 (⟨#[32]⟩ : ByteArray)) x18 ByteArray.empty) (⟨#[46]⟩ : ByteArray)) c34)), (36, (iv ((splitP (rdD (splitP p0 (⟨#[32]⟩ : ByteArray)) x18 ByteArray.empty) (⟨#[46]⟩ : ByteArray)).length : Int))), e9] [] (fun fb => by kernel_rfl) rfl trivial ?_
        refine WL.done rfl ?_
        exact WX.again k49 (Nat.lt_succ_self _) (x42, x43, x44, t58.1, w64 (x46 + 1)) e3 rfl ⟨(hS78.subR [0]).sub [1, 0, 2, 3] (by decide), hl52⟩
       cases hl52
      refine WC.condF2 (fun fb => by kernel_rfl) h53 ?_
      refine WC.exit ?_
      injection hl52 with hl52
      exact WX.thenX (WX.thenX (WX.blockHere (WX.to Kx47 (x42, x43, x44, x45) [0, 4, 8, 19, 20, 21] rfl ⟨(hS51.subR [0]).sub [0, 1, 2] (by decide), hl52.symm⟩)))
    rintro y82 w79 ⟨hS80, hq81⟩
    subst hq81
    have hl26 := sum_inr hl26
    refine WX.next (WC.region ?_)
    refine seg 10 [.v (iv y82.1), .v (iv y82.2.1), .v (iv y82.2.2.1), .v (iv y82.2.2.2)] [0, 19, 20, 21, 53, 62] [(0, (.string p0)), (19, (sv A11 (splitP p0 (⟨#[32]⟩ : ByteArray)) c12)), (20, (iv ((splitP p0 (⟨#[32]⟩ : ByteArray)).length : Int))), e2, (53, (sv A14 l17 c15)), (62, (.agg #[(iv y82.1), (iv y82.2.1), (iv y82.2.2.1), (iv y82.2.2.2)]))] [.cell ⟨g39, 0, none⟩ (iv y82.1), .cell ⟨g39, 1, none⟩ (iv y82.2.1), .cell ⟨g39, 2, none⟩ (iv y82.2.2.1), .cell ⟨g39, 3, none⟩ (iv y82.2.2.2)] (fun fb => by kernel_rfl) rfl ⟨hS80.cell 1 rfl 0 rfl, hS80.cell 1 rfl 1 rfl, hS80.cell 1 rfl 2 rfl, hS80.cell 1 rfl 3 rfl, trivial⟩ ?_
    refine WL.new hS80 63 [] (fun g => (.slice (some ⟨g, 0, none⟩) 1 1)) (.cells #[(iv y82.1), (iv y82.2.1), (iv y82.2.2.1), (iv y82.2.2.2)] 32 (0, 0)) [] (fun fb g => by kernel_rfl) trivial (fun g83 w84 hS85 => ?_)
    refine ⟨trivial, ?_⟩
    have hS86 := hS31.go w84 [rowO 32 enc_Tile (some ⟨g83, 0, none⟩) 1 [(Tile.mk y82.1 y82.2.1 y82.2.2.1 y82.2.2.2)], rowO 32 enc_Tile A14 c15 l17, blk g39 (.cells #[(iv y82.1), (iv y82.2.1), (iv y82.2.2.1), (iv y82.2.2.2)] 77 (0, 0)), rowO 9 encStr A11 c12 (splitP p0 (⟨#[32]⟩ : ByteArray))] (hS85.map1 0 _ (fun h => rowO.ofBlk h rfl (Nat.le_of_ble_eq_true (by kernel_rfl))) (fun _ h => by obtain ⟨_, h1, h2⟩ := h; injection h1 with h1; subst h1; exact h2) [1, 2, 3] (by decide) (by decide))
    obtain ⟨h87, hl26⟩ := as_some hl26
    refine WL.append hS86 1 (d := 64) (tS := 22) (z := (.agg #[(iv 0), (iv 0), (iv 0), (iv 0)])) (bytes := 32) (c2 := 1) rfl (fun fb => by kernel_rfl) (rowO.rd (hS86.own 0).1) (by kernel_rfl) (by kernel_rfl) rfl (by decide) h87 (by decide) [0, 2, 3] (by decide) (by decide) (fun A88 c89 w90 hS91 => ?_)
    refine ⟨trivial, ?_⟩
    refine seg 13 [] [0, 4, 19, 20, 21] [(0, (.string p0)), (4, (sv A88 (l17 ++ [(Tile.mk y82.1 y82.2.1 y82.2.2.1 y82.2.2.2)]) c89)), (19, (sv A11 (splitP p0 (⟨#[32]⟩ : ByteArray)) c12)), (20, (iv ((splitP p0 (⟨#[32]⟩ : ByteArray)).length : Int))), e2] [] (fun fb => by kernel_rfl) rfl trivial ?_
    refine WL.done rfl ?_
    refine WX.blockN (WX.next ?_)
    refine WC.region ?_
    refine seg 2 [] [0, 4, 19, 20, 21] [(0, (.string p0)), (4, (sv A88 (l17 ++ [(Tile.mk y82.1 y82.2.1 y82.2.2.1 y82.2.2.2)]) c89)), (19, (sv A11 (splitP p0 (⟨#[32]⟩ : ByteArray)) c12)), (20, (iv ((splitP p0 (⟨#[32]⟩ : ByteArray)).length : Int))), (21, (iv (w64 (x18 + 1))))] [] (fun fb => by kernel_rfl) rfl trivial ?_
    refine WL.done rfl ?_
    exact WX.again k23 (Nat.lt_succ_self _) ((l17 ++ [(Tile.mk y82.1 y82.2.1 y82.2.2.1 y82.2.2.2)], w64 (x18 + 1)), A88, c89) [0, 4, 19, 20, 21] rfl ⟨(hS91.subR [0]).sub [0, 3] (by decide), hl26⟩
   refine WC.condF2 (fun fb => by kernel_rfl) h27 ?_
   refine WC.exit ?_
   injection hl26 with hl26
   exact WX.thenX (WX.thenX (WX.blockHere (WX.to Kx21 (l17, A14, c15) [0, 4] rfl ⟨(hS25.subR [0]).sub [0] (by decide), hl26.symm⟩)))
 rintro ⟨y95, A19, c20⟩ w92 ⟨hS93, hq94⟩
 subst hq94
 have hf := sum_inr hf
 refine WX.next (WC.seq (WC.seq (WC.region ?_)))
 refine seg 1 [] [0, 4, 66] [(0, (.string p0)), (4, (sv A19 y95 c20)), (66, (sv A19 y95 c20))] [] (fun fb => by kernel_rfl) rfl trivial ?_
 obtain ⟨t96, ht97, hf⟩ := bind_some hf
 refine WL.call (some 67) 22 #[(sv A19 y95 c20)] (fun fb => by kernel_rfl) (tile_Valid_calls _ y95 A19 c20 t96 _ (hS93.ow 0).ofO ht97) (fun v w98 hR99 => ?_)
 obtain ⟨rfl, hk_⟩ := hR99
 have hS100 := hS93.keepN hk_
 refine ⟨trivial, ?_⟩
 refine seg 4 [] [0, 4, 69] [(0, (.string p0)), (4, (sv A19 y95 c20)), (69, (bv (!t96)))] [] (fun fb => by kernel_rfl) rfl trivial ?_
 obtain ⟨x101, hx102, hf⟩ := bind_some hf
 let e7 := sv A19 y95 c20
 refine WL.cutW (T := Bool) 9 (fun t => [(4, e7), (74, (bv t))]) (fun t w1 => (St NoS w w1 e8 [rowO 32 enc_Tile A19 c20 y95] ∧ x101 = t) ∧ CellsOK [] w1) (fun K => ?_) ?_
 ·
  rcases br_some hx102 with ⟨h103, hx102⟩ | ⟨h103, hx102⟩
  ·
   refine WL.setB 69 h103 rfl ?_
   refine seg 9 [] [4, 74] [(4, e7), (74, (bv true))] [] (fun fb => by kernel_rfl) rfl trivial ?_
   injection hx102 with hx102
   exact WL.to K true [4, 74] rfl ⟨⟨(hS100.subR [0]).sub [0] (by decide), hx102.symm⟩, trivial⟩
  refine WL.setB 69 h103 rfl ?_
  refine seg 5 [] [0, 4, 69, 70] [(0, (.string p0)), (4, e7), (69, (bv false)), (70, e7)] [] (fun fb => by kernel_rfl) rfl trivial ?_
  obtain ⟨t104, ht105, hx102⟩ := bind_some hx102
  refine WL.call (some 71) 33 #[e7] (fun fb => by kernel_rfl) (tile_write_calls _ y95 A19 c20 mG t104 _ (hS100.ow 0).ofO (hS100.rd 0) ht105) (fun v w106 hR107 => ?_)
  obtain ⟨rfl, hk_⟩ := hR107
  have hS108 := hS100.keepN hk_
  refine ⟨trivial, ?_⟩
  refine seg 7 [] [4, 69, 71, 72] [(4, e7), (69, (bv false)), (71, (.string t104)), (72, (.string p0))] [] (fun fb => by kernel_rfl) rfl trivial ?_
  refine seg 8 [] [4, 69, 73] [(4, e7), (69, (bv false)), (73, (bv (!(t104.toList == p0.toList))))] [] (fun fb => by kernel_rfl) rfl trivial ?_
  refine WL.setB 73 (congrArg not (strEq_raw t104 p0)) rfl ?_
  refine seg 9 [] [4, 74] [(4, e7), (74, (bv (!(strEq t104 p0))))] [] (fun fb => by kernel_rfl) rfl trivial ?_
  injection hx102 with hx102
  exact WL.to K (!(strEq t104 p0)) [4, 74] rfl ⟨⟨(hS108.subR [0]).sub [0] (by decide), hx102.symm⟩, trivial⟩
 rintro y109 w111 ⟨⟨hS112, hq110⟩, hF113⟩
 subst hq110
 refine WL.done rfl (WX.next ?_)
 rcases br_some hf with ⟨h114, hf⟩ | ⟨h114, hf⟩
 ·refine WC.condT2 (fun fb => by kernel_rfl) h114 ?_
  refine WC.seq (WC.region ?_)
  refine seg 2 [] [2, 3] [(2, (.slice none 0 0)), (3, (iv 3))] [] (fun fb => by kernel_rfl) rfl trivial ?_
  refine WL.done rfl (WX.next ?_)
  refine WC.ret ?_
  have hS115 := hS112.nilrow 32 enc_Tile
  injection hf with hf
  subst hf
  exact WX.thenR (WX.ret_ [] (.tuple #[(sv none ([] : List Tile) 0), (iv 3)]) [] (fun fb => by kernel_rfl) trivial ⟨_, rfl, none, 0, rfl, (hS115.sub [0] (by decide)).noR⟩)
 refine WC.condF2 (fun fb => by kernel_rfl) h114 ?_
 refine WC.skip (WX.next (WC.seq (WC.region ?_)))
 refine seg 3 [] [2, 3] [(2, e7), (3, (iv 0))] [] (fun fb => by kernel_rfl) rfl trivial ?_
 refine WL.done rfl (WX.next ?_)
 refine WC.ret ?_
 injection hf with hf
 subst hf
 exact WX.ret_ [] (.tuple #[e7, (iv 0)]) [] (fun fb => by kernel_rfl) trivial ⟨_, rfl, A19, c20, rfl, (hS112.sub [0] (by decide)).noR⟩
theorem strip_colours_put_calls (p0 : A16_Int) (p1 : Int) (ga : Nat) (r : A16_Int) (w : World) (hI : IoOK w [blk ga (.cells #[(.int .u64 p0.e0), (.int .u64 p0.e1), (.int .u64 p0.e2), (.int .u64 p0.e3), (.int .u64 p0.e4), (.int .u64 p0.e5), (.int .u64 p0.e6), (.int .u64 p0.e7), (.int .u64 p0.e8), (.int .u64 p0.e9), (.int .u64 p0.e10), (.int .u64 p0.e11), (.int .u64 p0.e12), (.int .u64 p0.e13), (.int .u64 p0.e14), (.int .u64 p0.e15)] 85 (0, 0))]) (hf : strip_colours_put p0 p1 = some r) :
  CallsR Tryz.prog 34 #[(pt ga), (iv p1)] w (fun v w' => v = (.tuple #[]) ∧ St (fpL [blk ga (.cells #[(.int .u64 p0.e0), (.int .u64 p0.e1), (.int .u64 p0.e2), (.int .u64 p0.e3), (.int .u64 p0.e4), (.int .u64 p0.e5), (.int .u64 p0.e6), (.int .u64 p0.e7), (.int .u64 p0.e8), (.int .u64 p0.e9), (.int .u64 p0.e10), (.int .u64 p0.e11), (.int .u64 p0.e12), (.int .u64 p0.e13), (.int .u64 p0.e14), (.int .u64 p0.e15)] 85 (0, 0))]) w w' [] [blk ga (.cells #[(.int .u64 r.e0), (.int .u64 r.e1), (.int .u64 r.e2), (.int .u64 r.e3), (.int .u64 r.e4), (.int .u64 r.e5), (.int .u64 r.e6), (.int .u64 r.e7), (.int .u64 r.e8), (.int .u64 r.e9), (.int .u64 r.e10), (.int .u64 r.e11), (.int .u64 r.e12), (.int .u64 r.e13), (.int .u64 r.e14), (.int .u64 r.e15)] 85 (0, 0))]) := by
 have hS : St (fpL [blk ga (.cells #[(.int .u64 p0.e0), (.int .u64 p0.e1), (.int .u64 p0.e2), (.int .u64 p0.e3), (.int .u64 p0.e4), (.int .u64 p0.e5), (.int .u64 p0.e6), (.int .u64 p0.e7), (.int .u64 p0.e8), (.int .u64 p0.e9), (.int .u64 p0.e10), (.int .u64 p0.e11), (.int .u64 p0.e12), (.int .u64 p0.e13), (.int .u64 p0.e14), (.int .u64 p0.e15)] 85 (0, 0))]) w w [] [blk ga (.cells #[(.int .u64 p0.e0), (.int .u64 p0.e1), (.int .u64 p0.e2), (.int .u64 p0.e3), (.int .u64 p0.e4), (.int .u64 p0.e5), (.int .u64 p0.e6), (.int .u64 p0.e7), (.int .u64 p0.e8), (.int .u64 p0.e9), (.int .u64 p0.e10), (.int .u64 p0.e11), (.int .u64 p0.e12), (.int .u64 p0.e13), (.int .u64 p0.e14), (.int .u64 p0.e15)] 85 (0, 0))] := St.initIO (ro_nil _ _) hI
 refine enter 16 Tryz.func34 rfl Tryz.ntmps34 rfl ?_
 unfold strip_colours_put at hf
 obtain ⟨h19, hf⟩ := as_some hf
 obtain ⟨h20, hf⟩ := as_some hf
 refine WC.regionD ([(5, (flatA ⟨ga, 0, none⟩ ((w64 (Int.tdiv p1 64)).toNat * 1)), (.int .u64 (A16_Int.get p0 (w64 (Int.tdiv p1 64)))))], [0, 1, 2, 3, 4, 5, 6, 7, 8, 9, 10, 11], [[], [], [1], [0], [0, 1, 2, 3], [0, 1, 2, 3, 4], [], [6], [6, 7], [0, 1, 2, 3, 4, 5, 6, 7, 8], [0], [0, 1, 2, 3, 4, 5, 6, 7, 8, 9, 10], [0, 1, 2, 3, 4, 5, 6, 7, 8, 9, 10, 11]]) [[0, 1, 2, 3, 4, 5, 6, 7, 8, 9, 10, 11, 12]] (by kernel_rfl) (by kernel_rfl) (NoPanic.body) ?_
 have hS18 := hS.drew
 revert hS18
 generalize World.drew w = w17
 intro hS18
 refine ⟨⟨hS18.cell 0 rfl _ (cases16 (Q := fun z_ => (#[(.int .u64 p0.e0), (.int .u64 p0.e1), (.int .u64 p0.e2), (.int .u64 p0.e3), (.int .u64 p0.e4), (.int .u64 p0.e5), (.int .u64 p0.e6), (.int .u64 p0.e7), (.int .u64 p0.e8), (.int .u64 p0.e9), (.int .u64 p0.e10), (.int .u64 p0.e11), (.int .u64 p0.e12), (.int .u64 p0.e13), (.int .u64 p0.e14), (.int .u64 p0.e15)] : Array Value)[0 + z_.toNat * 1]? = some (.int .u64 (A16_Int.get p0 z_))) h19 (by kernel_rfl) (by kernel_rfl) (by kernel_rfl) (by kernel_rfl) (by kernel_rfl) (by kernel_rfl) (by kernel_rfl) (by kernel_rfl) (by kernel_rfl) (by kernel_rfl) (by kernel_rfl) (by kernel_rfl) (by kernel_rfl) (by kernel_rfl) (by kernel_rfl) (by kernel_rfl)), trivial⟩, forallC ?_ (forallN)⟩
 let e18 := w64 (Int.tdiv p1 64)
 refine segF 12 [.v (.int .u64 (A16_Int.get p0 e18))] [0, 13, 15] [(0, (pt ga)), (13, (.int .u64 (orV (A16_Int.get p0 e18) (shlV 1 (Int.tmod p1 64))))), (15, (.pointer (some (flatA ⟨ga, 0, none⟩ (e18.toNat * 1)))))] [.ne 64, .idx (some ⟨0, 0, none⟩) e18 16, .ne 64, .idx (some ⟨0, 0, none⟩) (Int.tmod p1 64) 64, .idx (some ⟨0, 0, none⟩) e18 16] [0] [(5, (flatA ⟨ga, 0, none⟩ (e18.toNat * 1)), (.int .u64 (A16_Int.get p0 e18)))] (fun fb => by kernel_rfl) rfl ⟨(by decide), ⟨h19.1, h19.2, rfl⟩, (by decide), ⟨h20.1, h20.2, rfl⟩, ⟨h19.1, h19.2, rfl⟩, trivial⟩ rfl ?_
 have h23 := (cases16 (Q := fun z_ => (([(0 + z_.toNat * 1, (.int .u64 (orV (A16_Int.get p0 e18) (shlV 1 (Int.tmod p1 64)))))] : List (Nat × Value)).all fun p_ => Nat.blt p_.1 (#[(.int .u64 p0.e0), (.int .u64 p0.e1), (.int .u64 p0.e2), (.int .u64 p0.e3), (.int .u64 p0.e4), (.int .u64 p0.e5), (.int .u64 p0.e6), (.int .u64 p0.e7), (.int .u64 p0.e8), (.int .u64 p0.e9), (.int .u64 p0.e10), (.int .u64 p0.e11), (.int .u64 p0.e12), (.int .u64 p0.e13), (.int .u64 p0.e14), (.int .u64 p0.e15)] : Array Value).size) = true) h19 (by kernel_rfl) (by kernel_rfl) (by kernel_rfl) (by kernel_rfl) (by kernel_rfl) (by kernel_rfl) (by kernel_rfl) (by kernel_rfl) (by kernel_rfl) (by kernel_rfl) (by kernel_rfl) (by kernel_rfl) (by kernel_rfl) (by kernel_rfl) (by kernel_rfl) (by kernel_rfl))
 let e17 := orV (A16_Int.get p0 e18) (shlV 1 (Int.tmod p1 64))
 have h24 := (cases16 (Q := fun z_ => wrc (#[(.int .u64 p0.e0), (.int .u64 p0.e1), (.int .u64 p0.e2), (.int .u64 p0.e3), (.int .u64 p0.e4), (.int .u64 p0.e5), (.int .u64 p0.e6), (.int .u64 p0.e7), (.int .u64 p0.e8), (.int .u64 p0.e9), (.int .u64 p0.e10), (.int .u64 p0.e11), (.int .u64 p0.e12), (.int .u64 p0.e13), (.int .u64 p0.e14), (.int .u64 p0.e15)] : Array Value) [(0 + z_.toNat * 1, (.int .u64 e17))] = (#[(.int .u64 ((A16_Int.set p0 z_ e17).e0)), (.int .u64 ((A16_Int.set p0 z_ e17).e1)), (.int .u64 ((A16_Int.set p0 z_ e17).e2)), (.int .u64 ((A16_Int.set p0 z_ e17).e3)), (.int .u64 ((A16_Int.set p0 z_ e17).e4)), (.int .u64 ((A16_Int.set p0 z_ e17).e5)), (.int .u64 ((A16_Int.set p0 z_ e17).e6)), (.int .u64 ((A16_Int.set p0 z_ e17).e7)), (.int .u64 ((A16_Int.set p0 z_ e17).e8)), (.int .u64 ((A16_Int.set p0 z_ e17).e9)), (.int .u64 ((A16_Int.set p0 z_ e17).e10)), (.int .u64 ((A16_Int.set p0 z_ e17).e11)), (.int .u64 ((A16_Int.set p0 z_ e17).e12)), (.int .u64 ((A16_Int.set p0 z_ e17).e13)), (.int .u64 ((A16_Int.set p0 z_ e17).e14)), (.int .u64 ((A16_Int.set p0 z_ e17).e15))] : Array Value)) h19 (by kernel_rfl) (by kernel_rfl) (by kernel_rfl) (by kernel_rfl) (by kernel_rfl) (by kernel_rfl) (by kernel_rfl) (by kernel_rfl) (by kernel_rfl) (by kernel_rfl) (by kernel_rfl) (by kernel_rfl) (by kernel_rfl) (by kernel_rfl) (by kernel_rfl) (by kernel_rfl))
 let e16 := A16_Int.set p0 e18 e17
 refine WL.store hS18 0 rfl [(0 + e18.toNat * 1, (.int .u64 e17))] #[(.int .u64 (e16.e0)), (.int .u64 (e16.e1)), (.int .u64 (e16.e2)), (.int .u64 (e16.e3)), (.int .u64 (e16.e4)), (.int .u64 (e16.e5)), (.int .u64 (e16.e6)), (.int .u64 (e16.e7)), (.int .u64 (e16.e8)), (.int .u64 (e16.e9)), (.int .u64 (e16.e10)), (.int .u64 (e16.e11)), (.int .u64 (e16.e12)), (.int .u64 (e16.e13)), (.int .u64 (e16.e14)), (.int .u64 (e16.e15))] (fun fb => by kernel_rfl) h23 h24 [] (by decide) (by decide) (fun w21 hS22 => ?_)
 refine ⟨trivial, ?_⟩
 refine WL.done rfl ?_
 injection hf with hf
 subst hf
 exact WX.end_ [] (.tuple #[]) [] (fun fb => by kernel_rfl) trivial ⟨_, rfl, rfl, (hS22.sub [0] (by decide)).noR⟩
theorem strip_colours_has_calls (p0 : A16_Int) (p1 : Int) (ga : Nat) (r : Bool) (w : World) (hR0 : RO NoS w (blk ga (.cells #[(.int .u64 p0.e0), (.int .u64 p0.e1), (.int .u64 p0.e2), (.int .u64 p0.e3), (.int .u64 p0.e4), (.int .u64 p0.e5), (.int .u64 p0.e6), (.int .u64 p0.e7), (.int .u64 p0.e8), (.int .u64 p0.e9), (.int .u64 p0.e10), (.int .u64 p0.e11), (.int .u64 p0.e12), (.int .u64 p0.e13), (.int .u64 p0.e14), (.int .u64 p0.e15)] 85 (0, 0)))) (hf : strip_colours_has p0 p1 = some r) :
  CallsR Tryz.prog 35 #[(pt ga), (iv p1)] w (fun v w' => v = (bv r) ∧ Keeps NoS w w') := by
 have hS : St NoS w w [blk ga (.cells #[(.int .u64 p0.e0), (.int .u64 p0.e1), (.int .u64 p0.e2), (.int .u64 p0.e3), (.int .u64 p0.e4), (.int .u64 p0.e5), (.int .u64 p0.e6), (.int .u64 p0.e7), (.int .u64 p0.e8), (.int .u64 p0.e9), (.int .u64 p0.e10), (.int .u64 p0.e11), (.int .u64 p0.e12), (.int .u64 p0.e13), (.int .u64 p0.e14), (.int .u64 p0.e15)] 85 (0, 0))] [] := St.init (ro_cons hR0 (ro_nil _ _))
 refine enter 16 Tryz.func35 rfl Tryz.ntmps35 rfl ?_
 unfold strip_colours_has at hf
 refine WC.seq (WC.region ?_)
 refine seg 1 [] [0, 1] [(0, (pt ga)), (1, (iv p1))] [] (fun fb => by kernel_rfl) rfl trivial ?_
 refine WL.done rfl (WX.next (WC.seq (WC.region ?_)))
 refine seg 4 [] [1, 7, 8] [(1, (iv p1)), (7, (iv (w64 (Int.tdiv p1 64)))), (8, (pt ga))] [.ne 64] (fun fb => by kernel_rfl) rfl ⟨(by decide), trivial⟩ ?_
 obtain ⟨h17, hf⟩ := as_some hf
 let e16 := w64 (Int.tdiv p1 64)
 refine seg 8 [.v (.int .u64 (A16_Int.get p0 e16))] [10, 12] [(10, (.int .u64 (A16_Int.get p0 e16))), (12, (iv (Int.tmod p1 64)))] [.idx (some ⟨0, 0, none⟩) e16 16, .cell (flatA ⟨ga, 0, none⟩ (e16.toNat * 1)) (.int .u64 (A16_Int.get p0 e16)), .ne 64] (fun fb => by kernel_rfl) rfl ⟨⟨h17.1, h17.2, rfl⟩, blk_cell (hS.rd 0).1 _ (cases16 (Q := fun z_ => (#[(.int .u64 p0.e0), (.int .u64 p0.e1), (.int .u64 p0.e2), (.int .u64 p0.e3), (.int .u64 p0.e4), (.int .u64 p0.e5), (.int .u64 p0.e6), (.int .u64 p0.e7), (.int .u64 p0.e8), (.int .u64 p0.e9), (.int .u64 p0.e10), (.int .u64 p0.e11), (.int .u64 p0.e12), (.int .u64 p0.e13), (.int .u64 p0.e14), (.int .u64 p0.e15)] : Array Value)[0 + z_.toNat * 1]? = some (.int .u64 (A16_Int.get p0 z_))) h17 (by kernel_rfl) (by kernel_rfl) (by kernel_rfl) (by kernel_rfl) (by kernel_rfl) (by kernel_rfl) (by kernel_rfl) (by kernel_rfl) (by kernel_rfl) (by kernel_rfl) (by kernel_rfl) (by kernel_rfl) (by kernel_rfl) (by kernel_rfl) (by kernel_rfl) (by kernel_rfl)), (by decide), trivial⟩ ?_
 obtain ⟨h18, hf⟩ := as_some hf
 refine seg 12 [] [4] [(4, (bv ((andV (shrV (A16_Int.get p0 e16) (Int.tmod p1 64)) 1) == 1)))] [.idx (some ⟨0, 0, none⟩) (Int.tmod p1 64) 64] (fun fb => by kernel_rfl) rfl ⟨⟨h18.1, h18.2, rfl⟩, trivial⟩ ?_
 refine WL.done rfl (WX.next ?_)
 refine WC.ret ?_
 injection hf with hf
 subst hf
 exact WX.ret_ [] (bv ((andV (shrV (A16_Int.get p0 e16) (Int.tmod p1 64)) 1) == 1)) [] (fun fb => by kernel_rfl) trivial ⟨_, rfl, rfl, hS.keep⟩
theorem bits_OnesCount64_calls (p0 : Int)  (r : Int) (w : World)  (hf : bits_OnesCount64 p0 = some r) :
  CallsR Tryz.prog 36 #[(.int .u64 p0)] w (fun v w' => v = (iv r) ∧ Keeps NoS w w') := by
 have hS : St NoS w w [] [] := St.init (ro_nil _ _)
 refine enter 35 Tryz.func36 rfl Tryz.ntmps36 rfl ?_
 unfold bits_OnesCount64 at hf
 refine WC.seq (WC.region ?_)
 refine seg 1 [] [0] [(0, (.int .u64 p0))] [] (fun fb => by kernel_rfl) rfl trivial ?_
 refine WL.done rfl (WX.next (WC.seq (WC.region ?_)))
 refine seg 7 [] [0] [(0, (.int .u64 (IntKind.wrap .u64 ((andV (shrV p0 1) 6148914691236517205) + (andV p0 6148914691236517205)))))] [.idx (some ⟨0, 0, none⟩) 1 64] (fun fb => by kernel_rfl) rfl ⟨⟨by decide, by decide, rfl⟩, trivial⟩ ?_
 refine WL.done rfl (WX.next (WC.seq (WC.region ?_)))
 let e5 := (andV (shrV p0 1) 6148914691236517205) + (andV p0 6148914691236517205)
 refine seg 7 [] [0] [(0, (.int .u64 (IntKind.wrap .u64 ((andV (shrV (IntKind.wrap .u64 e5) 2) 3689348814741910323) + (andV (IntKind.wrap .u64 e5) 3689348814741910323)))))] [.idx (some ⟨0, 0, none⟩) 2 64] (fun fb => by kernel_rfl) rfl ⟨⟨by decide, by decide, rfl⟩, trivial⟩ ?_
 refine WL.done rfl (WX.next (WC.seq (WC.region ?_)))
 let e4 := (andV (shrV p0 1) 6148914691236517205) + (andV p0 6148914691236517205)
 refine seg 6 [] [0] [(0, (.int .u64 (andV (IntKind.wrap .u64 ((shrV (IntKind.wrap .u64 ((andV (shrV (IntKind.wrap .u64 e4) 2) 3689348814741910323) + (andV (IntKind.wrap .u64 e4) 3689348814741910323))) 4) + (IntKind.wrap .u64 ((andV (shrV (IntKind.wrap .u64 e4) 2) 3689348814741910323) + (andV (IntKind.wrap .u64 e4) 3689348814741910323))))) 1085102592571150095)))] [.idx (some ⟨0, 0, none⟩) 4 64] (fun fb => by kernel_rfl) rfl ⟨⟨by decide, by decide, rfl⟩, trivial⟩ ?_
 refine WL.done rfl (WX.next (WC.seq (WC.region ?_)))
 let e3 := (andV (shrV p0 1) 6148914691236517205) + (andV p0 6148914691236517205)
 refine seg 5 [] [0] [(0, (.int .u64 (IntKind.wrap .u64 ((andV (IntKind.wrap .u64 ((shrV (IntKind.wrap .u64 ((andV (shrV (IntKind.wrap .u64 e3) 2) 3689348814741910323) + (andV (IntKind.wrap .u64 e3) 3689348814741910323))) 4) + (IntKind.wrap .u64 ((andV (shrV (IntKind.wrap .u64 e3) 2) 3689348814741910323) + (andV (IntKind.wrap .u64 e3) 3689348814741910323))))) 1085102592571150095) + (shrV (andV (IntKind.wrap .u64 ((shrV (IntKind.wrap .u64 ((andV (shrV (IntKind.wrap .u64 e3) 2) 3689348814741910323) + (andV (IntKind.wrap .u64 e3) 3689348814741910323))) 4) + (IntKind.wrap .u64 ((andV (shrV (IntKind.wrap .u64 e3) 2) 3689348814741910323) + (andV (IntKind.wrap .u64 e3) 3689348814741910323))))) 1085102592571150095) 8)))))] [.idx (some ⟨0, 0, none⟩) 8 64] (fun fb => by kernel_rfl) rfl ⟨⟨by decide, by decide, rfl⟩, trivial⟩ ?_
 refine WL.done rfl (WX.next (WC.seq (WC.region ?_)))
 let e2 := (andV (shrV p0 1) 6148914691236517205) + (andV p0 6148914691236517205)
 refine seg 5 [] [0] [(0, (.int .u64 (IntKind.wrap .u64 ((IntKind.wrap .u64 ((andV (IntKind.wrap .u64 ((shrV (IntKind.wrap .u64 ((andV (shrV (IntKind.wrap .u64 e2) 2) 3689348814741910323) + (andV (IntKind.wrap .u64 e2) 3689348814741910323))) 4) + (IntKind.wrap .u64 ((andV (shrV (IntKind.wrap .u64 e2) 2) 3689348814741910323) + (andV (IntKind.wrap .u64 e2) 3689348814741910323))))) 1085102592571150095) + (shrV (andV (IntKind.wrap .u64 ((shrV (IntKind.wrap .u64 ((andV (shrV (IntKind.wrap .u64 e2) 2) 3689348814741910323) + (andV (IntKind.wrap .u64 e2) 3689348814741910323))) 4) + (IntKind.wrap .u64 ((andV (shrV (IntKind.wrap .u64 e2) 2) 3689348814741910323) + (andV (IntKind.wrap .u64 e2) 3689348814741910323))))) 1085102592571150095) 8))) + (shrV (IntKind.wrap .u64 ((andV (IntKind.wrap .u64 ((shrV (IntKind.wrap .u64 ((andV (shrV (IntKind.wrap .u64 e2) 2) 3689348814741910323) + (andV (IntKind.wrap .u64 e2) 3689348814741910323))) 4) + (IntKind.wrap .u64 ((andV (shrV (IntKind.wrap .u64 e2) 2) 3689348814741910323) + (andV (IntKind.wrap .u64 e2) 3689348814741910323))))) 1085102592571150095) + (shrV (andV (IntKind.wrap .u64 ((shrV (IntKind.wrap .u64 ((andV (shrV (IntKind.wrap .u64 e2) 2) 3689348814741910323) + (andV (IntKind.wrap .u64 e2) 3689348814741910323))) 4) + (IntKind.wrap .u64 ((andV (shrV (IntKind.wrap .u64 e2) 2) 3689348814741910323) + (andV (IntKind.wrap .u64 e2) 3689348814741910323))))) 1085102592571150095) 8))) 16)))))] [.idx (some ⟨0, 0, none⟩) 16 64] (fun fb => by kernel_rfl) rfl ⟨⟨by decide, by decide, rfl⟩, trivial⟩ ?_
 refine WL.done rfl (WX.next (WC.seq (WC.region ?_)))
 let e1 := (andV (shrV p0 1) 6148914691236517205) + (andV p0 6148914691236517205)
 refine seg 5 [] [0] [(0, (.int .u64 (IntKind.wrap .u64 ((IntKind.wrap .u64 ((IntKind.wrap .u64 ((andV (IntKind.wrap .u64 ((shrV (IntKind.wrap .u64 ((andV (shrV (IntKind.wrap .u64 e1) 2) 3689348814741910323) + (andV (IntKind.wrap .u64 e1) 3689348814741910323))) 4) + (IntKind.wrap .u64 ((andV (shrV (IntKind.wrap .u64 e1) 2) 3689348814741910323) + (andV (IntKind.wrap .u64 e1) 3689348814741910323))))) 1085102592571150095) + (shrV (andV (IntKind.wrap .u64 ((shrV (IntKind.wrap .u64 ((andV (shrV (IntKind.wrap .u64 e1) 2) 3689348814741910323) + (andV (IntKind.wrap .u64 e1) 3689348814741910323))) 4) + (IntKind.wrap .u64 ((andV (shrV (IntKind.wrap .u64 e1) 2) 3689348814741910323) + (andV (IntKind.wrap .u64 e1) 3689348814741910323))))) 1085102592571150095) 8))) + (shrV (IntKind.wrap .u64 ((andV (IntKind.wrap .u64 ((shrV (IntKind.wrap .u64 ((andV (shrV (IntKind.wrap .u64 e1) 2) 3689348814741910323) + (andV (IntKind.wrap .u64 e1) 3689348814741910323))) 4) + (IntKind.wrap .u64 ((andV (shrV (IntKind.wrap .u64 e1) 2) 3689348814741910323) + (andV (IntKind.wrap .u64 e1) 3689348814741910323))))) 1085102592571150095) + (shrV (andV (IntKind.wrap .u64 ((shrV (IntKind.wrap .u64 ((andV (shrV (IntKind.wrap .u64 e1) 2) 3689348814741910323) + (andV (IntKind.wrap .u64 e1) 3689348814741910323))) 4) + (IntKind.wrap .u64 ((andV (shrV (IntKind.wrap .u64 e1) 2) 3689348814741910323) + (andV (IntKind.wrap .u64 e1) 3689348814741910323))))) 1085102592571150095) 8))) 16))) + (shrV (IntKind.wrap .u64 ((IntKind.wrap .u64 ((andV (IntKind.wrap .u64 ((shrV (IntKind.wrap .u64 ((andV (shrV (IntKind.wrap .u64 e1) 2) 3689348814741910323) + (andV (IntKind.wrap .u64 e1) 3689348814741910323))) 4) + (IntKind.wrap .u64 ((andV (shrV (IntKind.wrap .u64 e1) 2) 3689348814741910323) + (andV (IntKind.wrap .u64 e1) 3689348814741910323))))) 1085102592571150095) + (shrV (andV (IntKind.wrap .u64 ((shrV (IntKind.wrap .u64 ((andV (shrV (IntKind.wrap .u64 e1) 2) 3689348814741910323) + (andV (IntKind.wrap .u64 e1) 3689348814741910323))) 4) + (IntKind.wrap .u64 ((andV (shrV (IntKind.wrap .u64 e1) 2) 3689348814741910323) + (andV (IntKind.wrap .u64 e1) 3689348814741910323))))) 1085102592571150095) 8))) + (shrV (IntKind.wrap .u64 ((andV (IntKind.wrap .u64 ((shrV (IntKind.wrap .u64 ((andV (shrV (IntKind.wrap .u64 e1) 2) 3689348814741910323) + (andV (IntKind.wrap .u64 e1) 3689348814741910323))) 4) + (IntKind.wrap .u64 ((andV (shrV (IntKind.wrap .u64 e1) 2) 3689348814741910323) + (andV (IntKind.wrap .u64 e1) 3689348814741910323))))) 1085102592571150095) + (shrV (andV (IntKind.wrap .u64 ((shrV (IntKind.wrap .u64 ((andV (shrV (IntKind.wrap .u64 e1) 2) 3689348814741910323) + (andV (IntKind.wrap .u64 e1) 3689348814741910323))) 4) + (IntKind.wrap .u64 ((andV (shrV (IntKind.wrap .u64 e1) 2) 3689348814741910323) + (andV (IntKind.wrap .u64 e1) 3689348814741910323))))) 1085102592571150095) 8))) 16))) 32)))))] [.idx (some ⟨0, 0, none⟩) 32 64] (fun fb => by kernel_rfl) rfl ⟨⟨by decide, by decide, rfl⟩, trivial⟩ ?_
 refine WL.done rfl (WX.next (WC.seq (WC.region ?_)))
 refine seg 4 [] [2] [(2, (iv (andI (w64 (IntKind.wrap .u64 ((IntKind.wrap .u64 ((IntKind.wrap .u64 ((andV (IntKind.wrap .u64 ((shrV (IntKind.wrap .u64 ((andV (shrV (IntKind.wrap .u64 e1) 2) 3689348814741910323) + (andV (IntKind.wrap .u64 e1) 3689348814741910323))) 4) + (IntKind.wrap .u64 ((andV (shrV (IntKind.wrap .u64 e1) 2) 3689348814741910323) + (andV (IntKind.wrap .u64 e1) 3689348814741910323))))) 1085102592571150095) + (shrV (andV (IntKind.wrap .u64 ((shrV (IntKind.wrap .u64 ((andV (shrV (IntKind.wrap .u64 e1) 2) 3689348814741910323) + (andV (IntKind.wrap .u64 e1) 3689348814741910323))) 4) + (IntKind.wrap .u64 ((andV (shrV (IntKind.wrap .u64 e1) 2) 3689348814741910323) + (andV (IntKind.wrap .u64 e1) 3689348814741910323))))) 1085102592571150095) 8))) + (shrV (IntKind.wrap .u64 ((andV (IntKind.wrap .u64 ((shrV (IntKind.wrap .u64 ((andV (shrV (IntKind.wrap .u64 e1) 2) 3689348814741910323) + (andV (IntKind.wrap .u64 e1) 3689348814741910323))) 4) + (IntKind.wrap .u64 ((andV (shrV (IntKind.wrap .u64 e1) 2) 3689348814741910323) + (andV (IntKind.wrap .u64 e1) 3689348814741910323))))) 1085102592571150095) + (shrV (andV (IntKind.wrap .u64 ((shrV (IntKind.wrap .u64 ((andV (shrV (IntKind.wrap .u64 e1) 2) 3689348814741910323) + (andV (IntKind.wrap .u64 e1) 3689348814741910323))) 4) + (IntKind.wrap .u64 ((andV (shrV (IntKind.wrap .u64 e1) 2) 3689348814741910323) + (andV (IntKind.wrap .u64 e1) 3689348814741910323))))) 1085102592571150095) 8))) 16))) + (shrV (IntKind.wrap .u64 ((IntKind.wrap .u64 ((andV (IntKind.wrap .u64 ((shrV (IntKind.wrap .u64 ((andV (shrV (IntKind.wrap .u64 e1) 2) 3689348814741910323) + (andV (IntKind.wrap .u64 e1) 3689348814741910323))) 4) + (IntKind.wrap .u64 ((andV (shrV (IntKind.wrap .u64 e1) 2) 3689348814741910323) + (andV (IntKind.wrap .u64 e1) 3689348814741910323))))) 1085102592571150095) + (shrV (andV (IntKind.wrap .u64 ((shrV (IntKind.wrap .u64 ((andV (shrV (IntKind.wrap .u64 e1) 2) 3689348814741910323) + (andV (IntKind.wrap .u64 e1) 3689348814741910323))) 4) + (IntKind.wrap .u64 ((andV (shrV (IntKind.wrap .u64 e1) 2) 3689348814741910323) + (andV (IntKind.wrap .u64 e1) 3689348814741910323))))) 1085102592571150095) 8))) + (shrV (IntKind.wrap .u64 ((andV (IntKind.wrap .u64 ((shrV (IntKind.wrap .u64 ((andV (shrV (IntKind.wrap .u64 e1) 2) 3689348814741910323) + (andV (IntKind.wrap .u64 e1) 3689348814741910323))) 4) + (IntKind.wrap .u64 ((andV (shrV (IntKind.wrap .u64 e1) 2) 3689348814741910323) + (andV (IntKind.wrap .u64 e1) 3689348814741910323))))) 1085102592571150095) + (shrV (andV (IntKind.wrap .u64 ((shrV (IntKind.wrap .u64 ((andV (shrV (IntKind.wrap .u64 e1) 2) 3689348814741910323) + (andV (IntKind.wrap .u64 e1) 3689348814741910323))) 4) + (IntKind.wrap .u64 ((andV (shrV (IntKind.wrap .u64 e1) 2) 3689348814741910323) + (andV (IntKind.wrap .u64 e1) 3689348814741910323))))) 1085102592571150095) 8))) 16))) 32)))) 127)))] [] (fun fb => by kernel_rfl) rfl trivial ?_
 refine WL.done rfl (WX.next ?_)
 refine WC.ret ?_
 injection hf with hf
 subst hf
 exact WX.ret_ [] (iv (andI (w64 (IntKind.wrap .u64 ((IntKind.wrap .u64 ((IntKind.wrap .u64 ((andV (IntKind.wrap .u64 ((shrV (IntKind.wrap .u64 ((andV (shrV (IntKind.wrap .u64 e1) 2) 3689348814741910323) + (andV (IntKind.wrap .u64 e1) 3689348814741910323))) 4) + (IntKind.wrap .u64 ((andV (shrV (IntKind.wrap .u64 e1) 2) 3689348814741910323) + (andV (IntKind.wrap .u64 e1) 3689348814741910323))))) 1085102592571150095) + (shrV (andV (IntKind.wrap .u64 ((shrV (IntKind.wrap .u64 ((andV (shrV (IntKind.wrap .u64 e1) 2) 3689348814741910323) + (andV (IntKind.wrap .u64 e1) 3689348814741910323))) 4) + (IntKind.wrap .u64 ((andV (shrV (IntKind.wrap .u64 e1) 2) 3689348814741910323) + (andV (IntKind.wrap .u64 e1) 3689348814741910323))))) 1085102592571150095) 8))) + (shrV (IntKind.wrap .u64 ((andV (IntKind.wrap .u64 ((shrV (IntKind.wrap .u64 ((andV (shrV (IntKind.wrap .u64 e1) 2) 3689348814741910323) + (andV (IntKind.wrap .u64 e1) 3689348814741910323))) 4) + (IntKind.wrap .u64 ((andV (shrV (IntKind.wrap .u64 e1) 2) 3689348814741910323) + (andV (IntKind.wrap .u64 e1) 3689348814741910323))))) 1085102592571150095) + (shrV (andV (IntKind.wrap .u64 ((shrV (IntKind.wrap .u64 ((andV (shrV (IntKind.wrap .u64 e1) 2) 3689348814741910323) + (andV (IntKind.wrap .u64 e1) 3689348814741910323))) 4) + (IntKind.wrap .u64 ((andV (shrV (IntKind.wrap .u64 e1) 2) 3689348814741910323) + (andV (IntKind.wrap .u64 e1) 3689348814741910323))))) 1085102592571150095) 8))) 16))) + (shrV (IntKind.wrap .u64 ((IntKind.wrap .u64 ((andV (IntKind.wrap .u64 ((shrV (IntKind.wrap .u64 ((andV (shrV (IntKind.wrap .u64 e1) 2) 3689348814741910323) + (andV (IntKind.wrap .u64 e1) 3689348814741910323))) 4) + (IntKind.wrap .u64 ((andV (shrV (IntKind.wrap .u64 e1) 2) 3689348814741910323) + (andV (IntKind.wrap .u64 e1) 3689348814741910323))))) 1085102592571150095) + (shrV (andV (IntKind.wrap .u64 ((shrV (IntKind.wrap .u64 ((andV (shrV (IntKind.wrap .u64 e1) 2) 3689348814741910323) + (andV (IntKind.wrap .u64 e1) 3689348814741910323))) 4) + (IntKind.wrap .u64 ((andV (shrV (IntKind.wrap .u64 e1) 2) 3689348814741910323) + (andV (IntKind.wrap .u64 e1) 3689348814741910323))))) 1085102592571150095) 8))) + (shrV (IntKind.wrap .u64 ((andV (IntKind.wrap .u64 ((shrV (IntKind.wrap .u64 ((andV (shrV (IntKind.wrap .u64 e1) 2) 3689348814741910323) + (andV (IntKind.wrap .u64 e1) 3689348814741910323))) 4) + (IntKind.wrap .u64 ((andV (shrV (IntKind.wrap .u64 e1) 2) 3689348814741910323) + (andV (IntKind.wrap .u64 e1) 3689348814741910323))))) 1085102592571150095) + (shrV (andV (IntKind.wrap .u64 ((shrV (IntKind.wrap .u64 ((andV (shrV (IntKind.wrap .u64 e1) 2) 3689348814741910323) + (andV (IntKind.wrap .u64 e1) 3689348814741910323))) 4) + (IntKind.wrap .u64 ((andV (shrV (IntKind.wrap .u64 e1) 2) 3689348814741910323) + (andV (IntKind.wrap .u64 e1) 3689348814741910323))))) 1085102592571150095) 8))) 16))) 32)))) 127)) [] (fun fb => by kernel_rfl) trivial ⟨_, rfl, rfl, hS.keep⟩
theorem strip_Rows_calls (k : Nat) (p0 : List Tile) (Aa : Option Addr) (ca : Nat) (r : Int × Int) (w : World) (hR0 : RO NoS w (rowR enc_Tile Aa ca p0)) (hf : strip_Rows k p0 = some r) :
  CallsR Tryz.prog 17 #[(sv Aa p0 ca)] w (fun v w' => v = (.tuple #[(iv r.1), (iv r.2)]) ∧ Keeps NoS w w') := by
 have hS : St NoS w w [rowR enc_Tile Aa ca p0] [] := St.init (ro_cons hR0 (ro_nil _ _))
 refine enter 52 Tryz.func17 rfl Tryz.ntmps17 rfl ?_
 unfold strip_Rows at hf
 refine WC.seq (WC.region ?_)
 refine seg 2 [] [0] [(0, (sv Aa p0 ca))] [] (fun fb => by kernel_rfl) rfl trivial ?_
 refine WL.done rfl (WX.next (WC.seq (WC.seq (WC.region ?_))))
 refine seg 1 [] [0, 13] [(0, (sv Aa p0 ca)), (13, (sv Aa p0 ca))] [] (fun fb => by kernel_rfl) rfl trivial ?_
 obtain ⟨t18, ht19, hf⟩ := bind_some hf
 refine WL.call (some 14) 22 #[(sv Aa p0 ca)] (fun fb => by kernel_rfl) (tile_Valid_calls _ p0 Aa ca t18 _ (hS.rd 0) ht19) (fun v w20 hR21 => ?_)
 obtain ⟨rfl, hk_⟩ := hR21
 have hS22 := hS.keepN hk_
 refine ⟨trivial, ?_⟩
 refine seg 3 [] [0, 15] [(0, (sv Aa p0 ca)), (15, (bv (!t18)))] [] (fun fb => by kernel_rfl) rfl trivial ?_
 refine WL.done rfl (WX.next ?_)
 rcases br_some hf with ⟨h23, hf⟩ | ⟨h23, hf⟩
 ·refine WC.condT2 (fun fb => by kernel_rfl) h23 ?_
  refine WC.seq (WC.region ?_)
  refine seg 2 [] [2, 3] [(2, (iv 0)), (3, (iv 1))] [] (fun fb => by kernel_rfl) rfl trivial ?_
  refine WL.done rfl (WX.next ?_)
  refine WC.ret ?_
  injection hf with hf
  subst hf
  exact WX.thenR (WX.ret_ [] (.tuple #[(iv 0), (iv 1)]) [] (fun fb => by kernel_rfl) trivial ⟨_, rfl, rfl, hS22.keep⟩)
 refine WC.condF2 (fun fb => by kernel_rfl) h23 ?_
 refine WC.skip (WX.next (WC.seq (WC.region ?_)))
 refine WL.new hS22 4 [] (fun g => (pt g)) (.cells #[(.int .u64 0), (.int .u64 0), (.int .u64 0), (.int .u64 0), (.int .u64 0), (.int .u64 0), (.int .u64 0), (.int .u64 0), (.int .u64 0), (.int .u64 0), (.int .u64 0), (.int .u64 0), (.int .u64 0), (.int .u64 0), (.int .u64 0), (.int .u64 0)] 85 (0, 0)) [] (fun fb g => by kernel_rfl) trivial (fun g24 w25 hS26 => ?_)
 refine ⟨trivial, ?_⟩
 refine WL.done rfl (WX.next (WC.seq (WC.seq (WC.region ?_))))
 refine seg 1 [] [0, 4, 16] [(0, (sv Aa p0 ca)), (4, (pt g24)), (16, (iv 0))] [] (fun fb => by kernel_rfl) rfl trivial ?_
 refine WL.done rfl (WX.next ?_)
 obtain ⟨x29, hx30, hf⟩ := bind_some hf
 let e28 : Nat × Value := (0, (sv Aa p0 ca))
 let e30 : Nat × Value := (4, (pt g24))
 refine WC.cutN (T := A16_Int) (fun t => [e28, e30]) (fun t w1 => St NoS w w1 [rowR enc_Tile Aa ca p0] [blk g24 (.cells #[(.int .u64 t.e0), (.int .u64 t.e1), (.int .u64 t.e2), (.int .u64 t.e3), (.int .u64 t.e4), (.int .u64 t.e5), (.int .u64 t.e6), (.int .u64 t.e7), (.int .u64 t.e8), (.int .u64 t.e9), (.int .u64 t.e10), (.int .u64 t.e11), (.int .u64 t.e12), (.int .u64 t.e13), (.int .u64 t.e14), (.int .u64 t.e15)] 85 (0, 0))] ∧ x29 = t) (fun Kx29 => ?_) ?_
 ·
  refine WC.block ?_
  refine WC.loop (T := A16_Int × Int) (fun t => [e28, e30, (16, (iv t.2))]) (fun n t w1 => St NoS w w1 [rowR enc_Tile Aa ca p0] [blk g24 (.cells #[(.int .u64 t.1.e0), (.int .u64 t.1.e1), (.int .u64 t.1.e2), (.int .u64 t.1.e3), (.int .u64 t.1.e4), (.int .u64 t.1.e5), (.int .u64 t.1.e6), (.int .u64 t.1.e7), (.int .u64 t.1.e8), (.int .u64 t.1.e9), (.int .u64 t.1.e10), (.int .u64 t.1.e11), (.int .u64 t.1.e12), (.int .u64 t.1.e13), (.int .u64 t.1.e14), (.int .u64 t.1.e15)] 85 (0, 0))] ∧ strip_Rows.l0 n t.1 t.2 = some x29) k ((A16_Int.mk 0 0 0 0 0 0 0 0 0 0 0 0 0 0 0 0), 0) [0, 4, 16] rfl ⟨(hS26.subR [0]).sub [0] (by decide), hx30⟩ ?_
  rintro k31 ⟨a27, x28⟩ w32 ⟨hS33, hl34⟩
  cases k31 with
  | zero => rw [strip_Rows.l0] at hl34; cases hl34
  | succ k31 =>
   rw [strip_Rows.l0] at hl34
   refine WC.seq (WC.region ?_)
   refine seg 1 [] [0, 4, 16, 17] [e28, e30, (16, (iv x28)), (17, (bv (decide (x28 < 1000))))] [] (fun fb => by kernel_rfl) rfl trivial ?_
   refine WL.done rfl (WX.next (WC.seq ?_))
   rcases br_some hl34 with ⟨h35, hl34⟩ | ⟨h35, hl34⟩
   ·refine WC.condT2 (fun fb => by kernel_rfl) h35 ?_
    refine WC.skip (WX.next (WC.seq (WC.block (WC.seq (WC.region ?_)))))
    refine seg 2 [] [0, 4, 5, 16] [e28, e30, (5, (iv x28)), (16, (iv x28))] [] (fun fb => by kernel_rfl) rfl trivial ?_
    refine WL.done rfl (WX.next (WC.region ?_))
    refine seg 1 [] [0, 4, 16, 19] [e28, e30, (16, (iv x28)), (19, (iv x28))] [] (fun fb => by kernel_rfl) rfl trivial ?_
    obtain ⟨t36, ht37, hl34⟩ := bind_some hl34
    refine WL.call (some 20) 34 #[(pt g24), (iv x28)] (fun fb => by kernel_rfl) (strip_colours_put_calls a27 x28 g24 t36 _ (hS33.io [0] (by decide)) ht37) (fun v w38 hR39 => ?_)
    obtain ⟨rfl, hk_⟩ := hR39
    have hS40 := hS.go w38 [blk g24 (.cells #[(.int .u64 t36.e0), (.int .u64 t36.e1), (.int .u64 t36.e2), (.int .u64 t36.e3), (.int .u64 t36.e4), (.int .u64 t36.e5), (.int .u64 t36.e6), (.int .u64 t36.e7), (.int .u64 t36.e8), (.int .u64 t36.e9), (.int .u64 t36.e10), (.int .u64 t36.e11), (.int .u64 t36.e12), (.int .u64 t36.e13), (.int .u64 t36.e14), (.int .u64 t36.e15)] 85 (0, 0))] (hS33.call hk_ [0] [] (fun g hg => fpL_sel g hg) (by decide) (by decide))
    refine ⟨trivial, ?_⟩
    refine WL.done rfl ?_
    refine WX.blockN (WX.next ?_)
    refine WC.region ?_
    refine seg 2 [] [0, 4, 16] [e28, e30, (16, (iv (w64 (x28 + 1))))] [] (fun fb => by kernel_rfl) rfl trivial ?_
    refine WL.done rfl ?_
    exact WX.again k31 (Nat.lt_succ_self _) (t36, w64 (x28 + 1)) [0, 4, 16] rfl ⟨(hS40.subR [0]).sub [0] (by decide), hl34⟩
   refine WC.condF2 (fun fb => by kernel_rfl) h35 ?_
   refine WC.exit ?_
   injection hl34 with hl34
   exact WX.thenX (WX.thenX (WX.blockHere (WX.to Kx29 a27 [0, 4] rfl ⟨(hS33.subR [0]).sub [0] (by decide), hl34.symm⟩)))
 rintro y44 w41 ⟨hS42, hq43⟩
 subst hq43
 refine WX.next (WC.seq (WC.seq (WC.region ?_)))
 refine seg 1 [] [0, 4, 6] [e28, e30, (6, (iv 0))] [] (fun fb => by kernel_rfl) rfl trivial ?_
 refine WL.done rfl (WX.next ?_)
 obtain ⟨x47, hx48, hf⟩ := bind_some hf
 let e17 : Nat × Value := e28
 let e18 : Nat × Value := e30
 let e20 : Nat × Value := (27, (iv (p0.length : Int)))
 let e21 : List Own := [rowR enc_Tile Aa ca p0]
 let e22 : List Nat := [0, 4, 6, 7, 8, 26, 27, 28]
 let e23 : Nat × Value := (26, (sv Aa p0 ca))
 let e26 : Nat × Value := (8, (iv 0))
 let e27 : List Nat := [0, 4, 6, 7, 8, 39, 40]
 refine WC.cutN (T := Unit) (fun t => []) (fun t w1 => St NoS w w1 e21 [] ∧ x47 = .inr t) (fun Kx47 => ?_) ?_
 ·
  refine WC.block ?_
  refine WC.loop (T := A16_Int × Int) (fun t => [e17, e18, (6, (iv t.2))]) (fun n t w1 => St NoS w w1 e21 [blk g24 (.cells #[(.int .u64 t.1.e0), (.int .u64 t.1.e1), (.int .u64 t.1.e2), (.int .u64 t.1.e3), (.int .u64 t.1.e4), (.int .u64 t.1.e5), (.int .u64 t.1.e6), (.int .u64 t.1.e7), (.int .u64 t.1.e8), (.int .u64 t.1.e9), (.int .u64 t.1.e10), (.int .u64 t.1.e11), (.int .u64 t.1.e12), (.int .u64 t.1.e13), (.int .u64 t.1.e14), (.int .u64 t.1.e15)] 85 (0, 0))] ∧ strip_Rows.l1 n t.1 t.2 p0 = some x47) k (x29, 0) [0, 4, 6] rfl ⟨(hS42.subR [0]).sub [0] (by decide), hx48⟩ ?_
  rintro k49 ⟨a45, x46⟩ w50 ⟨hS51, hl52⟩
  let e19 : Nat × Value := (6, (iv x46))
  cases k49 with
  | zero => rw [strip_Rows.l1] at hl52; cases hl52
  | succ k49 =>
   rw [strip_Rows.l1] at hl52
   refine WC.seq (WC.seq (WC.region ?_))
   refine seg 2 [] [0, 4, 6, 23] [e17, e18, e19, (23, (bv (decide (x46 ≤ 1000))))] [] (fun fb => by kernel_rfl) rfl trivial ?_
   refine WL.done rfl (WX.next ?_)
   rcases br_some hl52 with ⟨h53, hl52⟩ | ⟨h53, hl52⟩
   ·refine WC.condT2 (fun fb => by kernel_rfl) h53 ?_
    refine WC.skip (WX.next (WC.seq (WC.block (WC.seq (WC.region ?_)))))
    refine WL.new hS51 7 [] (fun g => (pt g)) (.cells #[(.int .u64 0), (.int .u64 0), (.int .u64 0), (.int .u64 0), (.int .u64 0), (.int .u64 0), (.int .u64 0), (.int .u64 0), (.int .u64 0), (.int .u64 0), (.int .u64 0), (.int .u64 0), (.int .u64 0), (.int .u64 0), (.int .u64 0), (.int .u64 0)] 85 (0, 0)) [] (fun fb g => by kernel_rfl) trivial (fun g54 w55 hS56 => ?_)
    refine ⟨trivial, ?_⟩
    refine WL.done rfl (WX.next (WC.seq (WC.region ?_)))
    refine seg 1 [] [0, 4, 6, 7, 8] [e17, e18, e19, (7, (pt g54)), e26] [] (fun fb => by kernel_rfl) rfl trivial ?_
    refine WL.done rfl (WX.next (WC.seq (WC.seq (WC.region ?_))))
    refine seg 3 [] e22 [e17, e18, e19, (7, (pt g54)), e26, e23, e20, (28, (iv 0))] [] (fun fb => by kernel_rfl) rfl trivial ?_
    refine WL.done rfl (WX.next ?_)
    obtain ⟨x59, hx60, hl52⟩ := bind_some hl52
    let e29 : Nat × Value := (7, (pt g54))
    refine WC.cutN (T := A16_Int) (fun t => [e17, e18, e19, e29, e26]) (fun t w1 => St NoS w w1 e21 [blk g24 (.cells #[(.int .u64 a45.e0), (.int .u64 a45.e1), (.int .u64 a45.e2), (.int .u64 a45.e3), (.int .u64 a45.e4), (.int .u64 a45.e5), (.int .u64 a45.e6), (.int .u64 a45.e7), (.int .u64 a45.e8), (.int .u64 a45.e9), (.int .u64 a45.e10), (.int .u64 a45.e11), (.int .u64 a45.e12), (.int .u64 a45.e13), (.int .u64 a45.e14), (.int .u64 a45.e15)] 85 (0, 0)), blk g54 (.cells #[(.int .u64 t.e0), (.int .u64 t.e1), (.int .u64 t.e2), (.int .u64 t.e3), (.int .u64 t.e4), (.int .u64 t.e5), (.int .u64 t.e6), (.int .u64 t.e7), (.int .u64 t.e8), (.int .u64 t.e9), (.int .u64 t.e10), (.int .u64 t.e11), (.int .u64 t.e12), (.int .u64 t.e13), (.int .u64 t.e14), (.int .u64 t.e15)] 85 (0, 0))] ∧ x59 = t) (fun Kx59 => ?_) ?_
    ·
     refine WC.block ?_
     refine WC.loop (T := A16_Int × Int) (fun t => [e17, e18, e19, e29, e26, e23, e20, (28, (iv t.2))]) (fun n t w1 => St NoS w w1 e21 [blk g24 (.cells #[(.int .u64 a45.e0), (.int .u64 a45.e1), (.int .u64 a45.e2), (.int .u64 a45.e3), (.int .u64 a45.e4), (.int .u64 a45.e5), (.int .u64 a45.e6), (.int .u64 a45.e7), (.int .u64 a45.e8), (.int .u64 a45.e9), (.int .u64 a45.e10), (.int .u64 a45.e11), (.int .u64 a45.e12), (.int .u64 a45.e13), (.int .u64 a45.e14), (.int .u64 a45.e15)] 85 (0, 0)), blk g54 (.cells #[(.int .u64 t.1.e0), (.int .u64 t.1.e1), (.int .u64 t.1.e2), (.int .u64 t.1.e3), (.int .u64 t.1.e4), (.int .u64 t.1.e5), (.int .u64 t.1.e6), (.int .u64 t.1.e7), (.int .u64 t.1.e8), (.int .u64 t.1.e9), (.int .u64 t.1.e10), (.int .u64 t.1.e11), (.int .u64 t.1.e12), (.int .u64 t.1.e13), (.int .u64 t.1.e14), (.int .u64 t.1.e15)] 85 (0, 0))] ∧ strip_Rows.l2 n t.1 t.2 p0 a45 = some x59) k49 ((A16_Int.mk 0 0 0 0 0 0 0 0 0 0 0 0 0 0 0 0), 0) e22 rfl ⟨(hS56.subR [0]).sub [1, 0] (by decide), hx60⟩ ?_
     rintro k61 ⟨a57, x58⟩ w62 ⟨hS63, hl65⟩
     let e16 := rdD p0 x58 z_Tile
     let e24 : Array Value := #[(iv (e16.N)), (iv (e16.E)), (iv (e16.S)), (iv (e16.W))]
     let e25 := (adr Aa).add ((x58).toNat * 4)
     let e31 := iv (e16.E)
     let e32 := iv (e16.W)
     cases k61 with
     | zero => rw [strip_Rows.l2] at hl65; cases hl65
     | succ k61 =>
      rw [strip_Rows.l2] at hl65
      refine WC.seq (WC.region ?_)
      refine seg 1 [] [0, 4, 6, 7, 8, 26, 27, 28, 29] [e17, e18, e19, e29, e26, e23, e20, (28, (iv x58)), (29, (bv (decide (x58 < (p0.length : Int)))))] [] (fun fb => by kernel_rfl) rfl trivial ?_
      refine WL.done rfl (WX.next (WC.seq ?_))
      rcases br_some hl65 with ⟨h66, hl65⟩ | ⟨h66, hl65⟩
      ·refine WC.condT2 (fun fb => by kernel_rfl) h66 ?_
       refine WC.skip (WX.next (WC.seq (WC.block (WC.seq (WC.region ?_)))))
       obtain ⟨h67, hl65⟩ := as_some hl65
       refine seg 2 [.v (iv (e16.N)), .v e31, .v (iv (e16.S)), .v e32] [0, 4, 6, 7, 8, 26, 27, 28, 31] [e17, e18, e19, e29, e26, e23, e20, (28, (iv x58)), (31, (.agg e24))] [.idx Aa x58 p0.length, .cell e25 (iv (e16.N)), .cell (e25.add 1) e31, .cell (e25.add 2) (iv (e16.S)), .cell (e25.add 3) e32] (fun fb => by kernel_rfl) rfl ⟨rowR.adr (hS63.rd 0).1 h67.1 h67.2, rowR.cell (hS63.rd 0).1 z_Tile h67.1 h67.2 0 rfl, rowR.cell (hS63.rd 0).1 z_Tile h67.1 h67.2 1 rfl, rowR.cell (hS63.rd 0).1 z_Tile h67.1 h67.2 2 rfl, rowR.cell (hS63.rd 0).1 z_Tile h67.1 h67.2 3 rfl, trivial⟩ ?_
       refine WL.new hS63 10 [] (fun g => (pt g)) (.cells #[(iv 0), (iv 0), (iv 0), (iv 0)] 32 (0, 0)) [] (fun fb g => by kernel_rfl) trivial (fun g68 w69 hS70 => ?_)
       refine ⟨trivial, ?_⟩
       refine WL.store hS70 0 rfl [(0, (iv (e16.N))), (1, e31), (2, (iv (e16.S))), (3, e32)] e24 (fun fb => by kernel_rfl) (by kernel_rfl) rfl [1, 2] (by decide) (by decide) (fun w71 hS72 => ?_)
       refine ⟨trivial, ?_⟩
       refine WL.done rfl (WX.next (WC.seq (WC.region ?_)))
       refine seg 2 [.v e31] [0, 4, 6, 7, 8, 10, 26, 27, 28, 33] [e17, e18, e19, e29, e26, (10, (pt g68)), e23, e20, (28, (iv x58)), (33, e31)] [.cell ⟨g68, 1, none⟩ e31] (fun fb => by kernel_rfl) rfl ⟨hS72.cell 0 rfl 1 rfl, trivial⟩ ?_
       obtain ⟨t73, ht74, hl65⟩ := bind_some hl65
       refine WL.call (some 34) 35 #[(pt g24), e31] (fun fb => by kernel_rfl) (strip_colours_has_calls a45 (e16.E) g24 t73 _ (hS72.ow 1) ht74) (fun v w75 hR76 => ?_)
       obtain ⟨rfl, hk_⟩ := hR76
       have hS77 := hS72.keepN hk_
       refine ⟨trivial, ?_⟩
       refine WL.done rfl (WX.next ?_)
       obtain ⟨x78, hx79, hl65⟩ := bind_some hl65
       refine WC.cutN (T := A16_Int) (fun t => [e17, e18, e19, e29, e26, e23, e20, (28, (iv x58))]) (fun t w1 => St NoS w w1 e21 [blk g24 (.cells #[(.int .u64 a45.e0), (.int .u64 a45.e1), (.int .u64 a45.e2), (.int .u64 a45.e3), (.int .u64 a45.e4), (.int .u64 a45.e5), (.int .u64 a45.e6), (.int .u64 a45.e7), (.int .u64 a45.e8), (.int .u64 a45.e9), (.int .u64 a45.e10), (.int .u64 a45.e11), (.int .u64 a45.e12), (.int .u64 a45.e13), (.int .u64 a45.e14), (.int .u64 a45.e15)] 85 (0, 0)), blk g54 (.cells #[(.int .u64 t.e0), (.int .u64 t.e1), (.int .u64 t.e2), (.int .u64 t.e3), (.int .u64 t.e4), (.int .u64 t.e5), (.int .u64 t.e6), (.int .u64 t.e7), (.int .u64 t.e8), (.int .u64 t.e9), (.int .u64 t.e10), (.int .u64 t.e11), (.int .u64 t.e12), (.int .u64 t.e13), (.int .u64 t.e14), (.int .u64 t.e15)] 85 (0, 0))] ∧ x78 = t) (fun Kx78 => ?_) ?_
       ·
        rcases br_some hx79 with ⟨h80, hx79⟩ | ⟨h80, hx79⟩
        ·refine WC.condT2 (fun fb => by kernel_rfl) h80 ?_
         refine WC.region ?_
         refine seg 2 [.v e32] [0, 4, 6, 7, 8, 26, 27, 28, 36] [e17, e18, e19, e29, e26, e23, e20, (28, (iv x58)), (36, e32)] [.cell ⟨g68, 3, none⟩ e32] (fun fb => by kernel_rfl) rfl ⟨hS77.cell 0 rfl 3 rfl, trivial⟩ ?_
         obtain ⟨t81, ht82, hx79⟩ := bind_some hx79
         refine WL.call (some 37) 34 #[(pt g54), e32] (fun fb => by kernel_rfl) (strip_colours_put_calls a57 (e16.W) g54 t81 _ (hS77.io [2] (by decide)) ht82) (fun v w83 hR84 => ?_)
         obtain ⟨rfl, hk_⟩ := hR84
         have hS85 := hS.go w83 [blk g54 (.cells #[(.int .u64 t81.e0), (.int .u64 t81.e1), (.int .u64 t81.e2), (.int .u64 t81.e3), (.int .u64 t81.e4), (.int .u64 t81.e5), (.int .u64 t81.e6), (.int .u64 t81.e7), (.int .u64 t81.e8), (.int .u64 t81.e9), (.int .u64 t81.e10), (.int .u64 t81.e11), (.int .u64 t81.e12), (.int .u64 t81.e13), (.int .u64 t81.e14), (.int .u64 t81.e15)] 85 (0, 0)), blk g68 (.cells e24 32 (0, 0)), blk g24 (.cells #[(.int .u64 a45.e0), (.int .u64 a45.e1), (.int .u64 a45.e2), (.int .u64 a45.e3), (.int .u64 a45.e4), (.int .u64 a45.e5), (.int .u64 a45.e6), (.int .u64 a45.e7), (.int .u64 a45.e8), (.int .u64 a45.e9), (.int .u64 a45.e10), (.int .u64 a45.e11), (.int .u64 a45.e12), (.int .u64 a45.e13), (.int .u64 a45.e14), (.int .u64 a45.e15)] 85 (0, 0))] (hS77.call hk_ [2] [0, 1] (fun g hg => fpL_sel g hg) (by decide) (by decide))
         refine ⟨trivial, ?_⟩
         refine WL.done rfl ?_
         injection hx79 with hx79
         exact WX.to Kx78 t81 e22 rfl ⟨(hS85.subR [0]).sub [2, 0] (by decide), hx79.symm⟩
        refine WC.condF2 (fun fb => by kernel_rfl) h80 ?_
        refine WC.skip ?_
        injection hx79 with hx79
        exact WX.to Kx78 a57 e22 rfl ⟨(hS77.subR [0]).sub [1, 2] (by decide), hx79.symm⟩
       rintro y89 w86 ⟨hS87, hq88⟩
       subst hq88
       refine WX.blockN (WX.next ?_)
       refine WC.region ?_
       refine seg 2 [] e22 [e17, e18, e19, e29, e26, e23, e20, (28, (iv (w64 (x58 + 1))))] [] (fun fb => by kernel_rfl) rfl trivial ?_
       refine WL.done rfl ?_
       exact WX.again k61 (Nat.lt_succ_self _) (x78, w64 (x58 + 1)) e22 rfl ⟨(hS87.subR [0]).sub [0, 1] (by decide), hl65⟩
      refine WC.condF2 (fun fb => by kernel_rfl) h66 ?_
      refine WC.exit ?_
      injection hl65 with hl65
      exact WX.thenX (WX.thenX (WX.blockHere (WX.to Kx59 a57 [0, 4, 6, 7, 8] rfl ⟨(hS63.subR [0]).sub [0, 1] (by decide), hl65.symm⟩)))
    rintro y93 w90 ⟨hS91, hq92⟩
    subst hq92
    refine WX.next (WC.seq (WC.seq (WC.region ?_)))
    refine seg 2 [.v (.int .u64 x59.e0), .v (.int .u64 x59.e1), .v (.int .u64 x59.e2), .v (.int .u64 x59.e3), .v (.int .u64 x59.e4), .v (.int .u64 x59.e5), .v (.int .u64 x59.e6), .v (.int .u64 x59.e7), .v (.int .u64 x59.e8), .v (.int .u64 x59.e9), .v (.int .u64 x59.e10), .v (.int .u64 x59.e11), .v (.int .u64 x59.e12), .v (.int .u64 x59.e13), .v (.int .u64 x59.e14), .v (.int .u64 x59.e15)] e27 [e17, e18, e19, e29, e26, (39, (.agg #[(.int .u64 x59.e0), (.int .u64 x59.e1), (.int .u64 x59.e2), (.int .u64 x59.e3), (.int .u64 x59.e4), (.int .u64 x59.e5), (.int .u64 x59.e6), (.int .u64 x59.e7), (.int .u64 x59.e8), (.int .u64 x59.e9), (.int .u64 x59.e10), (.int .u64 x59.e11), (.int .u64 x59.e12), (.int .u64 x59.e13), (.int .u64 x59.e14), (.int .u64 x59.e15)])), (40, (iv 0))] [.cell ⟨g54, 0, none⟩ (.int .u64 x59.e0), .cell ⟨g54, 1, none⟩ (.int .u64 x59.e1), .cell ⟨g54, 2, none⟩ (.int .u64 x59.e2), .cell ⟨g54, 3, none⟩ (.int .u64 x59.e3), .cell ⟨g54, 4, none⟩ (.int .u64 x59.e4), .cell ⟨g54, 5, none⟩ (.int .u64 x59.e5), .cell ⟨g54, 6, none⟩ (.int .u64 x59.e6), .cell ⟨g54, 7, none⟩ (.int .u64 x59.e7), .cell ⟨g54, 8, none⟩ (.int .u64 x59.e8), .cell ⟨g54, 9, none⟩ (.int .u64 x59.e9), .cell ⟨g54, 10, none⟩ (.int .u64 x59.e10), .cell ⟨g54, 11, none⟩ (.int .u64 x59.e11), .cell ⟨g54, 12, none⟩ (.int .u64 x59.e12), .cell ⟨g54, 13, none⟩ (.int .u64 x59.e13), .cell ⟨g54, 14, none⟩ (.int .u64 x59.e14), .cell ⟨g54, 15, none⟩ (.int .u64 x59.e15)] (fun fb => by kernel_rfl) rfl ⟨hS91.cell 1 rfl 0 rfl, hS91.cell 1 rfl 1 rfl, hS91.cell 1 rfl 2 rfl, hS91.cell 1 rfl 3 rfl, hS91.cell 1 rfl 4 rfl, hS91.cell 1 rfl 5 rfl, hS91.cell 1 rfl 6 rfl, hS91.cell 1 rfl 7 rfl, hS91.cell 1 rfl 8 rfl, hS91.cell 1 rfl 9 rfl, hS91.cell 1 rfl 10 rfl, hS91.cell 1 rfl 11 rfl, hS91.cell 1 rfl 12 rfl, hS91.cell 1 rfl 13 rfl, hS91.cell 1 rfl 14 rfl, hS91.cell 1 rfl 15 rfl, trivial⟩ ?_
    refine WL.done rfl (WX.next ?_)
    obtain ⟨x96, hx97, hl52⟩ := bind_some hl52
    refine WC.cutN (T := Int) (fun t => [e17, e18, e19, e29, (8, (iv t))]) (fun t w1 => St NoS w w1 e21 [blk g24 (.cells #[(.int .u64 a45.e0), (.int .u64 a45.e1), (.int .u64 a45.e2), (.int .u64 a45.e3), (.int .u64 a45.e4), (.int .u64 a45.e5), (.int .u64 a45.e6), (.int .u64 a45.e7), (.int .u64 a45.e8), (.int .u64 a45.e9), (.int .u64 a45.e10), (.int .u64 a45.e11), (.int .u64 a45.e12), (.int .u64 a45.e13), (.int .u64 a45.e14), (.int .u64 a45.e15)] 85 (0, 0)), blk g54 (.cells #[(.int .u64 x59.e0), (.int .u64 x59.e1), (.int .u64 x59.e2), (.int .u64 x59.e3), (.int .u64 x59.e4), (.int .u64 x59.e5), (.int .u64 x59.e6), (.int .u64 x59.e7), (.int .u64 x59.e8), (.int .u64 x59.e9), (.int .u64 x59.e10), (.int .u64 x59.e11), (.int .u64 x59.e12), (.int .u64 x59.e13), (.int .u64 x59.e14), (.int .u64 x59.e15)] 85 (0, 0))] ∧ x96 = t) (fun Kx96 => ?_) ?_
    ·
     refine WC.block ?_
     refine WC.loop (T := Int × Int) (fun t => [e17, e18, e19, e29, (8, (iv t.1)), (39, (.agg #[(.int .u64 x59.e0), (.int .u64 x59.e1), (.int .u64 x59.e2), (.int .u64 x59.e3), (.int .u64 x59.e4), (.int .u64 x59.e5), (.int .u64 x59.e6), (.int .u64 x59.e7), (.int .u64 x59.e8), (.int .u64 x59.e9), (.int .u64 x59.e10), (.int .u64 x59.e11), (.int .u64 x59.e12), (.int .u64 x59.e13), (.int .u64 x59.e14), (.int .u64 x59.e15)])), (40, (iv t.2))]) (fun n t w1 => St NoS w w1 e21 [blk g24 (.cells #[(.int .u64 a45.e0), (.int .u64 a45.e1), (.int .u64 a45.e2), (.int .u64 a45.e3), (.int .u64 a45.e4), (.int .u64 a45.e5), (.int .u64 a45.e6), (.int .u64 a45.e7), (.int .u64 a45.e8), (.int .u64 a45.e9), (.int .u64 a45.e10), (.int .u64 a45.e11), (.int .u64 a45.e12), (.int .u64 a45.e13), (.int .u64 a45.e14), (.int .u64 a45.e15)] 85 (0, 0)), blk g54 (.cells #[(.int .u64 x59.e0), (.int .u64 x59.e1), (.int .u64 x59.e2), (.int .u64 x59.e3), (.int .u64 x59.e4), (.int .u64 x59.e5), (.int .u64 x59.e6), (.int .u64 x59.e7), (.int .u64 x59.e8), (.int .u64 x59.e9), (.int .u64 x59.e10), (.int .u64 x59.e11), (.int .u64 x59.e12), (.int .u64 x59.e13), (.int .u64 x59.e14), (.int .u64 x59.e15)] 85 (0, 0))] ∧ strip_Rows.l3 n t.1 t.2 x59 = some x96) k49 (0, 0) e27 rfl ⟨(hS91.subR [0]).sub [0, 1] (by decide), hx97⟩ ?_
     rintro k98 ⟨x94, x95⟩ w99 ⟨hS100, hl101⟩
     let e33 := A16_Int.get x59 x95
     cases k98 with
     | zero => rw [strip_Rows.l3] at hl101; cases hl101
     | succ k98 =>
      rw [strip_Rows.l3] at hl101
      refine WC.seq (WC.region ?_)
      refine seg 1 [] [0, 4, 6, 7, 8, 39, 40, 41] [e17, e18, e19, e29, (8, (iv x94)), (39, (.agg #[(.int .u64 x59.e0), (.int .u64 x59.e1), (.int .u64 x59.e2), (.int .u64 x59.e3), (.int .u64 x59.e4), (.int .u64 x59.e5), (.int .u64 x59.e6), (.int .u64 x59.e7), (.int .u64 x59.e8), (.int .u64 x59.e9), (.int .u64 x59.e10), (.int .u64 x59.e11), (.int .u64 x59.e12), (.int .u64 x59.e13), (.int .u64 x59.e14), (.int .u64 x59.e15)])), (40, (iv x95)), (41, (bv (decide (x95 < 16))))] [] (fun fb => by kernel_rfl) rfl trivial ?_
      refine WL.done rfl (WX.next (WC.seq ?_))
      rcases br_some hl101 with ⟨h102, hl101⟩ | ⟨h102, hl101⟩
      ·refine WC.condT2 (fun fb => by kernel_rfl) h102 ?_
       refine WC.skip (WX.next (WC.seq (WC.block (WC.seq (WC.region ?_)))))
       obtain ⟨h103, hl101⟩ := as_some hl101
       refine seg 2 [] [0, 4, 6, 7, 8, 12, 39, 40] [e17, e18, e19, e29, (8, (iv x94)), (12, (.int .u64 e33)), (39, (.agg #[(.int .u64 x59.e0), (.int .u64 x59.e1), (.int .u64 x59.e2), (.int .u64 x59.e3), (.int .u64 x59.e4), (.int .u64 x59.e5), (.int .u64 x59.e6), (.int .u64 x59.e7), (.int .u64 x59.e8), (.int .u64 x59.e9), (.int .u64 x59.e10), (.int .u64 x59.e11), (.int .u64 x59.e12), (.int .u64 x59.e13), (.int .u64 x59.e14), (.int .u64 x59.e15)])), (40, (iv x95))] [.idx (some ⟨0, 0, none⟩) x95 16] (fun fb => by kernel_rfl) rfl ⟨⟨h103.1, h103.2, rfl⟩, trivial⟩ ?_
       refine WL.done rfl (WX.next (WC.region ?_))
       refine seg 2 [] [0, 4, 6, 7, 39, 40, 43, 44] [e17, e18, e19, e29, (39, (.agg #[(.int .u64 x59.e0), (.int .u64 x59.e1), (.int .u64 x59.e2), (.int .u64 x59.e3), (.int .u64 x59.e4), (.int .u64 x59.e5), (.int .u64 x59.e6), (.int .u64 x59.e7), (.int .u64 x59.e8), (.int .u64 x59.e9), (.int .u64 x59.e10), (.int .u64 x59.e11), (.int .u64 x59.e12), (.int .u64 x59.e13), (.int .u64 x59.e14), (.int .u64 x59.e15)])), (40, (iv x95)), (43, (iv x94)), (44, (.int .u64 e33))] [] (fun fb => by kernel_rfl) rfl trivial ?_
       obtain ⟨t104, ht105, hl101⟩ := bind_some hl101
       refine WL.call (some 45) 36 #[(.int .u64 e33)] (fun fb => by kernel_rfl) (bits_OnesCount64_calls e33 t104 _ ht105) (fun v w106 hR107 => ?_)
       obtain ⟨rfl, hk_⟩ := hR107
       have hS108 := hS100.keepN hk_
       refine ⟨trivial, ?_⟩
       refine seg 5 [] e27 [e17, e18, e19, e29, (8, (iv (w64 (x94 + t104)))), (39, (.agg #[(.int .u64 x59.e0), (.int .u64 x59.e1), (.int .u64 x59.e2), (.int .u64 x59.e3), (.int .u64 x59.e4), (.int .u64 x59.e5), (.int .u64 x59.e6), (.int .u64 x59.e7), (.int .u64 x59.e8), (.int .u64 x59.e9), (.int .u64 x59.e10), (.int .u64 x59.e11), (.int .u64 x59.e12), (.int .u64 x59.e13), (.int .u64 x59.e14), (.int .u64 x59.e15)])), (40, (iv x95))] [] (fun fb => by kernel_rfl) rfl trivial ?_
       refine WL.done rfl ?_
       refine WX.blockN (WX.next ?_)
       refine WC.region ?_
       refine seg 2 [] e27 [e17, e18, e19, e29, (8, (iv (w64 (x94 + t104)))), (39, (.agg #[(.int .u64 x59.e0), (.int .u64 x59.e1), (.int .u64 x59.e2), (.int .u64 x59.e3), (.int .u64 x59.e4), (.int .u64 x59.e5), (.int .u64 x59.e6), (.int .u64 x59.e7), (.int .u64 x59.e8), (.int .u64 x59.e9), (.int .u64 x59.e10), (.int .u64 x59.e11), (.int .u64 x59.e12), (.int .u64 x59.e13), (.int .u64 x59.e14), (.int .u64 x59.e15)])), (40, (iv (w64 (x95 + 1))))] [] (fun fb => by kernel_rfl) rfl trivial ?_
       refine WL.done rfl ?_
       exact WX.again k98 (Nat.lt_succ_self _) (w64 (x94 + t104), w64 (x95 + 1)) e27 rfl ⟨(hS108.subR [0]).sub [0, 1] (by decide), hl101⟩
      refine WC.condF2 (fun fb => by kernel_rfl) h102 ?_
      refine WC.exit ?_
      injection hl101 with hl101
      exact WX.thenX (WX.thenX (WX.blockHere (WX.to Kx96 x94 [0, 4, 6, 7, 8] rfl ⟨(hS100.subR [0]).sub [0, 1] (by decide), hl101.symm⟩)))
    rintro y112 w109 ⟨hS110, hq111⟩
    subst hq111
    refine WX.next (WC.seq (WC.seq (WC.region ?_)))
    refine seg 2 [] [0, 4, 6, 7, 49] [e17, e18, e19, e29, (49, (bv (x96 == 0)))] [] (fun fb => by kernel_rfl) rfl trivial ?_
    refine WL.done rfl (WX.next ?_)
    rcases br_some hl52 with ⟨h113, hl52⟩ | ⟨h113, hl52⟩
    ·refine WC.condT2 (fun fb => by kernel_rfl) h113 ?_
     refine WC.seq (WC.region ?_)
     refine seg 3 [] [2, 3] [(2, (iv x46)), (3, (iv 0))] [] (fun fb => by kernel_rfl) rfl trivial ?_
     refine WL.done rfl (WX.next ?_)
     refine WC.ret ?_
     injection hl52 with hl52
     subst hl52
     injection hf with hf
     subst hf
     exact WX.thenR (WX.blockR (WX.thenR (WX.thenR (WX.blockR (WX.thenR (WX.ret_ [] (.tuple #[(iv x46), (iv 0)]) [] (fun fb => by kernel_rfl) trivial ⟨_, rfl, rfl, hS110.keep⟩))))))
    refine WC.condF2 (fun fb => by kernel_rfl) h113 ?_
    refine WC.skip (WX.next (WC.region ?_))
    refine seg 1 [.v (.int .u64 x59.e0), .v (.int .u64 x59.e1), .v (.int .u64 x59.e2), .v (.int .u64 x59.e3), .v (.int .u64 x59.e4), .v (.int .u64 x59.e5), .v (.int .u64 x59.e6), .v (.int .u64 x59.e7), .v (.int .u64 x59.e8), .v (.int .u64 x59.e9), .v (.int .u64 x59.e10), .v (.int .u64 x59.e11), .v (.int .u64 x59.e12), .v (.int .u64 x59.e13), .v (.int .u64 x59.e14), .v (.int .u64 x59.e15)] [0, 4, 6, 51] [e17, e18, e19, (51, (.agg #[(.int .u64 x59.e0), (.int .u64 x59.e1), (.int .u64 x59.e2), (.int .u64 x59.e3), (.int .u64 x59.e4), (.int .u64 x59.e5), (.int .u64 x59.e6), (.int .u64 x59.e7), (.int .u64 x59.e8), (.int .u64 x59.e9), (.int .u64 x59.e10), (.int .u64 x59.e11), (.int .u64 x59.e12), (.int .u64 x59.e13), (.int .u64 x59.e14), (.int .u64 x59.e15)]))] [.cell ⟨g54, 0, none⟩ (.int .u64 x59.e0), .cell ⟨g54, 1, none⟩ (.int .u64 x59.e1), .cell ⟨g54, 2, none⟩ (.int .u64 x59.e2), .cell ⟨g54, 3, none⟩ (.int .u64 x59.e3), .cell ⟨g54, 4, none⟩ (.int .u64 x59.e4), .cell ⟨g54, 5, none⟩ (.int .u64 x59.e5), .cell ⟨g54, 6, none⟩ (.int .u64 x59.e6), .cell ⟨g54, 7, none⟩ (.int .u64 x59.e7), .cell ⟨g54, 8, none⟩ (.int .u64 x59.e8), .cell ⟨g54, 9, none⟩ (.int .u64 x59.e9), .cell ⟨g54, 10, none⟩ (.int .u64 x59.e10), .cell ⟨g54, 11, none⟩ (.int .u64 x59.e11), .cell ⟨g54, 12, none⟩ (.int .u64 x59.e12), .cell ⟨g54, 13, none⟩ (.int .u64 x59.e13), .cell ⟨g54, 14, none⟩ (.int .u64 x59.e14), .cell ⟨g54, 15, none⟩ (.int .u64 x59.e15)] (fun fb => by kernel_rfl) rfl ⟨hS110.cell 1 rfl 0 rfl, hS110.cell 1 rfl 1 rfl, hS110.cell 1 rfl 2 rfl, hS110.cell 1 rfl 3 rfl, hS110.cell 1 rfl 4 rfl, hS110.cell 1 rfl 5 rfl, hS110.cell 1 rfl 6 rfl, hS110.cell 1 rfl 7 rfl, hS110.cell 1 rfl 8 rfl, hS110.cell 1 rfl 9 rfl, hS110.cell 1 rfl 10 rfl, hS110.cell 1 rfl 11 rfl, hS110.cell 1 rfl 12 rfl, hS110.cell 1 rfl 13 rfl, hS110.cell 1 rfl 14 rfl, hS110.cell 1 rfl 15 rfl, trivial⟩ ?_
    refine WL.store hS110 0 rfl [(0, (.int .u64 x59.e0)), (1, (.int .u64 x59.e1)), (2, (.int .u64 x59.e2)), (3, (.int .u64 x59.e3)), (4, (.int .u64 x59.e4)), (5, (.int .u64 x59.e5)), (6, (.int .u64 x59.e6)), (7, (.int .u64 x59.e7)), (8, (.int .u64 x59.e8)), (9, (.int .u64 x59.e9)), (10, (.int .u64 x59.e10)), (11, (.int .u64 x59.e11)), (12, (.int .u64 x59.e12)), (13, (.int .u64 x59.e13)), (14, (.int .u64 x59.e14)), (15, (.int .u64 x59.e15))] #[(.int .u64 x59.e0), (.int .u64 x59.e1), (.int .u64 x59.e2), (.int .u64 x59.e3), (.int .u64 x59.e4), (.int .u64 x59.e5), (.int .u64 x59.e6), (.int .u64 x59.e7), (.int .u64 x59.e8), (.int .u64 x59.e9), (.int .u64 x59.e10), (.int .u64 x59.e11), (.int .u64 x59.e12), (.int .u64 x59.e13), (.int .u64 x59.e14), (.int .u64 x59.e15)] (fun fb => by kernel_rfl) (by kernel_rfl) (by kernel_rfl) [1] (by decide) (by decide) (fun w114 hS115 => ?_)
    refine ⟨trivial, ?_⟩
    refine WL.done rfl ?_
    refine WX.blockN (WX.next ?_)
    refine WC.region ?_
    refine seg 3 [] [0, 4, 6] [e17, e18, (6, (iv (w64 (x46 + 1))))] [] (fun fb => by kernel_rfl) rfl trivial ?_
    refine WL.done rfl ?_
    exact WX.again k49 (Nat.lt_succ_self _) (x59, w64 (x46 + 1)) [0, 4, 6] rfl ⟨(hS115.subR [0]).sub [0] (by decide), hl52⟩
   refine WC.condF2 (fun fb => by kernel_rfl) h53 ?_
   refine WC.exit ?_
   injection hl52 with hl52
   exact WX.thenX (WX.thenX (WX.blockHere (WX.to Kx47 () [] rfl ⟨(hS51.subR [0]).sub [] (by decide), hl52.symm⟩)))
 rintro y119 w116 ⟨hS117, hq118⟩
 subst hq118
 have hf := sum_inr hf
 refine WX.next (WC.seq (WC.region ?_))
 refine seg 2 [] [2, 3] [(2, (iv 0)), (3, (iv 6))] [] (fun fb => by kernel_rfl) rfl trivial ?_
 refine WL.done rfl (WX.next ?_)
 refine WC.ret ?_
 injection hf with hf
 subst hf
 exact WX.ret_ [] (.tuple #[(iv 0), (iv 6)]) [] (fun fb => by kernel_rfl) trivial ⟨_, rfl, rfl, hS117.keep⟩
theorem strip_north_calls (p0 : Tile)  (r : Int) (w : World)  (hf : strip_north p0 = some r) :
  CallsR Tryz.prog 52 #[(.agg #[(iv p0.N), (iv p0.E), (iv p0.S), (iv p0.W)])] w (fun v w' => v = (iv r) ∧ Keeps NoS w w') := by
 have hS : St NoS w w [] [] := St.init (ro_nil _ _)
 refine enter 5 Tryz.func52 rfl Tryz.ntmps52 rfl ?_
 unfold strip_north at hf
 refine WC.seq (WC.region ?_)
 refine WL.new hS 1 [] (fun g => (pt g)) (.cells #[(iv p0.N), (iv p0.E), (iv p0.S), (iv p0.W)] 32 (0, 0)) [] (fun fb g => by kernel_rfl) trivial (fun g1 w2 hS3 => ?_)
 refine ⟨trivial, ?_⟩
 refine seg 2 [] [1] [(1, (pt g1))] [] (fun fb => by kernel_rfl) rfl trivial ?_
 refine WL.done rfl (WX.next (WC.seq (WC.region ?_)))
 refine seg 3 [.v (iv p0.N)] [2] [(2, (iv p0.N))] [.cell ⟨g1, 0, none⟩ (iv p0.N)] (fun fb => by kernel_rfl) rfl ⟨hS3.cell 0 rfl 0 rfl, trivial⟩ ?_
 refine WL.done rfl (WX.next ?_)
 refine WC.ret ?_
 injection hf with hf
 subst hf
 exact WX.ret_ [] (iv p0.N) [] (fun fb => by kernel_rfl) trivial ⟨_, rfl, rfl, hS3.keep⟩
theorem strip_rest_colours_with_strip_north_key3 : KeyK Tryz.prog 3 (vI .i64) := KeyK.int (by kernel_rfl)
theorem strip_rest_colours_with_strip_north_calls (k : Nat) (p0 : Rest) (ga : Nat) (Aa : Option Addr) (ca : Nat) (Ab : Option Addr) (cb : Nat) (r : (List (Int × Bool))) (w : World) (hR0 : RO NoS w (blk ga (.cells #[(sv Aa p0.set ca), (sv Ab p0.left cb)] 90 (0, 0)))) (hR1 : RO NoS w (rowR enc_Tile Aa ca p0.set)) (hR2 : RO NoS w (rowR encInt Ab cb p0.left)) (hf : strip_rest_colours_with_strip_north k p0 = some r) :
  CallsR Tryz.prog 51 #[(pt ga), (.func (.func 52) #[] #[])] w (fun v w' => ∃ (g1_ : Nat), v = (.map (some g1_)) ∧ St NoS w w' [] [blk g1_ (mapObj (vI .i64) vB r)]) := by
 have hS : St NoS w w [blk ga (.cells #[(sv Aa p0.set ca), (sv Ab p0.left cb)] 90 (0, 0)), rowR enc_Tile Aa ca p0.set, rowR encInt Ab cb p0.left] [] := St.init (ro_cons hR0 (ro_cons hR1 (ro_cons hR2 (ro_nil _ _))))
 refine enter 30 Tryz.func51 rfl Tryz.ntmps51 rfl ?_
 unfold strip_rest_colours_with_strip_north at hf
 refine WC.seq (WC.region ?_)
 have hS4 := hS.go w [mapN (vI .i64) vB (none : Option Nat) ([] : List (Int × Bool))] (hS.mapnNil (vI .i64) vB)
 refine seg 1 [] [0, 1] [(0, (pt ga)), (1, (.func (.func 52) #[] #[]))] [] (fun fb => by kernel_rfl) rfl trivial ?_
 refine WL.done rfl (WX.next (WC.seq (WC.region ?_)))
 refine WL.new hS4 8 [] (fun g => (.map (some g))) (mapObj (vI .i64) vB ([] : List (Int × Bool))) [] (fun fb g => by kernel_rfl) trivial (fun g5 w6 hS7 => ?_)
 refine ⟨trivial, ?_⟩
 refine seg 2 [] [0, 1, 5] [(0, (pt ga)), (1, (.func (.func 52) #[] #[])), (5, (.map (some g5)))] [] (fun fb => by kernel_rfl) rfl trivial ?_
 refine WL.done rfl (WX.next (WC.seq (WC.seq (WC.region ?_))))
 refine seg 6 [.v (sv Ab p0.left cb)] [0, 1, 5, 12, 13, 14] [(0, (pt ga)), (1, (.func (.func 52) #[] #[])), (5, (.map (some g5))), (12, (sv Ab p0.left cb)), (13, (iv (p0.left.length : Int))), (14, (iv 0))] [.cell ⟨ga, 1, none⟩ (sv Ab p0.left cb)] (fun fb => by kernel_rfl) rfl ⟨blk_cell (hS7.rd 0).1 1 rfl, trivial⟩ ?_
 refine WL.done rfl (WX.next ?_)
 obtain ⟨x10, hx11, hf⟩ := bind_some hf
 let e2 : Nat × Value := (13, (iv (p0.left.length : Int)))
 let e4 := sv Ab p0.left cb
 let e6 := sv Aa p0.set ca
 refine WC.cutN (T := (List (Int × Bool))) (fun t => [(5, (.map (some g5)))]) (fun t w1 => St NoS w w1 [blk ga (.cells #[e6, e4] 90 (0, 0)), rowR enc_Tile Aa ca p0.set, rowR encInt Ab cb p0.left] [blk g5 (mapObj (vI .i64) vB t)] ∧ x10 = t) (fun Kx10 => ?_) ?_
 ·
  refine WC.block ?_
  refine WC.loop (T := (List (Int × Bool)) × Int) (fun t => [(0, (pt ga)), (1, (.func (.func 52) #[] #[])), (5, (.map (some g5))), (12, e4), e2, (14, (iv t.2))]) (fun n t w1 => St NoS w w1 [blk ga (.cells #[e6, e4] 90 (0, 0)), rowR enc_Tile Aa ca p0.set, rowR encInt Ab cb p0.left] [blk g5 (mapObj (vI .i64) vB t.1)] ∧ strip_rest_colours_with_strip_north.l0 n t.1 t.2 p0 = some x10) k (([] : List (Int × Bool)), 0) [0, 1, 5, 12, 13, 14] rfl ⟨(hS7.subR [0, 1, 2]).sub [0] (by decide), hx11⟩ ?_
  rintro k12 ⟨l8, x9⟩ w13 ⟨hS14, hl15⟩
  let e1 := rdD p0.set (rdD p0.left x9 0) z_Tile
  let e3 := (adr Aa).add (((rdD p0.left x9 0)).toNat * 4)
  let e5 := rdD p0.left x9 0
  cases k12 with
  | zero => rw [strip_rest_colours_with_strip_north.l0] at hl15; cases hl15
  | succ k12 =>
   rw [strip_rest_colours_with_strip_north.l0] at hl15
   refine WC.seq (WC.region ?_)
   refine seg 1 [] [0, 1, 5, 12, 13, 14, 15] [(0, (pt ga)), (1, (.func (.func 52) #[] #[])), (5, (.map (some g5))), (12, e4), e2, (14, (iv x9)), (15, (bv (decide (x9 < (p0.left.length : Int)))))] [] (fun fb => by kernel_rfl) rfl trivial ?_
   refine WL.done rfl (WX.next (WC.seq ?_))
   rcases br_some hl15 with ⟨h16, hl15⟩ | ⟨h16, hl15⟩
   ·refine WC.condT2 (fun fb => by kernel_rfl) h16 ?_
    refine WC.skip (WX.next (WC.seq (WC.block (WC.seq (WC.region ?_)))))
    obtain ⟨h17, hl15⟩ := as_some hl15
    refine seg 3 [.v (iv e5)] [0, 1, 5, 7, 12, 13, 14] [(0, (pt ga)), (1, (.func (.func 52) #[] #[])), (5, (.map (some g5))), (7, (iv e5)), (12, e4), e2, (14, (iv x9))] [.idx Ab x9 p0.left.length, .cell ((adr Ab).add ((x9).toNat * 1)) (iv e5)] (fun fb => by kernel_rfl) rfl ⟨rowR.adr (hS14.rd 2).1 h17.1 h17.2, rowR.cell (hS14.rd 2).1 0 h17.1 h17.2 0 rfl, trivial⟩ ?_
    refine WL.done rfl (WX.next (WC.region ?_))
    refine seg 7 [.v e6] [0, 1, 5, 12, 13, 14, 18, 19, 23, 24] [(0, (pt ga)), (1, (.func (.func 52) #[] #[])), (5, (.map (some g5))), (12, e4), e2, (14, (iv x9)), (18, (.map (some g5))), (19, (.func (.func 52) #[] #[])), (23, e6), (24, (iv e5))] [.cell ⟨ga, 0, none⟩ e6] (fun fb => by kernel_rfl) rfl ⟨blk_cell (hS14.rd 0).1 0 rfl, trivial⟩ ?_
    obtain ⟨h18, hl15⟩ := as_some hl15
    refine seg 9 [.v (iv (e1.N)), .v (iv (e1.E)), .v (iv (e1.S)), .v (iv (e1.W))] [0, 1, 5, 12, 13, 14, 18, 19, 26] [(0, (pt ga)), (1, (.func (.func 52) #[] #[])), (5, (.map (some g5))), (12, e4), e2, (14, (iv x9)), (18, (.map (some g5))), (19, (.func (.func 52) #[] #[])), (26, (.agg #[(iv (e1.N)), (iv (e1.E)), (iv (e1.S)), (iv (e1.W))]))] [.idx Aa e5 p0.set.length, .cell e3 (iv (e1.N)), .cell (e3.add 1) (iv (e1.E)), .cell (e3.add 2) (iv (e1.S)), .cell (e3.add 3) (iv (e1.W))] (fun fb => by kernel_rfl) rfl ⟨rowR.adr (hS14.rd 1).1 h18.1 h18.2, rowR.cell (hS14.rd 1).1 z_Tile h18.1 h18.2 0 rfl, rowR.cell (hS14.rd 1).1 z_Tile h18.1 h18.2 1 rfl, rowR.cell (hS14.rd 1).1 z_Tile h18.1 h18.2 2 rfl, rowR.cell (hS14.rd 1).1 z_Tile h18.1 h18.2 3 rfl, trivial⟩ ?_
    obtain ⟨t19, ht20, hl15⟩ := bind_some hl15
    refine WL.call (some 27) 52 #[(.agg #[(iv (e1.N)), (iv (e1.E)), (iv (e1.S)), (iv (e1.W))])] (fun fb => by kernel_rfl) (strip_north_calls e1 t19 _ ht20) (fun v w21 hR22 => ?_)
    obtain ⟨rfl, hk_⟩ := hR22
    have hS23 := hS14.keepN hk_
    refine ⟨trivial, ?_⟩
    refine WL.mapput hS23 0 (t := 107) (kT := 3) (eT := 4) (kE := (vI .i64)) (vE := vB) (l := l8) rfl t19 true (fun fb => by kernel_rfl) strip_rest_colours_with_strip_north_key3 (by kernel_rfl) [] (by decide) (by decide) (fun w24 hS25 => ?_)
    refine ⟨trivial, ?_⟩
    refine WL.done rfl ?_
    refine WX.blockN (WX.next ?_)
    refine WC.region ?_
    refine seg 2 [] [0, 1, 5, 12, 13, 14] [(0, (pt ga)), (1, (.func (.func 52) #[] #[])), (5, (.map (some g5))), (12, e4), e2, (14, (iv (w64 (x9 + 1))))] [] (fun fb => by kernel_rfl) rfl trivial ?_
    refine WL.done rfl ?_
    exact WX.again k12 (Nat.lt_succ_self _) (mput t19 true l8, w64 (x9 + 1)) [0, 1, 5, 12, 13, 14] rfl ⟨(hS25.subR [0, 1, 2]).sub [0] (by decide), hl15⟩
   refine WC.condF2 (fun fb => by kernel_rfl) h16 ?_
   refine WC.exit ?_
   injection hl15 with hl15
   exact WX.thenX (WX.thenX (WX.blockHere (WX.to Kx10 l8 [5] rfl ⟨(hS14.subR [0, 1, 2]).sub [0] (by decide), hl15.symm⟩)))
 rintro y29 w26 ⟨hS27, hq28⟩
 subst hq28
 refine WX.next (WC.seq (WC.region ?_))
 refine seg 2 [] [4] [(4, (.map (some g5)))] [] (fun fb => by kernel_rfl) rfl trivial ?_
 refine WL.done rfl (WX.next ?_)
 refine WC.ret ?_
 injection hf with hf
 subst hf
 exact WX.ret_ [] (.map (some g5)) [] (fun fb => by kernel_rfl) trivial ⟨_, rfl, g5, rfl, (hS27.sub [0] (by decide)).noR⟩
theorem strip_east_calls (p0 : Tile)  (r : Int) (w : World)  (hf : strip_east p0 = some r) :
  CallsR Tryz.prog 53 #[(.agg #[(iv p0.N), (iv p0.E), (iv p0.S), (iv p0.W)])] w (fun v w' => v = (iv r) ∧ Keeps NoS w w') := by
 have hS : St NoS w w [] [] := St.init (ro_nil _ _)
 refine enter 5 Tryz.func53 rfl Tryz.ntmps53 rfl ?_
 unfold strip_east at hf
 refine WC.seq (WC.region ?_)
 refine WL.new hS 1 [] (fun g => (pt g)) (.cells #[(iv p0.N), (iv p0.E), (iv p0.S), (iv p0.W)] 32 (0, 0)) [] (fun fb g => by kernel_rfl) trivial (fun g1 w2 hS3 => ?_)
 refine ⟨trivial, ?_⟩
 refine seg 2 [] [1] [(1, (pt g1))] [] (fun fb => by kernel_rfl) rfl trivial ?_
 refine WL.done rfl (WX.next (WC.seq (WC.region ?_)))
 refine seg 3 [.v (iv p0.E)] [2] [(2, (iv p0.E))] [.cell ⟨g1, 1, none⟩ (iv p0.E)] (fun fb => by kernel_rfl) rfl ⟨hS3.cell 0 rfl 1 rfl, trivial⟩ ?_
 refine WL.done rfl (WX.next ?_)
 refine WC.ret ?_
 injection hf with hf
 subst hf
 exact WX.ret_ [] (iv p0.E) [] (fun fb => by kernel_rfl) trivial ⟨_, rfl, rfl, hS3.keep⟩
end Gp
