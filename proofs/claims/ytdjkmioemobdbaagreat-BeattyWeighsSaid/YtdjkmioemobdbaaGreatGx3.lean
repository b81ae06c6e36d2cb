/- Walks: each function of the program computes its plain function. -/
import Derived.Test.YtdjkmioemobdbaaGreatGx2
set_option linter.unusedVariables false
set_option linter.unusedSimpArgs false
set_option maxHeartbeats 4000000
set_option maxRecDepth 8000
namespace Gp
open Go Gw Go.Proofs
theorem beatty_Closed_1_calls (p0 : Piece) (f0 : Ratio) (ga : Nat) (r : Bool) (w : World) (hR0 : RO NoS w (blk ga (.cells #[(iv f0.n), (iv f0.d)] 70 (0, 0)))) (hf : beatty_Closed_1 p0 f0 = some r) :
  CallsR Tryz.prog 34 #[(.agg #[(iv p0.Factor.Num), (iv p0.Factor.Den), (iv p0.Low.Num), (iv p0.Low.Den), (iv p0.High.Num), (iv p0.High.Den)]), (pt ga)] w (fun v w' => v = (bv r) ∧ Keeps NoS w w') := by
 have hS : St NoS w w [blk ga (.cells #[(iv f0.n), (iv f0.d)] 70 (0, 0))] [] := St.init (ro_cons hR0 (ro_nil _ _))
 refine enter 17 Tryz.func34 rfl Tryz.ntmps34 rfl ?_
 unfold beatty_Closed_1 at hf
 refine WC.seq (WC.region ?_)
 refine WL.new hS 2 [] (fun g => (pt g)) (.cells #[(iv p0.Factor.Num), (iv p0.Factor.Den), (iv p0.Low.Num), (iv p0.Low.Den), (iv p0.High.Num), (iv p0.High.Den)] 66 (0, 0)) [] (fun fb g => by kernel_rfl) trivial (fun g2 w3 hS4 => ?_)
 refine ⟨trivial, ?_⟩
 refine sg 2 [] [1, 2] [(1, (pt ga)), (2, (pt g2))] (by kernel_rfl) ?_
 refine WL.done rfl (WX.next (WC.seq ?_))
 refine WC.regionD ([(0, ⟨ga, 0, none⟩, (iv f0.n)), (0, ⟨ga, 1, none⟩, (iv f0.d)), (2, ⟨g2, 2, none⟩, (iv p0.Low.Num)), (2, ⟨g2, 3, none⟩, (iv p0.Low.Den)), (7, ⟨ga, 0, none⟩, (iv f0.n)), (7, ⟨ga, 1, none⟩, (iv f0.d)), (9, ⟨g2, 4, none⟩, (iv p0.High.Num)), (9, ⟨g2, 5, none⟩, (iv p0.High.Den))], [0, 1, 2, 5, 6, 7, 8, 9, 12, 13], [[], [], [1], [1, 2], [0, 1, 2, 3], [0, 1, 2, 3, 4], [0, 1, 2, 3, 4, 5], [0, 1, 2, 3, 4, 5, 6], [0, 1, 2, 3, 4, 5, 6], [0, 1, 2, 3, 4, 5, 6, 8], [0, 1, 2, 3, 4, 5, 6, 8, 9], [0, 1, 2, 3, 4, 5, 6, 7, 8, 9, 10], [0, 1, 2, 3, 4, 5, 6, 7, 8, 9, 10, 11], [0, 1, 2, 3, 4, 5, 6, 7, 8, 9, 10, 11, 12]]) [[0, 1, 2, 3, 4, 5, 6, 7, 8, 9, 10, 11, 12, 13]] (by kernel_rfl) (by kernel_rfl) (NoPanic.seq (NoPanic.body)) ?_
 have hS6 := hS4.drew
 revert hS6
 generalize World.drew w3 = w5
 intro hS6
 refine ⟨⟨blk_cell (hS6.rd 0).1 0 rfl, blk_cell (hS6.rd 0).1 1 rfl, hS6.cell 0 rfl 2 rfl, hS6.cell 0 rfl 3 rfl, blk_cell (hS6.rd 0).1 0 rfl, blk_cell (hS6.rd 0).1 1 rfl, hS6.cell 0 rfl 4 rfl, hS6.cell 0 rfl 5 rfl, trivial⟩, forallC ?_ (forallN)⟩
 refine segF 3 [.v (iv f0.n), .v (iv f0.d), .v (iv p0.Low.Num), .v (iv p0.Low.Den)] [1, 2, 4, 6] [(1, (pt ga)), (2, (pt g2)), (4, (.agg #[(iv f0.n), (iv f0.d)])), (6, (.agg #[(iv p0.Low.Num), (iv p0.Low.Den)]))] [] [0, 1, 2, 3] [(0, ⟨ga, 0, none⟩, (iv f0.n)), (0, ⟨ga, 1, none⟩, (iv f0.d)), (2, ⟨g2, 2, none⟩, (iv p0.Low.Num)), (2, ⟨g2, 3, none⟩, (iv p0.Low.Den))] (fun fb => by kernel_rfl) rfl trivial rfl ?_
 obtain ⟨t7, ht8, hf⟩ := bind_some hf
 refine WL.call (some 7) 30 #[(.agg #[(iv p0.Low.Num), (iv p0.Low.Den)])] (fun fb => by kernel_rfl) (beatty_of_calls p0.Low t7 _ ht8) (fun v w9 hR10 => ?_)
 obtain ⟨rfl, hk_⟩ := hR10
 have hS11 := hS6.keepN hk_
 refine ⟨⟨blk_cell (hS11.rd 0).1 0 rfl, blk_cell (hS11.rd 0).1 1 rfl, blk_cell (hS11.rd 0).1 0 rfl, blk_cell (hS11.rd 0).1 1 rfl, hS11.cell 0 rfl 4 rfl, hS11.cell 0 rfl 5 rfl, trivial⟩, ?_⟩
 obtain ⟨t12, ht13, hf⟩ := bind_some hf
 refine WL.call (some 8) 32 #[(.agg #[(iv f0.n), (iv f0.d)]), (.agg #[(iv t7.n), (iv t7.d)])] (fun fb => by kernel_rfl) (beatty_ratio_less_calls f0 t7 t12 _ ht13) (fun v w14 hR15 => ?_)
 obtain ⟨rfl, hk_⟩ := hR15
 have hS16 := hS11.keepN hk_
 refine ⟨⟨blk_cell (hS16.rd 0).1 0 rfl, blk_cell (hS16.rd 0).1 1 rfl, hS16.cell 0 rfl 4 rfl, hS16.cell 0 rfl 5 rfl, trivial⟩, ?_⟩
 refine sg 7 [] [1, 2, 10] [(1, (pt ga)), (2, (pt g2)), (10, (bv (!t12)))] (by kernel_rfl) ?_
 obtain ⟨x17, hx18, hf⟩ := bind_some hf
 refine WL.cutW (T := Bool) 13 (fun t => [(16, (bv t))]) (fun t w1 => (St NoS w w1 [blk ga (.cells #[(iv f0.n), (iv f0.d)] 70 (0, 0))] [] ∧ x17 = t) ∧ CellsOK [] w1) (fun K => ?_) ?_
 ·
  rcases br_some hx18 with ⟨h19, hx18⟩ | ⟨h19, hx18⟩
  ·
   refine WL.setB 10 h19 rfl ?_
   refine segF 10 [.v (iv f0.n), .v (iv f0.d), .v (iv p0.High.Num), .v (iv p0.High.Den)] [10, 11, 13] [(10, (bv true)), (11, (.agg #[(iv f0.n), (iv f0.d)])), (13, (.agg #[(iv p0.High.Num), (iv p0.High.Den)]))] [] [4, 5, 6, 7] [(7, ⟨ga, 0, none⟩, (iv f0.n)), (7, ⟨ga, 1, none⟩, (iv f0.d)), (9, ⟨g2, 4, none⟩, (iv p0.High.Num)), (9, ⟨g2, 5, none⟩, (iv p0.High.Den))] (fun fb => by kernel_rfl) rfl trivial rfl ?_
   obtain ⟨t20, ht21, hx18⟩ := bind_some hx18
   refine WL.call (some 14) 30 #[(.agg #[(iv p0.High.Num), (iv p0.High.Den)])] (fun fb => by kernel_rfl) (beatty_of_calls p0.High t20 _ ht21) (fun v w22 hR23 => ?_)
   obtain ⟨rfl, hk_⟩ := hR23
   have hS24 := hS16.keepN hk_
   refine ⟨⟨blk_cell (hS24.rd 0).1 0 rfl, blk_cell (hS24.rd 0).1 1 rfl, trivial⟩, ?_⟩
   obtain ⟨t25, ht26, hx18⟩ := bind_some hx18
   refine WL.call (some 15) 32 #[(.agg #[(iv f0.n), (iv f0.d)]), (.agg #[(iv t20.n), (iv t20.d)])] (fun fb => by kernel_rfl) (beatty_ratio_less_calls f0 t20 t25 _ ht26) (fun v w27 hR28 => ?_)
   obtain ⟨rfl, hk_⟩ := hR28
   have hS29 := hS24.keepN hk_
   refine ⟨trivial, ?_⟩
   refine sg 13 [] [16] [(16, (bv t25))] (by kernel_rfl) ?_
   injection hx18 with hx18
   exact WL.to K t25 [16] rfl ⟨⟨(hS29.subR [0]).sub [] (by decide), hx18.symm⟩, trivial⟩
  refine WL.setB 10 h19 rfl ?_
  refine sg 13 [] [16] [(16, (bv false))] (by kernel_rfl) ?_
  injection hx18 with hx18
  exact WL.to K false [16] rfl ⟨⟨(hS16.subR [0]).sub [] (by decide), hx18.symm⟩, trivial⟩
 rintro y30 w32 ⟨⟨hS33, hq31⟩, hF35⟩
 subst hq31
 refine sg 14 [] [3] [(3, (bv x17))] (by kernel_rfl) ?_
 refine WL.done rfl (WX.next ?_)
 refine WC.ret ?_
 injection hf with hf
 subst hf
 exact WX.ret_ [] (bv x17) [] (fun fb => by kernel_rfl) trivial ⟨_, rfl, rfl, hS33.keep⟩
theorem slices_IndexFunc_api_Piece_api_Piece_with_beatty_Closed_1_calls (k : Nat) (p0 : List Piece) (p1_0 : Ratio) (Aa : Option Addr) (ca : Nat) (ga : Nat) (r : Int) (w : World) (hR0 : RO NoS w (rowR enc_Piece Aa ca p0)) (hR1 : RO NoS w (blk ga (.cells #[(iv p1_0.n), (iv p1_0.d)] 70 (0, 0)))) (hf : slices_IndexFunc_api_Piece_api_Piece_with_beatty_Closed_1 k p0 p1_0 = some r) :
  CallsR Tryz.prog 33 #[(sv Aa p0 ca), (.func (.func 34) #[] #[(pt ga)])] w (fun v w' => v = (iv r) ∧ Keeps NoS w w') := by
 have hS : St NoS w w [rowR enc_Piece Aa ca p0, blk ga (.cells #[(iv p1_0.n), (iv p1_0.d)] 70 (0, 0))] [] := St.init (ro_cons hR0 (ro_cons hR1 (ro_nil _ _)))
 refine enter 19 Tryz.func33 rfl Tryz.ntmps33 rfl ?_
 unfold slices_IndexFunc_api_Piece_api_Piece_with_beatty_Closed_1 at hf
 refine WC.seq (WC.region ?_)
 refine sg 1 [] [0, 1] [(0, (sv Aa p0 ca)), (1, (.func (.func 34) #[] #[(pt ga)]))] (by kernel_rfl) ?_
 refine WL.done rfl (WX.next (WC.seq (WC.seq (WC.region ?_))))
 refine sg 3 [] [0, 1, 7, 8] [(0, (sv Aa p0 ca)), (1, (.func (.func 34) #[] #[(pt ga)])), (7, (iv (p0.length : Int))), (8, (iv 0))] (by kernel_rfl) ?_
 refine WL.done rfl (WX.next ?_)
 obtain ⟨x4, hx5, hf⟩ := bind_some hf
 let e4 : Nat × Value := (7, (iv (p0.length : Int)))
 let e5 : Nat × Value := (0, (sv Aa p0 ca))
 refine WC.cutN (T := Unit) (fun t => []) (fun t w1 => St NoS w w1 [rowR enc_Piece Aa ca p0, blk ga (.cells #[(iv p1_0.n), (iv p1_0.d)] 70 (0, 0))] [] ∧ x4 = .inr t) (fun Kx4 => ?_) ?_
 ·
  refine WC.block ?_
  refine WC.loop (T := Int) (fun t => [e5, (1, (.func (.func 34) #[] #[(pt ga)])), e4, (8, (iv t))]) (fun n t w1 => St NoS w w1 [rowR enc_Piece Aa ca p0, blk ga (.cells #[(iv p1_0.n), (iv p1_0.d)] 70 (0, 0))] [] ∧ slices_IndexFunc_api_Piece_api_Piece_with_beatty_Closed_1.l0 n t p0 p1_0 = some x4) k 0 [0, 1, 7, 8] rfl ⟨(hS.subR [0, 1]).sub [] (by decide), hx5⟩ ?_
  rintro k6 x3 w7 ⟨hS8, hl9⟩
  let e1 := rdD p0 x3 z_Piece
  let e2 := (adr Aa).add ((x3).toNat * 6)
  let e3 : Array Value := #[(iv ((e1.Factor).Num)), (iv ((e1.Factor).Den)), (iv ((e1.Low).Num)), (iv ((e1.Low).Den)), (iv ((e1.High).Num)), (iv ((e1.High).Den))]
  cases k6 with
  | zero => rw [slices_IndexFunc_api_Piece_api_Piece_with_beatty_Closed_1.l0] at hl9; cases hl9
  | succ k6 =>
   rw [slices_IndexFunc_api_Piece_api_Piece_with_beatty_Closed_1.l0] at hl9
   refine WC.seq (WC.region ?_)
   refine sg 1 [] [0, 1, 7, 8, 9] [e5, (1, (.func (.func 34) #[] #[(pt ga)])), e4, (8, (iv x3)), (9, (bv (decide (x3 < (p0.length : Int)))))] (by kernel_rfl) ?_
   refine WL.done rfl (WX.next (WC.seq ?_))
   rcases br_some hl9 with ⟨h10, hl9⟩ | ⟨h10, hl9⟩
   ·refine WC.condT2 (fun fb => by kernel_rfl) h10 ?_
    refine WC.skip (WX.next (WC.seq (WC.block (WC.seq (WC.region ?_)))))
    refine sg 2 [] [0, 1, 5, 7, 8] [e5, (1, (.func (.func 34) #[] #[(pt ga)])), (5, (iv x3)), e4, (8, (iv x3))] (by kernel_rfl) ?_
    refine WL.done rfl (WX.next (WC.seq (WC.region ?_)))
    refine sg 3 [] [0, 1, 5, 7, 8, 11, 12, 13] [e5, (1, (.func (.func 34) #[] #[(pt ga)])), (5, (iv x3)), e4, (8, (iv x3)), (11, (.func (.func 34) #[] #[(pt ga)])), (12, (sv Aa p0 ca)), (13, (iv x3))] (by kernel_rfl) ?_
    obtain ⟨h11, hl9⟩ := as_some hl9
    refine seg 5 [.v (iv ((e1.Factor).Num)), .v (iv ((e1.Factor).Den)), .v (iv ((e1.Low).Num)), .v (iv ((e1.Low).Den)), .v (iv ((e1.High).Num)), .v (iv ((e1.High).Den))] [0, 1, 5, 7, 8, 11, 15] [e5, (1, (.func (.func 34) #[] #[(pt ga)])), (5, (iv x3)), e4, (8, (iv x3)), (11, (.func (.func 34) #[] #[(pt ga)])), (15, (.agg e3))] [.idx Aa x3 p0.length, .cell e2 (iv ((e1.Factor).Num)), .cell (e2.add 1) (iv ((e1.Factor).Den)), .cell (e2.add 2) (iv ((e1.Low).Num)), .cell (e2.add 3) (iv ((e1.Low).Den)), .cell (e2.add 4) (iv ((e1.High).Num)), .cell (e2.add 5) (iv ((e1.High).Den))] (fun fb => by kernel_rfl) rfl ⟨rowR.adr (hS8.rd 0).1 h11.1 h11.2, rowR.cell (hS8.rd 0).1 z_Piece h11.1 h11.2 0 rfl, rowR.cell (hS8.rd 0).1 z_Piece h11.1 h11.2 1 rfl, rowR.cell (hS8.rd 0).1 z_Piece h11.1 h11.2 2 rfl, rowR.cell (hS8.rd 0).1 z_Piece h11.1 h11.2 3 rfl, rowR.cell (hS8.rd 0).1 z_Piece h11.1 h11.2 4 rfl, rowR.cell (hS8.rd 0).1 z_Piece h11.1 h11.2 5 rfl, trivial⟩ ?_
    obtain ⟨t12, ht13, hl9⟩ := bind_some hl9
    refine WL.call (some 16) 34 #[(.agg e3), (pt ga)] (fun fb => by kernel_rfl) (beatty_Closed_1_calls e1 p1_0 ga t12 _ (hS8.rd 1) ht13) (fun v w14 hR15 => ?_)
    obtain ⟨rfl, hk_⟩ := hR15
    have hS16 := hS8.keepN hk_
    refine ⟨trivial, ?_⟩
    refine WL.done rfl (WX.next ?_)
    rcases br_some hl9 with ⟨h17, hl9⟩ | ⟨h17, hl9⟩
    ·refine WC.condT2 (fun fb => by kernel_rfl) h17 ?_
     refine WC.seq (WC.region ?_)
     refine sg 2 [] [4] [(4, (iv x3))] (by kernel_rfl) ?_
     refine WL.done rfl (WX.next ?_)
     refine WC.ret ?_
     injection hl9 with hl9
     subst hl9
     injection hf with hf
     subst hf
     exact WX.blockR (WX.thenR (WX.thenR (WX.blockR (WX.thenR (WX.ret_ [] (iv x3) [] (fun fb => by kernel_rfl) trivial ⟨_, rfl, rfl, hS16.keep⟩)))))
    refine WC.condF2 (fun fb => by kernel_rfl) h17 ?_
    refine WC.skip ?_
    refine WX.blockN (WX.next ?_)
    refine WC.region ?_
    refine sg 2 [] [0, 1, 7, 8] [e5, (1, (.func (.func 34) #[] #[(pt ga)])), e4, (8, (iv (w64 (x3 + 1))))] (by kernel_rfl) ?_
    refine WL.done rfl ?_
    exact WX.again k6 (Nat.lt_succ_self _) (w64 (x3 + 1)) [0, 1, 7, 8] rfl ⟨(hS16.subR [0, 1]).sub [] (by decide), hl9⟩
   refine WC.condF2 (fun fb => by kernel_rfl) h10 ?_
   refine WC.exit ?_
   injection hl9 with hl9
   exact WX.thenX (WX.thenX (WX.blockHere (WX.to Kx4 () [] rfl ⟨(hS8.subR [0, 1]).sub [] (by decide), hl9.symm⟩)))
 rintro y21 w18 ⟨hS19, hq20⟩
 subst hq20
 have hf := sum_inr hf
 refine WX.next (WC.seq (WC.region ?_))
 refine sg 1 [] [4] [(4, (iv (-1)))] (by kernel_rfl) ?_
 refine WL.done rfl (WX.next ?_)
 refine WC.ret ?_
 injection hf with hf
 subst hf
 exact WX.ret_ [] (iv (-1)) [] (fun fb => by kernel_rfl) trivial ⟨_, rfl, rfl, hS19.keep⟩
theorem beatty_Closed_calls (k : Nat) (p0 : List Piece) (Aa : Option Addr) (ca : Nat) (r : Bool × Int) (w : World) (hR0 : RO NoS w (rowR enc_Piece Aa ca p0)) (hf : beatty_Closed k p0 = some r) :
  CallsR Tryz.prog 9 #[(sv Aa p0 ca)] w (fun v w' => v = (.tuple #[(bv r.1), (iv r.2)]) ∧ Keeps NoS w w') := by
 have hS : St NoS w w [rowR enc_Piece Aa ca p0] [] := St.init (ro_cons hR0 (ro_nil _ _))
 refine enter 47 Tryz.func9 rfl Tryz.ntmps9 rfl ?_
 unfold beatty_Closed at hf
 refine WC.seq (WC.region ?_)
 refine sg 2 [] [0] [(0, (sv Aa p0 ca))] (by kernel_rfl) ?_
 refine WL.done rfl (WX.next (WC.seq (WC.seq (WC.region ?_))))
 refine sg 1 [] [0, 10] [(0, (sv Aa p0 ca)), (10, (sv Aa p0 ca))] (by kernel_rfl) ?_
 obtain ⟨t3, ht4, hf⟩ := bind_some hf
 refine WL.call (some 11) 11 #[(sv Aa p0 ca)] (fun fb => by kernel_rfl) (beatty_Valid_calls _ p0 Aa ca t3 _ (hS.rd 0) ht4) (fun v w5 hR6 => ?_)
 obtain ⟨rfl, hk_⟩ := hR6
 have hS12 := hS.keepN hk_
 refine ⟨trivial, ?_⟩
 refine sg 3 [] [0, 12] [(0, (sv Aa p0 ca)), (12, (bv (!t3)))] (by kernel_rfl) ?_
 refine WL.done rfl (WX.next ?_)
 rcases br_some hf with ⟨h13, hf⟩ | ⟨h13, hf⟩
 ·refine WC.condT2 (fun fb => by kernel_rfl) h13 ?_
  refine WC.seq (WC.region ?_)
  refine sg 2 [] [2, 3] [(2, (bv false)), (3, (iv 1))] (by kernel_rfl) ?_
  refine WL.done rfl (WX.next ?_)
  refine WC.ret ?_
  injection hf with hf
  subst hf
  exact WX.thenR (WX.ret_ [] (.tuple #[(bv false), (iv 1)]) [] (fun fb => by kernel_rfl) trivial ⟨_, rfl, rfl, hS12.keep⟩)
 refine WC.condF2 (fun fb => by kernel_rfl) h13 ?_
 refine WC.skip (WX.next (WC.seq (WC.seq (WC.region ?_))))
 refine sg 3 [] [0, 13, 14, 15] [(0, (sv Aa p0 ca)), (13, (sv Aa p0 ca)), (14, (iv (p0.length : Int))), (15, (iv 0))] (by kernel_rfl) ?_
 refine WL.done rfl (WX.next ?_)
 obtain ⟨x15, hx16, hf⟩ := bind_some hf
 let e2 : List Nat := [22, 23, 24, 25, 26, 27, 28, 29, 30, 31, 7, 8, 0, 5, 6, 13, 14, 15]
 let e3 := (p0.length : Int)
 let e4 := sv Aa p0 ca
 let e14 : List Own := [rowR enc_Piece Aa ca p0]
 refine WC.cutN (T := Unit) (fun t => []) (fun t w1 => St NoS w w1 e14 [] ∧ x15 = .inr t) (fun Kx15 => ?_) ?_
 ·
  refine WC.block ?_
  refine WC.loop (T := Int) (fun t => [(0, e4), (13, e4), (14, (iv e3)), (15, (iv t))]) (fun n t w1 => St NoS w w1 e14 [] ∧ beatty_Closed.l0 n t p0 = some x15) k 0 [0, 13, 14, 15] rfl ⟨(hS12.subR [0]).sub [] (by decide), hx16⟩ ?_
  rintro k17 x14 w18 ⟨hS19, hl20⟩
  let e8 := (adr Aa).add ((x14).toNat * 6)
  cases k17 with
  | zero => rw [beatty_Closed.l0] at hl20; cases hl20
  | succ k17 =>
   rw [beatty_Closed.l0] at hl20
   refine WC.seq (WC.region ?_)
   refine sg 1 [] [0, 13, 14, 15, 16] [(0, e4), (13, e4), (14, (iv e3)), (15, (iv x14)), (16, (bv (decide (x14 < e3))))] (by kernel_rfl) ?_
   refine WL.done rfl (WX.next (WC.seq ?_))
   rcases br_some hl20 with ⟨h21, hl20⟩ | ⟨h21, hl20⟩
   ·refine WC.condT2 (fun fb => by kernel_rfl) h21 ?_
    refine WC.skip (WX.next (WC.seq (WC.block (WC.seq (WC.region ?_)))))
    obtain ⟨h32, hl20⟩ := as_some hl20
    refine seg 2 [.v (iv (((rdD p0 x14 z_Piece).Factor).Num)), .v (iv (((rdD p0 x14 z_Piece).Factor).Den)), .v (iv (((rdD p0 x14 z_Piece).Low).Num)), .v (iv (((rdD p0 x14 z_Piece).Low).Den)), .v (iv (((rdD p0 x14 z_Piece).High).Num)), .v (iv (((rdD p0 x14 z_Piece).High).Den))] [0, 13, 14, 15, 18] [(0, e4), (13, e4), (14, (iv e3)), (15, (iv x14)), (18, (.agg #[(iv (((rdD p0 x14 z_Piece).Factor).Num)), (iv (((rdD p0 x14 z_Piece).Factor).Den)), (iv (((rdD p0 x14 z_Piece).Low).Num)), (iv (((rdD p0 x14 z_Piece).Low).Den)), (iv (((rdD p0 x14 z_Piece).High).Num)), (iv (((rdD p0 x14 z_Piece).High).Den))]))] [.idx Aa x14 p0.length, .cell e8 (iv (((rdD p0 x14 z_Piece).Factor).Num)), .cell (e8.add 1) (iv (((rdD p0 x14 z_Piece).Factor).Den)), .cell (e8.add 2) (iv (((rdD p0 x14 z_Piece).Low).Num)), .cell (e8.add 3) (iv (((rdD p0 x14 z_Piece).Low).Den)), .cell (e8.add 4) (iv (((rdD p0 x14 z_Piece).High).Num)), .cell (e8.add 5) (iv (((rdD p0 x14 z_Piece).High).Den))] (fun fb => by kernel_rfl) rfl ⟨rowR.adr (hS19.rd 0).1 h32.1 h32.2, rowR.cell (hS19.rd 0).1 z_Piece h32.1 h32.2 0 rfl, rowR.cell (hS19.rd 0).1 z_Piece h32.1 h32.2 1 rfl, rowR.cell (hS19.rd 0).1 z_Piece h32.1 h32.2 2 rfl, rowR.cell (hS19.rd 0).1 z_Piece h32.1 h32.2 3 rfl, rowR.cell (hS19.rd 0).1 z_Piece h32.1 h32.2 4 rfl, rowR.cell (hS19.rd 0).1 z_Piece h32.1 h32.2 5 rfl, trivial⟩ ?_
    refine WL.new hS19 5 [] (fun g => (pt g)) (.cells #[(iv 0), (iv 0), (iv 0), (iv 0), (iv 0), (iv 0)] 66 (0, 0)) [] (fun fb g => by kernel_rfl) trivial (fun g33 w34 hS35 => ?_)
    refine ⟨trivial, ?_⟩
    let e5 := rdD p0 x14 z_Piece
    refine WL.store hS35 0 rfl [(0, (iv ((e5.Factor).Num))), (1, (iv ((e5.Factor).Den))), (2, (iv ((e5.Low).Num))), (3, (iv ((e5.Low).Den))), (4, (iv ((e5.High).Num))), (5, (iv ((e5.High).Den)))] #[(iv ((e5.Factor).Num)), (iv ((e5.Factor).Den)), (iv ((e5.Low).Num)), (iv ((e5.Low).Den)), (iv ((e5.High).Num)), (iv ((e5.High).Den))] (fun fb => by kernel_rfl) (by kernel_rfl) rfl [] (by decide) (by decide) (fun w36 hS37 => ?_)
    refine ⟨trivial, ?_⟩
    refine WL.done rfl (WX.next (WC.seq (WC.region ?_)))
    refine seg 2 [.v (iv ((e5.Factor).Num)), .v (iv ((e5.Factor).Den))] [0, 5, 13, 14, 15, 20] [(0, e4), (5, (pt g33)), (13, e4), (14, (iv e3)), (15, (iv x14)), (20, (.agg #[(iv ((e5.Factor).Num)), (iv ((e5.Factor).Den))]))] [.cell ⟨g33, 0, none⟩ (iv ((e5.Factor).Num)), .cell ⟨g33, 1, none⟩ (iv ((e5.Factor).Den))] (fun fb => by kernel_rfl) rfl ⟨hS37.cell 0 rfl 0 rfl, hS37.cell 0 rfl 1 rfl, trivial⟩ ?_
    obtain ⟨t38, ht39, hl20⟩ := bind_some hl20
    refine WL.call (some 21) 30 #[(.agg #[(iv ((e5.Factor).Num)), (iv ((e5.Factor).Den))])] (fun fb => by kernel_rfl) (beatty_of_calls (e5.Factor) t38 _ ht39) (fun v w40 hR41 => ?_)
    obtain ⟨rfl, hk_⟩ := hR41
    have hS42 := hS37.keepN hk_
    refine ⟨trivial, ?_⟩
    refine WL.new hS42 6 [] (fun g => (pt g)) (.cells #[(iv 0), (iv 0)] 70 (0, 0)) [] (fun fb g => by kernel_rfl) trivial (fun g43 w44 hS45 => ?_)
    refine ⟨trivial, ?_⟩
    refine WL.store hS45 0 rfl [(0, (iv t38.n)), (1, (iv t38.d))] #[(iv t38.n), (iv t38.d)] (fun fb => by kernel_rfl) (by kernel_rfl) rfl [1] (by decide) (by decide) (fun w46 hS47 => ?_)
    refine ⟨trivial, ?_⟩
    refine WL.done rfl (WX.next (WC.seq ?_))
    obtain ⟨t50, ht51, hl20⟩ := bind_some hl20
    obtain ⟨t55, ht56, hl20⟩ := bind_some hl20
    obtain ⟨t60, ht61, hl20⟩ := bind_some hl20
    obtain ⟨t66, ht67, hl20⟩ := bind_some hl20
    let e1 := rdD p0 x14 z_Piece
    let e6 : Nat × Value := (5, (pt g33))
    let e7 : Nat × Value := (6, (pt g43))
    let e9 := (e1.High).Num
    let e10 := (e1.High).Den
    let e11 := (e1.Low).Num
    let e12 := (e1.Low).Den
    refine WC.regionJ (fun d_ a_ w_ => ∃ (v22 v23 v24 v25 v26 v27 v28 v29 v30 v31 v7 v8 x10_0 x10_1 x11_0 x11_1 : Value) (g48 g49 : Nat) (fb_ : Operand → Value), Has 47 [(22, v22), (23, v23), (24, v24), (25, v25), (26, v26), (27, v27), (28, v28), (29, v29), (30, v30), (31, v31), (7, v7), (8, v8), (0, e4), e6, e7, (13, e4), (14, (iv e3)), (15, (iv x14))] fb_ a_ ∧ DoneL d_ [(0, v22, (.agg #[(iv t38.n), (iv t38.d)])), (1, v23, (.pointer (some ⟨g33, 2, none⟩))), (2, v24, (.agg #[(iv e11), (iv e12)])), (3, v25, (.agg #[(iv t50.n), (iv t50.d)])), (4, v26, (.agg #[(iv t55.n), (iv t55.d)])), (5, v27, (.agg #[(iv t38.n), (iv t38.d)])), (6, v28, (.pointer (some ⟨g33, 4, none⟩))), (7, v29, (.agg #[(iv e9), (iv e10)])), (8, v30, (.agg #[(iv t60.n), (iv t60.d)])), (9, v31, (.agg #[(iv t66.n), (iv t66.d)])), (10, v7, (pt g48)), (11, v8, (pt g49)), (12, (.agg #[x10_0, x10_1]), (.agg #[(iv t55.n), (iv t55.d)])), (13, (.agg #[x11_0, x11_1]), (.agg #[(iv t66.n), (iv t66.d)]))] ∧ St NoS w w_ e14 [sO (d_ 10) (blk g48 (.cells #[x10_0, x10_1] 70 (0, 0))), sO (d_ 11) (blk g49 (.cells #[x11_0, x11_1] 70 (0, 0))), blk g43 (.cells #[(iv t38.n), (iv t38.d)] 70 (0, 0)), blk g33 (.cells #[(iv ((e1.Factor).Num)), (iv ((e1.Factor).Den)), (iv e11), (iv e12), (iv e9), (iv e10)] 66 (0, 0))]) [[], [], [1], [1, 2], [0, 1, 2, 3], [], [], [6], [0, 1, 2, 3, 4, 6, 7], [0, 1, 2, 3, 4, 5, 6, 7, 8], [], [], [0, 1, 2, 3, 4, 5, 6, 7, 8, 9, 10, 11], [0, 1, 2, 3, 4, 5, 6, 7, 8, 9, 10, 11, 12]] (by kernel_rfl) (by kernel_rfl) 14 rfl ?_ ?_ ?_
    ·intro d_ fb_ a_ hd_ ha_
     have hS_ := hS47.drew
     have e10_ : d_ 10 = false := hd_ 10 (by decide)
     have e11_ : d_ 11 = false := hd_ 11 (by decide)
     exact ⟨(a_.eval (.tmp 22)), (a_.eval (.tmp 23)), (a_.eval (.tmp 24)), (a_.eval (.tmp 25)), (a_.eval (.tmp 26)), (a_.eval (.tmp 27)), (a_.eval (.tmp 28)), (a_.eval (.tmp 29)), (a_.eval (.tmp 30)), (a_.eval (.tmp 31)), (a_.eval (.tmp 7)), (a_.eval (.tmp 8)), undef, undef, undef, undef, 0, 0, _, (Has.peek (Has.peek (Has.peek (Has.peek (Has.peek (Has.peek (Has.peek (Has.peek (Has.peek (Has.peek (Has.peek (Has.peek (ha_.picked (show pick _ [0, 5, 6, 13, 14, 15] = some [(0, (.slice Aa p0.length ca)), (5, (pt g33)), (6, (pt g43)), (13, (.slice Aa p0.length ca)), (14, (iv (p0.length : Int))), (15, (iv x14))] from rfl)) 8 (by decide)) 7 (by decide)) 31 (by decide)) 30 (by decide)) 29 (by decide)) 28 (by decide)) 27 (by decide)) 26 (by decide)) 25 (by decide)) 24 (by decide)) 23 (by decide)) 22 (by decide)), DoneL.none (fun i hi => hd_ i hi), (by rw [e10_, e11_]; exact hS_.sub [2, 3, 0, 1] (by decide))⟩
    ·refine (((((((((((((StepsI.zero.succ ?_).succ ?_).succ ?_).succ ?_).succ ?_).succ ?_).succ ?_).succ ?_).succ ?_).succ ?_).succ ?_).succ ?_).succ ?_).succ ?_
     ·intro d_ a_ w_ hd_ hj_ hc_ hI_
      have hi_ : 0 < 14 := by decide
      refine ex10 hI_ fun v22 v23 v24 v25 v26 v27 v28 v29 v30 v31 h0 => ?_
      obtain ⟨v7, v8, x10_0, x10_1, x11_0, x11_1, g48, g49, fb_, ha_, H_, hS_⟩ := h0
      clear hI_
      refine op_WL hi_ ha_ ?_
      refine seg 1 [.v (iv t38.n), .v (iv t38.d)] e2 [(22, (.agg #[(iv t38.n), (iv t38.d)])), (23, v23), (24, v24), (25, v25), (26, v26), (27, v27), (28, v28), (29, v29), (30, v30), (31, v31), (7, v7), (8, v8), (0, e4), e6, e7, (13, e4), (14, (iv e3)), (15, (iv x14))] [.cell ⟨g43, 0, none⟩ (iv t38.n), .cell ⟨g43, 1, none⟩ (iv t38.d)] (fun fb => by kernel_rfl) rfl ⟨hS_.cell 2 rfl 0 rfl, hS_.cell 2 rfl 1 rfl, trivial⟩ ?_
      refine WL.done rfl ?_
      exact fun fb_ a_ ha_ => ⟨(.agg #[(iv t38.n), (iv t38.d)]), v23, v24, v25, v26, v27, v28, v29, v30, v31, v7, v8, x10_0, x10_1, x11_0, x11_1, g48, g49, fb_, ha_, (H_.upd 0 (.agg #[(iv t38.n), (iv t38.d)]) rfl), hS_⟩
     ·intro d_ a_ w_ hd_ hj_ hc_ hI_
      have hi_ : 1 < 14 := by decide
      refine ex10 hI_ fun v22 v23 v24 v25 v26 v27 v28 v29 v30 v31 h0 => ?_
      obtain ⟨v7, v8, x10_0, x10_1, x11_0, x11_1, g48, g49, fb_, ha_, H_, hS_⟩ := h0
      clear hI_
      refine op_WL hi_ ha_ ?_
      refine sg 1 [] e2 [(22, v22), (23, (.pointer (some ⟨g33, 2, none⟩))), (24, v24), (25, v25), (26, v26), (27, v27), (28, v28), (29, v29), (30, v30), (31, v31), (7, v7), (8, v8), (0, e4), e6, e7, (13, e4), (14, (iv e3)), (15, (iv x14))] (by kernel_rfl) ?_
      refine WL.done rfl ?_
      exact fun fb_ a_ ha_ => ⟨v22, (.pointer (some ⟨g33, 2, none⟩)), v24, v25, v26, v27, v28, v29, v30, v31, v7, v8, x10_0, x10_1, x11_0, x11_1, g48, g49, fb_, ha_, (H_.upd 1 (.pointer (some ⟨g33, 2, none⟩)) rfl), hS_⟩
     ·intro d_ a_ w_ hd_ hj_ hc_ hI_
      have hi_ : 2 < 14 := by decide
      refine ex10 hI_ fun v22 v23 v24 v25 v26 v27 v28 v29 v30 v31 h0 => ?_
      obtain ⟨v7, v8, x10_0, x10_1, x11_0, x11_1, g48, g49, fb_, ha_, H_, hS_⟩ := h0
      clear hI_
      obtain rfl : v23 = (.pointer (some ⟨g33, 2, none⟩)) := H_ 1 _ rfl (hj_ 1 (memN_iff.1 (by kernel_rfl)))
      refine op_WL hi_ ha_ ?_
      refine seg 1 [.v (iv e11), .v (iv e12)] e2 [(22, v22), (23, (.pointer (some ⟨g33, 2, none⟩))), (24, (.agg #[(iv e11), (iv e12)])), (25, v25), (26, v26), (27, v27), (28, v28), (29, v29), (30, v30), (31, v31), (7, v7), (8, v8), (0, e4), e6, e7, (13, e4), (14, (iv e3)), (15, (iv x14))] [.cell ⟨g33, 2, none⟩ (iv e11), .cell ⟨g33, 3, none⟩ (iv e12)] (fun fb => by kernel_rfl) rfl ⟨hS_.cell 3 rfl 2 rfl, hS_.cell 3 rfl 3 rfl, trivial⟩ ?_
      refine WL.done rfl ?_
      exact fun fb_ a_ ha_ => ⟨v22, (.pointer (some ⟨g33, 2, none⟩)), (.agg #[(iv e11), (iv e12)]), v25, v26, v27, v28, v29, v30, v31, v7, v8, x10_0, x10_1, x11_0, x11_1, g48, g49, fb_, ha_, (H_.upd 2 (.agg #[(iv e11), (iv e12)]) rfl), hS_⟩
     ·intro d_ a_ w_ hd_ hj_ hc_ hI_
      have hi_ : 3 < 14 := by decide
      refine ex10 hI_ fun v22 v23 v24 v25 v26 v27 v28 v29 v30 v31 h0 => ?_
      obtain ⟨v7, v8, x10_0, x10_1, x11_0, x11_1, g48, g49, fb_, ha_, H_, hS_⟩ := h0
      clear hI_
      obtain rfl : v24 = (.agg #[(iv e11), (iv e12)]) := H_ 2 _ rfl (hj_ 2 (memN_iff.1 (by kernel_rfl)))
      refine op_WL hi_ ha_ ?_
      refine WL.call (some 25) 30 #[(.agg #[(iv e11), (iv e12)])] (fun fb => by kernel_rfl) (beatty_of_calls (e1.Low) t50 _ ht51) (fun v w52 hR53 => ?_)
      obtain ⟨rfl, hk_⟩ := hR53
      have hS54 := hS_.keepN hk_
      refine ⟨trivial, ?_⟩
      refine WL.reE e2 [(22, v22), (23, v23), (24, (.agg #[(iv e11), (iv e12)])), (25, (.agg #[(iv t50.n), (iv t50.d)])), (26, v26), (27, v27), (28, v28), (29, v29), (30, v30), (31, v31), (7, v7), (8, v8), (0, (.slice Aa p0.length ca)), e6, e7, (13, (.slice Aa p0.length ca)), (14, (iv e3)), (15, (iv x14))] [(22, v22), (23, v23), (24, (.agg #[(iv e11), (iv e12)])), (25, (.agg #[(iv t50.n), (iv t50.d)])), (26, v26), (27, v27), (28, v28), (29, v29), (30, v30), (31, v31), (7, v7), (8, v8), (0, (.slice Aa p0.length ca)), e6, e7, (13, (.slice Aa p0.length ca)), (14, (iv e3)), (15, (iv x14))] rfl rfl ?_
      refine WL.done rfl ?_
      exact fun fb_ a_ ha_ => ⟨v22, v23, (.agg #[(iv e11), (iv e12)]), (.agg #[(iv t50.n), (iv t50.d)]), v26, v27, v28, v29, v30, v31, v7, v8, x10_0, x10_1, x11_0, x11_1, g48, g49, fb_, ha_, (H_.upd 3 (.agg #[(iv t50.n), (iv t50.d)]) rfl), hS54⟩
     ·intro d_ a_ w_ hd_ hj_ hc_ hI_
      have hi_ : 4 < 14 := by decide
      refine ex10 hI_ fun v22 v23 v24 v25 v26 v27 v28 v29 v30 v31 h0 => ?_
      obtain ⟨v7, v8, x10_0, x10_1, x11_0, x11_1, g48, g49, fb_, ha_, H_, hS_⟩ := h0
      clear hI_
      obtain rfl : v22 = (.agg #[(iv t38.n), (iv t38.d)]) := H_ 0 _ rfl (hj_ 0 (memN_iff.1 (by kernel_rfl)))
      obtain rfl : v25 = (.agg #[(iv t50.n), (iv t50.d)]) := H_ 3 _ rfl (hj_ 3 (memN_iff.1 (by kernel_rfl)))
      refine op_WL hi_ ha_ ?_
      refine WL.call (some 26) 31 #[(.agg #[(iv t38.n), (iv t38.d)]), (.agg #[(iv t50.n), (iv t50.d)])] (fun fb => by kernel_rfl) (beatty_ratio_times_calls t38 t50 t55 _ ht56) (fun v w57 hR58 => ?_)
      obtain ⟨rfl, hk_⟩ := hR58
      have hS59 := hS_.keepN hk_
      refine ⟨trivial, ?_⟩
      refine WL.reE e2 [(22, (.agg #[(iv t38.n), (iv t38.d)])), (23, v23), (24, v24), (25, (.agg #[(iv t50.n), (iv t50.d)])), (26, (.agg #[(iv t55.n), (iv t55.d)])), (27, v27), (28, v28), (29, v29), (30, v30), (31, v31), (7, v7), (8, v8), (0, (.slice Aa p0.length ca)), e6, e7, (13, (.slice Aa p0.length ca)), (14, (iv e3)), (15, (iv x14))] [(22, (.agg #[(iv t38.n), (iv t38.d)])), (23, v23), (24, v24), (25, (.agg #[(iv t50.n), (iv t50.d)])), (26, (.agg #[(iv t55.n), (iv t55.d)])), (27, v27), (28, v28), (29, v29), (30, v30), (31, v31), (7, v7), (8, v8), (0, (.slice Aa p0.length ca)), e6, e7, (13, (.slice Aa p0.length ca)), (14, (iv e3)), (15, (iv x14))] rfl rfl ?_
      refine WL.done rfl ?_
      exact fun fb_ a_ ha_ => ⟨(.agg #[(iv t38.n), (iv t38.d)]), v23, v24, (.agg #[(iv t50.n), (iv t50.d)]), (.agg #[(iv t55.n), (iv t55.d)]), v27, v28, v29, v30, v31, v7, v8, x10_0, x10_1, x11_0, x11_1, g48, g49, fb_, ha_, (H_.upd 4 (.agg #[(iv t55.n), (iv t55.d)]) rfl), hS59⟩
     ·intro d_ a_ w_ hd_ hj_ hc_ hI_
      have hi_ : 5 < 14 := by decide
      refine ex10 hI_ fun v22 v23 v24 v25 v26 v27 v28 v29 v30 v31 h0 => ?_
      obtain ⟨v7, v8, x10_0, x10_1, x11_0, x11_1, g48, g49, fb_, ha_, H_, hS_⟩ := h0
      clear hI_
      refine op_WL hi_ ha_ ?_
      refine seg 1 [.v (iv t38.n), .v (iv t38.d)] e2 [(22, v22), (23, v23), (24, v24), (25, v25), (26, v26), (27, (.agg #[(iv t38.n), (iv t38.d)])), (28, v28), (29, v29), (30, v30), (31, v31), (7, v7), (8, v8), (0, e4), e6, e7, (13, e4), (14, (iv e3)), (15, (iv x14))] [.cell ⟨g43, 0, none⟩ (iv t38.n), .cell ⟨g43, 1, none⟩ (iv t38.d)] (fun fb => by kernel_rfl) rfl ⟨hS_.cell 2 rfl 0 rfl, hS_.cell 2 rfl 1 rfl, trivial⟩ ?_
      refine WL.done rfl ?_
      exact fun fb_ a_ ha_ => ⟨v22, v23, v24, v25, v26, (.agg #[(iv t38.n), (iv t38.d)]), v28, v29, v30, v31, v7, v8, x10_0, x10_1, x11_0, x11_1, g48, g49, fb_, ha_, (H_.upd 5 (.agg #[(iv t38.n), (iv t38.d)]) rfl), hS_⟩
     ·intro d_ a_ w_ hd_ hj_ hc_ hI_
      have hi_ : 6 < 14 := by decide
      refine ex10 hI_ fun v22 v23 v24 v25 v26 v27 v28 v29 v30 v31 h0 => ?_
      obtain ⟨v7, v8, x10_0, x10_1, x11_0, x11_1, g48, g49, fb_, ha_, H_, hS_⟩ := h0
      clear hI_
      refine op_WL hi_ ha_ ?_
      refine sg 1 [] e2 [(22, v22), (23, v23), (24, v24), (25, v25), (26, v26), (27, v27), (28, (.pointer (some ⟨g33, 4, none⟩))), (29, v29), (30, v30), (31, v31), (7, v7), (8, v8), (0, e4), e6, e7, (13, e4), (14, (iv e3)), (15, (iv x14))] (by kernel_rfl) ?_
      refine WL.done rfl ?_
      exact fun fb_ a_ ha_ => ⟨v22, v23, v24, v25, v26, v27, (.pointer (some ⟨g33, 4, none⟩)), v29, v30, v31, v7, v8, x10_0, x10_1, x11_0, x11_1, g48, g49, fb_, ha_, (H_.upd 6 (.pointer (some ⟨g33, 4, none⟩)) rfl), hS_⟩
     ·intro d_ a_ w_ hd_ hj_ hc_ hI_
      have hi_ : 7 < 14 := by decide
      refine ex10 hI_ fun v22 v23 v24 v25 v26 v27 v28 v29 v30 v31 h0 => ?_
      obtain ⟨v7, v8, x10_0, x10_1, x11_0, x11_1, g48, g49, fb_, ha_, H_, hS_⟩ := h0
      clear hI_
      obtain rfl : v28 = (.pointer (some ⟨g33, 4, none⟩)) := H_ 6 _ rfl (hj_ 6 (memN_iff.1 (by kernel_rfl)))
      refine op_WL hi_ ha_ ?_
      refine seg 1 [.v (iv e9), .v (iv e10)] e2 [(22, v22), (23, v23), (24, v24), (25, v25), (26, v26), (27, v27), (28, (.pointer (some ⟨g33, 4, none⟩))), (29, (.agg #[(iv e9), (iv e10)])), (30, v30), (31, v31), (7, v7), (8, v8), (0, e4), e6, e7, (13, e4), (14, (iv e3)), (15, (iv x14))] [.cell ⟨g33, 4, none⟩ (iv e9), .cell ⟨g33, 5, none⟩ (iv e10)] (fun fb => by kernel_rfl) rfl ⟨hS_.cell 3 rfl 4 rfl, hS_.cell 3 rfl 5 rfl, trivial⟩ ?_
      refine WL.done rfl ?_
      exact fun fb_ a_ ha_ => ⟨v22, v23, v24, v25, v26, v27, (.pointer (some ⟨g33, 4, none⟩)), (.agg #[(iv e9), (iv e10)]), v30, v31, v7, v8, x10_0, x10_1, x11_0, x11_1, g48, g49, fb_, ha_, (H_.upd 7 (.agg #[(iv e9), (iv e10)]) rfl), hS_⟩
     ·intro d_ a_ w_ hd_ hj_ hc_ hI_
      have hi_ : 8 < 14 := by decide
      refine ex10 hI_ fun v22 v23 v24 v25 v26 v27 v28 v29 v30 v31 h0 => ?_
      obtain ⟨v7, v8, x10_0, x10_1, x11_0, x11_1, g48, g49, fb_, ha_, H_, hS_⟩ := h0
      clear hI_
      obtain rfl : v29 = (.agg #[(iv e9), (iv e10)]) := H_ 7 _ rfl (hj_ 7 (memN_iff.1 (by kernel_rfl)))
      refine op_WL hi_ ha_ ?_
      refine WL.call (some 30) 30 #[(.agg #[(iv e9), (iv e10)])] (fun fb => by kernel_rfl) (beatty_of_calls (e1.High) t60 _ ht61) (fun v w62 hR63 => ?_)
      obtain ⟨rfl, hk_⟩ := hR63
      have hS65 := hS_.keepN hk_
      refine ⟨trivial, ?_⟩
      refine WL.reE e2 [(22, v22), (23, v23), (24, v24), (25, v25), (26, v26), (27, v27), (28, v28), (29, (.agg #[(iv e9), (iv e10)])), (30, (.agg #[(iv t60.n), (iv t60.d)])), (31, v31), (7, v7), (8, v8), (0, (.slice Aa p0.length ca)), e6, e7, (13, (.slice Aa p0.length ca)), (14, (iv e3)), (15, (iv x14))] [(22, v22), (23, v23), (24, v24), (25, v25), (26, v26), (27, v27), (28, v28), (29, (.agg #[(iv e9), (iv e10)])), (30, (.agg #[(iv t60.n), (iv t60.d)])), (31, v31), (7, v7), (8, v8), (0, (.slice Aa p0.length ca)), e6, e7, (13, (.slice Aa p0.length ca)), (14, (iv e3)), (15, (iv x14))] rfl rfl ?_
      refine WL.done rfl ?_
      exact fun fb_ a_ ha_ => ⟨v22, v23, v24, v25, v26, v27, v28, (.agg #[(iv e9), (iv e10)]), (.agg #[(iv t60.n), (iv t60.d)]), v31, v7, v8, x10_0, x10_1, x11_0, x11_1, g48, g49, fb_, ha_, (H_.upd 8 (.agg #[(iv t60.n), (iv t60.d)]) rfl), hS65⟩
     ·intro d_ a_ w_ hd_ hj_ hc_ hI_
      have hi_ : 9 < 14 := by decide
      refine ex10 hI_ fun v22 v23 v24 v25 v26 v27 v28 v29 v30 v31 h0 => ?_
      obtain ⟨v7, v8, x10_0, x10_1, x11_0, x11_1, g48, g49, fb_, ha_, H_, hS_⟩ := h0
      clear hI_
      obtain rfl : v27 = (.agg #[(iv t38.n), (iv t38.d)]) := H_ 5 _ rfl (hj_ 5 (memN_iff.1 (by kernel_rfl)))
      obtain rfl : v30 = (.agg #[(iv t60.n), (iv t60.d)]) := H_ 8 _ rfl (hj_ 8 (memN_iff.1 (by kernel_rfl)))
      refine op_WL hi_ ha_ ?_
      refine WL.call (some 31) 31 #[(.agg #[(iv t38.n), (iv t38.d)]), (.agg #[(iv t60.n), (iv t60.d)])] (fun fb => by kernel_rfl) (beatty_ratio_times_calls t38 t60 t66 _ ht67) (fun v w68 hR69 => ?_)
      obtain ⟨rfl, hk_⟩ := hR69
      have hS70 := hS_.keepN hk_
      refine ⟨trivial, ?_⟩
      refine WL.reE e2 [(22, v22), (23, v23), (24, v24), (25, v25), (26, v26), (27, (.agg #[(iv t38.n), (iv t38.d)])), (28, v28), (29, v29), (30, (.agg #[(iv t60.n), (iv t60.d)])), (31, (.agg #[(iv t66.n), (iv t66.d)])), (7, v7), (8, v8), (0, (.slice Aa p0.length ca)), e6, e7, (13, (.slice Aa p0.length ca)), (14, (iv e3)), (15, (iv x14))] [(22, v22), (23, v23), (24, v24), (25, v25), (26, v26), (27, (.agg #[(iv t38.n), (iv t38.d)])), (28, v28), (29, v29), (30, (.agg #[(iv t60.n), (iv t60.d)])), (31, (.agg #[(iv t66.n), (iv t66.d)])), (7, v7), (8, v8), (0, (.slice Aa p0.length ca)), e6, e7, (13, (.slice Aa p0.length ca)), (14, (iv e3)), (15, (iv x14))] rfl rfl ?_
      refine WL.done rfl ?_
      exact fun fb_ a_ ha_ => ⟨v22, v23, v24, v25, v26, (.agg #[(iv t38.n), (iv t38.d)]), v28, v29, (.agg #[(iv t60.n), (iv t60.d)]), (.agg #[(iv t66.n), (iv t66.d)]), v7, v8, x10_0, x10_1, x11_0, x11_1, g48, g49, fb_, ha_, (H_.upd 9 (.agg #[(iv t66.n), (iv t66.d)]) rfl), hS70⟩
     ·intro d_ a_ w_ hd_ hj_ hc_ hI_
      have hi_ : 10 < 14 := by decide
      refine ex10 hI_ fun v22 v23 v24 v25 v26 v27 v28 v29 v30 v31 h0 => ?_
      obtain ⟨v7, v8, x10_0, x10_1, x11_0, x11_1, g48, g49, fb_, ha_, H_, hS_⟩ := h0
      clear hI_
      refine op_WL hi_ ha_ ?_
      refine WL.new hS_ 7 [] (fun g => (pt g)) (.cells #[(iv 0), (iv 0)] 70 (0, 0)) [] (fun fb g => by kernel_rfl) trivial (fun gn_ w1_ hS1_ => ?_)
      refine ⟨trivial, ?_⟩
      refine WL.reE e2 [(22, v22), (23, v23), (24, v24), (25, v25), (26, v26), (27, v27), (28, v28), (29, v29), (30, v30), (31, v31), (7, (pt gn_)), (8, v8), (0, (.slice Aa p0.length ca)), e6, e7, (13, (.slice Aa p0.length ca)), (14, (iv e3)), (15, (iv x14))] [(22, v22), (23, v23), (24, v24), (25, v25), (26, v26), (27, v27), (28, v28), (29, v29), (30, v30), (31, v31), (7, (pt gn_)), (8, v8), (0, (.slice Aa p0.length ca)), e6, e7, (13, (.slice Aa p0.length ca)), (14, (iv e3)), (15, (iv x14))] rfl rfl ?_
      refine WL.done rfl ?_
      have hk_ : d_ 12 = false := Bool.eq_false_iff.2 fun h_ => by have h2_ := hc_ 12 (by decide) h_ 10 (memN_iff.1 (by kernel_rfl)); rw [hd_] at h2_; cases h2_
      exact fun fb_ a_ ha_ => ⟨v22, v23, v24, v25, v26, v27, v28, v29, v30, v31, (pt gn_), v8, (iv 0), (iv 0), x11_0, x11_1, gn_, g49, fb_, ha_, ((H_.chg 12 (12, (.agg #[(iv 0), (iv 0)]), (.agg #[(iv t55.n), (iv t55.d)])) hk_).upd 10 (pt gn_) rfl), (hS1_.sub [0, 2, 3, 4] (by decide))⟩
     ·intro d_ a_ w_ hd_ hj_ hc_ hI_
      have hi_ : 11 < 14 := by decide
      refine ex10 hI_ fun v22 v23 v24 v25 v26 v27 v28 v29 v30 v31 h0 => ?_
      obtain ⟨v7, v8, x10_0, x10_1, x11_0, x11_1, g48, g49, fb_, ha_, H_, hS_⟩ := h0
      clear hI_
      refine op_WL hi_ ha_ ?_
      refine WL.new hS_ 8 [] (fun g => (pt g)) (.cells #[(iv 0), (iv 0)] 70 (0, 0)) [] (fun fb g => by kernel_rfl) trivial (fun gn_ w1_ hS1_ => ?_)
      refine ⟨trivial, ?_⟩
      refine WL.reE e2 [(22, v22), (23, v23), (24, v24), (25, v25), (26, v26), (27, v27), (28, v28), (29, v29), (30, v30), (31, v31), (7, v7), (8, (pt gn_)), (0, (.slice Aa p0.length ca)), e6, e7, (13, (.slice Aa p0.length ca)), (14, (iv e3)), (15, (iv x14))] [(22, v22), (23, v23), (24, v24), (25, v25), (26, v26), (27, v27), (28, v28), (29, v29), (30, v30), (31, v31), (7, v7), (8, (pt gn_)), (0, (.slice Aa p0.length ca)), e6, e7, (13, (.slice Aa p0.length ca)), (14, (iv e3)), (15, (iv x14))] rfl rfl ?_
      refine WL.done rfl ?_
      have hk_ : d_ 13 = false := Bool.eq_false_iff.2 fun h_ => by have h2_ := hc_ 13 (by decide) h_ 11 (memN_iff.1 (by kernel_rfl)); rw [hd_] at h2_; cases h2_
      exact fun fb_ a_ ha_ => ⟨v22, v23, v24, v25, v26, v27, v28, v29, v30, v31, v7, (pt gn_), x10_0, x10_1, (iv 0), (iv 0), g48, gn_, fb_, ha_, ((H_.chg 13 (13, (.agg #[(iv 0), (iv 0)]), (.agg #[(iv t66.n), (iv t66.d)])) hk_).upd 11 (pt gn_) rfl), (hS1_.sub [1, 0, 3, 4] (by decide))⟩
     ·intro d_ a_ w_ hd_ hj_ hc_ hI_
      have hi_ : 12 < 14 := by decide
      refine ex10 hI_ fun v22 v23 v24 v25 v26 v27 v28 v29 v30 v31 h0 => ?_
      obtain ⟨v7, v8, x10_0, x10_1, x11_0, x11_1, g48, g49, fb_, ha_, H_, hS_⟩ := h0
      clear hI_
      obtain rfl : v7 = (pt g48) := H_ 10 _ rfl (hj_ 10 (memN_iff.1 (by kernel_rfl)))
      obtain rfl : v26 = (.agg #[(iv t55.n), (iv t55.d)]) := H_ 4 _ rfl (hj_ 4 (memN_iff.1 (by kernel_rfl)))
      have e_ : d_ 10 = true := hj_ 10 (memN_iff.1 (by kernel_rfl))
      rw [e_] at hS_
      refine op_WL hi_ ha_ ?_
      refine WL.store hS_ 0 rfl [(0, (iv t55.n)), (1, (iv t55.d))] #[(iv t55.n), (iv t55.d)] (fun fb => by kernel_rfl) (by kernel_rfl) rfl [1, 2, 3] (by decide) (by decide) (fun w1_ hS1_ => ?_)
      refine ⟨trivial, ?_⟩
      refine WL.done rfl ?_
      exact fun fb_ a_ ha_ => ⟨v22, v23, v24, v25, (.agg #[(iv t55.n), (iv t55.d)]), v27, v28, v29, v30, v31, (pt g48), v8, (iv t55.n), (iv t55.d), x11_0, x11_1, g48, g49, fb_, ha_, (H_.upd 12 (.agg #[(iv t55.n), (iv t55.d)]) rfl), (by rw [show upd d_ 12 10 = true from e_]; exact hS1_.sub [0, 1, 2, 3] (by decide))⟩
     ·intro d_ a_ w_ hd_ hj_ hc_ hI_
      have hi_ : 13 < 14 := by decide
      refine ex10 hI_ fun v22 v23 v24 v25 v26 v27 v28 v29 v30 v31 h0 => ?_
      obtain ⟨v7, v8, x10_0, x10_1, x11_0, x11_1, g48, g49, fb_, ha_, H_, hS_⟩ := h0
      clear hI_
      obtain rfl : v8 = (pt g49) := H_ 11 _ rfl (hj_ 11 (memN_iff.1 (by kernel_rfl)))
      obtain rfl : v31 = (.agg #[(iv t66.n), (iv t66.d)]) := H_ 9 _ rfl (hj_ 9 (memN_iff.1 (by kernel_rfl)))
      have e_ : d_ 11 = true := hj_ 11 (memN_iff.1 (by kernel_rfl))
      rw [e_] at hS_
      refine op_WL hi_ ha_ ?_
      refine WL.store hS_ 1 rfl [(0, (iv t66.n)), (1, (iv t66.d))] #[(iv t66.n), (iv t66.d)] (fun fb => by kernel_rfl) (by kernel_rfl) rfl [0, 2, 3] (by decide) (by decide) (fun w1_ hS1_ => ?_)
      refine ⟨trivial, ?_⟩
      refine WL.done rfl ?_
      exact fun fb_ a_ ha_ => ⟨v22, v23, v24, v25, v26, v27, v28, v29, v30, (.agg #[(iv t66.n), (iv t66.d)]), v7, (pt g49), x10_0, x10_1, (iv t66.n), (iv t66.d), g48, g49, fb_, ha_, (H_.upd 13 (.agg #[(iv t66.n), (iv t66.d)]) rfl), (by rw [show upd d_ 13 11 = true from e_]; exact hS1_.sub [1, 0, 2, 3] (by decide))⟩
    intro d_ a_ w71 hd_ hI_
    refine ex10 hI_ fun v22 v23 v24 v25 v26 v27 v28 v29 v30 v31 h0 => ?_
    obtain ⟨v7, v8, x10_0, x10_1, x11_0, x11_1, g48, g49, fb_, ha_, H_, hS_⟩ := h0
    clear hI_
    obtain rfl : v22 = (.agg #[(iv t38.n), (iv t38.d)]) := H_ 0 _ rfl (hd_ 0 (by decide))
    obtain rfl : v23 = (.pointer (some ⟨g33, 2, none⟩)) := H_ 1 _ rfl (hd_ 1 (by decide))
    obtain rfl : v24 = (.agg #[(iv e11), (iv e12)]) := H_ 2 _ rfl (hd_ 2 (by decide))
    obtain rfl : v25 = (.agg #[(iv t50.n), (iv t50.d)]) := H_ 3 _ rfl (hd_ 3 (by decide))
    obtain rfl : v26 = (.agg #[(iv t55.n), (iv t55.d)]) := H_ 4 _ rfl (hd_ 4 (by decide))
    obtain rfl : v27 = (.agg #[(iv t38.n), (iv t38.d)]) := H_ 5 _ rfl (hd_ 5 (by decide))
    obtain rfl : v28 = (.pointer (some ⟨g33, 4, none⟩)) := H_ 6 _ rfl (hd_ 6 (by decide))
    obtain rfl : v29 = (.agg #[(iv e9), (iv e10)]) := H_ 7 _ rfl (hd_ 7 (by decide))
    obtain rfl : v30 = (.agg #[(iv t60.n), (iv t60.d)]) := H_ 8 _ rfl (hd_ 8 (by decide))
    obtain rfl : v31 = (.agg #[(iv t66.n), (iv t66.d)]) := H_ 9 _ rfl (hd_ 9 (by decide))
    obtain rfl : v7 = (pt g48) := H_ 10 _ rfl (hd_ 10 (by decide))
    obtain rfl : v8 = (pt g49) := H_ 11 _ rfl (hd_ 11 (by decide))
    have hz_ : (Value.agg #[x10_0, x10_1]) = (.agg #[(iv t55.n), (iv t55.d)]) := H_ 12 _ rfl (hd_ 12 (by decide))
    injection hz_ with hz_
    simp only [Array.mk.injEq, List.cons.injEq, and_true] at hz_
    obtain ⟨rfl, rfl⟩ := hz_
    have hz_ : (Value.agg #[x11_0, x11_1]) = (.agg #[(iv t66.n), (iv t66.d)]) := H_ 13 _ rfl (hd_ 13 (by decide))
    injection hz_ with hz_
    simp only [Array.mk.injEq, List.cons.injEq, and_true] at hz_
    obtain ⟨rfl, rfl⟩ := hz_
    have e10_ := hd_ 10 (by decide)
    have e11_ := hd_ 11 (by decide)
    rw [e10_, e11_] at hS_
    have hS72 := hS.go w71 [blk g48 (.cells #[(iv t55.n), (iv t55.d)] 70 (0, 0)), blk g49 (.cells #[(iv t66.n), (iv t66.d)] 70 (0, 0)), blk g43 (.cells #[(iv t38.n), (iv t38.d)] 70 (0, 0)), blk g33 (.cells #[(iv ((e1.Factor).Num)), (iv ((e1.Factor).Den)), (iv e11), (iv e12), (iv e9), (iv e10)] 66 (0, 0))] (hS_)
    refine (show WX _ .normal 47 [(0, e4), (7, (pt g48)), (8, (pt g49)), (13, e4), (14, (iv e3)), (15, (iv x14))] w71 from ?_) _ _ (ha_.picked (show pick _ [0, 7, 8, 13, 14, 15] = some [(0, e4), (7, (pt g48)), (8, (pt g49)), (13, e4), (14, (iv e3)), (15, (iv x14))] from rfl))
    refine WX.next ?_
    obtain ⟨x75, hx76, hl20⟩ := bind_some hl20
    refine WC.cutN (T := Unit) (fun t => [(0, e4), (13, e4), (14, (iv e3)), (15, (iv x14))]) (fun t w1 => St NoS w w1 e14 [] ∧ x75 = .inr t) (fun Kx75 => ?_) ?_
    ·
     refine WC.block ?_
     refine WC.loop (T := Int × Int) (fun t => [(0, e4), (7, (pt g48)), (8, (pt g49)), (13, e4), (14, (iv e3)), (15, (iv x14))]) (fun n t w1 => St NoS w w1 e14 [blk g48 (.cells #[(iv t.1), (iv t.2)] 70 (0, 0)), blk g49 (.cells #[(iv t66.n), (iv t66.d)] 70 (0, 0))] ∧ beatty_Closed.l1 n t.1 t.2 p0 t66 = some x75) k17 (t55.n, t55.d) [0, 7, 8, 13, 14, 15] rfl ⟨(hS72.subR [0]).sub [0, 1] (by decide), hx76⟩ ?_
     rintro k77 ⟨x73, x74⟩ w78 ⟨hS79, hl80⟩
     cases k77 with
     | zero => rw [beatty_Closed.l1] at hl80; cases hl80
     | succ k77 =>
      rw [beatty_Closed.l1] at hl80
      refine WC.seq (WC.seq (WC.region ?_))
      refine seg 2 [.v (iv x73), .v (iv x74), .v (iv t66.n), .v (iv t66.d)] [0, 7, 8, 13, 14, 15, 32, 33] [(0, e4), (7, (pt g48)), (8, (pt g49)), (13, e4), (14, (iv e3)), (15, (iv x14)), (32, (.agg #[(iv x73), (iv x74)])), (33, (.agg #[(iv t66.n), (iv t66.d)]))] [.cell ⟨g48, 0, none⟩ (iv x73), .cell ⟨g48, 1, none⟩ (iv x74), .cell ⟨g49, 0, none⟩ (iv t66.n), .cell ⟨g49, 1, none⟩ (iv t66.d)] (fun fb => by kernel_rfl) rfl ⟨hS79.cell 0 rfl 0 rfl, hS79.cell 0 rfl 1 rfl, hS79.cell 1 rfl 0 rfl, hS79.cell 1 rfl 1 rfl, trivial⟩ ?_
      obtain ⟨t81, ht82, hl80⟩ := bind_some hl80
      refine WL.call (some 34) 32 #[(.agg #[(iv x73), (iv x74)]), (.agg #[(iv t66.n), (iv t66.d)])] (fun fb => by kernel_rfl) (beatty_ratio_less_calls (Ratio.mk x73 x74) t66 t81 _ ht82) (fun v w83 hR84 => ?_)
      obtain ⟨rfl, hk_⟩ := hR84
      have hS85 := hS79.keepN hk_
      refine ⟨trivial, ?_⟩
      refine WL.done rfl (WX.next ?_)
      rcases br_some hl80 with ⟨h86, hl80⟩ | ⟨h86, hl80⟩
      ·refine WC.condT2 (fun fb => by kernel_rfl) h86 ?_
       refine WC.skip (WX.next (WC.block (WC.seq (WC.region ?_))))
       refine sg 2 [] [0, 7, 8, 13, 14, 15, 35, 36] [(0, e4), (7, (pt g48)), (8, (pt g49)), (13, e4), (14, (iv e3)), (15, (iv x14)), (35, e4), (36, (.func (.func 34) #[] #[(pt g48)]))] (by kernel_rfl) ?_
       obtain ⟨t87, ht88, hl80⟩ := bind_some hl80
       refine WL.call (some 37) 33 #[e4, (.func (.func 34) #[] #[(pt g48)])] (fun fb => by kernel_rfl) (slices_IndexFunc_api_Piece_api_Piece_with_beatty_Closed_1_calls _ p0 (Ratio.mk x73 x74) Aa ca g48 t87 _ (hS85.rd 0) (hS85.ow 0) ht88) (fun v w89 hR90 => ?_)
       obtain ⟨rfl, hk_⟩ := hR90
       have hS91 := hS85.keepN hk_
       refine ⟨trivial, ?_⟩
       refine sg 4 [] [0, 7, 8, 9, 13, 14, 15] [(0, e4), (7, (pt g48)), (8, (pt g49)), (9, (iv t87)), (13, e4), (14, (iv e3)), (15, (iv x14))] (by kernel_rfl) ?_
       refine WL.done rfl (WX.next (WC.seq (WC.seq (WC.region ?_))))
       refine sg 2 [] [0, 7, 8, 9, 13, 14, 15, 39] [(0, e4), (7, (pt g48)), (8, (pt g49)), (9, (iv t87)), (13, e4), (14, (iv e3)), (15, (iv x14)), (39, (bv (decide (t87 < 0))))] (by kernel_rfl) ?_
       refine WL.done rfl (WX.next ?_)
       rcases br_some hl80 with ⟨h92, hl80⟩ | ⟨h92, hl80⟩
       ·refine WC.condT2 (fun fb => by kernel_rfl) h92 ?_
        refine WC.seq (WC.region ?_)
        refine sg 2 [] [2, 3] [(2, (bv false)), (3, (iv 0))] (by kernel_rfl) ?_
        refine WL.done rfl (WX.next ?_)
        refine WC.ret ?_
        injection hl80 with hl80
        subst hl80
        injection hl20 with hl20
        subst hl20
        injection hf with hf
        subst hf
        exact WX.thenR (WX.blockR (WX.thenR (WX.blockR (WX.blockR (WX.thenR (WX.thenR (WX.blockR (WX.thenR (WX.ret_ [] (.tuple #[(bv false), (iv 0)]) [] (fun fb => by kernel_rfl) trivial ⟨_, rfl, rfl, hS91.keep⟩)))))))))
       refine WC.condF2 (fun fb => by kernel_rfl) h92 ?_
       refine WC.skip (WX.next (WC.region ?_))
       refine sg 2 [] [0, 7, 8, 13, 14, 15, 40, 41] [(0, e4), (7, (pt g48)), (8, (pt g49)), (13, e4), (14, (iv e3)), (15, (iv x14)), (40, e4), (41, (iv t87))] (by kernel_rfl) ?_
       obtain ⟨h93, hl80⟩ := as_some hl80
       let e13 := (rdD p0 t87 z_Piece).High
       refine seg 5 [.v (iv (e13.Num)), .v (iv (e13.Den))] [0, 7, 8, 13, 14, 15, 44] [(0, e4), (7, (pt g48)), (8, (pt g49)), (13, e4), (14, (iv e3)), (15, (iv x14)), (44, (.agg #[(iv (e13.Num)), (iv (e13.Den))]))] [.idx Aa t87 p0.length, .cell (((adr Aa).add ((t87).toNat * 6)).add 4) (iv (e13.Num)), .cell (((adr Aa).add ((t87).toNat * 6)).add 5) (iv (e13.Den))] (fun fb => by kernel_rfl) rfl ⟨rowR.adr (hS91.rd 0).1 h93.1 h93.2, rowR.cell (hS91.rd 0).1 z_Piece h93.1 h93.2 4 rfl, rowR.cell (hS91.rd 0).1 z_Piece h93.1 h93.2 5 rfl, trivial⟩ ?_
       obtain ⟨t94, ht95, hl80⟩ := bind_some hl80
       refine WL.call (some 45) 30 #[(.agg #[(iv (e13.Num)), (iv (e13.Den))])] (fun fb => by kernel_rfl) (beatty_of_calls e13 t94 _ ht95) (fun v w96 hR97 => ?_)
       obtain ⟨rfl, hk_⟩ := hR97
       have hS98 := hS91.keepN hk_
       refine ⟨trivial, ?_⟩
       refine WL.store hS98 0 rfl [(0, (iv t94.n)), (1, (iv t94.d))] #[(iv t94.n), (iv t94.d)] (fun fb => by kernel_rfl) (by kernel_rfl) rfl [1] (by decide) (by decide) (fun w99 hS100 => ?_)
       refine ⟨trivial, ?_⟩
       refine WL.done rfl ?_
       exact WX.blockN (WX.again k77 (Nat.lt_succ_self _) (t94.n, t94.d) [0, 7, 8, 13, 14, 15] rfl ⟨(hS100.subR [0]).sub [0, 1] (by decide), hl80⟩)
      refine WC.condF2 (fun fb => by kernel_rfl) h86 ?_
      refine WC.exit ?_
      injection hl80 with hl80
      exact WX.thenX (WX.thenX (WX.blockHere (WX.to Kx75 () [0, 13, 14, 15] rfl ⟨(hS85.subR [0]).sub [] (by decide), hl80.symm⟩)))
    rintro y104 w101 ⟨hS102, hq103⟩
    subst hq103
    have hl20 := sum_inr hl20
    refine WX.blockN (WX.next ?_)
    refine WC.region ?_
    refine sg 2 [] [0, 13, 14, 15] [(0, e4), (13, e4), (14, (iv e3)), (15, (iv (w64 (x14 + 1))))] (by kernel_rfl) ?_
    refine WL.done rfl ?_
    exact WX.again k17 (Nat.lt_succ_self _) (w64 (x14 + 1)) [0, 13, 14, 15] rfl ⟨(hS102.subR [0]).sub [] (by decide), hl20⟩
   refine WC.condF2 (fun fb => by kernel_rfl) h21 ?_
   refine WC.exit ?_
   injection hl20 with hl20
   exact WX.thenX (WX.thenX (WX.blockHere (WX.to Kx15 () [] rfl ⟨(hS19.subR [0]).sub [] (by decide), hl20.symm⟩)))
 rintro y108 w105 ⟨hS106, hq107⟩
 subst hq107
 have hf := sum_inr hf
 refine WX.next (WC.seq (WC.region ?_))
 refine sg 2 [] [2, 3] [(2, (bv true)), (3, (iv 0))] (by kernel_rfl) ?_
 refine WL.done rfl (WX.next ?_)
 refine WC.ret ?_
 injection hf with hf
 subst hf
 exact WX.ret_ [] (.tuple #[(bv true), (iv 0)]) [] (fun fb => by kernel_rfl) trivial ⟨_, rfl, rfl, hS106.keep⟩
theorem ref01_SameSet_calls (k : Nat) (p0 : List Tile) (p1 : List Tile) (Aa : Option Addr) (ca : Nat) (Ab : Option Addr) (cb : Nat) (r : Bool) (w : World) (hR0 : RO NoS w (rowR enc_Tile Aa ca p0)) (hR1 : RO NoS w (rowR enc_Tile Ab cb p1)) (hf : ref01_SameSet k p0 p1 = some r) :
  CallsR Tryz.prog 16 #[(sv Aa p0 ca), (sv Ab p1 cb)] w (fun v w' => v = (bv r) ∧ Keeps NoS w w') := by
 have hS : St NoS w w [rowR enc_Tile Aa ca p0, rowR enc_Tile Ab cb p1] [] := St.init (ro_cons hR0 (ro_cons hR1 (ro_nil _ _)))
 refine enter 26 Tryz.func16 rfl Tryz.ntmps16 rfl ?_
 unfold ref01_SameSet at hf
 refine WC.seq (WC.region ?_)
 refine sg 1 [] [0, 1] [(0, (sv Aa p0 ca)), (1, (sv Ab p1 cb))] (by kernel_rfl) ?_
 refine WL.done rfl (WX.next (WC.seq (WC.seq (WC.region ?_))))
 refine sg 5 [] [0, 1, 10] [(0, (sv Aa p0 ca)), (1, (sv Ab p1 cb)), (10, (bv ((p0.length : Int) != (p1.length : Int))))] (by kernel_rfl) ?_
 refine WL.done rfl (WX.next ?_)
 rcases br_some hf with ⟨h3, hf⟩ | ⟨h3, hf⟩
 ·refine WC.condT2 (fun fb => by kernel_rfl) h3 ?_
  refine WC.seq (WC.region ?_)
  refine sg 1 [] [4] [(4, (bv false))] (by kernel_rfl) ?_
  refine WL.done rfl (WX.next ?_)
  refine WC.ret ?_
  injection hf with hf
  subst hf
  exact WX.thenR (WX.ret_ [] (bv false) [] (fun fb => by kernel_rfl) trivial ⟨_, rfl, rfl, hS.keep⟩)
 refine WC.condF2 (fun fb => by kernel_rfl) h3 ?_
 refine WC.skip (WX.next (WC.seq (WC.seq (WC.region ?_))))
 refine sg 1 [] [0, 1, 5] [(0, (sv Aa p0 ca)), (1, (sv Ab p1 cb)), (5, (iv 0))] (by kernel_rfl) ?_
 refine WL.done rfl (WX.next ?_)
 obtain ⟨x5, hx6, hf⟩ := bind_some hf
 refine WC.cutN (T := Unit) (fun t => []) (fun t w1 => St NoS w w1 [rowR enc_Tile Aa ca p0, rowR enc_Tile Ab cb p1] [] ∧ x5 = .inr t) (fun Kx5 => ?_) ?_
 ·
  refine WC.block ?_
  refine WC.loop (T := Int) (fun t => [(0, (sv Aa p0 ca)), (1, (sv Ab p1 cb)), (5, (iv t))]) (fun n t w1 => St NoS w w1 [rowR enc_Tile Aa ca p0, rowR enc_Tile Ab cb p1] [] ∧ ref01_SameSet.l0 n t p0 p1 = some x5) k 0 [0, 1, 5] rfl ⟨(hS.subR [0, 1]).sub [] (by decide), hx6⟩ ?_
  rintro k7 x4 w8 ⟨hS9, hl10⟩
  let e4 := (x4).toNat * 4
  let e1 : List (Nat × Addr × Value) := [(3, ((adr Aa).add e4), (iv ((rdD p0 x4 z_Tile).N))), (3, (((adr Aa).add e4).add 1), (iv ((rdD p0 x4 z_Tile).E))), (3, (((adr Aa).add e4).add 2), (iv ((rdD p0 x4 z_Tile).S))), (3, (((adr Aa).add e4).add 3), (iv ((rdD p0 x4 z_Tile).W))), (7, ((adr Ab).add e4), (iv ((rdD p1 x4 z_Tile).N))), (7, (((adr Ab).add e4).add 1), (iv ((rdD p1 x4 z_Tile).E))), (7, (((adr Ab).add e4).add 2), (iv ((rdD p1 x4 z_Tile).S))), (7, (((adr Ab).add e4).add 3), (iv ((rdD p1 x4 z_Tile).W)))]
  let e2 := rdD p0 x4 z_Tile
  let e3 := rdD p1 x4 z_Tile
  cases k7 with
  | zero => rw [ref01_SameSet.l0] at hl10; cases hl10
  | succ k7 =>
   rw [ref01_SameSet.l0] at hl10
   refine WC.seq (WC.seq (WC.region ?_))
   refine sg 4 [] [0, 1, 5, 14] [(0, (sv Aa p0 ca)), (1, (sv Ab p1 cb)), (5, (iv x4)), (14, (bv (decide (x4 < (p0.length : Int)))))] (by kernel_rfl) ?_
   refine WL.done rfl (WX.next ?_)
   rcases br_some hl10 with ⟨h11, hl10⟩ | ⟨h11, hl10⟩
   ·refine WC.condT2 (fun fb => by kernel_rfl) h11 ?_
    refine WC.skip (WX.next (WC.seq (WC.block (WC.seq ?_))))
    obtain ⟨h14, hl10⟩ := as_some hl10
    obtain ⟨h15, hl10⟩ := as_some hl10
    refine WC.regionD (e1, [0, 1, 2, 3, 4, 5, 6, 7, 8], [[], [], [0, 1], [0, 1, 2], [], [], [4, 5], [4, 5, 6], [0, 1, 2, 3, 4, 5, 6, 7]]) [[0, 1, 2, 3, 4, 5, 6, 7, 8]] (by kernel_rfl) (by kernel_rfl) (NoPanic.seq (NoPanic.block (NoPanic.seq (NoPanic.seq (NoPanic.block (NoPanic.seq (NoPanic.body))))))) ?_
    have hS13 := hS9.drew
    revert hS13
    generalize World.drew w8 = w12
    intro hS13
    refine ⟨⟨rowR.cell (hS13.rd 0).1 z_Tile h14.1 h14.2 0 rfl, rowR.cell (hS13.rd 0).1 z_Tile h14.1 h14.2 1 rfl, rowR.cell (hS13.rd 0).1 z_Tile h14.1 h14.2 2 rfl, rowR.cell (hS13.rd 0).1 z_Tile h14.1 h14.2 3 rfl, rowR.cell (hS13.rd 1).1 z_Tile h15.1 h15.2 0 rfl, rowR.cell (hS13.rd 1).1 z_Tile h15.1 h15.2 1 rfl, rowR.cell (hS13.rd 1).1 z_Tile h15.1 h15.2 2 rfl, rowR.cell (hS13.rd 1).1 z_Tile h15.1 h15.2 3 rfl, trivial⟩, forallC ?_ (forallN)⟩
    refine segF 9 [.v (iv (e2.N)), .v (iv (e2.E)), .v (iv (e2.S)), .v (iv (e2.W)), .v (iv (e3.N)), .v (iv (e3.E)), .v (iv (e3.S)), .v (iv (e3.W))] [0, 1, 5, 25] [(0, (sv Aa p0 ca)), (1, (sv Ab p1 cb)), (5, (iv x4)), (25, (bv (!((e2.N) == (e3.N) && ((e2.E) == (e3.E) && ((e2.S) == (e3.S) && ((e2.W) == (e3.W))))))))] [.idx Aa x4 p0.length, .idx Ab x4 p1.length] [0, 1, 2, 3, 4, 5, 6, 7] e1 (fun fb => by kernel_rfl) rfl ⟨rowR.adr (hS13.rd 0).1 h14.1 h14.2, rowR.adr (hS13.rd 1).1 h15.1 h15.2, trivial⟩ rfl ?_
    refine WL.done rfl (WX.next ?_)
    rcases br_some hl10 with ⟨h17, hl10⟩ | ⟨h17, hl10⟩
    ·refine WC.condT2 (fun fb => by kernel_rfl) h17 ?_
     refine WC.seq (WC.region ?_)
     refine sg 1 [] [4] [(4, (bv false))] (by kernel_rfl) ?_
     refine WL.done rfl (WX.next ?_)
     refine WC.ret ?_
     injection hl10 with hl10
     subst hl10
     injection hf with hf
     subst hf
     exact WX.blockR (WX.thenR (WX.thenR (WX.blockR (WX.thenR (WX.ret_ [] (bv false) [] (fun fb => by kernel_rfl) trivial ⟨_, rfl, rfl, hS13.keep⟩)))))
    refine WC.condF2 (fun fb => by kernel_rfl) h17 ?_
    refine WC.skip ?_
    refine WX.blockN (WX.next ?_)
    refine WC.region ?_
    refine sg 3 [] [0, 1, 5] [(0, (sv Aa p0 ca)), (1, (sv Ab p1 cb)), (5, (iv (w64 (x4 + 1))))] (by kernel_rfl) ?_
    refine WL.done rfl ?_
    exact WX.again k7 (Nat.lt_succ_self _) (w64 (x4 + 1)) [0, 1, 5] rfl ⟨(hS13.subR [0, 1]).sub [] (by decide), hl10⟩
   refine WC.condF2 (fun fb => by kernel_rfl) h11 ?_
   refine WC.exit ?_
   injection hl10 with hl10
   exact WX.thenX (WX.thenX (WX.blockHere (WX.to Kx5 () [] rfl ⟨(hS9.subR [0, 1]).sub [] (by decide), hl10.symm⟩)))
 rintro y21 w18 ⟨hS19, hq20⟩
 subst hq20
 have hf := sum_inr hf
 refine WX.next (WC.seq (WC.region ?_))
 refine sg 1 [] [4] [(4, (bv true))] (by kernel_rfl) ?_
 refine WL.done rfl (WX.next ?_)
 refine WC.ret ?_
 injection hf with hf
 subst hf
 exact WX.ret_ [] (bv true) [] (fun fb => by kernel_rfl) trivial ⟨_, rfl, rfl, hS19.keep⟩
theorem ref01_Same_calls (k : Nat) (p0 : List Int) (p1 : List Int) (Aa : Option Addr) (ca : Nat) (Ab : Option Addr) (cb : Nat) (r : Bool) (w : World) (hR0 : RO NoS w (rowR encInt Aa ca p0)) (hR1 : RO NoS w (rowR encInt Ab cb p1)) (hf : ref01_Same k p0 p1 = some r) :
  CallsR Tryz.prog 29 #[(sv Aa p0 ca), (sv Ab p1 cb)] w (fun v w' => v = (bv r) ∧ Keeps NoS w w') := by
 have hS : St NoS w w [rowR encInt Aa ca p0, rowR encInt Ab cb p1] [] := St.init (ro_cons hR0 (ro_cons hR1 (ro_nil _ _)))
 refine enter 26 Tryz.func29 rfl Tryz.ntmps29 rfl ?_
 unfold ref01_Same at hf
 refine WC.seq (WC.region ?_)
 refine sg 1 [] [0, 1] [(0, (sv Aa p0 ca)), (1, (sv Ab p1 cb))] (by kernel_rfl) ?_
 refine WL.done rfl (WX.next (WC.seq (WC.seq (WC.region ?_))))
 refine sg 5 [] [0, 1, 10] [(0, (sv Aa p0 ca)), (1, (sv Ab p1 cb)), (10, (bv ((p0.length : Int) != (p1.length : Int))))] (by kernel_rfl) ?_
 refine WL.done rfl (WX.next ?_)
 rcases br_some hf with ⟨h3, hf⟩ | ⟨h3, hf⟩
 ·refine WC.condT2 (fun fb => by kernel_rfl) h3 ?_
  refine WC.seq (WC.region ?_)
  refine sg 1 [] [4] [(4, (bv false))] (by kernel_rfl) ?_
  refine WL.done rfl (WX.next ?_)
  refine WC.ret ?_
  injection hf with hf
  subst hf
  exact WX.thenR (WX.ret_ [] (bv false) [] (fun fb => by kernel_rfl) trivial ⟨_, rfl, rfl, hS.keep⟩)
 refine WC.condF2 (fun fb => by kernel_rfl) h3 ?_
 refine WC.skip (WX.next (WC.seq (WC.seq (WC.region ?_))))
 refine sg 1 [] [0, 1, 5] [(0, (sv Aa p0 ca)), (1, (sv Ab p1 cb)), (5, (iv 0))] (by kernel_rfl) ?_
 refine WL.done rfl (WX.next ?_)
 obtain ⟨x5, hx6, hf⟩ := bind_some hf
 refine WC.cutN (T := Unit) (fun t => []) (fun t w1 => St NoS w w1 [rowR encInt Aa ca p0, rowR encInt Ab cb p1] [] ∧ x5 = .inr t) (fun Kx5 => ?_) ?_
 ·
  refine WC.block ?_
  refine WC.loop (T := Int) (fun t => [(0, (sv Aa p0 ca)), (1, (sv Ab p1 cb)), (5, (iv t))]) (fun n t w1 => St NoS w w1 [rowR encInt Aa ca p0, rowR encInt Ab cb p1] [] ∧ ref01_Same.l0 n t p0 p1 = some x5) k 0 [0, 1, 5] rfl ⟨(hS.subR [0, 1]).sub [] (by decide), hx6⟩ ?_
  rintro k7 x4 w8 ⟨hS9, hl10⟩
  let e1 : List (Nat × Addr × Value) := [(3, ((adr Aa).add ((x4).toNat * 1)), (iv (rdD p0 x4 0))), (7, ((adr Ab).add ((x4).toNat * 1)), (iv (rdD p1 x4 0)))]
  cases k7 with
  | zero => rw [ref01_Same.l0] at hl10; cases hl10
  | succ k7 =>
   rw [ref01_Same.l0] at hl10
   refine WC.seq (WC.seq (WC.region ?_))
   refine sg 4 [] [0, 1, 5, 14] [(0, (sv Aa p0 ca)), (1, (sv Ab p1 cb)), (5, (iv x4)), (14, (bv (decide (x4 < (p0.length : Int)))))] (by kernel_rfl) ?_
   refine WL.done rfl (WX.next ?_)
   rcases br_some hl10 with ⟨h11, hl10⟩ | ⟨h11, hl10⟩
   ·refine WC.condT2 (fun fb => by kernel_rfl) h11 ?_
    refine WC.skip (WX.next (WC.seq (WC.block (WC.seq ?_))))
    obtain ⟨h14, hl10⟩ := as_some hl10
    obtain ⟨h15, hl10⟩ := as_some hl10
    refine WC.regionD (e1, [0, 1, 2, 3, 4, 5, 6, 7, 8], [[], [], [0, 1], [0, 1, 2], [], [], [4, 5], [4, 5, 6], [0, 1, 2, 3, 4, 5, 6, 7]]) [[0, 1, 2, 3, 4, 5, 6, 7, 8]] (by kernel_rfl) (by kernel_rfl) (NoPanic.seq (NoPanic.block (NoPanic.seq (NoPanic.seq (NoPanic.block (NoPanic.seq (NoPanic.body))))))) ?_
    have hS13 := hS9.drew
    revert hS13
    generalize World.drew w8 = w12
    intro hS13
    refine ⟨⟨rowR.cell (hS13.rd 0).1 0 h14.1 h14.2 0 rfl, rowR.cell (hS13.rd 1).1 0 h15.1 h15.2 0 rfl, trivial⟩, forallC ?_ (forallN)⟩
    refine segF 9 [.v (iv (rdD p0 x4 0)), .v (iv (rdD p1 x4 0))] [0, 1, 5, 25] [(0, (sv Aa p0 ca)), (1, (sv Ab p1 cb)), (5, (iv x4)), (25, (bv ((rdD p0 x4 0) != (rdD p1 x4 0))))] [.idx Aa x4 p0.length, .idx Ab x4 p1.length] [0, 1] e1 (fun fb => by kernel_rfl) rfl ⟨rowR.adr (hS13.rd 0).1 h14.1 h14.2, rowR.adr (hS13.rd 1).1 h15.1 h15.2, trivial⟩ rfl ?_
    refine WL.done rfl (WX.next ?_)
    rcases br_some hl10 with ⟨h16, hl10⟩ | ⟨h16, hl10⟩
    ·refine WC.condT2 (fun fb => by kernel_rfl) h16 ?_
     refine WC.seq (WC.region ?_)
     refine sg 1 [] [4] [(4, (bv false))] (by kernel_rfl) ?_
     refine WL.done rfl (WX.next ?_)
     refine WC.ret ?_
     injection hl10 with hl10
     subst hl10
     injection hf with hf
     subst hf
     exact WX.blockR (WX.thenR (WX.thenR (WX.blockR (WX.thenR (WX.ret_ [] (bv false) [] (fun fb => by kernel_rfl) trivial ⟨_, rfl, rfl, hS13.keep⟩)))))
    refine WC.condF2 (fun fb => by kernel_rfl) h16 ?_
    refine WC.skip ?_
    refine WX.blockN (WX.next ?_)
    refine WC.region ?_
    refine sg 3 [] [0, 1, 5] [(0, (sv Aa p0 ca)), (1, (sv Ab p1 cb)), (5, (iv (w64 (x4 + 1))))] (by kernel_rfl) ?_
    refine WL.done rfl ?_
    exact WX.again k7 (Nat.lt_succ_self _) (w64 (x4 + 1)) [0, 1, 5] rfl ⟨(hS13.subR [0, 1]).sub [] (by decide), hl10⟩
   refine WC.condF2 (fun fb => by kernel_rfl) h11 ?_
   refine WC.exit ?_
   injection hl10 with hl10
   exact WX.thenX (WX.thenX (WX.blockHere (WX.to Kx5 () [] rfl ⟨(hS9.subR [0, 1]).sub [] (by decide), hl10.symm⟩)))
 rintro y20 w17 ⟨hS18, hq19⟩
 subst hq19
 have hf := sum_inr hf
 refine WX.next (WC.seq (WC.region ?_))
 refine sg 1 [] [4] [(4, (bv true))] (by kernel_rfl) ?_
 refine WL.done rfl (WX.next ?_)
 refine WC.ret ?_
 injection hf with hf
 subst hf
 exact WX.ret_ [] (bv true) [] (fun fb => by kernel_rfl) trivial ⟨_, rfl, rfl, hS18.keep⟩
theorem law07_awake_calls (k : Nat)   (r : Bool) (w : World)  (hf : law07_awake k = some r) :
  CallsR Tryz.prog 8 #[] w (fun v w' => v = (bv r) ∧ Keeps NoS w w') := by
 have hS : St NoS w w [] [] := St.init (ro_nil _ _)
 refine enter 77 Tryz.func8 rfl Tryz.ntmps8 rfl ?_
 unfold law07_awake at hf
 refine WC.seq (WC.region ?_)
 refine sg 1 [] [] [] (by kernel_rfl) ?_
 refine WL.done rfl (WX.next (WC.seq (WC.region ?_)))
 refine sg 4 [] [14] [(14, (.agg #[(iv 1), (iv 1), (iv 1), (iv 1), (iv 2), (iv 1)]))] (by kernel_rfl) ?_
 refine WL.new hS 15 [] (fun g => (.slice (some ⟨g, 0, none⟩) 1 1)) (.cells #[(iv 1), (iv 1), (iv 1), (iv 1), (iv 2), (iv 1)] 66 (0, 0)) [] (fun fb g => by kernel_rfl) trivial (fun g2 w3 hS4 => ?_)
 refine ⟨trivial, ?_⟩
 have hS6 := hS.go w3 [rowO 66 enc_Piece (some ⟨g2, 0, none⟩) 1 [(Piece.mk (Frac.mk 1 1) (Frac.mk 1 1) (Frac.mk 2 1))]] (hS4.map1 0 _ (fun h => rowO.ofBlk h rfl (Nat.le_of_ble_eq_true (by kernel_rfl))) (fun _ h => by obtain ⟨_, h1, h2⟩ := h; injection h1 with h1; subst h1; exact h2) [] (by decide) (by decide))
 refine sg 6 [] [1] [(1, (sv (some ⟨g2, 0, none⟩) [(Piece.mk (Frac.mk 1 1) (Frac.mk 1 1) (Frac.mk 2 1))] 1))] (by kernel_rfl) ?_
 refine WL.done rfl (WX.next (WC.seq (WC.region ?_)))
 let e2 := sv (some ⟨g2, 0, none⟩) [(Piece.mk (Frac.mk 1 1) (Frac.mk 1 1) (Frac.mk 2 1))] 1
 refine sg 1 [] [1, 17] [(1, e2), (17, e2)] (by kernel_rfl) ?_
 obtain ⟨t5, ht9, hf⟩ := bind_some hf
 refine WL.call (some 18) 10 #[e2] (fun fb => by kernel_rfl) (beatty_Tiles_calls _ [(Piece.mk (Frac.mk 1 1) (Frac.mk 1 1) (Frac.mk 2 1))] (some ⟨g2, 0, none⟩) 1 t5 _ (hS6.ow 0).ofO ht9) (fun v w10 hR11 => ?_)
 obtain ⟨A13, c14, rfl, hk_⟩ := hR11
 have hS12 := hS6.go w10 [rowO 64 enc_Tile A13 c14 t5.1, rowO 66 enc_Piece (some ⟨g2, 0, none⟩) 1 [(Piece.mk (Frac.mk 1 1) (Frac.mk 1 1) (Frac.mk 2 1))]] (hS6.call hk_ [] [0] (fun g hg => hg.elim) (by simp) (by decide))
 refine ⟨trivial, ?_⟩
 refine sg 7 [] [1, 2, 3] [(1, e2), (2, (sv A13 t5.1 c14)), (3, (iv t5.2))] (by kernel_rfl) ?_
 refine WL.done rfl (WX.next (WC.seq (WC.region ?_)))
 refine sg 1 [] [2, 3, 22] [(2, (sv A13 t5.1 c14)), (3, (iv t5.2)), (22, e2)] (by kernel_rfl) ?_
 obtain ⟨t15, ht16, hf⟩ := bind_some hf
 refine WL.call (some 23) 17 #[e2] (fun fb => by kernel_rfl) (beatty_Weigh_calls _ [(Piece.mk (Frac.mk 1 1) (Frac.mk 1 1) (Frac.mk 2 1))] (some ⟨g2, 0, none⟩) 1 t15 _ (hS12.ow 1).ofO ht16) (fun v w17 hR18 => ?_)
 obtain ⟨A20, c21, A22, c23, A24, c25, A26, c27, A28, c29, rfl, hk_⟩ := hR18
 have hS19 := hS12.go w17 [rowO 44 enc_Frac A20 c21 t15.1.Values, rowO 44 enc_Frac A22 c23 t15.1.Carries, rowO 44 enc_Frac A24 c25 t15.1.Factors, rowO 3 encInt A26 c27 t15.1.Primes, rowO 3 encInt A28 c29 t15.1.Logs, rowO 64 enc_Tile A13 c14 t5.1, rowO 66 enc_Piece (some ⟨g2, 0, none⟩) 1 [(Piece.mk (Frac.mk 1 1) (Frac.mk 1 1) (Frac.mk 2 1))]] (hS12.call hk_ [] [0, 1] (fun g hg => hg.elim) (by simp) (by decide))
 refine ⟨trivial, ?_⟩
 refine sg 5 [] [2, 3, 24, 25] [(2, (sv A13 t5.1 c14)), (3, (iv t5.2)), (24, (.agg #[(sv A20 t15.1.Values c21), (sv A22 t15.1.Carries c23), (sv A24 t15.1.Factors c25), (sv A26 t15.1.Primes c27), (sv A28 t15.1.Logs c29)])), (25, (iv t15.2))] (by kernel_rfl) ?_
 refine WL.new hS19 4 [] (fun g => (pt g)) (.cells #[(.slice none 0 0), (.slice none 0 0), (.slice none 0 0), (.slice none 0 0), (.slice none 0 0)] 37 (0, 0)) [] (fun fb g => by kernel_rfl) trivial (fun g30 w31 hS32 => ?_)
 refine ⟨trivial, ?_⟩
 refine WL.store hS32 0 rfl [(0, (sv A20 t15.1.Values c21)), (1, (sv A22 t15.1.Carries c23)), (2, (sv A24 t15.1.Factors c25)), (3, (sv A26 t15.1.Primes c27)), (4, (sv A28 t15.1.Logs c29))] #[(sv A20 t15.1.Values c21), (sv A22 t15.1.Carries c23), (sv A24 t15.1.Factors c25), (sv A26 t15.1.Primes c27), (sv A28 t15.1.Logs c29)] (fun fb => by kernel_rfl) (by kernel_rfl) rfl [1, 2, 3, 4, 5, 6, 7] (by decide) (by decide) (fun w33 hS34 => ?_)
 refine ⟨trivial, ?_⟩
 refine sg 8 [] [2, 3, 5] [(2, (sv A13 t5.1 c14)), (3, (iv t5.2)), (5, (iv t15.2))] (by kernel_rfl) ?_
 refine WL.done rfl (WX.next (WC.seq (WC.region ?_)))
 refine sg 4 [] [2, 3, 5, 29] [(2, (sv A13 t5.1 c14)), (3, (iv t5.2)), (5, (iv t15.2)), (29, (.agg #[(iv 2), (iv 1), (iv 1), (iv 2), (iv 1), (iv 1)]))] (by kernel_rfl) ?_
 refine WL.new hS34 30 [] (fun g => (.slice (some ⟨g, 0, none⟩) 1 1)) (.cells #[(iv 2), (iv 1), (iv 1), (iv 2), (iv 1), (iv 1)] 66 (0, 0)) [] (fun fb g => by kernel_rfl) trivial (fun g35 w36 hS37 => ?_)
 refine ⟨trivial, ?_⟩
 have hS38 := hS19.go w36 [rowO 66 enc_Piece (some ⟨g35, 0, none⟩) 1 [(Piece.mk (Frac.mk 2 1) (Frac.mk 1 2) (Frac.mk 1 1))], blk g30 (.cells #[(sv A20 t15.1.Values c21), (sv A22 t15.1.Carries c23), (sv A24 t15.1.Factors c25), (sv A26 t15.1.Primes c27), (sv A28 t15.1.Logs c29)] 37 (0, 0)), rowO 44 enc_Frac A20 c21 t15.1.Values, rowO 44 enc_Frac A22 c23 t15.1.Carries, rowO 44 enc_Frac A24 c25 t15.1.Factors, rowO 3 encInt A26 c27 t15.1.Primes, rowO 3 encInt A28 c29 t15.1.Logs, rowO 64 enc_Tile A13 c14 t5.1, rowO 66 enc_Piece (some ⟨g2, 0, none⟩) 1 [(Piece.mk (Frac.mk 1 1) (Frac.mk 1 1) (Frac.mk 2 1))]] (hS37.map1 0 _ (fun h => rowO.ofBlk h rfl (Nat.le_of_ble_eq_true (by kernel_rfl))) (fun _ h => by obtain ⟨_, h1, h2⟩ := h; injection h1 with h1; subst h1; exact h2) [1, 2, 3, 4, 5, 6, 7, 8] (by decide) (by decide))
 refine sg 6 [] [2, 3, 5, 6] [(2, (sv A13 t5.1 c14)), (3, (iv t5.2)), (5, (iv t15.2)), (6, (sv (some ⟨g35, 0, none⟩) [(Piece.mk (Frac.mk 2 1) (Frac.mk 1 2) (Frac.mk 1 1))] 1))] (by kernel_rfl) ?_
 refine WL.done rfl (WX.next (WC.seq (WC.region ?_)))
 refine sg 1 [] [2, 3, 5, 32] [(2, (sv A13 t5.1 c14)), (3, (iv t5.2)), (5, (iv t15.2)), (32, (sv (some ⟨g35, 0, none⟩) [(Piece.mk (Frac.mk 2 1) (Frac.mk 1 2) (Frac.mk 1 1))] 1))] (by kernel_rfl) ?_
 obtain ⟨t39, ht40, hf⟩ := bind_some hf
 let e6 := [(Piece.mk (Frac.mk 2 1) (Frac.mk 1 2) (Frac.mk 1 1))]
 refine WL.call (some 33) 17 #[(sv (some ⟨g35, 0, none⟩) e6 1)] (fun fb => by kernel_rfl) (beatty_Weigh_calls _ e6 (some ⟨g35, 0, none⟩) 1 t39 _ (hS38.ow 0).ofO ht40) (fun v w41 hR42 => ?_)
 obtain ⟨A44, c45, A46, c47, A48, c49, A50, c51, A52, c53, rfl, hk_⟩ := hR42
 have hS43 := hS38.go w41 [rowO 44 enc_Frac A44 c45 t39.1.Values, rowO 44 enc_Frac A46 c47 t39.1.Carries, rowO 44 enc_Frac A48 c49 t39.1.Factors, rowO 3 encInt A50 c51 t39.1.Primes, rowO 3 encInt A52 c53 t39.1.Logs, rowO 66 enc_Piece (some ⟨g35, 0, none⟩) 1 [(Piece.mk (Frac.mk 2 1) (Frac.mk 1 2) (Frac.mk 1 1))], blk g30 (.cells #[(.slice A20 t15.1.Values.length c21), (.slice A22 t15.1.Carries.length c23), (.slice A24 t15.1.Factors.length c25), (.slice A26 t15.1.Primes.length c27), (.slice A28 t15.1.Logs.length c29)] 37 (0, 0)), rowO 44 enc_Frac A20 c21 t15.1.Values, rowO 44 enc_Frac A22 c23 t15.1.Carries, rowO 44 enc_Frac A24 c25 t15.1.Factors, rowO 3 encInt A26 c27 t15.1.Primes, rowO 3 encInt A28 c29 t15.1.Logs, rowO 64 enc_Tile A13 c14 t5.1, rowO 66 enc_Piece (some ⟨g2, 0, none⟩) 1 [(Piece.mk (Frac.mk 1 1) (Frac.mk 1 1) (Frac.mk 2 1))]] (hS38.call hk_ [] [0, 1, 2, 3, 4, 5, 6, 7, 8] (fun g hg => hg.elim) (by simp) (by decide))
 refine ⟨trivial, ?_⟩
 refine sg 5 [] [2, 3, 5, 34, 35] [(2, (sv A13 t5.1 c14)), (3, (iv t5.2)), (5, (iv t15.2)), (34, (.agg #[(sv A44 t39.1.Values c45), (sv A46 t39.1.Carries c47), (sv A48 t39.1.Factors c49), (sv A50 t39.1.Primes c51), (sv A52 t39.1.Logs c53)])), (35, (iv t39.2))] (by kernel_rfl) ?_
 refine WL.new hS43 7 [] (fun g => (pt g)) (.cells #[(.slice none 0 0), (.slice none 0 0), (.slice none 0 0), (.slice none 0 0), (.slice none 0 0)] 37 (0, 0)) [] (fun fb g => by kernel_rfl) trivial (fun g54 w55 hS56 => ?_)
 refine ⟨trivial, ?_⟩
 refine WL.store hS56 0 rfl [(0, (sv A44 t39.1.Values c45)), (1, (sv A46 t39.1.Carries c47)), (2, (sv A48 t39.1.Factors c49)), (3, (sv A50 t39.1.Primes c51)), (4, (sv A52 t39.1.Logs c53))] #[(sv A44 t39.1.Values c45), (sv A46 t39.1.Carries c47), (sv A48 t39.1.Factors c49), (sv A50 t39.1.Primes c51), (sv A52 t39.1.Logs c53)] (fun fb => by kernel_rfl) (by kernel_rfl) rfl [1, 2, 3, 4, 5, 6, 7, 8, 9, 10, 11, 12, 13, 14] (by decide) (by decide) (fun w57 hS58 => ?_)
 refine ⟨trivial, ?_⟩
 refine sg 8 [] [2, 3, 5, 7, 8] [(2, (sv A13 t5.1 c14)), (3, (iv t5.2)), (5, (iv t15.2)), (7, (pt g54)), (8, (iv t39.2))] (by kernel_rfl) ?_
 refine WL.done rfl (WX.next (WC.seq (WC.region ?_)))
 obtain ⟨t59, ht60, hf⟩ := bind_some hf
 refine WL.call (some 37) 28 #[] (fun fb => by kernel_rfl) (law07_Kari_calls t59 _ ht60) (fun v w61 hR62 => ?_)
 obtain ⟨A65, c66, rfl, hk_⟩ := hR62
 have hS63 := hS43.go w61 [rowO 66 enc_Piece A65 c66 t59, blk g54 (.cells #[(.slice A44 t39.1.Values.length c45), (.slice A46 t39.1.Carries.length c47), (.slice A48 t39.1.Factors.length c49), (.slice A50 t39.1.Primes.length c51), (.slice A52 t39.1.Logs.length c53)] 37 (0, 0)), rowO 44 enc_Frac A44 c45 t39.1.Values, rowO 44 enc_Frac A46 c47 t39.1.Carries, rowO 44 enc_Frac A48 c49 t39.1.Factors, rowO 3 encInt A50 c51 t39.1.Primes, rowO 3 encInt A52 c53 t39.1.Logs, rowO 66 enc_Piece (some ⟨g35, 0, none⟩) 1 [(Piece.mk (Frac.mk 2 1) (Frac.mk 1 2) (Frac.mk 1 1))], blk g30 (.cells #[(.slice A20 t15.1.Values.length c21), (.slice A22 t15.1.Carries.length c23), (.slice A24 t15.1.Factors.length c25), (.slice A26 t15.1.Primes.length c27), (.slice A28 t15.1.Logs.length c29)] 37 (0, 0)), rowO 44 enc_Frac A20 c21 t15.1.Values, rowO 44 enc_Frac A22 c23 t15.1.Carries, rowO 44 enc_Frac A24 c25 t15.1.Factors, rowO 3 encInt A26 c27 t15.1.Primes, rowO 3 encInt A28 c29 t15.1.Logs, rowO 64 enc_Tile A13 c14 t5.1, rowO 66 enc_Piece (some ⟨g2, 0, none⟩) 1 [(Piece.mk (Frac.mk 1 1) (Frac.mk 1 1) (Frac.mk 2 1))]] (hS58.call hk_ [] [0, 1, 2, 3, 4, 5, 6, 7, 8, 9, 10, 11, 12, 13, 14] (fun g hg => hg.elim) (by simp) (by decide))
 refine ⟨trivial, ?_⟩
 obtain ⟨t67, ht68, hf⟩ := bind_some hf
 refine WL.call (some 38) 9 #[(sv A65 t59 c66)] (fun fb => by kernel_rfl) (beatty_Closed_calls _ t59 A65 c66 t67 _ (hS63.ow 0).ofO ht68) (fun v w69 hR70 => ?_)
 obtain ⟨rfl, hk_⟩ := hR70
 have hS71 := hS63.keepN hk_
 refine ⟨trivial, ?_⟩
 refine sg 7 [] [2, 3, 5, 7, 8, 9, 10] [(2, (sv A13 t5.1 c14)), (3, (iv t5.2)), (5, (iv t15.2)), (7, (pt g54)), (8, (iv t39.2)), (9, (bv t67.1)), (10, (iv t67.2))] (by kernel_rfl) ?_
 refine WL.done rfl (WX.next (WC.seq (WC.region ?_)))
 refine sg 3 [] [2, 5, 7, 8, 9, 10, 43] [(2, (sv A13 t5.1 c14)), (5, (iv t15.2)), (7, (pt g54)), (8, (iv t39.2)), (9, (bv t67.1)), (10, (iv t67.2)), (43, (bv (t5.2 == 0)))] (by kernel_rfl) ?_
 obtain ⟨x72, hx73, hf⟩ := bind_some hf
 let e1 : Array Value := #[(sv A44 t39.1.Values c45), (sv A46 t39.1.Carries c47), (sv A48 t39.1.Factors c49), (sv A50 t39.1.Primes c51), (sv A52 t39.1.Logs c53)]
 let e3 := [(Tile.mk 1 0 1 0), (Tile.mk 2 0 2 0)]
 let e7 : List Nat := [5, 7, 8, 9, 10, 49]
 refine WL.cutW (T := Bool) 9 (fun t => [(5, (iv t15.2)), (7, (pt g54)), (8, (iv t39.2)), (9, (bv t67.1)), (10, (iv t67.2)), (49, (bv t))]) (fun t w1 => (St NoS w w1 [] [blk g54 (.cells e1 37 (0, 0)), rowO 44 enc_Frac A44 c45 t39.1.Values, rowO 44 enc_Frac A46 c47 t39.1.Carries, rowO 44 enc_Frac A48 c49 t39.1.Factors, rowO 3 encInt A50 c51 t39.1.Primes, rowO 3 encInt A52 c53 t39.1.Logs] ∧ x72 = t) ∧ CellsOK [] w1) (fun K => ?_) ?_
 ·
  rcases br_some hx73 with ⟨h74, hx73⟩ | ⟨h74, hx73⟩
  ·
   refine WL.setB 43 h74 rfl ?_
   refine sg 6 [] [5, 7, 8, 9, 10, 43, 44, 45, 46] [(5, (iv t15.2)), (7, (pt g54)), (8, (iv t39.2)), (9, (bv t67.1)), (10, (iv t67.2)), (43, (bv true)), (44, (sv A13 t5.1 c14)), (45, (.agg #[(iv 1), (iv 0), (iv 1), (iv 0)])), (46, (.agg #[(iv 2), (iv 0), (iv 2), (iv 0)]))] (by kernel_rfl) ?_
   refine WL.new hS71 47 [] (fun g => (.slice (some ⟨g, 0, none⟩) 2 2)) (.cells #[(iv 1), (iv 0), (iv 1), (iv 0), (iv 2), (iv 0), (iv 2), (iv 0)] 64 (0, 0)) [] (fun fb g => by kernel_rfl) trivial (fun g75 w76 hS77 => ?_)
   refine ⟨trivial, ?_⟩
   have hS78 := hS63.go w76 [rowO 64 enc_Tile (some ⟨g75, 0, none⟩) 2 e3, rowO 66 enc_Piece A65 c66 t59, blk g54 (.cells e1 37 (0, 0)), rowO 44 enc_Frac A44 c45 t39.1.Values, rowO 44 enc_Frac A46 c47 t39.1.Carries, rowO 44 enc_Frac A48 c49 t39.1.Factors, rowO 3 encInt A50 c51 t39.1.Primes, rowO 3 encInt A52 c53 t39.1.Logs, rowO 66 enc_Piece (some ⟨g35, 0, none⟩) 1 e6, blk g30 (.cells #[(sv A20 t15.1.Values c21), (sv A22 t15.1.Carries c23), (sv A24 t15.1.Factors c25), (sv A26 t15.1.Primes c27), (sv A28 t15.1.Logs c29)] 37 (0, 0)), rowO 44 enc_Frac A20 c21 t15.1.Values, rowO 44 enc_Frac A22 c23 t15.1.Carries, rowO 44 enc_Frac A24 c25 t15.1.Factors, rowO 3 encInt A26 c27 t15.1.Primes, rowO 3 encInt A28 c29 t15.1.Logs, rowO 64 enc_Tile A13 c14 t5.1, rowO 66 enc_Piece (some ⟨g2, 0, none⟩) 1 [(Piece.mk (Frac.mk 1 1) (Frac.mk 1 1) (Frac.mk 2 1))]] (hS77.map1 0 _ (fun h => rowO.ofBlk h rfl (Nat.le_of_ble_eq_true (by kernel_rfl))) (fun _ h => by obtain ⟨_, h1, h2⟩ := h; injection h1 with h1; subst h1; exact h2) [1, 2, 3, 4, 5, 6, 7, 8, 9, 10, 11, 12, 13, 14, 15, 16] (by decide) (by decide))
   obtain ⟨t79, ht80, hx73⟩ := bind_some hx73
   refine WL.call (some 48) 16 #[(sv A13 t5.1 c14), (sv (some ⟨g75, 0, none⟩) e3 2)] (fun fb => by kernel_rfl) (ref01_SameSet_calls _ t5.1 e3 A13 c14 (some ⟨g75, 0, none⟩) 2 t79 _ (hS78.ow 15).ofO (hS78.ow 0).ofO ht80) (fun v w81 hR82 => ?_)
   obtain ⟨rfl, hk_⟩ := hR82
   have hS83 := hS78.keepN hk_
   refine ⟨trivial, ?_⟩
   refine sg 9 [] e7 [(5, (iv t15.2)), (7, (pt g54)), (8, (iv t39.2)), (9, (bv t67.1)), (10, (iv t67.2)), (49, (bv t79))] (by kernel_rfl) ?_
   injection hx73 with hx73
   exact WL.to K t79 e7 rfl ⟨⟨(hS83.subR []).sub [2, 3, 4, 5, 6, 7] (by decide), hx73.symm⟩, trivial⟩
  refine WL.setB 43 h74 rfl ?_
  refine sg 9 [] e7 [(5, (iv t15.2)), (7, (pt g54)), (8, (iv t39.2)), (9, (bv t67.1)), (10, (iv t67.2)), (49, (bv false))] (by kernel_rfl) ?_
  injection hx73 with hx73
  exact WL.to K false e7 rfl ⟨⟨(hS71.subR []).sub [1, 2, 3, 4, 5, 6] (by decide), hx73.symm⟩, trivial⟩
 rintro y84 w86 ⟨⟨hS87, hq85⟩, hF88⟩
 subst hq85
 refine sg 10 [] [5, 7, 8, 9, 10, 50] [(5, (iv t15.2)), (7, (pt g54)), (8, (iv t39.2)), (9, (bv t67.1)), (10, (iv t67.2)), (50, (bv x72))] (by kernel_rfl) ?_
 refine WL.cutV (T := Bool) 13 (fun t => [(53, (bv t)), (7, (pt g54)), (8, (iv t39.2)), (9, (bv t67.1)), (10, (iv t67.2))]) (fun t => (x72 && (t15.2 == 6)) = t) (fun K => ?_) ?_
 ·
  rcases Bool.eq_false_or_eq_true x72 with h89 | h89
  ·
   refine WL.setB 50 h89 rfl ?_
   refine sg 13 [] [7, 8, 9, 10, 53] [(7, (pt g54)), (8, (iv t39.2)), (9, (bv t67.1)), (10, (iv t67.2)), (53, (bv (t15.2 == 6)))] (by kernel_rfl) ?_
   exact WL.toV K (t15.2 == 6) [53, 7, 8, 9, 10] rfl (by first | (rw [h89]; done) | (rw [h89]; rfl))
  refine WL.setB 50 h89 rfl ?_
  refine sg 13 [] [7, 8, 9, 10, 53] [(7, (pt g54)), (8, (iv t39.2)), (9, (bv t67.1)), (10, (iv t67.2)), (53, (bv false))] (by kernel_rfl) ?_
  exact WL.toV K false [53, 7, 8, 9, 10] rfl (by first | (rw [h89]; done) | (rw [h89]; rfl))
 rintro b90 rfl
 refine sg 14 [] [7, 8, 9, 10, 54] [(7, (pt g54)), (8, (iv t39.2)), (9, (bv t67.1)), (10, (iv t67.2)), (54, (bv (x72 && (t15.2 == 6))))] (by kernel_rfl) ?_
 refine WL.cutV (T := Bool) 17 (fun t => [(57, (bv t)), (7, (pt g54)), (9, (bv t67.1)), (10, (iv t67.2))]) (fun t => ((x72 && (t15.2 == 6)) && (t39.2 == 0)) = t) (fun K => ?_) ?_
 ·
  rcases Bool.eq_false_or_eq_true (x72 && (t15.2 == 6)) with h91 | h91
  ·
   refine WL.setB 54 h91 rfl ?_
   refine sg 17 [] [7, 9, 10, 57] [(7, (pt g54)), (9, (bv t67.1)), (10, (iv t67.2)), (57, (bv (t39.2 == 0)))] (by kernel_rfl) ?_
   exact WL.toV K (t39.2 == 0) [57, 7, 9, 10] rfl (by first | (rw [h91]; done) | (rw [h91]; rfl))
  refine WL.setB 54 h91 rfl ?_
  refine sg 17 [] [7, 9, 10, 57] [(7, (pt g54)), (9, (bv t67.1)), (10, (iv t67.2)), (57, (bv false))] (by kernel_rfl) ?_
  exact WL.toV K false [57, 7, 9, 10] rfl (by first | (rw [h91]; done) | (rw [h91]; rfl))
 rintro b92 rfl
 refine sg 18 [] [7, 9, 10, 58] [(7, (pt g54)), (9, (bv t67.1)), (10, (iv t67.2)), (58, (bv ((x72 && (t15.2 == 6)) && (t39.2 == 0))))] (by kernel_rfl) ?_
 obtain ⟨x93, hx94, hf⟩ := bind_some hf
 let e4 := sv A50 t39.1.Primes c51
 refine WL.cutW (T := Bool) 23 (fun t => [(7, (pt g54)), (9, (bv t67.1)), (10, (iv t67.2)), (63, (bv t))]) (fun t w1 => (St NoS w w1 [] [blk g54 (.cells e1 37 (0, 0)), rowO 44 enc_Frac A44 c45 t39.1.Values, rowO 44 enc_Frac A46 c47 t39.1.Carries, rowO 44 enc_Frac A48 c49 t39.1.Factors, rowO 3 encInt A50 c51 t39.1.Primes, rowO 3 encInt A52 c53 t39.1.Logs] ∧ x93 = t) ∧ CellsOK [] w1) (fun K => ?_) ?_
 ·
  rcases br_some hx94 with ⟨h95, hx94⟩ | ⟨h95, hx94⟩
  ·
   refine WL.setB 58 h95 rfl ?_
   refine seg 20 [.v e4] [7, 9, 10, 58, 60] [(7, (pt g54)), (9, (bv t67.1)), (10, (iv t67.2)), (58, (bv true)), (60, e4)] [.cell ⟨g54, 3, none⟩ e4] (fun fb => by kernel_rfl) rfl ⟨hS87.cell 0 rfl 3 rfl, trivial⟩ ?_
   refine WL.new hS87 61 [] (fun g => (.slice (some ⟨g, 0, none⟩) 1 1)) (.cells #[(iv 2)] 3 (0, 0)) [] (fun fb g => by kernel_rfl) trivial (fun g96 w97 hS98 => ?_)
   refine ⟨trivial, ?_⟩
   have hS99 := hS63.go w97 [rowO 3 encInt (some ⟨g96, 0, none⟩) 1 [2], blk g54 (.cells e1 37 (0, 0)), rowO 44 enc_Frac A44 c45 t39.1.Values, rowO 44 enc_Frac A46 c47 t39.1.Carries, rowO 44 enc_Frac A48 c49 t39.1.Factors, rowO 3 encInt A50 c51 t39.1.Primes, rowO 3 encInt A52 c53 t39.1.Logs] (hS98.map1 0 _ (fun h => rowO.ofBlk h rfl (Nat.le_of_ble_eq_true (by kernel_rfl))) (fun _ h => by obtain ⟨_, h1, h2⟩ := h; injection h1 with h1; subst h1; exact h2) [1, 2, 3, 4, 5, 6] (by decide) (by decide))
   obtain ⟨t100, ht101, hx94⟩ := bind_some hx94
   refine WL.call (some 62) 29 #[e4, (sv (some ⟨g96, 0, none⟩) [2] 1)] (fun fb => by kernel_rfl) (ref01_Same_calls _ t39.1.Primes [2] A50 c51 (some ⟨g96, 0, none⟩) 1 t100 _ (hS99.ow 5).ofO (hS99.ow 0).ofO ht101) (fun v w102 hR103 => ?_)
   obtain ⟨rfl, hk_⟩ := hR103
   have hS104 := hS99.keepN hk_
   refine ⟨trivial, ?_⟩
   refine sg 23 [] [7, 9, 10, 63] [(7, (pt g54)), (9, (bv t67.1)), (10, (iv t67.2)), (63, (bv t100))] (by kernel_rfl) ?_
   injection hx94 with hx94
   exact WL.to K t100 [7, 9, 10, 63] rfl ⟨⟨(hS104.subR []).sub [1, 2, 3, 4, 5, 6] (by decide), hx94.symm⟩, trivial⟩
  refine WL.setB 58 h95 rfl ?_
  refine sg 23 [] [7, 9, 10, 63] [(7, (pt g54)), (9, (bv t67.1)), (10, (iv t67.2)), (63, (bv false))] (by kernel_rfl) ?_
  injection hx94 with hx94
  exact WL.to K false [7, 9, 10, 63] rfl ⟨⟨(hS87.subR []).sub [0, 1, 2, 3, 4, 5] (by decide), hx94.symm⟩, trivial⟩
 rintro y105 w107 ⟨⟨hS108, hq106⟩, hF109⟩
 subst hq106
 refine sg 24 [] [7, 9, 10, 64] [(7, (pt g54)), (9, (bv t67.1)), (10, (iv t67.2)), (64, (bv x93))] (by kernel_rfl) ?_
 obtain ⟨x110, hx111, hf⟩ := bind_some hf
 let e5 := sv A52 t39.1.Logs c53
 refine WL.cutW (T := Bool) 29 (fun t => [(9, (bv t67.1)), (10, (iv t67.2)), (69, (bv t))]) (fun t w1 => (St NoS w w1 [] [] ∧ x110 = t) ∧ CellsOK [] w1) (fun K => ?_) ?_
 ·
  rcases br_some hx111 with ⟨h112, hx111⟩ | ⟨h112, hx111⟩
  ·
   refine WL.setB 64 h112 rfl ?_
   refine seg 26 [.v e5] [9, 10, 64, 66] [(9, (bv t67.1)), (10, (iv t67.2)), (64, (bv true)), (66, e5)] [.cell ⟨g54, 4, none⟩ e5] (fun fb => by kernel_rfl) rfl ⟨hS108.cell 0 rfl 4 rfl, trivial⟩ ?_
   refine WL.new hS108 67 [] (fun g => (.slice (some ⟨g, 0, none⟩) 1 1)) (.cells #[(iv 1)] 3 (0, 0)) [] (fun fb g => by kernel_rfl) trivial (fun g113 w114 hS115 => ?_)
   refine ⟨trivial, ?_⟩
   have hS116 := hS63.go w114 [rowO 3 encInt (some ⟨g113, 0, none⟩) 1 [1], blk g54 (.cells e1 37 (0, 0)), rowO 44 enc_Frac A44 c45 t39.1.Values, rowO 44 enc_Frac A46 c47 t39.1.Carries, rowO 44 enc_Frac A48 c49 t39.1.Factors, rowO 3 encInt A50 c51 t39.1.Primes, rowO 3 encInt A52 c53 t39.1.Logs] (hS115.map1 0 _ (fun h => rowO.ofBlk h rfl (Nat.le_of_ble_eq_true (by kernel_rfl))) (fun _ h => by obtain ⟨_, h1, h2⟩ := h; injection h1 with h1; subst h1; exact h2) [1, 2, 3, 4, 5, 6] (by decide) (by decide))
   obtain ⟨t117, ht118, hx111⟩ := bind_some hx111
   refine WL.call (some 68) 29 #[e5, (sv (some ⟨g113, 0, none⟩) [1] 1)] (fun fb => by kernel_rfl) (ref01_Same_calls _ t39.1.Logs [1] A52 c53 (some ⟨g113, 0, none⟩) 1 t117 _ (hS116.ow 6).ofO (hS116.ow 0).ofO ht118) (fun v w119 hR120 => ?_)
   obtain ⟨rfl, hk_⟩ := hR120
   have hS121 := hS116.keepN hk_
   refine ⟨trivial, ?_⟩
   refine sg 29 [] [9, 10, 69] [(9, (bv t67.1)), (10, (iv t67.2)), (69, (bv t117))] (by kernel_rfl) ?_
   injection hx111 with hx111
   exact WL.to K t117 [9, 10, 69] rfl ⟨⟨(hS121.subR []).sub [] (by decide), hx111.symm⟩, trivial⟩
  refine WL.setB 64 h112 rfl ?_
  refine sg 29 [] [9, 10, 69] [(9, (bv t67.1)), (10, (iv t67.2)), (69, (bv false))] (by kernel_rfl) ?_
  injection hx111 with hx111
  exact WL.to K false [9, 10, 69] rfl ⟨⟨(hS108.subR []).sub [] (by decide), hx111.symm⟩, trivial⟩
 rintro y122 w124 ⟨⟨hS125, hq123⟩, hF126⟩
 subst hq123
 refine sg 30 [] [9, 10, 70] [(9, (bv t67.1)), (10, (iv t67.2)), (70, (bv x110))] (by kernel_rfl) ?_
 refine WL.cutV (T := Bool) 33 (fun t => [(73, (bv t)), (9, (bv t67.1))]) (fun t => (x110 && (t67.2 == 0)) = t) (fun K => ?_) ?_
 ·
  rcases Bool.eq_false_or_eq_true x110 with h127 | h127
  ·
   refine WL.setB 70 h127 rfl ?_
   refine sg 33 [] [9, 73] [(9, (bv t67.1)), (73, (bv (t67.2 == 0)))] (by kernel_rfl) ?_
   exact WL.toV K (t67.2 == 0) [73, 9] rfl (by first | (rw [h127]; done) | (rw [h127]; rfl))
  refine WL.setB 70 h127 rfl ?_
  refine sg 33 [] [9, 73] [(9, (bv t67.1)), (73, (bv false))] (by kernel_rfl) ?_
  exact WL.toV K false [73, 9] rfl (by first | (rw [h127]; done) | (rw [h127]; rfl))
 rintro b128 rfl
 refine sg 34 [] [9, 74] [(9, (bv t67.1)), (74, (bv (x110 && (t67.2 == 0))))] (by kernel_rfl) ?_
 refine WL.cutV (T := Bool) 36 (fun t => [(76, (bv t))]) (fun t => ((x110 && (t67.2 == 0)) && t67.1) = t) (fun K => ?_) ?_
 ·
  rcases Bool.eq_false_or_eq_true (x110 && (t67.2 == 0)) with h129 | h129
  ·
   refine WL.setB 74 h129 rfl ?_
   refine sg 36 [] [76] [(76, (bv t67.1))] (by kernel_rfl) ?_
   exact WL.toV K t67.1 [76] rfl (by first | (rw [h129]; done) | (rw [h129]; rfl))
  refine WL.setB 74 h129 rfl ?_
  refine sg 36 [] [76] [(76, (bv false))] (by kernel_rfl) ?_
  exact WL.toV K false [76] rfl (by first | (rw [h129]; done) | (rw [h129]; rfl))
 rintro b130 rfl
 refine sg 37 [] [0] [(0, (bv ((x110 && (t67.2 == 0)) && t67.1)))] (by kernel_rfl) ?_
 refine WL.done rfl (WX.next ?_)
 refine WC.ret ?_
 injection hf with hf
 subst hf
 exact WX.ret_ [] (bv ((x110 && (t67.2 == 0)) && t67.1)) [] (fun fb => by kernel_rfl) trivial ⟨_, rfl, rfl, hS125.keep⟩
theorem ref07_sameFracs_calls (k : Nat) (p0 : List Frac) (p1 : List Frac) (Aa : Option Addr) (ca : Nat) (Ab : Option Addr) (cb : Nat) (r : Bool) (w : World) (hR0 : RO NoS w (rowR enc_Frac Aa ca p0)) (hR1 : RO NoS w (rowR enc_Frac Ab cb p1)) (hf : ref07_sameFracs k p0 p1 = some r) :
  CallsR Tryz.prog 49 #[(sv Aa p0 ca), (sv Ab p1 cb)] w (fun v w' => v = (bv r) ∧ Keeps NoS w w') := by
 have hS : St NoS w w [rowR enc_Frac Aa ca p0, rowR enc_Frac Ab cb p1] [] := St.init (ro_cons hR0 (ro_cons hR1 (ro_nil _ _)))
 refine enter 26 Tryz.func49 rfl Tryz.ntmps49 rfl ?_
 unfold ref07_sameFracs at hf
 refine WC.seq (WC.region ?_)
 refine sg 1 [] [0, 1] [(0, (sv Aa p0 ca)), (1, (sv Ab p1 cb))] (by kernel_rfl) ?_
 refine WL.done rfl (WX.next (WC.seq (WC.seq (WC.region ?_))))
 refine sg 5 [] [0, 1, 10] [(0, (sv Aa p0 ca)), (1, (sv Ab p1 cb)), (10, (bv ((p0.length : Int) != (p1.length : Int))))] (by kernel_rfl) ?_
 refine WL.done rfl (WX.next ?_)
 rcases br_some hf with ⟨h3, hf⟩ | ⟨h3, hf⟩
 ·refine WC.condT2 (fun fb => by kernel_rfl) h3 ?_
  refine WC.seq (WC.region ?_)
  refine sg 1 [] [4] [(4, (bv false))] (by kernel_rfl) ?_
  refine WL.done rfl (WX.next ?_)
  refine WC.ret ?_
  injection hf with hf
  subst hf
  exact WX.thenR (WX.ret_ [] (bv false) [] (fun fb => by kernel_rfl) trivial ⟨_, rfl, rfl, hS.keep⟩)
 refine WC.condF2 (fun fb => by kernel_rfl) h3 ?_
 refine WC.skip (WX.next (WC.seq (WC.seq (WC.region ?_))))
 refine sg 1 [] [0, 1, 5] [(0, (sv Aa p0 ca)), (1, (sv Ab p1 cb)), (5, (iv 0))] (by kernel_rfl) ?_
 refine WL.done rfl (WX.next ?_)
 obtain ⟨x5, hx6, hf⟩ := bind_some hf
 refine WC.cutN (T := Unit) (fun t => []) (fun t w1 => St NoS w w1 [rowR enc_Frac Aa ca p0, rowR enc_Frac Ab cb p1] [] ∧ x5 = .inr t) (fun Kx5 => ?_) ?_
 ·
  refine WC.block ?_
  refine WC.loop (T := Int) (fun t => [(0, (sv Aa p0 ca)), (1, (sv Ab p1 cb)), (5, (iv t))]) (fun n t w1 => St NoS w w1 [rowR enc_Frac Aa ca p0, rowR enc_Frac Ab cb p1] [] ∧ ref07_sameFracs.l0 n t p0 p1 = some x5) k 0 [0, 1, 5] rfl ⟨(hS.subR [0, 1]).sub [] (by decide), hx6⟩ ?_
  rintro k8 x4 w9 ⟨hS10, hl11⟩
  let e1 : List (Nat × Addr × Value) := [(3, ((adr Aa).add ((x4).toNat * 2)), (iv ((rdD p0 x4 z_Frac).Num))), (3, (((adr Aa).add ((x4).toNat * 2)).add 1), (iv ((rdD p0 x4 z_Frac).Den))), (7, ((adr Ab).add ((x4).toNat * 2)), (iv ((rdD p1 x4 z_Frac).Num))), (7, (((adr Ab).add ((x4).toNat * 2)).add 1), (iv ((rdD p1 x4 z_Frac).Den)))]
  cases k8 with
  | zero => rw [ref07_sameFracs.l0] at hl11; cases hl11
  | succ k8 =>
   rw [ref07_sameFracs.l0] at hl11
   refine WC.seq (WC.seq (WC.region ?_))
   refine sg 4 [] [0, 1, 5, 14] [(0, (sv Aa p0 ca)), (1, (sv Ab p1 cb)), (5, (iv x4)), (14, (bv (decide (x4 < (p0.length : Int)))))] (by kernel_rfl) ?_
   refine WL.done rfl (WX.next ?_)
   rcases br_some hl11 with ⟨h12, hl11⟩ | ⟨h12, hl11⟩
   ·refine WC.condT2 (fun fb => by kernel_rfl) h12 ?_
    refine WC.skip (WX.next (WC.seq (WC.block (WC.seq ?_))))
    obtain ⟨h15, hl11⟩ := as_some hl11
    obtain ⟨h16, hl11⟩ := as_some hl11
    refine WC.regionD (e1, [0, 1, 2, 3, 4, 5, 6, 7, 8], [[], [], [0, 1], [0, 1, 2], [], [], [4, 5], [4, 5, 6], [0, 1, 2, 3, 4, 5, 6, 7]]) [[0, 1, 2, 3, 4, 5, 6, 7, 8]] (by kernel_rfl) (by kernel_rfl) (NoPanic.seq (NoPanic.block (NoPanic.seq (NoPanic.seq (NoPanic.block (NoPanic.seq (NoPanic.body))))))) ?_
    have hS14 := hS10.drew
    revert hS14
    generalize World.drew w9 = w13
    intro hS14
    refine ⟨⟨rowR.cell (hS14.rd 0).1 z_Frac h15.1 h15.2 0 rfl, rowR.cell (hS14.rd 0).1 z_Frac h15.1 h15.2 1 rfl, rowR.cell (hS14.rd 1).1 z_Frac h16.1 h16.2 0 rfl, rowR.cell (hS14.rd 1).1 z_Frac h16.1 h16.2 1 rfl, trivial⟩, forallC ?_ (forallN)⟩
    refine segF 9 [.v (iv ((rdD p0 x4 z_Frac).Num)), .v (iv ((rdD p0 x4 z_Frac).Den)), .v (iv ((rdD p1 x4 z_Frac).Num)), .v (iv ((rdD p1 x4 z_Frac).Den))] [0, 1, 5, 25] [(0, (sv Aa p0 ca)), (1, (sv Ab p1 cb)), (5, (iv x4)), (25, (bv (!(((rdD p0 x4 z_Frac).Num) == ((rdD p1 x4 z_Frac).Num) && (((rdD p0 x4 z_Frac).Den) == ((rdD p1 x4 z_Frac).Den))))))] [.idx Aa x4 p0.length, .idx Ab x4 p1.length] [0, 1, 2, 3] e1 (fun fb => by kernel_rfl) rfl ⟨rowR.adr (hS14.rd 0).1 h15.1 h15.2, rowR.adr (hS14.rd 1).1 h16.1 h16.2, trivial⟩ rfl ?_
    refine WL.done rfl (WX.next ?_)
    rcases br_some hl11 with ⟨h17, hl11⟩ | ⟨h17, hl11⟩
    ·refine WC.condT2 (fun fb => by kernel_rfl) h17 ?_
     refine WC.seq (WC.region ?_)
     refine sg 1 [] [4] [(4, (bv false))] (by kernel_rfl) ?_
     refine WL.done rfl (WX.next ?_)
     refine WC.ret ?_
     injection hl11 with hl11
     subst hl11
     injection hf with hf
     subst hf
     exact WX.blockR (WX.thenR (WX.thenR (WX.blockR (WX.thenR (WX.ret_ [] (bv false) [] (fun fb => by kernel_rfl) trivial ⟨_, rfl, rfl, hS14.keep⟩)))))
    refine WC.condF2 (fun fb => by kernel_rfl) h17 ?_
    refine WC.skip ?_
    refine WX.blockN (WX.next ?_)
    refine WC.region ?_
    refine sg 3 [] [0, 1, 5] [(0, (sv Aa p0 ca)), (1, (sv Ab p1 cb)), (5, (iv (w64 (x4 + 1))))] (by kernel_rfl) ?_
    refine WL.done rfl ?_
    exact WX.again k8 (Nat.lt_succ_self _) (w64 (x4 + 1)) [0, 1, 5] rfl ⟨(hS14.subR [0, 1]).sub [] (by decide), hl11⟩
   refine WC.condF2 (fun fb => by kernel_rfl) h12 ?_
   refine WC.exit ?_
   injection hl11 with hl11
   exact WX.thenX (WX.thenX (WX.blockHere (WX.to Kx5 () [] rfl ⟨(hS10.subR [0, 1]).sub [] (by decide), hl11.symm⟩)))
 rintro y21 w18 ⟨hS19, hq20⟩
 subst hq20
 have hf := sum_inr hf
 refine WX.next (WC.seq (WC.region ?_))
 refine sg 1 [] [4] [(4, (bv true))] (by kernel_rfl) ?_
 refine WL.done rfl (WX.next ?_)
 refine WC.ret ?_
 injection hf with hf
 subst hf
 exact WX.ret_ [] (bv true) [] (fun fb => by kernel_rfl) trivial ⟨_, rfl, rfl, hS19.keep⟩
theorem ref07_SameWeights_calls (k : Nat) (p0 : Weights) (p1 : Weights) (Aa : Option Addr) (ca : Nat) (Ab : Option Addr) (cb : Nat) (Ac : Option Addr) (cc : Nat) (Ad : Option Addr) (cd : Nat) (Ae : Option Addr) (ce : Nat) (Af : Option Addr) (cf : Nat) (Ag : Option Addr) (cg : Nat) (Ah : Option Addr) (ch : Nat) (Ai : Option Addr) (ci : Nat) (Aj : Option Addr) (cj : Nat) (r : Bool) (w : World) (hR0 : RO NoS w (rowR enc_Frac Aa ca p0.Values)) (hR1 : RO NoS w (rowR enc_Frac Ab cb p0.Carries)) (hR2 : RO NoS w (rowR enc_Frac Ac cc p0.Factors)) (hR3 : RO NoS w (rowR encInt Ad cd p0.Primes)) (hR4 : RO NoS w (rowR encInt Ae ce p0.Logs)) (hR5 : RO NoS w (rowR enc_Frac Af cf p1.Values)) (hR6 : RO NoS w (rowR enc_Frac Ag cg p1.Carries)) (hR7 : RO NoS w (rowR enc_Frac Ah ch p1.Factors)) (hR8 : RO NoS w (rowR encInt Ai ci p1.Primes)) (hR9 : RO NoS w (rowR encInt Aj cj p1.Logs)) (hf : ref07_SameWeights k p0 p1 = some r) :
  CallsR Tryz.prog 18 #[(.agg #[(sv Aa p0.Values ca), (sv Ab p0.Carries cb), (sv Ac p0.Factors cc), (sv Ad p0.Primes cd), (sv Ae p0.Logs ce)]), (.agg #[(sv Af p1.Values cf), (sv Ag p1.Carries cg), (sv Ah p1.Factors ch), (sv Ai p1.Primes ci), (sv Aj p1.Logs cj)])] w (fun v w' => v = (bv r) ∧ Keeps NoS w w') := by
 have hS : St NoS w w [rowR enc_Frac Aa ca p0.Values, rowR enc_Frac Ab cb p0.Carries, rowR enc_Frac Ac cc p0.Factors, rowR encInt Ad cd p0.Primes, rowR encInt Ae ce p0.Logs, rowR enc_Frac Af cf p1.Values, rowR enc_Frac Ag cg p1.Carries, rowR enc_Frac Ah ch p1.Factors, rowR encInt Ai ci p1.Primes, rowR encInt Aj cj p1.Logs] [] := St.init (ro_cons hR0 (ro_cons hR1 (ro_cons hR2 (ro_cons hR3 (ro_cons hR4 (ro_cons hR5 (ro_cons hR6 (ro_cons hR7 (ro_cons hR8 (ro_cons hR9 (ro_nil _ _)))))))))))
 refine enter 38 Tryz.func18 rfl Tryz.ntmps18 rfl ?_
 unfold ref07_SameWeights at hf
 refine WC.seq (WC.region ?_)
 refine WL.new hS 2 [] (fun g => (pt g)) (.cells #[(sv Aa p0.Values ca), (sv Ab p0.Carries cb), (sv Ac p0.Factors cc), (sv Ad p0.Primes cd), (sv Ae p0.Logs ce)] 37 (0, 0)) [] (fun fb g => by kernel_rfl) trivial (fun g10 w11 hS12 => ?_)
 refine ⟨trivial, ?_⟩
 refine WL.new hS12 3 [] (fun g => (pt g)) (.cells #[(sv Af p1.Values cf), (sv Ag p1.Carries cg), (sv Ah p1.Factors ch), (sv Ai p1.Primes ci), (sv Aj p1.Logs cj)] 37 (0, 0)) [] (fun fb g => by kernel_rfl) trivial (fun g13 w14 hS15 => ?_)
 refine ⟨trivial, ?_⟩
 refine sg 3 [] [2, 3] [(2, (pt g10)), (3, (pt g13))] (by kernel_rfl) ?_
 refine WL.done rfl (WX.next (WC.seq (WC.region ?_)))
 refine seg 4 [.v (sv Aa p0.Values ca), .v (sv Af p1.Values cf)] [2, 3, 6, 8] [(2, (pt g10)), (3, (pt g13)), (6, (sv Aa p0.Values ca)), (8, (sv Af p1.Values cf))] [.cell ⟨g10, 0, none⟩ (sv Aa p0.Values ca), .cell ⟨g13, 0, none⟩ (sv Af p1.Values cf)] (fun fb => by kernel_rfl) rfl ⟨hS15.cell 1 rfl 0 rfl, hS15.cell 0 rfl 0 rfl, trivial⟩ ?_
 obtain ⟨t16, ht17, hf⟩ := bind_some hf
 refine WL.call (some 9) 49 #[(sv Aa p0.Values ca), (sv Af p1.Values cf)] (fun fb => by kernel_rfl) (ref07_sameFracs_calls _ p0.Values p1.Values Aa ca Af cf t16 _ (hS15.rd 0) (hS15.rd 5) ht17) (fun v w19 hR20 => ?_)
 obtain ⟨rfl, hk_⟩ := hR20
 have hS21 := hS15.keepN hk_
 refine ⟨trivial, ?_⟩
 refine sg 6 [] [2, 3, 10] [(2, (pt g10)), (3, (pt g13)), (10, (bv t16))] (by kernel_rfl) ?_
 obtain ⟨x22, hx23, hf⟩ := bind_some hf
 let e1 := sv Ab p0.Carries cb
 let e2 := sv Ag p1.Carries cg
 refine WL.cutW (T := Bool) 12 (fun t => [(2, (pt g10)), (3, (pt g13)), (16, (bv t))]) (fun t w1 => (St NoS w w1 [rowR enc_Frac Aa ca p0.Values, rowR enc_Frac Ab cb p0.Carries, rowR enc_Frac Ac cc p0.Factors, rowR encInt Ad cd p0.Primes, rowR encInt Ae ce p0.Logs, rowR enc_Frac Af cf p1.Values, rowR enc_Frac Ag cg p1.Carries, rowR enc_Frac Ah ch p1.Factors, rowR encInt Ai ci p1.Primes, rowR encInt Aj cj p1.Logs] [blk g10 (.cells #[(sv Aa p0.Values ca), e1, (sv Ac p0.Factors cc), (sv Ad p0.Primes cd), (sv Ae p0.Logs ce)] 37 (0, 0)), blk g13 (.cells #[(sv Af p1.Values cf), e2, (sv Ah p1.Factors ch), (sv Ai p1.Primes ci), (sv Aj p1.Logs cj)] 37 (0, 0))] ∧ x22 = t) ∧ CellsOK [] w1) (fun K => ?_) ?_
 ·
  rcases br_some hx23 with ⟨h24, hx23⟩ | ⟨h24, hx23⟩
  ·
   refine WL.setB 10 h24 rfl ?_
   refine seg 10 [.v e1, .v e2] [2, 3, 10, 12, 14] [(2, (pt g10)), (3, (pt g13)), (10, (bv true)), (12, e1), (14, e2)] [.cell ⟨g10, 1, none⟩ e1, .cell ⟨g13, 1, none⟩ e2] (fun fb => by kernel_rfl) rfl ⟨hS21.cell 1 rfl 1 rfl, hS21.cell 0 rfl 1 rfl, trivial⟩ ?_
   obtain ⟨t25, ht26, hx23⟩ := bind_some hx23
   refine WL.call (some 15) 49 #[e1, e2] (fun fb => by kernel_rfl) (ref07_sameFracs_calls _ p0.Carries p1.Carries Ab cb Ag cg t25 _ (hS21.rd 1) (hS21.rd 6) ht26) (fun v w27 hR28 => ?_)
   obtain ⟨rfl, hk_⟩ := hR28
   have hS29 := hS21.keepN hk_
   refine ⟨trivial, ?_⟩
   refine sg 12 [] [2, 3, 16] [(2, (pt g10)), (3, (pt g13)), (16, (bv t25))] (by kernel_rfl) ?_
   injection hx23 with hx23
   exact WL.to K t25 [2, 3, 16] rfl ⟨⟨(hS29.subR [0, 1, 2, 3, 4, 5, 6, 7, 8, 9]).sub [1, 0] (by decide), hx23.symm⟩, trivial⟩
  refine WL.setB 10 h24 rfl ?_
  refine sg 12 [] [2, 3, 16] [(2, (pt g10)), (3, (pt g13)), (16, (bv false))] (by kernel_rfl) ?_
  injection hx23 with hx23
  exact WL.to K false [2, 3, 16] rfl ⟨⟨(hS21.subR [0, 1, 2, 3, 4, 5, 6, 7, 8, 9]).sub [1, 0] (by decide), hx23.symm⟩, trivial⟩
 rintro y30 w32 ⟨⟨hS33, hq31⟩, hF34⟩
 subst hq31
 refine sg 13 [] [2, 3, 17] [(2, (pt g10)), (3, (pt g13)), (17, (bv x22))] (by kernel_rfl) ?_
 obtain ⟨x35, hx36, hf⟩ := bind_some hf
 let e3 := sv Ac p0.Factors cc
 let e4 := sv Ah p1.Factors ch
 refine WL.cutW (T := Bool) 19 (fun t => [(2, (pt g10)), (3, (pt g13)), (23, (bv t))]) (fun t w1 => (St NoS w w1 [rowR enc_Frac Aa ca p0.Values, rowR enc_Frac Ab cb p0.Carries, rowR enc_Frac Ac cc p0.Factors, rowR encInt Ad cd p0.Primes, rowR encInt Ae ce p0.Logs, rowR enc_Frac Af cf p1.Values, rowR enc_Frac Ag cg p1.Carries, rowR enc_Frac Ah ch p1.Factors, rowR encInt Ai ci p1.Primes, rowR encInt Aj cj p1.Logs] [blk g10 (.cells #[(sv Aa p0.Values ca), e1, e3, (sv Ad p0.Primes cd), (sv Ae p0.Logs ce)] 37 (0, 0)), blk g13 (.cells #[(sv Af p1.Values cf), e2, e4, (sv Ai p1.Primes ci), (sv Aj p1.Logs cj)] 37 (0, 0))] ∧ x35 = t) ∧ CellsOK [] w1) (fun K => ?_) ?_
 ·
  rcases br_some hx36 with ⟨h37, hx36⟩ | ⟨h37, hx36⟩
  ·
   refine WL.setB 17 h37 rfl ?_
   refine seg 17 [.v e3, .v e4] [2, 3, 17, 19, 21] [(2, (pt g10)), (3, (pt g13)), (17, (bv true)), (19, e3), (21, e4)] [.cell ⟨g10, 2, none⟩ e3, .cell ⟨g13, 2, none⟩ e4] (fun fb => by kernel_rfl) rfl ⟨hS33.cell 0 rfl 2 rfl, hS33.cell 1 rfl 2 rfl, trivial⟩ ?_
   obtain ⟨t38, ht39, hx36⟩ := bind_some hx36
   refine WL.call (some 22) 49 #[e3, e4] (fun fb => by kernel_rfl) (ref07_sameFracs_calls _ p0.Factors p1.Factors Ac cc Ah ch t38 _ (hS33.rd 2) (hS33.rd 7) ht39) (fun v w40 hR41 => ?_)
   obtain ⟨rfl, hk_⟩ := hR41
   have hS42 := hS33.keepN hk_
   refine ⟨trivial, ?_⟩
   refine sg 19 [] [2, 3, 23] [(2, (pt g10)), (3, (pt g13)), (23, (bv t38))] (by kernel_rfl) ?_
   injection hx36 with hx36
   exact WL.to K t38 [2, 3, 23] rfl ⟨⟨(hS42.subR [0, 1, 2, 3, 4, 5, 6, 7, 8, 9]).sub [0, 1] (by decide), hx36.symm⟩, trivial⟩
  refine WL.setB 17 h37 rfl ?_
  refine sg 19 [] [2, 3, 23] [(2, (pt g10)), (3, (pt g13)), (23, (bv false))] (by kernel_rfl) ?_
  injection hx36 with hx36
  exact WL.to K false [2, 3, 23] rfl ⟨⟨(hS33.subR [0, 1, 2, 3, 4, 5, 6, 7, 8, 9]).sub [0, 1] (by decide), hx36.symm⟩, trivial⟩
 rintro y43 w45 ⟨⟨hS46, hq44⟩, hF47⟩
 subst hq44
 refine sg 20 [] [2, 3, 24] [(2, (pt g10)), (3, (pt g13)), (24, (bv x35))] (by kernel_rfl) ?_
 obtain ⟨x48, hx49, hf⟩ := bind_some hf
 let e5 := sv Ad p0.Primes cd
 let e6 := sv Ai p1.Primes ci
 refine WL.cutW (T := Bool) 26 (fun t => [(2, (pt g10)), (3, (pt g13)), (30, (bv t))]) (fun t w1 => (St NoS w w1 [rowR enc_Frac Aa ca p0.Values, rowR enc_Frac Ab cb p0.Carries, rowR enc_Frac Ac cc p0.Factors, rowR encInt Ad cd p0.Primes, rowR encInt Ae ce p0.Logs, rowR enc_Frac Af cf p1.Values, rowR enc_Frac Ag cg p1.Carries, rowR enc_Frac Ah ch p1.Factors, rowR encInt Ai ci p1.Primes, rowR encInt Aj cj p1.Logs] [blk g10 (.cells #[(sv Aa p0.Values ca), e1, e3, e5, (sv Ae p0.Logs ce)] 37 (0, 0)), blk g13 (.cells #[(sv Af p1.Values cf), e2, e4, e6, (sv Aj p1.Logs cj)] 37 (0, 0))] ∧ x48 = t) ∧ CellsOK [] w1) (fun K => ?_) ?_
 ·
  rcases br_some hx49 with ⟨h50, hx49⟩ | ⟨h50, hx49⟩
  ·
   refine WL.setB 24 h50 rfl ?_
   refine seg 24 [.v e5, .v e6] [2, 3, 24, 26, 28] [(2, (pt g10)), (3, (pt g13)), (24, (bv true)), (26, e5), (28, e6)] [.cell ⟨g10, 3, none⟩ e5, .cell ⟨g13, 3, none⟩ e6] (fun fb => by kernel_rfl) rfl ⟨hS46.cell 0 rfl 3 rfl, hS46.cell 1 rfl 3 rfl, trivial⟩ ?_
   obtain ⟨t51, ht52, hx49⟩ := bind_some hx49
   refine WL.call (some 29) 29 #[e5, e6] (fun fb => by kernel_rfl) (ref01_Same_calls _ p0.Primes p1.Primes Ad cd Ai ci t51 _ (hS46.rd 3) (hS46.rd 8) ht52) (fun v w53 hR54 => ?_)
   obtain ⟨rfl, hk_⟩ := hR54
   have hS55 := hS46.keepN hk_
   refine ⟨trivial, ?_⟩
   refine sg 26 [] [2, 3, 30] [(2, (pt g10)), (3, (pt g13)), (30, (bv t51))] (by kernel_rfl) ?_
   injection hx49 with hx49
   exact WL.to K t51 [2, 3, 30] rfl ⟨⟨(hS55.subR [0, 1, 2, 3, 4, 5, 6, 7, 8, 9]).sub [0, 1] (by decide), hx49.symm⟩, trivial⟩
  refine WL.setB 24 h50 rfl ?_
  refine sg 26 [] [2, 3, 30] [(2, (pt g10)), (3, (pt g13)), (30, (bv false))] (by kernel_rfl) ?_
  injection hx49 with hx49
  exact WL.to K false [2, 3, 30] rfl ⟨⟨(hS46.subR [0, 1, 2, 3, 4, 5, 6, 7, 8, 9]).sub [0, 1] (by decide), hx49.symm⟩, trivial⟩
 rintro y56 w58 ⟨⟨hS59, hq57⟩, hF60⟩
 subst hq57
 refine sg 27 [] [2, 3, 31] [(2, (pt g10)), (3, (pt g13)), (31, (bv x48))] (by kernel_rfl) ?_
 obtain ⟨x61, hx62, hf⟩ := bind_some hf
 refine WL.cutW (T := Bool) 33 (fun t => [(37, (bv t))]) (fun t w1 => (St NoS w w1 [rowR enc_Frac Aa ca p0.Values, rowR enc_Frac Ab cb p0.Carries, rowR enc_Frac Ac cc p0.Factors, rowR encInt Ad cd p0.Primes, rowR encInt Ae ce p0.Logs, rowR enc_Frac Af cf p1.Values, rowR enc_Frac Ag cg p1.Carries, rowR enc_Frac Ah ch p1.Factors, rowR encInt Ai ci p1.Primes, rowR encInt Aj cj p1.Logs] [] ∧ x61 = t) ∧ CellsOK [] w1) (fun K => ?_) ?_
 ·
  rcases br_some hx62 with ⟨h63, hx62⟩ | ⟨h63, hx62⟩
  ·
   refine WL.setB 31 h63 rfl ?_
   refine seg 31 [.v (sv Ae p0.Logs ce), .v (sv Aj p1.Logs cj)] [31, 33, 35] [(31, (bv true)), (33, (sv Ae p0.Logs ce)), (35, (sv Aj p1.Logs cj))] [.cell ⟨g10, 4, none⟩ (sv Ae p0.Logs ce), .cell ⟨g13, 4, none⟩ (sv Aj p1.Logs cj)] (fun fb => by kernel_rfl) rfl ⟨hS59.cell 0 rfl 4 rfl, hS59.cell 1 rfl 4 rfl, trivial⟩ ?_
   obtain ⟨t64, ht65, hx62⟩ := bind_some hx62
   refine WL.call (some 36) 29 #[(sv Ae p0.Logs ce), (sv Aj p1.Logs cj)] (fun fb => by kernel_rfl) (ref01_Same_calls _ p0.Logs p1.Logs Ae ce Aj cj t64 _ (hS59.rd 4) (hS59.rd 9) ht65) (fun v w66 hR67 => ?_)
   obtain ⟨rfl, hk_⟩ := hR67
   have hS68 := hS59.keepN hk_
   refine ⟨trivial, ?_⟩
   refine sg 33 [] [37] [(37, (bv t64))] (by kernel_rfl) ?_
   injection hx62 with hx62
   exact WL.to K t64 [37] rfl ⟨⟨(hS68.subR [0, 1, 2, 3, 4, 5, 6, 7, 8, 9]).sub [] (by decide), hx62.symm⟩, trivial⟩
  refine WL.setB 31 h63 rfl ?_
  refine sg 33 [] [37] [(37, (bv false))] (by kernel_rfl) ?_
  injection hx62 with hx62
  exact WL.to K false [37] rfl ⟨⟨(hS59.subR [0, 1, 2, 3, 4, 5, 6, 7, 8, 9]).sub [] (by decide), hx62.symm⟩, trivial⟩
 rintro y69 w71 ⟨⟨hS72, hq70⟩, hF73⟩
 subst hq70
 refine sg 34 [] [4] [(4, (bv x61))] (by kernel_rfl) ?_
 refine WL.done rfl (WX.next ?_)
 refine WC.ret ?_
 injection hf with hf
 subst hf
 exact WX.ret_ [] (bv x61) [] (fun fb => by kernel_rfl) trivial ⟨_, rfl, rfl, hS72.keep⟩
theorem ref07_frac_calls (p0 : Frac)  (r : Bool) (w : World)  (hf : ref07_frac p0 = some r) :
  CallsR Tryz.prog 58 #[(.agg #[(iv p0.Num), (iv p0.Den)])] w (fun v w' => v = (bv r) ∧ Keeps NoS w w') := by
 have hS : St NoS w w [] [] := St.init (ro_nil _ _)
 refine enter 21 Tryz.func58 rfl Tryz.ntmps58 rfl ?_
 unfold ref07_frac at hf
 refine WC.seq (WC.region ?_)
 refine WL.new hS 1 [] (fun g => (pt g)) (.cells #[(iv p0.Num), (iv p0.Den)] 44 (0, 0)) [] (fun fb g => by kernel_rfl) trivial (fun g1 w2 hS3 => ?_)
 refine ⟨trivial, ?_⟩
 refine sg 2 [] [1] [(1, (pt g1))] (by kernel_rfl) ?_
 refine WL.done rfl (WX.next (WC.seq (WC.region ?_)))
 refine seg 4 [.v (iv p0.Den)] [1, 6] [(1, (pt g1)), (6, (bv (decide (p0.Den ≥ 1))))] [.cell ⟨g1, 1, none⟩ (iv p0.Den)] (fun fb => by kernel_rfl) rfl ⟨hS3.cell 0 rfl 1 rfl, trivial⟩ ?_
 refine WL.cutV (T := Bool) 8 (fun t => [(10, (bv t)), (1, (pt g1))]) (fun t => ((decide (p0.Den ≥ 1)) && (decide (p0.Den ≤ 1000000))) = t) (fun K => ?_) ?_
 ·
  rcases Bool.eq_false_or_eq_true (decide (p0.Den ≥ 1)) with h4 | h4
  ·
   refine WL.setB 6 h4 rfl ?_
   refine seg 8 [.v (iv p0.Den)] [1, 10] [(1, (pt g1)), (10, (bv (decide (p0.Den ≤ 1000000))))] [.cell ⟨g1, 1, none⟩ (iv p0.Den)] (fun fb => by kernel_rfl) rfl ⟨hS3.cell 0 rfl 1 rfl, trivial⟩ ?_
   exact WL.toV K (decide (p0.Den ≤ 1000000)) [10, 1] rfl (by first | (rw [h4]; done) | (rw [h4]; rfl))
  refine WL.setB 6 h4 rfl ?_
  refine sg 8 [] [1, 10] [(1, (pt g1)), (10, (bv false))] (by kernel_rfl) ?_
  exact WL.toV K false [10, 1] rfl (by first | (rw [h4]; done) | (rw [h4]; rfl))
 rintro b5 rfl
 refine sg 9 [] [1, 11] [(1, (pt g1)), (11, (bv ((decide (p0.Den ≥ 1)) && (decide (p0.Den ≤ 1000000)))))] (by kernel_rfl) ?_
 refine WL.cutV (T := Bool) 13 (fun t => [(15, (bv t)), (1, (pt g1))]) (fun t => (((decide (p0.Den ≥ 1)) && (decide (p0.Den ≤ 1000000))) && (decide (p0.Num ≥ (-1000000)))) = t) (fun K => ?_) ?_
 ·
  rcases Bool.eq_false_or_eq_true ((decide (p0.Den ≥ 1)) && (decide (p0.Den ≤ 1000000))) with h6 | h6
  ·
   refine WL.setB 11 h6 rfl ?_
   refine seg 13 [.v (iv p0.Num)] [1, 15] [(1, (pt g1)), (15, (bv (decide (p0.Num ≥ (-1000000)))))] [.cell ⟨g1, 0, none⟩ (iv p0.Num)] (fun fb => by kernel_rfl) rfl ⟨hS3.cell 0 rfl 0 rfl, trivial⟩ ?_
   exact WL.toV K (decide (p0.Num ≥ (-1000000))) [15, 1] rfl (by first | (rw [h6]; done) | (rw [h6]; rfl))
  refine WL.setB 11 h6 rfl ?_
  refine sg 13 [] [1, 15] [(1, (pt g1)), (15, (bv false))] (by kernel_rfl) ?_
  exact WL.toV K false [15, 1] rfl (by first | (rw [h6]; done) | (rw [h6]; rfl))
 rintro b8 rfl
 refine sg 14 [] [1, 16] [(1, (pt g1)), (16, (bv (((decide (p0.Den ≥ 1)) && (decide (p0.Den ≤ 1000000))) && (decide (p0.Num ≥ (-1000000))))))] (by kernel_rfl) ?_
 refine WL.cutV (T := Bool) 18 (fun t => [(20, (bv t))]) (fun t => ((((decide (p0.Den ≥ 1)) && (decide (p0.Den ≤ 1000000))) && (decide (p0.Num ≥ (-1000000)))) && (decide (p0.Num ≤ 1000000))) = t) (fun K => ?_) ?_
 ·
  rcases Bool.eq_false_or_eq_true (((decide (p0.Den ≥ 1)) && (decide (p0.Den ≤ 1000000))) && (decide (p0.Num ≥ (-1000000)))) with h9 | h9
  ·
   refine WL.setB 16 h9 rfl ?_
   refine seg 18 [.v (iv p0.Num)] [20] [(20, (bv (decide (p0.Num ≤ 1000000))))] [.cell ⟨g1, 0, none⟩ (iv p0.Num)] (fun fb => by kernel_rfl) rfl ⟨hS3.cell 0 rfl 0 rfl, trivial⟩ ?_
   exact WL.toV K (decide (p0.Num ≤ 1000000)) [20] rfl (by first | (rw [h9]; done) | (rw [h9]; rfl))
  refine WL.setB 16 h9 rfl ?_
  refine sg 18 [] [20] [(20, (bv false))] (by kernel_rfl) ?_
  exact WL.toV K false [20] rfl (by first | (rw [h9]; done) | (rw [h9]; rfl))
 rintro b10 rfl
 refine sg 19 [] [2] [(2, (bv ((((decide (p0.Den ≥ 1)) && (decide (p0.Den ≤ 1000000))) && (decide (p0.Num ≥ (-1000000)))) && (decide (p0.Num ≤ 1000000)))))] (by kernel_rfl) ?_
 refine WL.done rfl (WX.next ?_)
 refine WC.ret ?_
 injection hf with hf
 subst hf
 exact WX.ret_ [] (bv ((((decide (p0.Den ≥ 1)) && (decide (p0.Den ≤ 1000000))) && (decide (p0.Num ≥ (-1000000)))) && (decide (p0.Num ≤ 1000000)))) [] (fun fb => by kernel_rfl) trivial ⟨_, rfl, rfl, hS3.keep⟩
theorem ref07_gcd_calls (k : Nat) (p0 : Int) (p1 : Int)  (r : Int) (w : World)  (hf : ref07_gcd k p0 p1 = some r) :
  CallsR Tryz.prog 59 #[(.int .u64 p0), (.int .u64 p1)] w (fun v w' => v = (.int .u64 r) ∧ Keeps NoS w w') := by
 have hS : St NoS w w [] [] := St.init (ro_nil _ _)
 refine enter 12 Tryz.func59 rfl Tryz.ntmps59 rfl ?_
 unfold ref07_gcd at hf
 refine WC.seq (WC.region ?_)
 refine sg 1 [] [0, 1] [(0, (.int .u64 p0)), (1, (.int .u64 p1))] (by kernel_rfl) ?_
 refine WL.done rfl (WX.next (WC.seq ?_))
 obtain ⟨x5, hx6, hf⟩ := bind_some hf
 refine WC.cutN (T := Int) (fun t => [(0, (.int .u64 t))]) (fun t w1 => St NoS w w1 [] [] ∧ x5 = t) (fun Kx5 => ?_) ?_
 ·
  refine WC.block ?_
  refine WC.loop (T := Int × Int) (fun t => [(0, (.int .u64 t.1)), (1, (.int .u64 t.2))]) (fun n t w1 => St NoS w w1 [] [] ∧ ref07_gcd.l0 n t.1 t.2 = some x5) k (p0, p1) [0, 1] rfl ⟨(hS.subR []).sub [] (by decide), hx6⟩ ?_
  rintro k8 ⟨x3, x4⟩ w9 ⟨hS10, hl11⟩
  cases k8 with
  | zero => rw [ref07_gcd.l0] at hl11; cases hl11
  | succ k8 =>
   rw [ref07_gcd.l0] at hl11
   refine WC.seq (WC.seq (WC.region ?_))
   refine sg 2 [] [0, 1, 6] [(0, (.int .u64 x3)), (1, (.int .u64 x4)), (6, (bv (decide (x4 > 0))))] (by kernel_rfl) ?_
   refine WL.done rfl (WX.next ?_)
   rcases br_some hl11 with ⟨h12, hl11⟩ | ⟨h12, hl11⟩
   ·refine WC.condT2 (fun fb => by kernel_rfl) h12 ?_
    refine WC.skip (WX.next (WC.block ?_))
    obtain ⟨h15, hl11⟩ := as_some hl11
    refine WC.regionD ([], [0, 1, 2, 3, 4, 5], [[], [], [], [1, 2], [0, 1], [0, 1, 2, 3, 4]]) [[0, 1, 2, 3, 4, 5]] (by kernel_rfl) (by kernel_rfl) (NoPanic.block (NoPanic.seq (NoPanic.block (NoPanic.seq (NoPanic.body))))) ?_
    have hS14 := hS10.drew
    revert hS14
    generalize World.drew w9 = w13
    intro hS14
    refine ⟨trivial, forallC ?_ (forallN)⟩
    refine seg 6 [] [0, 1] [(0, (.int .u64 x4)), (1, (.int .u64 (Int.tmod x3 x4)))] [.ne x4] (fun fb => by kernel_rfl) rfl ⟨h15, trivial⟩ ?_
    refine WL.done rfl ?_
    exact WX.blockN (WX.again k8 (Nat.lt_succ_self _) (x4, Int.tmod x3 x4) [0, 1] rfl ⟨(hS14.subR []).sub [] (by decide), hl11⟩)
   refine WC.condF2 (fun fb => by kernel_rfl) h12 ?_
   refine WC.exit ?_
   injection hl11 with hl11
   exact WX.thenX (WX.thenX (WX.blockHere (WX.to Kx5 x3 [0] rfl ⟨(hS10.subR []).sub [] (by decide), hl11.symm⟩)))
 rintro y19 w16 ⟨hS17, hq18⟩
 subst hq18
 refine WX.next (WC.seq (WC.region ?_))
 refine sg 2 [] [4] [(4, (.int .u64 x5))] (by kernel_rfl) ?_
 refine WL.done rfl (WX.next ?_)
 refine WC.ret ?_
 injection hf with hf
 subst hf
 exact WX.ret_ [] (.int .u64 x5) [] (fun fb => by kernel_rfl) trivial ⟨_, rfl, rfl, hS17.keep⟩
theorem ref07_piece_calls (k : Nat) (p0 : Piece)  (r : Bool) (w : World)  (hf : ref07_piece k p0 = some r) :
  CallsR Tryz.prog 39 #[(.agg #[(iv p0.Factor.Num), (iv p0.Factor.Den), (iv p0.Low.Num), (iv p0.Low.Den), (iv p0.High.Num), (iv p0.High.Den)])] w (fun v w' => v = (bv r) ∧ Keeps NoS w w') := by
 have hS : St NoS w w [] [] := St.init (ro_nil _ _)
 refine enter 84 Tryz.func39 rfl Tryz.ntmps39 rfl ?_
 unfold ref07_piece at hf
 refine WC.seq (WC.region ?_)
 refine WL.new hS 1 [] (fun g => (pt g)) (.cells #[(iv p0.Factor.Num), (iv p0.Factor.Den), (iv p0.Low.Num), (iv p0.Low.Den), (iv p0.High.Num), (iv p0.High.Den)] 66 (0, 0)) [] (fun fb g => by kernel_rfl) trivial (fun g3 w4 hS5 => ?_)
 refine ⟨trivial, ?_⟩
 refine sg 2 [] [1] [(1, (pt g3))] (by kernel_rfl) ?_
 refine WL.done rfl (WX.next (WC.seq ?_))
 obtain ⟨x10, hx11, hf⟩ := bind_some hf
 let e1 : List (Nat × Addr × Value) := [(1, ⟨g3, 0, none⟩, (iv p0.Factor.Num)), (1, ⟨g3, 1, none⟩, (iv p0.Factor.Den)), (3, ⟨g3, 2, none⟩, (iv p0.Low.Num)), (3, ⟨g3, 3, none⟩, (iv p0.Low.Den)), (5, ⟨g3, 4, none⟩, (iv p0.High.Num)), (5, ⟨g3, 5, none⟩, (iv p0.High.Den))]
 let e2 : Array Value := #[(iv p0.Factor.Num), (iv p0.Factor.Den)]
 let e3 := (p0.Factor.Num, p0.Factor.Den, p0.Low.Num, p0.Low.Den, p0.High.Num, p0.High.Den)
 let e4 : Array Value := #[(iv p0.High.Num), (iv p0.High.Den)]
 let e5 : Array Value := #[(iv p0.Low.Num), (iv p0.Low.Den)]
 let e6 : Array Value := #[(iv 0), (iv 0)]
 let e7 : List (Nat × Value) := [(0, (iv p0.Factor.Num)), (1, (iv p0.Factor.Den))]
 let e8 : List (Nat × Value) := [(0, (iv p0.High.Num)), (1, (iv p0.High.Den))]
 let e9 : List (Nat × Value) := [(0, (iv p0.Low.Num)), (1, (iv p0.Low.Den))]
 let e10 : List Nat := [0, 1, 2, 3, 4, 5]
 let e12 := iv p0.Factor.Num
 let e13 := iv p0.Factor.Den
 let e15 := iv p0.High.Num
 let e16 := iv p0.High.Den
 let e18 := iv p0.Low.Num
 let e19 := iv p0.Low.Den
 refine WC.cutN (T := (Int × Int × Int × Int × Int × Int) × Nat × Nat × Nat) (fun t => [(3, (.pointer (some ⟨t.2.1, 0, none⟩))), (4, (.pointer (some ⟨t.2.2.1, 0, none⟩))), (5, (.pointer (some ⟨t.2.2.2, 0, none⟩)))]) (fun t w1 => St NoS w w1 [] [blk t.2.1 (.cells #[(iv t.1.1), (iv t.1.2.1)] 44 (0, 0)), blk t.2.2.1 (.cells #[(iv t.1.2.2.1), (iv t.1.2.2.2.1)] 44 (0, 0)), blk t.2.2.2 (.cells #[(iv t.1.2.2.2.2.1), (iv t.1.2.2.2.2.2)] 44 (0, 0))] ∧ x10 = t.1) (fun Kx10 => ?_) ?_
 ·
  refine WC.regionD (e1, e10, [[], [0], [], [2], [], [4], [], [], [], [0, 1, 6, 7, 8], [0, 1, 2, 3, 6, 7, 8, 9], [0, 1, 2, 3, 4, 5, 6, 7, 8, 9, 10]]) [[0, 1, 2, 3, 4, 5, 6, 7, 8, 9, 10, 11], [0, 1, 2, 3, 4, 5, 6, 8, 7, 9, 10, 11], [0, 1, 2, 3, 4, 5, 7, 6, 8, 9, 10, 11], [0, 1, 2, 3, 4, 5, 7, 8, 6, 9, 10, 11], [0, 1, 2, 3, 4, 5, 8, 6, 7, 9, 10, 11], [0, 1, 2, 3, 4, 5, 8, 7, 6, 9, 10, 11]] (by kernel_rfl) (by kernel_rfl) (NoPanic.seq (NoPanic.body)) ?_
  have hS13 := hS5.drew
  revert hS13
  generalize World.drew w4 = w12
  intro hS13
  refine ⟨⟨hS13.cell 0 rfl 0 rfl, hS13.cell 0 rfl 1 rfl, hS13.cell 0 rfl 2 rfl, hS13.cell 0 rfl 3 rfl, hS13.cell 0 rfl 4 rfl, hS13.cell 0 rfl 5 rfl, trivial⟩, forallC ?_ (forallC ?_ (forallC ?_ (forallC ?_ (forallC ?_ (forallC ?_ (forallN))))))⟩
  ·
   refine segF 6 [.v e12, .v e13, .v e18, .v e19, .v e15, .v e16] [7, 9, 11] [(7, (.agg e2)), (9, (.agg e5)), (11, (.agg e4))] [] e10 e1 (fun fb => by kernel_rfl) rfl trivial rfl ?_
   refine WL.new hS13 3 [] (fun g => (pt g)) (.cells e6 44 (0, 0)) [] (fun fb g => by kernel_rfl) trivial (fun g14 w15 hS16 => ?_)
   refine ⟨⟨hS16.cell 1 rfl 0 rfl, hS16.cell 1 rfl 1 rfl, hS16.cell 1 rfl 2 rfl, hS16.cell 1 rfl 3 rfl, hS16.cell 1 rfl 4 rfl, hS16.cell 1 rfl 5 rfl, trivial⟩, ?_⟩
   refine WL.new hS16 4 [] (fun g => (pt g)) (.cells e6 44 (0, 0)) [] (fun fb g => by kernel_rfl) trivial (fun g17 w18 hS19 => ?_)
   refine ⟨⟨hS19.cell 2 rfl 0 rfl, hS19.cell 2 rfl 1 rfl, hS19.cell 2 rfl 2 rfl, hS19.cell 2 rfl 3 rfl, hS19.cell 2 rfl 4 rfl, hS19.cell 2 rfl 5 rfl, trivial⟩, ?_⟩
   refine WL.new hS19 5 [] (fun g => (pt g)) (.cells e6 44 (0, 0)) [] (fun fb g => by kernel_rfl) trivial (fun g20 w21 hS22 => ?_)
   refine ⟨⟨hS22.cell 3 rfl 0 rfl, hS22.cell 3 rfl 1 rfl, hS22.cell 3 rfl 2 rfl, hS22.cell 3 rfl 3 rfl, hS22.cell 3 rfl 4 rfl, hS22.cell 3 rfl 5 rfl, trivial⟩, ?_⟩
   refine WL.store hS22 2 rfl e7 e2 (fun fb => by kernel_rfl) (by kernel_rfl) rfl [0, 1, 3] (by decide) (by decide) (fun w23 hS24 => ?_)
   refine ⟨⟨hS24.cell 3 rfl 2 rfl, hS24.cell 3 rfl 3 rfl, hS24.cell 3 rfl 4 rfl, hS24.cell 3 rfl 5 rfl, trivial⟩, ?_⟩
   refine WL.store hS24 2 rfl e9 e5 (fun fb => by kernel_rfl) (by kernel_rfl) rfl [0, 1, 3] (by decide) (by decide) (fun w25 hS26 => ?_)
   refine ⟨⟨hS26.cell 3 rfl 4 rfl, hS26.cell 3 rfl 5 rfl, trivial⟩, ?_⟩
   refine WL.store hS26 2 rfl e8 e4 (fun fb => by kernel_rfl) (by kernel_rfl) rfl [0, 1, 3] (by decide) (by decide) (fun w27 hS28 => ?_)
   refine ⟨trivial, ?_⟩
   refine WL.done rfl ?_
   injection hx11 with hx11
   exact WX.to Kx10 (e3, g14, g17, g20) [3, 4, 5] rfl ⟨(hS28.subR []).sub [2, 1, 0] (by decide), hx11.symm⟩
  ·
   refine segF 6 [.v e12, .v e13, .v e18, .v e19, .v e15, .v e16] [7, 9, 11] [(7, (.agg e2)), (9, (.agg e5)), (11, (.agg e4))] [] e10 e1 (fun fb => by kernel_rfl) rfl trivial rfl ?_
   refine WL.new hS13 3 [] (fun g => (pt g)) (.cells e6 44 (0, 0)) [] (fun fb g => by kernel_rfl) trivial (fun g29 w30 hS31 => ?_)
   refine ⟨⟨hS31.cell 1 rfl 0 rfl, hS31.cell 1 rfl 1 rfl, hS31.cell 1 rfl 2 rfl, hS31.cell 1 rfl 3 rfl, hS31.cell 1 rfl 4 rfl, hS31.cell 1 rfl 5 rfl, trivial⟩, ?_⟩
   refine WL.new hS31 5 [] (fun g => (pt g)) (.cells e6 44 (0, 0)) [] (fun fb g => by kernel_rfl) trivial (fun g32 w33 hS34 => ?_)
   refine ⟨⟨hS34.cell 2 rfl 0 rfl, hS34.cell 2 rfl 1 rfl, hS34.cell 2 rfl 2 rfl, hS34.cell 2 rfl 3 rfl, hS34.cell 2 rfl 4 rfl, hS34.cell 2 rfl 5 rfl, trivial⟩, ?_⟩
   refine WL.new hS34 4 [] (fun g => (pt g)) (.cells e6 44 (0, 0)) [] (fun fb g => by kernel_rfl) trivial (fun g35 w36 hS37 => ?_)
   refine ⟨⟨hS37.cell 3 rfl 0 rfl, hS37.cell 3 rfl 1 rfl, hS37.cell 3 rfl 2 rfl, hS37.cell 3 rfl 3 rfl, hS37.cell 3 rfl 4 rfl, hS37.cell 3 rfl 5 rfl, trivial⟩, ?_⟩
   refine WL.store hS37 2 rfl e7 e2 (fun fb => by kernel_rfl) (by kernel_rfl) rfl [0, 1, 3] (by decide) (by decide) (fun w38 hS40 => ?_)
   refine ⟨⟨hS40.cell 3 rfl 2 rfl, hS40.cell 3 rfl 3 rfl, hS40.cell 3 rfl 4 rfl, hS40.cell 3 rfl 5 rfl, trivial⟩, ?_⟩
   refine WL.store hS40 1 rfl e9 e5 (fun fb => by kernel_rfl) (by kernel_rfl) rfl [0, 2, 3] (by decide) (by decide) (fun w41 hS42 => ?_)
   refine ⟨⟨hS42.cell 3 rfl 4 rfl, hS42.cell 3 rfl 5 rfl, trivial⟩, ?_⟩
   refine WL.store hS42 2 rfl e8 e4 (fun fb => by kernel_rfl) (by kernel_rfl) rfl [0, 1, 3] (by decide) (by decide) (fun w43 hS44 => ?_)
   refine ⟨trivial, ?_⟩
   refine WL.done rfl ?_
   injection hx11 with hx11
   exact WX.to Kx10 (e3, g29, g35, g32) [3, 4, 5] rfl ⟨(hS44.subR []).sub [2, 1, 0] (by decide), hx11.symm⟩
  ·
   refine segF 6 [.v e12, .v e13, .v e18, .v e19, .v e15, .v e16] [7, 9, 11] [(7, (.agg e2)), (9, (.agg e5)), (11, (.agg e4))] [] e10 e1 (fun fb => by kernel_rfl) rfl trivial rfl ?_
   refine WL.new hS13 4 [] (fun g => (pt g)) (.cells e6 44 (0, 0)) [] (fun fb g => by kernel_rfl) trivial (fun g45 w46 hS47 => ?_)
   refine ⟨⟨hS47.cell 1 rfl 0 rfl, hS47.cell 1 rfl 1 rfl, hS47.cell 1 rfl 2 rfl, hS47.cell 1 rfl 3 rfl, hS47.cell 1 rfl 4 rfl, hS47.cell 1 rfl 5 rfl, trivial⟩, ?_⟩
   refine WL.new hS47 3 [] (fun g => (pt g)) (.cells e6 44 (0, 0)) [] (fun fb g => by kernel_rfl) trivial (fun g48 w49 hS50 => ?_)
   refine ⟨⟨hS50.cell 2 rfl 0 rfl, hS50.cell 2 rfl 1 rfl, hS50.cell 2 rfl 2 rfl, hS50.cell 2 rfl 3 rfl, hS50.cell 2 rfl 4 rfl, hS50.cell 2 rfl 5 rfl, trivial⟩, ?_⟩
   refine WL.new hS50 5 [] (fun g => (pt g)) (.cells e6 44 (0, 0)) [] (fun fb g => by kernel_rfl) trivial (fun g51 w52 hS53 => ?_)
   refine ⟨⟨hS53.cell 3 rfl 0 rfl, hS53.cell 3 rfl 1 rfl, hS53.cell 3 rfl 2 rfl, hS53.cell 3 rfl 3 rfl, hS53.cell 3 rfl 4 rfl, hS53.cell 3 rfl 5 rfl, trivial⟩, ?_⟩
   refine WL.store hS53 1 rfl e7 e2 (fun fb => by kernel_rfl) (by kernel_rfl) rfl [0, 2, 3] (by decide) (by decide) (fun w54 hS55 => ?_)
   refine ⟨⟨hS55.cell 3 rfl 2 rfl, hS55.cell 3 rfl 3 rfl, hS55.cell 3 rfl 4 rfl, hS55.cell 3 rfl 5 rfl, trivial⟩, ?_⟩
   refine WL.store hS55 2 rfl e9 e5 (fun fb => by kernel_rfl) (by kernel_rfl) rfl [0, 1, 3] (by decide) (by decide) (fun w56 hS57 => ?_)
   refine ⟨⟨hS57.cell 3 rfl 4 rfl, hS57.cell 3 rfl 5 rfl, trivial⟩, ?_⟩
   refine WL.store hS57 2 rfl e8 e4 (fun fb => by kernel_rfl) (by kernel_rfl) rfl [0, 1, 3] (by decide) (by decide) (fun w58 hS59 => ?_)
   refine ⟨trivial, ?_⟩
   refine WL.done rfl ?_
   injection hx11 with hx11
   exact WX.to Kx10 (e3, g48, g45, g51) [3, 4, 5] rfl ⟨(hS59.subR []).sub [2, 1, 0] (by decide), hx11.symm⟩
  ·
   refine segF 6 [.v e12, .v e13, .v e18, .v e19, .v e15, .v e16] [7, 9, 11] [(7, (.agg e2)), (9, (.agg e5)), (11, (.agg e4))] [] e10 e1 (fun fb => by kernel_rfl) rfl trivial rfl ?_
   refine WL.new hS13 4 [] (fun g => (pt g)) (.cells e6 44 (0, 0)) [] (fun fb g => by kernel_rfl) trivial (fun g60 w61 hS62 => ?_)
   refine ⟨⟨hS62.cell 1 rfl 0 rfl, hS62.cell 1 rfl 1 rfl, hS62.cell 1 rfl 2 rfl, hS62.cell 1 rfl 3 rfl, hS62.cell 1 rfl 4 rfl, hS62.cell 1 rfl 5 rfl, trivial⟩, ?_⟩
   refine WL.new hS62 5 [] (fun g => (pt g)) (.cells e6 44 (0, 0)) [] (fun fb g => by kernel_rfl) trivial (fun g63 w65 hS66 => ?_)
   refine ⟨⟨hS66.cell 2 rfl 0 rfl, hS66.cell 2 rfl 1 rfl, hS66.cell 2 rfl 2 rfl, hS66.cell 2 rfl 3 rfl, hS66.cell 2 rfl 4 rfl, hS66.cell 2 rfl 5 rfl, trivial⟩, ?_⟩
   refine WL.new hS66 3 [] (fun g => (pt g)) (.cells e6 44 (0, 0)) [] (fun fb g => by kernel_rfl) trivial (fun g67 w68 hS69 => ?_)
   refine ⟨⟨hS69.cell 3 rfl 0 rfl, hS69.cell 3 rfl 1 rfl, hS69.cell 3 rfl 2 rfl, hS69.cell 3 rfl 3 rfl, hS69.cell 3 rfl 4 rfl, hS69.cell 3 rfl 5 rfl, trivial⟩, ?_⟩
   refine WL.store hS69 0 rfl e7 e2 (fun fb => by kernel_rfl) (by kernel_rfl) rfl [1, 2, 3] (by decide) (by decide) (fun w70 hS71 => ?_)
   refine ⟨⟨hS71.cell 3 rfl 2 rfl, hS71.cell 3 rfl 3 rfl, hS71.cell 3 rfl 4 rfl, hS71.cell 3 rfl 5 rfl, trivial⟩, ?_⟩
   refine WL.store hS71 2 rfl e9 e5 (fun fb => by kernel_rfl) (by kernel_rfl) rfl [0, 1, 3] (by decide) (by decide) (fun w72 hS73 => ?_)
   refine ⟨⟨hS73.cell 3 rfl 4 rfl, hS73.cell 3 rfl 5 rfl, trivial⟩, ?_⟩
   refine WL.store hS73 2 rfl e8 e4 (fun fb => by kernel_rfl) (by kernel_rfl) rfl [0, 1, 3] (by decide) (by decide) (fun w74 hS75 => ?_)
   refine ⟨trivial, ?_⟩
   refine WL.done rfl ?_
   injection hx11 with hx11
   exact WX.to Kx10 (e3, g67, g60, g63) [3, 4, 5] rfl ⟨(hS75.subR []).sub [2, 1, 0] (by decide), hx11.symm⟩
  ·
   refine segF 6 [.v e12, .v e13, .v e18, .v e19, .v e15, .v e16] [7, 9, 11] [(7, (.agg e2)), (9, (.agg e5)), (11, (.agg e4))] [] e10 e1 (fun fb => by kernel_rfl) rfl trivial rfl ?_
   refine WL.new hS13 5 [] (fun g => (pt g)) (.cells e6 44 (0, 0)) [] (fun fb g => by kernel_rfl) trivial (fun g76 w77 hS78 => ?_)
   refine ⟨⟨hS78.cell 1 rfl 0 rfl, hS78.cell 1 rfl 1 rfl, hS78.cell 1 rfl 2 rfl, hS78.cell 1 rfl 3 rfl, hS78.cell 1 rfl 4 rfl, hS78.cell 1 rfl 5 rfl, trivial⟩, ?_⟩
   refine WL.new hS78 3 [] (fun g => (pt g)) (.cells e6 44 (0, 0)) [] (fun fb g => by kernel_rfl) trivial (fun g79 w80 hS81 => ?_)
   refine ⟨⟨hS81.cell 2 rfl 0 rfl, hS81.cell 2 rfl 1 rfl, hS81.cell 2 rfl 2 rfl, hS81.cell 2 rfl 3 rfl, hS81.cell 2 rfl 4 rfl, hS81.cell 2 rfl 5 rfl, trivial⟩, ?_⟩
   refine WL.new hS81 4 [] (fun g => (pt g)) (.cells e6 44 (0, 0)) [] (fun fb g => by kernel_rfl) trivial (fun g82 w83 hS84 => ?_)
   refine ⟨⟨hS84.cell 3 rfl 0 rfl, hS84.cell 3 rfl 1 rfl, hS84.cell 3 rfl 2 rfl, hS84.cell 3 rfl 3 rfl, hS84.cell 3 rfl 4 rfl, hS84.cell 3 rfl 5 rfl, trivial⟩, ?_⟩
   refine WL.store hS84 1 rfl e7 e2 (fun fb => by kernel_rfl) (by kernel_rfl) rfl [0, 2, 3] (by decide) (by decide) (fun w85 hS86 => ?_)
   refine ⟨⟨hS86.cell 3 rfl 2 rfl, hS86.cell 3 rfl 3 rfl, hS86.cell 3 rfl 4 rfl, hS86.cell 3 rfl 5 rfl, trivial⟩, ?_⟩
   refine WL.store hS86 1 rfl e9 e5 (fun fb => by kernel_rfl) (by kernel_rfl) rfl [0, 2, 3] (by decide) (by decide) (fun w87 hS88 => ?_)
   refine ⟨⟨hS88.cell 3 rfl 4 rfl, hS88.cell 3 rfl 5 rfl, trivial⟩, ?_⟩
   refine WL.store hS88 2 rfl e8 e4 (fun fb => by kernel_rfl) (by kernel_rfl) rfl [0, 1, 3] (by decide) (by decide) (fun w89 hS90 => ?_)
   refine ⟨trivial, ?_⟩
   refine WL.done rfl ?_
   injection hx11 with hx11
   exact WX.to Kx10 (e3, g79, g82, g76) [3, 4, 5] rfl ⟨(hS90.subR []).sub [2, 1, 0] (by decide), hx11.symm⟩
  refine segF 6 [.v e12, .v e13, .v e18, .v e19, .v e15, .v e16] [7, 9, 11] [(7, (.agg e2)), (9, (.agg e5)), (11, (.agg e4))] [] e10 e1 (fun fb => by kernel_rfl) rfl trivial rfl ?_
  refine WL.new hS13 5 [] (fun g => (pt g)) (.cells e6 44 (0, 0)) [] (fun fb g => by kernel_rfl) trivial (fun g91 w92 hS93 => ?_)
  refine ⟨⟨hS93.cell 1 rfl 0 rfl, hS93.cell 1 rfl 1 rfl, hS93.cell 1 rfl 2 rfl, hS93.cell 1 rfl 3 rfl, hS93.cell 1 rfl 4 rfl, hS93.cell 1 rfl 5 rfl, trivial⟩, ?_⟩
  refine WL.new hS93 4 [] (fun g => (pt g)) (.cells e6 44 (0, 0)) [] (fun fb g => by kernel_rfl) trivial (fun g94 w95 hS96 => ?_)
  refine ⟨⟨hS96.cell 2 rfl 0 rfl, hS96.cell 2 rfl 1 rfl, hS96.cell 2 rfl 2 rfl, hS96.cell 2 rfl 3 rfl, hS96.cell 2 rfl 4 rfl, hS96.cell 2 rfl 5 rfl, trivial⟩, ?_⟩
  refine WL.new hS96 3 [] (fun g => (pt g)) (.cells e6 44 (0, 0)) [] (fun fb g => by kernel_rfl) trivial (fun g97 w98 hS99 => ?_)
  refine ⟨⟨hS99.cell 3 rfl 0 rfl, hS99.cell 3 rfl 1 rfl, hS99.cell 3 rfl 2 rfl, hS99.cell 3 rfl 3 rfl, hS99.cell 3 rfl 4 rfl, hS99.cell 3 rfl 5 rfl, trivial⟩, ?_⟩
  refine WL.store hS99 0 rfl e7 e2 (fun fb => by kernel_rfl) (by kernel_rfl) rfl [1, 2, 3] (by decide) (by decide) (fun w100 hS101 => ?_)
  refine ⟨⟨hS101.cell 3 rfl 2 rfl, hS101.cell 3 rfl 3 rfl, hS101.cell 3 rfl 4 rfl, hS101.cell 3 rfl 5 rfl, trivial⟩, ?_⟩
  refine WL.store hS101 1 rfl e9 e5 (fun fb => by kernel_rfl) (by kernel_rfl) rfl [0, 2, 3] (by decide) (by decide) (fun w102 hS103 => ?_)
  refine ⟨⟨hS103.cell 3 rfl 4 rfl, hS103.cell 3 rfl 5 rfl, trivial⟩, ?_⟩
  refine WL.store hS103 2 rfl e8 e4 (fun fb => by kernel_rfl) (by kernel_rfl) rfl [0, 1, 3] (by decide) (by decide) (fun w104 hS105 => ?_)
  refine ⟨trivial, ?_⟩
  refine WL.done rfl ?_
  injection hx11 with hx11
  exact WX.to Kx10 (e3, g97, g94, g91) [3, 4, 5] rfl ⟨(hS105.subR []).sub [2, 1, 0] (by decide), hx11.symm⟩
 rintro ⟨y109, g6, g8, g9⟩ w106 ⟨hS107, hq108⟩
 subst hq108
 refine WX.next (WC.seq (WC.seq (WC.region ?_)))
 refine seg 1 [.v (iv x10.1), .v (iv x10.2.1)] [3, 4, 5, 12] [(3, (pt g6)), (4, (pt g8)), (5, (pt g9)), (12, (.agg #[(iv x10.1), (iv x10.2.1)]))] [.cell ⟨g6, 0, none⟩ (iv x10.1), .cell ⟨g6, 1, none⟩ (iv x10.2.1)] (fun fb => by kernel_rfl) rfl ⟨hS107.cell 0 rfl 0 rfl, hS107.cell 0 rfl 1 rfl, trivial⟩ ?_
 obtain ⟨t110, ht111, hf⟩ := bind_some hf
 refine WL.call (some 13) 58 #[(.agg #[(iv x10.1), (iv x10.2.1)])] (fun fb => by kernel_rfl) (ref07_frac_calls (Frac.mk x10.1 x10.2.1) t110 _ ht111) (fun v w112 hR113 => ?_)
 obtain ⟨rfl, hk_⟩ := hR113
 have hS114 := hS107.keepN hk_
 refine ⟨trivial, ?_⟩
 refine sg 4 [] [3, 4, 5, 15] [(3, (pt g6)), (4, (pt g8)), (5, (pt g9)), (15, (bv (!t110)))] (by kernel_rfl) ?_
 obtain ⟨x115, hx116, hf⟩ := bind_some hf
 let e17 : Array Value := #[(iv x10.2.2.1), (iv x10.2.2.2.1)]
 refine WL.cutW (T := Bool) 8 (fun t => [(3, (pt g6)), (4, (pt g8)), (5, (pt g9)), (19, (bv t))]) (fun t w1 => (St NoS w w1 [] [blk g6 (.cells #[(iv x10.1), (iv x10.2.1)] 44 (0, 0)), blk g8 (.cells e17 44 (0, 0)), blk g9 (.cells #[(iv x10.2.2.2.2.1), (iv x10.2.2.2.2.2)] 44 (0, 0))] ∧ x115 = t) ∧ CellsOK [] w1) (fun K => ?_) ?_
 ·
  rcases br_some hx116 with ⟨h117, hx116⟩ | ⟨h117, hx116⟩
  ·
   refine WL.setB 15 h117 rfl ?_
   refine sg 8 [] [3, 4, 5, 19] [(3, (pt g6)), (4, (pt g8)), (5, (pt g9)), (19, (bv true))] (by kernel_rfl) ?_
   injection hx116 with hx116
   exact WL.to K true [3, 4, 5, 19] rfl ⟨⟨(hS114.subR []).sub [0, 1, 2] (by decide), hx116.symm⟩, trivial⟩
  refine WL.setB 15 h117 rfl ?_
  refine seg 5 [.v (iv x10.2.2.1), .v (iv x10.2.2.2.1)] [3, 4, 5, 15, 16] [(3, (pt g6)), (4, (pt g8)), (5, (pt g9)), (15, (bv false)), (16, (.agg e17))] [.cell ⟨g8, 0, none⟩ (iv x10.2.2.1), .cell ⟨g8, 1, none⟩ (iv x10.2.2.2.1)] (fun fb => by kernel_rfl) rfl ⟨hS114.cell 1 rfl 0 rfl, hS114.cell 1 rfl 1 rfl, trivial⟩ ?_
  obtain ⟨t118, ht119, hx116⟩ := bind_some hx116
  refine WL.call (some 17) 58 #[(.agg e17)] (fun fb => by kernel_rfl) (ref07_frac_calls (Frac.mk x10.2.2.1 x10.2.2.2.1) t118 _ ht119) (fun v w120 hR121 => ?_)
  obtain ⟨rfl, hk_⟩ := hR121
  have hS122 := hS114.keepN hk_
  refine ⟨trivial, ?_⟩
  refine sg 8 [] [3, 4, 5, 19] [(3, (pt g6)), (4, (pt g8)), (5, (pt g9)), (19, (bv (!t118)))] (by kernel_rfl) ?_
  injection hx116 with hx116
  exact WL.to K (!t118) [3, 4, 5, 19] rfl ⟨⟨(hS122.subR []).sub [0, 1, 2] (by decide), hx116.symm⟩, trivial⟩
 rintro y123 w125 ⟨⟨hS126, hq124⟩, hF127⟩
 subst hq124
 refine sg 9 [] [3, 4, 5, 20] [(3, (pt g6)), (4, (pt g8)), (5, (pt g9)), (20, (bv x115))] (by kernel_rfl) ?_
 obtain ⟨x128, hx129, hf⟩ := bind_some hf
 let e11 : Array Value := #[(iv x10.2.2.2.2.1), (iv x10.2.2.2.2.2)]
 refine WL.cutW (T := Bool) 13 (fun t => [(3, (pt g6)), (4, (pt g8)), (5, (pt g9)), (24, (bv t))]) (fun t w1 => (St NoS w w1 [] [blk g6 (.cells #[(iv x10.1), (iv x10.2.1)] 44 (0, 0)), blk g8 (.cells e17 44 (0, 0)), blk g9 (.cells e11 44 (0, 0))] ∧ x128 = t) ∧ CellsOK [] w1) (fun K => ?_) ?_
 ·
  rcases br_some hx129 with ⟨h130, hx129⟩ | ⟨h130, hx129⟩
  ·
   refine WL.setB 20 h130 rfl ?_
   refine sg 13 [] [3, 4, 5, 24] [(3, (pt g6)), (4, (pt g8)), (5, (pt g9)), (24, (bv true))] (by kernel_rfl) ?_
   injection hx129 with hx129
   exact WL.to K true [3, 4, 5, 24] rfl ⟨⟨(hS126.subR []).sub [0, 1, 2] (by decide), hx129.symm⟩, trivial⟩
  refine WL.setB 20 h130 rfl ?_
  refine seg 10 [.v (iv x10.2.2.2.2.1), .v (iv x10.2.2.2.2.2)] [3, 4, 5, 20, 21] [(3, (pt g6)), (4, (pt g8)), (5, (pt g9)), (20, (bv false)), (21, (.agg e11))] [.cell ⟨g9, 0, none⟩ (iv x10.2.2.2.2.1), .cell ⟨g9, 1, none⟩ (iv x10.2.2.2.2.2)] (fun fb => by kernel_rfl) rfl ⟨hS126.cell 2 rfl 0 rfl, hS126.cell 2 rfl 1 rfl, trivial⟩ ?_
  obtain ⟨t131, ht132, hx129⟩ := bind_some hx129
  refine WL.call (some 22) 58 #[(.agg e11)] (fun fb => by kernel_rfl) (ref07_frac_calls (Frac.mk x10.2.2.2.2.1 x10.2.2.2.2.2) t131 _ ht132) (fun v w133 hR134 => ?_)
  obtain ⟨rfl, hk_⟩ := hR134
  have hS135 := hS126.keepN hk_
  refine ⟨trivial, ?_⟩
  refine sg 13 [] [3, 4, 5, 24] [(3, (pt g6)), (4, (pt g8)), (5, (pt g9)), (24, (bv (!t131)))] (by kernel_rfl) ?_
  injection hx129 with hx129
  exact WL.to K (!t131) [3, 4, 5, 24] rfl ⟨⟨(hS135.subR []).sub [0, 1, 2] (by decide), hx129.symm⟩, trivial⟩
 rintro y136 w138 ⟨⟨hS139, hq137⟩, hF140⟩
 subst hq137
 refine sg 14 [] [3, 4, 5, 25] [(3, (pt g6)), (4, (pt g8)), (5, (pt g9)), (25, (bv x128))] (by kernel_rfl) ?_
 refine WL.cutV (T := Bool) 18 (fun t => [(29, (bv t)), (3, (pt g6)), (4, (pt g8)), (5, (pt g9))]) (fun t => (x128 || (decide (x10.1 < 1))) = t) (fun K => ?_) ?_
 ·
  rcases Bool.eq_false_or_eq_true x128 with h141 | h141
  ·
   refine WL.setB 25 h141 rfl ?_
   refine sg 18 [] [3, 4, 5, 29] [(3, (pt g6)), (4, (pt g8)), (5, (pt g9)), (29, (bv true))] (by kernel_rfl) ?_
   exact WL.toV K true [29, 3, 4, 5] rfl (by first | (rw [h141]; done) | (rw [h141]; rfl))
  refine WL.setB 25 h141 rfl ?_
  refine seg 18 [.v (iv x10.1)] [3, 4, 5, 29] [(3, (pt g6)), (4, (pt g8)), (5, (pt g9)), (29, (bv (decide (x10.1 < 1))))] [.cell ⟨g6, 0, none⟩ (iv x10.1)] (fun fb => by kernel_rfl) rfl ⟨hS139.cell 0 rfl 0 rfl, trivial⟩ ?_
  exact WL.toV K (decide (x10.1 < 1)) [29, 3, 4, 5] rfl (by first | (rw [h141]; done) | (rw [h141]; rfl))
 rintro b142 rfl
 refine sg 19 [] [3, 4, 5, 30] [(3, (pt g6)), (4, (pt g8)), (5, (pt g9)), (30, (bv (x128 || (decide (x10.1 < 1)))))] (by kernel_rfl) ?_
 refine WL.cutV (T := Bool) 23 (fun t => [(34, (bv t)), (3, (pt g6)), (4, (pt g8)), (5, (pt g9))]) (fun t => ((x128 || (decide (x10.1 < 1))) || (decide (x10.1 > 12))) = t) (fun K => ?_) ?_
 ·
  rcases Bool.eq_false_or_eq_true (x128 || (decide (x10.1 < 1))) with h143 | h143
  ·
   refine WL.setB 30 h143 rfl ?_
   refine sg 23 [] [3, 4, 5, 34] [(3, (pt g6)), (4, (pt g8)), (5, (pt g9)), (34, (bv true))] (by kernel_rfl) ?_
   exact WL.toV K true [34, 3, 4, 5] rfl (by first | (rw [h143]; done) | (rw [h143]; rfl))
  refine WL.setB 30 h143 rfl ?_
  refine seg 23 [.v (iv x10.1)] [3, 4, 5, 34] [(3, (pt g6)), (4, (pt g8)), (5, (pt g9)), (34, (bv (decide (x10.1 > 12))))] [.cell ⟨g6, 0, none⟩ (iv x10.1)] (fun fb => by kernel_rfl) rfl ⟨hS139.cell 0 rfl 0 rfl, trivial⟩ ?_
  exact WL.toV K (decide (x10.1 > 12)) [34, 3, 4, 5] rfl (by first | (rw [h143]; done) | (rw [h143]; rfl))
 rintro b144 rfl
 refine sg 24 [] [3, 4, 5, 35] [(3, (pt g6)), (4, (pt g8)), (5, (pt g9)), (35, (bv ((x128 || (decide (x10.1 < 1))) || (decide (x10.1 > 12)))))] (by kernel_rfl) ?_
 refine WL.cutV (T := Bool) 28 (fun t => [(39, (bv t)), (3, (pt g6)), (4, (pt g8)), (5, (pt g9))]) (fun t => (((x128 || (decide (x10.1 < 1))) || (decide (x10.1 > 12))) || (decide (x10.2.1 > 12))) = t) (fun K => ?_) ?_
 ·
  rcases Bool.eq_false_or_eq_true ((x128 || (decide (x10.1 < 1))) || (decide (x10.1 > 12))) with h145 | h145
  ·
   refine WL.setB 35 h145 rfl ?_
   refine sg 28 [] [3, 4, 5, 39] [(3, (pt g6)), (4, (pt g8)), (5, (pt g9)), (39, (bv true))] (by kernel_rfl) ?_
   exact WL.toV K true [39, 3, 4, 5] rfl (by first | (rw [h145]; done) | (rw [h145]; rfl))
  refine WL.setB 35 h145 rfl ?_
  refine seg 28 [.v (iv x10.2.1)] [3, 4, 5, 39] [(3, (pt g6)), (4, (pt g8)), (5, (pt g9)), (39, (bv (decide (x10.2.1 > 12))))] [.cell ⟨g6, 1, none⟩ (iv x10.2.1)] (fun fb => by kernel_rfl) rfl ⟨hS139.cell 0 rfl 1 rfl, trivial⟩ ?_
  exact WL.toV K (decide (x10.2.1 > 12)) [39, 3, 4, 5] rfl (by first | (rw [h145]; done) | (rw [h145]; rfl))
 rintro b146 rfl
 refine sg 29 [] [3, 4, 5, 40] [(3, (pt g6)), (4, (pt g8)), (5, (pt g9)), (40, (bv (((x128 || (decide (x10.1 < 1))) || (decide (x10.1 > 12))) || (decide (x10.2.1 > 12)))))] (by kernel_rfl) ?_
 obtain ⟨x147, hx148, hf⟩ := bind_some hf
 refine WL.cutW (T := Bool) 38 (fun t => [(4, (pt g8)), (5, (pt g9)), (49, (bv t))]) (fun t w1 => (St NoS w w1 [] [blk g8 (.cells e17 44 (0, 0)), blk g9 (.cells e11 44 (0, 0))] ∧ x147 = t) ∧ CellsOK [] w1) (fun K => ?_) ?_
 ·
  rcases br_some hx148 with ⟨h149, hx148⟩ | ⟨h149, hx148⟩
  ·
   refine WL.setB 40 h149 rfl ?_
   refine sg 38 [] [4, 5, 49] [(4, (pt g8)), (5, (pt g9)), (49, (bv true))] (by kernel_rfl) ?_
   injection hx148 with hx148
   exact WL.to K true [4, 5, 49] rfl ⟨⟨(hS139.subR []).sub [1, 2] (by decide), hx148.symm⟩, trivial⟩
  refine WL.setB 40 h149 rfl ?_
  refine seg 35 [.v (iv x10.1), .v (iv x10.2.1)] [4, 5, 40, 43, 46] [(4, (pt g8)), (5, (pt g9)), (40, (bv false)), (43, (.int .u64 (IntKind.wrap .u64 (x10.1)))), (46, (.int .u64 (IntKind.wrap .u64 (x10.2.1))))] [.cell ⟨g6, 0, none⟩ (iv x10.1), .cell ⟨g6, 1, none⟩ (iv x10.2.1)] (fun fb => by kernel_rfl) rfl ⟨hS139.cell 0 rfl 0 rfl, hS139.cell 0 rfl 1 rfl, trivial⟩ ?_
  obtain ⟨t150, ht151, hx148⟩ := bind_some hx148
  refine WL.call (some 47) 59 #[(.int .u64 (IntKind.wrap .u64 (x10.1))), (.int .u64 (IntKind.wrap .u64 (x10.2.1)))] (fun fb => by kernel_rfl) (ref07_gcd_calls _ (IntKind.wrap .u64 (x10.1)) (IntKind.wrap .u64 (x10.2.1)) t150 _ ht151) (fun v w152 hR153 => ?_)
  obtain ⟨rfl, hk_⟩ := hR153
  have hS154 := hS139.keepN hk_
  refine ⟨trivial, ?_⟩
  refine sg 38 [] [4, 5, 49] [(4, (pt g8)), (5, (pt g9)), (49, (bv (t150 != 1)))] (by kernel_rfl) ?_
  injection hx148 with hx148
  exact WL.to K (t150 != 1) [4, 5, 49] rfl ⟨⟨(hS154.subR []).sub [1, 2] (by decide), hx148.symm⟩, trivial⟩
 rintro y155 w157 ⟨⟨hS158, hq156⟩, hF159⟩
 subst hq156
 refine WL.done rfl (WX.next ?_)
 rcases br_some hf with ⟨h160, hf⟩ | ⟨h160, hf⟩
 ·refine WC.condT2 (fun fb => by kernel_rfl) h160 ?_
  refine WC.seq (WC.region ?_)
  refine sg 1 [] [2] [(2, (bv false))] (by kernel_rfl) ?_
  refine WL.done rfl (WX.next ?_)
  refine WC.ret ?_
  injection hf with hf
  subst hf
  exact WX.thenR (WX.ret_ [] (bv false) [] (fun fb => by kernel_rfl) trivial ⟨_, rfl, rfl, hS158.keep⟩)
 refine WC.condF2 (fun fb => by kernel_rfl) h160 ?_
 refine WC.skip (WX.next (WC.seq (WC.region ?_)))
 refine seg 4 [.v (iv x10.2.2.2.1)] [4, 5, 53] [(4, (pt g8)), (5, (pt g9)), (53, (bv (decide (x10.2.2.2.1 ≤ 1000))))] [.cell ⟨g8, 1, none⟩ (iv x10.2.2.2.1)] (fun fb => by kernel_rfl) rfl ⟨hS158.cell 0 rfl 1 rfl, trivial⟩ ?_
 refine WL.cutV (T := Bool) 8 (fun t => [(57, (bv t)), (4, (pt g8)), (5, (pt g9))]) (fun t => ((decide (x10.2.2.2.1 ≤ 1000)) && (decide (x10.2.2.2.2.2 ≤ 1000))) = t) (fun K => ?_) ?_
 ·
  rcases Bool.eq_false_or_eq_true (decide (x10.2.2.2.1 ≤ 1000)) with h161 | h161
  ·
   refine WL.setB 53 h161 rfl ?_
   refine seg 8 [.v (iv x10.2.2.2.2.2)] [4, 5, 57] [(4, (pt g8)), (5, (pt g9)), (57, (bv (decide (x10.2.2.2.2.2 ≤ 1000))))] [.cell ⟨g9, 1, none⟩ (iv x10.2.2.2.2.2)] (fun fb => by kernel_rfl) rfl ⟨hS158.cell 1 rfl 1 rfl, trivial⟩ ?_
   exact WL.toV K (decide (x10.2.2.2.2.2 ≤ 1000)) [57, 4, 5] rfl (by first | (rw [h161]; done) | (rw [h161]; rfl))
  refine WL.setB 53 h161 rfl ?_
  refine sg 8 [] [4, 5, 57] [(4, (pt g8)), (5, (pt g9)), (57, (bv false))] (by kernel_rfl) ?_
  exact WL.toV K false [57, 4, 5] rfl (by first | (rw [h161]; done) | (rw [h161]; rfl))
 rintro b162 rfl
 refine sg 9 [] [4, 5, 58] [(4, (pt g8)), (5, (pt g9)), (58, (bv ((decide (x10.2.2.2.1 ≤ 1000)) && (decide (x10.2.2.2.2.2 ≤ 1000)))))] (by kernel_rfl) ?_
 refine WL.cutV (T := Bool) 13 (fun t => [(62, (bv t)), (4, (pt g8)), (5, (pt g9))]) (fun t => (((decide (x10.2.2.2.1 ≤ 1000)) && (decide (x10.2.2.2.2.2 ≤ 1000))) && (decide (x10.2.2.1 ≥ 0))) = t) (fun K => ?_) ?_
 ·
  rcases Bool.eq_false_or_eq_true ((decide (x10.2.2.2.1 ≤ 1000)) && (decide (x10.2.2.2.2.2 ≤ 1000))) with h163 | h163
  ·
   refine WL.setB 58 h163 rfl ?_
   refine seg 13 [.v (iv x10.2.2.1)] [4, 5, 62] [(4, (pt g8)), (5, (pt g9)), (62, (bv (decide (x10.2.2.1 ≥ 0))))] [.cell ⟨g8, 0, none⟩ (iv x10.2.2.1)] (fun fb => by kernel_rfl) rfl ⟨hS158.cell 0 rfl 0 rfl, trivial⟩ ?_
   exact WL.toV K (decide (x10.2.2.1 ≥ 0)) [62, 4, 5] rfl (by first | (rw [h163]; done) | (rw [h163]; rfl))
  refine WL.setB 58 h163 rfl ?_
  refine sg 13 [] [4, 5, 62] [(4, (pt g8)), (5, (pt g9)), (62, (bv false))] (by kernel_rfl) ?_
  exact WL.toV K false [62, 4, 5] rfl (by first | (rw [h163]; done) | (rw [h163]; rfl))
 rintro b164 rfl
 refine sg 14 [] [4, 5, 63] [(4, (pt g8)), (5, (pt g9)), (63, (bv (((decide (x10.2.2.2.1 ≤ 1000)) && (decide (x10.2.2.2.2.2 ≤ 1000))) && (decide (x10.2.2.1 ≥ 0)))))] (by kernel_rfl) ?_
 refine WL.cutV (T := Bool) 26 (fun t => [(75, (bv t)), (5, (pt g9))]) (fun t => ((((decide (x10.2.2.2.1 ≤ 1000)) && (decide (x10.2.2.2.2.2 ≤ 1000))) && (decide (x10.2.2.1 ≥ 0))) && (decide (w64 (x10.2.2.1 * x10.2.2.2.2.2) < w64 (x10.2.2.2.2.1 * x10.2.2.2.1)))) = t) (fun K => ?_) ?_
 ·
  rcases Bool.eq_false_or_eq_true (((decide (x10.2.2.2.1 ≤ 1000)) && (decide (x10.2.2.2.2.2 ≤ 1000))) && (decide (x10.2.2.1 ≥ 0))) with h165 | h165
  ·
   refine WL.setB 63 h165 rfl ?_
   refine seg 26 [.v (iv x10.2.2.1), .v (iv x10.2.2.2.2.2), .v (iv x10.2.2.2.2.1), .v (iv x10.2.2.2.1)] [5, 75] [(5, (pt g9)), (75, (bv (decide (w64 (x10.2.2.1 * x10.2.2.2.2.2) < w64 (x10.2.2.2.2.1 * x10.2.2.2.1)))))] [.cell ⟨g8, 0, none⟩ (iv x10.2.2.1), .cell ⟨g9, 1, none⟩ (iv x10.2.2.2.2.2), .cell ⟨g9, 0, none⟩ (iv x10.2.2.2.2.1), .cell ⟨g8, 1, none⟩ (iv x10.2.2.2.1)] (fun fb => by kernel_rfl) rfl ⟨hS158.cell 0 rfl 0 rfl, hS158.cell 1 rfl 1 rfl, hS158.cell 1 rfl 0 rfl, hS158.cell 0 rfl 1 rfl, trivial⟩ ?_
   exact WL.toV K (decide (w64 (x10.2.2.1 * x10.2.2.2.2.2) < w64 (x10.2.2.2.2.1 * x10.2.2.2.1))) [75, 5] rfl (by first | (rw [h165]; done) | (rw [h165]; rfl))
  refine WL.setB 63 h165 rfl ?_
  refine sg 26 [] [5, 75] [(5, (pt g9)), (75, (bv false))] (by kernel_rfl) ?_
  exact WL.toV K false [75, 5] rfl (by first | (rw [h165]; done) | (rw [h165]; rfl))
 rintro b166 rfl
 refine sg 27 [] [5, 76] [(5, (pt g9)), (76, (bv ((((decide (x10.2.2.2.1 ≤ 1000)) && (decide (x10.2.2.2.2.2 ≤ 1000))) && (decide (x10.2.2.1 ≥ 0))) && (decide (w64 (x10.2.2.1 * x10.2.2.2.2.2) < w64 (x10.2.2.2.2.1 * x10.2.2.2.1))))))] (by kernel_rfl) ?_
 let e14 := w64 (x10.2.2.1 * x10.2.2.2.2.2) < w64 (x10.2.2.2.2.1 * x10.2.2.2.1)
 refine WL.cutV (T := Bool) 34 (fun t => [(83, (bv t))]) (fun t => (((((decide (x10.2.2.2.1 ≤ 1000)) && (decide (x10.2.2.2.2.2 ≤ 1000))) && (decide (x10.2.2.1 ≥ 0))) && (decide e14)) && (decide (x10.2.2.2.2.1 ≤ w64 (12 * x10.2.2.2.2.2)))) = t) (fun K => ?_) ?_
 ·
  rcases Bool.eq_false_or_eq_true ((((decide (x10.2.2.2.1 ≤ 1000)) && (decide (x10.2.2.2.2.2 ≤ 1000))) && (decide (x10.2.2.1 ≥ 0))) && (decide e14)) with h167 | h167
  ·
   refine WL.setB 76 h167 rfl ?_
   refine seg 34 [.v (iv x10.2.2.2.2.1), .v (iv x10.2.2.2.2.2)] [83] [(83, (bv (decide (x10.2.2.2.2.1 ≤ w64 (12 * x10.2.2.2.2.2)))))] [.cell ⟨g9, 0, none⟩ (iv x10.2.2.2.2.1), .cell ⟨g9, 1, none⟩ (iv x10.2.2.2.2.2)] (fun fb => by kernel_rfl) rfl ⟨hS158.cell 1 rfl 0 rfl, hS158.cell 1 rfl 1 rfl, trivial⟩ ?_
   exact WL.toV K (decide (x10.2.2.2.2.1 ≤ w64 (12 * x10.2.2.2.2.2))) [83] rfl (by first | (rw [h167]; done) | (rw [h167]; rfl))
  refine WL.setB 76 h167 rfl ?_
  refine sg 34 [] [83] [(83, (bv false))] (by kernel_rfl) ?_
  exact WL.toV K false [83] rfl (by first | (rw [h167]; done) | (rw [h167]; rfl))
 rintro b168 rfl
 refine sg 35 [] [2] [(2, (bv (((((decide (x10.2.2.2.1 ≤ 1000)) && (decide (x10.2.2.2.2.2 ≤ 1000))) && (decide (x10.2.2.1 ≥ 0))) && (decide e14)) && (decide (x10.2.2.2.2.1 ≤ w64 (12 * x10.2.2.2.2.2))))))] (by kernel_rfl) ?_
 refine WL.done rfl (WX.next ?_)
 refine WC.ret ?_
 injection hf with hf
 subst hf
 exact WX.ret_ [] (bv (((((decide (x10.2.2.2.1 ≤ 1000)) && (decide (x10.2.2.2.2.2 ≤ 1000))) && (decide (x10.2.2.1 ≥ 0))) && (decide e14)) && (decide (x10.2.2.2.2.1 ≤ w64 (12 * x10.2.2.2.2.2))))) [] (fun fb => by kernel_rfl) trivial ⟨_, rfl, rfl, hS158.keep⟩
theorem ref07_Valid_calls (k : Nat) (p0 : List Piece) (Aa : Option Addr) (ca : Nat) (r : Bool) (w : World) (hR0 : RO NoS w (rowR enc_Piece Aa ca p0)) (hf : ref07_Valid k p0 = some r) :
  CallsR Tryz.prog 12 #[(sv Aa p0 ca)] w (fun v w' => v = (bv r) ∧ Keeps NoS w w') := by
 have hS : St NoS w w [rowR enc_Piece Aa ca p0] [] := St.init (ro_cons hR0 (ro_nil _ _))
 refine enter 24 Tryz.func12 rfl Tryz.ntmps12 rfl ?_
 unfold ref07_Valid at hf
 refine WC.seq (WC.region ?_)
 refine sg 1 [] [0] [(0, (sv Aa p0 ca))] (by kernel_rfl) ?_
 refine WL.done rfl (WX.next (WC.seq (WC.seq (WC.region ?_))))
 refine sg 4 [] [0, 7] [(0, (sv Aa p0 ca)), (7, (bv (decide ((p0.length : Int) < 1))))] (by kernel_rfl) ?_
 refine WL.cutV (T := Bool) 8 (fun t => [(11, (bv t)), (0, (sv Aa p0 ca))]) (fun t => ((decide ((p0.length : Int) < 1)) || (decide ((p0.length : Int) > 6))) = t) (fun K => ?_) ?_
 ·
  rcases Bool.eq_false_or_eq_true (decide ((p0.length : Int) < 1)) with h3 | h3
  ·
   refine WL.setB 7 h3 rfl ?_
   refine sg 8 [] [0, 11] [(0, (sv Aa p0 ca)), (11, (bv true))] (by kernel_rfl) ?_
   exact WL.toV K true [11, 0] rfl (by first | (rw [h3]; done) | (rw [h3]; rfl))
  refine WL.setB 7 h3 rfl ?_
  refine sg 8 [] [0, 11] [(0, (sv Aa p0 ca)), (11, (bv (decide ((p0.length : Int) > 6))))] (by kernel_rfl) ?_
  exact WL.toV K (decide ((p0.length : Int) > 6)) [11, 0] rfl (by first | (rw [h3]; done) | (rw [h3]; rfl))
 rintro b4 rfl
 refine WL.done rfl (WX.next ?_)
 rcases br_some hf with ⟨h5, hf⟩ | ⟨h5, hf⟩
 ·refine WC.condT2 (fun fb => by kernel_rfl) h5 ?_
  refine WC.seq (WC.region ?_)
  refine sg 1 [] [2] [(2, (bv false))] (by kernel_rfl) ?_
  refine WL.done rfl (WX.next ?_)
  refine WC.ret ?_
  injection hf with hf
  subst hf
  exact WX.thenR (WX.ret_ [] (bv false) [] (fun fb => by kernel_rfl) trivial ⟨_, rfl, rfl, hS.keep⟩)
 refine WC.condF2 (fun fb => by kernel_rfl) h5 ?_
 refine WC.skip (WX.next (WC.seq (WC.seq (WC.region ?_))))
 refine sg 1 [] [0, 3] [(0, (sv Aa p0 ca)), (3, (iv 0))] (by kernel_rfl) ?_
 refine WL.done rfl (WX.next ?_)
 obtain ⟨x8, hx9, hf⟩ := bind_some hf
 let e4 : Nat × Value := (0, (sv Aa p0 ca))
 refine WC.cutN (T := Unit) (fun t => []) (fun t w1 => St NoS w w1 [rowR enc_Piece Aa ca p0] [] ∧ x8 = .inr t) (fun Kx8 => ?_) ?_
 ·
  refine WC.block ?_
  refine WC.loop (T := Int) (fun t => [e4, (3, (iv t))]) (fun n t w1 => St NoS w w1 [rowR enc_Piece Aa ca p0] [] ∧ ref07_Valid.l0 n t p0 = some x8) k 0 [0, 3] rfl ⟨(hS.subR [0]).sub [] (by decide), hx9⟩ ?_
  rintro k10 x6 w11 ⟨hS13, hl14⟩
  let e1 := rdD p0 x6 z_Piece
  let e2 := (adr Aa).add ((x6).toNat * 6)
  let e3 : Array Value := #[(iv ((e1.Factor).Num)), (iv ((e1.Factor).Den)), (iv ((e1.Low).Num)), (iv ((e1.Low).Den)), (iv ((e1.High).Num)), (iv ((e1.High).Den))]
  cases k10 with
  | zero => rw [ref07_Valid.l0] at hl14; cases hl14
  | succ k10 =>
   rw [ref07_Valid.l0] at hl14
   refine WC.seq (WC.seq (WC.region ?_))
   refine sg 4 [] [0, 3, 15] [e4, (3, (iv x6)), (15, (bv (decide (x6 < (p0.length : Int)))))] (by kernel_rfl) ?_
   refine WL.done rfl (WX.next ?_)
   rcases br_some hl14 with ⟨h15, hl14⟩ | ⟨h15, hl14⟩
   ·refine WC.condT2 (fun fb => by kernel_rfl) h15 ?_
    refine WC.skip (WX.next (WC.seq (WC.block (WC.seq (WC.region ?_)))))
    refine sg 2 [] [0, 3, 18, 19] [e4, (3, (iv x6)), (18, (sv Aa p0 ca)), (19, (iv x6))] (by kernel_rfl) ?_
    obtain ⟨h16, hl14⟩ := as_some hl14
    refine seg 4 [.v (iv ((e1.Factor).Num)), .v (iv ((e1.Factor).Den)), .v (iv ((e1.Low).Num)), .v (iv ((e1.Low).Den)), .v (iv ((e1.High).Num)), .v (iv ((e1.High).Den))] [0, 3, 21] [e4, (3, (iv x6)), (21, (.agg e3))] [.idx Aa x6 p0.length, .cell e2 (iv ((e1.Factor).Num)), .cell (e2.add 1) (iv ((e1.Factor).Den)), .cell (e2.add 2) (iv ((e1.Low).Num)), .cell (e2.add 3) (iv ((e1.Low).Den)), .cell (e2.add 4) (iv ((e1.High).Num)), .cell (e2.add 5) (iv ((e1.High).Den))] (fun fb => by kernel_rfl) rfl ⟨rowR.adr (hS13.rd 0).1 h16.1 h16.2, rowR.cell (hS13.rd 0).1 z_Piece h16.1 h16.2 0 rfl, rowR.cell (hS13.rd 0).1 z_Piece h16.1 h16.2 1 rfl, rowR.cell (hS13.rd 0).1 z_Piece h16.1 h16.2 2 rfl, rowR.cell (hS13.rd 0).1 z_Piece h16.1 h16.2 3 rfl, rowR.cell (hS13.rd 0).1 z_Piece h16.1 h16.2 4 rfl, rowR.cell (hS13.rd 0).1 z_Piece h16.1 h16.2 5 rfl, trivial⟩ ?_
    obtain ⟨t17, ht18, hl14⟩ := bind_some hl14
    refine WL.call (some 22) 39 #[(.agg e3)] (fun fb => by kernel_rfl) (ref07_piece_calls _ e1 t17 _ ht18) (fun v w19 hR20 => ?_)
    obtain ⟨rfl, hk_⟩ := hR20
    have hS21 := hS13.keepN hk_
    refine ⟨trivial, ?_⟩
    refine sg 6 [] [0, 3, 23] [e4, (3, (iv x6)), (23, (bv (!t17)))] (by kernel_rfl) ?_
    refine WL.done rfl (WX.next ?_)
    rcases br_some hl14 with ⟨h22, hl14⟩ | ⟨h22, hl14⟩
    ·refine WC.condT2 (fun fb => by kernel_rfl) h22 ?_
     refine WC.seq (WC.region ?_)
     refine sg 1 [] [2] [(2, (bv false))] (by kernel_rfl) ?_
     refine WL.done rfl (WX.next ?_)
     refine WC.ret ?_
     injection hl14 with hl14
     subst hl14
     injection hf with hf
     subst hf
     exact WX.blockR (WX.thenR (WX.thenR (WX.blockR (WX.thenR (WX.ret_ [] (bv false) [] (fun fb => by kernel_rfl) trivial ⟨_, rfl, rfl, hS21.keep⟩)))))
    refine WC.condF2 (fun fb => by kernel_rfl) h22 ?_
    refine WC.skip ?_
    refine WX.blockN (WX.next ?_)
    refine WC.region ?_
    refine sg 3 [] [0, 3] [e4, (3, (iv (w64 (x6 + 1))))] (by kernel_rfl) ?_
    refine WL.done rfl ?_
    exact WX.again k10 (Nat.lt_succ_self _) (w64 (x6 + 1)) [0, 3] rfl ⟨(hS21.subR [0]).sub [] (by decide), hl14⟩
   refine WC.condF2 (fun fb => by kernel_rfl) h15 ?_
   refine WC.exit ?_
   injection hl14 with hl14
   exact WX.thenX (WX.thenX (WX.blockHere (WX.to Kx8 () [] rfl ⟨(hS13.subR [0]).sub [] (by decide), hl14.symm⟩)))
 rintro y26 w23 ⟨hS24, hq25⟩
 subst hq25
 have hf := sum_inr hf
 refine WX.next (WC.seq (WC.region ?_))
 refine sg 1 [] [2] [(2, (bv true))] (by kernel_rfl) ?_
 refine WL.done rfl (WX.next ?_)
 refine WC.ret ?_
 injection hf with hf
 subst hf
 exact WX.ret_ [] (bv true) [] (fun fb => by kernel_rfl) trivial ⟨_, rfl, rfl, hS24.keep⟩
theorem ref07_possible_calls (p0 : Piece) (p1 : Int) (p2 : Int) (p3 : Int) (p4 : Int)  (r : Bool) (w : World)  (hf : ref07_possible p0 p1 p2 p3 p4 = some r) :
  CallsR Tryz.prog 93 #[(.agg #[(iv p0.Factor.Num), (iv p0.Factor.Den), (iv p0.Low.Num), (iv p0.Low.Den), (iv p0.High.Num), (iv p0.High.Den)]), (iv p1), (iv p2), (iv p3), (iv p4)] w (fun v w' => v = (bv r) ∧ Keeps NoS w w') := by
 have hS : St NoS w w [] [] := St.init (ro_nil _ _)
 refine enter 103 Tryz.func93 rfl Tryz.ntmps93 rfl ?_
 unfold ref07_possible at hf
 refine WC.seq (WC.region ?_)
 refine WL.new hS 5 [] (fun g => (pt g)) (.cells #[(iv p0.Factor.Num), (iv p0.Factor.Den), (iv p0.Low.Num), (iv p0.Low.Den), (iv p0.High.Num), (iv p0.High.Den)] 66 (0, 0)) [] (fun fb g => by kernel_rfl) trivial (fun g5 w6 hS8 => ?_)
 refine ⟨trivial, ?_⟩
 refine sg 2 [] [1, 2, 3, 4, 5] [(1, (iv p1)), (2, (iv p2)), (3, (iv p3)), (4, (iv p4)), (5, (pt g5))] (by kernel_rfl) ?_
 refine WL.done rfl (WX.next (WC.seq ?_))
 refine WC.regionD ([(2, ⟨g5, 0, none⟩, (iv p0.Factor.Num)), (5, ⟨g5, 1, none⟩, (iv p0.Factor.Den))], [0, 1, 2, 3, 4, 5, 6, 7], [[], [0], [0, 1], [], [3], [3, 4], [0, 1, 2], [0, 1, 2, 3, 4, 5, 6]]) [[0, 1, 2, 3, 4, 5, 6, 7]] (by kernel_rfl) (by kernel_rfl) (NoPanic.seq (NoPanic.body)) ?_
 have hS10 := hS8.drew
 revert hS10
 generalize World.drew w6 = w9
 intro hS10
 refine ⟨⟨hS10.cell 0 rfl 0 rfl, hS10.cell 0 rfl 1 rfl, trivial⟩, forallC ?_ (forallN)⟩
 refine segF 8 [.v (iv p0.Factor.Num), .v (iv p0.Factor.Den)] [1, 2, 3, 4, 5, 11, 12] [(1, (iv p1)), (2, (iv p2)), (3, (iv p3)), (4, (iv p4)), (5, (pt g5)), (11, (iv p0.Factor.Num)), (12, (iv p0.Factor.Den))] [] [0, 1] [(2, ⟨g5, 0, none⟩, (iv p0.Factor.Num)), (5, ⟨g5, 1, none⟩, (iv p0.Factor.Den))] (fun fb => by kernel_rfl) rfl trivial rfl ?_
 refine WL.done rfl (WX.next (WC.seq (WC.region ?_)))
 refine sg 20 [] [1, 2, 4, 5, 11, 12, 13, 14] [(1, (iv p1)), (2, (iv p2)), (4, (iv p4)), (5, (pt g5)), (11, (iv p0.Factor.Num)), (12, (iv p0.Factor.Den)), (13, (iv (maxI 0 (w64 ((w64 (p3 * p0.Factor.Den)) - (w64 (p1 * p0.Factor.Num))))))), (14, (iv (minI p0.Factor.Num (w64 ((w64 ((w64 (p3 + 1)) * p0.Factor.Den)) - (w64 (p1 * p0.Factor.Num)))))))] (by kernel_rfl) ?_
 refine WL.done rfl (WX.next (WC.seq (WC.region ?_)))
 let e10 := w64 (p1 * p0.Factor.Num)
 refine sg 26 [] [5, 11, 13, 14, 15, 16] [(5, (pt g5)), (11, (iv p0.Factor.Num)), (13, (iv (maxI 0 (w64 ((w64 (p3 * p0.Factor.Den)) - e10))))), (14, (iv (minI p0.Factor.Num (w64 ((w64 ((w64 (p3 + 1)) * p0.Factor.Den)) - e10))))), (15, (iv (maxI (w64 (p2 * p0.Factor.Num)) (w64 ((w64 (p4 * p0.Factor.Den)) - e10))))), (16, (iv (minI (w64 ((w64 (p2 + 1)) * p0.Factor.Num)) (w64 ((w64 ((w64 (p4 + 1)) * p0.Factor.Den)) - e10)))))] (by kernel_rfl) ?_
 refine WL.done rfl (WX.next (WC.seq (WC.region ?_)))
 let e9 := w64 (p1 * p0.Factor.Num)
 refine sg 4 [] [5, 11, 13, 14, 15, 16, 68] [(5, (pt g5)), (11, (iv p0.Factor.Num)), (13, (iv (maxI 0 (w64 ((w64 (p3 * p0.Factor.Den)) - e9))))), (14, (iv (minI p0.Factor.Num (w64 ((w64 ((w64 (p3 + 1)) * p0.Factor.Den)) - e9))))), (15, (iv (maxI (w64 (p2 * p0.Factor.Num)) (w64 ((w64 (p4 * p0.Factor.Den)) - e9))))), (16, (iv (minI (w64 ((w64 (p2 + 1)) * p0.Factor.Num)) (w64 ((w64 ((w64 (p4 + 1)) * p0.Factor.Den)) - e9))))), (68, (bv (decide (maxI 0 (w64 ((w64 (p3 * p0.Factor.Den)) - e9)) < minI p0.Factor.Num (w64 ((w64 ((w64 (p3 + 1)) * p0.Factor.Den)) - e9))))))] (by kernel_rfl) ?_
 let e1 := w64 (p1 * p0.Factor.Num)
 let e4 : Nat × Value := (16, (iv (minI (w64 ((w64 (p2 + 1)) * p0.Factor.Num)) (w64 ((w64 ((w64 (p4 + 1)) * p0.Factor.Den)) - e1)))))
 let e5 := w64 ((w64 ((w64 (p3 + 1)) * p0.Factor.Den)) - e1)
 let e6 := decide (maxI (w64 (p2 * p0.Factor.Num)) (w64 ((w64 (p4 * p0.Factor.Den)) - e1)) < minI (w64 ((w64 (p2 + 1)) * p0.Factor.Num)) (w64 ((w64 ((w64 (p4 + 1)) * p0.Factor.Den)) - e1)))
 let e7 : Nat × Value := (15, (iv (maxI (w64 (p2 * p0.Factor.Num)) (w64 ((w64 (p4 * p0.Factor.Den)) - e1)))))
 let e8 := w64 ((w64 (p3 * p0.Factor.Den)) - e1)
 let e11 : Nat × Value := (14, (iv (minI p0.Factor.Num e5)))
 refine WL.cutV (T := Bool) 8 (fun t => [(72, (bv t)), (5, (pt g5)), (11, (iv p0.Factor.Num)), (13, (iv (maxI 0 e8))), e11, e7, e4]) (fun t => ((decide (maxI 0 e8 < minI p0.Factor.Num e5)) && e6) = t) (fun K => ?_) ?_
 ·
  rcases Bool.eq_false_or_eq_true (decide (maxI 0 e8 < minI p0.Factor.Num e5)) with h11 | h11
  ·
   refine WL.setB 68 h11 rfl ?_
   refine sg 8 [] [5, 11, 13, 14, 15, 16, 72] [(5, (pt g5)), (11, (iv p0.Factor.Num)), (13, (iv (maxI 0 e8))), e11, e7, e4, (72, (bv e6))] (by kernel_rfl) ?_
   exact WL.toV K (decide (maxI (w64 (p2 * p0.Factor.Num)) (w64 ((w64 (p4 * p0.Factor.Den)) - (w64 (p1 * p0.Factor.Num)))) < minI (w64 ((w64 (p2 + 1)) * p0.Factor.Num)) (w64 ((w64 ((w64 (p4 + 1)) * p0.Factor.Den)) - (w64 (p1 * p0.Factor.Num)))))) [72, 5, 11, 13, 14, 15, 16] rfl (by first | (rw [h11]; done) | (rw [h11]; rfl))
  refine WL.setB 68 h11 rfl ?_
  refine sg 8 [] [5, 11, 13, 14, 15, 16, 72] [(5, (pt g5)), (11, (iv p0.Factor.Num)), (13, (iv (maxI 0 e8))), e11, e7, e4, (72, (bv false))] (by kernel_rfl) ?_
  exact WL.toV K false [72, 5, 11, 13, 14, 15, 16] rfl (by first | (rw [h11]; done) | (rw [h11]; rfl))
 rintro b12 rfl
 refine sg 9 [] [5, 11, 13, 14, 15, 16, 73] [(5, (pt g5)), (11, (iv p0.Factor.Num)), (13, (iv (maxI 0 e8))), e11, e7, e4, (73, (bv ((decide (maxI 0 e8 < minI p0.Factor.Num e5)) && e6)))] (by kernel_rfl) ?_
 let e3 := decide (w64 (p0.Low.Num * p0.Factor.Num) < w64 ((w64 ((minI (w64 ((w64 (p2 + 1)) * p0.Factor.Num)) (w64 ((w64 ((w64 (p4 + 1)) * p0.Factor.Den)) - e1))) - (maxI 0 e8))) * p0.Low.Den))
 refine WL.cutV (T := Bool) 23 (fun t => [(87, (bv t)), (5, (pt g5)), (11, (iv p0.Factor.Num)), e11, e7]) (fun t => (((decide (maxI 0 e8 < minI p0.Factor.Num e5)) && e6) && e3) = t) (fun K => ?_) ?_
 ·
  rcases Bool.eq_false_or_eq_true ((decide (maxI 0 e8 < minI p0.Factor.Num e5)) && e6) with h13 | h13
  ·
   refine WL.setB 73 h13 rfl ?_
   refine seg 23 [.v (iv p0.Low.Num), .v (iv p0.Low.Den)] [5, 11, 14, 15, 87] [(5, (pt g5)), (11, (iv p0.Factor.Num)), e11, e7, (87, (bv e3))] [.cell ⟨g5, 2, none⟩ (iv p0.Low.Num), .cell ⟨g5, 3, none⟩ (iv p0.Low.Den)] (fun fb => by kernel_rfl) rfl ⟨hS10.cell 0 rfl 2 rfl, hS10.cell 0 rfl 3 rfl, trivial⟩ ?_
   exact WL.toV K (decide (w64 (p0.Low.Num * p0.Factor.Num) < w64 ((w64 ((minI (w64 ((w64 (p2 + 1)) * p0.Factor.Num)) (w64 ((w64 ((w64 (p4 + 1)) * p0.Factor.Den)) - (w64 (p1 * p0.Factor.Num))))) - (maxI 0 (w64 ((w64 (p3 * p0.Factor.Den)) - (w64 (p1 * p0.Factor.Num))))))) * p0.Low.Den))) [87, 5, 11, 14, 15] rfl (by first | (rw [h13]; done) | (rw [h13]; rfl))
  refine WL.setB 73 h13 rfl ?_
  refine sg 23 [] [5, 11, 14, 15, 87] [(5, (pt g5)), (11, (iv p0.Factor.Num)), e11, e7, (87, (bv false))] (by kernel_rfl) ?_
  exact WL.toV K false [87, 5, 11, 14, 15] rfl (by first | (rw [h13]; done) | (rw [h13]; rfl))
 rintro b14 rfl
 refine sg 24 [] [5, 11, 14, 15, 88] [(5, (pt g5)), (11, (iv p0.Factor.Num)), e11, e7, (88, (bv (((decide (maxI 0 e8 < minI p0.Factor.Num e5)) && e6) && e3)))] (by kernel_rfl) ?_
 let e2 := decide (w64 ((w64 ((maxI (w64 (p2 * p0.Factor.Num)) (w64 ((w64 (p4 * p0.Factor.Den)) - e1))) - (minI p0.Factor.Num e5))) * p0.High.Den) < w64 (p0.High.Num * p0.Factor.Num))
 refine WL.cutV (T := Bool) 38 (fun t => [(102, (bv t))]) (fun t => ((((decide (maxI 0 e8 < minI p0.Factor.Num e5)) && e6) && e3) && e2) = t) (fun K => ?_) ?_
 ·
  rcases Bool.eq_false_or_eq_true (((decide (maxI 0 e8 < minI p0.Factor.Num e5)) && e6) && e3) with h15 | h15
  ·
   refine WL.setB 88 h15 rfl ?_
   refine seg 38 [.v (iv p0.High.Den), .v (iv p0.High.Num)] [102] [(102, (bv e2))] [.cell ⟨g5, 5, none⟩ (iv p0.High.Den), .cell ⟨g5, 4, none⟩ (iv p0.High.Num)] (fun fb => by kernel_rfl) rfl ⟨hS10.cell 0 rfl 5 rfl, hS10.cell 0 rfl 4 rfl, trivial⟩ ?_
   exact WL.toV K (decide (w64 ((w64 ((maxI (w64 (p2 * p0.Factor.Num)) (w64 ((w64 (p4 * p0.Factor.Den)) - (w64 (p1 * p0.Factor.Num))))) - (minI p0.Factor.Num (w64 ((w64 ((w64 (p3 + 1)) * p0.Factor.Den)) - (w64 (p1 * p0.Factor.Num))))))) * p0.High.Den) < w64 (p0.High.Num * p0.Factor.Num))) [102] rfl (by first | (rw [h15]; done) | (rw [h15]; rfl))
  refine WL.setB 88 h15 rfl ?_
  refine sg 38 [] [102] [(102, (bv false))] (by kernel_rfl) ?_
  exact WL.toV K false [102] rfl (by first | (rw [h15]; done) | (rw [h15]; rfl))
 rintro b16 rfl
 refine sg 39 [] [10] [(10, (bv ((((decide (maxI 0 e8 < minI p0.Factor.Num e5)) && e6) && e3) && e2)))] (by kernel_rfl) ?_
 refine WL.done rfl (WX.next ?_)
 refine WC.ret ?_
 injection hf with hf
 subst hf
 exact WX.ret_ [] (bv ((((decide (maxI 0 e8 < minI p0.Factor.Num e5)) && e6) && e3) && e2)) [] (fun fb => by kernel_rfl) trivial ⟨_, rfl, rfl, hS10.keep⟩
theorem ref07_before_calls (p0 : Made) (p1 : Made)  (r : Bool) (w : World)  (hf : ref07_before p0 p1 = some r) :
  CallsR Tryz.prog 112 #[(.agg #[(iv p0.Piece), (iv p0.S), (iv p0.N), (iv p0.W), (iv p0.E)]), (.agg #[(iv p1.Piece), (iv p1.S), (iv p1.N), (iv p1.W), (iv p1.E)])] w (fun v w' => v = (bv r) ∧ Keeps NoS w w') := by
 have hS : St NoS w w [] [] := St.init (ro_nil _ _)
 refine enter 32 Tryz.func112 rfl Tryz.ntmps112 rfl ?_
 unfold ref07_before at hf
 refine WC.seq (WC.region ?_)
 refine WL.new hS 2 [] (fun g => (pt g)) (.cells #[(iv p0.Piece), (iv p0.S), (iv p0.N), (iv p0.W), (iv p0.E)] 90 (0, 0)) [] (fun fb g => by kernel_rfl) trivial (fun g3 w4 hS5 => ?_)
 refine ⟨trivial, ?_⟩
 refine WL.new hS5 3 [] (fun g => (pt g)) (.cells #[(iv p1.Piece), (iv p1.S), (iv p1.N), (iv p1.W), (iv p1.E)] 90 (0, 0)) [] (fun fb g => by kernel_rfl) trivial (fun g6 w8 hS9 => ?_)
 refine ⟨trivial, ?_⟩
 refine sg 3 [] [2, 3] [(2, (pt g3)), (3, (pt g6))] (by kernel_rfl) ?_
 refine WL.done rfl (WX.next (WC.seq (WC.block (WC.seq (WC.region ?_)))))
 refine seg 6 [.v (iv p0.S), .v (iv p1.S)] [2, 3, 5] [(2, (pt g3)), (3, (pt g6)), (5, (bv (p0.S != p1.S)))] [.cell ⟨g3, 1, none⟩ (iv p0.S), .cell ⟨g6, 1, none⟩ (iv p1.S)] (fun fb => by kernel_rfl) rfl ⟨hS9.cell 1 rfl 1 rfl, hS9.cell 0 rfl 1 rfl, trivial⟩ ?_
 refine WL.done rfl (WX.next ?_)
 rcases br_some hf with ⟨h10, hf⟩ | ⟨h10, hf⟩
 ·refine WC.condT2 (fun fb => by kernel_rfl) h10 ?_
  refine WC.seq (WC.region ?_)
  refine seg 6 [.v (iv p0.S), .v (iv p1.S)] [4] [(4, (bv (decide (p0.S < p1.S))))] [.cell ⟨g3, 1, none⟩ (iv p0.S), .cell ⟨g6, 1, none⟩ (iv p1.S)] (fun fb => by kernel_rfl) rfl ⟨hS9.cell 1 rfl 1 rfl, hS9.cell 0 rfl 1 rfl, trivial⟩ ?_
  refine WL.done rfl (WX.next ?_)
  refine WC.ret ?_
  injection hf with hf
  subst hf
  exact WX.blockR (WX.thenR (WX.ret_ [] (bv (decide (p0.S < p1.S))) [] (fun fb => by kernel_rfl) trivial ⟨_, rfl, rfl, hS9.keep⟩))
 refine WC.condF2 (fun fb => by kernel_rfl) h10 ?_
 refine WC.seq (WC.region ?_)
 refine seg 6 [.v (iv p0.N), .v (iv p1.N)] [2, 3, 16] [(2, (pt g3)), (3, (pt g6)), (16, (bv (p0.N != p1.N)))] [.cell ⟨g3, 2, none⟩ (iv p0.N), .cell ⟨g6, 2, none⟩ (iv p1.N)] (fun fb => by kernel_rfl) rfl ⟨hS9.cell 1 rfl 2 rfl, hS9.cell 0 rfl 2 rfl, trivial⟩ ?_
 refine WL.done rfl (WX.next ?_)
 rcases br_some hf with ⟨h11, hf⟩ | ⟨h11, hf⟩
 ·refine WC.condT2 (fun fb => by kernel_rfl) h11 ?_
  refine WC.seq (WC.region ?_)
  refine seg 6 [.v (iv p0.N), .v (iv p1.N)] [4] [(4, (bv (decide (p0.N < p1.N))))] [.cell ⟨g3, 2, none⟩ (iv p0.N), .cell ⟨g6, 2, none⟩ (iv p1.N)] (fun fb => by kernel_rfl) rfl ⟨hS9.cell 1 rfl 2 rfl, hS9.cell 0 rfl 2 rfl, trivial⟩ ?_
  refine WL.done rfl (WX.next ?_)
  refine WC.ret ?_
  injection hf with hf
  subst hf
  exact WX.blockR (WX.thenR (WX.ret_ [] (bv (decide (p0.N < p1.N))) [] (fun fb => by kernel_rfl) trivial ⟨_, rfl, rfl, hS9.keep⟩))
 refine WC.condF2 (fun fb => by kernel_rfl) h11 ?_
 refine WC.skip ?_
 refine WX.blockN (WX.next ?_)
 refine WC.seq (WC.region ?_)
 refine seg 6 [.v (iv p0.W), .v (iv p1.W)] [4] [(4, (bv (decide (p0.W < p1.W))))] [.cell ⟨g3, 3, none⟩ (iv p0.W), .cell ⟨g6, 3, none⟩ (iv p1.W)] (fun fb => by kernel_rfl) rfl ⟨hS9.cell 1 rfl 3 rfl, hS9.cell 0 rfl 3 rfl, trivial⟩ ?_
 refine WL.done rfl (WX.next ?_)
 refine WC.ret ?_
 injection hf with hf
 subst hf
 exact WX.ret_ [] (bv (decide (p0.W < p1.W))) [] (fun fb => by kernel_rfl) trivial ⟨_, rfl, rfl, hS9.keep⟩
end Gp
