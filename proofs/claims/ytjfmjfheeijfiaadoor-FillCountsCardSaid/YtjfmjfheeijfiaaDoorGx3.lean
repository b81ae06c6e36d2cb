/- Walks: each function of the program computes its plain function. -/
import Derived.Test.YtjfmjfheeijfiaaDoorGx2
set_option linter.unusedVariables false
set_option linter.unusedSimpArgs false
set_option maxHeartbeats 4000000
namespace Gp
open Go Gw Go.Proofs
theorem ref01_Index_calls (k : Nat) (p0 : List Tile) (p1 : Tile) (Aa : Option Addr) (ca : Nat) (r : Int) (w : World) (hR0 : RO NoS w (rowR enc_Tile Aa ca p0)) (hf : ref01_Index k p0 p1 = some r) :
  CallsR Tryd.prog 51 #[(sv Aa p0 ca), (.agg #[(iv p1.N), (iv p1.E), (iv p1.S), (iv p1.W)])] w (fun v w' => v = (iv r) ∧ Keeps NoS w w') := by
 have hS : St NoS w w [rowR enc_Tile Aa ca p0] [] := St.init (ro_cons hR0 (ro_nil _ _))
 refine enter 19 Tryd.func51 rfl Tryd.ntmps51 rfl ?_
 unfold ref01_Index at hf
 refine WC.seq (WC.region ?_)
 refine WL.new hS 3 [] (fun g => (pt g)) (.cells #[(iv p1.N), (iv p1.E), (iv p1.S), (iv p1.W)] 40 (0, 0)) [] (fun fb g => by kernel_rfl) trivial (fun g3 w4 hS5 => ?_)
 refine ⟨trivial, ?_⟩
 refine seg 2 [] [0, 3] [(0, (sv Aa p0 ca)), (3, (pt g3))] [] (fun fb => by kernel_rfl) rfl trivial ?_
 refine WL.done rfl (WX.next (WC.seq (WC.seq (WC.region ?_))))
 refine seg 1 [] [0, 3, 5] [(0, (sv Aa p0 ca)), (3, (pt g3)), (5, (iv 0))] [] (fun fb => by kernel_rfl) rfl trivial ?_
 refine WL.done rfl (WX.next ?_)
 obtain ⟨x7, hx8, hf⟩ := bind_some hf
 refine WC.cutN (T := Unit) (fun t => []) (fun t w1 => St NoS w w1 [rowR enc_Tile Aa ca p0] [] ∧ x7 = .inr t) (fun Kx7 => ?_) ?_
 ·
  refine WC.block ?_
  refine WC.loop (T := Int) (fun t => [(0, (sv Aa p0 ca)), (3, (pt g3)), (5, (iv t))]) (fun n t w1 => St NoS w w1 [rowR enc_Tile Aa ca p0] [blk g3 (.cells #[(iv p1.N), (iv p1.E), (iv p1.S), (iv p1.W)] 40 (0, 0))] ∧ ref01_Index.l0 n t p0 p1 = some x7) k 0 [0, 3, 5] rfl ⟨(hS5.subR [0]).sub [0] (by decide), hx8⟩ ?_
  rintro k9 x6 w10 ⟨hS11, hl12⟩
  cases k9 with
  | zero => rw [ref01_Index.l0] at hl12; cases hl12
  | succ k9 =>
   rw [ref01_Index.l0] at hl12
   refine WC.seq (WC.seq (WC.region ?_))
   refine seg 4 [] [0, 3, 5, 9] [(0, (sv Aa p0 ca)), (3, (pt g3)), (5, (iv x6)), (9, (bv (decide (x6 < (p0.length : Int)))))] [] (fun fb => by kernel_rfl) rfl trivial ?_
   refine WL.done rfl (WX.next ?_)
   rcases br_some hl12 with ⟨h13, hl12⟩ | ⟨h13, hl12⟩
   ·refine WC.condT2 (fun fb => by kernel_rfl) h13 ?_
    refine WC.skip (WX.next (WC.seq (WC.block (WC.seq ?_))))
    obtain ⟨h16, hl12⟩ := as_some hl12
    refine WC.regionD ([(3, ((adr Aa).add ((x6).toNat * 4)), (iv ((rdD p0 x6 z_Tile).N))), (3, (((adr Aa).add ((x6).toNat * 4)).add 1), (iv ((rdD p0 x6 z_Tile).E))), (3, (((adr Aa).add ((x6).toNat * 4)).add 2), (iv ((rdD p0 x6 z_Tile).S))), (3, (((adr Aa).add ((x6).toNat * 4)).add 3), (iv ((rdD p0 x6 z_Tile).W))), (4, ⟨g3, 0, none⟩, (iv p1.N)), (4, ⟨g3, 1, none⟩, (iv p1.E)), (4, ⟨g3, 2, none⟩, (iv p1.S)), (4, ⟨g3, 3, none⟩, (iv p1.W))], [0, 1, 2, 3, 4, 5], [[], [], [0, 1], [0, 1, 2], [], [0, 1, 2, 3, 4]]) [[0, 1, 2, 3, 4, 5]] (by kernel_rfl) (by kernel_rfl) (NoPanic.seq (NoPanic.block (NoPanic.seq (NoPanic.seq (NoPanic.block (NoPanic.seq (NoPanic.body))))))) ?_
    have hS15 := hS11.drew
    revert hS15
    generalize World.drew w10 = w14
    intro hS15
    refine ⟨⟨rowR.cell (hS15.rd 0).1 z_Tile h16.1 h16.2 0 rfl, rowR.cell (hS15.rd 0).1 z_Tile h16.1 h16.2 1 rfl, rowR.cell (hS15.rd 0).1 z_Tile h16.1 h16.2 2 rfl, rowR.cell (hS15.rd 0).1 z_Tile h16.1 h16.2 3 rfl, hS15.cell 0 rfl 0 rfl, hS15.cell 0 rfl 1 rfl, hS15.cell 0 rfl 2 rfl, hS15.cell 0 rfl 3 rfl, trivial⟩, forallC ?_ (forallN)⟩
    refine segF 6 [.v (iv ((rdD p0 x6 z_Tile).N)), .v (iv ((rdD p0 x6 z_Tile).E)), .v (iv ((rdD p0 x6 z_Tile).S)), .v (iv ((rdD p0 x6 z_Tile).W)), .v (iv p1.N), .v (iv p1.E), .v (iv p1.S), .v (iv p1.W)] [0, 3, 5, 17] [(0, (sv Aa p0 ca)), (3, (pt g3)), (5, (iv x6)), (17, (bv (((rdD p0 x6 z_Tile).N) == p1.N && (((rdD p0 x6 z_Tile).E) == p1.E && (((rdD p0 x6 z_Tile).S) == p1.S && (((rdD p0 x6 z_Tile).W) == p1.W))))))] [.idx Aa x6 p0.length] [0, 1, 2, 3, 4, 5, 6, 7] [(3, ((adr Aa).add ((x6).toNat * 4)), (iv ((rdD p0 x6 z_Tile).N))), (3, (((adr Aa).add ((x6).toNat * 4)).add 1), (iv ((rdD p0 x6 z_Tile).E))), (3, (((adr Aa).add ((x6).toNat * 4)).add 2), (iv ((rdD p0 x6 z_Tile).S))), (3, (((adr Aa).add ((x6).toNat * 4)).add 3), (iv ((rdD p0 x6 z_Tile).W))), (4, ⟨g3, 0, none⟩, (iv p1.N)), (4, ⟨g3, 1, none⟩, (iv p1.E)), (4, ⟨g3, 2, none⟩, (iv p1.S)), (4, ⟨g3, 3, none⟩, (iv p1.W))] (fun fb => by kernel_rfl) rfl ⟨rowR.adr (hS15.rd 0).1 h16.1 h16.2, trivial⟩ rfl ?_
    refine WL.done rfl (WX.next ?_)
    rcases br_some hl12 with ⟨h17, hl12⟩ | ⟨h17, hl12⟩
    ·refine WC.condT2 (fun fb => by kernel_rfl) h17 ?_
     refine WC.seq (WC.region ?_)
     refine seg 2 [] [4] [(4, (iv x6))] [] (fun fb => by kernel_rfl) rfl trivial ?_
     refine WL.done rfl (WX.next ?_)
     refine WC.ret ?_
     injection hl12 with hl12
     subst hl12
     injection hf with hf
     subst hf
     exact WX.blockR (WX.thenR (WX.thenR (WX.blockR (WX.thenR (WX.ret_ [] (iv x6) [] (fun fb => by kernel_rfl) trivial ⟨_, rfl, rfl, hS15.keep⟩)))))
    refine WC.condF2 (fun fb => by kernel_rfl) h17 ?_
    refine WC.skip ?_
    refine WX.blockN (WX.next ?_)
    refine WC.region ?_
    refine seg 3 [] [0, 3, 5] [(0, (sv Aa p0 ca)), (3, (pt g3)), (5, (iv (w64 (x6 + 1))))] [] (fun fb => by kernel_rfl) rfl trivial ?_
    refine WL.done rfl ?_
    exact WX.again k9 (Nat.lt_succ_self _) (w64 (x6 + 1)) [0, 3, 5] rfl ⟨(hS15.subR [0]).sub [0] (by decide), hl12⟩
   refine WC.condF2 (fun fb => by kernel_rfl) h13 ?_
   refine WC.exit ?_
   injection hl12 with hl12
   exact WX.thenX (WX.thenX (WX.blockHere (WX.to Kx7 () [] rfl ⟨(hS11.subR [0]).sub [] (by decide), hl12.symm⟩)))
 rintro y21 w18 ⟨hS19, hq20⟩
 subst hq20
 have hf := sum_inr hf
 refine WX.next (WC.seq (WC.region ?_))
 refine seg 1 [] [4] [(4, (iv (-1)))] [] (fun fb => by kernel_rfl) rfl trivial ?_
 refine WL.done rfl (WX.next ?_)
 refine WC.ret ?_
 injection hf with hf
 subst hf
 exact WX.ret_ [] (iv (-1)) [] (fun fb => by kernel_rfl) trivial ⟨_, rfl, rfl, hS19.keep⟩
theorem ref01_Valid_calls (k : Nat) (p0 : List Tile) (Aa : Option Addr) (ca : Nat) (r : Bool) (w : World) (hR0 : RO NoS w (rowR enc_Tile Aa ca p0)) (hf : ref01_Valid k p0 = some r) :
  CallsR Tryd.prog 15 #[(sv Aa p0 ca)] w (fun v w' => v = (bv r) ∧ Keeps NoS w w') := by
 have hS : St NoS w w [rowR enc_Tile Aa ca p0] [] := St.init (ro_cons hR0 (ro_nil _ _))
 refine enter 48 Tryd.func15 rfl Tryd.ntmps15 rfl ?_
 unfold ref01_Valid at hf
 refine WC.seq (WC.region ?_)
 refine seg 1 [] [0] [(0, (sv Aa p0 ca))] [] (fun fb => by kernel_rfl) rfl trivial ?_
 refine WL.done rfl (WX.next (WC.seq (WC.seq (WC.region ?_))))
 refine seg 3 [] [0, 7] [(0, (sv Aa p0 ca)), (7, (bv (decide ((p0.length : Int) > 1000))))] [] (fun fb => by kernel_rfl) rfl trivial ?_
 refine WL.done rfl (WX.next ?_)
 rcases br_some hf with ⟨h3, hf⟩ | ⟨h3, hf⟩
 ·refine WC.condT2 (fun fb => by kernel_rfl) h3 ?_
  refine WC.seq (WC.region ?_)
  refine seg 1 [] [2] [(2, (bv false))] [] (fun fb => by kernel_rfl) rfl trivial ?_
  refine WL.done rfl (WX.next ?_)
  refine WC.ret ?_
  injection hf with hf
  subst hf
  exact WX.thenR (WX.ret_ [] (bv false) [] (fun fb => by kernel_rfl) trivial ⟨_, rfl, rfl, hS.keep⟩)
 refine WC.condF2 (fun fb => by kernel_rfl) h3 ?_
 refine WC.skip (WX.next (WC.seq (WC.seq (WC.region ?_))))
 refine seg 1 [] [0, 3] [(0, (sv Aa p0 ca)), (3, (iv 0))] [] (fun fb => by kernel_rfl) rfl trivial ?_
 refine WL.done rfl (WX.next ?_)
 obtain ⟨x5, hx6, hf⟩ := bind_some hf
 refine WC.cutN (T := Unit) (fun t => []) (fun t w1 => St NoS w w1 [rowR enc_Tile Aa ca p0] [] ∧ x5 = .inr t) (fun Kx5 => ?_) ?_
 ·
  refine WC.block ?_
  refine WC.loop (T := Int) (fun t => [(0, (sv Aa p0 ca)), (3, (iv t))]) (fun n t w1 => St NoS w w1 [rowR enc_Tile Aa ca p0] [] ∧ ref01_Valid.l0 n t p0 = some x5) k 0 [0, 3] rfl ⟨(hS.subR [0]).sub [] (by decide), hx6⟩ ?_
  rintro k7 x4 w8 ⟨hS9, hl10⟩
  cases k7 with
  | zero => rw [ref01_Valid.l0] at hl10; cases hl10
  | succ k7 =>
   rw [ref01_Valid.l0] at hl10
   refine WC.seq (WC.seq (WC.region ?_))
   refine seg 4 [] [0, 3, 11] [(0, (sv Aa p0 ca)), (3, (iv x4)), (11, (bv (decide (x4 < (p0.length : Int)))))] [] (fun fb => by kernel_rfl) rfl trivial ?_
   refine WL.done rfl (WX.next ?_)
   rcases br_some hl10 with ⟨h11, hl10⟩ | ⟨h11, hl10⟩
   ·refine WC.condT2 (fun fb => by kernel_rfl) h11 ?_
    refine WC.skip (WX.next (WC.seq (WC.block (WC.seq (WC.region ?_)))))
    refine seg 2 [] [0, 3, 14, 15] [(0, (sv Aa p0 ca)), (3, (iv x4)), (14, (sv Aa p0 ca)), (15, (iv x4))] [] (fun fb => by kernel_rfl) rfl trivial ?_
    obtain ⟨h12, hl10⟩ := as_some hl10
    refine seg 4 [.v (iv ((rdD p0 x4 z_Tile).N)), .v (iv ((rdD p0 x4 z_Tile).E)), .v (iv ((rdD p0 x4 z_Tile).S)), .v (iv ((rdD p0 x4 z_Tile).W))] [0, 3, 17] [(0, (sv Aa p0 ca)), (3, (iv x4)), (17, (.agg #[(iv ((rdD p0 x4 z_Tile).N)), (iv ((rdD p0 x4 z_Tile).E)), (iv ((rdD p0 x4 z_Tile).S)), (iv ((rdD p0 x4 z_Tile).W))]))] [.idx Aa x4 p0.length, .cell ((adr Aa).add ((x4).toNat * 4)) (iv ((rdD p0 x4 z_Tile).N)), .cell (((adr Aa).add ((x4).toNat * 4)).add 1) (iv ((rdD p0 x4 z_Tile).E)), .cell (((adr Aa).add ((x4).toNat * 4)).add 2) (iv ((rdD p0 x4 z_Tile).S)), .cell (((adr Aa).add ((x4).toNat * 4)).add 3) (iv ((rdD p0 x4 z_Tile).W))] (fun fb => by kernel_rfl) rfl ⟨rowR.adr (hS9.rd 0).1 h12.1 h12.2, rowR.cell (hS9.rd 0).1 z_Tile h12.1 h12.2 0 rfl, rowR.cell (hS9.rd 0).1 z_Tile h12.1 h12.2 1 rfl, rowR.cell (hS9.rd 0).1 z_Tile h12.1 h12.2 2 rfl, rowR.cell (hS9.rd 0).1 z_Tile h12.1 h12.2 3 rfl, trivial⟩ ?_
    refine WL.new hS9 4 [] (fun g => (pt g)) (.cells #[(iv 0), (iv 0), (iv 0), (iv 0)] 40 (0, 0)) [] (fun fb g => by kernel_rfl) trivial (fun g13 w14 hS16 => ?_)
    refine ⟨trivial, ?_⟩
    refine WL.store hS16 0 rfl [(0, (iv ((rdD p0 x4 z_Tile).N))), (1, (iv ((rdD p0 x4 z_Tile).E))), (2, (iv ((rdD p0 x4 z_Tile).S))), (3, (iv ((rdD p0 x4 z_Tile).W)))] #[(iv ((rdD p0 x4 z_Tile).N)), (iv ((rdD p0 x4 z_Tile).E)), (iv ((rdD p0 x4 z_Tile).S)), (iv ((rdD p0 x4 z_Tile).W))] (fun fb => by kernel_rfl) (by kernel_rfl) rfl [] (by decide) (by decide) (fun w17 hS18 => ?_)
    refine ⟨trivial, ?_⟩
    refine WL.done rfl (WX.next (WC.seq ?_))
    refine WC.regionD ([(1, ⟨g13, 0, none⟩, (iv ((rdD p0 x4 z_Tile).N))), (6, ⟨g13, 1, none⟩, (iv ((rdD p0 x4 z_Tile).E))), (12, ⟨g13, 2, none⟩, (iv ((rdD p0 x4 z_Tile).S))), (18, ⟨g13, 3, none⟩, (iv ((rdD p0 x4 z_Tile).W))), (26, ⟨g13, 0, none⟩, (iv ((rdD p0 x4 z_Tile).N))), (26, ⟨g13, 1, none⟩, (iv ((rdD p0 x4 z_Tile).E))), (26, ⟨g13, 2, none⟩, (iv ((rdD p0 x4 z_Tile).S))), (26, ⟨g13, 3, none⟩, (iv ((rdD p0 x4 z_Tile).W)))], [0, 1, 3, 4, 5, 6, 8, 9, 10, 11, 12, 14, 15, 16, 17, 18, 20, 21, 22, 23, 24, 25, 26, 28, 29], [[], [0], [0, 1], [0, 1, 2], [0, 1, 2, 3], [0, 1, 2, 3, 4], [0, 1, 2, 3, 4, 5], [0, 1, 2, 3, 4, 5, 6], [0, 1, 2, 3, 4, 5, 6, 7], [0, 1, 2, 3, 4, 5, 6, 7, 8], [0, 1, 2, 3, 4, 5, 6, 7, 8, 9], [0, 1, 2, 3, 4, 5, 6, 7, 8, 9, 10], [0, 1, 2, 3, 4, 5, 6, 7, 8, 9, 10, 11], [0, 1, 2, 3, 4, 5, 6, 7, 8, 9, 10, 11, 12], [0, 1, 2, 3, 4, 5, 6, 7, 8, 9, 10, 11, 12, 13], [0, 1, 2, 3, 4, 5, 6, 7, 8, 9, 10, 11, 12, 13, 14], [0, 1, 2, 3, 4, 5, 6, 7, 8, 9, 10, 11, 12, 13, 14, 15], [0, 1, 2, 3, 4, 5, 6, 7, 8, 9, 10, 11, 12, 13, 14, 15, 16], [0, 1, 2, 3, 4, 5, 6, 7, 8, 9, 10, 11, 12, 13, 14, 15, 16, 17], [0, 1, 2, 3, 4, 5, 6, 7, 8, 9, 10, 11, 12, 13, 14, 15, 16, 17, 18], [0, 1, 2, 3, 4, 5, 6, 7, 8, 9, 10, 11, 12, 13, 14, 15, 16, 17, 18, 19], [0, 1, 2, 3, 4, 5, 6, 7, 8, 9, 10, 11, 12, 13, 14, 15, 16, 17, 18, 19, 20], [0, 1, 2, 3, 4, 5, 6, 7, 8, 9, 10, 11, 12, 13, 14, 15, 16, 17, 18, 19, 20, 21], [0, 1, 2, 3, 4, 5, 6, 7, 8, 9, 10, 11, 12, 13, 14, 15, 16, 17, 18, 19, 20, 21, 22], [0, 1, 2, 3, 4, 5, 6, 7, 8, 9, 10, 11, 12, 13, 14, 15, 16, 17, 18, 19, 20, 21, 22], [0, 1, 2, 3, 4, 5, 6, 7, 8, 9, 10, 11, 12, 13, 14, 15, 16, 17, 18, 19, 20, 21, 22, 23, 24], [0, 1, 2, 3, 4, 5, 6, 7, 8, 9, 10, 11, 12, 13, 14, 15, 16, 17, 18, 19, 20, 21, 22], [0, 1, 2, 3, 4, 5, 6, 7, 8, 9, 10, 11, 12, 13, 14, 15, 16, 17, 18, 19, 20, 21, 22, 23, 24, 25, 26], [0, 1, 2, 3, 4, 5, 6, 7, 8, 9, 10, 11, 12, 13, 14, 15, 16, 17, 18, 19, 20, 21, 22, 23, 24, 25, 26, 27], [0, 1, 2, 3, 4, 5, 6, 7, 8, 9, 10, 11, 12, 13, 14, 15, 16, 17, 18, 19, 20, 21, 22, 23, 24, 25, 26, 27, 28]]) [[0, 1, 2, 3, 4, 5, 6, 7, 8, 9, 10, 11, 12, 13, 14, 15, 16, 17, 18, 19, 20, 21, 22, 23, 24, 25, 26, 27, 28, 29]] (by kernel_rfl) (by kernel_rfl) (NoPanic.seq (NoPanic.block (NoPanic.seq (NoPanic.seq (NoPanic.block (NoPanic.seq (NoPanic.body))))))) ?_
    have hS20 := hS18.drew
    revert hS20
    generalize World.drew w17 = w19
    intro hS20
    refine ⟨⟨hS20.cell 0 rfl 0 rfl, hS20.cell 0 rfl 1 rfl, hS20.cell 0 rfl 2 rfl, hS20.cell 0 rfl 3 rfl, hS20.cell 0 rfl 0 rfl, hS20.cell 0 rfl 1 rfl, hS20.cell 0 rfl 2 rfl, hS20.cell 0 rfl 3 rfl, trivial⟩, forallC ?_ (forallN)⟩
    refine segF 2 [.v (iv ((rdD p0 x4 z_Tile).N))] [0, 3, 4, 19] [(0, (sv Aa p0 ca)), (3, (iv x4)), (4, (pt g13)), (19, (iv ((rdD p0 x4 z_Tile).N)))] [] [0] [(1, ⟨g13, 0, none⟩, (iv ((rdD p0 x4 z_Tile).N)))] (fun fb => by kernel_rfl) rfl trivial rfl ?_
    obtain ⟨t21, ht22, hl10⟩ := bind_some hl10
    refine WL.call (some 20) 50 #[(iv ((rdD p0 x4 z_Tile).N))] (fun fb => by kernel_rfl) (ref01_colour_calls ((rdD p0 x4 z_Tile).N) t21 _ ht22) (fun v w23 hR24 => ?_)
    obtain ⟨rfl, hk_⟩ := hR24
    have hS25 := hS20.keepN hk_
    refine ⟨⟨hS25.cell 0 rfl 1 rfl, hS25.cell 0 rfl 2 rfl, hS25.cell 0 rfl 3 rfl, hS25.cell 0 rfl 0 rfl, hS25.cell 0 rfl 1 rfl, hS25.cell 0 rfl 2 rfl, hS25.cell 0 rfl 3 rfl, trivial⟩, ?_⟩
    refine seg 5 [] [0, 3, 4, 22] [(0, (sv Aa p0 ca)), (3, (iv x4)), (4, (pt g13)), (22, (bv (!t21)))] [] (fun fb => by kernel_rfl) rfl trivial ?_
    obtain ⟨x26, hx27, hl10⟩ := bind_some hl10
    refine WL.cutW (T := Bool) 10 (fun t => [(0, (sv Aa p0 ca)), (3, (iv x4)), (4, (pt g13)), (27, (bv t))]) (fun t w1 => (St NoS w w1 [rowR enc_Tile Aa ca p0] [blk g13 (.cells #[(iv ((rdD p0 x4 z_Tile).N)), (iv ((rdD p0 x4 z_Tile).E)), (iv ((rdD p0 x4 z_Tile).S)), (iv ((rdD p0 x4 z_Tile).W))] 40 (0, 0))] ∧ x26 = t) ∧ CellsOK [] w1) (fun K => ?_) ?_
    ·
     rcases br_some hx27 with ⟨h28, hx27⟩ | ⟨h28, hx27⟩
     ·
      refine WL.setB 22 h28 rfl ?_
      refine seg 10 [] [0, 3, 4, 27] [(0, (sv Aa p0 ca)), (3, (iv x4)), (4, (pt g13)), (27, (bv true))] [] (fun fb => by kernel_rfl) rfl trivial ?_
      injection hx27 with hx27
      exact WL.to K true [0, 3, 4, 27] rfl ⟨⟨(hS25.subR [0]).sub [0] (by decide), hx27.symm⟩, trivial⟩
     refine WL.setB 22 h28 rfl ?_
     refine segF 7 [.v (iv ((rdD p0 x4 z_Tile).E))] [0, 3, 4, 22, 24] [(0, (sv Aa p0 ca)), (3, (iv x4)), (4, (pt g13)), (22, (bv false)), (24, (iv ((rdD p0 x4 z_Tile).E)))] [] [1] [(6, ⟨g13, 1, none⟩, (iv ((rdD p0 x4 z_Tile).E)))] (fun fb => by kernel_rfl) rfl trivial rfl ?_
     obtain ⟨t29, ht30, hx27⟩ := bind_some hx27
     refine WL.call (some 25) 50 #[(iv ((rdD p0 x4 z_Tile).E))] (fun fb => by kernel_rfl) (ref01_colour_calls ((rdD p0 x4 z_Tile).E) t29 _ ht30) (fun v w31 hR32 => ?_)
     obtain ⟨rfl, hk_⟩ := hR32
     have hS33 := hS25.keepN hk_
     refine ⟨⟨hS33.cell 0 rfl 2 rfl, hS33.cell 0 rfl 3 rfl, hS33.cell 0 rfl 0 rfl, hS33.cell 0 rfl 1 rfl, hS33.cell 0 rfl 2 rfl, hS33.cell 0 rfl 3 rfl, trivial⟩, ?_⟩
     refine seg 10 [] [0, 3, 4, 27] [(0, (sv Aa p0 ca)), (3, (iv x4)), (4, (pt g13)), (27, (bv (!t29)))] [] (fun fb => by kernel_rfl) rfl trivial ?_
     injection hx27 with hx27
     exact WL.to K (!t29) [0, 3, 4, 27] rfl ⟨⟨(hS33.subR [0]).sub [0] (by decide), hx27.symm⟩, trivial⟩
    rintro y34 w36 ⟨⟨hS37, hq35⟩, hF38⟩
    subst hq35
    refine seg 11 [] [0, 3, 4, 28] [(0, (sv Aa p0 ca)), (3, (iv x4)), (4, (pt g13)), (28, (bv x26))] [] (fun fb => by kernel_rfl) rfl trivial ?_
    obtain ⟨x39, hx40, hl10⟩ := bind_some hl10
    refine WL.cutW (T := Bool) 16 (fun t => [(0, (sv Aa p0 ca)), (3, (iv x4)), (4, (pt g13)), (33, (bv t))]) (fun t w1 => (St NoS w w1 [rowR enc_Tile Aa ca p0] [blk g13 (.cells #[(iv ((rdD p0 x4 z_Tile).N)), (iv ((rdD p0 x4 z_Tile).E)), (iv ((rdD p0 x4 z_Tile).S)), (iv ((rdD p0 x4 z_Tile).W))] 40 (0, 0))] ∧ x39 = t) ∧ CellsOK [] w1) (fun K => ?_) ?_
    ·
     rcases br_some hx40 with ⟨h41, hx40⟩ | ⟨h41, hx40⟩
     ·
      refine WL.setB 28 h41 rfl ?_
      refine seg 16 [] [0, 3, 4, 33] [(0, (sv Aa p0 ca)), (3, (iv x4)), (4, (pt g13)), (33, (bv true))] [] (fun fb => by kernel_rfl) rfl trivial ?_
      injection hx40 with hx40
      exact WL.to K true [0, 3, 4, 33] rfl ⟨⟨(hS37.subR [0]).sub [0] (by decide), hx40.symm⟩, trivial⟩
     refine WL.setB 28 h41 rfl ?_
     refine segF 13 [.v (iv ((rdD p0 x4 z_Tile).S))] [0, 3, 4, 28, 30] [(0, (sv Aa p0 ca)), (3, (iv x4)), (4, (pt g13)), (28, (bv false)), (30, (iv ((rdD p0 x4 z_Tile).S)))] [] [2] [(12, ⟨g13, 2, none⟩, (iv ((rdD p0 x4 z_Tile).S)))] (fun fb => by kernel_rfl) rfl trivial rfl ?_
     obtain ⟨t42, ht43, hx40⟩ := bind_some hx40
     refine WL.call (some 31) 50 #[(iv ((rdD p0 x4 z_Tile).S))] (fun fb => by kernel_rfl) (ref01_colour_calls ((rdD p0 x4 z_Tile).S) t42 _ ht43) (fun v w44 hR45 => ?_)
     obtain ⟨rfl, hk_⟩ := hR45
     have hS46 := hS37.keepN hk_
     refine ⟨⟨hS46.cell 0 rfl 3 rfl, hS46.cell 0 rfl 0 rfl, hS46.cell 0 rfl 1 rfl, hS46.cell 0 rfl 2 rfl, hS46.cell 0 rfl 3 rfl, trivial⟩, ?_⟩
     refine seg 16 [] [0, 3, 4, 33] [(0, (sv Aa p0 ca)), (3, (iv x4)), (4, (pt g13)), (33, (bv (!t42)))] [] (fun fb => by kernel_rfl) rfl trivial ?_
     injection hx40 with hx40
     exact WL.to K (!t42) [0, 3, 4, 33] rfl ⟨⟨(hS46.subR [0]).sub [0] (by decide), hx40.symm⟩, trivial⟩
    rintro y47 w49 ⟨⟨hS50, hq48⟩, hF51⟩
    subst hq48
    refine seg 17 [] [0, 3, 4, 34] [(0, (sv Aa p0 ca)), (3, (iv x4)), (4, (pt g13)), (34, (bv x39))] [] (fun fb => by kernel_rfl) rfl trivial ?_
    obtain ⟨x52, hx53, hl10⟩ := bind_some hl10
    refine WL.cutW (T := Bool) 22 (fun t => [(0, (sv Aa p0 ca)), (3, (iv x4)), (4, (pt g13)), (39, (bv t))]) (fun t w1 => (St NoS w w1 [rowR enc_Tile Aa ca p0] [blk g13 (.cells #[(iv ((rdD p0 x4 z_Tile).N)), (iv ((rdD p0 x4 z_Tile).E)), (iv ((rdD p0 x4 z_Tile).S)), (iv ((rdD p0 x4 z_Tile).W))] 40 (0, 0))] ∧ x52 = t) ∧ CellsOK [] w1) (fun K => ?_) ?_
    ·
     rcases br_some hx53 with ⟨h54, hx53⟩ | ⟨h54, hx53⟩
     ·
      refine WL.setB 34 h54 rfl ?_
      refine seg 22 [] [0, 3, 4, 39] [(0, (sv Aa p0 ca)), (3, (iv x4)), (4, (pt g13)), (39, (bv true))] [] (fun fb => by kernel_rfl) rfl trivial ?_
      injection hx53 with hx53
      exact WL.to K true [0, 3, 4, 39] rfl ⟨⟨(hS50.subR [0]).sub [0] (by decide), hx53.symm⟩, trivial⟩
     refine WL.setB 34 h54 rfl ?_
     refine segF 19 [.v (iv ((rdD p0 x4 z_Tile).W))] [0, 3, 4, 34, 36] [(0, (sv Aa p0 ca)), (3, (iv x4)), (4, (pt g13)), (34, (bv false)), (36, (iv ((rdD p0 x4 z_Tile).W)))] [] [3] [(18, ⟨g13, 3, none⟩, (iv ((rdD p0 x4 z_Tile).W)))] (fun fb => by kernel_rfl) rfl trivial rfl ?_
     obtain ⟨t55, ht56, hx53⟩ := bind_some hx53
     refine WL.call (some 37) 50 #[(iv ((rdD p0 x4 z_Tile).W))] (fun fb => by kernel_rfl) (ref01_colour_calls ((rdD p0 x4 z_Tile).W) t55 _ ht56) (fun v w57 hR58 => ?_)
     obtain ⟨rfl, hk_⟩ := hR58
     have hS59 := hS50.keepN hk_
     refine ⟨⟨hS59.cell 0 rfl 0 rfl, hS59.cell 0 rfl 1 rfl, hS59.cell 0 rfl 2 rfl, hS59.cell 0 rfl 3 rfl, trivial⟩, ?_⟩
     refine seg 22 [] [0, 3, 4, 39] [(0, (sv Aa p0 ca)), (3, (iv x4)), (4, (pt g13)), (39, (bv (!t55)))] [] (fun fb => by kernel_rfl) rfl trivial ?_
     injection hx53 with hx53
     exact WL.to K (!t55) [0, 3, 4, 39] rfl ⟨⟨(hS59.subR [0]).sub [0] (by decide), hx53.symm⟩, trivial⟩
    rintro y60 w62 ⟨⟨hS63, hq61⟩, hF65⟩
    subst hq61
    refine seg 23 [] [0, 3, 4, 40] [(0, (sv Aa p0 ca)), (3, (iv x4)), (4, (pt g13)), (40, (bv x52))] [] (fun fb => by kernel_rfl) rfl trivial ?_
    obtain ⟨x66, hx67, hl10⟩ := bind_some hl10
    refine WL.cutW (T := Bool) 30 (fun t => [(0, (sv Aa p0 ca)), (3, (iv x4)), (47, (bv t))]) (fun t w1 => (St NoS w w1 [rowR enc_Tile Aa ca p0] [] ∧ x66 = t) ∧ CellsOK [] w1) (fun K => ?_) ?_
    ·
     rcases br_some hx67 with ⟨h68, hx67⟩ | ⟨h68, hx67⟩
     ·
      refine WL.setB 40 h68 rfl ?_
      refine seg 30 [] [0, 3, 47] [(0, (sv Aa p0 ca)), (3, (iv x4)), (47, (bv true))] [] (fun fb => by kernel_rfl) rfl trivial ?_
      injection hx67 with hx67
      exact WL.to K true [0, 3, 47] rfl ⟨⟨(hS63.subR [0]).sub [] (by decide), hx67.symm⟩, trivial⟩
     refine WL.setB 40 h68 rfl ?_
     refine seg 25 [] [0, 3, 4, 40, 41, 42] [(0, (sv Aa p0 ca)), (3, (iv x4)), (4, (pt g13)), (40, (bv false)), (41, (sv Aa p0 ca)), (42, (iv x4))] [] (fun fb => by kernel_rfl) rfl trivial ?_
     obtain ⟨h69, hx67⟩ := as_some hx67
     refine seg 26 [] [0, 3, 4, 40, 43] [(0, (sv Aa p0 ca)), (3, (iv x4)), (4, (pt g13)), (40, (bv false)), (43, (.slice (subA Aa ca (0 : Int).toNat 4) (x4.toNat - (0 : Int).toNat) (ca - (0 : Int).toNat)))] [.idx (some ⟨0, 0, none⟩) (0 : Int) (x4.toNat + 1), .idx (some ⟨0, 0, none⟩) x4 (ca + 1)] (fun fb => by kernel_rfl) rfl ⟨cut1 h69.1 h69.2.1, cut2 h69.1 h69.2.1 h69.2.2 (hS63.rd 0).1.2, trivial⟩ ?_
     refine WL.reE [0, 3, 4, 40, 43] [(0, (.slice Aa p0.length ca)), (3, (iv x4)), (4, (pt g13)), (40, (.bool false)), (43, (.slice (subA Aa ca (0 : Int).toNat 4) (x4.toNat - (0 : Int).toNat) (ca - (0 : Int).toNat)))] [(0, (.slice Aa p0.length ca)), (3, (iv x4)), (4, (pt g13)), (40, (.bool false)), (43, (.slice (subA Aa ca (0 : Int).toNat 4) (cut p0 (0 : Int) x4).length (ca - (0 : Int).toNat)))] rfl (by rw [cut_length h69.1 h69.2.1 h69.2.2]) ?_
     have hS70 := hS63.cutR 0 rfl h69.1 h69.2.1 h69.2.2
     refine segF 27 [.v (iv ((rdD p0 x4 z_Tile).N)), .v (iv ((rdD p0 x4 z_Tile).E)), .v (iv ((rdD p0 x4 z_Tile).S)), .v (iv ((rdD p0 x4 z_Tile).W))] [0, 3, 40, 43, 44] [(0, (sv Aa p0 ca)), (3, (iv x4)), (40, (bv false)), (43, (sv (subA Aa ca (0 : Int).toNat 4) (cut p0 (0 : Int) x4) (ca - (0 : Int).toNat))), (44, (.agg #[(iv ((rdD p0 x4 z_Tile).N)), (iv ((rdD p0 x4 z_Tile).E)), (iv ((rdD p0 x4 z_Tile).S)), (iv ((rdD p0 x4 z_Tile).W))]))] [] [4, 5, 6, 7] [(26, ⟨g13, 0, none⟩, (iv ((rdD p0 x4 z_Tile).N))), (26, ⟨g13, 1, none⟩, (iv ((rdD p0 x4 z_Tile).E))), (26, ⟨g13, 2, none⟩, (iv ((rdD p0 x4 z_Tile).S))), (26, ⟨g13, 3, none⟩, (iv ((rdD p0 x4 z_Tile).W)))] (fun fb => by kernel_rfl) rfl trivial rfl ?_
     obtain ⟨t71, ht72, hx67⟩ := bind_some hx67
     refine WL.call (some 45) 51 #[(sv (subA Aa ca (0 : Int).toNat 4) (cut p0 (0 : Int) x4) (ca - (0 : Int).toNat)), (.agg #[(iv ((rdD p0 x4 z_Tile).N)), (iv ((rdD p0 x4 z_Tile).E)), (iv ((rdD p0 x4 z_Tile).S)), (iv ((rdD p0 x4 z_Tile).W))])] (fun fb => by kernel_rfl) (ref01_Index_calls _ (cut p0 (0 : Int) x4) (rdD p0 x4 z_Tile) (subA Aa ca (0 : Int).toNat 4) (ca - (0 : Int).toNat) t71 _ (hS70.rd 0) ht72) (fun v w73 hR74 => ?_)
     obtain ⟨rfl, hk_⟩ := hR74
     have hS75 := hS70.keepN hk_
     refine ⟨trivial, ?_⟩
     refine seg 30 [] [0, 3, 47] [(0, (sv Aa p0 ca)), (3, (iv x4)), (47, (bv (decide (t71 ≥ 0))))] [] (fun fb => by kernel_rfl) rfl trivial ?_
     injection hx67 with hx67
     exact WL.to K (decide (t71 ≥ 0)) [0, 3, 47] rfl ⟨⟨(hS75.subR [1]).sub [] (by decide), hx67.symm⟩, trivial⟩
    rintro y76 w78 ⟨⟨hS79, hq77⟩, hF80⟩
    subst hq77
    refine WL.done rfl (WX.next ?_)
    rcases br_some hl10 with ⟨h81, hl10⟩ | ⟨h81, hl10⟩
    ·refine WC.condT2 (fun fb => by kernel_rfl) h81 ?_
     refine WC.seq (WC.region ?_)
     refine seg 1 [] [2] [(2, (bv false))] [] (fun fb => by kernel_rfl) rfl trivial ?_
     refine WL.done rfl (WX.next ?_)
     refine WC.ret ?_
     injection hl10 with hl10
     subst hl10
     injection hf with hf
     subst hf
     exact WX.blockR (WX.thenR (WX.thenR (WX.blockR (WX.thenR (WX.ret_ [] (bv false) [] (fun fb => by kernel_rfl) trivial ⟨_, rfl, rfl, hS79.keep⟩)))))
    refine WC.condF2 (fun fb => by kernel_rfl) h81 ?_
    refine WC.skip ?_
    refine WX.blockN (WX.next ?_)
    refine WC.region ?_
    refine seg 3 [] [0, 3] [(0, (sv Aa p0 ca)), (3, (iv (w64 (x4 + 1))))] [] (fun fb => by kernel_rfl) rfl trivial ?_
    refine WL.done rfl ?_
    exact WX.again k7 (Nat.lt_succ_self _) (w64 (x4 + 1)) [0, 3] rfl ⟨(hS79.subR [0]).sub [] (by decide), hl10⟩
   refine WC.condF2 (fun fb => by kernel_rfl) h11 ?_
   refine WC.exit ?_
   injection hl10 with hl10
   exact WX.thenX (WX.thenX (WX.blockHere (WX.to Kx5 () [] rfl ⟨(hS9.subR [0]).sub [] (by decide), hl10.symm⟩)))
 rintro y85 w82 ⟨hS83, hq84⟩
 subst hq84
 have hf := sum_inr hf
 refine WX.next (WC.seq (WC.region ?_))
 refine seg 1 [] [2] [(2, (bv true))] [] (fun fb => by kernel_rfl) rfl trivial ?_
 refine WL.done rfl (WX.next ?_)
 refine WC.ret ?_
 injection hf with hf
 subst hf
 exact WX.ret_ [] (bv true) [] (fun fb => by kernel_rfl) trivial ⟨_, rfl, rfl, hS83.keep⟩
theorem ref02_side_calls (p0 : List Int) (p1 : Int) (Aa : Option Addr) (ca : Nat) (r : Bool) (w : World) (hR0 : RO NoS w (rowR encInt Aa ca p0)) (hf : ref02_side p0 p1 = some r) :
  CallsR Tryd.prog 57 #[(sv Aa p0 ca), (iv p1)] w (fun v w' => v = (bv r) ∧ Keeps NoS w w') := by
 have hS : St NoS w w [rowR encInt Aa ca p0] [] := St.init (ro_cons hR0 (ro_nil _ _))
 refine enter 14 Tryd.func57 rfl Tryd.ntmps57 rfl ?_
 unfold ref02_side at hf
 refine WC.seq (WC.region ?_)
 refine seg 1 [] [0, 1] [(0, (sv Aa p0 ca)), (1, (iv p1))] [] (fun fb => by kernel_rfl) rfl trivial ?_
 refine WL.done rfl (WX.next (WC.seq (WC.region ?_)))
 refine seg 4 [] [0, 1, 8] [(0, (sv Aa p0 ca)), (1, (iv p1)), (8, (bv ((p0.length : Int) == 0)))] [] (fun fb => by kernel_rfl) rfl trivial ?_
 refine WL.cutV (T := Bool) 9 (fun t => [(13, (bv t))]) (fun t => (((p0.length : Int) == 0) || ((p0.length : Int) == p1)) = t) (fun K => ?_) ?_
 ·
  rcases Bool.eq_false_or_eq_true ((p0.length : Int) == 0) with h3 | h3
  ·
   refine WL.setB 8 h3 rfl ?_
   refine seg 9 [] [13] [(13, (bv true))] [] (fun fb => by kernel_rfl) rfl trivial ?_
   exact WL.toV K true [13] rfl (by first | (rw [h3]; done) | (rw [h3]; rfl))
  refine WL.setB 8 h3 rfl ?_
  refine seg 9 [] [13] [(13, (bv ((p0.length : Int) == p1)))] [] (fun fb => by kernel_rfl) rfl trivial ?_
  exact WL.toV K ((p0.length : Int) == p1) [13] rfl (by first | (rw [h3]; done) | (rw [h3]; rfl))
 rintro b4 rfl
 refine seg 10 [] [4] [(4, (bv (((p0.length : Int) == 0) || ((p0.length : Int) == p1))))] [] (fun fb => by kernel_rfl) rfl trivial ?_
 refine WL.done rfl (WX.next ?_)
 refine WC.ret ?_
 injection hf with hf
 subst hf
 exact WX.ret_ [] (bv (((p0.length : Int) == 0) || ((p0.length : Int) == p1))) [] (fun fb => by kernel_rfl) trivial ⟨_, rfl, rfl, hS.keep⟩
theorem ref02_Fault_calls (k : Nat) (p0 : List Tile) (p1 : Int) (p2 : Int) (p3 : Edges) (Aa : Option Addr) (ca : Nat) (Ab : Option Addr) (cb : Nat) (Ac : Option Addr) (cc : Nat) (Ad : Option Addr) (cd : Nat) (Ae : Option Addr) (ce : Nat) (r : Int) (w : World) (hR0 : RO NoS w (rowR enc_Tile Aa ca p0)) (hR1 : RO NoS w (rowR encInt Ab cb p3.North)) (hR2 : RO NoS w (rowR encInt Ac cc p3.East)) (hR3 : RO NoS w (rowR encInt Ad cd p3.South)) (hR4 : RO NoS w (rowR encInt Ae ce p3.West)) (hf : ref02_Fault k p0 p1 p2 p3 = some r) :
  CallsR Tryd.prog 27 #[(sv Aa p0 ca), (iv p1), (iv p2), (.agg #[(sv Ab p3.North cb), (sv Ac p3.East cc), (sv Ad p3.South cd), (sv Ae p3.West ce)])] w (fun v w' => v = (iv r) ∧ Keeps NoS w w') := by
 have hS : St NoS w w [rowR enc_Tile Aa ca p0, rowR encInt Ab cb p3.North, rowR encInt Ac cc p3.East, rowR encInt Ad cd p3.South, rowR encInt Ae ce p3.West] [] := St.init (ro_cons hR0 (ro_cons hR1 (ro_cons hR2 (ro_cons hR3 (ro_cons hR4 (ro_nil _ _))))))
 refine enter 55 Tryd.func27 rfl Tryd.ntmps27 rfl ?_
 unfold ref02_Fault at hf
 refine WC.seq (WC.region ?_)
 refine WL.new hS 7 [] (fun g => (pt g)) (.cells #[(sv Ab p3.North cb), (sv Ac p3.East cc), (sv Ad p3.South cd), (sv Ae p3.West ce)] 44 (0, 0)) [] (fun fb g => by kernel_rfl) trivial (fun g5 w6 hS7 => ?_)
 refine ⟨trivial, ?_⟩
 refine seg 2 [] [0, 1, 2, 7] [(0, (sv Aa p0 ca)), (1, (iv p1)), (2, (iv p2)), (7, (pt g5))] [] (fun fb => by kernel_rfl) rfl trivial ?_
 refine WL.done rfl (WX.next (WC.seq (WC.block (WC.seq (WC.region ?_)))))
 refine seg 1 [] [1, 2, 7, 10] [(1, (iv p1)), (2, (iv p2)), (7, (pt g5)), (10, (sv Aa p0 ca))] [] (fun fb => by kernel_rfl) rfl trivial ?_
 obtain ⟨t8, ht9, hf⟩ := bind_some hf
 refine WL.call (some 11) 15 #[(sv Aa p0 ca)] (fun fb => by kernel_rfl) (ref01_Valid_calls _ p0 Aa ca t8 _ (hS7.rd 0) ht9) (fun v w10 hR11 => ?_)
 obtain ⟨rfl, hk_⟩ := hR11
 have hS12 := hS7.keepN hk_
 refine ⟨trivial, ?_⟩
 refine seg 4 [] [1, 2, 7, 9] [(1, (iv p1)), (2, (iv p2)), (7, (pt g5)), (9, (bv (!t8)))] [] (fun fb => by kernel_rfl) rfl trivial ?_
 refine WL.done rfl (WX.next ?_)
 rcases br_some hf with ⟨h13, hf⟩ | ⟨h13, hf⟩
 ·refine WC.condT2 (fun fb => by kernel_rfl) h13 ?_
  refine WC.seq (WC.region ?_)
  refine seg 1 [] [8] [(8, (iv 1))] [] (fun fb => by kernel_rfl) rfl trivial ?_
  refine WL.done rfl (WX.next ?_)
  refine WC.ret ?_
  injection hf with hf
  subst hf
  exact WX.blockR (WX.thenR (WX.ret_ [] (iv 1) [] (fun fb => by kernel_rfl) trivial ⟨_, rfl, rfl, hS12.keep⟩))
 refine WC.condF2 (fun fb => by kernel_rfl) h13 ?_
 refine WC.seq (WC.region ?_)
 refine seg 3 [] [1, 2, 7, 16] [(1, (iv p1)), (2, (iv p2)), (7, (pt g5)), (16, (bv (decide (p1 < 1))))] [] (fun fb => by kernel_rfl) rfl trivial ?_
 refine WL.cutV (T := Bool) 6 (fun t => [(19, (bv t)), (1, (iv p1)), (2, (iv p2)), (7, (pt g5))]) (fun t => ((decide (p1 < 1)) || (decide (p1 > 8))) = t) (fun K => ?_) ?_
 ·
  rcases Bool.eq_false_or_eq_true (decide (p1 < 1)) with h14 | h14
  ·
   refine WL.setB 16 h14 rfl ?_
   refine seg 6 [] [1, 2, 7, 19] [(1, (iv p1)), (2, (iv p2)), (7, (pt g5)), (19, (bv true))] [] (fun fb => by kernel_rfl) rfl trivial ?_
   exact WL.toV K true [19, 1, 2, 7] rfl (by first | (rw [h14]; done) | (rw [h14]; rfl))
  refine WL.setB 16 h14 rfl ?_
  refine seg 6 [] [1, 2, 7, 19] [(1, (iv p1)), (2, (iv p2)), (7, (pt g5)), (19, (bv (decide (p1 > 8))))] [] (fun fb => by kernel_rfl) rfl trivial ?_
  exact WL.toV K (decide (p1 > 8)) [19, 1, 2, 7] rfl (by first | (rw [h14]; done) | (rw [h14]; rfl))
 rintro b15 rfl
 refine seg 7 [] [1, 2, 7, 20] [(1, (iv p1)), (2, (iv p2)), (7, (pt g5)), (20, (bv ((decide (p1 < 1)) || (decide (p1 > 8)))))] [] (fun fb => by kernel_rfl) rfl trivial ?_
 refine WL.cutV (T := Bool) 10 (fun t => [(23, (bv t)), (1, (iv p1)), (2, (iv p2)), (7, (pt g5))]) (fun t => (((decide (p1 < 1)) || (decide (p1 > 8))) || (decide (p2 < 1))) = t) (fun K => ?_) ?_
 ·
  rcases Bool.eq_false_or_eq_true ((decide (p1 < 1)) || (decide (p1 > 8))) with h16 | h16
  ·
   refine WL.setB 20 h16 rfl ?_
   refine seg 10 [] [1, 2, 7, 23] [(1, (iv p1)), (2, (iv p2)), (7, (pt g5)), (23, (bv true))] [] (fun fb => by kernel_rfl) rfl trivial ?_
   exact WL.toV K true [23, 1, 2, 7] rfl (by first | (rw [h16]; done) | (rw [h16]; rfl))
  refine WL.setB 20 h16 rfl ?_
  refine seg 10 [] [1, 2, 7, 23] [(1, (iv p1)), (2, (iv p2)), (7, (pt g5)), (23, (bv (decide (p2 < 1))))] [] (fun fb => by kernel_rfl) rfl trivial ?_
  exact WL.toV K (decide (p2 < 1)) [23, 1, 2, 7] rfl (by first | (rw [h16]; done) | (rw [h16]; rfl))
 rintro b17 rfl
 refine seg 11 [] [1, 2, 7, 24] [(1, (iv p1)), (2, (iv p2)), (7, (pt g5)), (24, (bv (((decide (p1 < 1)) || (decide (p1 > 8))) || (decide (p2 < 1)))))] [] (fun fb => by kernel_rfl) rfl trivial ?_
 refine WL.cutV (T := Bool) 14 (fun t => [(27, (bv t)), (1, (iv p1)), (2, (iv p2)), (7, (pt g5))]) (fun t => ((((decide (p1 < 1)) || (decide (p1 > 8))) || (decide (p2 < 1))) || (decide (p2 > 60))) = t) (fun K => ?_) ?_
 ·
  rcases Bool.eq_false_or_eq_true (((decide (p1 < 1)) || (decide (p1 > 8))) || (decide (p2 < 1))) with h18 | h18
  ·
   refine WL.setB 24 h18 rfl ?_
   refine seg 14 [] [1, 2, 7, 27] [(1, (iv p1)), (2, (iv p2)), (7, (pt g5)), (27, (bv true))] [] (fun fb => by kernel_rfl) rfl trivial ?_
   exact WL.toV K true [27, 1, 2, 7] rfl (by first | (rw [h18]; done) | (rw [h18]; rfl))
  refine WL.setB 24 h18 rfl ?_
  refine seg 14 [] [1, 2, 7, 27] [(1, (iv p1)), (2, (iv p2)), (7, (pt g5)), (27, (bv (decide (p2 > 60))))] [] (fun fb => by kernel_rfl) rfl trivial ?_
  exact WL.toV K (decide (p2 > 60)) [27, 1, 2, 7] rfl (by first | (rw [h18]; done) | (rw [h18]; rfl))
 rintro b19 rfl
 refine seg 15 [] [1, 2, 7, 13] [(1, (iv p1)), (2, (iv p2)), (7, (pt g5)), (13, (bv ((((decide (p1 < 1)) || (decide (p1 > 8))) || (decide (p2 < 1))) || (decide (p2 > 60)))))] [] (fun fb => by kernel_rfl) rfl trivial ?_
 refine WL.done rfl (WX.next ?_)
 rcases br_some hf with ⟨h20, hf⟩ | ⟨h20, hf⟩
 ·refine WC.condT2 (fun fb => by kernel_rfl) h20 ?_
  refine WC.seq (WC.region ?_)
  refine seg 1 [] [8] [(8, (iv 2))] [] (fun fb => by kernel_rfl) rfl trivial ?_
  refine WL.done rfl (WX.next ?_)
  refine WC.ret ?_
  injection hf with hf
  subst hf
  exact WX.blockR (WX.thenR (WX.ret_ [] (iv 2) [] (fun fb => by kernel_rfl) trivial ⟨_, rfl, rfl, hS12.keep⟩))
 refine WC.condF2 (fun fb => by kernel_rfl) h20 ?_
 refine WC.seq (WC.region ?_)
 refine seg 3 [.v (sv Ab p3.North cb)] [1, 2, 7, 30, 31] [(1, (iv p1)), (2, (iv p2)), (7, (pt g5)), (30, (sv Ab p3.North cb)), (31, (iv p1))] [.cell ⟨g5, 0, none⟩ (sv Ab p3.North cb)] (fun fb => by kernel_rfl) rfl ⟨hS12.cell 0 rfl 0 rfl, trivial⟩ ?_
 obtain ⟨t21, ht22, hf⟩ := bind_some hf
 refine WL.call (some 32) 57 #[(sv Ab p3.North cb), (iv p1)] (fun fb => by kernel_rfl) (ref02_side_calls p3.North p1 Ab cb t21 _ (hS12.rd 1) ht22) (fun v w23 hR24 => ?_)
 obtain ⟨rfl, hk_⟩ := hR24
 have hS25 := hS12.keepN hk_
 refine ⟨trivial, ?_⟩
 refine seg 6 [] [1, 2, 7, 34] [(1, (iv p1)), (2, (iv p2)), (7, (pt g5)), (34, (bv (!t21)))] [] (fun fb => by kernel_rfl) rfl trivial ?_
 obtain ⟨x26, hx28, hf⟩ := bind_some hf
 refine WL.cutW (T := Bool) 12 (fun t => [(2, (iv p2)), (7, (pt g5)), (40, (bv t))]) (fun t w1 => (St NoS w w1 [rowR enc_Tile Aa ca p0, rowR encInt Ab cb p3.North, rowR encInt Ac cc p3.East, rowR encInt Ad cd p3.South, rowR encInt Ae ce p3.West] [blk g5 (.cells #[(sv Ab p3.North cb), (sv Ac p3.East cc), (sv Ad p3.South cd), (sv Ae p3.West ce)] 44 (0, 0))] ∧ x26 = t) ∧ CellsOK [] w1) (fun K => ?_) ?_
 ·
  rcases br_some hx28 with ⟨h29, hx28⟩ | ⟨h29, hx28⟩
  ·
   refine WL.setB 34 h29 rfl ?_
   refine seg 12 [] [2, 7, 40] [(2, (iv p2)), (7, (pt g5)), (40, (bv true))] [] (fun fb => by kernel_rfl) rfl trivial ?_
   injection hx28 with hx28
   exact WL.to K true [2, 7, 40] rfl ⟨⟨(hS25.subR [0, 1, 2, 3, 4]).sub [0] (by decide), hx28.symm⟩, trivial⟩
  refine WL.setB 34 h29 rfl ?_
  refine seg 9 [.v (sv Ad p3.South cd)] [2, 7, 34, 36, 37] [(2, (iv p2)), (7, (pt g5)), (34, (bv false)), (36, (sv Ad p3.South cd)), (37, (iv p1))] [.cell ⟨g5, 2, none⟩ (sv Ad p3.South cd)] (fun fb => by kernel_rfl) rfl ⟨hS25.cell 0 rfl 2 rfl, trivial⟩ ?_
  obtain ⟨t30, ht31, hx28⟩ := bind_some hx28
  refine WL.call (some 38) 57 #[(sv Ad p3.South cd), (iv p1)] (fun fb => by kernel_rfl) (ref02_side_calls p3.South p1 Ad cd t30 _ (hS25.rd 3) ht31) (fun v w32 hR33 => ?_)
  obtain ⟨rfl, hk_⟩ := hR33
  have hS34 := hS25.keepN hk_
  refine ⟨trivial, ?_⟩
  refine seg 12 [] [2, 7, 40] [(2, (iv p2)), (7, (pt g5)), (40, (bv (!t30)))] [] (fun fb => by kernel_rfl) rfl trivial ?_
  injection hx28 with hx28
  exact WL.to K (!t30) [2, 7, 40] rfl ⟨⟨(hS34.subR [0, 1, 2, 3, 4]).sub [0] (by decide), hx28.symm⟩, trivial⟩
 rintro y35 w37 ⟨⟨hS38, hq36⟩, hF39⟩
 subst hq36
 refine seg 13 [] [2, 7, 41] [(2, (iv p2)), (7, (pt g5)), (41, (bv x26))] [] (fun fb => by kernel_rfl) rfl trivial ?_
 obtain ⟨x40, hx41, hf⟩ := bind_some hf
 refine WL.cutW (T := Bool) 19 (fun t => [(2, (iv p2)), (7, (pt g5)), (47, (bv t))]) (fun t w1 => (St NoS w w1 [rowR enc_Tile Aa ca p0, rowR encInt Ab cb p3.North, rowR encInt Ac cc p3.East, rowR encInt Ad cd p3.South, rowR encInt Ae ce p3.West] [blk g5 (.cells #[(sv Ab p3.North cb), (sv Ac p3.East cc), (sv Ad p3.South cd), (sv Ae p3.West ce)] 44 (0, 0))] ∧ x40 = t) ∧ CellsOK [] w1) (fun K => ?_) ?_
 ·
  rcases br_some hx41 with ⟨h42, hx41⟩ | ⟨h42, hx41⟩
  ·
   refine WL.setB 41 h42 rfl ?_
   refine seg 19 [] [2, 7, 47] [(2, (iv p2)), (7, (pt g5)), (47, (bv true))] [] (fun fb => by kernel_rfl) rfl trivial ?_
   injection hx41 with hx41
   exact WL.to K true [2, 7, 47] rfl ⟨⟨(hS38.subR [0, 1, 2, 3, 4]).sub [0] (by decide), hx41.symm⟩, trivial⟩
  refine WL.setB 41 h42 rfl ?_
  refine seg 16 [.v (sv Ae p3.West ce)] [2, 7, 41, 43, 44] [(2, (iv p2)), (7, (pt g5)), (41, (bv false)), (43, (sv Ae p3.West ce)), (44, (iv p2))] [.cell ⟨g5, 3, none⟩ (sv Ae p3.West ce)] (fun fb => by kernel_rfl) rfl ⟨hS38.cell 0 rfl 3 rfl, trivial⟩ ?_
  obtain ⟨t43, ht44, hx41⟩ := bind_some hx41
  refine WL.call (some 45) 57 #[(sv Ae p3.West ce), (iv p2)] (fun fb => by kernel_rfl) (ref02_side_calls p3.West p2 Ae ce t43 _ (hS38.rd 4) ht44) (fun v w45 hR46 => ?_)
  obtain ⟨rfl, hk_⟩ := hR46
  have hS47 := hS38.keepN hk_
  refine ⟨trivial, ?_⟩
  refine seg 19 [] [2, 7, 47] [(2, (iv p2)), (7, (pt g5)), (47, (bv (!t43)))] [] (fun fb => by kernel_rfl) rfl trivial ?_
  injection hx41 with hx41
  exact WL.to K (!t43) [2, 7, 47] rfl ⟨⟨(hS47.subR [0, 1, 2, 3, 4]).sub [0] (by decide), hx41.symm⟩, trivial⟩
 rintro y48 w50 ⟨⟨hS51, hq49⟩, hF52⟩
 subst hq49
 refine seg 20 [] [2, 7, 48] [(2, (iv p2)), (7, (pt g5)), (48, (bv x40))] [] (fun fb => by kernel_rfl) rfl trivial ?_
 obtain ⟨x53, hx54, hf⟩ := bind_some hf
 refine WL.cutW (T := Bool) 26 (fun t => [(54, (bv t))]) (fun t w1 => (St NoS w w1 [rowR enc_Tile Aa ca p0, rowR encInt Ab cb p3.North, rowR encInt Ac cc p3.East, rowR encInt Ad cd p3.South, rowR encInt Ae ce p3.West] [] ∧ x53 = t) ∧ CellsOK [] w1) (fun K => ?_) ?_
 ·
  rcases br_some hx54 with ⟨h55, hx54⟩ | ⟨h55, hx54⟩
  ·
   refine WL.setB 48 h55 rfl ?_
   refine seg 26 [] [54] [(54, (bv true))] [] (fun fb => by kernel_rfl) rfl trivial ?_
   injection hx54 with hx54
   exact WL.to K true [54] rfl ⟨⟨(hS51.subR [0, 1, 2, 3, 4]).sub [] (by decide), hx54.symm⟩, trivial⟩
  refine WL.setB 48 h55 rfl ?_
  refine seg 23 [.v (sv Ac p3.East cc)] [48, 50, 51] [(48, (bv false)), (50, (sv Ac p3.East cc)), (51, (iv p2))] [.cell ⟨g5, 1, none⟩ (sv Ac p3.East cc)] (fun fb => by kernel_rfl) rfl ⟨hS51.cell 0 rfl 1 rfl, trivial⟩ ?_
  obtain ⟨t56, ht57, hx54⟩ := bind_some hx54
  refine WL.call (some 52) 57 #[(sv Ac p3.East cc), (iv p2)] (fun fb => by kernel_rfl) (ref02_side_calls p3.East p2 Ac cc t56 _ (hS51.rd 2) ht57) (fun v w58 hR59 => ?_)
  obtain ⟨rfl, hk_⟩ := hR59
  have hS60 := hS51.keepN hk_
  refine ⟨trivial, ?_⟩
  refine seg 26 [] [54] [(54, (bv (!t56)))] [] (fun fb => by kernel_rfl) rfl trivial ?_
  injection hx54 with hx54
  exact WL.to K (!t56) [54] rfl ⟨⟨(hS60.subR [0, 1, 2, 3, 4]).sub [] (by decide), hx54.symm⟩, trivial⟩
 rintro y61 w63 ⟨⟨hS65, hq62⟩, hF66⟩
 subst hq62
 refine seg 27 [] [28] [(28, (bv x53))] [] (fun fb => by kernel_rfl) rfl trivial ?_
 refine WL.done rfl (WX.next ?_)
 rcases br_some hf with ⟨h67, hf⟩ | ⟨h67, hf⟩
 ·refine WC.condT2 (fun fb => by kernel_rfl) h67 ?_
  refine WC.seq (WC.region ?_)
  refine seg 1 [] [8] [(8, (iv 2))] [] (fun fb => by kernel_rfl) rfl trivial ?_
  refine WL.done rfl (WX.next ?_)
  refine WC.ret ?_
  injection hf with hf
  subst hf
  exact WX.blockR (WX.thenR (WX.ret_ [] (iv 2) [] (fun fb => by kernel_rfl) trivial ⟨_, rfl, rfl, hS65.keep⟩))
 refine WC.condF2 (fun fb => by kernel_rfl) h67 ?_
 refine WC.skip ?_
 refine WX.blockN (WX.next ?_)
 refine WC.seq (WC.region ?_)
 refine seg 1 [] [8] [(8, (iv 0))] [] (fun fb => by kernel_rfl) rfl trivial ?_
 refine WL.done rfl (WX.next ?_)
 refine WC.ret ?_
 injection hf with hf
 subst hf
 exact WX.ret_ [] (iv 0) [] (fun fb => by kernel_rfl) trivial ⟨_, rfl, rfl, hS65.keep⟩
theorem ref02_at_calls (k : Nat) (p0 : List Int) (p1 : Int) (Aa : Option Addr) (ca : Nat) (r : Int) (w : World) (hR0 : RO NoS w (rowR encInt Aa ca p0)) (hf : ref02_at k p0 p1 = some r) :
  CallsR Tryd.prog 87 #[(sv Aa p0 ca), (iv p1)] w (fun v w' => v = (iv r) ∧ Keeps NoS w w') := by
 have hS : St NoS w w [rowR encInt Aa ca p0] [] := St.init (ro_cons hR0 (ro_nil _ _))
 refine enter 19 Tryd.func87 rfl Tryd.ntmps87 rfl ?_
 unfold ref02_at at hf
 refine WC.seq (WC.region ?_)
 refine seg 1 [] [0, 1] [(0, (sv Aa p0 ca)), (1, (iv p1))] [] (fun fb => by kernel_rfl) rfl trivial ?_
 refine WL.done rfl (WX.next (WC.seq (WC.seq (WC.region ?_))))
 refine seg 1 [] [0, 1, 5] [(0, (sv Aa p0 ca)), (1, (iv p1)), (5, (iv 0))] [] (fun fb => by kernel_rfl) rfl trivial ?_
 refine WL.done rfl (WX.next ?_)
 obtain ⟨x4, hx5, hf⟩ := bind_some hf
 refine WC.cutN (T := Unit) (fun t => []) (fun t w1 => St NoS w w1 [rowR encInt Aa ca p0] [] ∧ x4 = .inr t) (fun Kx4 => ?_) ?_
 ·
  refine WC.block ?_
  refine WC.loop (T := Int) (fun t => [(0, (sv Aa p0 ca)), (1, (iv p1)), (5, (iv t))]) (fun n t w1 => St NoS w w1 [rowR encInt Aa ca p0] [] ∧ ref02_at.l0 n t p0 p1 = some x4) k 0 [0, 1, 5] rfl ⟨(hS.subR [0]).sub [] (by decide), hx5⟩ ?_
  rintro k6 x3 w7 ⟨hS8, hl9⟩
  cases k6 with
  | zero => rw [ref02_at.l0] at hl9; cases hl9
  | succ k6 =>
   rw [ref02_at.l0] at hl9
   refine WC.seq (WC.seq (WC.region ?_))
   refine seg 4 [] [0, 1, 5, 9] [(0, (sv Aa p0 ca)), (1, (iv p1)), (5, (iv x3)), (9, (bv (decide (x3 < (p0.length : Int)))))] [] (fun fb => by kernel_rfl) rfl trivial ?_
   refine WL.done rfl (WX.next ?_)
   rcases br_some hl9 with ⟨h10, hl9⟩ | ⟨h10, hl9⟩
   ·refine WC.condT2 (fun fb => by kernel_rfl) h10 ?_
    refine WC.skip (WX.next (WC.seq (WC.block (WC.seq (WC.region ?_)))))
    refine seg 2 [] [0, 1, 5, 12, 13] [(0, (sv Aa p0 ca)), (1, (iv p1)), (5, (iv x3)), (12, (sv Aa p0 ca)), (13, (iv x3))] [] (fun fb => by kernel_rfl) rfl trivial ?_
    obtain ⟨h11, hl9⟩ := as_some hl9
    refine seg 6 [.v (iv (rdD p0 x3 0))] [0, 1, 5, 17] [(0, (sv Aa p0 ca)), (1, (iv p1)), (5, (iv x3)), (17, (bv ((rdD p0 x3 0) == p1)))] [.idx Aa x3 p0.length, .cell ((adr Aa).add ((x3).toNat * 1)) (iv (rdD p0 x3 0))] (fun fb => by kernel_rfl) rfl ⟨rowR.adr (hS8.rd 0).1 h11.1 h11.2, rowR.cell (hS8.rd 0).1 0 h11.1 h11.2 0 rfl, trivial⟩ ?_
    refine WL.done rfl (WX.next ?_)
    rcases br_some hl9 with ⟨h12, hl9⟩ | ⟨h12, hl9⟩
    ·refine WC.condT2 (fun fb => by kernel_rfl) h12 ?_
     refine WC.seq (WC.region ?_)
     refine seg 2 [] [4] [(4, (iv x3))] [] (fun fb => by kernel_rfl) rfl trivial ?_
     refine WL.done rfl (WX.next ?_)
     refine WC.ret ?_
     injection hl9 with hl9
     subst hl9
     injection hf with hf
     subst hf
     exact WX.blockR (WX.thenR (WX.thenR (WX.blockR (WX.thenR (WX.ret_ [] (iv x3) [] (fun fb => by kernel_rfl) trivial ⟨_, rfl, rfl, hS8.keep⟩)))))
    refine WC.condF2 (fun fb => by kernel_rfl) h12 ?_
    refine WC.skip ?_
    refine WX.blockN (WX.next ?_)
    refine WC.region ?_
    refine seg 3 [] [0, 1, 5] [(0, (sv Aa p0 ca)), (1, (iv p1)), (5, (iv (w64 (x3 + 1))))] [] (fun fb => by kernel_rfl) rfl trivial ?_
    refine WL.done rfl ?_
    exact WX.again k6 (Nat.lt_succ_self _) (w64 (x3 + 1)) [0, 1, 5] rfl ⟨(hS8.subR [0]).sub [] (by decide), hl9⟩
   refine WC.condF2 (fun fb => by kernel_rfl) h10 ?_
   refine WC.exit ?_
   injection hl9 with hl9
   exact WX.thenX (WX.thenX (WX.blockHere (WX.to Kx4 () [] rfl ⟨(hS8.subR [0]).sub [] (by decide), hl9.symm⟩)))
 rintro y16 w13 ⟨hS14, hq15⟩
 subst hq15
 have hf := sum_inr hf
 refine WX.next (WC.seq (WC.region ?_))
 refine seg 1 [] [4] [(4, (iv (-1)))] [] (fun fb => by kernel_rfl) rfl trivial ?_
 refine WL.done rfl (WX.next ?_)
 refine WC.ret ?_
 injection hf with hf
 subst hf
 exact WX.ret_ [] (iv (-1)) [] (fun fb => by kernel_rfl) trivial ⟨_, rfl, rfl, hS14.keep⟩
theorem ref02_with_calls (k : Nat) (p0 : List Int) (p1 : Int) (Aa : Option Addr) (ca : Nat) (r : (List Int)) (w : World) (hI : IoOK w [rowO 3 encInt Aa ca p0]) (hf : ref02_with k p0 p1 = some r) :
  CallsR Tryd.prog 67 #[(sv Aa p0 ca), (iv p1)] w (fun v w' => ∃ (A1_ : Option Addr), ∃ (c1_ : Nat), v = (sv A1_ r c1_) ∧ St (fpL [rowO 3 encInt Aa ca p0]) w w' [] [rowO 3 encInt A1_ c1_ r]) := by
 have hS : St (fpL [rowO 3 encInt Aa ca p0]) w w [] [rowO 3 encInt Aa ca p0] := St.initIO (ro_nil _ _) hI
 refine enter 14 Tryd.func67 rfl Tryd.ntmps67 rfl ?_
 unfold ref02_with at hf
 refine WC.seq (WC.region ?_)
 refine seg 1 [] [0, 1] [(0, (sv Aa p0 ca)), (1, (iv p1))] [] (fun fb => by kernel_rfl) rfl trivial ?_
 refine WL.done rfl (WX.next (WC.seq (WC.seq (WC.region ?_))))
 refine seg 2 [] [0, 1, 5, 6] [(0, (sv Aa p0 ca)), (1, (iv p1)), (5, (sv Aa p0 ca)), (6, (iv p1))] [] (fun fb => by kernel_rfl) rfl trivial ?_
 obtain ⟨t3, ht4, hf⟩ := bind_some hf
 refine WL.call (some 7) 87 #[(sv Aa p0 ca), (iv p1)] (fun fb => by kernel_rfl) (ref02_at_calls _ p0 p1 Aa ca t3 _ (hS.ow 0).ofO ht4) (fun v w5 hR6 => ?_)
 obtain ⟨rfl, hk_⟩ := hR6
 have hS7 := hS.keepN hk_
 refine ⟨trivial, ?_⟩
 refine seg 4 [] [0, 1, 8] [(0, (sv Aa p0 ca)), (1, (iv p1)), (8, (bv (decide (t3 < 0))))] [] (fun fb => by kernel_rfl) rfl trivial ?_
 refine WL.done rfl (WX.next ?_)
 obtain ⟨x10, hx11, hf⟩ := bind_some hf
 refine WC.cutN (T := (List Int) × (Option Addr) × Nat) (fun t => [(0, (sv t.2.1 t.1 t.2.2))]) (fun t w1 => St (fpL [rowO 3 encInt Aa ca p0]) w w1 [] [rowO 3 encInt t.2.1 t.2.2 t.1] ∧ x10 = t.1) (fun Kx10 => ?_) ?_
 ·
  rcases br_some hx11 with ⟨h12, hx11⟩ | ⟨h12, hx11⟩
  ·refine WC.condT2 (fun fb => by kernel_rfl) h12 ?_
   refine WC.region ?_
   refine seg 2 [] [9, 10] [(9, (sv Aa p0 ca)), (10, (iv p1))] [] (fun fb => by kernel_rfl) rfl trivial ?_
   refine WL.new hS7 11 [] (fun g => (.slice (some ⟨g, 0, none⟩) 1 1)) (.cells #[(iv p1)] 3 (0, 0)) [] (fun fb g => by kernel_rfl) trivial (fun g13 w14 hS15 => ?_)
   refine ⟨trivial, ?_⟩
   have hS16 := hS.go w14 [rowO 3 encInt (some ⟨g13, 0, none⟩) 1 [p1], rowO 3 encInt Aa ca p0] (hS15.map1 0 _ (fun h => rowO.ofBlk h rfl (Nat.le_of_ble_eq_true (by kernel_rfl))) (fun _ h => by obtain ⟨_, h1, h2⟩ := h; injection h1 with h1; subst h1; exact h2) [1] (by decide) (by decide))
   obtain ⟨h17, hx11⟩ := as_some hx11
   refine WL.append hS16 1 (d := 12) (tS := 25) (z := (iv 0)) (bytes := 8) (c2 := 1) rfl (fun fb => by kernel_rfl) (rowO.rd (hS16.own 0).1) (by kernel_rfl) (by kernel_rfl) rfl (by decide) h17 (by decide) [0] (by decide) (by decide) (fun A18 c19 w20 hS21 => ?_)
   refine ⟨trivial, ?_⟩
   refine seg 5 [] [0] [(0, (sv A18 (p0 ++ [p1]) c19))] [] (fun fb => by kernel_rfl) rfl trivial ?_
   refine WL.done rfl ?_
   injection hx11 with hx11
   exact WX.to Kx10 (p0 ++ [p1], A18, c19) [0] rfl ⟨(hS21.subR []).sub [0] (by decide), hx11.symm⟩
  refine WC.condF2 (fun fb => by kernel_rfl) h12 ?_
  refine WC.skip ?_
  injection hx11 with hx11
  exact WX.to Kx10 (p0, Aa, ca) [0] rfl ⟨(hS7.subR []).sub [0] (by decide), hx11.symm⟩
 rintro ⟨y25, A8, c9⟩ w22 ⟨hS23, hq24⟩
 subst hq24
 refine WX.next (WC.seq (WC.region ?_))
 refine seg 2 [] [4] [(4, (sv A8 x10 c9))] [] (fun fb => by kernel_rfl) rfl trivial ?_
 refine WL.done rfl (WX.next ?_)
 refine WC.ret ?_
 injection hf with hf
 subst hf
 exact WX.ret_ [] (sv A8 x10 c9) [] (fun fb => by kernel_rfl) trivial ⟨_, rfl, A8, c9, rfl, (hS23.sub [0] (by decide)).noR⟩
theorem ref02_Colours_calls (k : Nat) (p0 : List Tile) (Aa : Option Addr) (ca : Nat) (r : (List Int)) (w : World) (hR0 : RO NoS w (rowR enc_Tile Aa ca p0)) (hf : ref02_Colours k p0 = some r) :
  CallsR Tryd.prog 38 #[(sv Aa p0 ca)] w (fun v w' => ∃ (A1_ : Option Addr), ∃ (c1_ : Nat), v = (sv A1_ r c1_) ∧ St NoS w w' [] [rowO 3 encInt A1_ c1_ r]) := by
 have hS : St NoS w w [rowR enc_Tile Aa ca p0] [] := St.init (ro_cons hR0 (ro_nil _ _))
 refine enter 25 Tryd.func38 rfl Tryd.ntmps38 rfl ?_
 unfold ref02_Colours at hf
 refine WC.seq (WC.region ?_)
 refine seg 1 [] [0] [(0, (sv Aa p0 ca))] [] (fun fb => by kernel_rfl) rfl trivial ?_
 refine WL.done rfl (WX.next (WC.seq (WC.region ?_)))
 refine seg 1 [] [0, 3] [(0, (sv Aa p0 ca)), (3, (.slice none 0 0))] [] (fun fb => by kernel_rfl) rfl trivial ?_
 refine WL.done rfl (WX.next (WC.seq (WC.seq (WC.region ?_))))
 refine seg 1 [] [0, 3, 4] [(0, (sv Aa p0 ca)), (3, (.slice none 0 0)), (4, (iv 0))] [] (fun fb => by kernel_rfl) rfl trivial ?_
 refine WL.done rfl (WX.next ?_)
 have hS3 := hS.nilrow 3 encInt
 obtain ⟨x10, hx11, hf⟩ := bind_some hf
 refine WC.cutN (T := (List Int) × (Option Addr) × Nat) (fun t => [(3, (sv t.2.1 t.1 t.2.2))]) (fun t w1 => St NoS w w1 [rowR enc_Tile Aa ca p0] [rowO 3 encInt t.2.1 t.2.2 t.1] ∧ x10 = t.1) (fun Kx10 => ?_) ?_
 ·
  refine WC.block ?_
  refine WC.loop (T := ((List Int) × Int) × (Option Addr) × Nat) (fun t => [(0, (sv Aa p0 ca)), (3, (sv t.2.1 t.1.1 t.2.2)), (4, (iv t.1.2))]) (fun n t w1 => St NoS w w1 [rowR enc_Tile Aa ca p0] [rowO 3 encInt t.2.1 t.2.2 t.1.1] ∧ ref02_Colours.l0 n t.1.1 t.1.2 p0 = some x10) k ((([] : List Int), 0), none, 0) [0, 3, 4] rfl ⟨(hS3.subR [0]).sub [0] (by decide), hx11⟩ ?_
  rintro k12 ⟨⟨l6, x7⟩, A4, c5⟩ w13 ⟨hS14, hl15⟩
  cases k12 with
  | zero => rw [ref02_Colours.l0] at hl15; cases hl15
  | succ k12 =>
   rw [ref02_Colours.l0] at hl15
   refine WC.seq (WC.seq (WC.region ?_))
   refine seg 4 [] [0, 3, 4, 8] [(0, (sv Aa p0 ca)), (3, (sv A4 l6 c5)), (4, (iv x7)), (8, (bv (decide (x7 < (p0.length : Int)))))] [] (fun fb => by kernel_rfl) rfl trivial ?_
   refine WL.done rfl (WX.next ?_)
   rcases br_some hl15 with ⟨h16, hl15⟩ | ⟨h16, hl15⟩
   ·refine WC.condT2 (fun fb => by kernel_rfl) h16 ?_
    refine WC.skip (WX.next (WC.seq (WC.block ?_)))
    obtain ⟨h19, hl15⟩ := as_some hl15
    refine WC.regionD ([(5, ((adr Aa).add ((x7).toNat * 4)), (iv ((rdD p0 x7 z_Tile).N))), (11, (((adr Aa).add ((x7).toNat * 4)).add 2), (iv ((rdD p0 x7 z_Tile).S)))], [0, 1, 2, 3, 4, 5, 7, 8, 9, 10, 11, 13], [[], [], [], [1, 2], [1, 2, 3], [1, 2, 3, 4], [0, 1, 2, 3, 4, 5], [], [], [7, 8], [7, 8, 9], [7, 8, 9, 10], [0, 1, 2, 3, 4, 5, 6, 7, 8, 9, 10, 11], [0, 1, 2, 3, 4, 5, 6, 7, 8, 9, 10, 11, 12]]) [[0, 1, 2, 3, 4, 5, 7, 8, 9, 10, 11, 6, 12, 13]] (by kernel_rfl) (by kernel_rfl) (NoPanic.block (NoPanic.seq (NoPanic.seq (NoPanic.block (NoPanic.seq (NoPanic.body)))))) ?_
    have hS18 := hS14.drew
    revert hS18
    generalize World.drew w13 = w17
    intro hS18
    refine ⟨⟨rowR.cell (hS18.rd 0).1 z_Tile h19.1 h19.2 0 rfl, rowR.cell (hS18.rd 0).1 z_Tile h19.1 h19.2 2 rfl, trivial⟩, forallC ?_ (forallN)⟩
    refine segF 11 [.v (iv ((rdD p0 x7 z_Tile).N)), .v (iv ((rdD p0 x7 z_Tile).S))] [0, 4, 11, 16, 22] [(0, (sv Aa p0 ca)), (4, (iv x7)), (11, (sv A4 l6 c5)), (16, (iv ((rdD p0 x7 z_Tile).N))), (22, (iv ((rdD p0 x7 z_Tile).S)))] [.idx Aa x7 p0.length, .idx Aa x7 p0.length] [0, 1] [(5, ((adr Aa).add ((x7).toNat * 4)), (iv ((rdD p0 x7 z_Tile).N))), (11, (((adr Aa).add ((x7).toNat * 4)).add 2), (iv ((rdD p0 x7 z_Tile).S)))] (fun fb => by kernel_rfl) rfl ⟨rowR.adr (hS18.rd 0).1 h19.1 h19.2, rowR.adr (hS18.rd 0).1 h19.1 h19.2, trivial⟩ rfl ?_
    obtain ⟨t20, ht21, hl15⟩ := bind_some hl15
    refine WL.call (some 17) 67 #[(sv A4 l6 c5), (iv ((rdD p0 x7 z_Tile).N))] (fun fb => by kernel_rfl) (ref02_with_calls _ l6 ((rdD p0 x7 z_Tile).N) A4 c5 t20 _ (hS18.io [0] (by decide)) ht21) (fun v w22 hR23 => ?_)
    obtain ⟨A25, c26, rfl, hk_⟩ := hR23
    have hS24 := hS.go w22 [rowO 3 encInt A25 c26 t20] (hS18.call hk_ [0] [] (fun g hg => fpL_sel g hg) (by decide) (by decide))
    refine ⟨⟨rowR.cell (hS24.rd 0).1 z_Tile h19.1 h19.2 2 rfl, trivial⟩, ?_⟩
    obtain ⟨t27, ht28, hl15⟩ := bind_some hl15
    refine WL.call (some 23) 67 #[(sv A25 t20 c26), (iv ((rdD p0 x7 z_Tile).S))] (fun fb => by kernel_rfl) (ref02_with_calls _ t20 ((rdD p0 x7 z_Tile).S) A25 c26 t27 _ (hS24.io [0] (by decide)) ht28) (fun v w29 hR30 => ?_)
    obtain ⟨A32, c33, rfl, hk_⟩ := hR30
    have hS31 := hS24.go w29 [rowO 3 encInt A32 c33 t27] (hS24.call hk_ [0] [] (fun g hg => fpL_sel g hg) (by decide) (by decide))
    refine ⟨trivial, ?_⟩
    refine seg 14 [] [0, 3, 4] [(0, (sv Aa p0 ca)), (3, (sv A32 t27 c33)), (4, (iv x7))] [] (fun fb => by kernel_rfl) rfl trivial ?_
    refine WL.done rfl ?_
    refine WX.blockN (WX.next ?_)
    refine WC.region ?_
    refine seg 3 [] [0, 3, 4] [(0, (sv Aa p0 ca)), (3, (sv A32 t27 c33)), (4, (iv (w64 (x7 + 1))))] [] (fun fb => by kernel_rfl) rfl trivial ?_
    refine WL.done rfl ?_
    exact WX.again k12 (Nat.lt_succ_self _) ((t27, w64 (x7 + 1)), A32, c33) [0, 3, 4] rfl ⟨(hS31.subR [0]).sub [0] (by decide), hl15⟩
   refine WC.condF2 (fun fb => by kernel_rfl) h16 ?_
   refine WC.exit ?_
   injection hl15 with hl15
   exact WX.thenX (WX.thenX (WX.blockHere (WX.to Kx10 (l6, A4, c5) [3] rfl ⟨(hS14.subR [0]).sub [0] (by decide), hl15.symm⟩)))
 rintro ⟨y37, A8, c9⟩ w34 ⟨hS35, hq36⟩
 subst hq36
 refine WX.next (WC.seq (WC.region ?_))
 refine seg 2 [] [2] [(2, (sv A8 x10 c9))] [] (fun fb => by kernel_rfl) rfl trivial ?_
 refine WL.done rfl (WX.next ?_)
 refine WC.ret ?_
 injection hf with hf
 subst hf
 exact WX.ret_ [] (sv A8 x10 c9) [] (fun fb => by kernel_rfl) trivial ⟨_, rfl, A8, c9, rfl, (hS35.sub [0] (by decide)).noR⟩
theorem ref02_Power_calls (k : Nat) (p0 : Int) (p1 : Int)  (r : Int) (w : World)  (hf : ref02_Power k p0 p1 = some r) :
  CallsR Tryd.prog 24 #[(iv p0), (iv p1)] w (fun v w' => v = (iv r) ∧ Keeps NoS w w') := by
 have hS : St NoS w w [] [] := St.init (ro_nil _ _)
 refine enter 17 Tryd.func24 rfl Tryd.ntmps24 rfl ?_
 unfold ref02_Power at hf
 refine WC.seq (WC.region ?_)
 refine seg 1 [] [0, 1] [(0, (iv p0)), (1, (iv p1))] [] (fun fb => by kernel_rfl) rfl trivial ?_
 refine WL.done rfl (WX.next (WC.seq (WC.region ?_)))
 refine seg 1 [] [0, 1, 5] [(0, (iv p0)), (1, (iv p1)), (5, (iv 1))] [] (fun fb => by kernel_rfl) rfl trivial ?_
 refine WL.done rfl (WX.next (WC.seq (WC.seq (WC.region ?_))))
 refine seg 1 [] [0, 1, 5, 6] [(0, (iv p0)), (1, (iv p1)), (5, (iv 1)), (6, (iv 0))] [] (fun fb => by kernel_rfl) rfl trivial ?_
 refine WL.done rfl (WX.next ?_)
 obtain ⟨x5, hx6, hf⟩ := bind_some hf
 refine WC.cutN (T := Int) (fun t => [(5, (iv t))]) (fun t w1 => St NoS w w1 [] [] ∧ x5 = t) (fun Kx5 => ?_) ?_
 ·
  refine WC.block ?_
  refine WC.loop (T := Int × Int) (fun t => [(0, (iv p0)), (1, (iv p1)), (5, (iv t.1)), (6, (iv t.2))]) (fun n t w1 => St NoS w w1 [] [] ∧ ref02_Power.l0 n t.1 t.2 p0 p1 = some x5) k (1, 0) [0, 1, 5, 6] rfl ⟨(hS.subR []).sub [] (by decide), hx6⟩ ?_
  rintro k7 ⟨x3, x4⟩ w8 ⟨hS9, hl10⟩
  cases k7 with
  | zero => rw [ref02_Power.l0] at hl10; cases hl10
  | succ k7 =>
   rw [ref02_Power.l0] at hl10
   refine WC.seq (WC.seq (WC.region ?_))
   refine seg 3 [] [0, 1, 5, 6, 9] [(0, (iv p0)), (1, (iv p1)), (5, (iv x3)), (6, (iv x4)), (9, (bv (decide (x4 < p1))))] [] (fun fb => by kernel_rfl) rfl trivial ?_
   refine WL.done rfl (WX.next ?_)
   rcases br_some hl10 with ⟨h11, hl10⟩ | ⟨h11, hl10⟩
   ·refine WC.condT2 (fun fb => by kernel_rfl) h11 ?_
    refine WC.skip (WX.next (WC.seq (WC.block (WC.region ?_))))
    refine seg 5 [] [0, 1, 5, 6] [(0, (iv p0)), (1, (iv p1)), (5, (iv (minI (w64 (x3 * p0)) 1000000))), (6, (iv x4))] [] (fun fb => by kernel_rfl) rfl trivial ?_
    refine WL.done rfl ?_
    refine WX.blockN (WX.next ?_)
    refine WC.region ?_
    refine seg 3 [] [0, 1, 5, 6] [(0, (iv p0)), (1, (iv p1)), (5, (iv (minI (w64 (x3 * p0)) 1000000))), (6, (iv (w64 (x4 + 1))))] [] (fun fb => by kernel_rfl) rfl trivial ?_
    refine WL.done rfl ?_
    exact WX.again k7 (Nat.lt_succ_self _) (minI (w64 (x3 * p0)) 1000000, w64 (x4 + 1)) [0, 1, 5, 6] rfl ⟨(hS9.subR []).sub [] (by decide), hl10⟩
   refine WC.condF2 (fun fb => by kernel_rfl) h11 ?_
   refine WC.exit ?_
   injection hl10 with hl10
   exact WX.thenX (WX.thenX (WX.blockHere (WX.to Kx5 x3 [5] rfl ⟨(hS9.subR []).sub [] (by decide), hl10.symm⟩)))
 rintro y15 w12 ⟨hS13, hq14⟩
 subst hq14
 refine WX.next (WC.seq (WC.region ?_))
 refine seg 2 [] [4] [(4, (iv x5))] [] (fun fb => by kernel_rfl) rfl trivial ?_
 refine WL.done rfl (WX.next ?_)
 refine WC.ret ?_
 injection hf with hf
 subst hf
 exact WX.ret_ [] (iv x5) [] (fun fb => by kernel_rfl) trivial ⟨_, rfl, rfl, hS13.keep⟩
theorem ref02_Light_calls (k : Nat) (p0 : List Tile) (p1 : Int) (Aa : Option Addr) (ca : Nat) (r : Bool) (w : World) (hR0 : RO NoS w (rowR enc_Tile Aa ca p0)) (hf : ref02_Light k p0 p1 = some r) :
  CallsR Tryd.prog 61 #[(sv Aa p0 ca), (iv p1)] w (fun v w' => v = (bv r) ∧ Keeps NoS w w') := by
 have hS : St NoS w w [rowR enc_Tile Aa ca p0] [] := St.init (ro_cons hR0 (ro_nil _ _))
 refine enter 18 Tryd.func61 rfl Tryd.ntmps61 rfl ?_
 unfold ref02_Light at hf
 refine WC.seq (WC.region ?_)
 refine seg 1 [] [0, 1] [(0, (sv Aa p0 ca)), (1, (iv p1))] [] (fun fb => by kernel_rfl) rfl trivial ?_
 refine WL.done rfl (WX.next (WC.seq (WC.region ?_)))
 refine seg 1 [] [0, 1, 5] [(0, (sv Aa p0 ca)), (1, (iv p1)), (5, (sv Aa p0 ca))] [] (fun fb => by kernel_rfl) rfl trivial ?_
 obtain ⟨t3, ht4, hf⟩ := bind_some hf
 refine WL.call (some 6) 38 #[(sv Aa p0 ca)] (fun fb => by kernel_rfl) (ref02_Colours_calls _ p0 Aa ca t3 _ (hS.rd 0) ht4) (fun v w5 hR6 => ?_)
 obtain ⟨A8, c9, rfl, hk_⟩ := hR6
 have hS7 := hS.go w5 [rowO 3 encInt A8 c9 t3] (hS.call hk_ [] [] (fun g hg => hg.elim) (by simp) (by decide))
 refine ⟨trivial, ?_⟩
 refine seg 4 [] [0, 1, 7, 8] [(0, (sv Aa p0 ca)), (1, (iv p1)), (7, (iv (t3.length : Int))), (8, (iv p1))] [] (fun fb => by kernel_rfl) rfl trivial ?_
 obtain ⟨t10, ht11, hf⟩ := bind_some hf
 refine WL.call (some 9) 24 #[(iv (t3.length : Int)), (iv p1)] (fun fb => by kernel_rfl) (ref02_Power_calls _ (t3.length : Int) p1 t10 _ ht11) (fun v w12 hR13 => ?_)
 obtain ⟨rfl, hk_⟩ := hR13
 have hS14 := hS7.keepN hk_
 refine ⟨trivial, ?_⟩
 refine seg 7 [] [0, 1, 11] [(0, (sv Aa p0 ca)), (1, (iv p1)), (11, (bv (decide (t10 ≤ 1500))))] [] (fun fb => by kernel_rfl) rfl trivial ?_
 obtain ⟨x15, hx16, hf⟩ := bind_some hf
 refine WL.cutW (T := Bool) 13 (fun t => [(17, (bv t))]) (fun t w1 => (St NoS w w1 [rowR enc_Tile Aa ca p0] [] ∧ x15 = t) ∧ CellsOK [] w1) (fun K => ?_) ?_
 ·
  rcases br_some hx16 with ⟨h17, hx16⟩ | ⟨h17, hx16⟩
  ·
   refine WL.setB 11 h17 rfl ?_
   refine seg 10 [] [11, 13, 14] [(11, (bv true)), (13, (iv (p0.length : Int))), (14, (iv p1))] [] (fun fb => by kernel_rfl) rfl trivial ?_
   obtain ⟨t18, ht19, hx16⟩ := bind_some hx16
   refine WL.call (some 15) 24 #[(iv (p0.length : Int)), (iv p1)] (fun fb => by kernel_rfl) (ref02_Power_calls _ (p0.length : Int) p1 t18 _ ht19) (fun v w20 hR21 => ?_)
   obtain ⟨rfl, hk_⟩ := hR21
   have hS22 := hS14.keepN hk_
   refine ⟨trivial, ?_⟩
   refine seg 13 [] [17] [(17, (bv (decide (t18 ≤ 40000))))] [] (fun fb => by kernel_rfl) rfl trivial ?_
   injection hx16 with hx16
   exact WL.to K (decide (t18 ≤ 40000)) [17] rfl ⟨⟨(hS22.subR [0]).sub [] (by decide), hx16.symm⟩, trivial⟩
  refine WL.setB 11 h17 rfl ?_
  refine seg 13 [] [17] [(17, (bv false))] [] (fun fb => by kernel_rfl) rfl trivial ?_
  injection hx16 with hx16
  exact WL.to K false [17] rfl ⟨⟨(hS14.subR [0]).sub [] (by decide), hx16.symm⟩, trivial⟩
 rintro y23 w25 ⟨⟨hS26, hq24⟩, hF27⟩
 subst hq24
 refine seg 14 [] [4] [(4, (bv x15))] [] (fun fb => by kernel_rfl) rfl trivial ?_
 refine WL.done rfl (WX.next ?_)
 refine WC.ret ?_
 injection hf with hf
 subst hf
 exact WX.ret_ [] (bv x15) [] (fun fb => by kernel_rfl) trivial ⟨_, rfl, rfl, hS26.keep⟩
theorem law02_heavy_calls (k : Nat) (p0 : List Tile) (p1 : Int) (Aa : Option Addr) (ca : Nat) (r : Bool) (w : World) (hR0 : RO NoS w (rowR enc_Tile Aa ca p0)) (hf : law02_heavy k p0 p1 = some r) :
  CallsR Tryd.prog 29 #[(sv Aa p0 ca), (iv p1)] w (fun v w' => v = (bv r) ∧ Keeps NoS w w') := by
 have hS : St NoS w w [rowR enc_Tile Aa ca p0] [] := St.init (ro_cons hR0 (ro_nil _ _))
 refine enter 14 Tryd.func29 rfl Tryd.ntmps29 rfl ?_
 unfold law02_heavy at hf
 refine WC.seq (WC.region ?_)
 refine seg 1 [] [0, 1] [(0, (sv Aa p0 ca)), (1, (iv p1))] [] (fun fb => by kernel_rfl) rfl trivial ?_
 refine WL.done rfl (WX.next (WC.seq (WC.region ?_)))
 refine seg 4 [] [0, 1, 8] [(0, (sv Aa p0 ca)), (1, (iv p1)), (8, (bv (decide ((p0.length : Int) > 60))))] [] (fun fb => by kernel_rfl) rfl trivial ?_
 obtain ⟨x3, hx4, hf⟩ := bind_some hf
 refine WL.cutW (T := Bool) 9 (fun t => [(13, (bv t))]) (fun t w1 => (St NoS w w1 [rowR enc_Tile Aa ca p0] [] ∧ x3 = t) ∧ CellsOK [] w1) (fun K => ?_) ?_
 ·
  rcases br_some hx4 with ⟨h5, hx4⟩ | ⟨h5, hx4⟩
  ·
   refine WL.setB 8 h5 rfl ?_
   refine seg 9 [] [13] [(13, (bv true))] [] (fun fb => by kernel_rfl) rfl trivial ?_
   injection hx4 with hx4
   exact WL.to K true [13] rfl ⟨⟨(hS.subR [0]).sub [] (by decide), hx4.symm⟩, trivial⟩
  refine WL.setB 8 h5 rfl ?_
  refine seg 6 [] [8, 9, 10] [(8, (bv false)), (9, (sv Aa p0 ca)), (10, (iv p1))] [] (fun fb => by kernel_rfl) rfl trivial ?_
  obtain ⟨t6, ht7, hx4⟩ := bind_some hx4
  refine WL.call (some 11) 61 #[(sv Aa p0 ca), (iv p1)] (fun fb => by kernel_rfl) (ref02_Light_calls _ p0 p1 Aa ca t6 _ (hS.rd 0) ht7) (fun v w8 hR9 => ?_)
  obtain ⟨rfl, hk_⟩ := hR9
  have hS10 := hS.keepN hk_
  refine ⟨trivial, ?_⟩
  refine seg 9 [] [13] [(13, (bv (!t6)))] [] (fun fb => by kernel_rfl) rfl trivial ?_
  injection hx4 with hx4
  exact WL.to K (!t6) [13] rfl ⟨⟨(hS10.subR [0]).sub [] (by decide), hx4.symm⟩, trivial⟩
 rintro y11 w13 ⟨⟨hS14, hq12⟩, hF15⟩
 subst hq12
 refine seg 10 [] [4] [(4, (bv x3))] [] (fun fb => by kernel_rfl) rfl trivial ?_
 refine WL.done rfl (WX.next ?_)
 refine WC.ret ?_
 injection hf with hf
 subst hf
 exact WX.ret_ [] (bv x3) [] (fun fb => by kernel_rfl) trivial ⟨_, rfl, rfl, hS14.keep⟩
theorem ref02_Great_calls (k : Nat) (p0 : List Tile) (p1 : Int) (Aa : Option Addr) (ca : Nat) (r : Bool) (w : World) (hR0 : RO NoS w (rowR enc_Tile Aa ca p0)) (hf : ref02_Great k p0 p1 = some r) :
  CallsR Tryd.prog 19 #[(sv Aa p0 ca), (iv p1)] w (fun v w' => v = (bv r) ∧ Keeps NoS w w') := by
 have hS : St NoS w w [rowR enc_Tile Aa ca p0] [] := St.init (ro_cons hR0 (ro_nil _ _))
 refine enter 10 Tryd.func19 rfl Tryd.ntmps19 rfl ?_
 unfold ref02_Great at hf
 refine WC.seq (WC.region ?_)
 refine seg 1 [] [0, 1] [(0, (sv Aa p0 ca)), (1, (iv p1))] [] (fun fb => by kernel_rfl) rfl trivial ?_
 refine WL.done rfl (WX.next (WC.seq (WC.region ?_)))
 refine seg 3 [] [6, 7] [(6, (iv (p0.length : Int))), (7, (iv p1))] [] (fun fb => by kernel_rfl) rfl trivial ?_
 obtain ⟨t3, ht4, hf⟩ := bind_some hf
 refine WL.call (some 8) 24 #[(iv (p0.length : Int)), (iv p1)] (fun fb => by kernel_rfl) (ref02_Power_calls _ (p0.length : Int) p1 t3 _ ht4) (fun v w5 hR6 => ?_)
 obtain ⟨rfl, hk_⟩ := hR6
 have hS7 := hS.keepN hk_
 refine ⟨trivial, ?_⟩
 refine seg 6 [] [4] [(4, (bv (decide (t3 > 5000))))] [] (fun fb => by kernel_rfl) rfl trivial ?_
 refine WL.done rfl (WX.next ?_)
 refine WC.ret ?_
 injection hf with hf
 subst hf
 exact WX.ret_ [] (bv (decide (t3 > 5000))) [] (fun fb => by kernel_rfl) trivial ⟨_, rfl, rfl, hS7.keep⟩
end Gp
