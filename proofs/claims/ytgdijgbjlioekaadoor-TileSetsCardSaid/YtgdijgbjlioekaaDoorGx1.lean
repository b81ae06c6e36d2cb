/- Walks: each function of the program computes its plain function. -/
import Derived.Test.YtgdijgbjlioekaaDoorGx0
set_option linter.unusedVariables false
set_option linter.unusedSimpArgs false
set_option maxHeartbeats 4000000
namespace Gp
open Go Gw Go.Proofs
theorem ref01_Index_calls (k : Nat) (p0 : List Tile) (p1 : Tile) (Aa : Option Addr) (ca : Nat) (r : Int) (w : World) (hR0 : RO NoS w (rowR enc_Tile Aa ca p0)) (hf : ref01_Index k p0 p1 = some r) :
  CallsR Tryd.prog 29 #[(sv Aa p0 ca), (.agg #[(iv p1.N), (iv p1.E), (iv p1.S), (iv p1.W)])] w (fun v w' => v = (iv r) ∧ Keeps NoS w w') := by
 have hS : St NoS w w [rowR enc_Tile Aa ca p0] [] := St.init (ro_cons hR0 (ro_nil _ _))
 refine enter 19 Tryd.func29 rfl Tryd.ntmps29 rfl ?_
 unfold ref01_Index at hf
 refine WC.seq (WC.region ?_)
 refine WL.new hS 3 [] (fun g => (pt g)) (.cells #[(iv p1.N), (iv p1.E), (iv p1.S), (iv p1.W)] 50 (0, 0)) [] (fun fb g => by kernel_rfl) trivial (fun g3 w4 hS5 => ?_)
 refine ⟨trivial, ?_⟩
 refine seg 2 [] [0, 3] [(0, (sv Aa p0 ca)), (3, (pt g3))] [] (fun fb => by kernel_rfl) rfl trivial ?_
 refine WL.done rfl (WX.next (WC.seq (WC.seq (WC.region ?_))))
 refine seg 1 [] [0, 3, 5] [(0, (sv Aa p0 ca)), (3, (pt g3)), (5, (iv 0))] [] (fun fb => by kernel_rfl) rfl trivial ?_
 refine WL.done rfl (WX.next ?_)
 obtain ⟨x7, hx8, hf⟩ := bind_some hf
 refine WC.cutN (T := Unit) (fun t => []) (fun t w1 => St NoS w w1 [rowR enc_Tile Aa ca p0] [] ∧ x7 = .inr t) (fun Kx7 => ?_) ?_
 ·
  refine WC.block ?_
  refine WC.loop (T := Int) (fun t => [(0, (sv Aa p0 ca)), (3, (pt g3)), (5, (iv t))]) (fun n t w1 => St NoS w w1 [rowR enc_Tile Aa ca p0] [blk g3 (.cells #[(iv p1.N), (iv p1.E), (iv p1.S), (iv p1.W)] 50 (0, 0))] ∧ ref01_Index.l0 n t p0 p1 = some x7) k 0 [0, 3, 5] rfl ⟨(hS5.subR [0]).sub [0] (by decide), hx8⟩ ?_
  rintro k9 x6 w10 ⟨hS11, hl12⟩
  cases k9 with
  | zero => rw [ref01_Index.l0] at hl12; cases hl12
  | succ k9 =>
   rw [ref01_Index.l0] at hl12
   refine WC.seq (WC.seq (WC.region ?_))
   refine seg 4 [] [0, 3, 5, 9] [(0, (sv Aa p0 ca)), (3, (pt g3)), (5, (iv x6)), (9, (bv (decide (x6 < (p0.length : Int)))))] [] (fun fb => by kernel_rfl) rfl trivial ?_
   refine WL.done rfl (WX.next ?_)
   rcases br_some hl12 with ⟨h13, hl12⟩ | ⟨h13, hl12⟩
   ·refine WC.condT2 (fun fb => by kernel_rfl) h13 ?_
    refine WC.skip (WX.next (WC.seq (WC.block (WC.seq ?_))))
    obtain ⟨h16, hl12⟩ := as_some hl12
    refine WC.regionD ([(3, ((adr Aa).add ((x6).toNat * 4)), (iv ((rdD p0 x6 z_Tile).N))), (3, (((adr Aa).add ((x6).toNat * 4)).add 1), (iv ((rdD p0 x6 z_Tile).E))), (3, (((adr Aa).add ((x6).toNat * 4)).add 2), (iv ((rdD p0 x6 z_Tile).S))), (3, (((adr Aa).add ((x6).toNat * 4)).add 3), (iv ((rdD p0 x6 z_Tile).W))), (4, ⟨g3, 0, none⟩, (iv p1.N)), (4, ⟨g3, 1, none⟩, (iv p1.E)), (4, ⟨g3, 2, none⟩, (iv p1.S)), (4, ⟨g3, 3, none⟩, (iv p1.W))], [0, 1, 2, 3, 4, 5], [[], [], [0, 1], [0, 1, 2], [], [0, 1, 2, 3, 4]]) [[0, 1, 2, 3, 4, 5]] (by kernel_rfl) (by kernel_rfl) (NoPanic.seq (NoPanic.block (NoPanic.seq (NoPanic.seq (NoPanic.block (NoPanic.seq (NoPanic.body))))))) ?_
    have hS15 := hS11.drew
    revert hS15
    generalize World.drew w10 = w14
    intro hS15
    refine ⟨⟨rowR.cell (hS15.rd 0).1 z_Tile h16.1 h16.2 0 rfl, rowR.cell (hS15.rd 0).1 z_Tile h16.1 h16.2 1 rfl, rowR.cell (hS15.rd 0).1 z_Tile h16.1 h16.2 2 rfl, rowR.cell (hS15.rd 0).1 z_Tile h16.1 h16.2 3 rfl, hS15.cell 0 rfl 0 rfl, hS15.cell 0 rfl 1 rfl, hS15.cell 0 rfl 2 rfl, hS15.cell 0 rfl 3 rfl, trivial⟩, forallC ?_ (forallN)⟩
    refine segF 6 [.v (iv ((rdD p0 x6 z_Tile).N)), .v (iv ((rdD p0 x6 z_Tile).E)), .v (iv ((rdD p0 x6 z_Tile).S)), .v (iv ((rdD p0 x6 z_Tile).W)), .v (iv p1.N), .v (iv p1.E), .v (iv p1.S), .v (iv p1.W)] [0, 3, 5, 17] [(0, (sv Aa p0 ca)), (3, (pt g3)), (5, (iv x6)), (17, (bv (((rdD p0 x6 z_Tile).N) == p1.N && (((rdD p0 x6 z_Tile).E) == p1.E && (((rdD p0 x6 z_Tile).S) == p1.S && (((rdD p0 x6 z_Tile).W) == p1.W))))))] [.idx Aa x6 p0.length] [0, 1, 2, 3, 4, 5, 6, 7] [(3, ((adr Aa).add ((x6).toNat * 4)), (iv ((rdD p0 x6 z_Tile).N))), (3, (((adr Aa).add ((x6).toNat * 4)).add 1), (iv ((rdD p0 x6 z_Tile).E))), (3, (((adr Aa).add ((x6).toNat * 4)).add 2), (iv ((rdD p0 x6 z_Tile).S))), (3, (((adr Aa).add ((x6).toNat * 4)).add 3), (iv ((rdD p0 x6 z_Tile).W))), (4, ⟨g3, 0, none⟩, (iv p1.N)), (4, ⟨g3, 1, none⟩, (iv p1.E)), (4, ⟨g3, 2, none⟩, (iv p1.S)), (4, ⟨g3, 3, none⟩, (iv p1.W))] (fun fb => by kernel_rfl) rfl ⟨rowR.adr (hS15.rd 0).1 h16.1 h16.2, trivial⟩ rfl ?_
    refine WL.done rfl (WX.next ?_)
    rcases br_some hl12 with ⟨h17, hl12⟩ | ⟨h17, hl12⟩
    ·refine WC.condT2 (fun fb => by kernel_rfl) h17 ?_
     refine WC.seq (WC.region ?_)
     refine seg 2 [] [4] [(4, (iv x6))] [] (fun fb => by kernel_rfl) rfl trivial ?_
     refine WL.done rfl (WX.next ?_)
     refine WC.ret ?_
     injection hl12 with hl12
     subst hl12
     injection hf with hf
     subst hf
     exact WX.blockR (WX.thenR (WX.thenR (WX.blockR (WX.thenR (WX.ret_ [] (iv x6) [] (fun fb => by kernel_rfl) trivial ⟨_, rfl, rfl, hS15.keep⟩)))))
    refine WC.condF2 (fun fb => by kernel_rfl) h17 ?_
    refine WC.skip ?_
    refine WX.blockN (WX.next ?_)
    refine WC.region ?_
    refine seg 3 [] [0, 3, 5] [(0, (sv Aa p0 ca)), (3, (pt g3)), (5, (iv (w64 (x6 + 1))))] [] (fun fb => by kernel_rfl) rfl trivial ?_
    refine WL.done rfl ?_
    exact WX.again k9 (Nat.lt_succ_self _) (w64 (x6 + 1)) [0, 3, 5] rfl ⟨(hS15.subR [0]).sub [0] (by decide), hl12⟩
   refine WC.condF2 (fun fb => by kernel_rfl) h13 ?_
   refine WC.exit ?_
   injection hl12 with hl12
   exact WX.thenX (WX.thenX (WX.blockHere (WX.to Kx7 () [] rfl ⟨(hS11.subR [0]).sub [] (by decide), hl12.symm⟩)))
 rintro y21 w18 ⟨hS19, hq20⟩
 subst hq20
 have hf := sum_inr hf
 refine WX.next (WC.seq (WC.region ?_))
 refine seg 1 [] [4] [(4, (iv (-1)))] [] (fun fb => by kernel_rfl) rfl trivial ?_
 refine WL.done rfl (WX.next ?_)
 refine WC.ret ?_
 injection hf with hf
 subst hf
 exact WX.ret_ [] (iv (-1)) [] (fun fb => by kernel_rfl) trivial ⟨_, rfl, rfl, hS19.keep⟩
theorem ref01_Valid_calls (k : Nat) (p0 : List Tile) (Aa : Option Addr) (ca : Nat) (r : Bool) (w : World) (hR0 : RO NoS w (rowR enc_Tile Aa ca p0)) (hf : ref01_Valid k p0 = some r) :
  CallsR Tryd.prog 15 #[(sv Aa p0 ca)] w (fun v w' => v = (bv r) ∧ Keeps NoS w w') := by
 have hS : St NoS w w [rowR enc_Tile Aa ca p0] [] := St.init (ro_cons hR0 (ro_nil _ _))
 refine enter 48 Tryd.func15 rfl Tryd.ntmps15 rfl ?_
 unfold ref01_Valid at hf
 refine WC.seq (WC.region ?_)
 refine seg 1 [] [0] [(0, (sv Aa p0 ca))] [] (fun fb => by kernel_rfl) rfl trivial ?_
 refine WL.done rfl (WX.next (WC.seq (WC.seq (WC.region ?_))))
 refine seg 3 [] [0, 7] [(0, (sv Aa p0 ca)), (7, (bv (decide ((p0.length : Int) > 1000))))] [] (fun fb => by kernel_rfl) rfl trivial ?_
 refine WL.done rfl (WX.next ?_)
 rcases br_some hf with ⟨h3, hf⟩ | ⟨h3, hf⟩
 ·refine WC.condT2 (fun fb => by kernel_rfl) h3 ?_
  refine WC.seq (WC.region ?_)
  refine seg 1 [] [2] [(2, (bv false))] [] (fun fb => by kernel_rfl) rfl trivial ?_
  refine WL.done rfl (WX.next ?_)
  refine WC.ret ?_
  injection hf with hf
  subst hf
  exact WX.thenR (WX.ret_ [] (bv false) [] (fun fb => by kernel_rfl) trivial ⟨_, rfl, rfl, hS.keep⟩)
 refine WC.condF2 (fun fb => by kernel_rfl) h3 ?_
 refine WC.skip (WX.next (WC.seq (WC.seq (WC.region ?_))))
 refine seg 1 [] [0, 3] [(0, (sv Aa p0 ca)), (3, (iv 0))] [] (fun fb => by kernel_rfl) rfl trivial ?_
 refine WL.done rfl (WX.next ?_)
 obtain ⟨x5, hx6, hf⟩ := bind_some hf
 refine WC.cutN (T := Unit) (fun t => []) (fun t w1 => St NoS w w1 [rowR enc_Tile Aa ca p0] [] ∧ x5 = .inr t) (fun Kx5 => ?_) ?_
 ·
  refine WC.block ?_
  refine WC.loop (T := Int) (fun t => [(0, (sv Aa p0 ca)), (3, (iv t))]) (fun n t w1 => St NoS w w1 [rowR enc_Tile Aa ca p0] [] ∧ ref01_Valid.l0 n t p0 = some x5) k 0 [0, 3] rfl ⟨(hS.subR [0]).sub [] (by decide), hx6⟩ ?_
  rintro k7 x4 w8 ⟨hS9, hl10⟩
  cases k7 with
  | zero => rw [ref01_Valid.l0] at hl10; cases hl10
  | succ k7 =>
   rw [ref01_Valid.l0] at hl10
   refine WC.seq (WC.seq (WC.region ?_))
   refine seg 4 [] [0, 3, 11] [(0, (sv Aa p0 ca)), (3, (iv x4)), (11, (bv (decide (x4 < (p0.length : Int)))))] [] (fun fb => by kernel_rfl) rfl trivial ?_
   refine WL.done rfl (WX.next ?_)
   rcases br_some hl10 with ⟨h11, hl10⟩ | ⟨h11, hl10⟩
   ·refine WC.condT2 (fun fb => by kernel_rfl) h11 ?_
    refine WC.skip (WX.next (WC.seq (WC.block (WC.seq (WC.region ?_)))))
    refine seg 2 [] [0, 3, 14, 15] [(0, (sv Aa p0 ca)), (3, (iv x4)), (14, (sv Aa p0 ca)), (15, (iv x4))] [] (fun fb => by kernel_rfl) rfl trivial ?_
    obtain ⟨h12, hl10⟩ := as_some hl10
    refine seg 4 [.v (iv ((rdD p0 x4 z_Tile).N)), .v (iv ((rdD p0 x4 z_Tile).E)), .v (iv ((rdD p0 x4 z_Tile).S)), .v (iv ((rdD p0 x4 z_Tile).W))] [0, 3, 17] [(0, (sv Aa p0 ca)), (3, (iv x4)), (17, (.agg #[(iv ((rdD p0 x4 z_Tile).N)), (iv ((rdD p0 x4 z_Tile).E)), (iv ((rdD p0 x4 z_Tile).S)), (iv ((rdD p0 x4 z_Tile).W))]))] [.idx Aa x4 p0.length, .cell ((adr Aa).add ((x4).toNat * 4)) (iv ((rdD p0 x4 z_Tile).N)), .cell (((adr Aa).add ((x4).toNat * 4)).add 1) (iv ((rdD p0 x4 z_Tile).E)), .cell (((adr Aa).add ((x4).toNat * 4)).add 2) (iv ((rdD p0 x4 z_Tile).S)), .cell (((adr Aa).add ((x4).toNat * 4)).add 3) (iv ((rdD p0 x4 z_Tile).W))] (fun fb => by kernel_rfl) rfl ⟨rowR.adr (hS9.rd 0).1 h12.1 h12.2, rowR.cell (hS9.rd 0).1 z_Tile h12.1 h12.2 0 rfl, rowR.cell (hS9.rd 0).1 z_Tile h12.1 h12.2 1 rfl, rowR.cell (hS9.rd 0).1 z_Tile h12.1 h12.2 2 rfl, rowR.cell (hS9.rd 0).1 z_Tile h12.1 h12.2 3 rfl, trivial⟩ ?_
    refine WL.new hS9 4 [] (fun g => (pt g)) (.cells #[(iv 0), (iv 0), (iv 0), (iv 0)] 50 (0, 0)) [] (fun fb g => by kernel_rfl) trivial (fun g13 w14 hS16 => ?_)
    refine ⟨trivial, ?_⟩
    refine WL.store hS16 0 rfl [(0, (iv ((rdD p0 x4 z_Tile).N))), (1, (iv ((rdD p0 x4 z_Tile).E))), (2, (iv ((rdD p0 x4 z_Tile).S))), (3, (iv ((rdD p0 x4 z_Tile).W)))] #[(iv ((rdD p0 x4 z_Tile).N)), (iv ((rdD p0 x4 z_Tile).E)), (iv ((rdD p0 x4 z_Tile).S)), (iv ((rdD p0 x4 z_Tile).W))] (fun fb => by kernel_rfl) (by kernel_rfl) rfl [] (by decide) (by decide) (fun w17 hS18 => ?_)
    refine ⟨trivial, ?_⟩
    refine WL.done rfl (WX.next (WC.seq ?_))
    refine WC.regionD ([(1, ⟨g13, 0, none⟩, (iv ((rdD p0 x4 z_Tile).N))), (6, ⟨g13, 1, none⟩, (iv ((rdD p0 x4 z_Tile).E))), (12, ⟨g13, 2, none⟩, (iv ((rdD p0 x4 z_Tile).S))), (18, ⟨g13, 3, none⟩, (iv ((rdD p0 x4 z_Tile).W))), (26, ⟨g13, 0, none⟩, (iv ((rdD p0 x4 z_Tile).N))), (26, ⟨g13, 1, none⟩, (iv ((rdD p0 x4 z_Tile).E))), (26, ⟨g13, 2, none⟩, (iv ((rdD p0 x4 z_Tile).S))), (26, ⟨g13, 3, none⟩, (iv ((rdD p0 x4 z_Tile).W)))], [0, 1, 3, 4, 5, 6, 8, 9, 10, 11, 12, 14, 15, 16, 17, 18, 20, 21, 22, 23, 24, 25, 26, 28, 29], [[], [0], [0, 1], [0, 1, 2], [0, 1, 2, 3], [0, 1, 2, 3, 4], [0, 1, 2, 3, 4, 5], [0, 1, 2, 3, 4, 5, 6], [0, 1, 2, 3, 4, 5, 6, 7], [0, 1, 2, 3, 4, 5, 6, 7, 8], [0, 1, 2, 3, 4, 5, 6, 7, 8, 9], [0, 1, 2, 3, 4, 5, 6, 7, 8, 9, 10], [0, 1, 2, 3, 4, 5, 6, 7, 8, 9, 10, 11], [0, 1, 2, 3, 4, 5, 6, 7, 8, 9, 10, 11, 12], [0, 1, 2, 3, 4, 5, 6, 7, 8, 9, 10, 11, 12, 13], [0, 1, 2, 3, 4, 5, 6, 7, 8, 9, 10, 11, 12, 13, 14], [0, 1, 2, 3, 4, 5, 6, 7, 8, 9, 10, 11, 12, 13, 14, 15], [0, 1, 2, 3, 4, 5, 6, 7, 8, 9, 10, 11, 12, 13, 14, 15, 16], [0, 1, 2, 3, 4, 5, 6, 7, 8, 9, 10, 11, 12, 13, 14, 15, 16, 17], [0, 1, 2, 3, 4, 5, 6, 7, 8, 9, 10, 11, 12, 13, 14, 15, 16, 17, 18], [0, 1, 2, 3, 4, 5, 6, 7, 8, 9, 10, 11, 12, 13, 14, 15, 16, 17, 18, 19], [0, 1, 2, 3, 4, 5, 6, 7, 8, 9, 10, 11, 12, 13, 14, 15, 16, 17, 18, 19, 20], [0, 1, 2, 3, 4, 5, 6, 7, 8, 9, 10, 11, 12, 13, 14, 15, 16, 17, 18, 19, 20, 21], [0, 1, 2, 3, 4, 5, 6, 7, 8, 9, 10, 11, 12, 13, 14, 15, 16, 17, 18, 19, 20, 21, 22], [0, 1, 2, 3, 4, 5, 6, 7, 8, 9, 10, 11, 12, 13, 14, 15, 16, 17, 18, 19, 20, 21, 22], [0, 1, 2, 3, 4, 5, 6, 7, 8, 9, 10, 11, 12, 13, 14, 15, 16, 17, 18, 19, 20, 21, 22, 23, 24], [0, 1, 2, 3, 4, 5, 6, 7, 8, 9, 10, 11, 12, 13, 14, 15, 16, 17, 18, 19, 20, 21, 22], [0, 1, 2, 3, 4, 5, 6, 7, 8, 9, 10, 11, 12, 13, 14, 15, 16, 17, 18, 19, 20, 21, 22, 23, 24, 25, 26], [0, 1, 2, 3, 4, 5, 6, 7, 8, 9, 10, 11, 12, 13, 14, 15, 16, 17, 18, 19, 20, 21, 22, 23, 24, 25, 26, 27], [0, 1, 2, 3, 4, 5, 6, 7, 8, 9, 10, 11, 12, 13, 14, 15, 16, 17, 18, 19, 20, 21, 22, 23, 24, 25, 26, 27, 28]]) [[0, 1, 2, 3, 4, 5, 6, 7, 8, 9, 10, 11, 12, 13, 14, 15, 16, 17, 18, 19, 20, 21, 22, 23, 24, 25, 26, 27, 28, 29]] (by kernel_rfl) (by kernel_rfl) (NoPanic.seq (NoPanic.block (NoPanic.seq (NoPanic.seq (NoPanic.block (NoPanic.seq (NoPanic.body))))))) ?_
    have hS20 := hS18.drew
    revert hS20
    generalize World.drew w17 = w19
    intro hS20
    refine ⟨⟨hS20.cell 0 rfl 0 rfl, hS20.cell 0 rfl 1 rfl, hS20.cell 0 rfl 2 rfl, hS20.cell 0 rfl 3 rfl, hS20.cell 0 rfl 0 rfl, hS20.cell 0 rfl 1 rfl, hS20.cell 0 rfl 2 rfl, hS20.cell 0 rfl 3 rfl, trivial⟩, forallC ?_ (forallN)⟩
    refine segF 2 [.v (iv ((rdD p0 x4 z_Tile).N))] [0, 3, 4, 19] [(0, (sv Aa p0 ca)), (3, (iv x4)), (4, (pt g13)), (19, (iv ((rdD p0 x4 z_Tile).N)))] [] [0] [(1, ⟨g13, 0, none⟩, (iv ((rdD p0 x4 z_Tile).N)))] (fun fb => by kernel_rfl) rfl trivial rfl ?_
    obtain ⟨t21, ht22, hl10⟩ := bind_some hl10
    refine WL.call (some 20) 28 #[(iv ((rdD p0 x4 z_Tile).N))] (fun fb => by kernel_rfl) (ref01_colour_calls ((rdD p0 x4 z_Tile).N) t21 _ ht22) (fun v w23 hR24 => ?_)
    obtain ⟨rfl, hk_⟩ := hR24
    have hS25 := hS20.keepN hk_
    refine ⟨⟨hS25.cell 0 rfl 1 rfl, hS25.cell 0 rfl 2 rfl, hS25.cell 0 rfl 3 rfl, hS25.cell 0 rfl 0 rfl, hS25.cell 0 rfl 1 rfl, hS25.cell 0 rfl 2 rfl, hS25.cell 0 rfl 3 rfl, trivial⟩, ?_⟩
    refine seg 5 [] [0, 3, 4, 22] [(0, (sv Aa p0 ca)), (3, (iv x4)), (4, (pt g13)), (22, (bv (!t21)))] [] (fun fb => by kernel_rfl) rfl trivial ?_
    obtain ⟨x26, hx27, hl10⟩ := bind_some hl10
    refine WL.cutW (T := Bool) 10 (fun t => [(0, (sv Aa p0 ca)), (3, (iv x4)), (4, (pt g13)), (27, (bv t))]) (fun t w1 => (St NoS w w1 [rowR enc_Tile Aa ca p0] [blk g13 (.cells #[(iv ((rdD p0 x4 z_Tile).N)), (iv ((rdD p0 x4 z_Tile).E)), (iv ((rdD p0 x4 z_Tile).S)), (iv ((rdD p0 x4 z_Tile).W))] 50 (0, 0))] ∧ x26 = t) ∧ CellsOK [] w1) (fun K => ?_) ?_
    ·
     rcases br_some hx27 with ⟨h28, hx27⟩ | ⟨h28, hx27⟩
     ·
      refine WL.setB 22 h28 rfl ?_
      refine seg 10 [] [0, 3, 4, 27] [(0, (sv Aa p0 ca)), (3, (iv x4)), (4, (pt g13)), (27, (bv true))] [] (fun fb => by kernel_rfl) rfl trivial ?_
      injection hx27 with hx27
      exact WL.to K true [0, 3, 4, 27] rfl ⟨⟨(hS25.subR [0]).sub [0] (by decide), hx27.symm⟩, trivial⟩
     refine WL.setB 22 h28 rfl ?_
     refine segF 7 [.v (iv ((rdD p0 x4 z_Tile).E))] [0, 3, 4, 22, 24] [(0, (sv Aa p0 ca)), (3, (iv x4)), (4, (pt g13)), (22, (bv false)), (24, (iv ((rdD p0 x4 z_Tile).E)))] [] [1] [(6, ⟨g13, 1, none⟩, (iv ((rdD p0 x4 z_Tile).E)))] (fun fb => by kernel_rfl) rfl trivial rfl ?_
     obtain ⟨t29, ht30, hx27⟩ := bind_some hx27
     refine WL.call (some 25) 28 #[(iv ((rdD p0 x4 z_Tile).E))] (fun fb => by kernel_rfl) (ref01_colour_calls ((rdD p0 x4 z_Tile).E) t29 _ ht30) (fun v w31 hR32 => ?_)
     obtain ⟨rfl, hk_⟩ := hR32
     have hS33 := hS25.keepN hk_
     refine ⟨⟨hS33.cell 0 rfl 2 rfl, hS33.cell 0 rfl 3 rfl, hS33.cell 0 rfl 0 rfl, hS33.cell 0 rfl 1 rfl, hS33.cell 0 rfl 2 rfl, hS33.cell 0 rfl 3 rfl, trivial⟩, ?_⟩
     refine seg 10 [] [0, 3, 4, 27] [(0, (sv Aa p0 ca)), (3, (iv x4)), (4, (pt g13)), (27, (bv (!t29)))] [] (fun fb => by kernel_rfl) rfl trivial ?_
     injection hx27 with hx27
     exact WL.to K (!t29) [0, 3, 4, 27] rfl ⟨⟨(hS33.subR [0]).sub [0] (by decide), hx27.symm⟩, trivial⟩
    rintro y34 w36 ⟨⟨hS37, hq35⟩, hF38⟩
    subst hq35
    refine seg 11 [] [0, 3, 4, 28] [(0, (sv Aa p0 ca)), (3, (iv x4)), (4, (pt g13)), (28, (bv x26))] [] (fun fb => by kernel_rfl) rfl trivial ?_
    obtain ⟨x39, hx40, hl10⟩ := bind_some hl10
    refine WL.cutW (T := Bool) 16 (fun t => [(0, (sv Aa p0 ca)), (3, (iv x4)), (4, (pt g13)), (33, (bv t))]) (fun t w1 => (St NoS w w1 [rowR enc_Tile Aa ca p0] [blk g13 (.cells #[(iv ((rdD p0 x4 z_Tile).N)), (iv ((rdD p0 x4 z_Tile).E)), (iv ((rdD p0 x4 z_Tile).S)), (iv ((rdD p0 x4 z_Tile).W))] 50 (0, 0))] ∧ x39 = t) ∧ CellsOK [] w1) (fun K => ?_) ?_
    ·
     rcases br_some hx40 with ⟨h41, hx40⟩ | ⟨h41, hx40⟩
     ·
      refine WL.setB 28 h41 rfl ?_
      refine seg 16 [] [0, 3, 4, 33] [(0, (sv Aa p0 ca)), (3, (iv x4)), (4, (pt g13)), (33, (bv true))] [] (fun fb => by kernel_rfl) rfl trivial ?_
      injection hx40 with hx40
      exact WL.to K true [0, 3, 4, 33] rfl ⟨⟨(hS37.subR [0]).sub [0] (by decide), hx40.symm⟩, trivial⟩
     refine WL.setB 28 h41 rfl ?_
     refine segF 13 [.v (iv ((rdD p0 x4 z_Tile).S))] [0, 3, 4, 28, 30] [(0, (sv Aa p0 ca)), (3, (iv x4)), (4, (pt g13)), (28, (bv false)), (30, (iv ((rdD p0 x4 z_Tile).S)))] [] [2] [(12, ⟨g13, 2, none⟩, (iv ((rdD p0 x4 z_Tile).S)))] (fun fb => by kernel_rfl) rfl trivial rfl ?_
     obtain ⟨t42, ht43, hx40⟩ := bind_some hx40
     refine WL.call (some 31) 28 #[(iv ((rdD p0 x4 z_Tile).S))] (fun fb => by kernel_rfl) (ref01_colour_calls ((rdD p0 x4 z_Tile).S) t42 _ ht43) (fun v w44 hR45 => ?_)
     obtain ⟨rfl, hk_⟩ := hR45
     have hS46 := hS37.keepN hk_
     refine ⟨⟨hS46.cell 0 rfl 3 rfl, hS46.cell 0 rfl 0 rfl, hS46.cell 0 rfl 1 rfl, hS46.cell 0 rfl 2 rfl, hS46.cell 0 rfl 3 rfl, trivial⟩, ?_⟩
     refine seg 16 [] [0, 3, 4, 33] [(0, (sv Aa p0 ca)), (3, (iv x4)), (4, (pt g13)), (33, (bv (!t42)))] [] (fun fb => by kernel_rfl) rfl trivial ?_
     injection hx40 with hx40
     exact WL.to K (!t42) [0, 3, 4, 33] rfl ⟨⟨(hS46.subR [0]).sub [0] (by decide), hx40.symm⟩, trivial⟩
    rintro y47 w49 ⟨⟨hS50, hq48⟩, hF51⟩
    subst hq48
    refine seg 17 [] [0, 3, 4, 34] [(0, (sv Aa p0 ca)), (3, (iv x4)), (4, (pt g13)), (34, (bv x39))] [] (fun fb => by kernel_rfl) rfl trivial ?_
    obtain ⟨x52, hx53, hl10⟩ := bind_some hl10
    refine WL.cutW (T := Bool) 22 (fun t => [(0, (sv Aa p0 ca)), (3, (iv x4)), (4, (pt g13)), (39, (bv t))]) (fun t w1 => (St NoS w w1 [rowR enc_Tile Aa ca p0] [blk g13 (.cells #[(iv ((rdD p0 x4 z_Tile).N)), (iv ((rdD p0 x4 z_Tile).E)), (iv ((rdD p0 x4 z_Tile).S)), (iv ((rdD p0 x4 z_Tile).W))] 50 (0, 0))] ∧ x52 = t) ∧ CellsOK [] w1) (fun K => ?_) ?_
    ·
     rcases br_some hx53 with ⟨h54, hx53⟩ | ⟨h54, hx53⟩
     ·
      refine WL.setB 34 h54 rfl ?_
      refine seg 22 [] [0, 3, 4, 39] [(0, (sv Aa p0 ca)), (3, (iv x4)), (4, (pt g13)), (39, (bv true))] [] (fun fb => by kernel_rfl) rfl trivial ?_
      injection hx53 with hx53
      exact WL.to K true [0, 3, 4, 39] rfl ⟨⟨(hS50.subR [0]).sub [0] (by decide), hx53.symm⟩, trivial⟩
     refine WL.setB 34 h54 rfl ?_
     refine segF 19 [.v (iv ((rdD p0 x4 z_Tile).W))] [0, 3, 4, 34, 36] [(0, (sv Aa p0 ca)), (3, (iv x4)), (4, (pt g13)), (34, (bv false)), (36, (iv ((rdD p0 x4 z_Tile).W)))] [] [3] [(18, ⟨g13, 3, none⟩, (iv ((rdD p0 x4 z_Tile).W)))] (fun fb => by kernel_rfl) rfl trivial rfl ?_
     obtain ⟨t55, ht56, hx53⟩ := bind_some hx53
     refine WL.call (some 37) 28 #[(iv ((rdD p0 x4 z_Tile).W))] (fun fb => by kernel_rfl) (ref01_colour_calls ((rdD p0 x4 z_Tile).W) t55 _ ht56) (fun v w57 hR58 => ?_)
     obtain ⟨rfl, hk_⟩ := hR58
     have hS59 := hS50.keepN hk_
     refine ⟨⟨hS59.cell 0 rfl 0 rfl, hS59.cell 0 rfl 1 rfl, hS59.cell 0 rfl 2 rfl, hS59.cell 0 rfl 3 rfl, trivial⟩, ?_⟩
     refine seg 22 [] [0, 3, 4, 39] [(0, (sv Aa p0 ca)), (3, (iv x4)), (4, (pt g13)), (39, (bv (!t55)))] [] (fun fb => by kernel_rfl) rfl trivial ?_
     injection hx53 with hx53
     exact WL.to K (!t55) [0, 3, 4, 39] rfl ⟨⟨(hS59.subR [0]).sub [0] (by decide), hx53.symm⟩, trivial⟩
    rintro y60 w62 ⟨⟨hS63, hq61⟩, hF65⟩
    subst hq61
    refine seg 23 [] [0, 3, 4, 40] [(0, (sv Aa p0 ca)), (3, (iv x4)), (4, (pt g13)), (40, (bv x52))] [] (fun fb => by kernel_rfl) rfl trivial ?_
    obtain ⟨x66, hx67, hl10⟩ := bind_some hl10
    refine WL.cutW (T := Bool) 30 (fun t => [(0, (sv Aa p0 ca)), (3, (iv x4)), (47, (bv t))]) (fun t w1 => (St NoS w w1 [rowR enc_Tile Aa ca p0] [] ∧ x66 = t) ∧ CellsOK [] w1) (fun K => ?_) ?_
    ·
     rcases br_some hx67 with ⟨h68, hx67⟩ | ⟨h68, hx67⟩
     ·
      refine WL.setB 40 h68 rfl ?_
      refine seg 30 [] [0, 3, 47] [(0, (sv Aa p0 ca)), (3, (iv x4)), (47, (bv true))] [] (fun fb => by kernel_rfl) rfl trivial ?_
      injection hx67 with hx67
      exact WL.to K true [0, 3, 47] rfl ⟨⟨(hS63.subR [0]).sub [] (by decide), hx67.symm⟩, trivial⟩
     refine WL.setB 40 h68 rfl ?_
     refine seg 25 [] [0, 3, 4, 40, 41, 42] [(0, (sv Aa p0 ca)), (3, (iv x4)), (4, (pt g13)), (40, (bv false)), (41, (sv Aa p0 ca)), (42, (iv x4))] [] (fun fb => by kernel_rfl) rfl trivial ?_
     obtain ⟨h69, hx67⟩ := as_some hx67
     refine seg 26 [] [0, 3, 4, 40, 43] [(0, (sv Aa p0 ca)), (3, (iv x4)), (4, (pt g13)), (40, (bv false)), (43, (.slice (subA Aa ca (0 : Int).toNat 4) (x4.toNat - (0 : Int).toNat) (ca - (0 : Int).toNat)))] [.idx (some ⟨0, 0, none⟩) (0 : Int) (x4.toNat + 1), .idx (some ⟨0, 0, none⟩) x4 (ca + 1)] (fun fb => by kernel_rfl) rfl ⟨cut1 h69.1 h69.2.1, cut2 h69.1 h69.2.1 h69.2.2 (hS63.rd 0).1.2, trivial⟩ ?_
     refine WL.reE [0, 3, 4, 40, 43] [(0, (.slice Aa p0.length ca)), (3, (iv x4)), (4, (pt g13)), (40, (.bool false)), (43, (.slice (subA Aa ca (0 : Int).toNat 4) (x4.toNat - (0 : Int).toNat) (ca - (0 : Int).toNat)))] [(0, (.slice Aa p0.length ca)), (3, (iv x4)), (4, (pt g13)), (40, (.bool false)), (43, (.slice (subA Aa ca (0 : Int).toNat 4) (cut p0 (0 : Int) x4).length (ca - (0 : Int).toNat)))] rfl (by rw [cut_length h69.1 h69.2.1 h69.2.2]) ?_
     have hS70 := hS63.cutR 0 rfl h69.1 h69.2.1 h69.2.2
     refine segF 27 [.v (iv ((rdD p0 x4 z_Tile).N)), .v (iv ((rdD p0 x4 z_Tile).E)), .v (iv ((rdD p0 x4 z_Tile).S)), .v (iv ((rdD p0 x4 z_Tile).W))] [0, 3, 40, 43, 44] [(0, (sv Aa p0 ca)), (3, (iv x4)), (40, (bv false)), (43, (sv (subA Aa ca (0 : Int).toNat 4) (cut p0 (0 : Int) x4) (ca - (0 : Int).toNat))), (44, (.agg #[(iv ((rdD p0 x4 z_Tile).N)), (iv ((rdD p0 x4 z_Tile).E)), (iv ((rdD p0 x4 z_Tile).S)), (iv ((rdD p0 x4 z_Tile).W))]))] [] [4, 5, 6, 7] [(26, ⟨g13, 0, none⟩, (iv ((rdD p0 x4 z_Tile).N))), (26, ⟨g13, 1, none⟩, (iv ((rdD p0 x4 z_Tile).E))), (26, ⟨g13, 2, none⟩, (iv ((rdD p0 x4 z_Tile).S))), (26, ⟨g13, 3, none⟩, (iv ((rdD p0 x4 z_Tile).W)))] (fun fb => by kernel_rfl) rfl trivial rfl ?_
     obtain ⟨t71, ht72, hx67⟩ := bind_some hx67
     refine WL.call (some 45) 29 #[(sv (subA Aa ca (0 : Int).toNat 4) (cut p0 (0 : Int) x4) (ca - (0 : Int).toNat)), (.agg #[(iv ((rdD p0 x4 z_Tile).N)), (iv ((rdD p0 x4 z_Tile).E)), (iv ((rdD p0 x4 z_Tile).S)), (iv ((rdD p0 x4 z_Tile).W))])] (fun fb => by kernel_rfl) (ref01_Index_calls _ (cut p0 (0 : Int) x4) (rdD p0 x4 z_Tile) (subA Aa ca (0 : Int).toNat 4) (ca - (0 : Int).toNat) t71 _ (hS70.rd 0) ht72) (fun v w73 hR74 => ?_)
     obtain ⟨rfl, hk_⟩ := hR74
     have hS75 := hS70.keepN hk_
     refine ⟨trivial, ?_⟩
     refine seg 30 [] [0, 3, 47] [(0, (sv Aa p0 ca)), (3, (iv x4)), (47, (bv (decide (t71 ≥ 0))))] [] (fun fb => by kernel_rfl) rfl trivial ?_
     injection hx67 with hx67
     exact WL.to K (decide (t71 ≥ 0)) [0, 3, 47] rfl ⟨⟨(hS75.subR [1]).sub [] (by decide), hx67.symm⟩, trivial⟩
    rintro y76 w78 ⟨⟨hS79, hq77⟩, hF80⟩
    subst hq77
    refine WL.done rfl (WX.next ?_)
    rcases br_some hl10 with ⟨h81, hl10⟩ | ⟨h81, hl10⟩
    ·refine WC.condT2 (fun fb => by kernel_rfl) h81 ?_
     refine WC.seq (WC.region ?_)
     refine seg 1 [] [2] [(2, (bv false))] [] (fun fb => by kernel_rfl) rfl trivial ?_
     refine WL.done rfl (WX.next ?_)
     refine WC.ret ?_
     injection hl10 with hl10
     subst hl10
     injection hf with hf
     subst hf
     exact WX.blockR (WX.thenR (WX.thenR (WX.blockR (WX.thenR (WX.ret_ [] (bv false) [] (fun fb => by kernel_rfl) trivial ⟨_, rfl, rfl, hS79.keep⟩)))))
    refine WC.condF2 (fun fb => by kernel_rfl) h81 ?_
    refine WC.skip ?_
    refine WX.blockN (WX.next ?_)
    refine WC.region ?_
    refine seg 3 [] [0, 3] [(0, (sv Aa p0 ca)), (3, (iv (w64 (x4 + 1))))] [] (fun fb => by kernel_rfl) rfl trivial ?_
    refine WL.done rfl ?_
    exact WX.again k7 (Nat.lt_succ_self _) (w64 (x4 + 1)) [0, 3] rfl ⟨(hS79.subR [0]).sub [] (by decide), hl10⟩
   refine WC.condF2 (fun fb => by kernel_rfl) h11 ?_
   refine WC.exit ?_
   injection hl10 with hl10
   exact WX.thenX (WX.thenX (WX.blockHere (WX.to Kx5 () [] rfl ⟨(hS9.subR [0]).sub [] (by decide), hl10.symm⟩)))
 rintro y85 w82 ⟨hS83, hq84⟩
 subst hq84
 have hf := sum_inr hf
 refine WX.next (WC.seq (WC.region ?_))
 refine seg 1 [] [2] [(2, (bv true))] [] (fun fb => by kernel_rfl) rfl trivial ?_
 refine WL.done rfl (WX.next ?_)
 refine WC.ret ?_
 injection hf with hf
 subst hf
 exact WX.ret_ [] (bv true) [] (fun fb => by kernel_rfl) trivial ⟨_, rfl, rfl, hS83.keep⟩
theorem law01_none_calls (p0 : List Tile) (p1 : Int) (Aa : Option Addr) (ca : Nat) (r : Bool) (w : World) (hR0 : RO NoS w (rowR enc_Tile Aa ca p0)) (hf : law01_none p0 p1 = some r) :
  CallsR Tryd.prog 16 #[(sv Aa p0 ca), (iv p1)] w (fun v w' => v = (bv r) ∧ Keeps NoS w w') := by
 have hS : St NoS w w [rowR enc_Tile Aa ca p0] [] := St.init (ro_cons hR0 (ro_nil _ _))
 refine enter 12 Tryd.func16 rfl Tryd.ntmps16 rfl ?_
 unfold law01_none at hf
 refine WC.seq (WC.region ?_)
 refine seg 1 [] [0, 1] [(0, (sv Aa p0 ca)), (1, (iv p1))] [] (fun fb => by kernel_rfl) rfl trivial ?_
 refine WL.done rfl (WX.next (WC.seq (WC.region ?_)))
 refine seg 3 [] [0, 7] [(0, (sv Aa p0 ca)), (7, (bv (p1 == 1)))] [] (fun fb => by kernel_rfl) rfl trivial ?_
 refine WL.cutV (T := Bool) 7 (fun t => [(11, (bv t))]) (fun t => ((p1 == 1) && ((p0.length : Int) == 0)) = t) (fun K => ?_) ?_
 ·
  rcases Bool.eq_false_or_eq_true (p1 == 1) with h2 | h2
  ·
   refine WL.setB 7 h2 rfl ?_
   refine seg 7 [] [11] [(11, (bv ((p0.length : Int) == 0)))] [] (fun fb => by kernel_rfl) rfl trivial ?_
   exact WL.toV K ((p0.length : Int) == 0) [11] rfl (by first | (rw [h2]; done) | (rw [h2]; rfl))
  refine WL.setB 7 h2 rfl ?_
  refine seg 7 [] [11] [(11, (bv false))] [] (fun fb => by kernel_rfl) rfl trivial ?_
  exact WL.toV K false [11] rfl (by first | (rw [h2]; done) | (rw [h2]; rfl))
 rintro b3 rfl
 refine seg 8 [] [4] [(4, (bv ((p1 == 1) && ((p0.length : Int) == 0))))] [] (fun fb => by kernel_rfl) rfl trivial ?_
 refine WL.done rfl (WX.next ?_)
 refine WC.ret ?_
 injection hf with hf
 subst hf
 exact WX.ret_ [] (bv ((p1 == 1) && ((p0.length : Int) == 0))) [] (fun fb => by kernel_rfl) trivial ⟨_, rfl, rfl, hS.keep⟩
theorem ref01_digits_calls : ∀ (k : Nat) (p0 : Int) (r : ByteArray) (w : World) (hf : ref01_digits k p0 = some r),
  CallsR Tryd.prog 30 #[(iv p0)] w (fun v w' => v = (.string r) ∧ Keeps NoS w w') := by
 intro k
 induction k with
 | zero => intro p0 r w hf; rw [ref01_digits] at hf; cases hf
 | succ k ih_ =>
 intro p0 r w hf
 have hS : St NoS w w [] [] := St.init (ro_nil _ _)
 rw [ref01_digits] at hf
 generalize ref01_digits k = rc_ at hf ih_
 refine enter 18 Tryd.func30 rfl Tryd.ntmps30 rfl ?_
 refine WC.seq (WC.region ?_)
 refine seg 1 [] [0] [(0, (iv p0))] [] (fun fb => by kernel_rfl) rfl trivial ?_
 refine WL.done rfl (WX.next (WC.seq (WC.region ?_)))
 refine seg 4 [] [0, 7] [(0, (iv p0)), (7, (.int .u8 (IntKind.wrap .u8 (w64 (48 + (Int.tmod p0 10))))))] [.ne 10] (fun fb => by kernel_rfl) rfl ⟨(by decide), trivial⟩ ?_
 refine WL.new hS 8 [] (fun g => (.slice (some ⟨g, 0, none⟩) 1 1)) (.cells #[(.int .u8 (IntKind.wrap .u8 (w64 (48 + (Int.tmod p0 10)))))] 5 (0, 0)) [] (fun fb g => by kernel_rfl) trivial (fun g3 w4 hS5 => ?_)
 refine ⟨trivial, ?_⟩
 have hS6 := hS.go w4 [rowO 5 encU8 (some ⟨g3, 0, none⟩) 1 [IntKind.wrap .u8 (w64 (48 + (Int.tmod p0 10)))]] (hS5.map1 0 _ (fun h => rowO.ofBlk h rfl (Nat.le_of_ble_eq_true (by kernel_rfl))) (fun _ h => by obtain ⟨_, h1, h2⟩ := h; injection h1 with h1; subst h1; exact h2) [] (by decide) (by decide))
 refine WL.sop (d := 9) (r := .conv 56 9 (sv (some ⟨g3, 0, none⟩) [IntKind.wrap .u8 (w64 (48 + (Int.tmod p0 10)))] 1)) (fun fb => by kernel_rfl) (.string (strOfNums [IntKind.wrap .u8 (w64 (48 + (Int.tmod p0 10)))])) (fun _ => bts_run (e := 5) (by kernel_rfl) (by kernel_rfl) (by kernel_rfl) (rowO.rd (hS6.own 0).1)) ?_
 refine ⟨trivial, ?_⟩
 refine seg 7 [] [0, 3] [(0, (iv p0)), (3, (.string (strOfNums [IntKind.wrap .u8 (w64 (48 + (Int.tmod p0 10)))])))] [] (fun fb => by kernel_rfl) rfl trivial ?_
 refine WL.done rfl (WX.next (WC.seq (WC.seq (WC.region ?_))))
 refine seg 2 [] [0, 3, 11] [(0, (iv p0)), (3, (.string (strOfNums [IntKind.wrap .u8 (w64 (48 + (Int.tmod p0 10)))]))), (11, (bv (decide (p0 < 10))))] [] (fun fb => by kernel_rfl) rfl trivial ?_
 refine WL.done rfl (WX.next ?_)
 rcases br_some hf with ⟨h7, hf⟩ | ⟨h7, hf⟩
 ·refine WC.condT2 (fun fb => by kernel_rfl) h7 ?_
  refine WC.seq (WC.region ?_)
  refine seg 2 [] [2] [(2, (.string (strOfNums [IntKind.wrap .u8 (w64 (48 + (Int.tmod p0 10)))])))] [] (fun fb => by kernel_rfl) rfl trivial ?_
  refine WL.done rfl (WX.next ?_)
  refine WC.ret ?_
  injection hf with hf
  subst hf
  exact WX.thenR (WX.ret_ [] (.string (strOfNums [IntKind.wrap .u8 (w64 (48 + (Int.tmod p0 10)))])) [] (fun fb => by kernel_rfl) trivial ⟨_, rfl, rfl, hS6.keep⟩)
 refine WC.condF2 (fun fb => by kernel_rfl) h7 ?_
 refine WC.skip (WX.next (WC.seq (WC.region ?_)))
 refine seg 2 [] [3, 14] [(3, (.string (strOfNums [IntKind.wrap .u8 (w64 (48 + (Int.tmod p0 10)))]))), (14, (iv (w64 (Int.tdiv p0 10))))] [.ne 10] (fun fb => by kernel_rfl) rfl ⟨(by decide), trivial⟩ ?_
 obtain ⟨t9, ht10, hf⟩ := bind_some hf
 refine WL.call (some 15) 30 #[(iv (w64 (Int.tdiv p0 10)))] (fun fb => by kernel_rfl) (ih_ (w64 (Int.tdiv p0 10)) t9 _ ht10) (fun v w11 hR12 => ?_)
 obtain ⟨rfl, hk_⟩ := hR12
 have hS13 := hS6.keepN hk_
 refine ⟨trivial, ?_⟩
 refine seg 4 [] [15, 16] [(15, (.string t9)), (16, (.string (strOfNums [IntKind.wrap .u8 (w64 (48 + (Int.tmod p0 10)))])))] [] (fun fb => by kernel_rfl) rfl trivial ?_
 obtain ⟨h14, hf⟩ := as_some hf
 refine seg 6 [] [2] [(2, (.string (t9 ++ (strOfNums [IntKind.wrap .u8 (w64 (48 + (Int.tmod p0 10)))]))))] [.idx (some ⟨0, 0, none⟩) ((t9.size + (strOfNums [IntKind.wrap .u8 (w64 (48 + (Int.tmod p0 10)))]).size : Nat) : Int) 9223372036854775808] (fun fb => by kernel_rfl) rfl ⟨catq h14, trivial⟩ ?_
 refine WL.done rfl (WX.next ?_)
 refine WC.ret ?_
 injection hf with hf
 subst hf
 exact WX.ret_ [] (.string (t9 ++ (strOfNums [IntKind.wrap .u8 (w64 (48 + (Int.tmod p0 10)))]))) [] (fun fb => by kernel_rfl) trivial ⟨_, rfl, rfl, hS13.keep⟩
theorem ref01_Text_calls (k : Nat) (p0 : List Tile) (Aa : Option Addr) (ca : Nat) (r : ByteArray) (w : World) (hR0 : RO NoS w (rowR enc_Tile Aa ca p0)) (hf : ref01_Text k p0 = some r) :
  CallsR Tryd.prog 17 #[(sv Aa p0 ca)] w (fun v w' => v = (.string r) ∧ Keeps NoS w w') := by
 have hS : St NoS w w [rowR enc_Tile Aa ca p0] [] := St.init (ro_cons hR0 (ro_nil _ _))
 refine enter 43 Tryd.func17 rfl Tryd.ntmps17 rfl ?_
 unfold ref01_Text at hf
 refine WC.seq (WC.region ?_)
 refine seg 1 [] [0] [(0, (sv Aa p0 ca))] [] (fun fb => by kernel_rfl) rfl trivial ?_
 refine WL.done rfl (WX.next (WC.seq (WC.region ?_)))
 refine seg 1 [] [0, 3] [(0, (sv Aa p0 ca)), (3, (.slice none 0 0))] [] (fun fb => by kernel_rfl) rfl trivial ?_
 refine WL.done rfl (WX.next (WC.seq (WC.seq (WC.region ?_))))
 refine seg 1 [] [0, 3, 4] [(0, (sv Aa p0 ca)), (3, (.slice none 0 0)), (4, (iv 0))] [] (fun fb => by kernel_rfl) rfl trivial ?_
 refine WL.done rfl (WX.next ?_)
 have hS3 := hS.nilrow 5 encU8
 obtain ⟨x11, hx12, hf⟩ := bind_some hf
 refine WC.cutN (T := (List Int) × (Option Addr) × Nat) (fun t => [(3, (sv t.2.1 t.1 t.2.2))]) (fun t w1 => St NoS w w1 [rowR enc_Tile Aa ca p0] [rowO 5 encU8 t.2.1 t.2.2 t.1] ∧ x11 = t.1) (fun Kx11 => ?_) ?_
 ·
  refine WC.block ?_
  refine WC.loop (T := ((List Int) × Int) × (Option Addr) × Nat) (fun t => [(0, (sv Aa p0 ca)), (3, (sv t.2.1 t.1.1 t.2.2)), (4, (iv t.1.2))]) (fun n t w1 => St NoS w w1 [rowR enc_Tile Aa ca p0] [rowO 5 encU8 t.2.1 t.2.2 t.1.1] ∧ ref01_Text.l0 n t.1.1 t.1.2 p0 = some x11) k ((([] : List Int), 0), none, 0) [0, 3, 4] rfl ⟨(hS3.subR [0]).sub [0] (by decide), hx12⟩ ?_
  rintro k13 ⟨⟨l6, x7⟩, A4, c5⟩ w14 ⟨hS15, hl16⟩
  cases k13 with
  | zero => rw [ref01_Text.l0] at hl16; cases hl16
  | succ k13 =>
   rw [ref01_Text.l0] at hl16
   refine WC.seq (WC.seq (WC.region ?_))
   refine seg 4 [] [0, 3, 4, 9] [(0, (sv Aa p0 ca)), (3, (sv A4 l6 c5)), (4, (iv x7)), (9, (bv (decide (x7 < (p0.length : Int)))))] [] (fun fb => by kernel_rfl) rfl trivial ?_
   refine WL.done rfl (WX.next ?_)
   rcases br_some hl16 with ⟨h18, hl16⟩ | ⟨h18, hl16⟩
   ·refine WC.condT2 (fun fb => by kernel_rfl) h18 ?_
    refine WC.skip (WX.next (WC.seq (WC.block (WC.seq (WC.seq (WC.region ?_))))))
    refine seg 2 [] [0, 3, 4, 13] [(0, (sv Aa p0 ca)), (3, (sv A4 l6 c5)), (4, (iv x7)), (13, (bv (decide (x7 > 0))))] [] (fun fb => by kernel_rfl) rfl trivial ?_
    refine WL.done rfl (WX.next ?_)
    obtain ⟨x21, hx22, hl16⟩ := bind_some hl16
    refine WC.cutN (T := (List Int) × (Option Addr) × Nat) (fun t => [(0, (sv Aa p0 ca)), (3, (sv t.2.1 t.1 t.2.2)), (4, (iv x7))]) (fun t w1 => St NoS w w1 [rowR enc_Tile Aa ca p0] [rowO 5 encU8 t.2.1 t.2.2 t.1] ∧ x21 = t.1) (fun Kx21 => ?_) ?_
    ·
     rcases br_some hx22 with ⟨h23, hx22⟩ | ⟨h23, hx22⟩
     ·refine WC.condT2 (fun fb => by kernel_rfl) h23 ?_
      refine WC.region ?_
      refine seg 1 [] [0, 4, 14] [(0, (sv Aa p0 ca)), (4, (iv x7)), (14, (sv A4 l6 c5))] [] (fun fb => by kernel_rfl) rfl trivial ?_
      refine WL.new hS15 15 [] (fun g => (.slice (some ⟨g, 0, none⟩) 1 1)) (.cells #[(.int .u8 32)] 5 (0, 0)) [] (fun fb g => by kernel_rfl) trivial (fun g24 w25 hS26 => ?_)
      refine ⟨trivial, ?_⟩
      have hS27 := hS.go w25 [rowO 5 encU8 (some ⟨g24, 0, none⟩) 1 [32], rowO 5 encU8 A4 c5 l6] (hS26.map1 0 _ (fun h => rowO.ofBlk h rfl (Nat.le_of_ble_eq_true (by kernel_rfl))) (fun _ h => by obtain ⟨_, h1, h2⟩ := h; injection h1 with h1; subst h1; exact h2) [1] (by decide) (by decide))
      obtain ⟨h28, hx22⟩ := as_some hx22
      refine WL.append hS27 1 (d := 16) (tS := 56) (z := (.int .u8 0)) (bytes := 1) (c2 := 1) rfl (fun fb => by kernel_rfl) (rowO.rd (hS27.own 0).1) (by kernel_rfl) (by kernel_rfl) rfl (by decide) h28 (by decide) [0] (by decide) (by decide) (fun A29 c30 w31 hS32 => ?_)
      refine ⟨trivial, ?_⟩
      refine seg 4 [] [0, 3, 4] [(0, (sv Aa p0 ca)), (3, (sv A29 (l6 ++ [32]) c30)), (4, (iv x7))] [] (fun fb => by kernel_rfl) rfl trivial ?_
      refine WL.done rfl ?_
      injection hx22 with hx22
      exact WX.to Kx21 (l6 ++ [32], A29, c30) [0, 3, 4] rfl ⟨(hS32.subR [0]).sub [0] (by decide), hx22.symm⟩
     refine WC.condF2 (fun fb => by kernel_rfl) h23 ?_
     refine WC.skip ?_
     injection hx22 with hx22
     exact WX.to Kx21 (l6, A4, c5) [0, 3, 4] rfl ⟨(hS15.subR [0]).sub [0] (by decide), hx22.symm⟩
    rintro ⟨y36, A19, c20⟩ w33 ⟨hS34, hq35⟩
    subst hq35
    refine WX.next (WC.seq (WC.region ?_))
    refine seg 2 [] [0, 3, 4, 17, 18] [(0, (sv Aa p0 ca)), (3, (sv A19 x21 c20)), (4, (iv x7)), (17, (sv Aa p0 ca)), (18, (iv x7))] [] (fun fb => by kernel_rfl) rfl trivial ?_
    obtain ⟨h37, hl16⟩ := as_some hl16
    refine seg 4 [.v (iv ((rdD p0 x7 z_Tile).N)), .v (iv ((rdD p0 x7 z_Tile).E)), .v (iv ((rdD p0 x7 z_Tile).S)), .v (iv ((rdD p0 x7 z_Tile).W))] [0, 3, 4, 20] [(0, (sv Aa p0 ca)), (3, (sv A19 x21 c20)), (4, (iv x7)), (20, (.agg #[(iv ((rdD p0 x7 z_Tile).N)), (iv ((rdD p0 x7 z_Tile).E)), (iv ((rdD p0 x7 z_Tile).S)), (iv ((rdD p0 x7 z_Tile).W))]))] [.idx Aa x7 p0.length, .cell ((adr Aa).add ((x7).toNat * 4)) (iv ((rdD p0 x7 z_Tile).N)), .cell (((adr Aa).add ((x7).toNat * 4)).add 1) (iv ((rdD p0 x7 z_Tile).E)), .cell (((adr Aa).add ((x7).toNat * 4)).add 2) (iv ((rdD p0 x7 z_Tile).S)), .cell (((adr Aa).add ((x7).toNat * 4)).add 3) (iv ((rdD p0 x7 z_Tile).W))] (fun fb => by kernel_rfl) rfl ⟨rowR.adr (hS34.rd 0).1 h37.1 h37.2, rowR.cell (hS34.rd 0).1 z_Tile h37.1 h37.2 0 rfl, rowR.cell (hS34.rd 0).1 z_Tile h37.1 h37.2 1 rfl, rowR.cell (hS34.rd 0).1 z_Tile h37.1 h37.2 2 rfl, rowR.cell (hS34.rd 0).1 z_Tile h37.1 h37.2 3 rfl, trivial⟩ ?_
    refine WL.new hS34 5 [] (fun g => (pt g)) (.cells #[(iv 0), (iv 0), (iv 0), (iv 0)] 50 (0, 0)) [] (fun fb g => by kernel_rfl) trivial (fun g38 w39 hS40 => ?_)
    refine ⟨trivial, ?_⟩
    refine WL.store hS40 0 rfl [(0, (iv ((rdD p0 x7 z_Tile).N))), (1, (iv ((rdD p0 x7 z_Tile).E))), (2, (iv ((rdD p0 x7 z_Tile).S))), (3, (iv ((rdD p0 x7 z_Tile).W)))] #[(iv ((rdD p0 x7 z_Tile).N)), (iv ((rdD p0 x7 z_Tile).E)), (iv ((rdD p0 x7 z_Tile).S)), (iv ((rdD p0 x7 z_Tile).W))] (fun fb => by kernel_rfl) (by kernel_rfl) rfl [1] (by decide) (by decide) (fun w41 hS42 => ?_)
    refine ⟨trivial, ?_⟩
    refine WL.done rfl (WX.next ?_)
    refine WC.regionD ([(2, ⟨g38, 0, none⟩, (iv ((rdD p0 x7 z_Tile).N))), (6, ⟨g38, 1, none⟩, (iv ((rdD p0 x7 z_Tile).E))), (11, ⟨g38, 2, none⟩, (iv ((rdD p0 x7 z_Tile).S))), (16, ⟨g38, 3, none⟩, (iv ((rdD p0 x7 z_Tile).W)))], [0, 1, 2, 4, 5, 6, 8, 9, 10, 11, 13, 14, 15, 16, 18, 20], [[], [], [1], [1, 2], [1, 2, 3], [], [5], [1, 2, 3, 5, 6], [1, 2, 3, 4, 5, 6, 7], [1, 2, 3, 4, 5, 6, 7, 8], [], [10], [1, 2, 3, 5, 6, 7, 10, 11], [1, 2, 3, 4, 5, 6, 7, 8, 9, 10, 11, 12], [1, 2, 3, 4, 5, 6, 7, 8, 9, 10, 11, 12, 13], [], [15], [1, 2, 3, 5, 6, 7, 10, 11, 12, 15, 16], [1, 2, 3, 4, 5, 6, 7, 8, 9, 10, 11, 12, 13, 14, 15, 16, 17], [0, 1, 2, 3, 4, 5, 6, 7, 8, 9, 10, 11, 12, 13, 14, 15, 16, 17, 18], [0, 1, 2, 3, 4, 5, 6, 7, 8, 9, 10, 11, 12, 13, 14, 15, 16, 17, 18, 19]]) [[0, 1, 2, 5, 6, 10, 11, 15, 16, 3, 4, 7, 8, 9, 12, 13, 14, 17, 18, 19, 20]] (by kernel_rfl) (by kernel_rfl) (NoPanic.block (NoPanic.seq (NoPanic.seq (NoPanic.block (NoPanic.seq (NoPanic.body)))))) ?_
    have hS44 := hS42.drew
    revert hS44
    generalize World.drew w41 = w43
    intro hS44
    refine ⟨⟨hS44.cell 0 rfl 0 rfl, hS44.cell 0 rfl 1 rfl, hS44.cell 0 rfl 2 rfl, hS44.cell 0 rfl 3 rfl, trivial⟩, forallC ?_ (forallN)⟩
    refine segF 9 [.v (iv ((rdD p0 x7 z_Tile).N)), .v (iv ((rdD p0 x7 z_Tile).E)), .v (iv ((rdD p0 x7 z_Tile).S)), .v (iv ((rdD p0 x7 z_Tile).W))] [0, 4, 21, 23, 27, 32, 37] [(0, (sv Aa p0 ca)), (4, (iv x7)), (21, (sv A19 x21 c20)), (23, (iv ((rdD p0 x7 z_Tile).N))), (27, (iv ((rdD p0 x7 z_Tile).E))), (32, (iv ((rdD p0 x7 z_Tile).S))), (37, (iv ((rdD p0 x7 z_Tile).W)))] [] [0, 1, 2, 3] [(2, ⟨g38, 0, none⟩, (iv ((rdD p0 x7 z_Tile).N))), (6, ⟨g38, 1, none⟩, (iv ((rdD p0 x7 z_Tile).E))), (11, ⟨g38, 2, none⟩, (iv ((rdD p0 x7 z_Tile).S))), (16, ⟨g38, 3, none⟩, (iv ((rdD p0 x7 z_Tile).W)))] (fun fb => by kernel_rfl) rfl trivial rfl ?_
    obtain ⟨t45, ht46, hl16⟩ := bind_some hl16
    refine WL.call (some 24) 30 #[(iv ((rdD p0 x7 z_Tile).N))] (fun fb => by kernel_rfl) (ref01_digits_calls _ ((rdD p0 x7 z_Tile).N) t45 _ ht46) (fun v w47 hR48 => ?_)
    obtain ⟨rfl, hk_⟩ := hR48
    have hS49 := hS44.keepN hk_
    refine ⟨⟨hS49.cell 0 rfl 1 rfl, hS49.cell 0 rfl 2 rfl, hS49.cell 0 rfl 3 rfl, trivial⟩, ?_⟩
    obtain ⟨h50, hl16⟩ := as_some hl16
    refine seg 11 [] [0, 4, 21, 25, 27, 32, 37] [(0, (sv Aa p0 ca)), (4, (iv x7)), (21, (sv A19 x21 c20)), (25, (.string (t45 ++ (⟨#[46]⟩ : ByteArray)))), (27, (iv ((rdD p0 x7 z_Tile).E))), (32, (iv ((rdD p0 x7 z_Tile).S))), (37, (iv ((rdD p0 x7 z_Tile).W)))] [.idx (some ⟨0, 0, none⟩) ((t45.size + (⟨#[46]⟩ : ByteArray).size : Nat) : Int) 9223372036854775808] (fun fb => by kernel_rfl) rfl ⟨catq h50, trivial⟩ ?_
    obtain ⟨t51, ht52, hl16⟩ := bind_some hl16
    refine WL.call (some 28) 30 #[(iv ((rdD p0 x7 z_Tile).E))] (fun fb => by kernel_rfl) (ref01_digits_calls _ ((rdD p0 x7 z_Tile).E) t51 _ ht52) (fun v w53 hR54 => ?_)
    obtain ⟨rfl, hk_⟩ := hR54
    have hS55 := hS49.keepN hk_
    refine ⟨⟨hS55.cell 0 rfl 2 rfl, hS55.cell 0 rfl 3 rfl, trivial⟩, ?_⟩
    obtain ⟨h56, hl16⟩ := as_some hl16
    refine seg 13 [] [0, 4, 21, 29, 32, 37] [(0, (sv Aa p0 ca)), (4, (iv x7)), (21, (sv A19 x21 c20)), (29, (.string ((t45 ++ (⟨#[46]⟩ : ByteArray)) ++ t51))), (32, (iv ((rdD p0 x7 z_Tile).S))), (37, (iv ((rdD p0 x7 z_Tile).W)))] [.idx (some ⟨0, 0, none⟩) (((t45 ++ (⟨#[46]⟩ : ByteArray)).size + t51.size : Nat) : Int) 9223372036854775808] (fun fb => by kernel_rfl) rfl ⟨catq h56, trivial⟩ ?_
    obtain ⟨h57, hl16⟩ := as_some hl16
    refine seg 14 [] [0, 4, 21, 30, 32, 37] [(0, (sv Aa p0 ca)), (4, (iv x7)), (21, (sv A19 x21 c20)), (30, (.string (((t45 ++ (⟨#[46]⟩ : ByteArray)) ++ t51) ++ (⟨#[46]⟩ : ByteArray)))), (32, (iv ((rdD p0 x7 z_Tile).S))), (37, (iv ((rdD p0 x7 z_Tile).W)))] [.idx (some ⟨0, 0, none⟩) ((((t45 ++ (⟨#[46]⟩ : ByteArray)) ++ t51).size + (⟨#[46]⟩ : ByteArray).size : Nat) : Int) 9223372036854775808] (fun fb => by kernel_rfl) rfl ⟨catq h57, trivial⟩ ?_
    obtain ⟨t58, ht59, hl16⟩ := bind_some hl16
    refine WL.call (some 33) 30 #[(iv ((rdD p0 x7 z_Tile).S))] (fun fb => by kernel_rfl) (ref01_digits_calls _ ((rdD p0 x7 z_Tile).S) t58 _ ht59) (fun v w60 hR61 => ?_)
    obtain ⟨rfl, hk_⟩ := hR61
    have hS62 := hS55.keepN hk_
    refine ⟨⟨hS62.cell 0 rfl 3 rfl, trivial⟩, ?_⟩
    obtain ⟨h63, hl16⟩ := as_some hl16
    refine seg 16 [] [0, 4, 21, 34, 37] [(0, (sv Aa p0 ca)), (4, (iv x7)), (21, (sv A19 x21 c20)), (34, (.string ((((t45 ++ (⟨#[46]⟩ : ByteArray)) ++ t51) ++ (⟨#[46]⟩ : ByteArray)) ++ t58))), (37, (iv ((rdD p0 x7 z_Tile).W)))] [.idx (some ⟨0, 0, none⟩) (((((t45 ++ (⟨#[46]⟩ : ByteArray)) ++ t51) ++ (⟨#[46]⟩ : ByteArray)).size + t58.size : Nat) : Int) 9223372036854775808] (fun fb => by kernel_rfl) rfl ⟨catq h63, trivial⟩ ?_
    obtain ⟨h65, hl16⟩ := as_some hl16
    refine seg 17 [] [0, 4, 21, 35, 37] [(0, (sv Aa p0 ca)), (4, (iv x7)), (21, (sv A19 x21 c20)), (35, (.string (((((t45 ++ (⟨#[46]⟩ : ByteArray)) ++ t51) ++ (⟨#[46]⟩ : ByteArray)) ++ t58) ++ (⟨#[46]⟩ : ByteArray)))), (37, (iv ((rdD p0 x7 z_Tile).W)))] [.idx (some ⟨0, 0, none⟩) ((((((t45 ++ (⟨#[46]⟩ : ByteArray)) ++ t51) ++ (⟨#[46]⟩ : ByteArray)) ++ t58).size + (⟨#[46]⟩ : ByteArray).size : Nat) : Int) 9223372036854775808] (fun fb => by kernel_rfl) rfl ⟨catq h65, trivial⟩ ?_
    obtain ⟨t66, ht67, hl16⟩ := bind_some hl16
    refine WL.call (some 38) 30 #[(iv ((rdD p0 x7 z_Tile).W))] (fun fb => by kernel_rfl) (ref01_digits_calls _ ((rdD p0 x7 z_Tile).W) t66 _ ht67) (fun v w68 hR69 => ?_)
    obtain ⟨rfl, hk_⟩ := hR69
    have hS70 := hS62.keepN hk_
    refine ⟨trivial, ?_⟩
    obtain ⟨h71, hl16⟩ := as_some hl16
    refine seg 19 [] [0, 4, 21, 39] [(0, (sv Aa p0 ca)), (4, (iv x7)), (21, (sv A19 x21 c20)), (39, (.string ((((((t45 ++ (⟨#[46]⟩ : ByteArray)) ++ t51) ++ (⟨#[46]⟩ : ByteArray)) ++ t58) ++ (⟨#[46]⟩ : ByteArray)) ++ t66)))] [.idx (some ⟨0, 0, none⟩) (((((((t45 ++ (⟨#[46]⟩ : ByteArray)) ++ t51) ++ (⟨#[46]⟩ : ByteArray)) ++ t58) ++ (⟨#[46]⟩ : ByteArray)).size + t66.size : Nat) : Int) 9223372036854775808] (fun fb => by kernel_rfl) rfl ⟨catq h71, trivial⟩ ?_
    obtain ⟨h72, hl16⟩ := as_some hl16
    refine WL.appendS hS70 1 (d := 40) (tS := 56) (tX := 9) rfl (fun fb => by kernel_rfl) (by kernel_rfl) (by kernel_rfl) (by kernel_rfl) h72 [0] (by decide) (by decide) (fun A73 c74 w75 hS76 => ?_)
    refine ⟨trivial, ?_⟩
    refine seg 21 [] [0, 3, 4] [(0, (sv Aa p0 ca)), (3, (sv A73 (x21 ++ u8s ((((((t45 ++ (⟨#[46]⟩ : ByteArray)) ++ t51) ++ (⟨#[46]⟩ : ByteArray)) ++ t58) ++ (⟨#[46]⟩ : ByteArray)) ++ t66)) c74)), (4, (iv x7))] [] (fun fb => by kernel_rfl) rfl trivial ?_
    refine WL.done rfl ?_
    refine WX.blockN (WX.next ?_)
    refine WC.region ?_
    refine seg 3 [] [0, 3, 4] [(0, (sv Aa p0 ca)), (3, (sv A73 (x21 ++ u8s ((((((t45 ++ (⟨#[46]⟩ : ByteArray)) ++ t51) ++ (⟨#[46]⟩ : ByteArray)) ++ t58) ++ (⟨#[46]⟩ : ByteArray)) ++ t66)) c74)), (4, (iv (w64 (x7 + 1))))] [] (fun fb => by kernel_rfl) rfl trivial ?_
    refine WL.done rfl ?_
    exact WX.again k13 (Nat.lt_succ_self _) ((x21 ++ u8s ((((((t45 ++ (⟨#[46]⟩ : ByteArray)) ++ t51) ++ (⟨#[46]⟩ : ByteArray)) ++ t58) ++ (⟨#[46]⟩ : ByteArray)) ++ t66), w64 (x7 + 1)), A73, c74) [0, 3, 4] rfl ⟨(hS76.subR [0]).sub [0] (by decide), hl16⟩
   refine WC.condF2 (fun fb => by kernel_rfl) h18 ?_
   refine WC.exit ?_
   injection hl16 with hl16
   exact WX.thenX (WX.thenX (WX.blockHere (WX.to Kx11 (l6, A4, c5) [3] rfl ⟨(hS15.subR [0]).sub [0] (by decide), hl16.symm⟩)))
 rintro ⟨y80, A9, c10⟩ w77 ⟨hS78, hq79⟩
 subst hq79
 refine WX.next (WC.seq (WC.region ?_))
 refine seg 1 [] [41] [(41, (sv A9 x11 c10))] [] (fun fb => by kernel_rfl) rfl trivial ?_
 refine WL.sop (d := 42) (r := .conv 56 9 (sv A9 x11 c10)) (fun fb => by kernel_rfl) (.string (strOfNums x11)) (fun _ => bts_run (e := 5) (by kernel_rfl) (by kernel_rfl) (by kernel_rfl) (rowO.rd (hS78.own 0).1)) ?_
 refine ⟨trivial, ?_⟩
 refine seg 3 [] [2] [(2, (.string (strOfNums x11)))] [] (fun fb => by kernel_rfl) rfl trivial ?_
 refine WL.done rfl (WX.next ?_)
 refine WC.ret ?_
 injection hf with hf
 subst hf
 exact WX.ret_ [] (.string (strOfNums x11)) [] (fun fb => by kernel_rfl) trivial ⟨_, rfl, rfl, hS78.keep⟩
theorem ref01_SameSet_calls (k : Nat) (p0 : List Tile) (p1 : List Tile) (Aa : Option Addr) (ca : Nat) (Ab : Option Addr) (cb : Nat) (r : Bool) (w : World) (hR0 : RO NoS w (rowR enc_Tile Aa ca p0)) (hR1 : RO NoS w (rowR enc_Tile Ab cb p1)) (hf : ref01_SameSet k p0 p1 = some r) :
  CallsR Tryd.prog 9 #[(sv Aa p0 ca), (sv Ab p1 cb)] w (fun v w' => v = (bv r) ∧ Keeps NoS w w') := by
 have hS : St NoS w w [rowR enc_Tile Aa ca p0, rowR enc_Tile Ab cb p1] [] := St.init (ro_cons hR0 (ro_cons hR1 (ro_nil _ _)))
 refine enter 26 Tryd.func9 rfl Tryd.ntmps9 rfl ?_
 unfold ref01_SameSet at hf
 refine WC.seq (WC.region ?_)
 refine seg 1 [] [0, 1] [(0, (sv Aa p0 ca)), (1, (sv Ab p1 cb))] [] (fun fb => by kernel_rfl) rfl trivial ?_
 refine WL.done rfl (WX.next (WC.seq (WC.seq (WC.region ?_))))
 refine seg 5 [] [0, 1, 10] [(0, (sv Aa p0 ca)), (1, (sv Ab p1 cb)), (10, (bv ((p0.length : Int) != (p1.length : Int))))] [] (fun fb => by kernel_rfl) rfl trivial ?_
 refine WL.done rfl (WX.next ?_)
 rcases br_some hf with ⟨h3, hf⟩ | ⟨h3, hf⟩
 ·refine WC.condT2 (fun fb => by kernel_rfl) h3 ?_
  refine WC.seq (WC.region ?_)
  refine seg 1 [] [4] [(4, (bv false))] [] (fun fb => by kernel_rfl) rfl trivial ?_
  refine WL.done rfl (WX.next ?_)
  refine WC.ret ?_
  injection hf with hf
  subst hf
  exact WX.thenR (WX.ret_ [] (bv false) [] (fun fb => by kernel_rfl) trivial ⟨_, rfl, rfl, hS.keep⟩)
 refine WC.condF2 (fun fb => by kernel_rfl) h3 ?_
 refine WC.skip (WX.next (WC.seq (WC.seq (WC.region ?_))))
 refine seg 1 [] [0, 1, 5] [(0, (sv Aa p0 ca)), (1, (sv Ab p1 cb)), (5, (iv 0))] [] (fun fb => by kernel_rfl) rfl trivial ?_
 refine WL.done rfl (WX.next ?_)
 obtain ⟨x5, hx6, hf⟩ := bind_some hf
 refine WC.cutN (T := Unit) (fun t => []) (fun t w1 => St NoS w w1 [rowR enc_Tile Aa ca p0, rowR enc_Tile Ab cb p1] [] ∧ x5 = .inr t) (fun Kx5 => ?_) ?_
 ·
  refine WC.block ?_
  refine WC.loop (T := Int) (fun t => [(0, (sv Aa p0 ca)), (1, (sv Ab p1 cb)), (5, (iv t))]) (fun n t w1 => St NoS w w1 [rowR enc_Tile Aa ca p0, rowR enc_Tile Ab cb p1] [] ∧ ref01_SameSet.l0 n t p0 p1 = some x5) k 0 [0, 1, 5] rfl ⟨(hS.subR [0, 1]).sub [] (by decide), hx6⟩ ?_
  rintro k7 x4 w8 ⟨hS10, hl11⟩
  cases k7 with
  | zero => rw [ref01_SameSet.l0] at hl11; cases hl11
  | succ k7 =>
   rw [ref01_SameSet.l0] at hl11
   refine WC.seq (WC.seq (WC.region ?_))
   refine seg 4 [] [0, 1, 5, 14] [(0, (sv Aa p0 ca)), (1, (sv Ab p1 cb)), (5, (iv x4)), (14, (bv (decide (x4 < (p0.length : Int)))))] [] (fun fb => by kernel_rfl) rfl trivial ?_
   refine WL.done rfl (WX.next ?_)
   rcases br_some hl11 with ⟨h12, hl11⟩ | ⟨h12, hl11⟩
   ·refine WC.condT2 (fun fb => by kernel_rfl) h12 ?_
    refine WC.skip (WX.next (WC.seq (WC.block (WC.seq ?_))))
    obtain ⟨h15, hl11⟩ := as_some hl11
    obtain ⟨h16, hl11⟩ := as_some hl11
    refine WC.regionD ([(3, ((adr Aa).add ((x4).toNat * 4)), (iv ((rdD p0 x4 z_Tile).N))), (3, (((adr Aa).add ((x4).toNat * 4)).add 1), (iv ((rdD p0 x4 z_Tile).E))), (3, (((adr Aa).add ((x4).toNat * 4)).add 2), (iv ((rdD p0 x4 z_Tile).S))), (3, (((adr Aa).add ((x4).toNat * 4)).add 3), (iv ((rdD p0 x4 z_Tile).W))), (7, ((adr Ab).add ((x4).toNat * 4)), (iv ((rdD p1 x4 z_Tile).N))), (7, (((adr Ab).add ((x4).toNat * 4)).add 1), (iv ((rdD p1 x4 z_Tile).E))), (7, (((adr Ab).add ((x4).toNat * 4)).add 2), (iv ((rdD p1 x4 z_Tile).S))), (7, (((adr Ab).add ((x4).toNat * 4)).add 3), (iv ((rdD p1 x4 z_Tile).W)))], [0, 1, 2, 3, 4, 5, 6, 7, 8], [[], [], [0, 1], [0, 1, 2], [], [], [4, 5], [4, 5, 6], [0, 1, 2, 3, 4, 5, 6, 7]]) [[0, 1, 2, 3, 4, 5, 6, 7, 8]] (by kernel_rfl) (by kernel_rfl) (NoPanic.seq (NoPanic.block (NoPanic.seq (NoPanic.seq (NoPanic.block (NoPanic.seq (NoPanic.body))))))) ?_
    have hS14 := hS10.drew
    revert hS14
    generalize World.drew w8 = w13
    intro hS14
    refine ⟨⟨rowR.cell (hS14.rd 0).1 z_Tile h15.1 h15.2 0 rfl, rowR.cell (hS14.rd 0).1 z_Tile h15.1 h15.2 1 rfl, rowR.cell (hS14.rd 0).1 z_Tile h15.1 h15.2 2 rfl, rowR.cell (hS14.rd 0).1 z_Tile h15.1 h15.2 3 rfl, rowR.cell (hS14.rd 1).1 z_Tile h16.1 h16.2 0 rfl, rowR.cell (hS14.rd 1).1 z_Tile h16.1 h16.2 1 rfl, rowR.cell (hS14.rd 1).1 z_Tile h16.1 h16.2 2 rfl, rowR.cell (hS14.rd 1).1 z_Tile h16.1 h16.2 3 rfl, trivial⟩, forallC ?_ (forallN)⟩
    refine segF 9 [.v (iv ((rdD p0 x4 z_Tile).N)), .v (iv ((rdD p0 x4 z_Tile).E)), .v (iv ((rdD p0 x4 z_Tile).S)), .v (iv ((rdD p0 x4 z_Tile).W)), .v (iv ((rdD p1 x4 z_Tile).N)), .v (iv ((rdD p1 x4 z_Tile).E)), .v (iv ((rdD p1 x4 z_Tile).S)), .v (iv ((rdD p1 x4 z_Tile).W))] [0, 1, 5, 25] [(0, (sv Aa p0 ca)), (1, (sv Ab p1 cb)), (5, (iv x4)), (25, (bv (!(((rdD p0 x4 z_Tile).N) == ((rdD p1 x4 z_Tile).N) && (((rdD p0 x4 z_Tile).E) == ((rdD p1 x4 z_Tile).E) && (((rdD p0 x4 z_Tile).S) == ((rdD p1 x4 z_Tile).S) && (((rdD p0 x4 z_Tile).W) == ((rdD p1 x4 z_Tile).W))))))))] [.idx Aa x4 p0.length, .idx Ab x4 p1.length] [0, 1, 2, 3, 4, 5, 6, 7] [(3, ((adr Aa).add ((x4).toNat * 4)), (iv ((rdD p0 x4 z_Tile).N))), (3, (((adr Aa).add ((x4).toNat * 4)).add 1), (iv ((rdD p0 x4 z_Tile).E))), (3, (((adr Aa).add ((x4).toNat * 4)).add 2), (iv ((rdD p0 x4 z_Tile).S))), (3, (((adr Aa).add ((x4).toNat * 4)).add 3), (iv ((rdD p0 x4 z_Tile).W))), (7, ((adr Ab).add ((x4).toNat * 4)), (iv ((rdD p1 x4 z_Tile).N))), (7, (((adr Ab).add ((x4).toNat * 4)).add 1), (iv ((rdD p1 x4 z_Tile).E))), (7, (((adr Ab).add ((x4).toNat * 4)).add 2), (iv ((rdD p1 x4 z_Tile).S))), (7, (((adr Ab).add ((x4).toNat * 4)).add 3), (iv ((rdD p1 x4 z_Tile).W)))] (fun fb => by kernel_rfl) rfl ⟨rowR.adr (hS14.rd 0).1 h15.1 h15.2, rowR.adr (hS14.rd 1).1 h16.1 h16.2, trivial⟩ rfl ?_
    refine WL.done rfl (WX.next ?_)
    rcases br_some hl11 with ⟨h17, hl11⟩ | ⟨h17, hl11⟩
    ·refine WC.condT2 (fun fb => by kernel_rfl) h17 ?_
     refine WC.seq (WC.region ?_)
     refine seg 1 [] [4] [(4, (bv false))] [] (fun fb => by kernel_rfl) rfl trivial ?_
     refine WL.done rfl (WX.next ?_)
     refine WC.ret ?_
     injection hl11 with hl11
     subst hl11
     injection hf with hf
     subst hf
     exact WX.blockR (WX.thenR (WX.thenR (WX.blockR (WX.thenR (WX.ret_ [] (bv false) [] (fun fb => by kernel_rfl) trivial ⟨_, rfl, rfl, hS14.keep⟩)))))
    refine WC.condF2 (fun fb => by kernel_rfl) h17 ?_
    refine WC.skip ?_
    refine WX.blockN (WX.next ?_)
    refine WC.region ?_
    refine seg 3 [] [0, 1, 5] [(0, (sv Aa p0 ca)), (1, (sv Ab p1 cb)), (5, (iv (w64 (x4 + 1))))] [] (fun fb => by kernel_rfl) rfl trivial ?_
    refine WL.done rfl ?_
    exact WX.again k7 (Nat.lt_succ_self _) (w64 (x4 + 1)) [0, 1, 5] rfl ⟨(hS14.subR [0, 1]).sub [] (by decide), hl11⟩
   refine WC.condF2 (fun fb => by kernel_rfl) h12 ?_
   refine WC.exit ?_
   injection hl11 with hl11
   exact WX.thenX (WX.thenX (WX.blockHere (WX.to Kx5 () [] rfl ⟨(hS10.subR [0, 1]).sub [] (by decide), hl11.symm⟩)))
 rintro y21 w18 ⟨hS19, hq20⟩
 subst hq20
 have hf := sum_inr hf
 refine WX.next (WC.seq (WC.region ?_))
 refine seg 1 [] [4] [(4, (bv true))] [] (fun fb => by kernel_rfl) rfl trivial ?_
 refine WL.done rfl (WX.next ?_)
 refine WC.ret ?_
 injection hf with hf
 subst hf
 exact WX.ret_ [] (bv true) [] (fun fb => by kernel_rfl) trivial ⟨_, rfl, rfl, hS19.keep⟩
theorem ref01_Mirror_calls (k : Nat) (p0 : List Tile) (Aa : Option Addr) (ca : Nat) (r : (List Tile)) (w : World) (hR0 : RO NoS w (rowR enc_Tile Aa ca p0)) (hf : ref01_Mirror k p0 = some r) :
  CallsR Tryd.prog 18 #[(sv Aa p0 ca)] w (fun v w' => ∃ (A1_ : Option Addr), ∃ (c1_ : Nat), v = (sv A1_ r c1_) ∧ St NoS w w' [] [rowO 50 enc_Tile A1_ c1_ r]) := by
 have hS : St NoS w w [rowR enc_Tile Aa ca p0] [] := St.init (ro_cons hR0 (ro_nil _ _))
 refine enter 29 Tryd.func18 rfl Tryd.ntmps18 rfl ?_
 unfold ref01_Mirror at hf
 refine WC.seq (WC.region ?_)
 refine seg 1 [] [0] [(0, (sv Aa p0 ca))] [] (fun fb => by kernel_rfl) rfl trivial ?_
 refine WL.done rfl (WX.next (WC.seq (WC.region ?_)))
 refine seg 1 [] [0, 3] [(0, (sv Aa p0 ca)), (3, (.slice none 0 0))] [] (fun fb => by kernel_rfl) rfl trivial ?_
 refine WL.done rfl (WX.next (WC.seq (WC.seq (WC.region ?_))))
 refine seg 1 [] [0, 3, 4] [(0, (sv Aa p0 ca)), (3, (.slice none 0 0)), (4, (iv 0))] [] (fun fb => by kernel_rfl) rfl trivial ?_
 refine WL.done rfl (WX.next ?_)
 have hS3 := hS.nilrow 50 enc_Tile
 obtain ⟨x10, hx11, hf⟩ := bind_some hf
 refine WC.cutN (T := (List Tile) × (Option Addr) × Nat) (fun t => [(3, (sv t.2.1 t.1 t.2.2))]) (fun t w1 => St NoS w w1 [rowR enc_Tile Aa ca p0] [rowO 50 enc_Tile t.2.1 t.2.2 t.1] ∧ x10 = t.1) (fun Kx10 => ?_) ?_
 ·
  refine WC.block ?_
  refine WC.loop (T := ((List Tile) × Int) × (Option Addr) × Nat) (fun t => [(0, (sv Aa p0 ca)), (3, (sv t.2.1 t.1.1 t.2.2)), (4, (iv t.1.2))]) (fun n t w1 => St NoS w w1 [rowR enc_Tile Aa ca p0] [rowO 50 enc_Tile t.2.1 t.2.2 t.1.1] ∧ ref01_Mirror.l0 n t.1.1 t.1.2 p0 = some x10) k ((([] : List Tile), 0), none, 0) [0, 3, 4] rfl ⟨(hS3.subR [0]).sub [0] (by decide), hx11⟩ ?_
  rintro k12 ⟨⟨l6, x7⟩, A4, c5⟩ w13 ⟨hS14, hl15⟩
  cases k12 with
  | zero => rw [ref01_Mirror.l0] at hl15; cases hl15
  | succ k12 =>
   rw [ref01_Mirror.l0] at hl15
   refine WC.seq (WC.seq (WC.region ?_))
   refine seg 4 [] [0, 3, 4, 9] [(0, (sv Aa p0 ca)), (3, (sv A4 l6 c5)), (4, (iv x7)), (9, (bv (decide (x7 < (p0.length : Int)))))] [] (fun fb => by kernel_rfl) rfl trivial ?_
   refine WL.done rfl (WX.next ?_)
   rcases br_some hl15 with ⟨h16, hl15⟩ | ⟨h16, hl15⟩
   ·refine WC.condT2 (fun fb => by kernel_rfl) h16 ?_
    refine WC.skip (WX.next (WC.seq (WC.block (WC.seq (WC.region ?_)))))
    refine seg 2 [] [0, 3, 4, 12, 13] [(0, (sv Aa p0 ca)), (3, (sv A4 l6 c5)), (4, (iv x7)), (12, (sv Aa p0 ca)), (13, (iv x7))] [] (fun fb => by kernel_rfl) rfl trivial ?_
    obtain ⟨h17, hl15⟩ := as_some hl15
    refine seg 4 [.v (iv ((rdD p0 x7 z_Tile).N)), .v (iv ((rdD p0 x7 z_Tile).E)), .v (iv ((rdD p0 x7 z_Tile).S)), .v (iv ((rdD p0 x7 z_Tile).W))] [0, 3, 4, 15] [(0, (sv Aa p0 ca)), (3, (sv A4 l6 c5)), (4, (iv x7)), (15, (.agg #[(iv ((rdD p0 x7 z_Tile).N)), (iv ((rdD p0 x7 z_Tile).E)), (iv ((rdD p0 x7 z_Tile).S)), (iv ((rdD p0 x7 z_Tile).W))]))] [.idx Aa x7 p0.length, .cell ((adr Aa).add ((x7).toNat * 4)) (iv ((rdD p0 x7 z_Tile).N)), .cell (((adr Aa).add ((x7).toNat * 4)).add 1) (iv ((rdD p0 x7 z_Tile).E)), .cell (((adr Aa).add ((x7).toNat * 4)).add 2) (iv ((rdD p0 x7 z_Tile).S)), .cell (((adr Aa).add ((x7).toNat * 4)).add 3) (iv ((rdD p0 x7 z_Tile).W))] (fun fb => by kernel_rfl) rfl ⟨rowR.adr (hS14.rd 0).1 h17.1 h17.2, rowR.cell (hS14.rd 0).1 z_Tile h17.1 h17.2 0 rfl, rowR.cell (hS14.rd 0).1 z_Tile h17.1 h17.2 1 rfl, rowR.cell (hS14.rd 0).1 z_Tile h17.1 h17.2 2 rfl, rowR.cell (hS14.rd 0).1 z_Tile h17.1 h17.2 3 rfl, trivial⟩ ?_
    refine WL.new hS14 5 [] (fun g => (pt g)) (.cells #[(iv 0), (iv 0), (iv 0), (iv 0)] 50 (0, 0)) [] (fun fb g => by kernel_rfl) trivial (fun g19 w20 hS21 => ?_)
    refine ⟨trivial, ?_⟩
    refine WL.store hS21 0 rfl [(0, (iv ((rdD p0 x7 z_Tile).N))), (1, (iv ((rdD p0 x7 z_Tile).E))), (2, (iv ((rdD p0 x7 z_Tile).S))), (3, (iv ((rdD p0 x7 z_Tile).W)))] #[(iv ((rdD p0 x7 z_Tile).N)), (iv ((rdD p0 x7 z_Tile).E)), (iv ((rdD p0 x7 z_Tile).S)), (iv ((rdD p0 x7 z_Tile).W))] (fun fb => by kernel_rfl) (by kernel_rfl) rfl [1] (by decide) (by decide) (fun w22 hS23 => ?_)
    refine ⟨trivial, ?_⟩
    refine WL.done rfl (WX.next (WC.region ?_))
    refine seg 10 [.v (iv ((rdD p0 x7 z_Tile).N)), .v (iv ((rdD p0 x7 z_Tile).W)), .v (iv ((rdD p0 x7 z_Tile).S)), .v (iv ((rdD p0 x7 z_Tile).E))] [0, 4, 16, 25] [(0, (sv Aa p0 ca)), (4, (iv x7)), (16, (sv A4 l6 c5)), (25, (.agg #[(iv ((rdD p0 x7 z_Tile).N)), (iv ((rdD p0 x7 z_Tile).W)), (iv ((rdD p0 x7 z_Tile).S)), (iv ((rdD p0 x7 z_Tile).E))]))] [.cell ⟨g19, 0, none⟩ (iv ((rdD p0 x7 z_Tile).N)), .cell ⟨g19, 3, none⟩ (iv ((rdD p0 x7 z_Tile).W)), .cell ⟨g19, 2, none⟩ (iv ((rdD p0 x7 z_Tile).S)), .cell ⟨g19, 1, none⟩ (iv ((rdD p0 x7 z_Tile).E))] (fun fb => by kernel_rfl) rfl ⟨hS23.cell 0 rfl 0 rfl, hS23.cell 0 rfl 3 rfl, hS23.cell 0 rfl 2 rfl, hS23.cell 0 rfl 1 rfl, trivial⟩ ?_
    refine WL.new hS23 26 [] (fun g => (.slice (some ⟨g, 0, none⟩) 1 1)) (.cells #[(iv ((rdD p0 x7 z_Tile).N)), (iv ((rdD p0 x7 z_Tile).W)), (iv ((rdD p0 x7 z_Tile).S)), (iv ((rdD p0 x7 z_Tile).E))] 50 (0, 0)) [] (fun fb g => by kernel_rfl) trivial (fun g24 w25 hS26 => ?_)
    refine ⟨trivial, ?_⟩
    have hS27 := hS.go w25 [rowO 50 enc_Tile (some ⟨g24, 0, none⟩) 1 [(Tile.mk ((rdD p0 x7 z_Tile).N) ((rdD p0 x7 z_Tile).W) ((rdD p0 x7 z_Tile).S) ((rdD p0 x7 z_Tile).E))], blk g19 (.cells #[(iv ((rdD p0 x7 z_Tile).N)), (iv ((rdD p0 x7 z_Tile).E)), (iv ((rdD p0 x7 z_Tile).S)), (iv ((rdD p0 x7 z_Tile).W))] 50 (0, 0)), rowO 50 enc_Tile A4 c5 l6] (hS26.map1 0 _ (fun h => rowO.ofBlk h rfl (Nat.le_of_ble_eq_true (by kernel_rfl))) (fun _ h => by obtain ⟨_, h1, h2⟩ := h; injection h1 with h1; subst h1; exact h2) [1, 2] (by decide) (by decide))
    obtain ⟨h28, hl15⟩ := as_some hl15
    refine WL.append hS27 2 (d := 27) (tS := 23) (z := (.agg #[(iv 0), (iv 0), (iv 0), (iv 0)])) (bytes := 32) (c2 := 1) rfl (fun fb => by kernel_rfl) (rowO.rd (hS27.own 0).1) (by kernel_rfl) (by kernel_rfl) rfl (by decide) h28 (by decide) [0, 1] (by decide) (by decide) (fun A29 c30 w31 hS32 => ?_)
    refine ⟨trivial, ?_⟩
    refine seg 13 [] [0, 3, 4] [(0, (sv Aa p0 ca)), (3, (sv A29 (l6 ++ [(Tile.mk ((rdD p0 x7 z_Tile).N) ((rdD p0 x7 z_Tile).W) ((rdD p0 x7 z_Tile).S) ((rdD p0 x7 z_Tile).E))]) c30)), (4, (iv x7))] [] (fun fb => by kernel_rfl) rfl trivial ?_
    refine WL.done rfl ?_
    refine WX.blockN (WX.next ?_)
    refine WC.region ?_
    refine seg 3 [] [0, 3, 4] [(0, (sv Aa p0 ca)), (3, (sv A29 (l6 ++ [(Tile.mk ((rdD p0 x7 z_Tile).N) ((rdD p0 x7 z_Tile).W) ((rdD p0 x7 z_Tile).S) ((rdD p0 x7 z_Tile).E))]) c30)), (4, (iv (w64 (x7 + 1))))] [] (fun fb => by kernel_rfl) rfl trivial ?_
    refine WL.done rfl ?_
    exact WX.again k12 (Nat.lt_succ_self _) ((l6 ++ [(Tile.mk ((rdD p0 x7 z_Tile).N) ((rdD p0 x7 z_Tile).W) ((rdD p0 x7 z_Tile).S) ((rdD p0 x7 z_Tile).E))], w64 (x7 + 1)), A29, c30) [0, 3, 4] rfl ⟨(hS32.subR [0]).sub [0] (by decide), hl15⟩
   refine WC.condF2 (fun fb => by kernel_rfl) h16 ?_
   refine WC.exit ?_
   injection hl15 with hl15
   exact WX.thenX (WX.thenX (WX.blockHere (WX.to Kx10 (l6, A4, c5) [3] rfl ⟨(hS14.subR [0]).sub [0] (by decide), hl15.symm⟩)))
 rintro ⟨y36, A8, c9⟩ w33 ⟨hS34, hq35⟩
 subst hq35
 refine WX.next (WC.seq (WC.region ?_))
 refine seg 2 [] [2] [(2, (sv A8 x10 c9))] [] (fun fb => by kernel_rfl) rfl trivial ?_
 refine WL.done rfl (WX.next ?_)
 refine WC.ret ?_
 injection hf with hf
 subst hf
 exact WX.ret_ [] (sv A8 x10 c9) [] (fun fb => by kernel_rfl) trivial ⟨_, rfl, A8, c9, rfl, (hS34.sub [0] (by decide)).noR⟩
theorem ref01_Upturn_calls (k : Nat) (p0 : List Tile) (Aa : Option Addr) (ca : Nat) (r : (List Tile)) (w : World) (hR0 : RO NoS w (rowR enc_Tile Aa ca p0)) (hf : ref01_Upturn k p0 = some r) :
  CallsR Tryd.prog 19 #[(sv Aa p0 ca)] w (fun v w' => ∃ (A1_ : Option Addr), ∃ (c1_ : Nat), v = (sv A1_ r c1_) ∧ St NoS w w' [] [rowO 50 enc_Tile A1_ c1_ r]) := by
 have hS : St NoS w w [rowR enc_Tile Aa ca p0] [] := St.init (ro_cons hR0 (ro_nil _ _))
 refine enter 29 Tryd.func19 rfl Tryd.ntmps19 rfl ?_
 unfold ref01_Upturn at hf
 refine WC.seq (WC.region ?_)
 refine seg 1 [] [0] [(0, (sv Aa p0 ca))] [] (fun fb => by kernel_rfl) rfl trivial ?_
 refine WL.done rfl (WX.next (WC.seq (WC.region ?_)))
 refine seg 1 [] [0, 3] [(0, (sv Aa p0 ca)), (3, (.slice none 0 0))] [] (fun fb => by kernel_rfl) rfl trivial ?_
 refine WL.done rfl (WX.next (WC.seq (WC.seq (WC.region ?_))))
 refine seg 1 [] [0, 3, 4] [(0, (sv Aa p0 ca)), (3, (.slice none 0 0)), (4, (iv 0))] [] (fun fb => by kernel_rfl) rfl trivial ?_
 refine WL.done rfl (WX.next ?_)
 have hS3 := hS.nilrow 50 enc_Tile
 obtain ⟨x10, hx11, hf⟩ := bind_some hf
 refine WC.cutN (T := (List Tile) × (Option Addr) × Nat) (fun t => [(3, (sv t.2.1 t.1 t.2.2))]) (fun t w1 => St NoS w w1 [rowR enc_Tile Aa ca p0] [rowO 50 enc_Tile t.2.1 t.2.2 t.1] ∧ x10 = t.1) (fun Kx10 => ?_) ?_
 ·
  refine WC.block ?_
  refine WC.loop (T := ((List Tile) × Int) × (Option Addr) × Nat) (fun t => [(0, (sv Aa p0 ca)), (3, (sv t.2.1 t.1.1 t.2.2)), (4, (iv t.1.2))]) (fun n t w1 => St NoS w w1 [rowR enc_Tile Aa ca p0] [rowO 50 enc_Tile t.2.1 t.2.2 t.1.1] ∧ ref01_Upturn.l0 n t.1.1 t.1.2 p0 = some x10) k ((([] : List Tile), 0), none, 0) [0, 3, 4] rfl ⟨(hS3.subR [0]).sub [0] (by decide), hx11⟩ ?_
  rintro k12 ⟨⟨l6, x7⟩, A4, c5⟩ w13 ⟨hS14, hl15⟩
  cases k12 with
  | zero => rw [ref01_Upturn.l0] at hl15; cases hl15
  | succ k12 =>
   rw [ref01_Upturn.l0] at hl15
   refine WC.seq (WC.seq (WC.region ?_))
   refine seg 4 [] [0, 3, 4, 9] [(0, (sv Aa p0 ca)), (3, (sv A4 l6 c5)), (4, (iv x7)), (9, (bv (decide (x7 < (p0.length : Int)))))] [] (fun fb => by kernel_rfl) rfl trivial ?_
   refine WL.done rfl (WX.next ?_)
   rcases br_some hl15 with ⟨h16, hl15⟩ | ⟨h16, hl15⟩
   ·refine WC.condT2 (fun fb => by kernel_rfl) h16 ?_
    refine WC.skip (WX.next (WC.seq (WC.block (WC.seq (WC.region ?_)))))
    refine seg 2 [] [0, 3, 4, 12, 13] [(0, (sv Aa p0 ca)), (3, (sv A4 l6 c5)), (4, (iv x7)), (12, (sv Aa p0 ca)), (13, (iv x7))] [] (fun fb => by kernel_rfl) rfl trivial ?_
    obtain ⟨h17, hl15⟩ := as_some hl15
    refine seg 4 [.v (iv ((rdD p0 x7 z_Tile).N)), .v (iv ((rdD p0 x7 z_Tile).E)), .v (iv ((rdD p0 x7 z_Tile).S)), .v (iv ((rdD p0 x7 z_Tile).W))] [0, 3, 4, 15] [(0, (sv Aa p0 ca)), (3, (sv A4 l6 c5)), (4, (iv x7)), (15, (.agg #[(iv ((rdD p0 x7 z_Tile).N)), (iv ((rdD p0 x7 z_Tile).E)), (iv ((rdD p0 x7 z_Tile).S)), (iv ((rdD p0 x7 z_Tile).W))]))] [.idx Aa x7 p0.length, .cell ((adr Aa).add ((x7).toNat * 4)) (iv ((rdD p0 x7 z_Tile).N)), .cell (((adr Aa).add ((x7).toNat * 4)).add 1) (iv ((rdD p0 x7 z_Tile).E)), .cell (((adr Aa).add ((x7).toNat * 4)).add 2) (iv ((rdD p0 x7 z_Tile).S)), .cell (((adr Aa).add ((x7).toNat * 4)).add 3) (iv ((rdD p0 x7 z_Tile).W))] (fun fb => by kernel_rfl) rfl ⟨rowR.adr (hS14.rd 0).1 h17.1 h17.2, rowR.cell (hS14.rd 0).1 z_Tile h17.1 h17.2 0 rfl, rowR.cell (hS14.rd 0).1 z_Tile h17.1 h17.2 1 rfl, rowR.cell (hS14.rd 0).1 z_Tile h17.1 h17.2 2 rfl, rowR.cell (hS14.rd 0).1 z_Tile h17.1 h17.2 3 rfl, trivial⟩ ?_
    refine WL.new hS14 5 [] (fun g => (pt g)) (.cells #[(iv 0), (iv 0), (iv 0), (iv 0)] 50 (0, 0)) [] (fun fb g => by kernel_rfl) trivial (fun g18 w20 hS21 => ?_)
    refine ⟨trivial, ?_⟩
    refine WL.store hS21 0 rfl [(0, (iv ((rdD p0 x7 z_Tile).N))), (1, (iv ((rdD p0 x7 z_Tile).E))), (2, (iv ((rdD p0 x7 z_Tile).S))), (3, (iv ((rdD p0 x7 z_Tile).W)))] #[(iv ((rdD p0 x7 z_Tile).N)), (iv ((rdD p0 x7 z_Tile).E)), (iv ((rdD p0 x7 z_Tile).S)), (iv ((rdD p0 x7 z_Tile).W))] (fun fb => by kernel_rfl) (by kernel_rfl) rfl [1] (by decide) (by decide) (fun w22 hS23 => ?_)
    refine ⟨trivial, ?_⟩
    refine WL.done rfl (WX.next (WC.region ?_))
    refine seg 10 [.v (iv ((rdD p0 x7 z_Tile).S)), .v (iv ((rdD p0 x7 z_Tile).E)), .v (iv ((rdD p0 x7 z_Tile).N)), .v (iv ((rdD p0 x7 z_Tile).W))] [0, 4, 16, 25] [(0, (sv Aa p0 ca)), (4, (iv x7)), (16, (sv A4 l6 c5)), (25, (.agg #[(iv ((rdD p0 x7 z_Tile).S)), (iv ((rdD p0 x7 z_Tile).E)), (iv ((rdD p0 x7 z_Tile).N)), (iv ((rdD p0 x7 z_Tile).W))]))] [.cell ⟨g18, 2, none⟩ (iv ((rdD p0 x7 z_Tile).S)), .cell ⟨g18, 1, none⟩ (iv ((rdD p0 x7 z_Tile).E)), .cell ⟨g18, 0, none⟩ (iv ((rdD p0 x7 z_Tile).N)), .cell ⟨g18, 3, none⟩ (iv ((rdD p0 x7 z_Tile).W))] (fun fb => by kernel_rfl) rfl ⟨hS23.cell 0 rfl 2 rfl, hS23.cell 0 rfl 1 rfl, hS23.cell 0 rfl 0 rfl, hS23.cell 0 rfl 3 rfl, trivial⟩ ?_
    refine WL.new hS23 26 [] (fun g => (.slice (some ⟨g, 0, none⟩) 1 1)) (.cells #[(iv ((rdD p0 x7 z_Tile).S)), (iv ((rdD p0 x7 z_Tile).E)), (iv ((rdD p0 x7 z_Tile).N)), (iv ((rdD p0 x7 z_Tile).W))] 50 (0, 0)) [] (fun fb g => by kernel_rfl) trivial (fun g24 w25 hS26 => ?_)
    refine ⟨trivial, ?_⟩
    have hS27 := hS.go w25 [rowO 50 enc_Tile (some ⟨g24, 0, none⟩) 1 [(Tile.mk ((rdD p0 x7 z_Tile).S) ((rdD p0 x7 z_Tile).E) ((rdD p0 x7 z_Tile).N) ((rdD p0 x7 z_Tile).W))], blk g18 (.cells #[(iv ((rdD p0 x7 z_Tile).N)), (iv ((rdD p0 x7 z_Tile).E)), (iv ((rdD p0 x7 z_Tile).S)), (iv ((rdD p0 x7 z_Tile).W))] 50 (0, 0)), rowO 50 enc_Tile A4 c5 l6] (hS26.map1 0 _ (fun h => rowO.ofBlk h rfl (Nat.le_of_ble_eq_true (by kernel_rfl))) (fun _ h => by obtain ⟨_, h1, h2⟩ := h; injection h1 with h1; subst h1; exact h2) [1, 2] (by decide) (by decide))
    obtain ⟨h28, hl15⟩ := as_some hl15
    refine WL.append hS27 2 (d := 27) (tS := 23) (z := (.agg #[(iv 0), (iv 0), (iv 0), (iv 0)])) (bytes := 32) (c2 := 1) rfl (fun fb => by kernel_rfl) (rowO.rd (hS27.own 0).1) (by kernel_rfl) (by kernel_rfl) rfl (by decide) h28 (by decide) [0, 1] (by decide) (by decide) (fun A29 c30 w31 hS32 => ?_)
    refine ⟨trivial, ?_⟩
    refine seg 13 [] [0, 3, 4] [(0, (sv Aa p0 ca)), (3, (sv A29 (l6 ++ [(Tile.mk ((rdD p0 x7 z_Tile).S) ((rdD p0 x7 z_Tile).E) ((rdD p0 x7 z_Tile).N) ((rdD p0 x7 z_Tile).W))]) c30)), (4, (iv x7))] [] (fun fb => by kernel_rfl) rfl trivial ?_
    refine WL.done rfl ?_
    refine WX.blockN (WX.next ?_)
    refine WC.region ?_
    refine seg 3 [] [0, 3, 4] [(0, (sv Aa p0 ca)), (3, (sv A29 (l6 ++ [(Tile.mk ((rdD p0 x7 z_Tile).S) ((rdD p0 x7 z_Tile).E) ((rdD p0 x7 z_Tile).N) ((rdD p0 x7 z_Tile).W))]) c30)), (4, (iv (w64 (x7 + 1))))] [] (fun fb => by kernel_rfl) rfl trivial ?_
    refine WL.done rfl ?_
    exact WX.again k12 (Nat.lt_succ_self _) ((l6 ++ [(Tile.mk ((rdD p0 x7 z_Tile).S) ((rdD p0 x7 z_Tile).E) ((rdD p0 x7 z_Tile).N) ((rdD p0 x7 z_Tile).W))], w64 (x7 + 1)), A29, c30) [0, 3, 4] rfl ⟨(hS32.subR [0]).sub [0] (by decide), hl15⟩
   refine WC.condF2 (fun fb => by kernel_rfl) h16 ?_
   refine WC.exit ?_
   injection hl15 with hl15
   exact WX.thenX (WX.thenX (WX.blockHere (WX.to Kx10 (l6, A4, c5) [3] rfl ⟨(hS14.subR [0]).sub [0] (by decide), hl15.symm⟩)))
 rintro ⟨y36, A8, c9⟩ w33 ⟨hS34, hq35⟩
 subst hq35
 refine WX.next (WC.seq (WC.region ?_))
 refine seg 2 [] [2] [(2, (sv A8 x10 c9))] [] (fun fb => by kernel_rfl) rfl trivial ?_
 refine WL.done rfl (WX.next ?_)
 refine WC.ret ?_
 injection hf with hf
 subst hf
 exact WX.ret_ [] (sv A8 x10 c9) [] (fun fb => by kernel_rfl) trivial ⟨_, rfl, A8, c9, rfl, (hS34.sub [0] (by decide)).noR⟩
theorem ref01_Turn_calls (k : Nat) (p0 : List Tile) (Aa : Option Addr) (ca : Nat) (r : (List Tile)) (w : World) (hR0 : RO NoS w (rowR enc_Tile Aa ca p0)) (hf : ref01_Turn k p0 = some r) :
  CallsR Tryd.prog 20 #[(sv Aa p0 ca)] w (fun v w' => ∃ (A1_ : Option Addr), ∃ (c1_ : Nat), v = (sv A1_ r c1_) ∧ St NoS w w' [] [rowO 50 enc_Tile A1_ c1_ r]) := by
 have hS : St NoS w w [rowR enc_Tile Aa ca p0] [] := St.init (ro_cons hR0 (ro_nil _ _))
 refine enter 29 Tryd.func20 rfl Tryd.ntmps20 rfl ?_
 unfold ref01_Turn at hf
 refine WC.seq (WC.region ?_)
 refine seg 1 [] [0] [(0, (sv Aa p0 ca))] [] (fun fb => by kernel_rfl) rfl trivial ?_
 refine WL.done rfl (WX.next (WC.seq (WC.region ?_)))
 refine seg 1 [] [0, 3] [(0, (sv Aa p0 ca)), (3, (.slice none 0 0))] [] (fun fb => by kernel_rfl) rfl trivial ?_
 refine WL.done rfl (WX.next (WC.seq (WC.seq (WC.region ?_))))
 refine seg 1 [] [0, 3, 4] [(0, (sv Aa p0 ca)), (3, (.slice none 0 0)), (4, (iv 0))] [] (fun fb => by kernel_rfl) rfl trivial ?_
 refine WL.done rfl (WX.next ?_)
 have hS3 := hS.nilrow 50 enc_Tile
 obtain ⟨x10, hx11, hf⟩ := bind_some hf
 refine WC.cutN (T := (List Tile) × (Option Addr) × Nat) (fun t => [(3, (sv t.2.1 t.1 t.2.2))]) (fun t w1 => St NoS w w1 [rowR enc_Tile Aa ca p0] [rowO 50 enc_Tile t.2.1 t.2.2 t.1] ∧ x10 = t.1) (fun Kx10 => ?_) ?_
 ·
  refine WC.block ?_
  refine WC.loop (T := ((List Tile) × Int) × (Option Addr) × Nat) (fun t => [(0, (sv Aa p0 ca)), (3, (sv t.2.1 t.1.1 t.2.2)), (4, (iv t.1.2))]) (fun n t w1 => St NoS w w1 [rowR enc_Tile Aa ca p0] [rowO 50 enc_Tile t.2.1 t.2.2 t.1.1] ∧ ref01_Turn.l0 n t.1.1 t.1.2 p0 = some x10) k ((([] : List Tile), 0), none, 0) [0, 3, 4] rfl ⟨(hS3.subR [0]).sub [0] (by decide), hx11⟩ ?_
  rintro k12 ⟨⟨l6, x7⟩, A4, c5⟩ w13 ⟨hS14, hl15⟩
  cases k12 with
  | zero => rw [ref01_Turn.l0] at hl15; cases hl15
  | succ k12 =>
   rw [ref01_Turn.l0] at hl15
   refine WC.seq (WC.seq (WC.region ?_))
   refine seg 4 [] [0, 3, 4, 9] [(0, (sv Aa p0 ca)), (3, (sv A4 l6 c5)), (4, (iv x7)), (9, (bv (decide (x7 < (p0.length : Int)))))] [] (fun fb => by kernel_rfl) rfl trivial ?_
   refine WL.done rfl (WX.next ?_)
   rcases br_some hl15 with ⟨h16, hl15⟩ | ⟨h16, hl15⟩
   ·refine WC.condT2 (fun fb => by kernel_rfl) h16 ?_
    refine WC.skip (WX.next (WC.seq (WC.block (WC.seq (WC.region ?_)))))
    refine seg 2 [] [0, 3, 4, 12, 13] [(0, (sv Aa p0 ca)), (3, (sv A4 l6 c5)), (4, (iv x7)), (12, (sv Aa p0 ca)), (13, (iv x7))] [] (fun fb => by kernel_rfl) rfl trivial ?_
    obtain ⟨h17, hl15⟩ := as_some hl15
    refine seg 4 [.v (iv ((rdD p0 x7 z_Tile).N)), .v (iv ((rdD p0 x7 z_Tile).E)), .v (iv ((rdD p0 x7 z_Tile).S)), .v (iv ((rdD p0 x7 z_Tile).W))] [0, 3, 4, 15] [(0, (sv Aa p0 ca)), (3, (sv A4 l6 c5)), (4, (iv x7)), (15, (.agg #[(iv ((rdD p0 x7 z_Tile).N)), (iv ((rdD p0 x7 z_Tile).E)), (iv ((rdD p0 x7 z_Tile).S)), (iv ((rdD p0 x7 z_Tile).W))]))] [.idx Aa x7 p0.length, .cell ((adr Aa).add ((x7).toNat * 4)) (iv ((rdD p0 x7 z_Tile).N)), .cell (((adr Aa).add ((x7).toNat * 4)).add 1) (iv ((rdD p0 x7 z_Tile).E)), .cell (((adr Aa).add ((x7).toNat * 4)).add 2) (iv ((rdD p0 x7 z_Tile).S)), .cell (((adr Aa).add ((x7).toNat * 4)).add 3) (iv ((rdD p0 x7 z_Tile).W))] (fun fb => by kernel_rfl) rfl ⟨rowR.adr (hS14.rd 0).1 h17.1 h17.2, rowR.cell (hS14.rd 0).1 z_Tile h17.1 h17.2 0 rfl, rowR.cell (hS14.rd 0).1 z_Tile h17.1 h17.2 1 rfl, rowR.cell (hS14.rd 0).1 z_Tile h17.1 h17.2 2 rfl, rowR.cell (hS14.rd 0).1 z_Tile h17.1 h17.2 3 rfl, trivial⟩ ?_
    refine WL.new hS14 5 [] (fun g => (pt g)) (.cells #[(iv 0), (iv 0), (iv 0), (iv 0)] 50 (0, 0)) [] (fun fb g => by kernel_rfl) trivial (fun g18 w19 hS21 => ?_)
    refine ⟨trivial, ?_⟩
    refine WL.store hS21 0 rfl [(0, (iv ((rdD p0 x7 z_Tile).N))), (1, (iv ((rdD p0 x7 z_Tile).E))), (2, (iv ((rdD p0 x7 z_Tile).S))), (3, (iv ((rdD p0 x7 z_Tile).W)))] #[(iv ((rdD p0 x7 z_Tile).N)), (iv ((rdD p0 x7 z_Tile).E)), (iv ((rdD p0 x7 z_Tile).S)), (iv ((rdD p0 x7 z_Tile).W))] (fun fb => by kernel_rfl) (by kernel_rfl) rfl [1] (by decide) (by decide) (fun w22 hS23 => ?_)
    refine ⟨trivial, ?_⟩
    refine WL.done rfl (WX.next (WC.region ?_))
    refine seg 10 [.v (iv ((rdD p0 x7 z_Tile).W)), .v (iv ((rdD p0 x7 z_Tile).N)), .v (iv ((rdD p0 x7 z_Tile).E)), .v (iv ((rdD p0 x7 z_Tile).S))] [0, 4, 16, 25] [(0, (sv Aa p0 ca)), (4, (iv x7)), (16, (sv A4 l6 c5)), (25, (.agg #[(iv ((rdD p0 x7 z_Tile).W)), (iv ((rdD p0 x7 z_Tile).N)), (iv ((rdD p0 x7 z_Tile).E)), (iv ((rdD p0 x7 z_Tile).S))]))] [.cell ⟨g18, 3, none⟩ (iv ((rdD p0 x7 z_Tile).W)), .cell ⟨g18, 0, none⟩ (iv ((rdD p0 x7 z_Tile).N)), .cell ⟨g18, 1, none⟩ (iv ((rdD p0 x7 z_Tile).E)), .cell ⟨g18, 2, none⟩ (iv ((rdD p0 x7 z_Tile).S))] (fun fb => by kernel_rfl) rfl ⟨hS23.cell 0 rfl 3 rfl, hS23.cell 0 rfl 0 rfl, hS23.cell 0 rfl 1 rfl, hS23.cell 0 rfl 2 rfl, trivial⟩ ?_
    refine WL.new hS23 26 [] (fun g => (.slice (some ⟨g, 0, none⟩) 1 1)) (.cells #[(iv ((rdD p0 x7 z_Tile).W)), (iv ((rdD p0 x7 z_Tile).N)), (iv ((rdD p0 x7 z_Tile).E)), (iv ((rdD p0 x7 z_Tile).S))] 50 (0, 0)) [] (fun fb g => by kernel_rfl) trivial (fun g24 w25 hS26 => ?_)
    refine ⟨trivial, ?_⟩
    have hS27 := hS.go w25 [rowO 50 enc_Tile (some ⟨g24, 0, none⟩) 1 [(Tile.mk ((rdD p0 x7 z_Tile).W) ((rdD p0 x7 z_Tile).N) ((rdD p0 x7 z_Tile).E) ((rdD p0 x7 z_Tile).S))], blk g18 (.cells #[(iv ((rdD p0 x7 z_Tile).N)), (iv ((rdD p0 x7 z_Tile).E)), (iv ((rdD p0 x7 z_Tile).S)), (iv ((rdD p0 x7 z_Tile).W))] 50 (0, 0)), rowO 50 enc_Tile A4 c5 l6] (hS26.map1 0 _ (fun h => rowO.ofBlk h rfl (Nat.le_of_ble_eq_true (by kernel_rfl))) (fun _ h => by obtain ⟨_, h1, h2⟩ := h; injection h1 with h1; subst h1; exact h2) [1, 2] (by decide) (by decide))
    obtain ⟨h28, hl15⟩ := as_some hl15
    refine WL.append hS27 2 (d := 27) (tS := 23) (z := (.agg #[(iv 0), (iv 0), (iv 0), (iv 0)])) (bytes := 32) (c2 := 1) rfl (fun fb => by kernel_rfl) (rowO.rd (hS27.own 0).1) (by kernel_rfl) (by kernel_rfl) rfl (by decide) h28 (by decide) [0, 1] (by decide) (by decide) (fun A29 c30 w31 hS32 => ?_)
    refine ⟨trivial, ?_⟩
    refine seg 13 [] [0, 3, 4] [(0, (sv Aa p0 ca)), (3, (sv A29 (l6 ++ [(Tile.mk ((rdD p0 x7 z_Tile).W) ((rdD p0 x7 z_Tile).N) ((rdD p0 x7 z_Tile).E) ((rdD p0 x7 z_Tile).S))]) c30)), (4, (iv x7))] [] (fun fb => by kernel_rfl) rfl trivial ?_
    refine WL.done rfl ?_
    refine WX.blockN (WX.next ?_)
    refine WC.region ?_
    refine seg 3 [] [0, 3, 4] [(0, (sv Aa p0 ca)), (3, (sv A29 (l6 ++ [(Tile.mk ((rdD p0 x7 z_Tile).W) ((rdD p0 x7 z_Tile).N) ((rdD p0 x7 z_Tile).E) ((rdD p0 x7 z_Tile).S))]) c30)), (4, (iv (w64 (x7 + 1))))] [] (fun fb => by kernel_rfl) rfl trivial ?_
    refine WL.done rfl ?_
    exact WX.again k12 (Nat.lt_succ_self _) ((l6 ++ [(Tile.mk ((rdD p0 x7 z_Tile).W) ((rdD p0 x7 z_Tile).N) ((rdD p0 x7 z_Tile).E) ((rdD p0 x7 z_Tile).S))], w64 (x7 + 1)), A29, c30) [0, 3, 4] rfl ⟨(hS32.subR [0]).sub [0] (by decide), hl15⟩
   refine WC.condF2 (fun fb => by kernel_rfl) h16 ?_
   refine WC.exit ?_
   injection hl15 with hl15
   exact WX.thenX (WX.thenX (WX.blockHere (WX.to Kx10 (l6, A4, c5) [3] rfl ⟨(hS14.subR [0]).sub [0] (by decide), hl15.symm⟩)))
 rintro ⟨y36, A8, c9⟩ w33 ⟨hS34, hq35⟩
 subst hq35
 refine WX.next (WC.seq (WC.region ?_))
 refine seg 2 [] [2] [(2, (sv A8 x10 c9))] [] (fun fb => by kernel_rfl) rfl trivial ?_
 refine WL.done rfl (WX.next ?_)
 refine WC.ret ?_
 injection hf with hf
 subst hf
 exact WX.ret_ [] (sv A8 x10 c9) [] (fun fb => by kernel_rfl) trivial ⟨_, rfl, A8, c9, rfl, (hS34.sub [0] (by decide)).noR⟩
theorem law01_TileSets_calls (k : Nat) (p0 : List Tile) (Aa : Option Addr) (ca : Nat) (mG : Glo) (r : Bool) (w : World) (hR0 : RO NoS w (rowR enc_Tile Aa ca p0)) (hR1 : RO NoS w (gloO Tryd.prog 2 5 0 1 mG)) (hf : law01_TileSets k p0 = some r) :
  CallsR Tryd.prog 4 #[(sv Aa p0 ca)] w (fun v w' => v = (bv r) ∧ Keeps NoS w w') := by
 have hS : St NoS w w [rowR enc_Tile Aa ca p0, gloO Tryd.prog 2 5 0 1 mG] [] := St.init (ro_cons hR0 (ro_cons hR1 (ro_nil _ _)))
 refine enter 121 Tryd.func4 rfl Tryd.ntmps4 rfl ?_
 unfold law01_TileSets at hf
 refine WC.seq (WC.region ?_)
 refine seg 1 [] [0] [(0, (sv Aa p0 ca))] [] (fun fb => by kernel_rfl) rfl trivial ?_
 refine WL.done rfl (WX.next (WC.seq (WC.seq (WC.region ?_))))
 refine seg 1 [] [0, 13] [(0, (sv Aa p0 ca)), (13, (sv Aa p0 ca))] [] (fun fb => by kernel_rfl) rfl trivial ?_
 obtain ⟨t1, ht2, hf⟩ := bind_some hf
 refine WL.call (some 14) 10 #[(sv Aa p0 ca)] (fun fb => by kernel_rfl) (law01_wide_calls p0 Aa ca t1 _ (hS.rd 0) ht2) (fun v w3 hR4 => ?_)
 obtain ⟨rfl, hk_⟩ := hR4
 have hS5 := hS.keepN hk_
 refine ⟨trivial, ?_⟩
 refine WL.done rfl (WX.next ?_)
 rcases br_some hf with ⟨h6, hf⟩ | ⟨h6, hf⟩
 ·refine WC.condT2 (fun fb => by kernel_rfl) h6 ?_
  refine WC.seq (WC.region ?_)
  obtain ⟨t7, ht8, hf⟩ := bind_some hf
  refine WL.call (some 15) 5 #[] (fun fb => by kernel_rfl) (law01_awake_calls _ mG t7 _ (hS5.rd 1) ht8) (fun v w9 hR10 => ?_)
  obtain ⟨rfl, hk_⟩ := hR10
  have hS11 := hS5.keepN hk_
  refine ⟨trivial, ?_⟩
  refine seg 2 [] [2] [(2, (bv t7))] [] (fun fb => by kernel_rfl) rfl trivial ?_
  refine WL.done rfl (WX.next ?_)
  refine WC.ret ?_
  injection hf with hf
  subst hf
  exact WX.thenR (WX.ret_ [] (bv t7) [] (fun fb => by kernel_rfl) trivial ⟨_, rfl, rfl, hS11.keep⟩)
 refine WC.condF2 (fun fb => by kernel_rfl) h6 ?_
 refine WC.skip (WX.next (WC.seq (WC.region ?_)))
 refine seg 1 [] [0, 17] [(0, (sv Aa p0 ca)), (17, (sv Aa p0 ca))] [] (fun fb => by kernel_rfl) rfl trivial ?_
 obtain ⟨t12, ht13, hf⟩ := bind_some hf
 refine WL.call (some 18) 11 #[(sv Aa p0 ca)] (fun fb => by kernel_rfl) (tile_Mirror_calls _ p0 Aa ca t12 _ (hS5.rd 0) ht13) (fun v w14 hR15 => ?_)
 obtain ⟨A17, c18, rfl, hk_⟩ := hR15
 have hS16 := hS.go w14 [rowO 50 enc_Tile A17 c18 t12.1] (hS5.call hk_ [] [] (fun g hg => hg.elim) (by simp) (by decide))
 refine ⟨trivial, ?_⟩
 refine seg 7 [] [0, 3, 4] [(0, (sv Aa p0 ca)), (3, (sv A17 t12.1 c18)), (4, (iv t12.2))] [] (fun fb => by kernel_rfl) rfl trivial ?_
 refine WL.done rfl (WX.next (WC.seq (WC.region ?_)))
 refine seg 1 [] [0, 3, 4, 22] [(0, (sv Aa p0 ca)), (3, (sv A17 t12.1 c18)), (4, (iv t12.2)), (22, (sv Aa p0 ca))] [] (fun fb => by kernel_rfl) rfl trivial ?_
 obtain ⟨t19, ht20, hf⟩ := bind_some hf
 refine WL.call (some 23) 12 #[(sv Aa p0 ca)] (fun fb => by kernel_rfl) (tile_Upturn_calls _ p0 Aa ca t19 _ (hS16.rd 0) ht20) (fun v w21 hR22 => ?_)
 obtain ⟨A24, c25, rfl, hk_⟩ := hR22
 have hS23 := hS16.go w21 [rowO 50 enc_Tile A24 c25 t19.1, rowO 50 enc_Tile A17 c18 t12.1] (hS16.call hk_ [] [0] (fun g hg => hg.elim) (by simp) (by decide))
 refine ⟨trivial, ?_⟩
 refine seg 7 [] [0, 3, 4, 5, 6] [(0, (sv Aa p0 ca)), (3, (sv A17 t12.1 c18)), (4, (iv t12.2)), (5, (sv A24 t19.1 c25)), (6, (iv t19.2))] [] (fun fb => by kernel_rfl) rfl trivial ?_
 refine WL.done rfl (WX.next (WC.seq (WC.region ?_)))
 refine seg 1 [] [0, 3, 4, 5, 6, 27] [(0, (sv Aa p0 ca)), (3, (sv A17 t12.1 c18)), (4, (iv t12.2)), (5, (sv A24 t19.1 c25)), (6, (iv t19.2)), (27, (sv Aa p0 ca))] [] (fun fb => by kernel_rfl) rfl trivial ?_
 obtain ⟨t26, ht27, hf⟩ := bind_some hf
 refine WL.call (some 28) 13 #[(sv Aa p0 ca)] (fun fb => by kernel_rfl) (tile_Turn_calls _ p0 Aa ca t26 _ (hS23.rd 0) ht27) (fun v w28 hR29 => ?_)
 obtain ⟨A31, c32, rfl, hk_⟩ := hR29
 have hS30 := hS23.go w28 [rowO 50 enc_Tile A31 c32 t26.1, rowO 50 enc_Tile A24 c25 t19.1, rowO 50 enc_Tile A17 c18 t12.1] (hS23.call hk_ [] [0, 1] (fun g hg => hg.elim) (by simp) (by decide))
 refine ⟨trivial, ?_⟩
 refine seg 7 [] [0, 3, 4, 5, 6, 7, 8] [(0, (sv Aa p0 ca)), (3, (sv A17 t12.1 c18)), (4, (iv t12.2)), (5, (sv A24 t19.1 c25)), (6, (iv t19.2)), (7, (sv A31 t26.1 c32)), (8, (iv t26.2))] [] (fun fb => by kernel_rfl) rfl trivial ?_
 refine WL.done rfl (WX.next (WC.seq (WC.region ?_)))
 refine seg 1 [] [0, 3, 4, 5, 6, 7, 8, 32] [(0, (sv Aa p0 ca)), (3, (sv A17 t12.1 c18)), (4, (iv t12.2)), (5, (sv A24 t19.1 c25)), (6, (iv t19.2)), (7, (sv A31 t26.1 c32)), (8, (iv t26.2)), (32, (sv Aa p0 ca))] [] (fun fb => by kernel_rfl) rfl trivial ?_
 obtain ⟨t33, ht34, hf⟩ := bind_some hf
 refine WL.call (some 33) 8 #[(sv Aa p0 ca)] (fun fb => by kernel_rfl) (tile_Text_calls _ p0 Aa ca mG t33 _ (hS30.rd 0) (hS30.rd 1) ht34) (fun v w35 hR36 => ?_)
 obtain ⟨rfl, hk_⟩ := hR36
 have hS37 := hS30.keepN hk_
 refine ⟨trivial, ?_⟩
 refine seg 7 [] [0, 3, 4, 5, 6, 7, 8, 9, 10] [(0, (sv Aa p0 ca)), (3, (sv A17 t12.1 c18)), (4, (iv t12.2)), (5, (sv A24 t19.1 c25)), (6, (iv t19.2)), (7, (sv A31 t26.1 c32)), (8, (iv t26.2)), (9, (.string t33.1)), (10, (iv t33.2))] [] (fun fb => by kernel_rfl) rfl trivial ?_
 refine WL.done rfl (WX.next (WC.seq (WC.seq (WC.region ?_))))
 refine seg 1 [] [0, 3, 4, 5, 6, 7, 8, 9, 10, 36] [(0, (sv Aa p0 ca)), (3, (sv A17 t12.1 c18)), (4, (iv t12.2)), (5, (sv A24 t19.1 c25)), (6, (iv t19.2)), (7, (sv A31 t26.1 c32)), (8, (iv t26.2)), (9, (.string t33.1)), (10, (iv t33.2)), (36, (sv Aa p0 ca))] [] (fun fb => by kernel_rfl) rfl trivial ?_
 obtain ⟨t38, ht39, hf⟩ := bind_some hf
 refine WL.call (some 37) 14 #[(sv Aa p0 ca)] (fun fb => by kernel_rfl) (tile_Valid_calls _ p0 Aa ca t38 _ (hS37.rd 0) ht39) (fun v w40 hR41 => ?_)
 obtain ⟨rfl, hk_⟩ := hR41
 have hS42 := hS37.keepN hk_
 refine ⟨trivial, ?_⟩
 refine seg 3 [] [0, 3, 4, 5, 6, 7, 8, 9, 10, 37, 38] [(0, (sv Aa p0 ca)), (3, (sv A17 t12.1 c18)), (4, (iv t12.2)), (5, (sv A24 t19.1 c25)), (6, (iv t19.2)), (7, (sv A31 t26.1 c32)), (8, (iv t26.2)), (9, (.string t33.1)), (10, (iv t33.2)), (37, (bv t38)), (38, (sv Aa p0 ca))] [] (fun fb => by kernel_rfl) rfl trivial ?_
 obtain ⟨t43, ht44, hf⟩ := bind_some hf
 refine WL.call (some 39) 15 #[(sv Aa p0 ca)] (fun fb => by kernel_rfl) (ref01_Valid_calls _ p0 Aa ca t43 _ (hS42.rd 0) ht44) (fun v w45 hR46 => ?_)
 obtain ⟨rfl, hk_⟩ := hR46
 have hS47 := hS42.keepN hk_
 refine ⟨trivial, ?_⟩
 refine seg 5 [] [0, 3, 4, 5, 6, 7, 8, 9, 10, 40] [(0, (sv Aa p0 ca)), (3, (sv A17 t12.1 c18)), (4, (iv t12.2)), (5, (sv A24 t19.1 c25)), (6, (iv t19.2)), (7, (sv A31 t26.1 c32)), (8, (iv t26.2)), (9, (.string t33.1)), (10, (iv t33.2)), (40, (bv (t38 != t43)))] [] (fun fb => by kernel_rfl) rfl trivial ?_
 refine WL.done rfl (WX.next ?_)
 rcases br_some hf with ⟨h48, hf⟩ | ⟨h48, hf⟩
 ·refine WC.condT2 (fun fb => by kernel_rfl) h48 ?_
  refine WC.seq (WC.region ?_)
  refine seg 1 [] [2] [(2, (bv false))] [] (fun fb => by kernel_rfl) rfl trivial ?_
  refine WL.done rfl (WX.next ?_)
  refine WC.ret ?_
  injection hf with hf
  subst hf
  exact WX.thenR (WX.ret_ [] (bv false) [] (fun fb => by kernel_rfl) trivial ⟨_, rfl, rfl, hS47.keep⟩)
 refine WC.condF2 (fun fb => by kernel_rfl) h48 ?_
 refine WC.skip (WX.next (WC.seq (WC.seq (WC.region ?_))))
 refine seg 1 [] [0, 3, 4, 5, 6, 7, 8, 9, 10, 41] [(0, (sv Aa p0 ca)), (3, (sv A17 t12.1 c18)), (4, (iv t12.2)), (5, (sv A24 t19.1 c25)), (6, (iv t19.2)), (7, (sv A31 t26.1 c32)), (8, (iv t26.2)), (9, (.string t33.1)), (10, (iv t33.2)), (41, (sv Aa p0 ca))] [] (fun fb => by kernel_rfl) rfl trivial ?_
 obtain ⟨t49, ht50, hf⟩ := bind_some hf
 refine WL.call (some 42) 15 #[(sv Aa p0 ca)] (fun fb => by kernel_rfl) (ref01_Valid_calls _ p0 Aa ca t49 _ (hS47.rd 0) ht50) (fun v w51 hR52 => ?_)
 obtain ⟨rfl, hk_⟩ := hR52
 have hS53 := hS47.keepN hk_
 refine ⟨trivial, ?_⟩
 refine seg 3 [] [0, 3, 4, 5, 6, 7, 8, 9, 10, 43] [(0, (sv Aa p0 ca)), (3, (sv A17 t12.1 c18)), (4, (iv t12.2)), (5, (sv A24 t19.1 c25)), (6, (iv t19.2)), (7, (sv A31 t26.1 c32)), (8, (iv t26.2)), (9, (.string t33.1)), (10, (iv t33.2)), (43, (bv (!t49)))] [] (fun fb => by kernel_rfl) rfl trivial ?_
 refine WL.done rfl (WX.next ?_)
 rcases br_some hf with ⟨h54, hf⟩ | ⟨h54, hf⟩
 ·refine WC.condT2 (fun fb => by kernel_rfl) h54 ?_
  refine WC.seq (WC.region ?_)
  refine seg 2 [] [5, 6, 7, 8, 9, 10, 44, 45] [(5, (sv A24 t19.1 c25)), (6, (iv t19.2)), (7, (sv A31 t26.1 c32)), (8, (iv t26.2)), (9, (.string t33.1)), (10, (iv t33.2)), (44, (sv A17 t12.1 c18)), (45, (iv t12.2))] [] (fun fb => by kernel_rfl) rfl trivial ?_
  obtain ⟨t55, ht56, hf⟩ := bind_some hf
  refine WL.call (some 46) 16 #[(sv A17 t12.1 c18), (iv t12.2)] (fun fb => by kernel_rfl) (law01_none_calls t12.1 t12.2 A17 c18 t55 _ (hS53.ow 2).ofO ht56) (fun v w57 hR58 => ?_)
  obtain ⟨rfl, hk_⟩ := hR58
  have hS59 := hS53.keepN hk_
  refine ⟨trivial, ?_⟩
  refine seg 4 [] [5, 6, 7, 8, 9, 10, 47] [(5, (sv A24 t19.1 c25)), (6, (iv t19.2)), (7, (sv A31 t26.1 c32)), (8, (iv t26.2)), (9, (.string t33.1)), (10, (iv t33.2)), (47, (bv t55))] [] (fun fb => by kernel_rfl) rfl trivial ?_
  obtain ⟨x60, hx61, hf⟩ := bind_some hf
  refine WL.cutW (T := Bool) 8 (fun t => [(7, (sv A31 t26.1 c32)), (8, (iv t26.2)), (9, (.string t33.1)), (10, (iv t33.2)), (51, (bv t))]) (fun t w1 => (St NoS w w1 [rowR enc_Tile Aa ca p0, gloO Tryd.prog 2 5 0 1 mG] [rowO 50 enc_Tile A31 c32 t26.1] ∧ x60 = t) ∧ CellsOK [] w1) (fun K => ?_) ?_
  ·
   rcases br_some hx61 with ⟨h62, hx61⟩ | ⟨h62, hx61⟩
   ·
    refine WL.setB 47 h62 rfl ?_
    refine seg 6 [] [7, 8, 9, 10, 47, 48, 49] [(7, (sv A31 t26.1 c32)), (8, (iv t26.2)), (9, (.string t33.1)), (10, (iv t33.2)), (47, (bv true)), (48, (sv A24 t19.1 c25)), (49, (iv t19.2))] [] (fun fb => by kernel_rfl) rfl trivial ?_
    obtain ⟨t63, ht65, hx61⟩ := bind_some hx61
    refine WL.call (some 50) 16 #[(sv A24 t19.1 c25), (iv t19.2)] (fun fb => by kernel_rfl) (law01_none_calls t19.1 t19.2 A24 c25 t63 _ (hS59.ow 1).ofO ht65) (fun v w66 hR67 => ?_)
    obtain ⟨rfl, hk_⟩ := hR67
    have hS68 := hS59.keepN hk_
    refine ⟨trivial, ?_⟩
    refine seg 8 [] [7, 8, 9, 10, 51] [(7, (sv A31 t26.1 c32)), (8, (iv t26.2)), (9, (.string t33.1)), (10, (iv t33.2)), (51, (bv t63))] [] (fun fb => by kernel_rfl) rfl trivial ?_
    injection hx61 with hx61
    exact WL.to K t63 [7, 8, 9, 10, 51] rfl ⟨⟨(hS68.subR [0, 1]).sub [0] (by decide), hx61.symm⟩, trivial⟩
   refine WL.setB 47 h62 rfl ?_
   refine seg 8 [] [7, 8, 9, 10, 51] [(7, (sv A31 t26.1 c32)), (8, (iv t26.2)), (9, (.string t33.1)), (10, (iv t33.2)), (51, (bv false))] [] (fun fb => by kernel_rfl) rfl trivial ?_
   injection hx61 with hx61
   exact WL.to K false [7, 8, 9, 10, 51] rfl ⟨⟨(hS59.subR [0, 1]).sub [0] (by decide), hx61.symm⟩, trivial⟩
  rintro y69 w71 ⟨⟨hS72, hq70⟩, hF73⟩
  subst hq70
  refine seg 9 [] [7, 8, 9, 10, 52] [(7, (sv A31 t26.1 c32)), (8, (iv t26.2)), (9, (.string t33.1)), (10, (iv t33.2)), (52, (bv x60))] [] (fun fb => by kernel_rfl) rfl trivial ?_
  obtain ⟨x74, hx75, hf⟩ := bind_some hf
  refine WL.cutW (T := Bool) 13 (fun t => [(9, (.string t33.1)), (10, (iv t33.2)), (56, (bv t))]) (fun t w1 => (St NoS w w1 [rowR enc_Tile Aa ca p0, gloO Tryd.prog 2 5 0 1 mG] [] ∧ x74 = t) ∧ CellsOK [] w1) (fun K => ?_) ?_
  ·
   rcases br_some hx75 with ⟨h76, hx75⟩ | ⟨h76, hx75⟩
   ·
    refine WL.setB 52 h76 rfl ?_
    refine seg 11 [] [9, 10, 52, 53, 54] [(9, (.string t33.1)), (10, (iv t33.2)), (52, (bv true)), (53, (sv A31 t26.1 c32)), (54, (iv t26.2))] [] (fun fb => by kernel_rfl) rfl trivial ?_
    obtain ⟨t77, ht78, hx75⟩ := bind_some hx75
    refine WL.call (some 55) 16 #[(sv A31 t26.1 c32), (iv t26.2)] (fun fb => by kernel_rfl) (law01_none_calls t26.1 t26.2 A31 c32 t77 _ (hS72.ow 0).ofO ht78) (fun v w79 hR80 => ?_)
    obtain ⟨rfl, hk_⟩ := hR80
    have hS81 := hS72.keepN hk_
    refine ⟨trivial, ?_⟩
    refine seg 13 [] [9, 10, 56] [(9, (.string t33.1)), (10, (iv t33.2)), (56, (bv t77))] [] (fun fb => by kernel_rfl) rfl trivial ?_
    injection hx75 with hx75
    exact WL.to K t77 [9, 10, 56] rfl ⟨⟨(hS81.subR [0, 1]).sub [] (by decide), hx75.symm⟩, trivial⟩
   refine WL.setB 52 h76 rfl ?_
   refine seg 13 [] [9, 10, 56] [(9, (.string t33.1)), (10, (iv t33.2)), (56, (bv false))] [] (fun fb => by kernel_rfl) rfl trivial ?_
   injection hx75 with hx75
   exact WL.to K false [9, 10, 56] rfl ⟨⟨(hS72.subR [0, 1]).sub [] (by decide), hx75.symm⟩, trivial⟩
  rintro y82 w84 ⟨⟨hS85, hq83⟩, hF86⟩
  subst hq83
  refine seg 14 [] [9, 10, 57] [(9, (.string t33.1)), (10, (iv t33.2)), (57, (bv x74))] [] (fun fb => by kernel_rfl) rfl trivial ?_
  refine WL.cutV (T := Bool) 17 (fun t => [(60, (bv t)), (9, (.string t33.1))]) (fun t => (x74 && (t33.2 == 1)) = t) (fun K => ?_) ?_
  ·
   rcases Bool.eq_false_or_eq_true x74 with h87 | h87
   ·
    refine WL.setB 57 h87 rfl ?_
    refine seg 17 [] [9, 60] [(9, (.string t33.1)), (60, (bv (t33.2 == 1)))] [] (fun fb => by kernel_rfl) rfl trivial ?_
    exact WL.toV K (t33.2 == 1) [60, 9] rfl (by first | (rw [h87]; done) | (rw [h87]; rfl))
   refine WL.setB 57 h87 rfl ?_
   refine seg 17 [] [9, 60] [(9, (.string t33.1)), (60, (bv false))] [] (fun fb => by kernel_rfl) rfl trivial ?_
   exact WL.toV K false [60, 9] rfl (by first | (rw [h87]; done) | (rw [h87]; rfl))
  rintro b88 rfl
  refine seg 18 [] [9, 61] [(9, (.string t33.1)), (61, (bv (x74 && (t33.2 == 1))))] [] (fun fb => by kernel_rfl) rfl trivial ?_
  refine WL.cutV (T := Bool) 21 (fun t => [(64, (bv t))]) (fun t => ((x74 && (t33.2 == 1)) && (strEq t33.1 (⟨#[]⟩ : ByteArray))) = t) (fun K => ?_) ?_
  ·
   rcases Bool.eq_false_or_eq_true (x74 && (t33.2 == 1)) with h89 | h89
   ·
    refine WL.setB 61 h89 rfl ?_
    refine seg 19 [] [61, 62] [(61, (bv true)), (62, (.string t33.1))] [] (fun fb => by kernel_rfl) rfl trivial ?_
    refine seg 20 [] [61, 63] [(61, (bv true)), (63, (bv (t33.1.toList == (⟨#[]⟩ : ByteArray).toList)))] [] (fun fb => by kernel_rfl) rfl trivial ?_
    refine WL.setB 63 (strEq_raw t33.1 (⟨#[]⟩ : ByteArray)) rfl ?_
    refine seg 21 [] [64] [(64, (bv (strEq t33.1 (⟨#[]⟩ : ByteArray))))] [] (fun fb => by kernel_rfl) rfl trivial ?_
    exact WL.toV K (strEq t33.1 (⟨#[]⟩ : ByteArray)) [64] rfl (by first | (rw [h89]; done) | (rw [h89]; rfl))
   refine WL.setB 61 h89 rfl ?_
   refine seg 21 [] [64] [(64, (bv false))] [] (fun fb => by kernel_rfl) rfl trivial ?_
   exact WL.toV K false [64] rfl (by first | (rw [h89]; done) | (rw [h89]; rfl))
  rintro b90 rfl
  refine seg 22 [] [65] [(65, (bv ((x74 && (t33.2 == 1)) && (strEq t33.1 (⟨#[]⟩ : ByteArray)))))] [] (fun fb => by kernel_rfl) rfl trivial ?_
  obtain ⟨x91, hx92, hf⟩ := bind_some hf
  refine WL.cutW (T := Bool) 24 (fun t => [(67, (bv t))]) (fun t w1 => (St NoS w w1 [rowR enc_Tile Aa ca p0, gloO Tryd.prog 2 5 0 1 mG] [] ∧ x91 = t) ∧ CellsOK [] w1) (fun K => ?_) ?_
  ·
   rcases br_some hx92 with ⟨h93, hx92⟩ | ⟨h93, hx92⟩
   ·
    refine WL.setB 65 h93 rfl ?_
    obtain ⟨t94, ht95, hx92⟩ := bind_some hx92
    refine WL.call (some 66) 5 #[] (fun fb => by kernel_rfl) (law01_awake_calls _ mG t94 _ (hS85.rd 1) ht95) (fun v w96 hR97 => ?_)
    obtain ⟨rfl, hk_⟩ := hR97
    have hS98 := hS85.keepN hk_
    refine ⟨trivial, ?_⟩
    refine seg 24 [] [67] [(67, (bv t94))] [] (fun fb => by kernel_rfl) rfl trivial ?_
    injection hx92 with hx92
    exact WL.to K t94 [67] rfl ⟨⟨(hS98.subR [0, 1]).sub [] (by decide), hx92.symm⟩, trivial⟩
   refine WL.setB 65 h93 rfl ?_
   refine seg 24 [] [67] [(67, (bv false))] [] (fun fb => by kernel_rfl) rfl trivial ?_
   injection hx92 with hx92
   exact WL.to K false [67] rfl ⟨⟨(hS85.subR [0, 1]).sub [] (by decide), hx92.symm⟩, trivial⟩
  rintro y99 w101 ⟨⟨hS102, hq100⟩, hF103⟩
  subst hq100
  refine seg 25 [] [2] [(2, (bv x91))] [] (fun fb => by kernel_rfl) rfl trivial ?_
  refine WL.done rfl (WX.next ?_)
  refine WC.ret ?_
  injection hf with hf
  subst hf
  exact WX.thenR (WX.ret_ [] (bv x91) [] (fun fb => by kernel_rfl) trivial ⟨_, rfl, rfl, hS102.keep⟩)
 refine WC.condF2 (fun fb => by kernel_rfl) h54 ?_
 refine WC.skip (WX.next (WC.seq (WC.seq (WC.region ?_))))
 refine seg 3 [] [0, 3, 5, 6, 7, 8, 9, 10, 70] [(0, (sv Aa p0 ca)), (3, (sv A17 t12.1 c18)), (5, (sv A24 t19.1 c25)), (6, (iv t19.2)), (7, (sv A31 t26.1 c32)), (8, (iv t26.2)), (9, (.string t33.1)), (10, (iv t33.2)), (70, (bv (t12.2 != 0)))] [] (fun fb => by kernel_rfl) rfl trivial ?_
 refine WL.cutV (T := Bool) 6 (fun t => [(73, (bv t)), (0, (sv Aa p0 ca)), (3, (sv A17 t12.1 c18)), (5, (sv A24 t19.1 c25)), (7, (sv A31 t26.1 c32)), (8, (iv t26.2)), (9, (.string t33.1)), (10, (iv t33.2))]) (fun t => ((t12.2 != 0) || (t19.2 != 0)) = t) (fun K => ?_) ?_
 ·
  rcases Bool.eq_false_or_eq_true (t12.2 != 0) with h104 | h104
  ·
   refine WL.setB 70 h104 rfl ?_
   refine seg 6 [] [0, 3, 5, 7, 8, 9, 10, 73] [(0, (sv Aa p0 ca)), (3, (sv A17 t12.1 c18)), (5, (sv A24 t19.1 c25)), (7, (sv A31 t26.1 c32)), (8, (iv t26.2)), (9, (.string t33.1)), (10, (iv t33.2)), (73, (bv true))] [] (fun fb => by kernel_rfl) rfl trivial ?_
   exact WL.toV K true [73, 0, 3, 5, 7, 8, 9, 10] rfl (by first | (rw [h104]; done) | (rw [h104]; rfl))
  refine WL.setB 70 h104 rfl ?_
  refine seg 6 [] [0, 3, 5, 7, 8, 9, 10, 73] [(0, (sv Aa p0 ca)), (3, (sv A17 t12.1 c18)), (5, (sv A24 t19.1 c25)), (7, (sv A31 t26.1 c32)), (8, (iv t26.2)), (9, (.string t33.1)), (10, (iv t33.2)), (73, (bv (t19.2 != 0)))] [] (fun fb => by kernel_rfl) rfl trivial ?_
  exact WL.toV K (t19.2 != 0) [73, 0, 3, 5, 7, 8, 9, 10] rfl (by first | (rw [h104]; done) | (rw [h104]; rfl))
 rintro b105 rfl
 refine seg 7 [] [0, 3, 5, 7, 8, 9, 10, 74] [(0, (sv Aa p0 ca)), (3, (sv A17 t12.1 c18)), (5, (sv A24 t19.1 c25)), (7, (sv A31 t26.1 c32)), (8, (iv t26.2)), (9, (.string t33.1)), (10, (iv t33.2)), (74, (bv ((t12.2 != 0) || (t19.2 != 0))))] [] (fun fb => by kernel_rfl) rfl trivial ?_
 refine WL.cutV (T := Bool) 10 (fun t => [(77, (bv t)), (0, (sv Aa p0 ca)), (3, (sv A17 t12.1 c18)), (5, (sv A24 t19.1 c25)), (7, (sv A31 t26.1 c32)), (9, (.string t33.1)), (10, (iv t33.2))]) (fun t => (((t12.2 != 0) || (t19.2 != 0)) || (t26.2 != 0)) = t) (fun K => ?_) ?_
 ·
  rcases Bool.eq_false_or_eq_true ((t12.2 != 0) || (t19.2 != 0)) with h106 | h106
  ·
   refine WL.setB 74 h106 rfl ?_
   refine seg 10 [] [0, 3, 5, 7, 9, 10, 77] [(0, (sv Aa p0 ca)), (3, (sv A17 t12.1 c18)), (5, (sv A24 t19.1 c25)), (7, (sv A31 t26.1 c32)), (9, (.string t33.1)), (10, (iv t33.2)), (77, (bv true))] [] (fun fb => by kernel_rfl) rfl trivial ?_
   exact WL.toV K true [77, 0, 3, 5, 7, 9, 10] rfl (by first | (rw [h106]; done) | (rw [h106]; rfl))
  refine WL.setB 74 h106 rfl ?_
  refine seg 10 [] [0, 3, 5, 7, 9, 10, 77] [(0, (sv Aa p0 ca)), (3, (sv A17 t12.1 c18)), (5, (sv A24 t19.1 c25)), (7, (sv A31 t26.1 c32)), (9, (.string t33.1)), (10, (iv t33.2)), (77, (bv (t26.2 != 0)))] [] (fun fb => by kernel_rfl) rfl trivial ?_
  exact WL.toV K (t26.2 != 0) [77, 0, 3, 5, 7, 9, 10] rfl (by first | (rw [h106]; done) | (rw [h106]; rfl))
 rintro b107 rfl
 refine seg 11 [] [0, 3, 5, 7, 9, 10, 78] [(0, (sv Aa p0 ca)), (3, (sv A17 t12.1 c18)), (5, (sv A24 t19.1 c25)), (7, (sv A31 t26.1 c32)), (9, (.string t33.1)), (10, (iv t33.2)), (78, (bv (((t12.2 != 0) || (t19.2 != 0)) || (t26.2 != 0))))] [] (fun fb => by kernel_rfl) rfl trivial ?_
 refine WL.cutV (T := Bool) 14 (fun t => [(81, (bv t)), (0, (sv Aa p0 ca)), (3, (sv A17 t12.1 c18)), (5, (sv A24 t19.1 c25)), (7, (sv A31 t26.1 c32)), (9, (.string t33.1))]) (fun t => ((((t12.2 != 0) || (t19.2 != 0)) || (t26.2 != 0)) || (t33.2 != 0)) = t) (fun K => ?_) ?_
 ·
  rcases Bool.eq_false_or_eq_true (((t12.2 != 0) || (t19.2 != 0)) || (t26.2 != 0)) with h108 | h108
  ·
   refine WL.setB 78 h108 rfl ?_
   refine seg 14 [] [0, 3, 5, 7, 9, 81] [(0, (sv Aa p0 ca)), (3, (sv A17 t12.1 c18)), (5, (sv A24 t19.1 c25)), (7, (sv A31 t26.1 c32)), (9, (.string t33.1)), (81, (bv true))] [] (fun fb => by kernel_rfl) rfl trivial ?_
   exact WL.toV K true [81, 0, 3, 5, 7, 9] rfl (by first | (rw [h108]; done) | (rw [h108]; rfl))
  refine WL.setB 78 h108 rfl ?_
  refine seg 14 [] [0, 3, 5, 7, 9, 81] [(0, (sv Aa p0 ca)), (3, (sv A17 t12.1 c18)), (5, (sv A24 t19.1 c25)), (7, (sv A31 t26.1 c32)), (9, (.string t33.1)), (81, (bv (t33.2 != 0)))] [] (fun fb => by kernel_rfl) rfl trivial ?_
  exact WL.toV K (t33.2 != 0) [81, 0, 3, 5, 7, 9] rfl (by first | (rw [h108]; done) | (rw [h108]; rfl))
 rintro b109 rfl
 refine seg 15 [] [0, 3, 5, 7, 9, 82] [(0, (sv Aa p0 ca)), (3, (sv A17 t12.1 c18)), (5, (sv A24 t19.1 c25)), (7, (sv A31 t26.1 c32)), (9, (.string t33.1)), (82, (bv ((((t12.2 != 0) || (t19.2 != 0)) || (t26.2 != 0)) || (t33.2 != 0))))] [] (fun fb => by kernel_rfl) rfl trivial ?_
 obtain ⟨x110, hx111, hf⟩ := bind_some hf
 refine WL.cutW (T := Bool) 20 (fun t => [(0, (sv Aa p0 ca)), (3, (sv A17 t12.1 c18)), (5, (sv A24 t19.1 c25)), (7, (sv A31 t26.1 c32)), (9, (.string t33.1)), (87, (bv t))]) (fun t w1 => (St NoS w w1 [rowR enc_Tile Aa ca p0, gloO Tryd.prog 2 5 0 1 mG] [rowO 50 enc_Tile A17 c18 t12.1, rowO 50 enc_Tile A24 c25 t19.1, rowO 50 enc_Tile A31 c32 t26.1] ∧ x110 = t) ∧ CellsOK [] w1) (fun K => ?_) ?_
 ·
  rcases br_some hx111 with ⟨h112, hx111⟩ | ⟨h112, hx111⟩
  ·
   refine WL.setB 82 h112 rfl ?_
   refine seg 20 [] [0, 3, 5, 7, 9, 87] [(0, (sv Aa p0 ca)), (3, (sv A17 t12.1 c18)), (5, (sv A24 t19.1 c25)), (7, (sv A31 t26.1 c32)), (9, (.string t33.1)), (87, (bv true))] [] (fun fb => by kernel_rfl) rfl trivial ?_
   injection hx111 with hx111
   exact WL.to K true [0, 3, 5, 7, 9, 87] rfl ⟨⟨(hS53.subR [0, 1]).sub [2, 1, 0] (by decide), hx111.symm⟩, trivial⟩
  refine WL.setB 82 h112 rfl ?_
  refine seg 17 [] [0, 3, 5, 7, 9, 82, 83, 84] [(0, (sv Aa p0 ca)), (3, (sv A17 t12.1 c18)), (5, (sv A24 t19.1 c25)), (7, (sv A31 t26.1 c32)), (9, (.string t33.1)), (82, (bv false)), (83, (.string t33.1)), (84, (sv Aa p0 ca))] [] (fun fb => by kernel_rfl) rfl trivial ?_
  obtain ⟨t113, ht114, hx111⟩ := bind_some hx111
  refine WL.call (some 85) 17 #[(sv Aa p0 ca)] (fun fb => by kernel_rfl) (ref01_Text_calls _ p0 Aa ca t113 _ (hS53.rd 0) ht114) (fun v w115 hR116 => ?_)
  obtain ⟨rfl, hk_⟩ := hR116
  have hS117 := hS53.keepN hk_
  refine ⟨trivial, ?_⟩
  refine seg 19 [] [0, 3, 5, 7, 9, 82, 86] [(0, (sv Aa p0 ca)), (3, (sv A17 t12.1 c18)), (5, (sv A24 t19.1 c25)), (7, (sv A31 t26.1 c32)), (9, (.string t33.1)), (82, (bv false)), (86, (bv (!(t33.1.toList == t113.toList))))] [] (fun fb => by kernel_rfl) rfl trivial ?_
  refine WL.setB 86 (congrArg not (strEq_raw t33.1 t113)) rfl ?_
  refine seg 20 [] [0, 3, 5, 7, 9, 87] [(0, (sv Aa p0 ca)), (3, (sv A17 t12.1 c18)), (5, (sv A24 t19.1 c25)), (7, (sv A31 t26.1 c32)), (9, (.string t33.1)), (87, (bv (!(strEq t33.1 t113))))] [] (fun fb => by kernel_rfl) rfl trivial ?_
  injection hx111 with hx111
  exact WL.to K (!(strEq t33.1 t113)) [0, 3, 5, 7, 9, 87] rfl ⟨⟨(hS117.subR [0, 1]).sub [2, 1, 0] (by decide), hx111.symm⟩, trivial⟩
 rintro y118 w120 ⟨⟨hS121, hq119⟩, hF122⟩
 subst hq119
 refine WL.done rfl (WX.next ?_)
 rcases br_some hf with ⟨h123, hf⟩ | ⟨h123, hf⟩
 ·refine WC.condT2 (fun fb => by kernel_rfl) h123 ?_
  refine WC.seq (WC.region ?_)
  refine seg 1 [] [2] [(2, (bv false))] [] (fun fb => by kernel_rfl) rfl trivial ?_
  refine WL.done rfl (WX.next ?_)
  refine WC.ret ?_
  injection hf with hf
  subst hf
  exact WX.thenR (WX.ret_ [] (bv false) [] (fun fb => by kernel_rfl) trivial ⟨_, rfl, rfl, hS121.keep⟩)
 refine WC.condF2 (fun fb => by kernel_rfl) h123 ?_
 refine WC.skip (WX.next (WC.seq (WC.region ?_)))
 refine seg 1 [] [0, 3, 5, 7, 89] [(0, (sv Aa p0 ca)), (3, (sv A17 t12.1 c18)), (5, (sv A24 t19.1 c25)), (7, (sv A31 t26.1 c32)), (89, (.string t33.1))] [] (fun fb => by kernel_rfl) rfl trivial ?_
 obtain ⟨t124, ht125, hf⟩ := bind_some hf
 refine WL.call (some 90) 6 #[(.string t33.1)] (fun fb => by kernel_rfl) (tile_Parse_calls _ t33.1 mG t124 _ (hS121.rd 1) ht125) (fun v w126 hR127 => ?_)
 obtain ⟨A129, c130, rfl, hk_⟩ := hR127
 have hS128 := hS30.go w126 [rowO 50 enc_Tile A129 c130 t124.1, rowO 50 enc_Tile A17 c18 t12.1, rowO 50 enc_Tile A24 c25 t19.1, rowO 50 enc_Tile A31 c32 t26.1] (hS121.call hk_ [] [0, 1, 2] (fun g hg => hg.elim) (by simp) (by decide))
 refine ⟨trivial, ?_⟩
 refine seg 7 [] [0, 3, 5, 7, 11, 12] [(0, (sv Aa p0 ca)), (3, (sv A17 t12.1 c18)), (5, (sv A24 t19.1 c25)), (7, (sv A31 t26.1 c32)), (11, (sv A129 t124.1 c130)), (12, (iv t124.2))] [] (fun fb => by kernel_rfl) rfl trivial ?_
 refine WL.done rfl (WX.next (WC.seq (WC.region ?_)))
 refine seg 3 [] [0, 3, 5, 7, 11, 95] [(0, (sv Aa p0 ca)), (3, (sv A17 t12.1 c18)), (5, (sv A24 t19.1 c25)), (7, (sv A31 t26.1 c32)), (11, (sv A129 t124.1 c130)), (95, (bv (t124.2 == 0)))] [] (fun fb => by kernel_rfl) rfl trivial ?_
 obtain ⟨x131, hx132, hf⟩ := bind_some hf
 refine WL.cutW (T := Bool) 7 (fun t => [(0, (sv Aa p0 ca)), (3, (sv A17 t12.1 c18)), (5, (sv A24 t19.1 c25)), (7, (sv A31 t26.1 c32)), (99, (bv t))]) (fun t w1 => (St NoS w w1 [rowR enc_Tile Aa ca p0, gloO Tryd.prog 2 5 0 1 mG] [rowO 50 enc_Tile A17 c18 t12.1, rowO 50 enc_Tile A24 c25 t19.1, rowO 50 enc_Tile A31 c32 t26.1] ∧ x131 = t) ∧ CellsOK [] w1) (fun K => ?_) ?_
 ·
  rcases br_some hx132 with ⟨h133, hx132⟩ | ⟨h133, hx132⟩
  ·
   refine WL.setB 95 h133 rfl ?_
   refine seg 5 [] [0, 3, 5, 7, 95, 96, 97] [(0, (sv Aa p0 ca)), (3, (sv A17 t12.1 c18)), (5, (sv A24 t19.1 c25)), (7, (sv A31 t26.1 c32)), (95, (bv true)), (96, (sv A129 t124.1 c130)), (97, (sv Aa p0 ca))] [] (fun fb => by kernel_rfl) rfl trivial ?_
   obtain ⟨t134, ht135, hx132⟩ := bind_some hx132
   refine WL.call (some 98) 9 #[(sv A129 t124.1 c130), (sv Aa p0 ca)] (fun fb => by kernel_rfl) (ref01_SameSet_calls _ t124.1 p0 A129 c130 Aa ca t134 _ (hS128.ow 0).ofO (hS128.rd 0) ht135) (fun v w136 hR137 => ?_)
   obtain ⟨rfl, hk_⟩ := hR137
   have hS138 := hS128.keepN hk_
   refine ⟨trivial, ?_⟩
   refine seg 7 [] [0, 3, 5, 7, 99] [(0, (sv Aa p0 ca)), (3, (sv A17 t12.1 c18)), (5, (sv A24 t19.1 c25)), (7, (sv A31 t26.1 c32)), (99, (bv t134))] [] (fun fb => by kernel_rfl) rfl trivial ?_
   injection hx132 with hx132
   exact WL.to K t134 [0, 3, 5, 7, 99] rfl ⟨⟨(hS138.subR [0, 1]).sub [1, 2, 3] (by decide), hx132.symm⟩, trivial⟩
  refine WL.setB 95 h133 rfl ?_
  refine seg 7 [] [0, 3, 5, 7, 99] [(0, (sv Aa p0 ca)), (3, (sv A17 t12.1 c18)), (5, (sv A24 t19.1 c25)), (7, (sv A31 t26.1 c32)), (99, (bv false))] [] (fun fb => by kernel_rfl) rfl trivial ?_
  injection hx132 with hx132
  exact WL.to K false [0, 3, 5, 7, 99] rfl ⟨⟨(hS128.subR [0, 1]).sub [1, 2, 3] (by decide), hx132.symm⟩, trivial⟩
 rintro y139 w141 ⟨⟨hS142, hq140⟩, hF143⟩
 subst hq140
 refine seg 8 [] [0, 3, 5, 7, 100] [(0, (sv Aa p0 ca)), (3, (sv A17 t12.1 c18)), (5, (sv A24 t19.1 c25)), (7, (sv A31 t26.1 c32)), (100, (bv x131))] [] (fun fb => by kernel_rfl) rfl trivial ?_
 obtain ⟨x144, hx145, hf⟩ := bind_some hf
 refine WL.cutW (T := Bool) 13 (fun t => [(0, (sv Aa p0 ca)), (5, (sv A24 t19.1 c25)), (7, (sv A31 t26.1 c32)), (105, (bv t))]) (fun t w1 => (St NoS w w1 [rowR enc_Tile Aa ca p0, gloO Tryd.prog 2 5 0 1 mG] [rowO 50 enc_Tile A24 c25 t19.1, rowO 50 enc_Tile A31 c32 t26.1] ∧ x144 = t) ∧ CellsOK [] w1) (fun K => ?_) ?_
 ·
  rcases br_some hx145 with ⟨h146, hx145⟩ | ⟨h146, hx145⟩
  ·
   refine WL.setB 100 h146 rfl ?_
   refine seg 10 [] [0, 5, 7, 100, 101, 102] [(0, (sv Aa p0 ca)), (5, (sv A24 t19.1 c25)), (7, (sv A31 t26.1 c32)), (100, (bv true)), (101, (sv A17 t12.1 c18)), (102, (sv Aa p0 ca))] [] (fun fb => by kernel_rfl) rfl trivial ?_
   obtain ⟨t147, ht148, hx145⟩ := bind_some hx145
   refine WL.call (some 103) 18 #[(sv Aa p0 ca)] (fun fb => by kernel_rfl) (ref01_Mirror_calls _ p0 Aa ca t147 _ (hS142.rd 0) ht148) (fun v w149 hR150 => ?_)
   obtain ⟨A152, c153, rfl, hk_⟩ := hR150
   have hS151 := hS128.go w149 [rowO 50 enc_Tile A152 c153 t147, rowO 50 enc_Tile A17 c18 t12.1, rowO 50 enc_Tile A24 c25 t19.1, rowO 50 enc_Tile A31 c32 t26.1] (hS142.call hk_ [] [0, 1, 2] (fun g hg => hg.elim) (by simp) (by decide))
   refine ⟨trivial, ?_⟩
   obtain ⟨t154, ht155, hx145⟩ := bind_some hx145
   refine WL.call (some 104) 9 #[(sv A17 t12.1 c18), (sv A152 t147 c153)] (fun fb => by kernel_rfl) (ref01_SameSet_calls _ t12.1 t147 A17 c18 A152 c153 t154 _ (hS151.ow 1).ofO (hS151.ow 0).ofO ht155) (fun v w156 hR157 => ?_)
   obtain ⟨rfl, hk_⟩ := hR157
   have hS158 := hS151.keepN hk_
   refine ⟨trivial, ?_⟩
   refine seg 13 [] [0, 5, 7, 105] [(0, (sv Aa p0 ca)), (5, (sv A24 t19.1 c25)), (7, (sv A31 t26.1 c32)), (105, (bv t154))] [] (fun fb => by kernel_rfl) rfl trivial ?_
   injection hx145 with hx145
   exact WL.to K t154 [0, 5, 7, 105] rfl ⟨⟨(hS158.subR [0, 1]).sub [2, 3] (by decide), hx145.symm⟩, trivial⟩
  refine WL.setB 100 h146 rfl ?_
  refine seg 13 [] [0, 5, 7, 105] [(0, (sv Aa p0 ca)), (5, (sv A24 t19.1 c25)), (7, (sv A31 t26.1 c32)), (105, (bv false))] [] (fun fb => by kernel_rfl) rfl trivial ?_
  injection hx145 with hx145
  exact WL.to K false [0, 5, 7, 105] rfl ⟨⟨(hS142.subR [0, 1]).sub [1, 2] (by decide), hx145.symm⟩, trivial⟩
 rintro y159 w161 ⟨⟨hS162, hq160⟩, hF163⟩
 subst hq160
 refine seg 14 [] [0, 5, 7, 106] [(0, (sv Aa p0 ca)), (5, (sv A24 t19.1 c25)), (7, (sv A31 t26.1 c32)), (106, (bv x144))] [] (fun fb => by kernel_rfl) rfl trivial ?_
 obtain ⟨x164, hx165, hf⟩ := bind_some hf
 refine WL.cutW (T := Bool) 19 (fun t => [(0, (sv Aa p0 ca)), (7, (sv A31 t26.1 c32)), (111, (bv t))]) (fun t w1 => (St NoS w w1 [rowR enc_Tile Aa ca p0, gloO Tryd.prog 2 5 0 1 mG] [rowO 50 enc_Tile A31 c32 t26.1] ∧ x164 = t) ∧ CellsOK [] w1) (fun K => ?_) ?_
 ·
  rcases br_some hx165 with ⟨h166, hx165⟩ | ⟨h166, hx165⟩
  ·
   refine WL.setB 106 h166 rfl ?_
   refine seg 16 [] [0, 7, 106, 107, 108] [(0, (sv Aa p0 ca)), (7, (sv A31 t26.1 c32)), (106, (bv true)), (107, (sv A24 t19.1 c25)), (108, (sv Aa p0 ca))] [] (fun fb => by kernel_rfl) rfl trivial ?_
   obtain ⟨t167, ht168, hx165⟩ := bind_some hx165
   refine WL.call (some 109) 19 #[(sv Aa p0 ca)] (fun fb => by kernel_rfl) (ref01_Upturn_calls _ p0 Aa ca t167 _ (hS162.rd 0) ht168) (fun v w169 hR170 => ?_)
   obtain ⟨A172, c173, rfl, hk_⟩ := hR170
   have hS171 := hS128.go w169 [rowO 50 enc_Tile A172 c173 t167, rowO 50 enc_Tile A24 c25 t19.1, rowO 50 enc_Tile A31 c32 t26.1] (hS162.call hk_ [] [0, 1] (fun g hg => hg.elim) (by simp) (by decide))
   refine ⟨trivial, ?_⟩
   obtain ⟨t174, ht175, hx165⟩ := bind_some hx165
   refine WL.call (some 110) 9 #[(sv A24 t19.1 c25), (sv A172 t167 c173)] (fun fb => by kernel_rfl) (ref01_SameSet_calls _ t19.1 t167 A24 c25 A172 c173 t174 _ (hS171.ow 1).ofO (hS171.ow 0).ofO ht175) (fun v w176 hR177 => ?_)
   obtain ⟨rfl, hk_⟩ := hR177
   have hS178 := hS171.keepN hk_
   refine ⟨trivial, ?_⟩
   refine seg 19 [] [0, 7, 111] [(0, (sv Aa p0 ca)), (7, (sv A31 t26.1 c32)), (111, (bv t174))] [] (fun fb => by kernel_rfl) rfl trivial ?_
   injection hx165 with hx165
   exact WL.to K t174 [0, 7, 111] rfl ⟨⟨(hS178.subR [0, 1]).sub [2] (by decide), hx165.symm⟩, trivial⟩
  refine WL.setB 106 h166 rfl ?_
  refine seg 19 [] [0, 7, 111] [(0, (sv Aa p0 ca)), (7, (sv A31 t26.1 c32)), (111, (bv false))] [] (fun fb => by kernel_rfl) rfl trivial ?_
  injection hx165 with hx165
  exact WL.to K false [0, 7, 111] rfl ⟨⟨(hS162.subR [0, 1]).sub [1] (by decide), hx165.symm⟩, trivial⟩
 rintro y179 w181 ⟨⟨hS182, hq180⟩, hF183⟩
 subst hq180
 refine seg 20 [] [0, 7, 112] [(0, (sv Aa p0 ca)), (7, (sv A31 t26.1 c32)), (112, (bv x164))] [] (fun fb => by kernel_rfl) rfl trivial ?_
 obtain ⟨x184, hx185, hf⟩ := bind_some hf
 refine WL.cutW (T := Bool) 25 (fun t => [(117, (bv t))]) (fun t w1 => (St NoS w w1 [rowR enc_Tile Aa ca p0, gloO Tryd.prog 2 5 0 1 mG] [] ∧ x184 = t) ∧ CellsOK [] w1) (fun K => ?_) ?_
 ·
  rcases br_some hx185 with ⟨h186, hx185⟩ | ⟨h186, hx185⟩
  ·
   refine WL.setB 112 h186 rfl ?_
   refine seg 22 [] [112, 113, 114] [(112, (bv true)), (113, (sv A31 t26.1 c32)), (114, (sv Aa p0 ca))] [] (fun fb => by kernel_rfl) rfl trivial ?_
   obtain ⟨t187, ht188, hx185⟩ := bind_some hx185
   refine WL.call (some 115) 20 #[(sv Aa p0 ca)] (fun fb => by kernel_rfl) (ref01_Turn_calls _ p0 Aa ca t187 _ (hS182.rd 0) ht188) (fun v w189 hR190 => ?_)
   obtain ⟨A192, c193, rfl, hk_⟩ := hR190
   have hS191 := hS128.go w189 [rowO 50 enc_Tile A192 c193 t187, rowO 50 enc_Tile A31 c32 t26.1] (hS182.call hk_ [] [0] (fun g hg => hg.elim) (by simp) (by decide))
   refine ⟨trivial, ?_⟩
   obtain ⟨t194, ht195, hx185⟩ := bind_some hx185
   refine WL.call (some 116) 9 #[(sv A31 t26.1 c32), (sv A192 t187 c193)] (fun fb => by kernel_rfl) (ref01_SameSet_calls _ t26.1 t187 A31 c32 A192 c193 t194 _ (hS191.ow 1).ofO (hS191.ow 0).ofO ht195) (fun v w196 hR197 => ?_)
   obtain ⟨rfl, hk_⟩ := hR197
   have hS198 := hS191.keepN hk_
   refine ⟨trivial, ?_⟩
   refine seg 25 [] [117] [(117, (bv t194))] [] (fun fb => by kernel_rfl) rfl trivial ?_
   injection hx185 with hx185
   exact WL.to K t194 [117] rfl ⟨⟨(hS198.subR [0, 1]).sub [] (by decide), hx185.symm⟩, trivial⟩
  refine WL.setB 112 h186 rfl ?_
  refine seg 25 [] [117] [(117, (bv false))] [] (fun fb => by kernel_rfl) rfl trivial ?_
  injection hx185 with hx185
  exact WL.to K false [117] rfl ⟨⟨(hS182.subR [0, 1]).sub [] (by decide), hx185.symm⟩, trivial⟩
 rintro y199 w201 ⟨⟨hS202, hq200⟩, hF203⟩
 subst hq200
 refine seg 26 [] [118] [(118, (bv x184))] [] (fun fb => by kernel_rfl) rfl trivial ?_
 obtain ⟨x204, hx205, hf⟩ := bind_some hf
 refine WL.cutW (T := Bool) 28 (fun t => [(120, (bv t))]) (fun t w1 => (St NoS w w1 [rowR enc_Tile Aa ca p0, gloO Tryd.prog 2 5 0 1 mG] [] ∧ x204 = t) ∧ CellsOK [] w1) (fun K => ?_) ?_
 ·
  rcases br_some hx205 with ⟨h206, hx205⟩ | ⟨h206, hx205⟩
  ·
   refine WL.setB 118 h206 rfl ?_
   obtain ⟨t207, ht208, hx205⟩ := bind_some hx205
   refine WL.call (some 119) 5 #[] (fun fb => by kernel_rfl) (law01_awake_calls _ mG t207 _ (hS202.rd 1) ht208) (fun v w209 hR210 => ?_)
   obtain ⟨rfl, hk_⟩ := hR210
   have hS211 := hS202.keepN hk_
   refine ⟨trivial, ?_⟩
   refine seg 28 [] [120] [(120, (bv t207))] [] (fun fb => by kernel_rfl) rfl trivial ?_
   injection hx205 with hx205
   exact WL.to K t207 [120] rfl ⟨⟨(hS211.subR [0, 1]).sub [] (by decide), hx205.symm⟩, trivial⟩
  refine WL.setB 118 h206 rfl ?_
  refine seg 28 [] [120] [(120, (bv false))] [] (fun fb => by kernel_rfl) rfl trivial ?_
  injection hx205 with hx205
  exact WL.to K false [120] rfl ⟨⟨(hS202.subR [0, 1]).sub [] (by decide), hx205.symm⟩, trivial⟩
 rintro y212 w214 ⟨⟨hS215, hq213⟩, hF216⟩
 subst hq213
 refine seg 29 [] [2] [(2, (bv x204))] [] (fun fb => by kernel_rfl) rfl trivial ?_
 refine WL.done rfl (WX.next ?_)
 refine WC.ret ?_
 injection hf with hf
 subst hf
 exact WX.ret_ [] (bv x204) [] (fun fb => by kernel_rfl) trivial ⟨_, rfl, rfl, hS215.keep⟩
end Gp
