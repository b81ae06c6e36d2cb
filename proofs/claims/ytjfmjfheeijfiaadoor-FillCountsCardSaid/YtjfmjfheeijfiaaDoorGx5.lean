/- Walks: each function of the program computes its plain function. -/
import Derived.Test.YtjfmjfheeijfiaaDoorGx4
set_option linter.unusedVariables false
set_option linter.unusedSimpArgs false
set_option maxHeartbeats 4000000
namespace Gp
open Go Gw Go.Proofs
theorem ref02_fits_calls (k : Nat) (p0 : List Tile) (p1 : Row_ref02) (p2 : Int) (p3 : Int) (p4 : Edges) (Aa : Option Addr) (ca : Nat) (Ab : Option Addr) (cb : Nat) (Ac : Option Addr) (cc : Nat) (Ad : Option Addr) (cd : Nat) (Ae : Option Addr) (ce : Nat) (Af : Option Addr) (cf : Nat) (r : Bool) (w : World) (hR0 : RO NoS w (rowR enc_Tile Aa ca p0)) (hR1 : RO NoS w (rowR encInt Ab cb p1.Cells)) (hR2 : RO NoS w (rowR encInt Ac cc p4.North)) (hR3 : RO NoS w (rowR encInt Ad cd p4.East)) (hR4 : RO NoS w (rowR encInt Ae ce p4.South)) (hR5 : RO NoS w (rowR encInt Af cf p4.West)) (hf : ref02_fits k p0 p1 p2 p3 p4 = some r) :
  CallsR Tryd.prog 63 #[(sv Aa p0 ca), (.agg #[(sv Ab p1.Cells cb), (iv p1.South), (iv p1.North)]), (iv p2), (iv p3), (.agg #[(sv Ac p4.North cc), (sv Ad p4.East cd), (sv Ae p4.South ce), (sv Af p4.West cf)])] w (fun v w' => v = (bv r) ∧ Keeps NoS w w') := by
 have hS : St NoS w w [rowR enc_Tile Aa ca p0, rowR encInt Ab cb p1.Cells, rowR encInt Ac cc p4.North, rowR encInt Ad cd p4.East, rowR encInt Ae ce p4.South, rowR encInt Af cf p4.West] [] := St.init (ro_cons hR0 (ro_cons hR1 (ro_cons hR2 (ro_cons hR3 (ro_cons hR4 (ro_cons hR5 (ro_nil _ _)))))))
 refine enter 86 Tryd.func63 rfl Tryd.ntmps63 rfl ?_
 unfold ref02_fits at hf
 refine WC.seq (WC.region ?_)
 refine WL.new hS 6 [] (fun g => (pt g)) (.cells #[(sv Ab p1.Cells cb), (iv p1.South), (iv p1.North)] 88 (0, 0)) [] (fun fb g => by kernel_rfl) trivial (fun g6 w7 hS8 => ?_)
 refine ⟨trivial, ?_⟩
 refine WL.new hS8 9 [] (fun g => (pt g)) (.cells #[(sv Ac p4.North cc), (sv Ad p4.East cd), (sv Ae p4.South ce), (sv Af p4.West cf)] 44 (0, 0)) [] (fun fb g => by kernel_rfl) trivial (fun g9 w10 hS11 => ?_)
 refine ⟨trivial, ?_⟩
 refine seg 3 [] [0, 2, 3, 6, 9] [(0, (sv Aa p0 ca)), (2, (iv p2)), (3, (iv p3)), (6, (pt g6)), (9, (pt g9))] [] (fun fb => by kernel_rfl) rfl trivial ?_
 refine WL.done rfl (WX.next (WC.seq (WC.region ?_)))
 refine seg 4 [.v (sv Ab p1.Cells cb)] [0, 2, 3, 6, 9, 11] [(0, (sv Aa p0 ca)), (2, (iv p2)), (3, (iv p3)), (6, (pt g6)), (9, (pt g9)), (11, (iv (p1.Cells.length : Int)))] [.cell ⟨g6, 0, none⟩ (sv Ab p1.Cells cb)] (fun fb => by kernel_rfl) rfl ⟨hS11.cell 1 rfl 0 rfl, trivial⟩ ?_
 refine WL.done rfl (WX.next (WC.seq (WC.seq ?_)))
 obtain ⟨h14, hf⟩ := as_some hf
 obtain ⟨h15, hf⟩ := as_some hf
 refine WC.regionD ([(1, ⟨g9, 3, none⟩, (sv Af p4.West cf)), (5, ⟨g6, 0, none⟩, (sv Ab p1.Cells cb)), (7, ((adr Ab).add (((0 : Int)).toNat * 1)), (iv (rdD p1.Cells (0 : Int) 0))), (10, (((adr Aa).add (((rdD p1.Cells (0 : Int) 0)).toNat * 4)).add 3), (iv ((rdD p0 (rdD p1.Cells (0 : Int) 0) z_Tile).W))), (15, ⟨g9, 1, none⟩, (sv Ad p4.East cd)), (19, ⟨g6, 0, none⟩, (sv Ab p1.Cells cb))], [0, 1, 2, 3, 4, 5, 6, 7, 8, 9, 10, 12, 13, 14, 15, 16, 17, 18, 19, 20, 21, 22, 24, 25, 28, 29], [[], [0], [], [], [], [4], [4, 5], [4, 5, 6], [3, 4, 5, 6, 7], [3, 4, 5, 6, 7, 8], [3, 4, 5, 6, 7, 8, 9], [0, 1, 2, 3, 4, 5, 6, 7, 8, 9, 10], [0, 1, 2, 3, 4, 5, 6, 7, 8, 9, 10, 11], [0, 1, 2, 3, 4, 5, 6, 7, 8, 9, 10, 11, 12], [0, 1, 2, 3, 4, 5, 6, 7, 8, 9, 10, 11, 12, 13], [0, 1, 2, 3, 4, 5, 6, 7, 8, 9, 10, 11, 12, 13, 14], [0, 1, 2, 3, 4, 5, 6, 7, 8, 9, 10, 11, 12, 13], [0, 1, 2, 3, 4, 5, 6, 7, 8, 9, 10, 11, 12, 13], [0, 1, 2, 3, 4, 5, 6, 7, 8, 9, 10, 11, 12, 13], [0, 1, 2, 3, 4, 5, 6, 7, 8, 9, 10, 11, 12, 13, 18], [0, 1, 2, 3, 4, 5, 6, 7, 8, 9, 10, 11, 12, 13], [0, 1, 2, 3, 4, 5, 6, 7, 8, 9, 10, 11, 12, 13, 20], [0, 1, 2, 3, 4, 5, 6, 7, 8, 9, 10, 11, 12, 13, 18, 19, 20, 21], [0, 1, 2, 3, 4, 5, 6, 7, 8, 9, 10, 11, 12, 13, 18, 19, 20, 21, 22], [0, 1, 2, 3, 4, 5, 6, 7, 8, 9, 10, 11, 12, 13, 17, 18, 19, 20, 21, 22, 23], [0, 1, 2, 3, 4, 5, 6, 7, 8, 9, 10, 11, 12, 13, 17, 18, 19, 20, 21, 22, 23, 24], [0, 1, 2, 3, 4, 5, 6, 7, 8, 9, 10, 11, 12, 13, 17, 18, 19, 20, 21, 22, 23, 24, 25], [0, 1, 2, 3, 4, 5, 6, 7, 8, 9, 10, 11, 12, 13, 14, 15, 16, 17, 18, 19, 20, 21, 22, 23, 24, 25, 26], [0, 1, 2, 3, 4, 5, 6, 7, 8, 9, 10, 11, 12, 13, 14, 15, 16, 17, 18, 19, 20, 21, 22, 23, 24, 25, 26, 27], [0, 1, 2, 3, 4, 5, 6, 7, 8, 9, 10, 11, 12, 13, 14, 15, 16, 17, 18, 19, 20, 21, 22, 23, 24, 25, 26, 27, 28]]) [[0, 1, 2, 3, 4, 5, 6, 7, 8, 9, 10, 11, 12, 13, 14, 15, 16, 17, 18, 19, 20, 21, 22, 23, 24, 25, 26, 27, 28, 29]] (by kernel_rfl) (by kernel_rfl) (NoPanic.seq (NoPanic.seq (NoPanic.body))) ?_
 have hS13 := hS11.drew
 revert hS13
 generalize World.drew w10 = w12
 intro hS13
 refine ⟨⟨hS13.cell 0 rfl 3 rfl, hS13.cell 1 rfl 0 rfl, rowR.cell (hS13.rd 1).1 0 h14.1 h14.2 0 rfl, rowR.cell (hS13.rd 0).1 z_Tile h15.1 h15.2 3 rfl, hS13.cell 0 rfl 1 rfl, hS13.cell 1 rfl 0 rfl, trivial⟩, forallC ?_ (forallN)⟩
 refine segF 11 [.v (sv Af p4.West cf), .v (sv Ab p1.Cells cb), .v (iv (rdD p1.Cells (0 : Int) 0)), .v (iv ((rdD p0 (rdD p1.Cells (0 : Int) 0) z_Tile).W))] [0, 2, 3, 6, 9, 11, 18, 19, 27] [(0, (sv Aa p0 ca)), (2, (iv p2)), (3, (iv p3)), (6, (pt g6)), (9, (pt g9)), (11, (iv (p1.Cells.length : Int))), (18, (sv Af p4.West cf)), (19, (iv p2)), (27, (iv ((rdD p0 (rdD p1.Cells (0 : Int) 0) z_Tile).W)))] [.idx Ab (0 : Int) p1.Cells.length, .idx Aa (rdD p1.Cells (0 : Int) 0) p0.length] [0, 1, 2, 3] [(1, ⟨g9, 3, none⟩, (sv Af p4.West cf)), (5, ⟨g6, 0, none⟩, (sv Ab p1.Cells cb)), (7, ((adr Ab).add (((0 : Int)).toNat * 1)), (iv (rdD p1.Cells (0 : Int) 0))), (10, (((adr Aa).add (((rdD p1.Cells (0 : Int) 0)).toNat * 4)).add 3), (iv ((rdD p0 (rdD p1.Cells (0 : Int) 0) z_Tile).W)))] (fun fb => by kernel_rfl) rfl ⟨rowR.adr (hS13.rd 1).1 h14.1 h14.2, rowR.adr (hS13.rd 0).1 h15.1 h15.2, trivial⟩ rfl ?_
 obtain ⟨t16, ht17, hf⟩ := bind_some hf
 refine WL.call (some 28) 66 #[(sv Af p4.West cf), (iv p2), (iv ((rdD p0 (rdD p1.Cells (0 : Int) 0) z_Tile).W))] (fun fb => by kernel_rfl) (ref02_has_calls p4.West p2 ((rdD p0 (rdD p1.Cells (0 : Int) 0) z_Tile).W) Af cf t16 _ (hS13.rd 5) ht17) (fun v w18 hR19 => ?_)
 obtain ⟨rfl, hk_⟩ := hR19
 have hS20 := hS13.keepN hk_
 refine ⟨⟨hS20.cell 0 rfl 1 rfl, hS20.cell 1 rfl 0 rfl, trivial⟩, ?_⟩
 refine seg 14 [] [0, 2, 3, 6, 9, 11, 30] [(0, (sv Aa p0 ca)), (2, (iv p2)), (3, (iv p3)), (6, (pt g6)), (9, (pt g9)), (11, (iv (p1.Cells.length : Int))), (30, (bv (!t16)))] [] (fun fb => by kernel_rfl) rfl trivial ?_
 obtain ⟨x21, hx22, hf⟩ := bind_some hf
 refine WL.cutW (T := Bool) 30 (fun t => [(0, (sv Aa p0 ca)), (2, (iv p2)), (3, (iv p3)), (6, (pt g6)), (9, (pt g9)), (11, (iv (p1.Cells.length : Int))), (46, (bv t))]) (fun t w1 => (St NoS w w1 [rowR enc_Tile Aa ca p0, rowR encInt Ab cb p1.Cells, rowR encInt Ac cc p4.North, rowR encInt Ad cd p4.East, rowR encInt Ae ce p4.South, rowR encInt Af cf p4.West] [blk g6 (.cells #[(sv Ab p1.Cells cb), (iv p1.South), (iv p1.North)] 88 (0, 0)), blk g9 (.cells #[(sv Ac p4.North cc), (sv Ad p4.East cd), (sv Ae p4.South ce), (sv Af p4.West cf)] 44 (0, 0))] ∧ x21 = t) ∧ CellsOK [] w1) (fun K => ?_) ?_
 ·
  rcases br_some hx22 with ⟨h23, hx22⟩ | ⟨h23, hx22⟩
  ·
   refine WL.setB 30 h23 rfl ?_
   refine seg 30 [] [0, 2, 3, 6, 9, 11, 46] [(0, (sv Aa p0 ca)), (2, (iv p2)), (3, (iv p3)), (6, (pt g6)), (9, (pt g9)), (11, (iv (p1.Cells.length : Int))), (46, (bv true))] [] (fun fb => by kernel_rfl) rfl trivial ?_
   injection hx22 with hx22
   exact WL.to K true [0, 2, 3, 6, 9, 11, 46] rfl ⟨⟨(hS20.subR [0, 1, 2, 3, 4, 5]).sub [1, 0] (by decide), hx22.symm⟩, trivial⟩
  refine WL.setB 30 h23 rfl ?_
  refine segF 22 [.v (sv Ad p4.East cd), .v (sv Ab p1.Cells cb)] [0, 2, 3, 6, 9, 11, 30, 32, 33, 34, 36, 38] [(0, (sv Aa p0 ca)), (2, (iv p2)), (3, (iv p3)), (6, (pt g6)), (9, (pt g9)), (11, (iv (p1.Cells.length : Int))), (30, (bv false)), (32, (sv Ad p4.East cd)), (33, (iv p2)), (34, (sv Aa p0 ca)), (36, (sv Ab p1.Cells cb)), (38, (iv (w64 ((p1.Cells.length : Int) - 1))))] [] [4, 5] [(15, ⟨g9, 1, none⟩, (sv Ad p4.East cd)), (19, ⟨g6, 0, none⟩, (sv Ab p1.Cells cb))] (fun fb => by kernel_rfl) rfl trivial rfl ?_
  obtain ⟨h24, hx22⟩ := as_some hx22
  refine seg 24 [.v (iv (rdD p1.Cells (w64 ((p1.Cells.length : Int) - 1)) 0))] [0, 2, 3, 6, 9, 11, 30, 32, 33, 34, 40] [(0, (sv Aa p0 ca)), (2, (iv p2)), (3, (iv p3)), (6, (pt g6)), (9, (pt g9)), (11, (iv (p1.Cells.length : Int))), (30, (bv false)), (32, (sv Ad p4.East cd)), (33, (iv p2)), (34, (sv Aa p0 ca)), (40, (iv (rdD p1.Cells (w64 ((p1.Cells.length : Int) - 1)) 0)))] [.idx Ab (w64 ((p1.Cells.length : Int) - 1)) p1.Cells.length, .cell ((adr Ab).add ((w64 ((p1.Cells.length : Int) - 1)).toNat * 1)) (iv (rdD p1.Cells (w64 ((p1.Cells.length : Int) - 1)) 0))] (fun fb => by kernel_rfl) rfl ⟨rowR.adr (hS20.rd 1).1 h24.1 h24.2, rowR.cell (hS20.rd 1).1 0 h24.1 h24.2 0 rfl, trivial⟩ ?_
  obtain ⟨h25, hx22⟩ := as_some hx22
  refine seg 27 [.v (iv ((rdD p0 (rdD p1.Cells (w64 ((p1.Cells.length : Int) - 1)) 0) z_Tile).E))] [0, 2, 3, 6, 9, 11, 30, 32, 33, 43] [(0, (sv Aa p0 ca)), (2, (iv p2)), (3, (iv p3)), (6, (pt g6)), (9, (pt g9)), (11, (iv (p1.Cells.length : Int))), (30, (bv false)), (32, (sv Ad p4.East cd)), (33, (iv p2)), (43, (iv ((rdD p0 (rdD p1.Cells (w64 ((p1.Cells.length : Int) - 1)) 0) z_Tile).E)))] [.idx Aa (rdD p1.Cells (w64 ((p1.Cells.length : Int) - 1)) 0) p0.length, .cell (((adr Aa).add (((rdD p1.Cells (w64 ((p1.Cells.length : Int) - 1)) 0)).toNat * 4)).add 1) (iv ((rdD p0 (rdD p1.Cells (w64 ((p1.Cells.length : Int) - 1)) 0) z_Tile).E))] (fun fb => by kernel_rfl) rfl ⟨rowR.adr (hS20.rd 0).1 h25.1 h25.2, rowR.cell (hS20.rd 0).1 z_Tile h25.1 h25.2 1 rfl, trivial⟩ ?_
  obtain ⟨t26, ht27, hx22⟩ := bind_some hx22
  refine WL.call (some 44) 66 #[(sv Ad p4.East cd), (iv p2), (iv ((rdD p0 (rdD p1.Cells (w64 ((p1.Cells.length : Int) - 1)) 0) z_Tile).E))] (fun fb => by kernel_rfl) (ref02_has_calls p4.East p2 ((rdD p0 (rdD p1.Cells (w64 ((p1.Cells.length : Int) - 1)) 0) z_Tile).E) Ad cd t26 _ (hS20.rd 3) ht27) (fun v w28 hR29 => ?_)
  obtain ⟨rfl, hk_⟩ := hR29
  have hS30 := hS20.keepN hk_
  refine ⟨trivial, ?_⟩
  refine seg 30 [] [0, 2, 3, 6, 9, 11, 46] [(0, (sv Aa p0 ca)), (2, (iv p2)), (3, (iv p3)), (6, (pt g6)), (9, (pt g9)), (11, (iv (p1.Cells.length : Int))), (46, (bv (!t26)))] [] (fun fb => by kernel_rfl) rfl trivial ?_
  injection hx22 with hx22
  exact WL.to K (!t26) [0, 2, 3, 6, 9, 11, 46] rfl ⟨⟨(hS30.subR [0, 1, 2, 3, 4, 5]).sub [1, 0] (by decide), hx22.symm⟩, trivial⟩
 rintro y31 w33 ⟨⟨hS34, hq32⟩, hF35⟩
 subst hq32
 refine WL.done rfl (WX.next ?_)
 rcases br_some hf with ⟨h36, hf⟩ | ⟨h36, hf⟩
 ·refine WC.condT2 (fun fb => by kernel_rfl) h36 ?_
  refine WC.seq (WC.region ?_)
  refine seg 1 [] [10] [(10, (bv false))] [] (fun fb => by kernel_rfl) rfl trivial ?_
  refine WL.done rfl (WX.next ?_)
  refine WC.ret ?_
  injection hf with hf
  subst hf
  exact WX.thenR (WX.ret_ [] (bv false) [] (fun fb => by kernel_rfl) trivial ⟨_, rfl, rfl, hS34.keep⟩)
 refine WC.condF2 (fun fb => by kernel_rfl) h36 ?_
 refine WC.skip (WX.next (WC.seq (WC.seq (WC.region ?_))))
 refine seg 1 [] [0, 2, 3, 6, 9, 11, 12] [(0, (sv Aa p0 ca)), (2, (iv p2)), (3, (iv p3)), (6, (pt g6)), (9, (pt g9)), (11, (iv (p1.Cells.length : Int))), (12, (iv 0))] [] (fun fb => by kernel_rfl) rfl trivial ?_
 refine WL.done rfl (WX.next ?_)
 obtain ⟨x38, hx39, hf⟩ := bind_some hf
 refine WC.cutN (T := Unit) (fun t => []) (fun t w1 => St NoS w w1 [rowR enc_Tile Aa ca p0, rowR encInt Ab cb p1.Cells, rowR encInt Ac cc p4.North, rowR encInt Ad cd p4.East, rowR encInt Ae ce p4.South, rowR encInt Af cf p4.West] [] ∧ x38 = .inr t) (fun Kx38 => ?_) ?_
 ·
  refine WC.block ?_
  refine WC.loop (T := Int) (fun t => [(0, (sv Aa p0 ca)), (2, (iv p2)), (3, (iv p3)), (6, (pt g6)), (9, (pt g9)), (11, (iv (p1.Cells.length : Int))), (12, (iv t))]) (fun n t w1 => St NoS w w1 [rowR enc_Tile Aa ca p0, rowR encInt Ab cb p1.Cells, rowR encInt Ac cc p4.North, rowR encInt Ad cd p4.East, rowR encInt Ae ce p4.South, rowR encInt Af cf p4.West] [blk g6 (.cells #[(sv Ab p1.Cells cb), (iv p1.South), (iv p1.North)] 88 (0, 0)), blk g9 (.cells #[(sv Ac p4.North cc), (sv Ad p4.East cd), (sv Ae p4.South ce), (sv Af p4.West cf)] 44 (0, 0))] ∧ ref02_fits.l0 n t p0 p1 p2 p3 p4 = some x38) k 0 [0, 2, 3, 6, 9, 11, 12] rfl ⟨(hS34.subR [0, 1, 2, 3, 4, 5]).sub [0, 1] (by decide), hx39⟩ ?_
  rintro k40 x37 w41 ⟨hS42, hl43⟩
  cases k40 with
  | zero => rw [ref02_fits.l0] at hl43; cases hl43
  | succ k40 =>
   rw [ref02_fits.l0] at hl43
   refine WC.seq (WC.seq (WC.region ?_))
   refine seg 3 [] [0, 2, 3, 6, 9, 11, 12, 49] [(0, (sv Aa p0 ca)), (2, (iv p2)), (3, (iv p3)), (6, (pt g6)), (9, (pt g9)), (11, (iv (p1.Cells.length : Int))), (12, (iv x37)), (49, (bv (decide (x37 < (p1.Cells.length : Int)))))] [] (fun fb => by kernel_rfl) rfl trivial ?_
   refine WL.done rfl (WX.next ?_)
   rcases br_some hl43 with ⟨h44, hl43⟩ | ⟨h44, hl43⟩
   ·refine WC.condT2 (fun fb => by kernel_rfl) h44 ?_
    refine WC.skip (WX.next (WC.seq (WC.block (WC.seq (WC.region ?_)))))
    refine seg 4 [.v (sv Ab p1.Cells cb)] [0, 2, 3, 6, 9, 11, 12, 52, 54, 55] [(0, (sv Aa p0 ca)), (2, (iv p2)), (3, (iv p3)), (6, (pt g6)), (9, (pt g9)), (11, (iv (p1.Cells.length : Int))), (12, (iv x37)), (52, (sv Aa p0 ca)), (54, (sv Ab p1.Cells cb)), (55, (iv x37))] [.cell ⟨g6, 0, none⟩ (sv Ab p1.Cells cb)] (fun fb => by kernel_rfl) rfl ⟨hS42.cell 0 rfl 0 rfl, trivial⟩ ?_
    obtain ⟨h45, hl43⟩ := as_some hl43
    refine seg 6 [.v (iv (rdD p1.Cells x37 0))] [0, 2, 3, 6, 9, 11, 12, 52, 57] [(0, (sv Aa p0 ca)), (2, (iv p2)), (3, (iv p3)), (6, (pt g6)), (9, (pt g9)), (11, (iv (p1.Cells.length : Int))), (12, (iv x37)), (52, (sv Aa p0 ca)), (57, (iv (rdD p1.Cells x37 0)))] [.idx Ab x37 p1.Cells.length, .cell ((adr Ab).add ((x37).toNat * 1)) (iv (rdD p1.Cells x37 0))] (fun fb => by kernel_rfl) rfl ⟨rowR.adr (hS42.rd 1).1 h45.1 h45.2, rowR.cell (hS42.rd 1).1 0 h45.1 h45.2 0 rfl, trivial⟩ ?_
    obtain ⟨h46, hl43⟩ := as_some hl43
    refine seg 8 [.v (iv ((rdD p0 (rdD p1.Cells x37 0) z_Tile).N)), .v (iv ((rdD p0 (rdD p1.Cells x37 0) z_Tile).E)), .v (iv ((rdD p0 (rdD p1.Cells x37 0) z_Tile).S)), .v (iv ((rdD p0 (rdD p1.Cells x37 0) z_Tile).W))] [0, 2, 3, 6, 9, 11, 12, 59] [(0, (sv Aa p0 ca)), (2, (iv p2)), (3, (iv p3)), (6, (pt g6)), (9, (pt g9)), (11, (iv (p1.Cells.length : Int))), (12, (iv x37)), (59, (.agg #[(iv ((rdD p0 (rdD p1.Cells x37 0) z_Tile).N)), (iv ((rdD p0 (rdD p1.Cells x37 0) z_Tile).E)), (iv ((rdD p0 (rdD p1.Cells x37 0) z_Tile).S)), (iv ((rdD p0 (rdD p1.Cells x37 0) z_Tile).W))]))] [.idx Aa (rdD p1.Cells x37 0) p0.length, .cell ((adr Aa).add (((rdD p1.Cells x37 0)).toNat * 4)) (iv ((rdD p0 (rdD p1.Cells x37 0) z_Tile).N)), .cell (((adr Aa).add (((rdD p1.Cells x37 0)).toNat * 4)).add 1) (iv ((rdD p0 (rdD p1.Cells x37 0) z_Tile).E)), .cell (((adr Aa).add (((rdD p1.Cells x37 0)).toNat * 4)).add 2) (iv ((rdD p0 (rdD p1.Cells x37 0) z_Tile).S)), .cell (((adr Aa).add (((rdD p1.Cells x37 0)).toNat * 4)).add 3) (iv ((rdD p0 (rdD p1.Cells x37 0) z_Tile).W))] (fun fb => by kernel_rfl) rfl ⟨rowR.adr (hS42.rd 0).1 h46.1 h46.2, rowR.cell (hS42.rd 0).1 z_Tile h46.1 h46.2 0 rfl, rowR.cell (hS42.rd 0).1 z_Tile h46.1 h46.2 1 rfl, rowR.cell (hS42.rd 0).1 z_Tile h46.1 h46.2 2 rfl, rowR.cell (hS42.rd 0).1 z_Tile h46.1 h46.2 3 rfl, trivial⟩ ?_
    refine WL.new hS42 13 [] (fun g => (pt g)) (.cells #[(iv 0), (iv 0), (iv 0), (iv 0)] 40 (0, 0)) [] (fun fb g => by kernel_rfl) trivial (fun g47 w48 hS49 => ?_)
    refine ⟨trivial, ?_⟩
    refine WL.store hS49 0 rfl [(0, (iv ((rdD p0 (rdD p1.Cells x37 0) z_Tile).N))), (1, (iv ((rdD p0 (rdD p1.Cells x37 0) z_Tile).E))), (2, (iv ((rdD p0 (rdD p1.Cells x37 0) z_Tile).S))), (3, (iv ((rdD p0 (rdD p1.Cells x37 0) z_Tile).W)))] #[(iv ((rdD p0 (rdD p1.Cells x37 0) z_Tile).N)), (iv ((rdD p0 (rdD p1.Cells x37 0) z_Tile).E)), (iv ((rdD p0 (rdD p1.Cells x37 0) z_Tile).S)), (iv ((rdD p0 (rdD p1.Cells x37 0) z_Tile).W))] (fun fb => by kernel_rfl) (by kernel_rfl) rfl [1, 2] (by decide) (by decide) (fun w50 hS51 => ?_)
    refine ⟨trivial, ?_⟩
    refine WL.done rfl (WX.next (WC.seq (WC.region ?_)))
    refine seg 3 [] [0, 2, 3, 6, 9, 11, 12, 13, 62] [(0, (sv Aa p0 ca)), (2, (iv p2)), (3, (iv p3)), (6, (pt g6)), (9, (pt g9)), (11, (iv (p1.Cells.length : Int))), (12, (iv x37)), (13, (pt g47)), (62, (bv (p2 == 0)))] [] (fun fb => by kernel_rfl) rfl trivial ?_
    obtain ⟨x52, hx53, hl43⟩ := bind_some hl43
    refine WL.cutW (T := Bool) 11 (fun t => [(0, (sv Aa p0 ca)), (2, (iv p2)), (3, (iv p3)), (6, (pt g6)), (9, (pt g9)), (11, (iv (p1.Cells.length : Int))), (12, (iv x37)), (13, (pt g47)), (70, (bv t))]) (fun t w1 => (St NoS w w1 [rowR enc_Tile Aa ca p0, rowR encInt Ab cb p1.Cells, rowR encInt Ac cc p4.North, rowR encInt Ad cd p4.East, rowR encInt Ae ce p4.South, rowR encInt Af cf p4.West] [blk g6 (.cells #[(sv Ab p1.Cells cb), (iv p1.South), (iv p1.North)] 88 (0, 0)), blk g9 (.cells #[(sv Ac p4.North cc), (sv Ad p4.East cd), (sv Ae p4.South ce), (sv Af p4.West cf)] 44 (0, 0)), blk g47 (.cells #[(iv ((rdD p0 (rdD p1.Cells x37 0) z_Tile).N)), (iv ((rdD p0 (rdD p1.Cells x37 0) z_Tile).E)), (iv ((rdD p0 (rdD p1.Cells x37 0) z_Tile).S)), (iv ((rdD p0 (rdD p1.Cells x37 0) z_Tile).W))] 40 (0, 0))] ∧ x52 = t) ∧ CellsOK [] w1) (fun K => ?_) ?_
    ·
     rcases br_some hx53 with ⟨h54, hx53⟩ | ⟨h54, hx53⟩
     ·
      refine WL.setB 62 h54 rfl ?_
      refine seg 8 [.v (sv Ae p4.South ce), .v (iv ((rdD p0 (rdD p1.Cells x37 0) z_Tile).S))] [0, 2, 3, 6, 9, 11, 12, 13, 62, 64, 65, 67] [(0, (sv Aa p0 ca)), (2, (iv p2)), (3, (iv p3)), (6, (pt g6)), (9, (pt g9)), (11, (iv (p1.Cells.length : Int))), (12, (iv x37)), (13, (pt g47)), (62, (bv true)), (64, (sv Ae p4.South ce)), (65, (iv x37)), (67, (iv ((rdD p0 (rdD p1.Cells x37 0) z_Tile).S)))] [.cell ⟨g9, 2, none⟩ (sv Ae p4.South ce), .cell ⟨g47, 2, none⟩ (iv ((rdD p0 (rdD p1.Cells x37 0) z_Tile).S))] (fun fb => by kernel_rfl) rfl ⟨hS51.cell 2 rfl 2 rfl, hS51.cell 0 rfl 2 rfl, trivial⟩ ?_
      obtain ⟨t55, ht56, hx53⟩ := bind_some hx53
      refine WL.call (some 68) 66 #[(sv Ae p4.South ce), (iv x37), (iv ((rdD p0 (rdD p1.Cells x37 0) z_Tile).S))] (fun fb => by kernel_rfl) (ref02_has_calls p4.South x37 ((rdD p0 (rdD p1.Cells x37 0) z_Tile).S) Ae ce t55 _ (hS51.rd 4) ht56) (fun v w57 hR58 => ?_)
      obtain ⟨rfl, hk_⟩ := hR58
      have hS59 := hS51.keepN hk_
      refine ⟨trivial, ?_⟩
      refine seg 11 [] [0, 2, 3, 6, 9, 11, 12, 13, 70] [(0, (sv Aa p0 ca)), (2, (iv p2)), (3, (iv p3)), (6, (pt g6)), (9, (pt g9)), (11, (iv (p1.Cells.length : Int))), (12, (iv x37)), (13, (pt g47)), (70, (bv (!t55)))] [] (fun fb => by kernel_rfl) rfl trivial ?_
      injection hx53 with hx53
      exact WL.to K (!t55) [0, 2, 3, 6, 9, 11, 12, 13, 70] rfl ⟨⟨(hS59.subR [0, 1, 2, 3, 4, 5]).sub [1, 2, 0] (by decide), hx53.symm⟩, trivial⟩
     refine WL.setB 62 h54 rfl ?_
     refine seg 11 [] [0, 2, 3, 6, 9, 11, 12, 13, 70] [(0, (sv Aa p0 ca)), (2, (iv p2)), (3, (iv p3)), (6, (pt g6)), (9, (pt g9)), (11, (iv (p1.Cells.length : Int))), (12, (iv x37)), (13, (pt g47)), (70, (bv false))] [] (fun fb => by kernel_rfl) rfl trivial ?_
     injection hx53 with hx53
     exact WL.to K false [0, 2, 3, 6, 9, 11, 12, 13, 70] rfl ⟨⟨(hS51.subR [0, 1, 2, 3, 4, 5]).sub [1, 2, 0] (by decide), hx53.symm⟩, trivial⟩
    rintro y60 w62 ⟨⟨hS65, hq61⟩, hF66⟩
    subst hq61
    refine seg 12 [] [0, 2, 3, 6, 9, 11, 12, 13, 71] [(0, (sv Aa p0 ca)), (2, (iv p2)), (3, (iv p3)), (6, (pt g6)), (9, (pt g9)), (11, (iv (p1.Cells.length : Int))), (12, (iv x37)), (13, (pt g47)), (71, (bv x52))] [] (fun fb => by kernel_rfl) rfl trivial ?_
    obtain ⟨x67, hx68, hl43⟩ := bind_some hl43
    refine WL.cutW (T := Bool) 26 (fun t => [(0, (sv Aa p0 ca)), (2, (iv p2)), (3, (iv p3)), (6, (pt g6)), (9, (pt g9)), (11, (iv (p1.Cells.length : Int))), (12, (iv x37)), (85, (bv t))]) (fun t w1 => (St NoS w w1 [rowR enc_Tile Aa ca p0, rowR encInt Ab cb p1.Cells, rowR encInt Ac cc p4.North, rowR encInt Ad cd p4.East, rowR encInt Ae ce p4.South, rowR encInt Af cf p4.West] [blk g6 (.cells #[(sv Ab p1.Cells cb), (iv p1.South), (iv p1.North)] 88 (0, 0)), blk g9 (.cells #[(sv Ac p4.North cc), (sv Ad p4.East cd), (sv Ae p4.South ce), (sv Af p4.West cf)] 44 (0, 0))] ∧ x67 = t) ∧ CellsOK [] w1) (fun K => ?_) ?_
    ·
     rcases br_some hx68 with ⟨h69, hx68⟩ | ⟨h69, hx68⟩
     ·
      refine WL.setB 71 h69 rfl ?_
      refine seg 26 [] [0, 2, 3, 6, 9, 11, 12, 85] [(0, (sv Aa p0 ca)), (2, (iv p2)), (3, (iv p3)), (6, (pt g6)), (9, (pt g9)), (11, (iv (p1.Cells.length : Int))), (12, (iv x37)), (85, (bv true))] [] (fun fb => by kernel_rfl) rfl trivial ?_
      injection hx68 with hx68
      exact WL.to K true [0, 2, 3, 6, 9, 11, 12, 85] rfl ⟨⟨(hS65.subR [0, 1, 2, 3, 4, 5]).sub [0, 1] (by decide), hx68.symm⟩, trivial⟩
     refine WL.setB 71 h69 rfl ?_
     refine seg 17 [] [0, 2, 3, 6, 9, 11, 12, 13, 71, 76] [(0, (sv Aa p0 ca)), (2, (iv p2)), (3, (iv p3)), (6, (pt g6)), (9, (pt g9)), (11, (iv (p1.Cells.length : Int))), (12, (iv x37)), (13, (pt g47)), (71, (bv false)), (76, (bv (p2 == (w64 (p3 - 1)))))] [] (fun fb => by kernel_rfl) rfl trivial ?_
     obtain ⟨x70, hx71, hx68⟩ := bind_some hx68
     refine WL.cutW (T := Bool) 25 (fun t => [(0, (sv Aa p0 ca)), (2, (iv p2)), (3, (iv p3)), (6, (pt g6)), (9, (pt g9)), (11, (iv (p1.Cells.length : Int))), (12, (iv x37)), (71, (bv false)), (84, (bv t))]) (fun t w1 => (St NoS w w1 [rowR enc_Tile Aa ca p0, rowR encInt Ab cb p1.Cells, rowR encInt Ac cc p4.North, rowR encInt Ad cd p4.East, rowR encInt Ae ce p4.South, rowR encInt Af cf p4.West] [blk g6 (.cells #[(sv Ab p1.Cells cb), (iv p1.South), (iv p1.North)] 88 (0, 0)), blk g9 (.cells #[(sv Ac p4.North cc), (sv Ad p4.East cd), (sv Ae p4.South ce), (sv Af p4.West cf)] 44 (0, 0))] ∧ x70 = t) ∧ CellsOK [] w1) (fun K => ?_) ?_
     ·
      rcases br_some hx71 with ⟨h72, hx71⟩ | ⟨h72, hx71⟩
      ·
       refine WL.setB 76 h72 rfl ?_
       refine seg 22 [.v (sv Ac p4.North cc), .v (iv ((rdD p0 (rdD p1.Cells x37 0) z_Tile).N))] [0, 2, 3, 6, 9, 11, 12, 71, 76, 78, 79, 81] [(0, (sv Aa p0 ca)), (2, (iv p2)), (3, (iv p3)), (6, (pt g6)), (9, (pt g9)), (11, (iv (p1.Cells.length : Int))), (12, (iv x37)), (71, (bv false)), (76, (bv true)), (78, (sv Ac p4.North cc)), (79, (iv x37)), (81, (iv ((rdD p0 (rdD p1.Cells x37 0) z_Tile).N)))] [.cell ⟨g9, 0, none⟩ (sv Ac p4.North cc), .cell ⟨g47, 0, none⟩ (iv ((rdD p0 (rdD p1.Cells x37 0) z_Tile).N))] (fun fb => by kernel_rfl) rfl ⟨hS65.cell 1 rfl 0 rfl, hS65.cell 2 rfl 0 rfl, trivial⟩ ?_
       obtain ⟨t73, ht74, hx71⟩ := bind_some hx71
       refine WL.call (some 82) 66 #[(sv Ac p4.North cc), (iv x37), (iv ((rdD p0 (rdD p1.Cells x37 0) z_Tile).N))] (fun fb => by kernel_rfl) (ref02_has_calls p4.North x37 ((rdD p0 (rdD p1.Cells x37 0) z_Tile).N) Ac cc t73 _ (hS65.rd 2) ht74) (fun v w75 hR76 => ?_)
       obtain ⟨rfl, hk_⟩ := hR76
       have hS77 := hS65.keepN hk_
       refine ⟨trivial, ?_⟩
       refine seg 25 [] [0, 2, 3, 6, 9, 11, 12, 71, 84] [(0, (sv Aa p0 ca)), (2, (iv p2)), (3, (iv p3)), (6, (pt g6)), (9, (pt g9)), (11, (iv (p1.Cells.length : Int))), (12, (iv x37)), (71, (bv false)), (84, (bv (!t73)))] [] (fun fb => by kernel_rfl) rfl trivial ?_
       injection hx71 with hx71
       exact WL.to K (!t73) [0, 2, 3, 6, 9, 11, 12, 71, 84] rfl ⟨⟨(hS77.subR [0, 1, 2, 3, 4, 5]).sub [0, 1] (by decide), hx71.symm⟩, trivial⟩
      refine WL.setB 76 h72 rfl ?_
      refine seg 25 [] [0, 2, 3, 6, 9, 11, 12, 71, 84] [(0, (sv Aa p0 ca)), (2, (iv p2)), (3, (iv p3)), (6, (pt g6)), (9, (pt g9)), (11, (iv (p1.Cells.length : Int))), (12, (iv x37)), (71, (bv false)), (84, (bv false))] [] (fun fb => by kernel_rfl) rfl trivial ?_
      injection hx71 with hx71
      exact WL.to K false [0, 2, 3, 6, 9, 11, 12, 71, 84] rfl ⟨⟨(hS65.subR [0, 1, 2, 3, 4, 5]).sub [0, 1] (by decide), hx71.symm⟩, trivial⟩
     rintro y78 w80 ⟨⟨hS81, hq79⟩, hF82⟩
     subst hq79
     refine seg 26 [] [0, 2, 3, 6, 9, 11, 12, 85] [(0, (sv Aa p0 ca)), (2, (iv p2)), (3, (iv p3)), (6, (pt g6)), (9, (pt g9)), (11, (iv (p1.Cells.length : Int))), (12, (iv x37)), (85, (bv x70))] [] (fun fb => by kernel_rfl) rfl trivial ?_
     injection hx68 with hx68
     exact WL.to K x70 [0, 2, 3, 6, 9, 11, 12, 85] rfl ⟨⟨(hS81.subR [0, 1, 2, 3, 4, 5]).sub [0, 1] (by decide), hx68.symm⟩, trivial⟩
    rintro y83 w85 ⟨⟨hS86, hq84⟩, hF87⟩
    subst hq84
    refine WL.done rfl (WX.next ?_)
    rcases br_some hl43 with ⟨h88, hl43⟩ | ⟨h88, hl43⟩
    ·refine WC.condT2 (fun fb => by kernel_rfl) h88 ?_
     refine WC.seq (WC.region ?_)
     refine seg 1 [] [10] [(10, (bv false))] [] (fun fb => by kernel_rfl) rfl trivial ?_
     refine WL.done rfl (WX.next ?_)
     refine WC.ret ?_
     injection hl43 with hl43
     subst hl43
     injection hf with hf
     subst hf
     exact WX.blockR (WX.thenR (WX.thenR (WX.blockR (WX.thenR (WX.ret_ [] (bv false) [] (fun fb => by kernel_rfl) trivial ⟨_, rfl, rfl, hS86.keep⟩)))))
    refine WC.condF2 (fun fb => by kernel_rfl) h88 ?_
    refine WC.skip ?_
    refine WX.blockN (WX.next ?_)
    refine WC.region ?_
    refine seg 3 [] [0, 2, 3, 6, 9, 11, 12] [(0, (sv Aa p0 ca)), (2, (iv p2)), (3, (iv p3)), (6, (pt g6)), (9, (pt g9)), (11, (iv (p1.Cells.length : Int))), (12, (iv (w64 (x37 + 1))))] [] (fun fb => by kernel_rfl) rfl trivial ?_
    refine WL.done rfl ?_
    exact WX.again k40 (Nat.lt_succ_self _) (w64 (x37 + 1)) [0, 2, 3, 6, 9, 11, 12] rfl ⟨(hS86.subR [0, 1, 2, 3, 4, 5]).sub [0, 1] (by decide), hl43⟩
   refine WC.condF2 (fun fb => by kernel_rfl) h44 ?_
   refine WC.exit ?_
   injection hl43 with hl43
   exact WX.thenX (WX.thenX (WX.blockHere (WX.to Kx38 () [] rfl ⟨(hS42.subR [0, 1, 2, 3, 4, 5]).sub [] (by decide), hl43.symm⟩)))
 rintro y92 w89 ⟨hS90, hq91⟩
 subst hq91
 have hf := sum_inr hf
 refine WX.next (WC.seq (WC.region ?_))
 refine seg 1 [] [10] [(10, (bv true))] [] (fun fb => by kernel_rfl) rfl trivial ?_
 refine WL.done rfl (WX.next ?_)
 refine WC.ret ?_
 injection hf with hf
 subst hf
 exact WX.ret_ [] (bv true) [] (fun fb => by kernel_rfl) trivial ⟨_, rfl, rfl, hS90.keep⟩
theorem ref02_Count_calls (k : Nat) (p0 : List Tile) (p1 : Int) (p2 : Int) (p3 : Edges) (Aa : Option Addr) (ca : Nat) (Ab : Option Addr) (cb : Nat) (Ac : Option Addr) (cc : Nat) (Ad : Option Addr) (cd : Nat) (Ae : Option Addr) (ce : Nat) (r : Int) (w : World) (hR0 : RO NoS w (rowR enc_Tile Aa ca p0)) (hR1 : RO NoS w (rowR encInt Ab cb p3.North)) (hR2 : RO NoS w (rowR encInt Ac cc p3.East)) (hR3 : RO NoS w (rowR encInt Ad cd p3.South)) (hR4 : RO NoS w (rowR encInt Ae ce p3.West)) (hf : ref02_Count k p0 p1 p2 p3 = some r) :
  CallsR Tryd.prog 30 #[(sv Aa p0 ca), (iv p1), (iv p2), (.agg #[(sv Ab p3.North cb), (sv Ac p3.East cc), (sv Ad p3.South cd), (sv Ae p3.West ce)])] w (fun v w' => v = (iv r) ∧ Keeps NoS w w') := by
 have hS : St NoS w w [rowR enc_Tile Aa ca p0, rowR encInt Ab cb p3.North, rowR encInt Ac cc p3.East, rowR encInt Ad cd p3.South, rowR encInt Ae ce p3.West] [] := St.init (ro_cons hR0 (ro_cons hR1 (ro_cons hR2 (ro_cons hR3 (ro_cons hR4 (ro_nil _ _))))))
 refine enter 88 Tryd.func30 rfl Tryd.ntmps30 rfl ?_
 unfold ref02_Count at hf
 refine WC.seq (WC.region ?_)
 refine WL.new hS 7 [] (fun g => (pt g)) (.cells #[(sv Ab p3.North cb), (sv Ac p3.East cc), (sv Ad p3.South cd), (sv Ae p3.West ce)] 44 (0, 0)) [] (fun fb g => by kernel_rfl) trivial (fun g5 w6 hS7 => ?_)
 refine ⟨trivial, ?_⟩
 refine seg 2 [] [0, 1, 2, 7] [(0, (sv Aa p0 ca)), (1, (iv p1)), (2, (iv p2)), (7, (pt g5))] [] (fun fb => by kernel_rfl) rfl trivial ?_
 refine WL.done rfl (WX.next (WC.seq (WC.region ?_)))
 refine seg 2 [] [0, 1, 2, 7, 19, 20] [(0, (sv Aa p0 ca)), (1, (iv p1)), (2, (iv p2)), (7, (pt g5)), (19, (sv Aa p0 ca)), (20, (iv p1))] [] (fun fb => by kernel_rfl) rfl trivial ?_
 obtain ⟨t8, ht9, hf⟩ := bind_some hf
 refine WL.call (some 21) 62 #[(sv Aa p0 ca), (iv p1)] (fun fb => by kernel_rfl) (ref02_Rows_calls _ p0 p1 Aa ca t8 _ (hS7.rd 0) ht9) (fun v w10 hR11 => ?_)
 obtain ⟨A13, c14, H15, rfl, hk_⟩ := hR11
 have hS12 := hS.go w10 [rowO 88 encN_Row_ref02 A13 c14 (tag H15 t8), poolO [nestO subN_Row_ref02 H15 t8], blk g5 (.cells #[(.slice Ab p3.North.length cb), (.slice Ac p3.East.length cc), (.slice Ad p3.South.length cd), (.slice Ae p3.West.length ce)] 44 (0, 0))] (hS7.call hk_ [] [0] (fun g hg => hg.elim) (by simp) (by decide))
 refine ⟨trivial, ?_⟩
 refine seg 4 [] [0, 1, 2, 7, 21, 22] [(0, (sv Aa p0 ca)), (1, (iv p1)), (2, (iv p2)), (7, (pt g5)), (21, (sv A13 t8 c14)), (22, (sv Aa p0 ca))] [] (fun fb => by kernel_rfl) rfl trivial ?_
 obtain ⟨t16, ht17, hf⟩ := bind_some hf
 refine WL.call (some 23) 38 #[(sv Aa p0 ca)] (fun fb => by kernel_rfl) (ref02_Colours_calls _ p0 Aa ca t16 _ (hS12.rd 0) ht17) (fun v w18 hR19 => ?_)
 obtain ⟨A21, c22, rfl, hk_⟩ := hR19
 have hS20 := hS12.go w18 [rowO 3 encInt A21 c22 t16, rowO 88 encN_Row_ref02 A13 c14 (tag H15 t8), poolO [nestO subN_Row_ref02 H15 t8], blk g5 (.cells #[(.slice Ab p3.North.length cb), (.slice Ac p3.East.length cc), (.slice Ad p3.South.length cd), (.slice Ae p3.West.length ce)] 44 (0, 0))] (hS12.call hk_ [] [0, 1, 2] (fun g hg => hg.elim) (by simp) (by decide))
 refine ⟨trivial, ?_⟩
 refine seg 7 [] [0, 2, 7, 21, 24, 25] [(0, (sv Aa p0 ca)), (2, (iv p2)), (7, (pt g5)), (21, (sv A13 t8 c14)), (24, (iv (t16.length : Int))), (25, (iv p1))] [] (fun fb => by kernel_rfl) rfl trivial ?_
 obtain ⟨t23, ht24, hf⟩ := bind_some hf
 refine WL.call (some 26) 24 #[(iv (t16.length : Int)), (iv p1)] (fun fb => by kernel_rfl) (ref02_Power_calls _ (t16.length : Int) p1 t23 _ ht24) (fun v w25 hR26 => ?_)
 obtain ⟨rfl, hk_⟩ := hR26
 have hS27 := hS20.keepN hk_
 refine ⟨trivial, ?_⟩
 refine seg 10 [] [0, 2, 7, 9, 10] [(0, (sv Aa p0 ca)), (2, (iv p2)), (7, (pt g5)), (9, (sv A13 t8 c14)), (10, (iv t23))] [] (fun fb => by kernel_rfl) rfl trivial ?_
 refine WL.done rfl (WX.next (WC.seq (WC.region ?_)))
 refine seg 1 [] [0, 2, 7, 9, 10, 11] [(0, (sv Aa p0 ca)), (2, (iv p2)), (7, (pt g5)), (9, (sv A13 t8 c14)), (10, (iv t23)), (11, (.slice none 0 0))] [] (fun fb => by kernel_rfl) rfl trivial ?_
 refine WL.done rfl (WX.next (WC.seq (WC.seq (WC.region ?_))))
 refine seg 3 [] [0, 2, 7, 9, 10, 11, 12] [(0, (sv Aa p0 ca)), (2, (iv p2)), (7, (pt g5)), (9, (sv A13 t8 c14)), (10, (iv t23)), (11, (.slice none 0 0)), (12, (iv (w64 (p2 - 1))))] [] (fun fb => by kernel_rfl) rfl trivial ?_
 refine WL.done rfl (WX.next ?_)
 have hS28 := hS27.nilrow 3 encInt
 obtain ⟨x36, hx37, hf⟩ := bind_some hf
 refine WC.cutN (T := (List Int) × (Option Addr) × Nat) (fun t => [(11, (sv t.2.1 t.1 t.2.2))]) (fun t w1 => St NoS w w1 [rowR enc_Tile Aa ca p0, rowR encInt Ab cb p3.North, rowR encInt Ac cc p3.East, rowR encInt Ad cd p3.South, rowR encInt Ae ce p3.West] [rowO 3 encInt t.2.1 t.2.2 t.1] ∧ x36 = t.1) (fun Kx36 => ?_) ?_
 ·
  refine WC.block ?_
  refine WC.loop (T := ((List Int) × Int) × (Option Addr) × Nat) (fun t => [(0, (sv Aa p0 ca)), (2, (iv p2)), (7, (pt g5)), (9, (sv A13 t8 c14)), (10, (iv t23)), (11, (sv t.2.1 t.1.1 t.2.2)), (12, (iv t.1.2))]) (fun n t w1 => St NoS w w1 [rowR enc_Tile Aa ca p0, rowR encInt Ab cb p3.North, rowR encInt Ac cc p3.East, rowR encInt Ad cd p3.South, rowR encInt Ae ce p3.West] [blk g5 (.cells #[(sv Ab p3.North cb), (sv Ac p3.East cc), (sv Ad p3.South cd), (sv Ae p3.West ce)] 44 (0, 0)), rowO 88 encN_Row_ref02 A13 c14 (tag H15 t8), poolO [nestO subN_Row_ref02 H15 t8], rowO 3 encInt t.2.1 t.2.2 t.1.1] ∧ ref02_Count.l0 n t.1.1 t.1.2 p0 p2 p3 t8 t23 = some x36) k ((([] : List Int), w64 (p2 - 1)), none, 0) [0, 2, 7, 9, 10, 11, 12] rfl ⟨(hS28.subR [0, 1, 2, 3, 4]).sub [4, 2, 3, 0] (by decide), hx37⟩ ?_
  rintro k38 ⟨⟨l32, x33⟩, A29, c31⟩ w39 ⟨hS40, hl41⟩
  cases k38 with
  | zero => rw [ref02_Count.l0] at hl41; cases hl41
  | succ k38 =>
   rw [ref02_Count.l0] at hl41
   refine WC.seq (WC.seq (WC.region ?_))
   refine seg 2 [] [0, 2, 7, 9, 10, 11, 12, 30] [(0, (sv Aa p0 ca)), (2, (iv p2)), (7, (pt g5)), (9, (sv A13 t8 c14)), (10, (iv t23)), (11, (sv A29 l32 c31)), (12, (iv x33)), (30, (bv (decide (x33 ≥ 0))))] [] (fun fb => by kernel_rfl) rfl trivial ?_
   refine WL.done rfl (WX.next ?_)
   rcases br_some hl41 with ⟨h42, hl41⟩ | ⟨h42, hl41⟩
   ·refine WC.condT2 (fun fb => by kernel_rfl) h42 ?_
    refine WC.skip (WX.next (WC.seq (WC.block (WC.seq (WC.region ?_)))))
    refine seg 1 [] [0, 2, 7, 9, 10, 11, 12, 33] [(0, (sv Aa p0 ca)), (2, (iv p2)), (7, (pt g5)), (9, (sv A13 t8 c14)), (10, (iv t23)), (11, (sv A29 l32 c31)), (12, (iv x33)), (33, (iv t23))] [] (fun fb => by kernel_rfl) rfl trivial ?_
    obtain ⟨h43, hl41⟩ := as_some hl41
    refine WL.make hS40 (e := encInt) (T := 3) (tS := 25) (z := (iv 0)) (bytes := 8) (d := 34) (0 : Int) t23 (fun fb => by kernel_rfl) (by kernel_rfl) (by kernel_rfl) rfl (by decide) h43 (by decide) (fun g44 w45 hS46 => ?_)
    refine ⟨trivial, ?_⟩
    refine seg 3 [] [0, 2, 7, 9, 10, 11, 12, 13] [(0, (sv Aa p0 ca)), (2, (iv p2)), (7, (pt g5)), (9, (sv A13 t8 c14)), (10, (iv t23)), (11, (sv A29 l32 c31)), (12, (iv x33)), (13, (sv (some ⟨g44, 0, none⟩) (List.replicate t23.toNat (0 : Int)) t23.toNat))] [] (fun fb => by kernel_rfl) rfl trivial ?_
    refine WL.done rfl (WX.next (WC.seq (WC.seq (WC.region ?_))))
    refine seg 1 [] [0, 2, 7, 9, 10, 11, 12, 13, 14] [(0, (sv Aa p0 ca)), (2, (iv p2)), (7, (pt g5)), (9, (sv A13 t8 c14)), (10, (iv t23)), (11, (sv A29 l32 c31)), (12, (iv x33)), (13, (sv (some ⟨g44, 0, none⟩) (List.replicate t23.toNat (0 : Int)) t23.toNat)), (14, (iv 0))] [] (fun fb => by kernel_rfl) rfl trivial ?_
    refine WL.done rfl (WX.next ?_)
    obtain ⟨x53, hx54, hl41⟩ := bind_some hl41
    refine WC.cutN (T := (List Int) × (Option Addr) × Nat) (fun t => [(0, (sv Aa p0 ca)), (2, (iv p2)), (7, (pt g5)), (9, (sv A13 t8 c14)), (10, (iv t23)), (12, (iv x33)), (13, (sv t.2.1 t.1 t.2.2))]) (fun t w1 => St NoS w w1 [rowR enc_Tile Aa ca p0, rowR encInt Ab cb p3.North, rowR encInt Ac cc p3.East, rowR encInt Ad cd p3.South, rowR encInt Ae ce p3.West] [blk g5 (.cells #[(sv Ab p3.North cb), (sv Ac p3.East cc), (sv Ad p3.South cd), (sv Ae p3.West ce)] 44 (0, 0)), rowO 88 encN_Row_ref02 A13 c14 (tag H15 t8), poolO [nestO subN_Row_ref02 H15 t8], rowO 3 encInt t.2.1 t.2.2 t.1] ∧ x53 = t.1) (fun Kx53 => ?_) ?_
    ·
     refine WC.block ?_
     refine WC.loop (T := ((List Int) × Int) × (Option Addr) × Nat) (fun t => [(0, (sv Aa p0 ca)), (2, (iv p2)), (7, (pt g5)), (9, (sv A13 t8 c14)), (10, (iv t23)), (11, (sv A29 l32 c31)), (12, (iv x33)), (13, (sv t.2.1 t.1.1 t.2.2)), (14, (iv t.1.2))]) (fun n t w1 => St NoS w w1 [rowR enc_Tile Aa ca p0, rowR encInt Ab cb p3.North, rowR encInt Ac cc p3.East, rowR encInt Ad cd p3.South, rowR encInt Ae ce p3.West] [blk g5 (.cells #[(sv Ab p3.North cb), (sv Ac p3.East cc), (sv Ad p3.South cd), (sv Ae p3.West ce)] 44 (0, 0)), rowO 88 encN_Row_ref02 A13 c14 (tag H15 t8), poolO [nestO subN_Row_ref02 H15 t8], rowO 3 encInt A29 c31 l32, rowO 3 encInt t.2.1 t.2.2 t.1.1] ∧ ref02_Count.l1 n t.1.1 t.1.2 p0 p2 p3 t8 l32 x33 = some x53) k38 (((List.replicate t23.toNat (0 : Int)), 0), (some ⟨g44, 0, none⟩), t23.toNat) [0, 2, 7, 9, 10, 11, 12, 13, 14] rfl ⟨(hS46.subR [0, 1, 2, 3, 4]).sub [1, 2, 3, 4, 0] (by decide), hx54⟩ ?_
     rintro k55 ⟨⟨l49, x50⟩, A47, c48⟩ w56 ⟨hS57, hl58⟩
     cases k55 with
     | zero => rw [ref02_Count.l1] at hl58; cases hl58
     | succ k55 =>
      rw [ref02_Count.l1] at hl58
      refine WC.seq (WC.seq (WC.region ?_))
      refine seg 4 [] [0, 2, 7, 9, 10, 11, 12, 13, 14, 38] [(0, (sv Aa p0 ca)), (2, (iv p2)), (7, (pt g5)), (9, (sv A13 t8 c14)), (10, (iv t23)), (11, (sv A29 l32 c31)), (12, (iv x33)), (13, (sv A47 l49 c48)), (14, (iv x50)), (38, (bv (decide (x50 < (t8.length : Int)))))] [] (fun fb => by kernel_rfl) rfl trivial ?_
      refine WL.done rfl (WX.next ?_)
      rcases br_some hl58 with ⟨h59, hl58⟩ | ⟨h59, hl58⟩
      ·refine WC.condT2 (fun fb => by kernel_rfl) h59 ?_
       refine WC.skip (WX.next (WC.seq ?_))
       obtain ⟨x62, hx63, hl58⟩ := bind_some hl58
       refine WC.cutN (T := (List Int) × (Option Addr) × Nat) (fun t => [(0, (sv Aa p0 ca)), (2, (iv p2)), (7, (pt g5)), (9, (sv A13 t8 c14)), (10, (iv t23)), (11, (sv A29 l32 c31)), (12, (iv x33)), (13, (sv t.2.1 t.1 t.2.2)), (14, (iv x50))]) (fun t w1 => St NoS w w1 [rowR enc_Tile Aa ca p0, rowR encInt Ab cb p3.North, rowR encInt Ac cc p3.East, rowR encInt Ad cd p3.South, rowR encInt Ae ce p3.West] [blk g5 (.cells #[(sv Ab p3.North cb), (sv Ac p3.East cc), (sv Ad p3.South cd), (sv Ae p3.West ce)] 44 (0, 0)), rowO 88 encN_Row_ref02 A13 c14 (tag H15 t8), poolO [nestO subN_Row_ref02 H15 t8], rowO 3 encInt A29 c31 l32, rowO 3 encInt t.2.1 t.2.2 t.1] ∧ x62 = t.1) (fun Kx62 => ?_) ?_
       ·
        refine WC.block (WC.seq (WC.region ?_))
        refine seg 2 [] [0, 2, 7, 9, 10, 11, 12, 13, 14, 41, 42] [(0, (sv Aa p0 ca)), (2, (iv p2)), (7, (pt g5)), (9, (sv A13 t8 c14)), (10, (iv t23)), (11, (sv A29 l32 c31)), (12, (iv x33)), (13, (sv A47 l49 c48)), (14, (iv x50)), (41, (sv A13 t8 c14)), (42, (iv x50))] [] (fun fb => by kernel_rfl) rfl trivial ?_
        obtain ⟨h65, hx63⟩ := as_some hx63
        refine seg 4 [.v (sv ((H15 x50.toNat 0).1) ((rdD t8 x50 z_Row_ref02).Cells) ((H15 x50.toNat 0).2)), .v (iv ((rdD t8 x50 z_Row_ref02).South)), .v (iv ((rdD t8 x50 z_Row_ref02).North))] [0, 2, 7, 9, 10, 11, 12, 13, 14, 44] [(0, (sv Aa p0 ca)), (2, (iv p2)), (7, (pt g5)), (9, (sv A13 t8 c14)), (10, (iv t23)), (11, (sv A29 l32 c31)), (12, (iv x33)), (13, (sv A47 l49 c48)), (14, (iv x50)), (44, (.agg #[(sv ((H15 x50.toNat 0).1) ((rdD t8 x50 z_Row_ref02).Cells) ((H15 x50.toNat 0).2)), (iv ((rdD t8 x50 z_Row_ref02).South)), (iv ((rdD t8 x50 z_Row_ref02).North))]))] [.idx A13 x50 t8.length, .cell ((adr A13).add ((x50).toNat * 3)) (sv ((H15 x50.toNat 0).1) ((rdD t8 x50 z_Row_ref02).Cells) ((H15 x50.toNat 0).2)), .cell (((adr A13).add ((x50).toNat * 3)).add 1) (iv ((rdD t8 x50 z_Row_ref02).South)), .cell (((adr A13).add ((x50).toNat * 3)).add 2) (iv ((rdD t8 x50 z_Row_ref02).North))] (fun fb => by kernel_rfl) rfl ⟨nrow_adr (rowO.rd (hS57.own 1).1) h65.1 h65.2, nrow_cell (rowO.rd (hS57.own 1).1) z_Row_ref02 h65.1 h65.2 0 rfl, nrow_cell (rowO.rd (hS57.own 1).1) z_Row_ref02 h65.1 h65.2 1 rfl, nrow_cell (rowO.rd (hS57.own 1).1) z_Row_ref02 h65.1 h65.2 2 rfl, trivial⟩ ?_
        refine WL.new hS57 15 [] (fun g => (pt g)) (.cells #[(.slice none 0 0), (iv 0), (iv 0)] 88 (0, 0)) [] (fun fb g => by kernel_rfl) trivial (fun g66 w67 hS68 => ?_)
        refine ⟨trivial, ?_⟩
        refine WL.store hS68 0 rfl [(0, (sv ((H15 x50.toNat 0).1) ((rdD t8 x50 z_Row_ref02).Cells) ((H15 x50.toNat 0).2))), (1, (iv ((rdD t8 x50 z_Row_ref02).South))), (2, (iv ((rdD t8 x50 z_Row_ref02).North)))] #[(sv ((H15 x50.toNat 0).1) ((rdD t8 x50 z_Row_ref02).Cells) ((H15 x50.toNat 0).2)), (iv ((rdD t8 x50 z_Row_ref02).South)), (iv ((rdD t8 x50 z_Row_ref02).North))] (fun fb => by kernel_rfl) (by kernel_rfl) rfl [1, 2, 3, 4, 5] (by decide) (by decide) (fun w69 hS70 => ?_)
        refine ⟨trivial, ?_⟩
        refine WL.done rfl (WX.next (WC.seq (WC.seq (WC.region ?_))))
        refine seg 5 [.v (sv ((H15 x50.toNat 0).1) ((rdD t8 x50 z_Row_ref02).Cells) ((H15 x50.toNat 0).2)), .v (iv ((rdD t8 x50 z_Row_ref02).South)), .v (iv ((rdD t8 x50 z_Row_ref02).North)), .v (sv Ab p3.North cb), .v (sv Ac p3.East cc), .v (sv Ad p3.South cd), .v (sv Ae p3.West ce)] [0, 2, 7, 9, 10, 11, 12, 13, 14, 15, 45, 46, 47, 48, 49] [(0, (sv Aa p0 ca)), (2, (iv p2)), (7, (pt g5)), (9, (sv A13 t8 c14)), (10, (iv t23)), (11, (sv A29 l32 c31)), (12, (iv x33)), (13, (sv A47 l49 c48)), (14, (iv x50)), (15, (pt g66)), (45, (sv Aa p0 ca)), (46, (.agg #[(sv ((H15 x50.toNat 0).1) ((rdD t8 x50 z_Row_ref02).Cells) ((H15 x50.toNat 0).2)), (iv ((rdD t8 x50 z_Row_ref02).South)), (iv ((rdD t8 x50 z_Row_ref02).North))])), (47, (iv x33)), (48, (iv p2)), (49, (.agg #[(sv Ab p3.North cb), (sv Ac p3.East cc), (sv Ad p3.South cd), (sv Ae p3.West ce)]))] [.cell ⟨g66, 0, none⟩ (sv ((H15 x50.toNat 0).1) ((rdD t8 x50 z_Row_ref02).Cells) ((H15 x50.toNat 0).2)), .cell ⟨g66, 1, none⟩ (iv ((rdD t8 x50 z_Row_ref02).South)), .cell ⟨g66, 2, none⟩ (iv ((rdD t8 x50 z_Row_ref02).North)), .cell ⟨g5, 0, none⟩ (sv Ab p3.North cb), .cell ⟨g5, 1, none⟩ (sv Ac p3.East cc), .cell ⟨g5, 2, none⟩ (sv Ad p3.South cd), .cell ⟨g5, 3, none⟩ (sv Ae p3.West ce)] (fun fb => by kernel_rfl) rfl ⟨hS70.cell 0 rfl 0 rfl, hS70.cell 0 rfl 1 rfl, hS70.cell 0 rfl 2 rfl, hS70.cell 1 rfl 0 rfl, hS70.cell 1 rfl 1 rfl, hS70.cell 1 rfl 2 rfl, hS70.cell 1 rfl 3 rfl, trivial⟩ ?_
        obtain ⟨t71, ht72, hx63⟩ := bind_some hx63
        refine WL.call (some 50) 63 #[(sv Aa p0 ca), (.agg #[(sv ((H15 x50.toNat 0).1) ((rdD t8 x50 z_Row_ref02).Cells) ((H15 x50.toNat 0).2)), (iv ((rdD t8 x50 z_Row_ref02).South)), (iv ((rdD t8 x50 z_Row_ref02).North))]), (iv x33), (iv p2), (.agg #[(sv Ab p3.North cb), (sv Ac p3.East cc), (sv Ad p3.South cd), (sv Ae p3.West ce)])] (fun fb => by kernel_rfl) (ref02_fits_calls _ p0 (rdD t8 x50 z_Row_ref02) x33 p2 p3 Aa ca ((H15 x50.toNat 0).1) ((H15 x50.toNat 0).2) Ab cb Ac cc Ad cd Ae ce t71 _ (hS70.rd 0) (nestO.ro (poolO.ro (hS70.ow 3) 0) z_Row_ref02 h65.1 h65.2) (hS70.rd 1) (hS70.rd 2) (hS70.rd 3) (hS70.rd 4) ht72) (fun v w73 hR74 => ?_)
        obtain ⟨rfl, hk_⟩ := hR74
        have hS75 := hS70.keepN hk_
        refine ⟨trivial, ?_⟩
        refine seg 7 [] [0, 2, 7, 9, 10, 11, 12, 13, 14, 15, 51] [(0, (sv Aa p0 ca)), (2, (iv p2)), (7, (pt g5)), (9, (sv A13 t8 c14)), (10, (iv t23)), (11, (sv A29 l32 c31)), (12, (iv x33)), (13, (sv A47 l49 c48)), (14, (iv x50)), (15, (pt g66)), (51, (bv (!t71)))] [] (fun fb => by kernel_rfl) rfl trivial ?_
        refine WL.done rfl (WX.next ?_)
        rcases br_some hx63 with ⟨h76, hx63⟩ | ⟨h76, hx63⟩
        ·refine WC.condT2 (fun fb => by kernel_rfl) h76 ?_
         refine WC.exit ?_
         injection hx63 with hx63
         exact WX.thenX (WX.blockHere (WX.to Kx62 (l49, A47, c48) [0, 2, 7, 9, 10, 11, 12, 13, 14] rfl ⟨(hS75.subR [0, 1, 2, 3, 4]).sub [1, 2, 3, 4, 5] (by decide), hx63.symm⟩))
        refine WC.condF2 (fun fb => by kernel_rfl) h76 ?_
        refine WC.skip (WX.next (WC.seq (WC.region ?_)))
        refine seg 1 [] [0, 2, 7, 9, 10, 11, 12, 13, 14, 15, 16] [(0, (sv Aa p0 ca)), (2, (iv p2)), (7, (pt g5)), (9, (sv A13 t8 c14)), (10, (iv t23)), (11, (sv A29 l32 c31)), (12, (iv x33)), (13, (sv A47 l49 c48)), (14, (iv x50)), (15, (pt g66)), (16, (iv 1))] [] (fun fb => by kernel_rfl) rfl trivial ?_
        refine WL.done rfl (WX.next (WC.seq (WC.seq (WC.region ?_))))
        refine seg 4 [] [0, 2, 7, 9, 10, 11, 12, 13, 14, 15, 16, 55] [(0, (sv Aa p0 ca)), (2, (iv p2)), (7, (pt g5)), (9, (sv A13 t8 c14)), (10, (iv t23)), (11, (sv A29 l32 c31)), (12, (iv x33)), (13, (sv A47 l49 c48)), (14, (iv x50)), (15, (pt g66)), (16, (iv 1)), (55, (bv (decide (x33 < w64 (p2 - 1)))))] [] (fun fb => by kernel_rfl) rfl trivial ?_
        refine WL.done rfl (WX.next ?_)
        obtain ⟨x77, hx78, hx63⟩ := bind_some hx63
        refine WC.cutN (T := Int) (fun t => [(0, (sv Aa p0 ca)), (2, (iv p2)), (7, (pt g5)), (9, (sv A13 t8 c14)), (10, (iv t23)), (11, (sv A29 l32 c31)), (12, (iv x33)), (13, (sv A47 l49 c48)), (14, (iv x50)), (15, (pt g66)), (16, (iv t))]) (fun t w1 => St NoS w w1 [rowR enc_Tile Aa ca p0, rowR encInt Ab cb p3.North, rowR encInt Ac cc p3.East, rowR encInt Ad cd p3.South, rowR encInt Ae ce p3.West] [blk g5 (.cells #[(sv Ab p3.North cb), (sv Ac p3.East cc), (sv Ad p3.South cd), (sv Ae p3.West ce)] 44 (0, 0)), rowO 88 encN_Row_ref02 A13 c14 (tag H15 t8), poolO [nestO subN_Row_ref02 H15 t8], rowO 3 encInt A29 c31 l32, rowO 3 encInt A47 c48 l49, blk g66 (.cells #[(sv ((H15 x50.toNat 0).1) ((rdD t8 x50 z_Row_ref02).Cells) ((H15 x50.toNat 0).2)), (iv ((rdD t8 x50 z_Row_ref02).South)), (iv ((rdD t8 x50 z_Row_ref02).North))] 88 (0, 0))] ∧ x77 = t) (fun Kx77 => ?_) ?_
        ·
         rcases br_some hx78 with ⟨h79, hx78⟩ | ⟨h79, hx78⟩
         ·refine WC.condT2 (fun fb => by kernel_rfl) h79 ?_
          refine WC.region ?_
          refine seg 3 [.v (iv ((rdD t8 x50 z_Row_ref02).North))] [0, 2, 7, 9, 10, 11, 12, 13, 14, 15, 56, 58] [(0, (sv Aa p0 ca)), (2, (iv p2)), (7, (pt g5)), (9, (sv A13 t8 c14)), (10, (iv t23)), (11, (sv A29 l32 c31)), (12, (iv x33)), (13, (sv A47 l49 c48)), (14, (iv x50)), (15, (pt g66)), (56, (sv A29 l32 c31)), (58, (iv ((rdD t8 x50 z_Row_ref02).North)))] [.cell ⟨g66, 2, none⟩ (iv ((rdD t8 x50 z_Row_ref02).North))] (fun fb => by kernel_rfl) rfl ⟨hS75.cell 0 rfl 2 rfl, trivial⟩ ?_
          obtain ⟨h80, hx78⟩ := as_some hx78
          refine seg 6 [.v (iv (rdD l32 ((rdD t8 x50 z_Row_ref02).North) 0))] [0, 2, 7, 9, 10, 11, 12, 13, 14, 15, 16] [(0, (sv Aa p0 ca)), (2, (iv p2)), (7, (pt g5)), (9, (sv A13 t8 c14)), (10, (iv t23)), (11, (sv A29 l32 c31)), (12, (iv x33)), (13, (sv A47 l49 c48)), (14, (iv x50)), (15, (pt g66)), (16, (iv (rdD l32 ((rdD t8 x50 z_Row_ref02).North) 0)))] [.idx A29 ((rdD t8 x50 z_Row_ref02).North) l32.length, .cell ((adr A29).add (((rdD t8 x50 z_Row_ref02).North).toNat * 1)) (iv (rdD l32 ((rdD t8 x50 z_Row_ref02).North) 0))] (fun fb => by kernel_rfl) rfl ⟨rowR.adr (rowO.rd (hS75.own 4).1) h80.1 h80.2, rowR.cell (rowO.rd (hS75.own 4).1) 0 h80.1 h80.2 0 rfl, trivial⟩ ?_
          refine WL.done rfl ?_
          injection hx78 with hx78
          exact WX.to Kx77 (rdD l32 ((rdD t8 x50 z_Row_ref02).North) 0) [0, 2, 7, 9, 10, 11, 12, 13, 14, 15, 16] rfl ⟨(hS75.subR [0, 1, 2, 3, 4]).sub [1, 2, 3, 4, 5, 0] (by decide), hx78.symm⟩
         refine WC.condF2 (fun fb => by kernel_rfl) h79 ?_
         refine WC.skip ?_
         injection hx78 with hx78
         exact WX.to Kx77 1 [0, 2, 7, 9, 10, 11, 12, 13, 14, 15, 16] rfl ⟨(hS75.subR [0, 1, 2, 3, 4]).sub [1, 2, 3, 4, 5, 0] (by decide), hx78.symm⟩
        rintro y84 w81 ⟨hS82, hq83⟩
        subst hq83
        refine WX.next ?_
        obtain ⟨h87, hx63⟩ := as_some hx63
        refine WC.regionD ([(2, ⟨g66, 1, none⟩, (iv ((rdD t8 x50 z_Row_ref02).South))), (5, ⟨g66, 1, none⟩, (iv ((rdD t8 x50 z_Row_ref02).South))), (7, ((adr A47).add (((rdD t8 x50 z_Row_ref02).South).toNat * 1)), (iv (rdD l49 ((rdD t8 x50 z_Row_ref02).South) 0)))], [0, 1, 2, 3, 4, 5, 6, 7, 8, 9, 10, 11], [[], [], [1], [], [], [4], [3, 4, 5], [3, 4, 5, 6], [], [3, 4, 5, 6, 7, 8], [3, 4, 5, 6, 7, 8, 9], [0, 1, 2, 3, 4, 5, 6, 7, 8, 9, 10], [0, 1, 2, 3, 4, 5, 6, 7, 8, 9, 10, 11]]) [[0, 1, 2, 3, 4, 5, 6, 7, 8, 9, 10, 11, 12]] (by kernel_rfl) (by kernel_rfl) (NoPanic.block (NoPanic.seq (NoPanic.seq (NoPanic.block (NoPanic.seq (NoPanic.block (NoPanic.seq (NoPanic.seq (NoPanic.block (NoPanic.seq (NoPanic.body))))))))))) ?_
        have hS86 := hS82.drew
        revert hS86
        generalize World.drew w81 = w85
        intro hS86
        refine ⟨⟨hS86.cell 5 rfl 1 rfl, hS86.cell 5 rfl 1 rfl, rowR.cell (rowO.rd (hS86.own 4).1) 0 h87.1 h87.2 0 rfl, trivial⟩, forallC ?_ (forallN)⟩
        refine segF 12 [.v (iv ((rdD t8 x50 z_Row_ref02).South)), .v (iv ((rdD t8 x50 z_Row_ref02).South)), .v (iv (rdD l49 ((rdD t8 x50 z_Row_ref02).South) 0))] [0, 2, 7, 9, 10, 11, 12, 13, 14, 71, 72] [(0, (sv Aa p0 ca)), (2, (iv p2)), (7, (pt g5)), (9, (sv A13 t8 c14)), (10, (iv t23)), (11, (sv A29 l32 c31)), (12, (iv x33)), (13, (sv A47 l49 c48)), (14, (iv x50)), (71, (iv (minI (w64 ((rdD l49 ((rdD t8 x50 z_Row_ref02).South) 0) + x77)) 1152921504606846977))), (72, (.pointer (some ((adr A47).add (((rdD t8 x50 z_Row_ref02).South).toNat * 1)))))] [.idx A47 ((rdD t8 x50 z_Row_ref02).South) l49.length, .idx A47 ((rdD t8 x50 z_Row_ref02).South) l49.length] [0, 1, 2] [(2, ⟨g66, 1, none⟩, (iv ((rdD t8 x50 z_Row_ref02).South))), (5, ⟨g66, 1, none⟩, (iv ((rdD t8 x50 z_Row_ref02).South))), (7, ((adr A47).add (((rdD t8 x50 z_Row_ref02).South).toNat * 1)), (iv (rdD l49 ((rdD t8 x50 z_Row_ref02).South) 0)))] (fun fb => by kernel_rfl) rfl ⟨rowR.adr (rowO.rd (hS86.own 4).1) h87.1 h87.2, rowR.adr (rowO.rd (hS86.own 4).1) h87.1 h87.2, trivial⟩ rfl ?_
        refine WL.storeRow hS86 4 rfl ((rdD t8 x50 z_Row_ref02).South) (minI (w64 ((rdD l49 ((rdD t8 x50 z_Row_ref02).South) 0) + x77)) 1152921504606846977) (0) [(0, (iv (minI (w64 ((rdD l49 ((rdD t8 x50 z_Row_ref02).South) 0) + x77)) 1152921504606846977)))] (fun fb => by kernel_rfl) h87.1 h87.2 (by kernel_rfl) rfl [0, 1, 2, 3, 5] (by decide) (by decide) (fun w88 hS89 => ?_)
        refine ⟨trivial, ?_⟩
        refine WL.reE [0, 2, 7, 9, 10, 11, 12, 13, 14] [(0, (.slice Aa p0.length ca)), (2, (iv p2)), (7, (pt g5)), (9, (.slice A13 t8.length c14)), (10, (iv t23)), (11, (.slice A29 l32.length c31)), (12, (iv x33)), (13, (.slice A47 l49.length c48)), (14, (iv x50))] [(0, (.slice Aa p0.length ca)), (2, (iv p2)), (7, (pt g5)), (9, (.slice A13 t8.length c14)), (10, (iv t23)), (11, (.slice A29 l32.length c31)), (12, (iv x33)), (13, (.slice A47 (l49.set ((rdD t8 x50 z_Row_ref02).South).toNat (minI (w64 ((rdD l49 ((rdD t8 x50 z_Row_ref02).South) 0) + x77)) 1152921504606846977)).length c48)), (14, (iv x50))] rfl (by simp only [List.length_set]) ?_
        refine WL.done rfl ?_
        injection hx63 with hx63
        exact WX.blockN (WX.to Kx62 (l49.set ((rdD t8 x50 z_Row_ref02).South).toNat (minI (w64 ((rdD l49 ((rdD t8 x50 z_Row_ref02).South) 0) + x77)) 1152921504606846977), A47, c48) [0, 2, 7, 9, 10, 11, 12, 13, 14] rfl ⟨(hS89.subR [0, 1, 2, 3, 4]).sub [1, 2, 3, 4, 0] (by decide), hx63.symm⟩)
       rintro ⟨y93, A60, c61⟩ w90 ⟨hS91, hq92⟩
       subst hq92
       refine WX.next (WC.region ?_)
       refine seg 3 [] [0, 2, 7, 9, 10, 11, 12, 13, 14] [(0, (sv Aa p0 ca)), (2, (iv p2)), (7, (pt g5)), (9, (sv A13 t8 c14)), (10, (iv t23)), (11, (sv A29 l32 c31)), (12, (iv x33)), (13, (sv A60 x62 c61)), (14, (iv (w64 (x50 + 1))))] [] (fun fb => by kernel_rfl) rfl trivial ?_
       refine WL.done rfl ?_
       exact WX.again k55 (Nat.lt_succ_self _) ((x62, w64 (x50 + 1)), A60, c61) [0, 2, 7, 9, 10, 11, 12, 13, 14] rfl ⟨(hS91.subR [0, 1, 2, 3, 4]).sub [0, 1, 2, 3, 4] (by decide), hl58⟩
      refine WC.condF2 (fun fb => by kernel_rfl) h59 ?_
      refine WC.exit ?_
      injection hl58 with hl58
      exact WX.thenX (WX.thenX (WX.blockHere (WX.to Kx53 (l49, A47, c48) [0, 2, 7, 9, 10, 12, 13] rfl ⟨(hS57.subR [0, 1, 2, 3, 4]).sub [0, 1, 2, 4] (by decide), hl58.symm⟩)))
    rintro ⟨y97, A51, c52⟩ w94 ⟨hS95, hq96⟩
    subst hq96
    refine WX.next (WC.region ?_)
    refine seg 2 [] [0, 2, 7, 9, 10, 11, 12] [(0, (sv Aa p0 ca)), (2, (iv p2)), (7, (pt g5)), (9, (sv A13 t8 c14)), (10, (iv t23)), (11, (sv A51 x53 c52)), (12, (iv x33))] [] (fun fb => by kernel_rfl) rfl trivial ?_
    refine WL.done rfl ?_
    refine WX.blockN (WX.next ?_)
    refine WC.region ?_
    refine seg 3 [] [0, 2, 7, 9, 10, 11, 12] [(0, (sv Aa p0 ca)), (2, (iv p2)), (7, (pt g5)), (9, (sv A13 t8 c14)), (10, (iv t23)), (11, (sv A51 x53 c52)), (12, (iv (w64 (x33 - 1))))] [] (fun fb => by kernel_rfl) rfl trivial ?_
    refine WL.done rfl ?_
    exact WX.again k38 (Nat.lt_succ_self _) ((x53, w64 (x33 - 1)), A51, c52) [0, 2, 7, 9, 10, 11, 12] rfl ⟨(hS95.subR [0, 1, 2, 3, 4]).sub [0, 1, 2, 3] (by decide), hl41⟩
   refine WC.condF2 (fun fb => by kernel_rfl) h42 ?_
   refine WC.exit ?_
   injection hl41 with hl41
   exact WX.thenX (WX.thenX (WX.blockHere (WX.to Kx36 (l32, A29, c31) [11] rfl ⟨(hS40.subR [0, 1, 2, 3, 4]).sub [3] (by decide), hl41.symm⟩)))
 rintro ⟨y101, A34, c35⟩ w98 ⟨hS99, hq100⟩
 subst hq100
 refine WX.next (WC.seq (WC.region ?_))
 refine seg 1 [] [11, 17] [(11, (sv A34 x36 c35)), (17, (iv 0))] [] (fun fb => by kernel_rfl) rfl trivial ?_
 refine WL.done rfl (WX.next (WC.seq (WC.seq (WC.region ?_))))
 refine seg 1 [] [11, 17, 18] [(11, (sv A34 x36 c35)), (17, (iv 0)), (18, (iv 0))] [] (fun fb => by kernel_rfl) rfl trivial ?_
 refine WL.done rfl (WX.next ?_)
 obtain ⟨x104, hx105, hf⟩ := bind_some hf
 refine WC.cutN (T := Int) (fun t => [(17, (iv t))]) (fun t w1 => St NoS w w1 [rowR enc_Tile Aa ca p0, rowR encInt Ab cb p3.North, rowR encInt Ac cc p3.East, rowR encInt Ad cd p3.South, rowR encInt Ae ce p3.West] [] ∧ x104 = t) (fun Kx104 => ?_) ?_
 ·
  refine WC.block ?_
  refine WC.loop (T := Int × Int) (fun t => [(11, (sv A34 x36 c35)), (17, (iv t.1)), (18, (iv t.2))]) (fun n t w1 => St NoS w w1 [rowR enc_Tile Aa ca p0, rowR encInt Ab cb p3.North, rowR encInt Ac cc p3.East, rowR encInt Ad cd p3.South, rowR encInt Ae ce p3.West] [rowO 3 encInt A34 c35 x36] ∧ ref02_Count.l2 n t.1 t.2 x36 = some x104) k (0, 0) [11, 17, 18] rfl ⟨(hS99.subR [0, 1, 2, 3, 4]).sub [0] (by decide), hx105⟩ ?_
  rintro k106 ⟨x102, x103⟩ w107 ⟨hS108, hl109⟩
  cases k106 with
  | zero => rw [ref02_Count.l2] at hl109; cases hl109
  | succ k106 =>
   rw [ref02_Count.l2] at hl109
   refine WC.seq (WC.seq (WC.region ?_))
   refine seg 4 [] [11, 17, 18, 77] [(11, (sv A34 x36 c35)), (17, (iv x102)), (18, (iv x103)), (77, (bv (decide (x103 < (x36.length : Int)))))] [] (fun fb => by kernel_rfl) rfl trivial ?_
   refine WL.done rfl (WX.next ?_)
   rcases br_some hl109 with ⟨h110, hl109⟩ | ⟨h110, hl109⟩
   ·refine WC.condT2 (fun fb => by kernel_rfl) h110 ?_
    refine WC.skip (WX.next (WC.seq (WC.block (WC.region ?_))))
    refine seg 3 [] [11, 18, 80, 81, 82] [(11, (sv A34 x36 c35)), (18, (iv x103)), (80, (iv x102)), (81, (sv A34 x36 c35)), (82, (iv x103))] [] (fun fb => by kernel_rfl) rfl trivial ?_
    obtain ⟨h111, hl109⟩ := as_some hl109
    refine seg 8 [.v (iv (rdD x36 x103 0))] [11, 17, 18] [(11, (sv A34 x36 c35)), (17, (iv (minI (w64 (x102 + (rdD x36 x103 0))) 1152921504606846977))), (18, (iv x103))] [.idx A34 x103 x36.length, .cell ((adr A34).add ((x103).toNat * 1)) (iv (rdD x36 x103 0))] (fun fb => by kernel_rfl) rfl ⟨rowR.adr (rowO.rd (hS108.own 0).1) h111.1 h111.2, rowR.cell (rowO.rd (hS108.own 0).1) 0 h111.1 h111.2 0 rfl, trivial⟩ ?_
    refine WL.done rfl ?_
    refine WX.blockN (WX.next ?_)
    refine WC.region ?_
    refine seg 3 [] [11, 17, 18] [(11, (sv A34 x36 c35)), (17, (iv (minI (w64 (x102 + (rdD x36 x103 0))) 1152921504606846977))), (18, (iv (w64 (x103 + 1))))] [] (fun fb => by kernel_rfl) rfl trivial ?_
    refine WL.done rfl ?_
    exact WX.again k106 (Nat.lt_succ_self _) (minI (w64 (x102 + (rdD x36 x103 0))) 1152921504606846977, w64 (x103 + 1)) [11, 17, 18] rfl ⟨(hS108.subR [0, 1, 2, 3, 4]).sub [0] (by decide), hl109⟩
   refine WC.condF2 (fun fb => by kernel_rfl) h110 ?_
   refine WC.exit ?_
   injection hl109 with hl109
   exact WX.thenX (WX.thenX (WX.blockHere (WX.to Kx104 x102 [17] rfl ⟨(hS108.subR [0, 1, 2, 3, 4]).sub [] (by decide), hl109.symm⟩)))
 rintro y115 w112 ⟨hS113, hq114⟩
 subst hq114
 refine WX.next (WC.seq (WC.region ?_))
 refine seg 2 [] [8] [(8, (iv x104))] [] (fun fb => by kernel_rfl) rfl trivial ?_
 refine WL.done rfl (WX.next ?_)
 refine WC.ret ?_
 injection hf with hf
 subst hf
 exact WX.ret_ [] (iv x104) [] (fun fb => by kernel_rfl) trivial ⟨_, rfl, rfl, hS113.keep⟩
theorem law02_FillCounts_calls (k : Nat) (p0 : List Tile) (p1 : Int) (p2 : Int) (p3 : Edges) (Aa : Option Addr) (ca : Nat) (Ab : Option Addr) (cb : Nat) (Ac : Option Addr) (cc : Nat) (Ad : Option Addr) (cd : Nat) (Ae : Option Addr) (ce : Nat) (mG : Int) (r : Bool) (w : World) (hR0 : RO NoS w (rowR enc_Tile Aa ca p0)) (hR1 : RO NoS w (rowR encInt Ab cb p3.North)) (hR2 : RO NoS w (rowR encInt Ac cc p3.East)) (hR3 : RO NoS w (rowR encInt Ad cd p3.South)) (hR4 : RO NoS w (rowR encInt Ae ce p3.West)) (hR5 : RO NoS w (cel ⟨2, 0, none⟩ (iv mG))) (hf : law02_FillCounts k p0 p1 p2 p3 = some r) :
  CallsR Tryd.prog 6 #[(sv Aa p0 ca), (iv p1), (iv p2), (.agg #[(sv Ab p3.North cb), (sv Ac p3.East cc), (sv Ad p3.South cd), (sv Ae p3.West ce)])] w (fun v w' => v = (bv r) ∧ Keeps NoS w w') := by
 have hS : St NoS w w [rowR enc_Tile Aa ca p0, rowR encInt Ab cb p3.North, rowR encInt Ac cc p3.East, rowR encInt Ad cd p3.South, rowR encInt Ae ce p3.West, cel ⟨2, 0, none⟩ (iv mG)] [] := St.init (ro_cons hR0 (ro_cons hR1 (ro_cons hR2 (ro_cons hR3 (ro_cons hR4 (ro_cons hR5 (ro_nil _ _)))))))
 refine enter 94 Tryd.func6 rfl Tryd.ntmps6 rfl ?_
 unfold law02_FillCounts at hf
 refine WC.seq (WC.region ?_)
 refine WL.new hS 7 [] (fun g => (pt g)) (.cells #[(sv Ab p3.North cb), (sv Ac p3.East cc), (sv Ad p3.South cd), (sv Ae p3.West ce)] 44 (0, 0)) [] (fun fb g => by kernel_rfl) trivial (fun g1 w2 hS3 => ?_)
 refine ⟨trivial, ?_⟩
 refine seg 2 [] [0, 1, 2, 7] [(0, (sv Aa p0 ca)), (1, (iv p1)), (2, (iv p2)), (7, (pt g1))] [] (fun fb => by kernel_rfl) rfl trivial ?_
 refine WL.done rfl (WX.next (WC.seq (WC.seq (WC.region ?_))))
 refine seg 2 [.v (sv Ab p3.North cb), .v (sv Ac p3.East cc), .v (sv Ad p3.South cd), .v (sv Ae p3.West ce)] [0, 1, 2, 7, 15, 16] [(0, (sv Aa p0 ca)), (1, (iv p1)), (2, (iv p2)), (7, (pt g1)), (15, (sv Aa p0 ca)), (16, (.agg #[(sv Ab p3.North cb), (sv Ac p3.East cc), (sv Ad p3.South cd), (sv Ae p3.West ce)]))] [.cell ⟨g1, 0, none⟩ (sv Ab p3.North cb), .cell ⟨g1, 1, none⟩ (sv Ac p3.East cc), .cell ⟨g1, 2, none⟩ (sv Ad p3.South cd), .cell ⟨g1, 3, none⟩ (sv Ae p3.West ce)] (fun fb => by kernel_rfl) rfl ⟨hS3.cell 0 rfl 0 rfl, hS3.cell 0 rfl 1 rfl, hS3.cell 0 rfl 2 rfl, hS3.cell 0 rfl 3 rfl, trivial⟩ ?_
 obtain ⟨t17, ht18, hf⟩ := bind_some hf
 refine WL.call (some 17) 25 #[(sv Aa p0 ca), (.agg #[(sv Ab p3.North cb), (sv Ac p3.East cc), (sv Ad p3.South cd), (sv Ae p3.West ce)])] (fun fb => by kernel_rfl) (law02_wide_calls p0 p3 Aa ca Ab cb Ac cc Ad cd Ae ce t17 _ (hS3.rd 0) (hS3.rd 1) (hS3.rd 2) (hS3.rd 3) (hS3.rd 4) ht18) (fun v w19 hR20 => ?_)
 obtain ⟨rfl, hk_⟩ := hR20
 have hS21 := hS3.keepN hk_
 refine ⟨trivial, ?_⟩
 refine WL.done rfl (WX.next ?_)
 rcases br_some hf with ⟨h22, hf⟩ | ⟨h22, hf⟩
 ·refine WC.condT2 (fun fb => by kernel_rfl) h22 ?_
  refine WC.seq (WC.region ?_)
  obtain ⟨t7, ht8, hf⟩ := bind_some hf
  refine WL.call (some 18) 26 #[] (fun fb => by kernel_rfl) (law02_awake_calls _ mG t7 _ (hS21.rd 5) ht8) (fun v w9 hR10 => ?_)
  obtain ⟨rfl, hk_⟩ := hR10
  have hS11 := hS21.keepN hk_
  refine ⟨trivial, ?_⟩
  refine seg 2 [] [8] [(8, (bv t7))] [] (fun fb => by kernel_rfl) rfl trivial ?_
  refine WL.done rfl (WX.next ?_)
  refine WC.ret ?_
  injection hf with hf
  subst hf
  exact WX.thenR (WX.ret_ [] (bv t7) [] (fun fb => by kernel_rfl) trivial ⟨_, rfl, rfl, hS11.keep⟩)
 refine WC.condF2 (fun fb => by kernel_rfl) h22 ?_
 refine WC.skip (WX.next (WC.seq (WC.seq (WC.region ?_))))
 refine seg 4 [.v (sv Ab p3.North cb), .v (sv Ac p3.East cc), .v (sv Ad p3.South cd), .v (sv Ae p3.West ce)] [0, 1, 2, 7, 19, 20, 21, 22] [(0, (sv Aa p0 ca)), (1, (iv p1)), (2, (iv p2)), (7, (pt g1)), (19, (sv Aa p0 ca)), (20, (iv p1)), (21, (iv p2)), (22, (.agg #[(sv Ab p3.North cb), (sv Ac p3.East cc), (sv Ad p3.South cd), (sv Ae p3.West ce)]))] [.cell ⟨g1, 0, none⟩ (sv Ab p3.North cb), .cell ⟨g1, 1, none⟩ (sv Ac p3.East cc), .cell ⟨g1, 2, none⟩ (sv Ad p3.South cd), .cell ⟨g1, 3, none⟩ (sv Ae p3.West ce)] (fun fb => by kernel_rfl) rfl ⟨hS21.cell 0 rfl 0 rfl, hS21.cell 0 rfl 1 rfl, hS21.cell 0 rfl 2 rfl, hS21.cell 0 rfl 3 rfl, trivial⟩ ?_
 obtain ⟨t12, ht13, hf⟩ := bind_some hf
 refine WL.call (some 23) 27 #[(sv Aa p0 ca), (iv p1), (iv p2), (.agg #[(sv Ab p3.North cb), (sv Ac p3.East cc), (sv Ad p3.South cd), (sv Ae p3.West ce)])] (fun fb => by kernel_rfl) (ref02_Fault_calls _ p0 p1 p2 p3 Aa ca Ab cb Ac cc Ad cd Ae ce t12 _ (hS21.rd 0) (hS21.rd 1) (hS21.rd 2) (hS21.rd 3) (hS21.rd 4) ht13) (fun v w14 hR15 => ?_)
 obtain ⟨rfl, hk_⟩ := hR15
 have hS16 := hS21.keepN hk_
 refine ⟨trivial, ?_⟩
 refine seg 6 [] [0, 1, 2, 7, 9] [(0, (sv Aa p0 ca)), (1, (iv p1)), (2, (iv p2)), (7, (pt g1)), (9, (iv t12))] [] (fun fb => by kernel_rfl) rfl trivial ?_
 refine WL.done rfl (WX.next (WC.seq (WC.region ?_)))
 refine seg 2 [] [0, 1, 2, 7, 9, 25] [(0, (sv Aa p0 ca)), (1, (iv p1)), (2, (iv p2)), (7, (pt g1)), (9, (iv t12)), (25, (bv (t12 != 0)))] [] (fun fb => by kernel_rfl) rfl trivial ?_
 refine WL.done rfl (WX.next ?_)
 rcases br_some hf with ⟨h23, hf⟩ | ⟨h23, hf⟩
 ·refine WC.condT2 (fun fb => by kernel_rfl) h23 ?_
  refine WC.seq (WC.region ?_)
  refine seg 4 [.v (sv Ab p3.North cb), .v (sv Ac p3.East cc), .v (sv Ad p3.South cd), .v (sv Ae p3.West ce)] [9, 27, 28, 29, 30] [(9, (iv t12)), (27, (sv Aa p0 ca)), (28, (iv p1)), (29, (iv p2)), (30, (.agg #[(sv Ab p3.North cb), (sv Ac p3.East cc), (sv Ad p3.South cd), (sv Ae p3.West ce)]))] [.cell ⟨g1, 0, none⟩ (sv Ab p3.North cb), .cell ⟨g1, 1, none⟩ (sv Ac p3.East cc), .cell ⟨g1, 2, none⟩ (sv Ad p3.South cd), .cell ⟨g1, 3, none⟩ (sv Ae p3.West ce)] (fun fb => by kernel_rfl) rfl ⟨hS16.cell 0 rfl 0 rfl, hS16.cell 0 rfl 1 rfl, hS16.cell 0 rfl 2 rfl, hS16.cell 0 rfl 3 rfl, trivial⟩ ?_
  obtain ⟨t24, ht25, hf⟩ := bind_some hf
  refine WL.call (some 31) 28 #[(sv Aa p0 ca), (iv p1), (iv p2), (.agg #[(sv Ab p3.North cb), (sv Ac p3.East cc), (sv Ad p3.South cd), (sv Ae p3.West ce)])] (fun fb => by kernel_rfl) (fill_Count_calls _ p0 p1 p2 p3 Aa ca Ab cb Ac cc Ad cd Ae ce t24 _ (hS16.rd 0) (hS16.rd 1) (hS16.rd 2) (hS16.rd 3) (hS16.rd 4) ht25) (fun v w26 hR27 => ?_)
  obtain ⟨rfl, hk_⟩ := hR27
  have hS28 := hS16.keepN hk_
  refine ⟨trivial, ?_⟩
  refine seg 10 [] [9, 10, 11] [(9, (iv t12)), (10, (iv t24.1)), (11, (iv t24.2))] [] (fun fb => by kernel_rfl) rfl trivial ?_
  refine WL.done rfl (WX.next (WC.seq (WC.region ?_)))
  refine seg 4 [] [10, 37] [(10, (iv t24.1)), (37, (bv (t24.2 == t12)))] [] (fun fb => by kernel_rfl) rfl trivial ?_
  refine WL.cutV (T := Bool) 7 (fun t => [(40, (bv t))]) (fun t => ((t24.2 == t12) && (t24.1 == 0)) = t) (fun K => ?_) ?_
  ·
   rcases Bool.eq_false_or_eq_true (t24.2 == t12) with h29 | h29
   ·
    refine WL.setB 37 h29 rfl ?_
    refine seg 7 [] [40] [(40, (bv (t24.1 == 0)))] [] (fun fb => by kernel_rfl) rfl trivial ?_
    exact WL.toV K (t24.1 == 0) [40] rfl (by first | (rw [h29]; done) | (rw [h29]; rfl))
   refine WL.setB 37 h29 rfl ?_
   refine seg 7 [] [40] [(40, (bv false))] [] (fun fb => by kernel_rfl) rfl trivial ?_
   exact WL.toV K false [40] rfl (by first | (rw [h29]; done) | (rw [h29]; rfl))
  rintro b30 rfl
  refine seg 8 [] [41] [(41, (bv ((t24.2 == t12) && (t24.1 == 0))))] [] (fun fb => by kernel_rfl) rfl trivial ?_
  obtain ⟨x31, hx32, hf⟩ := bind_some hf
  refine WL.cutW (T := Bool) 10 (fun t => [(43, (bv t))]) (fun t w1 => (St NoS w w1 [rowR enc_Tile Aa ca p0, rowR encInt Ab cb p3.North, rowR encInt Ac cc p3.East, rowR encInt Ad cd p3.South, rowR encInt Ae ce p3.West, cel ⟨2, 0, none⟩ (iv mG)] [] ∧ x31 = t) ∧ CellsOK [] w1) (fun K => ?_) ?_
  ·
   rcases br_some hx32 with ⟨h33, hx32⟩ | ⟨h33, hx32⟩
   ·
    refine WL.setB 41 h33 rfl ?_
    obtain ⟨t34, ht35, hx32⟩ := bind_some hx32
    refine WL.call (some 42) 26 #[] (fun fb => by kernel_rfl) (law02_awake_calls _ mG t34 _ (hS28.rd 5) ht35) (fun v w36 hR37 => ?_)
    obtain ⟨rfl, hk_⟩ := hR37
    have hS38 := hS28.keepN hk_
    refine ⟨trivial, ?_⟩
    refine seg 10 [] [43] [(43, (bv t34))] [] (fun fb => by kernel_rfl) rfl trivial ?_
    injection hx32 with hx32
    exact WL.to K t34 [43] rfl ⟨⟨(hS38.subR [0, 1, 2, 3, 4, 5]).sub [] (by decide), hx32.symm⟩, trivial⟩
   refine WL.setB 41 h33 rfl ?_
   refine seg 10 [] [43] [(43, (bv false))] [] (fun fb => by kernel_rfl) rfl trivial ?_
   injection hx32 with hx32
   exact WL.to K false [43] rfl ⟨⟨(hS28.subR [0, 1, 2, 3, 4, 5]).sub [] (by decide), hx32.symm⟩, trivial⟩
  rintro y39 w41 ⟨⟨hS42, hq40⟩, hF43⟩
  subst hq40
  refine seg 11 [] [8] [(8, (bv x31))] [] (fun fb => by kernel_rfl) rfl trivial ?_
  refine WL.done rfl (WX.next ?_)
  refine WC.ret ?_
  injection hf with hf
  subst hf
  exact WX.thenR (WX.ret_ [] (bv x31) [] (fun fb => by kernel_rfl) trivial ⟨_, rfl, rfl, hS42.keep⟩)
 refine WC.condF2 (fun fb => by kernel_rfl) h23 ?_
 refine WC.skip (WX.next (WC.seq (WC.seq (WC.region ?_))))
 refine seg 2 [] [0, 1, 2, 7, 44, 45] [(0, (sv Aa p0 ca)), (1, (iv p1)), (2, (iv p2)), (7, (pt g1)), (44, (sv Aa p0 ca)), (45, (iv p1))] [] (fun fb => by kernel_rfl) rfl trivial ?_
 obtain ⟨t44, ht45, hf⟩ := bind_some hf
 refine WL.call (some 46) 29 #[(sv Aa p0 ca), (iv p1)] (fun fb => by kernel_rfl) (law02_heavy_calls _ p0 p1 Aa ca t44 _ (hS16.rd 0) ht45) (fun v w46 hR47 => ?_)
 obtain ⟨rfl, hk_⟩ := hR47
 have hS48 := hS16.keepN hk_
 refine ⟨trivial, ?_⟩
 refine WL.done rfl (WX.next ?_)
 rcases br_some hf with ⟨h49, hf⟩ | ⟨h49, hf⟩
 ·refine WC.condT2 (fun fb => by kernel_rfl) h49 ?_
  refine WC.seq (WC.region ?_)
  obtain ⟨t50, ht51, hf⟩ := bind_some hf
  refine WL.call (some 47) 26 #[] (fun fb => by kernel_rfl) (law02_awake_calls _ mG t50 _ (hS48.rd 5) ht51) (fun v w52 hR53 => ?_)
  obtain ⟨rfl, hk_⟩ := hR53
  have hS54 := hS48.keepN hk_
  refine ⟨trivial, ?_⟩
  refine seg 2 [] [8] [(8, (bv t50))] [] (fun fb => by kernel_rfl) rfl trivial ?_
  refine WL.done rfl (WX.next ?_)
  refine WC.ret ?_
  injection hf with hf
  subst hf
  exact WX.thenR (WX.ret_ [] (bv t50) [] (fun fb => by kernel_rfl) trivial ⟨_, rfl, rfl, hS54.keep⟩)
 refine WC.condF2 (fun fb => by kernel_rfl) h49 ?_
 refine WC.skip (WX.next (WC.seq (WC.region ?_)))
 refine seg 4 [.v (sv Ab p3.North cb), .v (sv Ac p3.East cc), .v (sv Ad p3.South cd), .v (sv Ae p3.West ce)] [0, 1, 2, 7, 49, 50, 51, 52] [(0, (sv Aa p0 ca)), (1, (iv p1)), (2, (iv p2)), (7, (pt g1)), (49, (sv Aa p0 ca)), (50, (iv p1)), (51, (iv p2)), (52, (.agg #[(sv Ab p3.North cb), (sv Ac p3.East cc), (sv Ad p3.South cd), (sv Ae p3.West ce)]))] [.cell ⟨g1, 0, none⟩ (sv Ab p3.North cb), .cell ⟨g1, 1, none⟩ (sv Ac p3.East cc), .cell ⟨g1, 2, none⟩ (sv Ad p3.South cd), .cell ⟨g1, 3, none⟩ (sv Ae p3.West ce)] (fun fb => by kernel_rfl) rfl ⟨hS48.cell 0 rfl 0 rfl, hS48.cell 0 rfl 1 rfl, hS48.cell 0 rfl 2 rfl, hS48.cell 0 rfl 3 rfl, trivial⟩ ?_
 obtain ⟨t55, ht56, hf⟩ := bind_some hf
 refine WL.call (some 53) 28 #[(sv Aa p0 ca), (iv p1), (iv p2), (.agg #[(sv Ab p3.North cb), (sv Ac p3.East cc), (sv Ad p3.South cd), (sv Ae p3.West ce)])] (fun fb => by kernel_rfl) (fill_Count_calls _ p0 p1 p2 p3 Aa ca Ab cb Ac cc Ad cd Ae ce t55 _ (hS48.rd 0) (hS48.rd 1) (hS48.rd 2) (hS48.rd 3) (hS48.rd 4) ht56) (fun v w57 hR58 => ?_)
 obtain ⟨rfl, hk_⟩ := hR58
 have hS59 := hS48.keepN hk_
 refine ⟨trivial, ?_⟩
 refine seg 10 [] [0, 1, 2, 7, 12, 13] [(0, (sv Aa p0 ca)), (1, (iv p1)), (2, (iv p2)), (7, (pt g1)), (12, (iv t55.1)), (13, (iv t55.2))] [] (fun fb => by kernel_rfl) rfl trivial ?_
 refine WL.done rfl (WX.next (WC.seq (WC.seq (WC.region ?_))))
 refine seg 3 [] [0, 1, 2, 7, 12, 13, 58] [(0, (sv Aa p0 ca)), (1, (iv p1)), (2, (iv p2)), (7, (pt g1)), (12, (iv t55.1)), (13, (iv t55.2)), (58, (bv (t55.2 == 4)))] [] (fun fb => by kernel_rfl) rfl trivial ?_
 obtain ⟨x60, hx61, hf⟩ := bind_some hf
 refine WL.cutW (T := Bool) 7 (fun t => [(0, (sv Aa p0 ca)), (1, (iv p1)), (2, (iv p2)), (7, (pt g1)), (12, (iv t55.1)), (13, (iv t55.2)), (62, (bv t))]) (fun t w1 => (St NoS w w1 [rowR enc_Tile Aa ca p0, rowR encInt Ab cb p3.North, rowR encInt Ac cc p3.East, rowR encInt Ad cd p3.South, rowR encInt Ae ce p3.West, cel ⟨2, 0, none⟩ (iv mG)] [blk g1 (.cells #[(sv Ab p3.North cb), (sv Ac p3.East cc), (sv Ad p3.South cd), (sv Ae p3.West ce)] 44 (0, 0))] ∧ x60 = t) ∧ CellsOK [] w1) (fun K => ?_) ?_
 ·
  rcases br_some hx61 with ⟨h62, hx61⟩ | ⟨h62, hx61⟩
  ·
   refine WL.setB 58 h62 rfl ?_
   refine seg 5 [] [0, 1, 2, 7, 12, 13, 58, 59, 60] [(0, (sv Aa p0 ca)), (1, (iv p1)), (2, (iv p2)), (7, (pt g1)), (12, (iv t55.1)), (13, (iv t55.2)), (58, (bv true)), (59, (sv Aa p0 ca)), (60, (iv p1))] [] (fun fb => by kernel_rfl) rfl trivial ?_
   obtain ⟨t63, ht65, hx61⟩ := bind_some hx61
   refine WL.call (some 61) 19 #[(sv Aa p0 ca), (iv p1)] (fun fb => by kernel_rfl) (ref02_Great_calls _ p0 p1 Aa ca t63 _ (hS59.rd 0) ht65) (fun v w66 hR67 => ?_)
   obtain ⟨rfl, hk_⟩ := hR67
   have hS68 := hS59.keepN hk_
   refine ⟨trivial, ?_⟩
   refine seg 7 [] [0, 1, 2, 7, 12, 13, 62] [(0, (sv Aa p0 ca)), (1, (iv p1)), (2, (iv p2)), (7, (pt g1)), (12, (iv t55.1)), (13, (iv t55.2)), (62, (bv t63))] [] (fun fb => by kernel_rfl) rfl trivial ?_
   injection hx61 with hx61
   exact WL.to K t63 [0, 1, 2, 7, 12, 13, 62] rfl ⟨⟨(hS68.subR [0, 1, 2, 3, 4, 5]).sub [0] (by decide), hx61.symm⟩, trivial⟩
  refine WL.setB 58 h62 rfl ?_
  refine seg 7 [] [0, 1, 2, 7, 12, 13, 62] [(0, (sv Aa p0 ca)), (1, (iv p1)), (2, (iv p2)), (7, (pt g1)), (12, (iv t55.1)), (13, (iv t55.2)), (62, (bv false))] [] (fun fb => by kernel_rfl) rfl trivial ?_
  injection hx61 with hx61
  exact WL.to K false [0, 1, 2, 7, 12, 13, 62] rfl ⟨⟨(hS59.subR [0, 1, 2, 3, 4, 5]).sub [0] (by decide), hx61.symm⟩, trivial⟩
 rintro y69 w71 ⟨⟨hS72, hq70⟩, hF73⟩
 subst hq70
 refine WL.done rfl (WX.next ?_)
 rcases br_some hf with ⟨h74, hf⟩ | ⟨h74, hf⟩
 ·refine WC.condT2 (fun fb => by kernel_rfl) h74 ?_
  refine WC.seq (WC.region ?_)
  refine seg 3 [] [65] [(65, (bv (t55.1 == 0)))] [] (fun fb => by kernel_rfl) rfl trivial ?_
  obtain ⟨x75, hx76, hf⟩ := bind_some hf
  refine WL.cutW (T := Bool) 5 (fun t => [(67, (bv t))]) (fun t w1 => (St NoS w w1 [rowR enc_Tile Aa ca p0, rowR encInt Ab cb p3.North, rowR encInt Ac cc p3.East, rowR encInt Ad cd p3.South, rowR encInt Ae ce p3.West, cel ⟨2, 0, none⟩ (iv mG)] [] ∧ x75 = t) ∧ CellsOK [] w1) (fun K => ?_) ?_
  ·
   rcases br_some hx76 with ⟨h77, hx76⟩ | ⟨h77, hx76⟩
   ·
    refine WL.setB 65 h77 rfl ?_
    obtain ⟨t78, ht79, hx76⟩ := bind_some hx76
    refine WL.call (some 66) 26 #[] (fun fb => by kernel_rfl) (law02_awake_calls _ mG t78 _ (hS72.rd 5) ht79) (fun v w80 hR81 => ?_)
    obtain ⟨rfl, hk_⟩ := hR81
    have hS82 := hS72.keepN hk_
    refine ⟨trivial, ?_⟩
    refine seg 5 [] [67] [(67, (bv t78))] [] (fun fb => by kernel_rfl) rfl trivial ?_
    injection hx76 with hx76
    exact WL.to K t78 [67] rfl ⟨⟨(hS82.subR [0, 1, 2, 3, 4, 5]).sub [] (by decide), hx76.symm⟩, trivial⟩
   refine WL.setB 65 h77 rfl ?_
   refine seg 5 [] [67] [(67, (bv false))] [] (fun fb => by kernel_rfl) rfl trivial ?_
   injection hx76 with hx76
   exact WL.to K false [67] rfl ⟨⟨(hS72.subR [0, 1, 2, 3, 4, 5]).sub [] (by decide), hx76.symm⟩, trivial⟩
  rintro y83 w85 ⟨⟨hS86, hq84⟩, hF87⟩
  subst hq84
  refine seg 6 [] [8] [(8, (bv x75))] [] (fun fb => by kernel_rfl) rfl trivial ?_
  refine WL.done rfl (WX.next ?_)
  refine WC.ret ?_
  injection hf with hf
  subst hf
  exact WX.thenR (WX.ret_ [] (bv x75) [] (fun fb => by kernel_rfl) trivial ⟨_, rfl, rfl, hS86.keep⟩)
 refine WC.condF2 (fun fb => by kernel_rfl) h74 ?_
 refine WC.skip (WX.next (WC.seq (WC.region ?_)))
 refine seg 4 [.v (sv Ab p3.North cb), .v (sv Ac p3.East cc), .v (sv Ad p3.South cd), .v (sv Ae p3.West ce)] [12, 13, 68, 69, 70, 71] [(12, (iv t55.1)), (13, (iv t55.2)), (68, (sv Aa p0 ca)), (69, (iv p1)), (70, (iv p2)), (71, (.agg #[(sv Ab p3.North cb), (sv Ac p3.East cc), (sv Ad p3.South cd), (sv Ae p3.West ce)]))] [.cell ⟨g1, 0, none⟩ (sv Ab p3.North cb), .cell ⟨g1, 1, none⟩ (sv Ac p3.East cc), .cell ⟨g1, 2, none⟩ (sv Ad p3.South cd), .cell ⟨g1, 3, none⟩ (sv Ae p3.West ce)] (fun fb => by kernel_rfl) rfl ⟨hS72.cell 0 rfl 0 rfl, hS72.cell 0 rfl 1 rfl, hS72.cell 0 rfl 2 rfl, hS72.cell 0 rfl 3 rfl, trivial⟩ ?_
 obtain ⟨t88, ht89, hf⟩ := bind_some hf
 refine WL.call (some 72) 30 #[(sv Aa p0 ca), (iv p1), (iv p2), (.agg #[(sv Ab p3.North cb), (sv Ac p3.East cc), (sv Ad p3.South cd), (sv Ae p3.West ce)])] (fun fb => by kernel_rfl) (ref02_Count_calls _ p0 p1 p2 p3 Aa ca Ab cb Ac cc Ad cd Ae ce t88 _ (hS72.rd 0) (hS72.rd 1) (hS72.rd 2) (hS72.rd 3) (hS72.rd 4) ht89) (fun v w90 hR91 => ?_)
 obtain ⟨rfl, hk_⟩ := hR91
 have hS92 := hS72.keepN hk_
 refine ⟨trivial, ?_⟩
 refine seg 6 [] [12, 13, 14] [(12, (iv t55.1)), (13, (iv t55.2)), (14, (iv t88))] [] (fun fb => by kernel_rfl) rfl trivial ?_
 refine WL.done rfl (WX.next (WC.seq (WC.seq (WC.region ?_))))
 refine seg 2 [] [12, 13, 14, 74] [(12, (iv t55.1)), (13, (iv t55.2)), (14, (iv t88)), (74, (bv (decide (t88 > 1152921504606846976))))] [] (fun fb => by kernel_rfl) rfl trivial ?_
 refine WL.done rfl (WX.next ?_)
 rcases br_some hf with ⟨h93, hf⟩ | ⟨h93, hf⟩
 ·refine WC.condT2 (fun fb => by kernel_rfl) h93 ?_
  refine WC.seq (WC.region ?_)
  refine seg 3 [] [12, 77] [(12, (iv t55.1)), (77, (bv (t55.2 == 4)))] [] (fun fb => by kernel_rfl) rfl trivial ?_
  refine WL.cutV (T := Bool) 6 (fun t => [(80, (bv t))]) (fun t => ((t55.2 == 4) && (t55.1 == 0)) = t) (fun K => ?_) ?_
  ·
   rcases Bool.eq_false_or_eq_true (t55.2 == 4) with h94 | h94
   ·
    refine WL.setB 77 h94 rfl ?_
    refine seg 6 [] [80] [(80, (bv (t55.1 == 0)))] [] (fun fb => by kernel_rfl) rfl trivial ?_
    exact WL.toV K (t55.1 == 0) [80] rfl (by first | (rw [h94]; done) | (rw [h94]; rfl))
   refine WL.setB 77 h94 rfl ?_
   refine seg 6 [] [80] [(80, (bv false))] [] (fun fb => by kernel_rfl) rfl trivial ?_
   exact WL.toV K false [80] rfl (by first | (rw [h94]; done) | (rw [h94]; rfl))
  rintro b95 rfl
  refine seg 7 [] [81] [(81, (bv ((t55.2 == 4) && (t55.1 == 0))))] [] (fun fb => by kernel_rfl) rfl trivial ?_
  obtain ⟨x96, hx97, hf⟩ := bind_some hf
  refine WL.cutW (T := Bool) 9 (fun t => [(83, (bv t))]) (fun t w1 => (St NoS w w1 [rowR enc_Tile Aa ca p0, rowR encInt Ab cb p3.North, rowR encInt Ac cc p3.East, rowR encInt Ad cd p3.South, rowR encInt Ae ce p3.West, cel ⟨2, 0, none⟩ (iv mG)] [] ∧ x96 = t) ∧ CellsOK [] w1) (fun K => ?_) ?_
  ·
   rcases br_some hx97 with ⟨h98, hx97⟩ | ⟨h98, hx97⟩
   ·
    refine WL.setB 81 h98 rfl ?_
    obtain ⟨t99, ht100, hx97⟩ := bind_some hx97
    refine WL.call (some 82) 26 #[] (fun fb => by kernel_rfl) (law02_awake_calls _ mG t99 _ (hS92.rd 5) ht100) (fun v w101 hR102 => ?_)
    obtain ⟨rfl, hk_⟩ := hR102
    have hS103 := hS92.keepN hk_
    refine ⟨trivial, ?_⟩
    refine seg 9 [] [83] [(83, (bv t99))] [] (fun fb => by kernel_rfl) rfl trivial ?_
    injection hx97 with hx97
    exact WL.to K t99 [83] rfl ⟨⟨(hS103.subR [0, 1, 2, 3, 4, 5]).sub [] (by decide), hx97.symm⟩, trivial⟩
   refine WL.setB 81 h98 rfl ?_
   refine seg 9 [] [83] [(83, (bv false))] [] (fun fb => by kernel_rfl) rfl trivial ?_
   injection hx97 with hx97
   exact WL.to K false [83] rfl ⟨⟨(hS92.subR [0, 1, 2, 3, 4, 5]).sub [] (by decide), hx97.symm⟩, trivial⟩
  rintro y104 w106 ⟨⟨hS107, hq105⟩, hF108⟩
  subst hq105
  refine seg 10 [] [8] [(8, (bv x96))] [] (fun fb => by kernel_rfl) rfl trivial ?_
  refine WL.done rfl (WX.next ?_)
  refine WC.ret ?_
  injection hf with hf
  subst hf
  exact WX.thenR (WX.ret_ [] (bv x96) [] (fun fb => by kernel_rfl) trivial ⟨_, rfl, rfl, hS107.keep⟩)
 refine WC.condF2 (fun fb => by kernel_rfl) h93 ?_
 refine WC.skip (WX.next (WC.seq (WC.region ?_)))
 refine seg 3 [] [12, 14, 86] [(12, (iv t55.1)), (14, (iv t88)), (86, (bv (t55.2 == 0)))] [] (fun fb => by kernel_rfl) rfl trivial ?_
 refine WL.cutV (T := Bool) 7 (fun t => [(90, (bv t))]) (fun t => ((t55.2 == 0) && (t55.1 == t88)) = t) (fun K => ?_) ?_
 ·
  rcases Bool.eq_false_or_eq_true (t55.2 == 0) with h109 | h109
  ·
   refine WL.setB 86 h109 rfl ?_
   refine seg 7 [] [90] [(90, (bv (t55.1 == t88)))] [] (fun fb => by kernel_rfl) rfl trivial ?_
   exact WL.toV K (t55.1 == t88) [90] rfl (by first | (rw [h109]; done) | (rw [h109]; rfl))
  refine WL.setB 86 h109 rfl ?_
  refine seg 7 [] [90] [(90, (bv false))] [] (fun fb => by kernel_rfl) rfl trivial ?_
  exact WL.toV K false [90] rfl (by first | (rw [h109]; done) | (rw [h109]; rfl))
 rintro b110 rfl
 refine seg 8 [] [91] [(91, (bv ((t55.2 == 0) && (t55.1 == t88))))] [] (fun fb => by kernel_rfl) rfl trivial ?_
 obtain ⟨x111, hx112, hf⟩ := bind_some hf
 refine WL.cutW (T := Bool) 10 (fun t => [(93, (bv t))]) (fun t w1 => (St NoS w w1 [rowR enc_Tile Aa ca p0, rowR encInt Ab cb p3.North, rowR encInt Ac cc p3.East, rowR encInt Ad cd p3.South, rowR encInt Ae ce p3.West, cel ⟨2, 0, none⟩ (iv mG)] [] ∧ x111 = t) ∧ CellsOK [] w1) (fun K => ?_) ?_
 ·
  rcases br_some hx112 with ⟨h113, hx112⟩ | ⟨h113, hx112⟩
  ·
   refine WL.setB 91 h113 rfl ?_
   obtain ⟨t114, ht115, hx112⟩ := bind_some hx112
   refine WL.call (some 92) 26 #[] (fun fb => by kernel_rfl) (law02_awake_calls _ mG t114 _ (hS92.rd 5) ht115) (fun v w116 hR117 => ?_)
   obtain ⟨rfl, hk_⟩ := hR117
   have hS118 := hS92.keepN hk_
   refine ⟨trivial, ?_⟩
   refine seg 10 [] [93] [(93, (bv t114))] [] (fun fb => by kernel_rfl) rfl trivial ?_
   injection hx112 with hx112
   exact WL.to K t114 [93] rfl ⟨⟨(hS118.subR [0, 1, 2, 3, 4, 5]).sub [] (by decide), hx112.symm⟩, trivial⟩
  refine WL.setB 91 h113 rfl ?_
  refine seg 10 [] [93] [(93, (bv false))] [] (fun fb => by kernel_rfl) rfl trivial ?_
  injection hx112 with hx112
  exact WL.to K false [93] rfl ⟨⟨(hS92.subR [0, 1, 2, 3, 4, 5]).sub [] (by decide), hx112.symm⟩, trivial⟩
 rintro y119 w121 ⟨⟨hS122, hq120⟩, hF123⟩
 subst hq120
 refine seg 11 [] [8] [(8, (bv x111))] [] (fun fb => by kernel_rfl) rfl trivial ?_
 refine WL.done rfl (WX.next ?_)
 refine WC.ret ?_
 injection hf with hf
 subst hf
 exact WX.ret_ [] (bv x111) [] (fun fb => by kernel_rfl) trivial ⟨_, rfl, rfl, hS122.keep⟩
end Gp
