/- Walks: each function of the program computes its plain function. -/
import Derived.Test.YtjfmjfheeijfiaaDoorGx4
set_option linter.unusedVariables false
set_option linter.unusedSimpArgs false
set_option maxHeartbeats 4000000
namespace Gp
open Go Gw Go.Proofs
theorem ref02_fits_calls (k : Nat) (p0 : List Tile) (p1 : Row_ref02) (p2 : Int) (p3 : Int) (p4 : Edges) (Aa : Option Addr) (ca : Nat) (Ab : Option Addr) (cb : Nat) (Ac : Option Addr) (cc : Nat) (Ad : Option Addr) (cd : Nat) (Ae : Option Addr) (ce : Nat) (Af : Option Addr) (cf : Nat) (r : Bool) (w : World) (hR0 : RO NoS w (rowR enc_Tile Aa ca p0)) (hR1 : RO NoS w (rowR encInt Ab cb p1.Cells)) (hR2 : RO NoS w (rowR encInt Ac cc p4.North)) (hR3 : RO NoS w (rowR encInt Ad cd p4.East)) (hR4 : RO NoS w (rowR encInt Ae ce p4.South)) (hR5 : RO NoS w (rowR encInt Af cf p4.West)) (hf : ref02_fits k p0 p1 p2 p3 p4 = some r) :
  CallsR Tryd.prog 63 #[(sv Aa p0 ca), (.agg #[(sv Ab p1.Cells cb), (iv p1.South), (iv p1.North)]), (iv p2), (iv p3), (.agg #[(sv Ac p4.North cc), (sv Ad p4.East cd), (sv Ae p4.South ce), (sv Af p4.West cf)])] w (fun v w' => v = (bv r) ∧ Keeps NoS w w') := by
 have hS : St NoS w w [rowR enc_Tile Aa ca p0, rowR encInt Ab cb p1.Cells, rowR encInt Ac cc p4.North, rowR encInt Ad cd p4.East, rowR encInt Ae ce p4.South, rowR encInt Af cf p4.West] [] := St.init (ro_cons hR0 (ro_cons hR1 (ro_cons hR2 (ro_cons hR3 (ro_cons hR4 (ro_cons hR5 (ro_nil _ _)))))))
 refine enter 86 Tryd.func63 rfl Tryd.ntmps63 rfl ?_
 unfold ref02_fits at hf
 refine WC.seq (WC.region ?_)
 refine WL.new hS 6 [] (fun g => (pt g)) (.cells #[(sv Ab p1.Cells cb), (iv p1.South), (iv p1.North)] 88 (0, 0)) [] (fun fb g => by kernel_rfl) trivial (fun g6 w7 hS8 => ?_)
 refine ⟨trivial, ?_⟩
 refine WL.new hS8 9 [] (fun g => (pt g)) (.cells #[(sv Ac p4.North cc), (sv Ad p4.East cd), (sv Ae p4.South ce), (sv Af p4.West cf)] 44 (0, 0)) [] (fun fb g => by kernel_rfl) trivial (fun g9 w10 hS11 => ?_)
 refine ⟨trivial, ?_⟩
 refine seg 3 [] [0, 2, 3, 6, 9] [(0, (sv Aa p0 ca)), (2, (iv p2)), (3, (iv p3)), (6, (pt g6)), (9, (pt g9))] [] (fun fb => by kernel_rfl) rfl trivial ?_
 refine WL.done rfl (WX.next (WC.seq (WC.region ?_)))
 refine seg 4 [.v (sv Ab p1.Cells cb)] [0, 2, 3, 6, 9, 11] [(0, (sv Aa p0 ca)), (2, (iv p2)), (3, (iv p3)), (6, (pt g6)), (9, (pt g9)), (11, (iv (p1.Cells.length : Int)))] [.cell ⟨g6, 0, none⟩ (sv Ab p1.Cells cb)] (fun fb => by kernel_rfl) rfl ⟨hS11.cell 1 rfl 0 rfl, trivial⟩ ?_
 refine WL.done rfl (WX.next (WC.seq (WC.seq ?_)))
 obtain ⟨h14, hf⟩ := as_some hf
 obtain ⟨h15, hf⟩ := as_some hf
 refine WC.regionD ([(1, ⟨g9, 3, none⟩, (sv Af p4.West cf)), (5, ⟨g6, 0, none⟩, (sv Ab p1.Cells cb)), (7, ((adr Ab).add (((0 : Int)).toNat * 1)), (iv (rdD p1.Cells (0 : Int) 0))), (10, (((adr Aa).add (((rdD p1.Cells (0 : Int) 0)).toNat * 4)).add 3), (iv ((rdD p0 (rdD p1.Cells (0 : Int) 0) z_Tile).W))), (15, ⟨g9, 1, none⟩, (sv Ad p4.East cd)), (19, ⟨g6, 0, none⟩, (sv Ab p1.Cells cb))], [0, 1, 2, 3, 4, 5, 6, 7, 8, 9, 10, 12, 13, 14, 15, 16, 17, 18, 19, 20, 21, 22, 24, 25, 28, 29], [[], [0], [], [], [], [4], [4, 5], [4, 5, 6], [3, 4, 5, 6, 7], [3, 4, 5, 6, 7, 8], [3, 4, 5, 6, 7, 8, 9], [0, 1, 2, 3, 4, 5, 6, 7, 8, 9, 10], [0, 1, 2, 3, 4, 5, 6, 7, 8, 9, 10, 11], [0, 1, 2, 3, 4, 5, 6, 7, 8, 9, 10, 11, 12], [0, 1, 2, 3, 4, 5, 6, 7, 8, 9, 10, 11, 12, 13], [0, 1, 2, 3, 4, 5, 6, 7, 8, 9, 10, 11, 12, 13, 14], [0, 1, 2, 3, 4, 5, 6, 7, 8, 9, 10, 11, 12, 13], [0, 1, 2, 3, 4, 5, 6, 7, 8, 9, 10, 11, 12, 13], [0, 1, 2, 3, 4, 5, 6, 7, 8, 9, 10, 11, 12, 13], [0, 1, 2, 3, 4, 5, 6, 7, 8, 9, 10, 11, 12, 13, 18], [0, 1, 2, 3, 4, 5, 6, 7, 8, 9, 10, 11, 12, 13], [0, 1, 2, 3, 4, 5, 6, 7, 8, 9, 10, 11, 12, 13, 20], [0, 1, 2, 3, 4, 5, 6, 7, 8, 9, 10, 11, 12, 13, 18, 19, 20, 21], [0, 1, 2, 3, 4, 5, 6, 7, 8, 9, 10, 11, 12, 13, 18, 19, 20, 21, 22], [0, 1, 2, 3, 4, 5, 6, 7, 8, 9, 10, 11, 12, 13, 17, 18, 19, 20, 21, 22, 23], [0, 1, 2, 3, 4, 5, 6, 7, 8, 9, 10, 11, 12, 13, 17, 18, 19, 20, 21, 22, 23, 24], [0, 1, 2, 3, 4, 5, 6, 7, 8, 9, 10, 11, 12, 13, 17, 18, 19, 20, 21, 22, 23, 24, 25], [0, 1, 2, 3, 4, 5, 6, 7, 8, 9, 10, 11, 12, 13, 14, 15, 16, 17, 18, 19, 20, 21, 22, 23, 24, 25, 26], [0, 1, 2, 3, 4, 5, 6, 7, 8, 9, 10, 11, 12, 13, 14, 15, 16, 17, 18, 19, 20, 21, 22, 23, 24, 25, 26, 27], [0, 1, 2, 3, 4, 5, 6, 7, 8, 9, 10, 11, 12, 13, 14, 15, 16, 17, 18, 19, 20, 21, 22, 23, 24, 25, 26, 27, 28]]) [[0, 1, 2, 3, 4, 5, 6, 7, 8, 9, 10, 11, 12, 13, 14, 15, 16, 17, 18, 19, 20, 21, 22, 23, 24, 25, 26, 27, 28, 29]] (by kernel_rfl) (by kernel_rfl) (NoPanic.seq (NoPanic.seq (NoPanic.body))) ?_
 have hS13 := hS11.drew
 revert hS13
 generalize World.drew w10 = w12
 intro hS13
 refine ⟨⟨hS13.cell 0 rfl 3 rfl, hS13.cell 1 rfl 0 rfl, rowR.cell (hS13.rd 1).1 0 h14.1 h14.2 0 rfl, rowR.cell (hS13.rd 0).1 z_Tile h15.1 h15.2 3 rfl, hS13.cell 0 rfl 1 rfl, hS13.cell 1 rfl 0 rfl, trivial⟩, forallC ?_ (forallN)⟩
 refine segF 11 [.v (sv Af p4.West cf), .v (sv Ab p1.Cells cb), .v (iv (rdD p1.Cells (0 : Int) 0)), .v (iv ((rdD p0 (rdD p1.Cells (0 : Int) 0) z_Tile).W))] [0, 2, 3, 6, 9, 11, 18, 19, 27] [(0, (sv Aa p0 ca)), (2, (iv p2)), (3, (iv p3)), (6, (pt g6)), (9, (pt g9)), (11, (iv (p1.Cells.length : Int))), (18, (sv Af p4.West cf)), (19, (iv p2)), (27, (iv ((rdD p0 (rdD p1.Cells (0 : Int) 0) z_Tile).W)))] [.idx Ab (0 : Int) p1.Cells.length, .idx Aa (rdD p1.Cells (0 : Int) 0) p0.length] [0, 1, 2, 3] [(1, ⟨g9, 3, none⟩, (sv Af p4.West cf)), (5, ⟨g6, 0, none⟩, (sv Ab p1.Cells cb)), (7, ((adr Ab).add (((0 : Int)).toNat * 1)), (iv (rdD p1.Cells (0 : Int) 0))), (10, (((adr Aa).add (((rdD p1.Cells (0 : Int) 0)).toNat * 4)).add 3), (iv ((rdD p0 (rdD p1.Cells (0 : Int) 0) z_Tile).W)))] (fun fb => by kernel_rfl) rfl ⟨rowR.adr (hS13.rd 1).1 h14.1 h14.2, rowR.adr (hS13.rd 0).1 h15.1 h15.2, trivial⟩ rfl ?_
 obtain ⟨t16, ht17, hf⟩ := bind_some hf
 refine WL.call (some 28) 66 #[(sv Af p4.West cf), (iv p2), (iv ((rdD p0 (rdD p1.Cells (0 : Int) 0) z_Tile).W))] (fun fb => by kernel_rfl) (ref02_has_calls p4.West p2 ((rdD p0 (rdD p1.Cells (0 : Int) 0) z_Tile).W) Af cf t16 _ (hS13.rd 5) ht17) (fun v w18 hR19 => ?_)
 obtain ⟨rfl, hk_⟩ := hR19
 have hS20 := hS13.keepN hk_
 refine ⟨⟨hS20.cell 0 rfl 1 rfl, hS20.cell 1 rfl 0 rfl, trivial⟩, ?_⟩
 refine seg 14 [] [0, 2, 3, 6, 9, 11, 30] [(0, (sv Aa p0 ca)), (2, (iv p2)), (3, (iv p3)), (6, (pt g6)), (9, (pt g9)), (11, (iv (p1.Cells.length : Int))), (30, (bv (!t16)))] [] (fun fb => by kernel_rfl) rfl trivial ?_
 obtain ⟨x21, hx22, hf⟩ := bind_some hf
 refine WL.cutW (T := Bool) 30 (fun t => [(0, (sv Aa p0 ca)), (2, (iv p2)), (3, (iv p3)), (6, (pt g6)), (9, (pt g9)), (11, (iv (p1.Cells.length : Int))), (46, (bv t))]) (fun t w1 => (St NoS w w1 [rowR enc_Tile Aa ca p0, rowR encInt Ab cb p1.Cells, rowR encInt Ac cc p4.North, rowR encInt Ad cd p4.East, rowR encInt Ae ce p4.South, rowR encInt Af cf p4.West] [blk g6 (.cells #[(sv Ab p1.Cells cb), (iv p1.South), (iv p1.North)] 88 (0, 0)), blk g9 (.cells #[(sv Ac p4.North cc), (sv Ad p4.East cd), (sv Ae p4.South ce), (sv Af p4.West cf)] 44 (0, 0))] ∧ x21 = t) ∧ CellsOK [] w1) (fun K => ?_) ?_
 ·
  rcases br_some hx22 with ⟨h23, hx22⟩ | ⟨h23, hx22⟩
  ·
   refine WL.setB 30 h23 rfl ?_
   refine seg 30 [] [0, 2, 3, 6, 9, 11, 46] [(0, (sv Aa p0 ca)), (2, (iv p2)), (3, (iv p3)), (6, (pt g6)), (9, (pt g9)), (11, (iv (p1.Cells.length : Int))), (46, (bv true))] [] (fun fb => by kernel_rfl) rfl trivial ?_
   injection hx22 with hx22
   exact WL.to K true [0, 2, 3, 6, 9, 11, 46] rfl ⟨⟨(hS20.subR [0, 1, 2, 3, 4, 5]).sub [1, 0] (by decide), hx22.symm⟩, trivial⟩
  refine WL.setB 30 h23 rfl ?_
  refine segF 22 [.v (sv Ad p4.East cd), .v (sv Ab p1.Cells cb)] [0, 2, 3, 6, 9, 11, 30, 32, 33, 34, 36, 38] [(0, (sv Aa p0 ca)), (2, (iv p2)), (3, (iv p3)), (6, (pt g6)), (9, (pt g9)), (11, (iv (p1.Cells.length : Int))), (30, (bv false)), (32, (sv Ad p4.East cd)), (33, (iv p2)), (34, (sv Aa p0 ca)), (36, (sv Ab p1.Cells cb)), (38, (iv (w64 ((p1.Cells.length : Int) - 1))))] [] [4, 5] [(15, ⟨g9, 1, none⟩, (sv Ad p4.East cd)), (19, ⟨g6, 0, none⟩, (sv Ab p1.Cells cb))] (fun fb => by kernel_rfl) rfl trivial rfl ?_
  obtain ⟨h24, hx22⟩ := as_some hx22
  refine seg 24 [.v (iv (rdD p1.Cells (w64 ((p1.Cells.length : Int) - 1)) 0))] [0, 2, 3, 6, 9, 11, 30, 32, 33, 34, 40] [(0, (sv Aa p0 ca)), (2, (iv p2)), (3, (iv p3)), (6, (pt g6)), (9, (pt g9)), (11, (iv (p1.Cells.length : Int))), (30, (bv false)), (32, (sv Ad p4.East cd)), (33, (iv p2)), (34, (sv Aa p0 ca)), (40, (iv (rdD p1.Cells (w64 ((p1.Cells.length : Int) - 1)) 0)))] [.idx Ab (w64 ((p1.Cells.length : Int) - 1)) p1.Cells.length, .cell ((adr Ab).add ((w64 ((p1.Cells.length : Int) - 1)).toNat * 1)) (iv (rdD p1.Cells (w64 ((p1.Cells.length : Int) - 1)) 0))] (fun fb => by kernel_rfl) rfl ⟨rowR.adr (hS20.rd 1).1 h24.1 h24.2, rowR.cell (hS20.rd 1).1 0 h24.1 h24.2 0 rfl, trivial⟩ ?_
  obtain ⟨h25, hx22⟩ := as_some hx22
  refine seg 27 [.v (iv ((rdD p0 (rdD p1.Cells (w64 ((p1.Cells.length : Int) - 1)) 0) z_Tile).E))] [0, 2, 3, 6, 9, 11, 30, 32, 33, 43] [(0, (sv Aa p0 ca)), (2, (iv p2)), (3, (iv p3)), (6, (pt g6)), (9, (pt g9)), (11, (iv (p1.Cells.length : Int))), (30, (bv false)), (32, (sv Ad p4.East cd)), (33, (iv p2)), (43, (iv ((rdD p0 (rdD p1.Cells (w64 ((p1.Cells.length : Int) - 1)) 0) z_Tile).E)))] [.idx Aa (rdD p1.Cells (w64 ((p1.Cells.length : Int) - 1)) 0) p0.length, .cell (((adr Aa).add (((rdD p1.Cells (w64 ((p1.Cells.length : Int) - 1)) 0)).toNat * 4)).add 1) (iv ((rdD p0 (rdD p1.Cells (w64 ((p1.Cells.length : Int) - 1)) 0) z_Tile).E))] (fun fb => by kernel_rfl) rfl ⟨rowR.adr (hS20.rd 0).1 h25.1 h25.2, rowR.cell (hS20.rd 0).1 z_Tile h25.1 h25.2 1 rfl, trivial⟩ ?_
  obtain ⟨t26, ht27, hx22⟩ := bind_some hx22
  refine WL.call (some 44) 66 #[(sv Ad p4.East cd), (iv p2), (iv ((rdD p0 (rdD p1.Cells (w64 ((p1.Cells.length : Int) - 1)) 0) z_Tile).E))] (fun fb => by kernel_rfl) (ref02_has_calls p4.East p2 ((rdD p0 (rdD p1.Cells (w64 ((p1.Cells.length : Int) - 1)) 0) z_Tile).E) Ad cd t26 _ (hS20.rd 3) ht27) (fun v w28 hR29 => ?_)
  obtain ⟨rfl, hk_⟩ := hR29
  have hS30 := hS20.keepN hk_
  refine ⟨trivial, ?_⟩
  refine seg 30 [] [0, 2, 3, 6, 9, 11, 46] [(0, (sv Aa p0 ca)), (2, (iv p2)), (3, (iv p3)), (6, (pt g6)), (9, (pt g9)), (11, (iv (p1.Cells.length : Int))), (46, (bv (!t26)))] [] (fun fb => by kernel_rfl) rfl trivial ?_
  injection hx22 with hx22
  exact WL.to K (!t26) [0, 2, 3, 6, 9, 11, 46] rfl ⟨⟨(hS30.subR [0, 1, 2, 3, 4, 5]).sub [1, 0] (by decide), hx22.symm⟩, trivial⟩
 rintro y31 w33 ⟨⟨hS34, hq32⟩, hF35⟩
 subst hq32
 refine WL.done rfl (WX.next ?_)
 rcases br_some hf with ⟨h36, hf⟩ | ⟨h36, hf⟩
 ·refine WC.condT2 (fun fb => by kernel_rfl) h36 ?_
  refine WC.seq (WC.region ?_)
  refine seg 1 [] [10] [(10, (bv false))] [] (fun fb => by kernel_rfl) rfl trivial ?_
  refine WL.done rfl (WX.next ?_)
  refine WC.ret ?_
  injection hf with hf
  subst hf
  exact WX.thenR (WX.ret_ [] (bv false) [] (fun fb => by kernel_rfl) trivial ⟨_, rfl, rfl, hS34.keep⟩)
 refine WC.condF2 (fun fb => by kernel_rfl) h36 ?_
 refine WC.skip (WX.next (WC.seq (WC.seq (WC.region ?_))))
 refine seg 1 [] [0, 2, 3, 6, 9, 11, 12] [(0, (sv Aa p0 ca)), (2, (iv p2)), (3, (iv p3)), (6, (pt g6)), (9, (pt g9)), (11, (iv (p1.Cells.length : Int))), (12, (iv 0))] [] (fun fb => by kernel_rfl) rfl trivial ?_
 refine WL.done rfl (WX.next ?_)
 obtain ⟨x38, hx39, hf⟩ := bind_some hf
 refine WC.cutN (T := Unit) (fun t => []) (fun t w1 => St NoS w w1 [rowR enc_Tile Aa ca p0, rowR encInt Ab cb p1.Cells, rowR encInt Ac cc p4.North, rowR encInt Ad cd p4.East, rowR encInt Ae ce p4.South, rowR encInt Af cf p4.West] [] ∧ x38 = .inr t) (fun Kx38 => ?_) ?_
 ·
  refine WC.block ?_
  refine WC.loop (T := Int) (fun t => [(0, (sv Aa p0 ca)), (2, (iv p2)), (3, (iv p3)), (6, (pt g6)), (9, (pt g9)), (11, (iv (p1.Cells.length : Int))), (12, (iv t))]) (fun n t w1 => St NoS w w1 [rowR enc_Tile Aa ca p0, rowR encInt Ab cb p1.Cells, rowR encInt Ac cc p4.North, rowR encInt Ad cd p4.East, rowR encInt Ae ce p4.South, rowR encInt Af cf p4.West] [blk g6 (.cells #[(sv Ab p1.Cells cb), (iv p1.South), (iv p1.North)] 88 (0, 0)), blk g9 (.cells #[(sv Ac p4.North cc), (sv Ad p4.East cd), (sv Ae p4.South ce), (sv Af p4.West cf)] 44 (0, 0))] ∧ ref02_fits.l0 n t p0 p1 p2 p3 p4 = some x38) k 0 [0, 2, 3, 6, 9, 11, 12] rfl ⟨(hS34.subR [0, 1, 2, 3, 4, 5]).sub [0, 1] (by decide), hx39⟩ ?_
  rintro k40 x37 w41 ⟨hS42, hl43⟩
  cases k40 with
  | zero => rw [ref02_fits.l0] at hl43; cases hl43
  | succ k40 =>
   rw [ref02_fits.l0] at hl43
   refine WC.seq (WC.seq (WC.region ?_))
   refine seg 3 [] [0, 2, 3, 6, 9, 11, 12, 49] [(0, (sv Aa p0 ca)), (2, (iv p2)), (3, (iv p3)), (6, (pt g6)), (9, (pt g9)), (11, (iv (p1.Cells.length : Int))), (12, (iv x37)), (49, (bv (decide (x37 < (p1.Cells.length : Int)))))] [] (fun fb => by kernel_rfl) rfl trivial ?_
   refine WL.done rfl (WX.next ?_)
   rcases br_some hl43 with ⟨h44, hl43⟩ | ⟨h44, hl43⟩
   ·refine WC.condT2 (fun fb => by kernel_rfl) h44 ?_
    refine WC.skip (WX.next (WC.seq (WC.block (WC.seq (WC.region ?_)))))
    refine seg 4 [.v (sv Ab p1.Cells cb)] [0, 2, 3, 6, 9, 11, 12, 52, 54, 55] [(0, (sv Aa p0 ca)), (2, (iv p2)), (3, (iv p3)), (6, (pt g6)), (9, (pt g9)), (11, (iv (p1.Cells.length : Int))), (12, (iv x37)), (52, (sv Aa p0 ca)), (54, (sv Ab p1.Cells cb)), (55, (iv x37))] [.cell ⟨g6, 0, none⟩ (sv Ab p1.Cells cb)] (fun fb => by kernel_rfl) rfl ⟨hS42.cell 0 rfl 0 rfl, trivial⟩ ?_
    obtain ⟨h45, hl43⟩ := as_some hl43
    refine seg 6 [.v (iv (rdD p1.Cells x37 0))] [0, 2, 3, 6, 9, 11, 12, 52, 57] [(0, (sv Aa p0 ca)), (2, (iv p2)), (3, (iv p3)), (6, (pt g6)), (9, (pt g9)), (11, (iv (p1.Cells.length : Int))), (12, (iv x37)), (52, (sv Aa p0 ca)), (57, (iv (rdD p1.Cells x37 0)))] [.idx Ab x37 p1.Cells.length, .cell ((adr Ab).add ((x37).toNat * 1)) (iv (rdD p1.Cells x37 0))] (fun fb => by kernel_rfl) rfl ⟨rowR.adr (hS42.rd 1).1 h45.1 h45.2, rowR.cell (hS42.rd 1).1 0 h45.1 h45.2 0 rfl, trivial⟩ ?_
    obtain ⟨h46, hl43⟩ := as_some hl43
    refine seg 8 [.v (iv ((rdD p0 (rdD p1.Cells x37 0) z_Tile).N)), .v (iv ((rdD p0 (rdD p1.Cells x37 0) z_Tile).E)), .v (iv ((rdD p0 (rdD p1.Cells x37 0) z_Tile).S)), .v (iv ((rdD p0 (rdD p1.Cells x37 0) z_Tile).W))] [0, 2, 3, 6, 9, 11, 12, 59] [(0, (sv Aa p0 ca)), (2, (iv p2)), (3, (iv p3)), (6, (pt g6)), (9, (pt g9)), (11, (iv (p1.Cells.length : Int))), (12, (iv x37)), (59, (.agg #[(iv ((rdD p0 (rdD p1.Cells x37 0) z_Tile).N)), (iv ((rdD p0 (rdD p1.Cells x37 0) z_Tile).E)), (iv ((rdD p0 (rdD p1.Cells x37 0) z_Tile).S)), (iv ((rdD p0 (rdD p1.Cells x37 0) z_Tile).W))]))] [.idx Aa (rdD p1.Cells x37 0) p0.length, .cell ((adr Aa).add (((rdD p1.Cells x37 0)).toNat * 4)) (iv ((rdD p0 (rdD p1.Cells x37 0) z_Tile).N)), .cell (((adr Aa).add (((rdD p1.Cells x37 0)).toNat * 4)).add 1) (iv ((rdD p0 (rdD p1.Cells x37 0) z_Tile).E)), .cell (((adr Aa).add (((rdD p1.Cells x37 0)).toNat * 4)).add 2) (iv ((rdD p0 (rdD p1.Cells x37 0) z_Tile).S)), .cell (((adr Aa).add (((rdD p1.Cells x37 0)).toNat * 4)).add 3) (iv ((rdD p0 (rdD p1.Cells x37 0) z_Tile).W))] (fun fb => by kernel_rfl) rfl ⟨rowR.adr (hS42.rd 0).1 h46.1 h46.2, rowR.cell (hS42.rd 0).1 z_Tile h46.1 h46.2 0 rfl, rowR.cell (hS42.rd 0).1 z_Tile h46.1 h46.2 1 rfl, rowR.cell (hS42.rd 0).1 z_Tile h46.1 h46.2 2 rfl, rowR.cell (hS42.rd 0).1 z_Tile h46.1 h46.2 3 rfl, trivial⟩ ?_
    refine WL.new hS42 13 [] (fun g => (pt g)) (.cells #[(iv 0), (iv 0), (iv 0), (iv 0)] 40 (0, 0)) [] (fun fb g => by kernel_rfl) trivial (fun g47 w48 hS49 => ?_)
    refine ⟨trivial, ?_⟩
    refine WL.store hS49 0 rfl [(0, (iv ((rdD p0 (rdD p1.Cells x37 0) z_Tile).N))), (1, (iv ((rdD p0 (rdD p1.Cells x37 0) z_Tile).E))), (2, (iv ((rdD p0 (rdD p1.Cells x37 0) z_Tile).S))), (3, (iv ((rdD p0 (rdD p1.Cells x37 0) z_Tile).W)))] #[(iv ((rdD p0 (rdD p1.Cells x37 0) z_Tile).N)), (iv ((rdD p0 (rdD p1.Cells x37 0) z_Tile).E)), (iv ((rdD p0 (rdD p1.Cells x37 0) z_Tile).S)), (iv ((rdD p0 (rdD p1.Cells x37 0) z_Tile).W))] (fun fb => by kernel_rfl) (by kernel_rfl) rfl [1, 2] (by decide) (by decide) (fun w50 hS51 => ?_)
    refine ⟨trivial, ?_⟩
    refine WL.done rfl (WX.next (WC.seq (WC.region ?_)))
    refine seg 3 [] [0, 2, 3, 6, 9, 11, 12, 13, 62] [(0, (sv Aa p0 ca)), (2, (iv p2)), (3, (iv p3)), (6, (pt g6)), (9, (pt g9)), (11, (iv (p1.Cells.length : Int))), (12, (iv x37)), (13, (pt g47)), (62, (bv (p2 == 0)))] [] (fun fb => by kernel_rfl) rfl trivial ?_
    obtain ⟨x52, hx53, hl43⟩ := bind_some hl43
    refine WL.cutW (T := Bool) 11 (fun t => [(0, (sv Aa p0 ca)), (2, (iv p2)), (3, (iv p3)), (6, (pt g6)), (9, (pt g9)), (11, (iv (p1.Cells.length : Int))), (12, (iv x37)), (13, (pt g47)), (70, (bv t))]) (fun t w1 => (St NoS w w1 [rowR enc_Tile Aa ca p0, rowR encInt Ab cb p1.Cells, rowR encInt Ac cc p4.North, rowR encInt Ad cd p4.East, rowR encInt Ae ce p4.South, rowR encInt Af cf p4.West] [blk g6 (.cells #[(sv Ab p1.Cells cb), (iv p1.South), (iv p1.North)] 88 (0, 0)), blk g9 (.cells #[(sv Ac p4.North cc), (sv Ad p4.East cd), (sv Ae p4.South ce), (sv Af p4.West cf)] 44 (0, 0)), blk g47 (.cells #[(iv ((rdD p0 (rdD p1.Cells x37 0) z_Tile).N)), (iv ((rdD p0 (rdD p1.Cells x37 0) z_Tile).E)), (iv ((rdD p0 (rdD p1.Cells x37 0) z_Tile).S)), (iv ((rdD p0 (rdD p1.Cells x37 0) z_Tile).W))] 40 (0, 0))] ∧ x52 = t) ∧ CellsOK [] w1) (fun K => ?_) ?_
    ·
     rcases br_some hx53 with ⟨h54, hx53⟩ | ⟨h54, hx53⟩
     ·
      refine WL.setB 62 h54 rfl ?_
      refine seg 8 [.v (sv Ae p4.South ce), .v (iv ((rdD p0 (rdD p1.Cells x37 0) z_Tile).S))] [0, 2, 3, 6, 9, 11, 12, 13, 62, 64, 65, 67] [(0, (sv Aa p0 ca)), (2, (iv p2)), (3, (iv p3)), (6, (pt g6)), (9, (pt g9)), (11, (iv (p1.Cells.length : Int))), (12, (iv x37)), (13, (pt g47)), (62, (bv true)), (64, (sv Ae p4.South ce)), (65, (iv x37)), (67, (iv ((rdD p0 (rdD p1.Cells x37 0) z_Tile).S)))] [.cell ⟨g9, 2, none⟩ (sv Ae p4.South ce), .cell ⟨g47, 2, none⟩ (iv ((rdD p0 (rdD p1.Cells x37 0) z_Tile).S))] (fun fb => by kernel_rfl) rfl ⟨hS51.cell 2 rfl 2 rfl, hS51.cell 0 rfl 2 rfl, trivial⟩ ?_
      obtain ⟨t55, ht56, hx53⟩ := bind_some hx53
      refine WL.call (some 68) 66 #[(sv Ae p4.South ce), (iv x37), (iv ((rdD p0 (rdD p1.Cells x37 0) z_Tile).S))] (fun fb => by kernel_rfl) (ref02_has_calls p4.South x37 ((rdD p0 (rdD p1.Cells x37 0) z_Tile).S) Ae ce t55 _ (hS51.rd 4) ht56) (fun v w57 hR58 => ?_)
      obtain ⟨rfl, hk_⟩ := hR58
      have hS59 := hS51.keepN hk_
      refine ⟨trivial, ?_⟩
      refine seg 11 [] [0, 2, 3, 6, 9, 11, 12, 13, 70] [(0, (sv Aa p0 ca)), (2, (iv p2)), (3, (iv p3)), (6, (pt g6)), (9, (pt g9)), (11, (iv (p1.Cells.length : Int))), (12, (iv x37)), (13, (pt g47)), (70, (bv (!t55)))] [] (fun fb => by kernel_rfl) rfl trivial ?_
      injection hx53 with hx53
      exact WL.to K (!t55) [0, 2, 3, 6, 9, 11, 12, 13, 70] rfl ⟨⟨(hS59.subR [0, 1, 2, 3, 4, 5]).sub [1, 2, 0] (by decide), hx53.symm⟩, trivial⟩
     refine WL.setB 62 h54 rfl ?_
     refine seg 11 [] [0, 2, 3, 6, 9, 11, 12, 13, 70] [(0, (sv Aa p0 ca)), (2, (iv p2)), (3, (iv p3)), (6, (pt g6)), (9, (pt g9)), (11, (iv (p1.Cells.length : Int))), (12, (iv x37)), (13, (pt g47)), (70, (bv false))] [] (fun fb => by kernel_rfl) rfl trivial ?_
     injection hx53 with hx53
     exact WL.to K false [0, 2, 3, 6, 9, 11, 12, 13, 70] rfl ⟨⟨(hS51.subR [0, 1, 2, 3, 4, 5]).sub [1, 2, 0] (by decide), hx53.symm⟩, trivial⟩
    rintro y60 w62 ⟨⟨hS65, hq61⟩, hF66⟩
    subst hq61
    refine seg 12 [] [0, 2, 3, 6, 9, 11, 12, 13, 71] [(0, (sv Aa p0 ca)), (2, (iv p2)), (3, (iv p3)), (6, (pt g6)), (9, (pt g9)), (11, (iv (p1.Cells.length : Int))), (12, (iv x37)), (13, (pt g47)), (71, (bv x52))] [] (fun fb => by kernel_rfl) rfl trivial ?_
    obtain ⟨x67, hx68, hl43⟩ := bind_some hl43
    refine WL.cutW (T := Bool) 26 (fun t => [(0, (sv Aa p0 ca)), (2, (iv p2)), (3, (iv p3)), (6, (pt g6)), (9, (pt g9)), (11, (iv (p1.Cells.length : Int))), (12, (iv x37)), (85, (bv t))]) (fun t w1 => (St NoS w w1 [rowR enc_Tile Aa ca p0, rowR encInt Ab cb p1.Cells, rowR encInt Ac cc p4.North, rowR encInt Ad cd p4.East, rowR encInt Ae ce p4.South, rowR encInt Af cf p4.West] [blk g6 (.cells #[(sv Ab p1.Cells cb), (iv p1.South), (iv p1.North)] 88 (0, 0)), blk g9 (.cells #[(sv Ac p4.North cc), (sv Ad p4.East cd), (sv Ae p4.South ce), (sv Af p4.West cf)] 44 (0, 0))] ∧ x67 = t) ∧ CellsOK [] w1) (fun K => ?_) ?_
    ·
     rcases br_some hx68 with ⟨h69, hx68⟩ | ⟨h69, hx68⟩
     ·
      refine WL.setB 71 h69 rfl ?_
      refine seg 26 [] [0, 2, 3, 6, 9, 11, 12, 85] [(0, (sv Aa p0 ca)), (2, (iv p2)), (3, (iv p3)), (6, (pt g6)), (9, (pt g9)), (11, (iv (p1.Cells.length : Int))), (12, (iv x37)), (85, (bv true))] [] (fun fb => by kernel_rfl) rfl trivial ?_
      injection hx68 with hx68
      exact WL.to K true [0, 2, 3, 6, 9, 11, 12, 85] rfl ⟨⟨(hS65.subR [0, 1, 2, 3, 4, 5]).sub [0, 1] (by decide), hx68.symm⟩, trivial⟩
     refine WL.setB 71 h69 rfl ?_
     refine seg 17 [] [0, 2, 3, 6, 9, 11, 12, 13, 71, 76] [(0, (sv Aa p0 ca)), (2, (iv p2)), (3, (iv p3)), (6, (pt g6)), (9, (pt g9)), (11, (iv (p1.Cells.length : Int))), (12, (iv x37)), (13, (pt g47)), (71, (bv false)), (76, (bv (p2 == (w64 (p3 - 1)))))] [] (fun fb => by kernel_rfl) rfl trivial ?_
     obtain ⟨x70, hx71, hx68⟩ := bind_some hx68
     refine WL.cutW (T := Bool) 25 (fun t => [(0, (sv Aa p0 ca)), (2, (iv p2)), (3, (iv p3)), (6, (pt g6)), (9, (pt g9)), (11, (iv (p1.Cells.length : Int))), (12, (iv x37)), (71, (bv false)), (84, (bv t))]) (fun t w1 => (St NoS w w1 [rowR enc_Tile Aa ca p0, rowR encInt Ab cb p1.Cells, rowR encInt Ac cc p4.North, rowR encInt Ad cd p4.East, rowR encInt Ae ce p4.South, rowR encInt Af cf p4.West] [blk g6 (.cells #[(sv Ab p1.Cells cb), (iv p1.South), (iv p1.North)] 88 (0, 0)), blk g9 (.cells #[(sv Ac p4.North cc), (sv Ad p4.East cd), (sv Ae p4.South ce), (sv Af p4.West cf)] 44 (0, 0))] ∧ x70 = t) ∧ CellsOK [] w1) (fun K => ?_) ?_
     ·
      rcases br_some hx71 with ⟨h72, hx71⟩ | ⟨h72, hx71⟩
      ·
       refine WL.setB 76 h72 rfl ?_
       refine seg 22 [.v (sv Ac p4.North cc), .v (iv ((rdD p0 (rdD p1.Cells x37 0) z_Tile).N))] [0, 2, 3, 6, 9, 11, 12, 71, 76, 78, 79, 81] [(0, (sv Aa p0 ca)), (2, (iv p2)), (3, (iv p3)), (6, (pt g6)), (9, (pt g9)), (11, (iv (p1.Cells.length : Int))), (12, (iv x37)), (71, (bv false)), (76, (bv true)), (78, (sv Ac p4.North cc)), (79, (iv x37)), (81, (iv ((rdD p0 (rdD p1.Cells x37 0) z_Tile).N)))] [.cell ⟨g9, 0, none⟩ (sv Ac p4.North cc), .cell ⟨g47, 0, none⟩ (iv ((rdD p0 (rdD p1.Cells x37 0) z_Tile).N))] (fun fb => by kernel_rfl) rfl ⟨hS65.cell 1 rfl 0 rfl, hS65.cell 2 rfl 0 rfl, trivial⟩ ?_
       obtain ⟨t73, ht74, hx71⟩ := bind_some hx71
       refine WL.call (some 82) 66 #[(sv Ac p4.North cc), (iv x37), (iv ((rdD p0 (rdD p1.Cells x37 0) z_Tile).N))] (fun fb => by kernel_rfl) (ref02_has_calls p4.North x37 ((rdD p0 (rdD p1.Cells x37 0) z_Tile).N) Ac cc t73 _ (hS65.rd 2) ht74) (fun v w75 hR76 => ?_)
       obtain ⟨rfl, hk_⟩ := hR76
       have hS77 := hS65.keepN hk_
       refine ⟨trivial, ?_⟩
       refine seg 25 [] [0, 2, 3, 6, 9, 11, 12, 71, 84] [(0, (sv Aa p0 ca)), (2, (iv p2)), (3, (iv p3)), (6, (pt g6)), (9, (pt g9)), (11, (iv (p1.Cells.length : Int))), (12, (iv x37)), (71, (bv false)), (84, (bv (!t73)))] [] (fun fb => by kernel_rfl) rfl trivial ?_
       injection hx71 with hx71
       exact WL.to K (!t73) [0, 2, 3, 6, 9, 11, 12, 71, 84] rfl ⟨⟨(hS77.subR [0, 1, 2, 3, 4, 5]).sub [0, 1] (by decide), hx71.symm⟩, trivial⟩
      refine WL.setB 76 h72 rfl ?_
      refine seg 25 [] [0, 2, 3, 6, 9, 11, 12, 71, 84] [(0, (sv Aa p0 ca)), (2, (iv p2)), (3, (iv p3)), (6, (pt g6)), (9, (pt g9)), (11, (iv (p1.Cells.length : Int))), (12, (iv x37)), (71, (bv false)), (84, (bv false))] [] (fun fb => by kernel_rfl) rfl trivial ?_
      injection hx71 with hx71
      exact WL.to K false [0, 2, 3, 6, 9, 11, 12, 71, 84] rfl ⟨⟨(hS65.subR [0, 1, 2, 3, 4, 5]).sub [0, 1] (by decide), hx71.symm⟩, trivial⟩
     rintro y78 w80 ⟨⟨hS81, hq79⟩, hF82⟩
     subst hq79
     refine seg 26 [] [0, 2, 3, 6, 9, 11, 12, 85] [(0, (sv Aa p0 ca)), (2, (iv p2)), (3, (iv p3)), (6, (pt g6)), (9, (pt g9)), (11, (iv (p1.Cells.length : Int))), (12, (iv x37)), (85, (bv x70))] [] (fun fb => by kernel_rfl) rfl trivial ?_
     injection hx68 with hx68
     exact WL.to K x70 [0, 2, 3, 6, 9, 11, 12, 85] rfl ⟨⟨(hS81.subR [0, 1, 2, 3, 4, 5]).sub [0, 1] (by decide), hx68.symm⟩, trivial⟩
    rintro y83 w85 ⟨⟨hS86, hq84⟩, hF87⟩
    subst hq84
    refine WL.done rfl (WX.next ?_)
    rcases br_some hl43 with ⟨h88, hl43⟩ | ⟨h88, hl43⟩
    ·refine WC.condT2 (fun fb => by kernel_rfl) h88 ?_
     refine WC.seq (WC.region ?_)
     refine seg 1 [] [10] [(10, (bv false))] [] (fun fb => by kernel_rfl) rfl trivial ?_
     refine WL.done rfl (WX.next ?_)
     refine WC.ret ?_
     injection hl43 with hl43
     subst hl43
     injection hf with hf
     subst hf
     exact WX.blockR (WX.thenR (WX.thenR (WX.blockR (WX.thenR (WX.ret_ [] (bv false) [] (fun fb => by kernel_rfl) trivial ⟨_, rfl, rfl, hS86.keep⟩)))))
    refine WC.condF2 (fun fb => by kernel_rfl) h88 ?_
    refine WC.skip ?_
    refine WX.blockN (WX.next ?_)
    refine WC.region ?_
    refine seg 3 [] [0, 2, 3, 6, 9, 11, 12] [(0, (sv Aa p0 ca)), (2, (iv p2)), (3, (iv p3)), (6, (pt g6)), (9, (pt g9)), (11, (iv (p1.Cells.length : Int))), (12, (iv (w64 (x37 + 1))))] [] (fun fb => by kernel_rfl) rfl trivial ?_
    refine WL.done rfl ?_
    exact WX.again k40 (Nat.lt_succ_self _) (w64 (x37 + 1)) [0, 2, 3, 6, 9, 11, 12] rfl ⟨(hS86.subR [0, 1, 2, 3, 4, 5]).sub [0, 1] (by decide), hl43⟩
   refine WC.condF2 (fun fb => by kernel_rfl) h44 ?_
   refine WC.exit ?_
   injection hl43 with hl43
   exact WX.thenX (WX.thenX (WX.blockHere (WX.to Kx38 () [] rfl ⟨(hS42.subR [0, 1, 2, 3, 4, 5]).sub [] (by decide), hl43.symm⟩)))
 rintro y92 w89 ⟨hS90, hq91⟩
 subst hq91
 have hf := sum_inr hf
 refine WX.next (WC.seq (WC.region ?_))
 refine seg 1 [] [10] [(10, (bv true))] [] (fun fb => by kernel_rfl) rfl trivial ?_
 refine WL.done rfl (WX.next ?_)
 refine WC.ret ?_
 injection hf with hf
 subst hf
 exact WX.ret_ [] (bv true) [] (fun fb => by kernel_rfl) trivial ⟨_, rfl, rfl, hS90.keep⟩
theorem ref02_First_calls (k : Nat) (p0 : List Tile) (p1 : Int) (p2 : Int) (p3 : Edges) (Aa : Option Addr) (ca : Nat) (Ab : Option Addr) (cb : Nat) (Ac : Option Addr) (cc : Nat) (Ad : Option Addr) (cd : Nat) (Ae : Option Addr) (ce : Nat) (r : Pattern × Bool) (w : World) (hR0 : RO NoS w (rowR enc_Tile Aa ca p0)) (hR1 : RO NoS w (rowR encInt Ab cb p3.North)) (hR2 : RO NoS w (rowR encInt Ac cc p3.East)) (hR3 : RO NoS w (rowR encInt Ad cd p3.South)) (hR4 : RO NoS w (rowR encInt Ae ce p3.West)) (hf : ref02_First k p0 p1 p2 p3 = some r) :
  CallsR Tryd.prog 33 #[(sv Aa p0 ca), (iv p1), (iv p2), (.agg #[(sv Ab p3.North cb), (sv Ac p3.East cc), (sv Ad p3.South cd), (sv Ae p3.West ce)])] w (fun v w' => ∃ (A1_ : Option Addr), ∃ (c1_ : Nat), v = (.tuple #[(.agg #[(iv r.1.Width), (iv r.1.Height), (sv A1_ r.1.Cells c1_)]), (bv r.2)]) ∧ St NoS w w' [] [rowO 3 encInt A1_ c1_ r.1.Cells]) := by
 have hS : St NoS w w [rowR enc_Tile Aa ca p0, rowR encInt Ab cb p3.North, rowR encInt Ac cc p3.East, rowR encInt Ad cd p3.South, rowR encInt Ae ce p3.West] [] := St.init (ro_cons hR0 (ro_cons hR1 (ro_cons hR2 (ro_cons hR3 (ro_cons hR4 (ro_nil _ _))))))
 refine enter 160 Tryd.func33 rfl Tryd.ntmps33 rfl ?_
 unfold ref02_First at hf
 refine WC.seq (WC.region ?_)
 refine WL.new hS 7 [] (fun g => (pt g)) (.cells #[(sv Ab p3.North cb), (sv Ac p3.East cc), (sv Ad p3.South cd), (sv Ae p3.West ce)] 44 (0, 0)) [] (fun fb g => by kernel_rfl) trivial (fun g5 w6 hS7 => ?_)
 refine ⟨trivial, ?_⟩
 refine WL.new hS7 8 [] (fun g => (pt g)) (.cells #[(iv 0), (iv 0), (.slice none 0 0)] 27 (0, 0)) [] (fun fb g => by kernel_rfl) trivial (fun g8 w9 hS10 => ?_)
 refine ⟨trivial, ?_⟩
 refine seg 3 [] [0, 1, 2, 7, 8] [(0, (sv Aa p0 ca)), (1, (iv p1)), (2, (iv p2)), (7, (pt g5)), (8, (pt g8))] [] (fun fb => by kernel_rfl) rfl trivial ?_
 refine WL.done rfl (WX.next (WC.seq (WC.region ?_)))
 refine seg 2 [] [0, 1, 2, 7, 8, 22, 23] [(0, (sv Aa p0 ca)), (1, (iv p1)), (2, (iv p2)), (7, (pt g5)), (8, (pt g8)), (22, (sv Aa p0 ca)), (23, (iv p1))] [] (fun fb => by kernel_rfl) rfl trivial ?_
 obtain ⟨t11, ht12, hf⟩ := bind_some hf
 refine WL.call (some 24) 62 #[(sv Aa p0 ca), (iv p1)] (fun fb => by kernel_rfl) (ref02_Rows_calls _ p0 p1 Aa ca t11 _ (hS10.rd 0) ht12) (fun v w13 hR14 => ?_)
 obtain ⟨A16, c17, H18, rfl, hk_⟩ := hR14
 have hS15 := hS.go w13 [rowO 88 encN_Row_ref02 A16 c17 (tag H18 t11), poolO [nestO subN_Row_ref02 H18 t11], blk g8 (.cells #[(iv 0), (iv 0), (.slice none 0 0)] 27 (0, 0)), blk g5 (.cells #[(.slice Ab p3.North.length cb), (.slice Ac p3.East.length cc), (.slice Ad p3.South.length cd), (.slice Ae p3.West.length ce)] 44 (0, 0))] (hS10.call hk_ [] [0, 1] (fun g hg => hg.elim) (by simp) (by decide))
 refine ⟨trivial, ?_⟩
 refine seg 4 [] [0, 1, 2, 7, 8, 24, 25] [(0, (sv Aa p0 ca)), (1, (iv p1)), (2, (iv p2)), (7, (pt g5)), (8, (pt g8)), (24, (sv A16 t11 c17)), (25, (sv Aa p0 ca))] [] (fun fb => by kernel_rfl) rfl trivial ?_
 obtain ⟨t19, ht20, hf⟩ := bind_some hf
 refine WL.call (some 26) 38 #[(sv Aa p0 ca)] (fun fb => by kernel_rfl) (ref02_Colours_calls _ p0 Aa ca t19 _ (hS15.rd 0) ht20) (fun v w21 hR22 => ?_)
 obtain ⟨A24, c25, rfl, hk_⟩ := hR22
 have hS23 := hS15.go w21 [rowO 3 encInt A24 c25 t19, rowO 88 encN_Row_ref02 A16 c17 (tag H18 t11), poolO [nestO subN_Row_ref02 H18 t11], blk g8 (.cells #[(iv 0), (iv 0), (.slice none 0 0)] 27 (0, 0)), blk g5 (.cells #[(.slice Ab p3.North.length cb), (.slice Ac p3.East.length cc), (.slice Ad p3.South.length cd), (.slice Ae p3.West.length ce)] 44 (0, 0))] (hS15.call hk_ [] [0, 1, 2, 3] (fun g hg => hg.elim) (by simp) (by decide))
 refine ⟨trivial, ?_⟩
 refine seg 7 [] [0, 1, 2, 7, 8, 24, 27, 28] [(0, (sv Aa p0 ca)), (1, (iv p1)), (2, (iv p2)), (7, (pt g5)), (8, (pt g8)), (24, (sv A16 t11 c17)), (27, (iv (t19.length : Int))), (28, (iv p1))] [] (fun fb => by kernel_rfl) rfl trivial ?_
 obtain ⟨t26, ht27, hf⟩ := bind_some hf
 refine WL.call (some 29) 24 #[(iv (t19.length : Int)), (iv p1)] (fun fb => by kernel_rfl) (ref02_Power_calls _ (t19.length : Int) p1 t26 _ ht27) (fun v w28 hR29 => ?_)
 obtain ⟨rfl, hk_⟩ := hR29
 have hS30 := hS23.keepN hk_
 refine ⟨trivial, ?_⟩
 refine seg 10 [] [0, 1, 2, 7, 8, 10, 11] [(0, (sv Aa p0 ca)), (1, (iv p1)), (2, (iv p2)), (7, (pt g5)), (8, (pt g8)), (10, (sv A16 t11 c17)), (11, (iv t26))] [] (fun fb => by kernel_rfl) rfl trivial ?_
 refine WL.done rfl (WX.next (WC.seq (WC.region ?_)))
 refine seg 2 [] [0, 1, 2, 7, 8, 10, 11, 31] [(0, (sv Aa p0 ca)), (1, (iv p1)), (2, (iv p2)), (7, (pt g5)), (8, (pt g8)), (10, (sv A16 t11 c17)), (11, (iv t26)), (31, (iv (w64 (p2 + 1))))] [] (fun fb => by kernel_rfl) rfl trivial ?_
 obtain ⟨h31, hf⟩ := as_some hf
 refine WL.make hS30 (e := (encSl Bool)) (T := 95) (tS := 94) (z := (.slice none 0 0)) (bytes := 24) (d := 32) (((none, 0), []) : (Option Addr × Nat) × (List Bool)) (w64 (p2 + 1)) (fun fb => by kernel_rfl) (by kernel_rfl) (by kernel_rfl) rfl (by decide) h31 (by decide) (fun g32 w34 hS35 => ?_)
 refine ⟨trivial, ?_⟩
 have hS36 := hS23.go w34 [rowO 95 (encSl Bool) (some ⟨g32, 0, none⟩) ((w64 (p2 + 1)).toNat) (tag hf0 (List.replicate (w64 (p2 + 1)).toNat ([] : List Bool))), rowO 3 encInt A24 c25 t19, rowO 88 encN_Row_ref02 A16 c17 (tag H18 t11), poolO [nestO subN_Row_ref02 H18 t11], blk g8 (.cells #[(iv 0), (iv 0), (.slice none 0 0)] 27 (0, 0)), blk g5 (.cells #[(.slice Ab p3.North.length cb), (.slice Ac p3.East.length cc), (.slice Ad p3.South.length cd), (.slice Ae p3.West.length ce)] 44 (0, 0))] (by rw [show tag hf0 (List.replicate (w64 (p2 + 1)).toNat ([] : List Bool)) = _ from tag_rep (none, 0) [] _]; exact hS35)
 have hS37 := hS36.rowsNil 4 encBool (w64 (p2 + 1)).toNat
 refine WL.reE [0, 1, 2, 7, 8, 10, 11, 32] [(0, (.slice Aa p0.length ca)), (1, (iv p1)), (2, (iv p2)), (7, (pt g5)), (8, (pt g8)), (10, (.slice A16 t11.length c17)), (11, (iv t26)), (32, (.slice (some ⟨g32, 0, none⟩) (List.replicate (w64 (p2 + 1)).toNat (((none, 0), []) : (Option Addr × Nat) × (List Bool))).length (w64 (p2 + 1)).toNat))] [(0, (.slice Aa p0.length ca)), (1, (iv p1)), (2, (iv p2)), (7, (pt g5)), (8, (pt g8)), (10, (.slice A16 t11.length c17)), (11, (iv t26)), (32, (.slice (some ⟨g32, 0, none⟩) (List.replicate (w64 (p2 + 1)).toNat ([] : List Bool)).length ((w64 (p2 + 1)).toNat)))] rfl (by simp only [List.length_replicate]) ?_
 refine seg 4 [] [0, 1, 2, 7, 8, 10, 11, 12] [(0, (sv Aa p0 ca)), (1, (iv p1)), (2, (iv p2)), (7, (pt g5)), (8, (pt g8)), (10, (sv A16 t11 c17)), (11, (iv t26)), (12, (sv (some ⟨g32, 0, none⟩) (List.replicate (w64 (p2 + 1)).toNat ([] : List Bool)) ((w64 (p2 + 1)).toNat)))] [] (fun fb => by kernel_rfl) rfl trivial ?_
 refine WL.done rfl (WX.next (WC.seq (WC.region ?_)))
 refine seg 3 [] [0, 1, 2, 7, 8, 10, 11, 12, 33, 34, 35] [(0, (sv Aa p0 ca)), (1, (iv p1)), (2, (iv p2)), (7, (pt g5)), (8, (pt g8)), (10, (sv A16 t11 c17)), (11, (iv t26)), (12, (sv (some ⟨g32, 0, none⟩) (List.replicate (w64 (p2 + 1)).toNat ([] : List Bool)) ((w64 (p2 + 1)).toNat))), (33, (sv (some ⟨g32, 0, none⟩) (List.replicate (w64 (p2 + 1)).toNat ([] : List Bool)) ((w64 (p2 + 1)).toNat))), (34, (iv p2)), (35, (iv t26))] [] (fun fb => by kernel_rfl) rfl trivial ?_
 obtain ⟨h38, hf⟩ := as_some hf
 refine WL.make hS37 (e := encBool) (T := 4) (tS := 95) (z := (bv false)) (bytes := 1) (d := 36) (false : Bool) t26 (fun fb => by kernel_rfl) (by kernel_rfl) (by kernel_rfl) rfl (by decide) h38 (by decide) (fun g39 w40 hS41 => ?_)
 refine ⟨trivial, ?_⟩
 obtain ⟨h42, hf⟩ := as_some hf
 refine seg 5 [] [0, 1, 2, 7, 8, 10, 11, 12, 36, 37] [(0, (sv Aa p0 ca)), (1, (iv p1)), (2, (iv p2)), (7, (pt g5)), (8, (pt g8)), (10, (sv A16 t11 c17)), (11, (iv t26)), (12, (sv (some ⟨g32, 0, none⟩) (List.replicate (w64 (p2 + 1)).toNat ([] : List Bool)) ((w64 (p2 + 1)).toNat))), (36, (sv (some ⟨g39, 0, none⟩) (List.replicate t26.toNat (false : Bool)) t26.toNat)), (37, (.pointer (some ((adr (some ⟨g32, 0, none⟩)).add ((p2).toNat * 1)))))] [.idx (some ⟨g32, 0, none⟩) p2 (List.replicate (w64 (p2 + 1)).toNat ([] : List Bool)).length] (fun fb => by kernel_rfl) rfl ⟨nrow_adr (rowO.rd (hS41.own 2).1) h42.1 h42.2, trivial⟩ ?_
 refine WL.storeRow hS41 2 rfl (p2) (((some ⟨g39, 0, none⟩), t26.toNat), (List.replicate t26.toNat (false : Bool))) ((none, 0), []) [(0, (.slice (some ⟨g39, 0, none⟩) (List.replicate t26.toNat (false : Bool)).length t26.toNat))] (fun fb => by kernel_rfl) h42.1 (by rw [tag_length]; exact h42.2) (by kernel_rfl) (by kernel_rfl) [0, 1, 3, 4, 5, 6, 7] (by decide) (by decide) (fun w43 hS44 => ?_)
 have hS45 := hS36.go w43 [rowO 95 (encSl Bool) (some ⟨g32, 0, none⟩) ((w64 (p2 + 1)).toNat) (tag (updH hf0 p2.toNat ((some ⟨g39, 0, none⟩), t26.toNat)) ((List.replicate (w64 (p2 + 1)).toNat ([] : List Bool)).set p2.toNat (List.replicate t26.toNat (false : Bool)))), rowO 4 encBool (some ⟨g39, 0, none⟩) t26.toNat (List.replicate t26.toNat (false : Bool)), rowsO 4 encBool hf0 (List.replicate (w64 (p2 + 1)).toNat ([] : List Bool)), rowO 3 encInt A24 c25 t19, rowO 88 encN_Row_ref02 A16 c17 (tag H18 t11), poolO [nestO subN_Row_ref02 H18 t11], blk g8 (.cells #[(iv 0), (iv 0), (.slice none 0 0)] 27 (0, 0)), blk g5 (.cells #[(.slice Ab p3.North.length cb), (.slice Ac p3.East.length cc), (.slice Ad p3.South.length cd), (.slice Ae p3.West.length ce)] 44 (0, 0))] (by rw [tag_set]; exact hS44)
 have hS46 := hS45.go w43 [rowsO 4 encBool (updH hf0 p2.toNat ((some ⟨g39, 0, none⟩), t26.toNat)) ((List.replicate (w64 (p2 + 1)).toNat ([] : List Bool)).set p2.toNat (List.replicate t26.toNat (false : Bool))), rowO 95 (encSl Bool) (some ⟨g32, 0, none⟩) ((w64 (p2 + 1)).toNat) (tag (updH hf0 p2.toNat ((some ⟨g39, 0, none⟩), t26.toNat)) ((List.replicate (w64 (p2 + 1)).toNat ([] : List Bool)).set p2.toNat (List.replicate t26.toNat (false : Bool)))), rowO 3 encInt A24 c25 t19, rowO 88 encN_Row_ref02 A16 c17 (tag H18 t11), poolO [nestO subN_Row_ref02 H18 t11], blk g8 (.cells #[(iv 0), (iv 0), (.slice none 0 0)] 27 (0, 0)), blk g5 (.cells #[(sv Ab p3.North cb), (sv Ac p3.East cc), (sv Ad p3.South cd), (sv Ae p3.West ce)] 44 (0, 0))] (hS45.rowsSet 2 1 rfl rfl (by decide) (p2.toNat) [0, 3, 4, 5, 6, 7] (by decide) (by decide))
 refine ⟨trivial, ?_⟩
 refine WL.reE [0, 1, 2, 7, 8, 10, 11, 12] [(0, (.slice Aa p0.length ca)), (1, (iv p1)), (2, (iv p2)), (7, (pt g5)), (8, (pt g8)), (10, (.slice A16 t11.length c17)), (11, (iv t26)), (12, (.slice (some ⟨g32, 0, none⟩) (List.replicate (w64 (p2 + 1)).toNat ([] : List Bool)).length ((w64 (p2 + 1)).toNat)))] [(0, (.slice Aa p0.length ca)), (1, (iv p1)), (2, (iv p2)), (7, (pt g5)), (8, (pt g8)), (10, (.slice A16 t11.length c17)), (11, (iv t26)), (12, (.slice (some ⟨g32, 0, none⟩) ((List.replicate (w64 (p2 + 1)).toNat ([] : List Bool)).set p2.toNat (List.replicate t26.toNat (false : Bool))).length ((w64 (p2 + 1)).toNat)))] rfl (by simp only [List.length_set]) ?_
 refine WL.done rfl (WX.next (WC.seq (WC.seq (WC.region ?_))))
 refine seg 1 [] [0, 1, 2, 7, 8, 10, 11, 12, 13] [(0, (sv Aa p0 ca)), (1, (iv p1)), (2, (iv p2)), (7, (pt g5)), (8, (pt g8)), (10, (sv A16 t11 c17)), (11, (iv t26)), (12, (sv (some ⟨g32, 0, none⟩) ((List.replicate (w64 (p2 + 1)).toNat ([] : List Bool)).set p2.toNat (List.replicate t26.toNat (false : Bool))) ((w64 (p2 + 1)).toNat))), (13, (iv 0))] [] (fun fb => by kernel_rfl) rfl trivial ?_
 refine WL.done rfl (WX.next ?_)
 obtain ⟨x55, hx56, hf⟩ := bind_some hf
 refine WC.cutN (T := (List (List Bool)) × (Option Addr) × Nat × HF) (fun t => [(0, (sv Aa p0 ca)), (1, (iv p1)), (2, (iv p2)), (7, (pt g5)), (8, (pt g8)), (10, (sv A16 t11 c17)), (11, (iv t26)), (12, (sv t.2.1 t.1 t.2.2.1))]) (fun t w1 => St NoS w w1 [rowR enc_Tile Aa ca p0, rowR encInt Ab cb p3.North, rowR encInt Ac cc p3.East, rowR encInt Ad cd p3.South, rowR encInt Ae ce p3.West] [blk g5 (.cells #[(sv Ab p3.North cb), (sv Ac p3.East cc), (sv Ad p3.South cd), (sv Ae p3.West ce)] 44 (0, 0)), blk g8 (.cells #[(iv 0), (iv 0), (.slice none 0 0)] 27 (0, 0)), rowO 88 encN_Row_ref02 A16 c17 (tag H18 t11), poolO [nestO subN_Row_ref02 H18 t11], rowO 95 (encSl Bool) t.2.1 t.2.2.1 (tag t.2.2.2 t.1), rowsO 4 encBool t.2.2.2 t.1] ∧ x55 = t.1) (fun Kx55 => ?_) ?_
 ·
  refine WC.block ?_
  refine WC.loop (T := ((List (List Bool)) × Int) × (Option Addr) × Nat × HF) (fun t => [(0, (sv Aa p0 ca)), (1, (iv p1)), (2, (iv p2)), (7, (pt g5)), (8, (pt g8)), (10, (sv A16 t11 c17)), (11, (iv t26)), (12, (sv t.2.1 t.1.1 t.2.2.1)), (13, (iv t.1.2))]) (fun n t w1 => St NoS w w1 [rowR enc_Tile Aa ca p0, rowR encInt Ab cb p3.North, rowR encInt Ac cc p3.East, rowR encInt Ad cd p3.South, rowR encInt Ae ce p3.West] [blk g5 (.cells #[(sv Ab p3.North cb), (sv Ac p3.East cc), (sv Ad p3.South cd), (sv Ae p3.West ce)] 44 (0, 0)), blk g8 (.cells #[(iv 0), (iv 0), (.slice none 0 0)] 27 (0, 0)), rowO 88 encN_Row_ref02 A16 c17 (tag H18 t11), poolO [nestO subN_Row_ref02 H18 t11], rowO 95 (encSl Bool) t.2.1 t.2.2.1 (tag t.2.2.2 t.1.1), rowsO 4 encBool t.2.2.2 t.1.1] ∧ ref02_First.l0 n t.1.1 t.1.2 p2 t26 = some x55) k (((List.replicate (w64 (p2 + 1)).toNat ([] : List Bool)).set p2.toNat (List.replicate t26.toNat (false : Bool)), 0), (some ⟨g32, 0, none⟩), (w64 (p2 + 1)).toNat, (updH hf0 p2.toNat ((some ⟨g39, 0, none⟩), t26.toNat))) [0, 1, 2, 7, 8, 10, 11, 12, 13] rfl ⟨(hS46.subR [0, 1, 2, 3, 4]).sub [6, 5, 3, 4, 1, 0] (by decide), hx56⟩ ?_
  rintro k57 ⟨⟨l49, x51⟩, A47, c48, H50⟩ w58 ⟨hS59, hl60⟩
  cases k57 with
  | zero => rw [ref02_First.l0] at hl60; cases hl60
  | succ k57 =>
   rw [ref02_First.l0] at hl60
   refine WC.seq (WC.seq (WC.region ?_))
   refine seg 3 [] [0, 1, 2, 7, 8, 10, 11, 12, 13, 40] [(0, (sv Aa p0 ca)), (1, (iv p1)), (2, (iv p2)), (7, (pt g5)), (8, (pt g8)), (10, (sv A16 t11 c17)), (11, (iv t26)), (12, (sv A47 l49 c48)), (13, (iv x51)), (40, (bv (decide (x51 < t26))))] [] (fun fb => by kernel_rfl) rfl trivial ?_
   refine WL.done rfl (WX.next ?_)
   rcases br_some hl60 with ⟨h61, hl60⟩ | ⟨h61, hl60⟩
   ·refine WC.condT2 (fun fb => by kernel_rfl) h61 ?_
    refine WC.skip (WX.next (WC.seq (WC.block (WC.region ?_))))
    refine seg 2 [] [0, 1, 2, 7, 8, 10, 11, 12, 13, 43, 44] [(0, (sv Aa p0 ca)), (1, (iv p1)), (2, (iv p2)), (7, (pt g5)), (8, (pt g8)), (10, (sv A16 t11 c17)), (11, (iv t26)), (12, (sv A47 l49 c48)), (13, (iv x51)), (43, (sv A47 l49 c48)), (44, (iv p2))] [] (fun fb => by kernel_rfl) rfl trivial ?_
    obtain ⟨h62, hl60⟩ := as_some hl60
    refine seg 5 [.v (sv ((H50 p2.toNat).1) (rdD l49 p2 []) ((H50 p2.toNat).2))] [0, 1, 2, 7, 8, 10, 11, 12, 13, 46, 47] [(0, (sv Aa p0 ca)), (1, (iv p1)), (2, (iv p2)), (7, (pt g5)), (8, (pt g8)), (10, (sv A16 t11 c17)), (11, (iv t26)), (12, (sv A47 l49 c48)), (13, (iv x51)), (46, (sv ((H50 p2.toNat).1) (rdD l49 p2 []) ((H50 p2.toNat).2))), (47, (iv x51))] [.idx A47 p2 l49.length, .cell ((adr A47).add ((p2).toNat * 1)) (sv ((H50 p2.toNat).1) (rdD l49 p2 []) ((H50 p2.toNat).2))] (fun fb => by kernel_rfl) rfl ⟨nrow_adr (rowO.rd (hS59.own 4).1) h62.1 h62.2, nrow_cell (rowO.rd (hS59.own 4).1) [] h62.1 h62.2 0 rfl, trivial⟩ ?_
    obtain ⟨h63, hl60⟩ := as_some hl60
    refine seg 6 [] [0, 1, 2, 7, 8, 10, 11, 12, 13, 48] [(0, (sv Aa p0 ca)), (1, (iv p1)), (2, (iv p2)), (7, (pt g5)), (8, (pt g8)), (10, (sv A16 t11 c17)), (11, (iv t26)), (12, (sv A47 l49 c48)), (13, (iv x51)), (48, (.pointer (some ((adr ((H50 p2.toNat).1)).add ((x51).toNat * 1)))))] [.idx ((H50 p2.toNat).1) x51 (rdD l49 p2 []).length] (fun fb => by kernel_rfl) rfl ⟨rowR.adr (rowO.rd (rowsO.at (hS59.own 5).1 h62.1 h62.2)) h63.1 h63.2, trivial⟩ ?_
    refine WL.storeRR hS59 5 rfl h62.1 h62.2 (x51) (true) (false) [(0, (bv true))] (fun fb => by kernel_rfl) h63.1 h63.2 (by kernel_rfl) rfl [0, 1, 2, 3, 4] (by decide) (by decide) (fun w65 hS66 => ?_)
    have hS67 := hS46.go w65 [rowO 95 (encSl Bool) A47 c48 (tag H50 (l49.set p2.toNat ((rdD l49 p2 []).set x51.toNat true))), rowsO 4 encBool H50 (l49.set p2.toNat ((rdD l49 p2 []).set x51.toNat true)), blk g5 (.cells #[(.slice Ab p3.North.length cb), (.slice Ac p3.East.length cc), (.slice Ad p3.South.length cd), (.slice Ae p3.West.length ce)] 44 (0, 0)), blk g8 (.cells #[(iv 0), (iv 0), (.slice none 0 0)] 27 (0, 0)), rowO 88 encN_Row_ref02 A16 c17 (tag H18 t11), poolO [nestO subN_Row_ref02 H18 t11]] (hS66.slRow 5 rfl (rdD_at (d := []) h62.1 h62.2) ((rdD l49 p2 []).set x51.toNat true) (by simp only [List.length_set]) [0, 1, 2, 3, 4] (by decide) (by decide))
    refine ⟨trivial, ?_⟩
    refine WL.reE [0, 1, 2, 7, 8, 10, 11, 12, 13] [(0, (.slice Aa p0.length ca)), (1, (iv p1)), (2, (iv p2)), (7, (pt g5)), (8, (pt g8)), (10, (.slice A16 t11.length c17)), (11, (iv t26)), (12, (.slice A47 l49.length c48)), (13, (iv x51))] [(0, (.slice Aa p0.length ca)), (1, (iv p1)), (2, (iv p2)), (7, (pt g5)), (8, (pt g8)), (10, (.slice A16 t11.length c17)), (11, (iv t26)), (12, (.slice A47 (l49.set p2.toNat ((rdD l49 p2 []).set x51.toNat true)).length c48)), (13, (iv x51))] rfl (by simp only [List.length_set]) ?_
    refine WL.done rfl ?_
    refine WX.blockN (WX.next ?_)
    refine WC.region ?_
    refine seg 3 [] [0, 1, 2, 7, 8, 10, 11, 12, 13] [(0, (sv Aa p0 ca)), (1, (iv p1)), (2, (iv p2)), (7, (pt g5)), (8, (pt g8)), (10, (sv A16 t11 c17)), (11, (iv t26)), (12, (sv A47 (l49.set p2.toNat ((rdD l49 p2 []).set x51.toNat true)) c48)), (13, (iv (w64 (x51 + 1))))] [] (fun fb => by kernel_rfl) rfl trivial ?_
    refine WL.done rfl ?_
    exact WX.again k57 (Nat.lt_succ_self _) ((l49.set p2.toNat ((rdD l49 p2 []).set x51.toNat true), w64 (x51 + 1)), A47, c48, H50) [0, 1, 2, 7, 8, 10, 11, 12, 13] rfl ⟨(hS67.subR [0, 1, 2, 3, 4]).sub [2, 3, 4, 5, 0, 1] (by decide), hl60⟩
   refine WC.condF2 (fun fb => by kernel_rfl) h61 ?_
   refine WC.exit ?_
   injection hl60 with hl60
   exact WX.thenX (WX.thenX (WX.blockHere (WX.to Kx55 (l49, A47, c48, H50) [0, 1, 2, 7, 8, 10, 11, 12] rfl ⟨(hS59.subR [0, 1, 2, 3, 4]).sub [0, 1, 2, 3, 4, 5] (by decide), hl60.symm⟩)))
 rintro ⟨y71, A52, c53, H54⟩ w68 ⟨hS69, hq70⟩
 subst hq70
 refine WX.next (WC.seq (WC.seq (WC.region ?_)))
 refine seg 3 [] [0, 1, 2, 7, 8, 10, 11, 12, 14] [(0, (sv Aa p0 ca)), (1, (iv p1)), (2, (iv p2)), (7, (pt g5)), (8, (pt g8)), (10, (sv A16 t11 c17)), (11, (iv t26)), (12, (sv A52 x55 c53)), (14, (iv (w64 (p2 - 1))))] [] (fun fb => by kernel_rfl) rfl trivial ?_
 refine WL.done rfl (WX.next ?_)
 obtain ⟨x80, hx81, hf⟩ := bind_some hf
 refine WC.cutN (T := (List (List Bool)) × (Option Addr) × Nat × HF) (fun t => [(0, (sv Aa p0 ca)), (1, (iv p1)), (2, (iv p2)), (7, (pt g5)), (8, (pt g8)), (10, (sv A16 t11 c17)), (12, (sv t.2.1 t.1 t.2.2.1))]) (fun t w1 => St NoS w w1 [rowR enc_Tile Aa ca p0, rowR encInt Ab cb p3.North, rowR encInt Ac cc p3.East, rowR encInt Ad cd p3.South, rowR encInt Ae ce p3.West] [blk g5 (.cells #[(sv Ab p3.North cb), (sv Ac p3.East cc), (sv Ad p3.South cd), (sv Ae p3.West ce)] 44 (0, 0)), blk g8 (.cells #[(iv 0), (iv 0), (.slice none 0 0)] 27 (0, 0)), rowO 88 encN_Row_ref02 A16 c17 (tag H18 t11), poolO [nestO subN_Row_ref02 H18 t11], rowO 95 (encSl Bool) t.2.1 t.2.2.1 (tag t.2.2.2 t.1), rowsO 4 encBool t.2.2.2 t.1] ∧ x80 = t.1) (fun Kx80 => ?_) ?_
 ·
  refine WC.block ?_
  refine WC.loop (T := ((List (List Bool)) × Int) × (Option Addr) × Nat × HF) (fun t => [(0, (sv Aa p0 ca)), (1, (iv p1)), (2, (iv p2)), (7, (pt g5)), (8, (pt g8)), (10, (sv A16 t11 c17)), (11, (iv t26)), (12, (sv t.2.1 t.1.1 t.2.2.1)), (14, (iv t.1.2))]) (fun n t w1 => St NoS w w1 [rowR enc_Tile Aa ca p0, rowR encInt Ab cb p3.North, rowR encInt Ac cc p3.East, rowR encInt Ad cd p3.South, rowR encInt Ae ce p3.West] [blk g5 (.cells #[(sv Ab p3.North cb), (sv Ac p3.East cc), (sv Ad p3.South cd), (sv Ae p3.West ce)] 44 (0, 0)), blk g8 (.cells #[(iv 0), (iv 0), (.slice none 0 0)] 27 (0, 0)), rowO 88 encN_Row_ref02 A16 c17 (tag H18 t11), poolO [nestO subN_Row_ref02 H18 t11], rowO 95 (encSl Bool) t.2.1 t.2.2.1 (tag t.2.2.2 t.1.1), rowsO 4 encBool t.2.2.2 t.1.1] ∧ ref02_First.l1 n t.1.1 t.1.2 p0 p2 p3 t11 t26 = some x80) k ((x55, w64 (p2 - 1)), A52, c53, H54) [0, 1, 2, 7, 8, 10, 11, 12, 14] rfl ⟨(hS69.subR [0, 1, 2, 3, 4]).sub [0, 1, 2, 3, 4, 5] (by decide), hx81⟩ ?_
  rintro k82 ⟨⟨l74, x76⟩, A72, c73, H75⟩ w83 ⟨hS84, hl85⟩
  cases k82 with
  | zero => rw [ref02_First.l1] at hl85; cases hl85
  | succ k82 =>
   rw [ref02_First.l1] at hl85
   refine WC.seq (WC.seq (WC.region ?_))
   refine seg 2 [] [0, 1, 2, 7, 8, 10, 11, 12, 14, 52] [(0, (sv Aa p0 ca)), (1, (iv p1)), (2, (iv p2)), (7, (pt g5)), (8, (pt g8)), (10, (sv A16 t11 c17)), (11, (iv t26)), (12, (sv A72 l74 c73)), (14, (iv x76)), (52, (bv (decide (x76 ≥ 0))))] [] (fun fb => by kernel_rfl) rfl trivial ?_
   refine WL.done rfl (WX.next ?_)
   rcases br_some hl85 with ⟨h86, hl85⟩ | ⟨h86, hl85⟩
   ·refine WC.condT2 (fun fb => by kernel_rfl) h86 ?_
    refine WC.skip (WX.next (WC.seq (WC.block (WC.seq (WC.region ?_)))))
    refine seg 3 [] [0, 1, 2, 7, 8, 10, 11, 12, 14, 55, 56, 57] [(0, (sv Aa p0 ca)), (1, (iv p1)), (2, (iv p2)), (7, (pt g5)), (8, (pt g8)), (10, (sv A16 t11 c17)), (11, (iv t26)), (12, (sv A72 l74 c73)), (14, (iv x76)), (55, (sv A72 l74 c73)), (56, (iv x76)), (57, (iv t26))] [] (fun fb => by kernel_rfl) rfl trivial ?_
    obtain ⟨h87, hl85⟩ := as_some hl85
    refine WL.make hS84 (e := encBool) (T := 4) (tS := 95) (z := (bv false)) (bytes := 1) (d := 58) (false : Bool) t26 (fun fb => by kernel_rfl) (by kernel_rfl) (by kernel_rfl) rfl (by decide) h87 (by decide) (fun g88 w89 hS90 => ?_)
    refine ⟨trivial, ?_⟩
    obtain ⟨h91, hl85⟩ := as_some hl85
    refine seg 5 [] [0, 1, 2, 7, 8, 10, 11, 12, 14, 58, 59] [(0, (sv Aa p0 ca)), (1, (iv p1)), (2, (iv p2)), (7, (pt g5)), (8, (pt g8)), (10, (sv A16 t11 c17)), (11, (iv t26)), (12, (sv A72 l74 c73)), (14, (iv x76)), (58, (sv (some ⟨g88, 0, none⟩) (List.replicate t26.toNat (false : Bool)) t26.toNat)), (59, (.pointer (some ((adr A72).add ((x76).toNat * 1)))))] [.idx A72 x76 l74.length] (fun fb => by kernel_rfl) rfl ⟨nrow_adr (rowO.rd (hS90.own 5).1) h91.1 h91.2, trivial⟩ ?_
    refine WL.storeRow hS90 5 rfl (x76) (((some ⟨g88, 0, none⟩), t26.toNat), (List.replicate t26.toNat (false : Bool))) ((none, 0), []) [(0, (.slice (some ⟨g88, 0, none⟩) (List.replicate t26.toNat (false : Bool)).length t26.toNat))] (fun fb => by kernel_rfl) h91.1 (by rw [tag_length]; exact h91.2) (by kernel_rfl) (by kernel_rfl) [0, 1, 2, 3, 4, 6] (by decide) (by decide) (fun w92 hS93 => ?_)
    have hS94 := hS46.go w92 [rowO 95 (encSl Bool) A72 c73 (tag (updH H75 x76.toNat ((some ⟨g88, 0, none⟩), t26.toNat)) (l74.set x76.toNat (List.replicate t26.toNat (false : Bool)))), rowO 4 encBool (some ⟨g88, 0, none⟩) t26.toNat (List.replicate t26.toNat (false : Bool)), blk g5 (.cells #[(.slice Ab p3.North.length cb), (.slice Ac p3.East.length cc), (.slice Ad p3.South.length cd), (.slice Ae p3.West.length ce)] 44 (0, 0)), blk g8 (.cells #[(iv 0), (iv 0), (.slice none 0 0)] 27 (0, 0)), rowO 88 encN_Row_ref02 A16 c17 (tag H18 t11), poolO [nestO subN_Row_ref02 H18 t11], rowsO 4 encBool H75 l74] (by rw [tag_set]; exact hS93)
    have hS95 := hS94.go w92 [rowsO 4 encBool (updH H75 x76.toNat ((some ⟨g88, 0, none⟩), t26.toNat)) (l74.set x76.toNat (List.replicate t26.toNat (false : Bool))), rowO 95 (encSl Bool) A72 c73 (tag (updH H75 x76.toNat ((some ⟨g88, 0, none⟩), t26.toNat)) (l74.set x76.toNat (List.replicate t26.toNat (false : Bool)))), blk g5 (.cells #[(sv Ab p3.North cb), (sv Ac p3.East cc), (sv Ad p3.South cd), (sv Ae p3.West ce)] 44 (0, 0)), blk g8 (.cells #[(iv 0), (iv 0), (.slice none 0 0)] 27 (0, 0)), rowO 88 encN_Row_ref02 A16 c17 (tag H18 t11), poolO [nestO subN_Row_ref02 H18 t11]] (hS94.rowsSet 6 1 rfl rfl (by decide) (x76.toNat) [0, 2, 3, 4, 5] (by decide) (by decide))
    refine ⟨trivial, ?_⟩
    refine WL.reE [0, 1, 2, 7, 8, 10, 11, 12, 14] [(0, (.slice Aa p0.length ca)), (1, (iv p1)), (2, (iv p2)), (7, (pt g5)), (8, (pt g8)), (10, (.slice A16 t11.length c17)), (11, (iv t26)), (12, (.slice A72 l74.length c73)), (14, (iv x76))] [(0, (.slice Aa p0.length ca)), (1, (iv p1)), (2, (iv p2)), (7, (pt g5)), (8, (pt g8)), (10, (.slice A16 t11.length c17)), (11, (iv t26)), (12, (.slice A72 (l74.set x76.toNat (List.replicate t26.toNat (false : Bool))).length c73)), (14, (iv x76))] rfl (by simp only [List.length_set]) ?_
    refine WL.done rfl (WX.next (WC.seq (WC.region ?_)))
    refine seg 1 [] [0, 1, 2, 7, 8, 10, 11, 12, 14, 15] [(0, (sv Aa p0 ca)), (1, (iv p1)), (2, (iv p2)), (7, (pt g5)), (8, (pt g8)), (10, (sv A16 t11 c17)), (11, (iv t26)), (12, (sv A72 (l74.set x76.toNat (List.replicate t26.toNat (false : Bool))) c73)), (14, (iv x76)), (15, (iv 0))] [] (fun fb => by kernel_rfl) rfl trivial ?_
    refine WL.done rfl (WX.next ?_)
    obtain ⟨x104, hx105, hl85⟩ := bind_some hl85
    refine WC.cutN (T := (List (List Bool)) × (Option Addr) × Nat × HF) (fun t => [(0, (sv Aa p0 ca)), (1, (iv p1)), (2, (iv p2)), (7, (pt g5)), (8, (pt g8)), (10, (sv A16 t11 c17)), (11, (iv t26)), (12, (sv t.2.1 t.1 t.2.2.1)), (14, (iv x76))]) (fun t w1 => St NoS w w1 [rowR enc_Tile Aa ca p0, rowR encInt Ab cb p3.North, rowR encInt Ac cc p3.East, rowR encInt Ad cd p3.South, rowR encInt Ae ce p3.West] [blk g5 (.cells #[(sv Ab p3.North cb), (sv Ac p3.East cc), (sv Ad p3.South cd), (sv Ae p3.West ce)] 44 (0, 0)), blk g8 (.cells #[(iv 0), (iv 0), (.slice none 0 0)] 27 (0, 0)), rowO 88 encN_Row_ref02 A16 c17 (tag H18 t11), poolO [nestO subN_Row_ref02 H18 t11], rowO 95 (encSl Bool) t.2.1 t.2.2.1 (tag t.2.2.2 t.1), rowsO 4 encBool t.2.2.2 t.1] ∧ x104 = t.1) (fun Kx104 => ?_) ?_
    ·
     refine WC.block ?_
     refine WC.loop (T := ((List (List Bool)) × Int) × (Option Addr) × Nat × HF) (fun t => [(0, (sv Aa p0 ca)), (1, (iv p1)), (2, (iv p2)), (7, (pt g5)), (8, (pt g8)), (10, (sv A16 t11 c17)), (11, (iv t26)), (12, (sv t.2.1 t.1.1 t.2.2.1)), (14, (iv x76)), (15, (iv t.1.2))]) (fun n t w1 => St NoS w w1 [rowR enc_Tile Aa ca p0, rowR encInt Ab cb p3.North, rowR encInt Ac cc p3.East, rowR encInt Ad cd p3.South, rowR encInt Ae ce p3.West] [blk g5 (.cells #[(sv Ab p3.North cb), (sv Ac p3.East cc), (sv Ad p3.South cd), (sv Ae p3.West ce)] 44 (0, 0)), blk g8 (.cells #[(iv 0), (iv 0), (.slice none 0 0)] 27 (0, 0)), rowO 88 encN_Row_ref02 A16 c17 (tag H18 t11), poolO [nestO subN_Row_ref02 H18 t11], rowO 95 (encSl Bool) t.2.1 t.2.2.1 (tag t.2.2.2 t.1.1), rowsO 4 encBool t.2.2.2 t.1.1] ∧ ref02_First.l2 n t.1.1 t.1.2 p0 p2 p3 t11 x76 = some x104) k82 ((l74.set x76.toNat (List.replicate t26.toNat (false : Bool)), 0), A72, c73, (updH H75 x76.toNat ((some ⟨g88, 0, none⟩), t26.toNat))) [0, 1, 2, 7, 8, 10, 11, 12, 14, 15] rfl ⟨(hS95.subR [0, 1, 2, 3, 4]).sub [2, 3, 4, 5, 1, 0] (by decide), hx105⟩ ?_
     rintro k106 ⟨⟨l98, x100⟩, A96, c97, H99⟩ w107 ⟨hS108, hl109⟩
     cases k106 with
     | zero => rw [ref02_First.l2] at hl109; cases hl109
     | succ k106 =>
      rw [ref02_First.l2] at hl109
      refine WC.seq (WC.seq (WC.region ?_))
      refine seg 4 [] [0, 1, 2, 7, 8, 10, 11, 12, 14, 15, 63] [(0, (sv Aa p0 ca)), (1, (iv p1)), (2, (iv p2)), (7, (pt g5)), (8, (pt g8)), (10, (sv A16 t11 c17)), (11, (iv t26)), (12, (sv A96 l98 c97)), (14, (iv x76)), (15, (iv x100)), (63, (bv (decide (x100 < (t11.length : Int)))))] [] (fun fb => by kernel_rfl) rfl trivial ?_
      refine WL.done rfl (WX.next ?_)
      rcases br_some hl109 with ⟨h110, hl109⟩ | ⟨h110, hl109⟩
      ·refine WC.condT2 (fun fb => by kernel_rfl) h110 ?_
       refine WC.skip (WX.next (WC.seq (WC.block (WC.seq ?_))))
       obtain ⟨x111, hx112, hl109⟩ := bind_some hl109
       refine WC.cutN (T := Bool) (fun t => [(0, (sv Aa p0 ca)), (1, (iv p1)), (2, (iv p2)), (7, (pt g5)), (8, (pt g8)), (10, (sv A16 t11 c17)), (11, (iv t26)), (12, (sv A96 l98 c97)), (14, (iv x76)), (15, (iv x100)), (88, (bv t))]) (fun t w1 => St NoS w w1 [rowR enc_Tile Aa ca p0, rowR encInt Ab cb p3.North, rowR encInt Ac cc p3.East, rowR encInt Ad cd p3.South, rowR encInt Ae ce p3.West] [blk g5 (.cells #[(sv Ab p3.North cb), (sv Ac p3.East cc), (sv Ad p3.South cd), (sv Ae p3.West ce)] 44 (0, 0)), blk g8 (.cells #[(iv 0), (iv 0), (.slice none 0 0)] 27 (0, 0)), rowO 88 encN_Row_ref02 A16 c17 (tag H18 t11), poolO [nestO subN_Row_ref02 H18 t11], rowO 95 (encSl Bool) A96 c97 (tag H99 l98), rowsO 4 encBool H99 l98] ∧ x111 = t) (fun Kx111 => ?_) ?_
       ·
        rcases br_some hx112 with ⟨h113, hx112⟩ | ⟨h113, hx112⟩
        ·
         obtain ⟨h116, hx112⟩ := as_some hx112
         obtain ⟨h117, hx112⟩ := as_some hx112
         obtain ⟨h118, hx112⟩ := as_some hx112
         refine WC.regionD ([(4, ((adr A96).add ((w64 (x76 + 1)).toNat * 1)), (sv ((H99 (w64 (x76 + 1)).toNat).1) (rdD l98 (w64 (x76 + 1)) []) ((H99 (w64 (x76 + 1)).toNat).2))), (9, (((adr A16).add ((x100).toNat * 3)).add 2), (iv ((rdD t11 x100 z_Row_ref02).North))), (11, ((adr ((H99 (w64 (x76 + 1)).toNat).1)).add (((rdD t11 x100 z_Row_ref02).North).toNat * 1)), (bv (rdD (rdD l98 (w64 (x76 + 1)) []) ((rdD t11 x100 z_Row_ref02).North) false))), (17, ((adr A16).add ((x100).toNat * 3)), (sv ((H18 x100.toNat 0).1) ((rdD t11 x100 z_Row_ref02).Cells) ((H18 x100.toNat 0).2))), (17, (((adr A16).add ((x100).toNat * 3)).add 1), (iv ((rdD t11 x100 z_Row_ref02).South))), (17, (((adr A16).add ((x100).toNat * 3)).add 2), (iv ((rdD t11 x100 z_Row_ref02).North))), (20, ⟨g5, 0, none⟩, (sv Ab p3.North cb)), (20, ⟨g5, 1, none⟩, (sv Ac p3.East cc)), (20, ⟨g5, 2, none⟩, (sv Ad p3.South cd)), (20, ⟨g5, 3, none⟩, (sv Ae p3.West ce))], [0, 1, 2, 3, 4, 5, 6, 7, 8, 9, 10, 11, 12, 13, 14, 15, 16, 17, 18, 19, 20, 22], [[], [], [1], [0, 1, 2], [0, 1, 2, 3], [], [], [5, 6], [5, 6, 7], [5, 6, 7, 8], [0, 1, 2, 3, 4, 5, 6, 7, 8, 9], [0, 1, 2, 3, 4, 5, 6, 7, 8, 9, 10], [0, 1, 2, 3, 4, 5, 6, 7, 8, 9, 10, 11], [0, 1, 2, 3, 4, 5, 6, 7, 8, 9, 10, 11, 12], [0, 1, 2, 3, 4, 5, 6, 7, 8, 9, 10, 11, 12], [0, 1, 2, 3, 4, 5, 6, 7, 8, 9, 10, 11, 12], [0, 1, 2, 3, 4, 5, 6, 7, 8, 9, 10, 11, 12, 14, 15], [0, 1, 2, 3, 4, 5, 6, 7, 8, 9, 10, 11, 12, 14, 15, 16], [0, 1, 2, 3, 4, 5, 6, 7, 8, 9, 10, 11, 12], [0, 1, 2, 3, 4, 5, 6, 7, 8, 9, 10, 11, 12], [0, 1, 2, 3, 4, 5, 6, 7, 8, 9, 10, 11, 12], [0, 1, 2, 3, 4, 5, 6, 7, 8, 9, 10, 11, 12, 13, 14, 15, 16, 17, 18, 19, 20], [0, 1, 2, 3, 4, 5, 6, 7, 8, 9, 10, 11, 12, 13, 14, 15, 16, 17, 18, 19, 20, 21]]) [[0, 1, 2, 3, 4, 5, 6, 7, 8, 9, 10, 11, 12, 13, 14, 15, 16, 17, 18, 19, 20, 21, 22]] (by kernel_rfl) (by kernel_rfl) (NoPanic.seq (NoPanic.block (NoPanic.seq (NoPanic.seq (NoPanic.block (NoPanic.block (NoPanic.seq (NoPanic.seq (NoPanic.block (NoPanic.seq (NoPanic.body))))))))))) ?_
         have hS115 := hS108.drew
         revert hS115
         generalize World.drew w107 = w114
         intro hS115
         refine ⟨⟨nrow_cell (rowO.rd (hS115.own 4).1) [] h116.1 h116.2 0 rfl, nrow_cell (rowO.rd (hS115.own 2).1) z_Row_ref02 h117.1 h117.2 2 rfl, rowR.cell (rowO.rd (rowsO.at (hS115.own 5).1 h116.1 h116.2)) false h118.1 h118.2 0 rfl, nrow_cell (rowO.rd (hS115.own 2).1) z_Row_ref02 h117.1 h117.2 0 rfl, nrow_cell (rowO.rd (hS115.own 2).1) z_Row_ref02 h117.1 h117.2 1 rfl, nrow_cell (rowO.rd (hS115.own 2).1) z_Row_ref02 h117.1 h117.2 2 rfl, hS115.cell 0 rfl 0 rfl, hS115.cell 0 rfl 1 rfl, hS115.cell 0 rfl 2 rfl, hS115.cell 0 rfl 3 rfl, trivial⟩, forallC ?_ (forallN)⟩
         refine segF 13 [.v (sv ((H99 (w64 (x76 + 1)).toNat).1) (rdD l98 (w64 (x76 + 1)) []) ((H99 (w64 (x76 + 1)).toNat).2)), .v (iv ((rdD t11 x100 z_Row_ref02).North)), .v (bv (rdD (rdD l98 (w64 (x76 + 1)) []) ((rdD t11 x100 z_Row_ref02).North) false))] [0, 1, 2, 7, 8, 10, 11, 12, 14, 15, 78] [(0, (sv Aa p0 ca)), (1, (iv p1)), (2, (iv p2)), (7, (pt g5)), (8, (pt g8)), (10, (sv A16 t11 c17)), (11, (iv t26)), (12, (sv A96 l98 c97)), (14, (iv x76)), (15, (iv x100)), (78, (bv (rdD (rdD l98 (w64 (x76 + 1)) []) ((rdD t11 x100 z_Row_ref02).North) false)))] [.idx A96 (w64 (x76 + 1)) l98.length, .idx A16 x100 t11.length, .idx ((H99 (w64 (x76 + 1)).toNat).1) ((rdD t11 x100 z_Row_ref02).North) (rdD l98 (w64 (x76 + 1)) []).length] [0, 1, 2] [(4, ((adr A96).add ((w64 (x76 + 1)).toNat * 1)), (sv ((H99 (w64 (x76 + 1)).toNat).1) (rdD l98 (w64 (x76 + 1)) []) ((H99 (w64 (x76 + 1)).toNat).2))), (9, (((adr A16).add ((x100).toNat * 3)).add 2), (iv ((rdD t11 x100 z_Row_ref02).North))), (11, ((adr ((H99 (w64 (x76 + 1)).toNat).1)).add (((rdD t11 x100 z_Row_ref02).North).toNat * 1)), (bv (rdD (rdD l98 (w64 (x76 + 1)) []) ((rdD t11 x100 z_Row_ref02).North) false)))] (fun fb => by kernel_rfl) rfl ⟨nrow_adr (rowO.rd (hS115.own 4).1) h116.1 h116.2, nrow_adr (rowO.rd (hS115.own 2).1) h117.1 h117.2, rowR.adr (rowO.rd (rowsO.at (hS115.own 5).1 h116.1 h116.2)) h118.1 h118.2, trivial⟩ rfl ?_
         refine WL.setB 78 h113 rfl ?_
         refine segF 21 [.v (sv ((H18 x100.toNat 0).1) ((rdD t11 x100 z_Row_ref02).Cells) ((H18 x100.toNat 0).2)), .v (iv ((rdD t11 x100 z_Row_ref02).South)), .v (iv ((rdD t11 x100 z_Row_ref02).North)), .v (sv Ab p3.North cb), .v (sv Ac p3.East cc), .v (sv Ad p3.South cd), .v (sv Ae p3.West ce)] [0, 1, 2, 7, 8, 10, 11, 12, 14, 15, 78, 79, 83, 84, 85, 86] [(0, (sv Aa p0 ca)), (1, (iv p1)), (2, (iv p2)), (7, (pt g5)), (8, (pt g8)), (10, (sv A16 t11 c17)), (11, (iv t26)), (12, (sv A96 l98 c97)), (14, (iv x76)), (15, (iv x100)), (78, (bv true)), (79, (sv Aa p0 ca)), (83, (.agg #[(sv ((H18 x100.toNat 0).1) ((rdD t11 x100 z_Row_ref02).Cells) ((H18 x100.toNat 0).2)), (iv ((rdD t11 x100 z_Row_ref02).South)), (iv ((rdD t11 x100 z_Row_ref02).North))])), (84, (iv x76)), (85, (iv p2)), (86, (.agg #[(sv Ab p3.North cb), (sv Ac p3.East cc), (sv Ad p3.South cd), (sv Ae p3.West ce)]))] [.idx A16 x100 t11.length] [3, 4, 5, 6, 7, 8, 9] [(17, ((adr A16).add ((x100).toNat * 3)), (sv ((H18 x100.toNat 0).1) ((rdD t11 x100 z_Row_ref02).Cells) ((H18 x100.toNat 0).2))), (17, (((adr A16).add ((x100).toNat * 3)).add 1), (iv ((rdD t11 x100 z_Row_ref02).South))), (17, (((adr A16).add ((x100).toNat * 3)).add 2), (iv ((rdD t11 x100 z_Row_ref02).North))), (20, ⟨g5, 0, none⟩, (sv Ab p3.North cb)), (20, ⟨g5, 1, none⟩, (sv Ac p3.East cc)), (20, ⟨g5, 2, none⟩, (sv Ad p3.South cd)), (20, ⟨g5, 3, none⟩, (sv Ae p3.West ce))] (fun fb => by kernel_rfl) rfl ⟨nrow_adr (rowO.rd (hS115.own 2).1) h117.1 h117.2, trivial⟩ rfl ?_
         obtain ⟨t119, ht120, hx112⟩ := bind_some hx112
         refine WL.call (some 87) 63 #[(sv Aa p0 ca), (.agg #[(sv ((H18 x100.toNat 0).1) ((rdD t11 x100 z_Row_ref02).Cells) ((H18 x100.toNat 0).2)), (iv ((rdD t11 x100 z_Row_ref02).South)), (iv ((rdD t11 x100 z_Row_ref02).North))]), (iv x76), (iv p2), (.agg #[(sv Ab p3.North cb), (sv Ac p3.East cc), (sv Ad p3.South cd), (sv Ae p3.West ce)])] (fun fb => by kernel_rfl) (ref02_fits_calls _ p0 (rdD t11 x100 z_Row_ref02) x76 p2 p3 Aa ca ((H18 x100.toNat 0).1) ((H18 x100.toNat 0).2) Ab cb Ac cc Ad cd Ae ce t119 _ (hS115.rd 0) (nestO.ro (poolO.ro (hS115.ow 3) 0) z_Row_ref02 h117.1 h117.2) (hS115.rd 1) (hS115.rd 2) (hS115.rd 3) (hS115.rd 4) ht120) (fun v w121 hR122 => ?_)
         obtain ⟨rfl, hk_⟩ := hR122
         have hS123 := hS115.keepN hk_
         refine ⟨trivial, ?_⟩
         refine seg 23 [] [0, 1, 2, 7, 8, 10, 11, 12, 14, 15, 88] [(0, (sv Aa p0 ca)), (1, (iv p1)), (2, (iv p2)), (7, (pt g5)), (8, (pt g8)), (10, (sv A16 t11 c17)), (11, (iv t26)), (12, (sv A96 l98 c97)), (14, (iv x76)), (15, (iv x100)), (88, (bv t119))] [] (fun fb => by kernel_rfl) rfl trivial ?_
         refine WL.done rfl ?_
         injection hx112 with hx112
         exact WX.to Kx111 t119 [0, 1, 2, 7, 8, 10, 11, 12, 14, 15, 88] rfl ⟨(hS123.subR [0, 1, 2, 3, 4]).sub [0, 1, 2, 3, 4, 5] (by decide), hx112.symm⟩
        obtain ⟨h126, hx112⟩ := as_some hx112
        obtain ⟨h127, hx112⟩ := as_some hx112
        obtain ⟨h128, hx112⟩ := as_some hx112
        refine WC.regionD ([(4, ((adr A96).add ((w64 (x76 + 1)).toNat * 1)), (sv ((H99 (w64 (x76 + 1)).toNat).1) (rdD l98 (w64 (x76 + 1)) []) ((H99 (w64 (x76 + 1)).toNat).2))), (9, (((adr A16).add ((x100).toNat * 3)).add 2), (iv ((rdD t11 x100 z_Row_ref02).North))), (11, ((adr ((H99 (w64 (x76 + 1)).toNat).1)).add (((rdD t11 x100 z_Row_ref02).North).toNat * 1)), (bv (rdD (rdD l98 (w64 (x76 + 1)) []) ((rdD t11 x100 z_Row_ref02).North) false)))], [0, 1, 2, 3, 4, 5, 6, 7, 8, 9, 10, 11, 12, 13, 14, 15, 16, 17, 18, 19, 20, 22], [[], [], [1], [0, 1, 2], [0, 1, 2, 3], [], [], [5, 6], [5, 6, 7], [5, 6, 7, 8], [0, 1, 2, 3, 4, 5, 6, 7, 8, 9], [0, 1, 2, 3, 4, 5, 6, 7, 8, 9, 10], [0, 1, 2, 3, 4, 5, 6, 7, 8, 9, 10, 11], [0, 1, 2, 3, 4, 5, 6, 7, 8, 9, 10, 11, 12], [0, 1, 2, 3, 4, 5, 6, 7, 8, 9, 10, 11, 12], [0, 1, 2, 3, 4, 5, 6, 7, 8, 9, 10, 11, 12], [0, 1, 2, 3, 4, 5, 6, 7, 8, 9, 10, 11, 12, 14, 15], [0, 1, 2, 3, 4, 5, 6, 7, 8, 9, 10, 11, 12, 14, 15, 16], [0, 1, 2, 3, 4, 5, 6, 7, 8, 9, 10, 11, 12], [0, 1, 2, 3, 4, 5, 6, 7, 8, 9, 10, 11, 12], [0, 1, 2, 3, 4, 5, 6, 7, 8, 9, 10, 11, 12], [0, 1, 2, 3, 4, 5, 6, 7, 8, 9, 10, 11, 12, 13, 14, 15, 16, 17, 18, 19, 20], [0, 1, 2, 3, 4, 5, 6, 7, 8, 9, 10, 11, 12, 13, 14, 15, 16, 17, 18, 19, 20, 21]]) [[0, 1, 2, 3, 4, 5, 6, 7, 8, 9, 10, 11, 12, 13, 14, 15, 16, 17, 18, 19, 20, 21, 22]] (by kernel_rfl) (by kernel_rfl) (NoPanic.seq (NoPanic.block (NoPanic.seq (NoPanic.seq (NoPanic.block (NoPanic.block (NoPanic.seq (NoPanic.seq (NoPanic.block (NoPanic.seq (NoPanic.body))))))))))) ?_
        have hS125 := hS108.drew
        revert hS125
        generalize World.drew w107 = w124
        intro hS125
        refine ⟨⟨nrow_cell (rowO.rd (hS125.own 4).1) [] h126.1 h126.2 0 rfl, nrow_cell (rowO.rd (hS125.own 2).1) z_Row_ref02 h127.1 h127.2 2 rfl, rowR.cell (rowO.rd (rowsO.at (hS125.own 5).1 h126.1 h126.2)) false h128.1 h128.2 0 rfl, trivial⟩, forallC ?_ (forallN)⟩
        refine segF 13 [.v (sv ((H99 (w64 (x76 + 1)).toNat).1) (rdD l98 (w64 (x76 + 1)) []) ((H99 (w64 (x76 + 1)).toNat).2)), .v (iv ((rdD t11 x100 z_Row_ref02).North)), .v (bv (rdD (rdD l98 (w64 (x76 + 1)) []) ((rdD t11 x100 z_Row_ref02).North) false))] [0, 1, 2, 7, 8, 10, 11, 12, 14, 15, 78] [(0, (sv Aa p0 ca)), (1, (iv p1)), (2, (iv p2)), (7, (pt g5)), (8, (pt g8)), (10, (sv A16 t11 c17)), (11, (iv t26)), (12, (sv A96 l98 c97)), (14, (iv x76)), (15, (iv x100)), (78, (bv (rdD (rdD l98 (w64 (x76 + 1)) []) ((rdD t11 x100 z_Row_ref02).North) false)))] [.idx A96 (w64 (x76 + 1)) l98.length, .idx A16 x100 t11.length, .idx ((H99 (w64 (x76 + 1)).toNat).1) ((rdD t11 x100 z_Row_ref02).North) (rdD l98 (w64 (x76 + 1)) []).length] [0, 1, 2] [(4, ((adr A96).add ((w64 (x76 + 1)).toNat * 1)), (sv ((H99 (w64 (x76 + 1)).toNat).1) (rdD l98 (w64 (x76 + 1)) []) ((H99 (w64 (x76 + 1)).toNat).2))), (9, (((adr A16).add ((x100).toNat * 3)).add 2), (iv ((rdD t11 x100 z_Row_ref02).North))), (11, ((adr ((H99 (w64 (x76 + 1)).toNat).1)).add (((rdD t11 x100 z_Row_ref02).North).toNat * 1)), (bv (rdD (rdD l98 (w64 (x76 + 1)) []) ((rdD t11 x100 z_Row_ref02).North) false)))] (fun fb => by kernel_rfl) rfl ⟨nrow_adr (rowO.rd (hS125.own 4).1) h126.1 h126.2, nrow_adr (rowO.rd (hS125.own 2).1) h127.1 h127.2, rowR.adr (rowO.rd (rowsO.at (hS125.own 5).1 h126.1 h126.2)) h128.1 h128.2, trivial⟩ rfl ?_
        refine WL.setB 78 h113 rfl ?_
        refine seg 23 [] [0, 1, 2, 7, 8, 10, 11, 12, 14, 15, 88] [(0, (sv Aa p0 ca)), (1, (iv p1)), (2, (iv p2)), (7, (pt g5)), (8, (pt g8)), (10, (sv A16 t11 c17)), (11, (iv t26)), (12, (sv A96 l98 c97)), (14, (iv x76)), (15, (iv x100)), (88, (bv false))] [] (fun fb => by kernel_rfl) rfl trivial ?_
        refine WL.done rfl ?_
        injection hx112 with hx112
        exact WX.to Kx111 false [0, 1, 2, 7, 8, 10, 11, 12, 14, 15, 88] rfl ⟨(hS125.subR [0, 1, 2, 3, 4]).sub [0, 1, 2, 3, 4, 5] (by decide), hx112.symm⟩
       rintro y132 w129 ⟨hS130, hq131⟩
       subst hq131
       refine WX.next ?_
       obtain ⟨x136, hx137, hl109⟩ := bind_some hl109
       refine WC.cutN (T := (List (List Bool)) × (Option Addr) × Nat × HF) (fun t => [(0, (sv Aa p0 ca)), (1, (iv p1)), (2, (iv p2)), (7, (pt g5)), (8, (pt g8)), (10, (sv A16 t11 c17)), (11, (iv t26)), (12, (sv t.2.1 t.1 t.2.2.1)), (14, (iv x76)), (15, (iv x100))]) (fun t w1 => St NoS w w1 [rowR enc_Tile Aa ca p0, rowR encInt Ab cb p3.North, rowR encInt Ac cc p3.East, rowR encInt Ad cd p3.South, rowR encInt Ae ce p3.West] [blk g5 (.cells #[(sv Ab p3.North cb), (sv Ac p3.East cc), (sv Ad p3.South cd), (sv Ae p3.West ce)] 44 (0, 0)), blk g8 (.cells #[(iv 0), (iv 0), (.slice none 0 0)] 27 (0, 0)), rowO 88 encN_Row_ref02 A16 c17 (tag H18 t11), poolO [nestO subN_Row_ref02 H18 t11], rowO 95 (encSl Bool) t.2.1 t.2.2.1 (tag t.2.2.2 t.1), rowsO 4 encBool t.2.2.2 t.1] ∧ x136 = t.1) (fun Kx136 => ?_) ?_
       ·
        rcases br_some hx137 with ⟨h138, hx137⟩ | ⟨h138, hx137⟩
        ·refine WC.condT2 (fun fb => by kernel_rfl) h138 ?_
         obtain ⟨h141, hx137⟩ := as_some hx137
         obtain ⟨h142, hx137⟩ := as_some hx137
         obtain ⟨h143, hx137⟩ := as_some hx137
         refine WC.regionD ([(3, ((adr A96).add ((x76).toNat * 1)), (sv ((H99 x76.toNat).1) (rdD l98 x76 []) ((H99 x76.toNat).2))), (8, (((adr A16).add ((x100).toNat * 3)).add 1), (iv ((rdD t11 x100 z_Row_ref02).South)))], [0, 1, 2, 3, 4, 5, 6, 7, 8, 9], [[], [], [0, 1], [0, 1, 2], [], [], [4, 5], [4, 5, 6], [4, 5, 6, 7], [0, 1, 2, 3, 4, 5, 6, 7, 8], [0, 1, 2, 3, 4, 5, 6, 7, 8, 9]]) [[0, 1, 2, 3, 4, 5, 6, 7, 8, 9, 10]] (by kernel_rfl) (by kernel_rfl) (NoPanic.block (NoPanic.seq (NoPanic.seq (NoPanic.block (NoPanic.block (NoPanic.seq (NoPanic.seq (NoPanic.block (NoPanic.seq (NoPanic.body)))))))))) ?_
         have hS140 := hS130.drew
         revert hS140
         generalize World.drew w129 = w139
         intro hS140
         refine ⟨⟨nrow_cell (rowO.rd (hS140.own 4).1) [] h141.1 h141.2 0 rfl, nrow_cell (rowO.rd (hS140.own 2).1) z_Row_ref02 h142.1 h142.2 1 rfl, trivial⟩, forallC ?_ (forallN)⟩
         refine segF 10 [.v (sv ((H99 x76.toNat).1) (rdD l98 x76 []) ((H99 x76.toNat).2)), .v (iv ((rdD t11 x100 z_Row_ref02).South))] [0, 1, 2, 7, 8, 10, 11, 12, 14, 15, 98] [(0, (sv Aa p0 ca)), (1, (iv p1)), (2, (iv p2)), (7, (pt g5)), (8, (pt g8)), (10, (sv A16 t11 c17)), (11, (iv t26)), (12, (sv A96 l98 c97)), (14, (iv x76)), (15, (iv x100)), (98, (.pointer (some ((adr ((H99 x76.toNat).1)).add (((rdD t11 x100 z_Row_ref02).South).toNat * 1)))))] [.idx A96 x76 l98.length, .idx A16 x100 t11.length, .idx ((H99 x76.toNat).1) ((rdD t11 x100 z_Row_ref02).South) (rdD l98 x76 []).length] [0, 1] [(3, ((adr A96).add ((x76).toNat * 1)), (sv ((H99 x76.toNat).1) (rdD l98 x76 []) ((H99 x76.toNat).2))), (8, (((adr A16).add ((x100).toNat * 3)).add 1), (iv ((rdD t11 x100 z_Row_ref02).South)))] (fun fb => by kernel_rfl) rfl ⟨nrow_adr (rowO.rd (hS140.own 4).1) h141.1 h141.2, nrow_adr (rowO.rd (hS140.own 2).1) h142.1 h142.2, rowR.adr (rowO.rd (rowsO.at (hS140.own 5).1 h141.1 h141.2)) h143.1 h143.2, trivial⟩ rfl ?_
         refine WL.storeRR hS140 5 rfl h141.1 h141.2 ((rdD t11 x100 z_Row_ref02).South) (true) (false) [(0, (bv true))] (fun fb => by kernel_rfl) h143.1 h143.2 (by kernel_rfl) rfl [0, 1, 2, 3, 4] (by decide) (by decide) (fun w144 hS145 => ?_)
         have hS146 := hS95.go w144 [rowO 95 (encSl Bool) A96 c97 (tag H99 (l98.set x76.toNat ((rdD l98 x76 []).set ((rdD t11 x100 z_Row_ref02).South).toNat true))), rowsO 4 encBool H99 (l98.set x76.toNat ((rdD l98 x76 []).set ((rdD t11 x100 z_Row_ref02).South).toNat true)), blk g5 (.cells #[(.slice Ab p3.North.length cb), (.slice Ac p3.East.length cc), (.slice Ad p3.South.length cd), (.slice Ae p3.West.length ce)] 44 (0, 0)), blk g8 (.cells #[(iv 0), (iv 0), (.slice none 0 0)] 27 (0, 0)), rowO 88 encN_Row_ref02 A16 c17 (tag H18 t11), poolO [nestO subN_Row_ref02 H18 t11]] (hS145.slRow 5 rfl (rdD_at (d := []) h141.1 h141.2) ((rdD l98 x76 []).set ((rdD t11 x100 z_Row_ref02).South).toNat true) (by simp only [List.length_set]) [0, 1, 2, 3, 4] (by decide) (by decide))
         refine ⟨trivial, ?_⟩
         refine WL.reE [0, 1, 2, 7, 8, 10, 11, 12, 14, 15] [(0, (.slice Aa p0.length ca)), (1, (iv p1)), (2, (iv p2)), (7, (pt g5)), (8, (pt g8)), (10, (.slice A16 t11.length c17)), (11, (iv t26)), (12, (.slice A96 l98.length c97)), (14, (iv x76)), (15, (iv x100))] [(0, (.slice Aa p0.length ca)), (1, (iv p1)), (2, (iv p2)), (7, (pt g5)), (8, (pt g8)), (10, (.slice A16 t11.length c17)), (11, (iv t26)), (12, (.slice A96 (l98.set x76.toNat ((rdD l98 x76 []).set ((rdD t11 x100 z_Row_ref02).South).toNat true)).length c97)), (14, (iv x76)), (15, (iv x100))] rfl (by simp only [List.length_set]) ?_
         refine WL.done rfl ?_
         injection hx137 with hx137
         exact WX.to Kx136 (l98.set x76.toNat ((rdD l98 x76 []).set ((rdD t11 x100 z_Row_ref02).South).toNat true), A96, c97, H99) [0, 1, 2, 7, 8, 10, 11, 12, 14, 15] rfl ⟨(hS146.subR [0, 1, 2, 3, 4]).sub [2, 3, 4, 5, 0, 1] (by decide), hx137.symm⟩
        refine WC.condF2 (fun fb => by kernel_rfl) h138 ?_
        refine WC.skip ?_
        injection hx137 with hx137
        exact WX.to Kx136 (l98, A96, c97, H99) [0, 1, 2, 7, 8, 10, 11, 12, 14, 15] rfl ⟨(hS130.subR [0, 1, 2, 3, 4]).sub [0, 1, 2, 3, 4, 5] (by decide), hx137.symm⟩
       rintro ⟨y150, A133, c134, H135⟩ w147 ⟨hS148, hq149⟩
       subst hq149
       refine WX.blockN (WX.next ?_)
       refine WC.region ?_
       refine seg 3 [] [0, 1, 2, 7, 8, 10, 11, 12, 14, 15] [(0, (sv Aa p0 ca)), (1, (iv p1)), (2, (iv p2)), (7, (pt g5)), (8, (pt g8)), (10, (sv A16 t11 c17)), (11, (iv t26)), (12, (sv A133 x136 c134)), (14, (iv x76)), (15, (iv (w64 (x100 + 1))))] [] (fun fb => by kernel_rfl) rfl trivial ?_
       refine WL.done rfl ?_
       exact WX.again k106 (Nat.lt_succ_self _) ((x136, w64 (x100 + 1)), A133, c134, H135) [0, 1, 2, 7, 8, 10, 11, 12, 14, 15] rfl ⟨(hS148.subR [0, 1, 2, 3, 4]).sub [0, 1, 2, 3, 4, 5] (by decide), hl109⟩
      refine WC.condF2 (fun fb => by kernel_rfl) h110 ?_
      refine WC.exit ?_
      injection hl109 with hl109
      exact WX.thenX (WX.thenX (WX.blockHere (WX.to Kx104 (l98, A96, c97, H99) [0, 1, 2, 7, 8, 10, 11, 12, 14] rfl ⟨(hS108.subR [0, 1, 2, 3, 4]).sub [0, 1, 2, 3, 4, 5] (by decide), hl109.symm⟩)))
    rintro ⟨y154, A101, c102, H103⟩ w151 ⟨hS152, hq153⟩
    subst hq153
    refine WX.blockN (WX.next ?_)
    refine WC.region ?_
    refine seg 3 [] [0, 1, 2, 7, 8, 10, 11, 12, 14] [(0, (sv Aa p0 ca)), (1, (iv p1)), (2, (iv p2)), (7, (pt g5)), (8, (pt g8)), (10, (sv A16 t11 c17)), (11, (iv t26)), (12, (sv A101 x104 c102)), (14, (iv (w64 (x76 - 1))))] [] (fun fb => by kernel_rfl) rfl trivial ?_
    refine WL.done rfl ?_
    exact WX.again k82 (Nat.lt_succ_self _) ((x104, w64 (x76 - 1)), A101, c102, H103) [0, 1, 2, 7, 8, 10, 11, 12, 14] rfl ⟨(hS152.subR [0, 1, 2, 3, 4]).sub [0, 1, 2, 3, 4, 5] (by decide), hl85⟩
   refine WC.condF2 (fun fb => by kernel_rfl) h86 ?_
   refine WC.exit ?_
   injection hl85 with hl85
   exact WX.thenX (WX.thenX (WX.blockHere (WX.to Kx80 (l74, A72, c73, H75) [0, 1, 2, 7, 8, 10, 12] rfl ⟨(hS84.subR [0, 1, 2, 3, 4]).sub [0, 1, 2, 3, 4, 5] (by decide), hl85.symm⟩)))
 rintro ⟨y158, A77, c78, H79⟩ w155 ⟨hS156, hq157⟩
 subst hq157
 refine WX.next (WC.seq (WC.region ?_))
 refine seg 3 [] [0, 2, 7, 8, 10, 12, 101] [(0, (sv Aa p0 ca)), (2, (iv p2)), (7, (pt g5)), (8, (pt g8)), (10, (sv A16 t11 c17)), (12, (sv A77 x80 c78)), (101, (.agg #[(iv p1), (iv p2), (.slice none 0 0)]))] [] (fun fb => by kernel_rfl) rfl trivial ?_
 refine WL.new hS156 16 [] (fun g => (pt g)) (.cells #[(iv 0), (iv 0), (.slice none 0 0)] 27 (0, 0)) [] (fun fb g => by kernel_rfl) trivial (fun g159 w160 hS161 => ?_)
 refine ⟨trivial, ?_⟩
 refine WL.store hS161 0 rfl [(0, (iv p1)), (1, (iv p2)), (2, (.slice none 0 0))] #[(iv p1), (iv p2), (.slice none 0 0)] (fun fb => by kernel_rfl) (by kernel_rfl) rfl [1, 2, 3, 4, 5, 6] (by decide) (by decide) (fun w162 hS163 => ?_)
 refine ⟨trivial, ?_⟩
 refine WL.done rfl (WX.next (WC.seq (WC.region ?_)))
 refine seg 1 [] [0, 2, 7, 8, 10, 12, 16, 17] [(0, (sv Aa p0 ca)), (2, (iv p2)), (7, (pt g5)), (8, (pt g8)), (10, (sv A16 t11 c17)), (12, (sv A77 x80 c78)), (16, (pt g159)), (17, (iv (-1)))] [] (fun fb => by kernel_rfl) rfl trivial ?_
 refine WL.done rfl (WX.next (WC.seq (WC.seq (WC.region ?_))))
 refine seg 1 [] [0, 2, 7, 8, 10, 12, 16, 17, 18] [(0, (sv Aa p0 ca)), (2, (iv p2)), (7, (pt g5)), (8, (pt g8)), (10, (sv A16 t11 c17)), (12, (sv A77 x80 c78)), (16, (pt g159)), (17, (iv (-1))), (18, (iv 0))] [] (fun fb => by kernel_rfl) rfl trivial ?_
 refine WL.done rfl (WX.next ?_)
 have hS164 := hS163.nilrow 3 encInt
 obtain ⟨x172, hx173, hf⟩ := bind_some hf
 refine WC.cutN (T := (List Int) × (Option Addr) × Nat) (fun t => [(8, (pt g8)), (16, (pt g159))]) (fun t w1 => St NoS w w1 [rowR enc_Tile Aa ca p0, rowR encInt Ab cb p3.North, rowR encInt Ac cc p3.East, rowR encInt Ad cd p3.South, rowR encInt Ae ce p3.West] [blk g8 (.cells #[(iv 0), (iv 0), (.slice none 0 0)] 27 (0, 0)), blk g159 (.cells #[(iv p1), (iv p2), (sv t.2.1 t.1 t.2.2)] 27 (0, 0)), rowO 3 encInt t.2.1 t.2.2 t.1] ∧ x172 = .inr t.1) (fun Kx172 => ?_) ?_
 ·
  refine WC.block ?_
  refine WC.loop (T := ((List Int) × Int × Int) × (Option Addr) × Nat) (fun t => [(0, (sv Aa p0 ca)), (2, (iv p2)), (7, (pt g5)), (8, (pt g8)), (10, (sv A16 t11 c17)), (12, (sv A77 x80 c78)), (16, (pt g159)), (17, (iv t.1.2.1)), (18, (iv t.1.2.2))]) (fun n t w1 => St NoS w w1 [rowR enc_Tile Aa ca p0, rowR encInt Ab cb p3.North, rowR encInt Ac cc p3.East, rowR encInt Ad cd p3.South, rowR encInt Ae ce p3.West] [blk g5 (.cells #[(sv Ab p3.North cb), (sv Ac p3.East cc), (sv Ad p3.South cd), (sv Ae p3.West ce)] 44 (0, 0)), blk g8 (.cells #[(iv 0), (iv 0), (.slice none 0 0)] 27 (0, 0)), rowO 88 encN_Row_ref02 A16 c17 (tag H18 t11), poolO [nestO subN_Row_ref02 H18 t11], rowO 95 (encSl Bool) A77 c78 (tag H79 x80), rowsO 4 encBool H79 x80, blk g159 (.cells #[(iv p1), (iv p2), (sv t.2.1 t.1.1 t.2.2)] 27 (0, 0)), rowO 3 encInt t.2.1 t.2.2 t.1.1] ∧ ref02_First.l3 n t.1.1 t.1.2.1 t.1.2.2 p0 p2 p3 t11 x80 = some x172) k ((([] : List Int), (-1), 0), none, 0) [0, 2, 7, 8, 10, 12, 16, 17, 18] rfl ⟨(hS164.subR [0, 1, 2, 3, 4]).sub [2, 3, 4, 5, 6, 7, 1, 0] (by decide), hx173⟩ ?_
  rintro k174 ⟨⟨l167, x168, x169⟩, A165, c166⟩ w175 ⟨hS176, hl177⟩
  cases k174 with
  | zero => rw [ref02_First.l3] at hl177; cases hl177
  | succ k174 =>
   rw [ref02_First.l3] at hl177
   refine WC.seq (WC.seq (WC.region ?_))
   refine seg 3 [] [0, 2, 7, 8, 10, 12, 16, 17, 18, 104] [(0, (sv Aa p0 ca)), (2, (iv p2)), (7, (pt g5)), (8, (pt g8)), (10, (sv A16 t11 c17)), (12, (sv A77 x80 c78)), (16, (pt g159)), (17, (iv x168)), (18, (iv x169)), (104, (bv (decide (x169 < p2))))] [] (fun fb => by kernel_rfl) rfl trivial ?_
   refine WL.done rfl (WX.next ?_)
   rcases br_some hl177 with ⟨h178, hl177⟩ | ⟨h178, hl177⟩
   ·refine WC.condT2 (fun fb => by kernel_rfl) h178 ?_
    refine WC.skip (WX.next (WC.seq (WC.block (WC.seq (WC.region ?_)))))
    refine seg 1 [] [0, 2, 7, 8, 10, 12, 16, 17, 18, 19] [(0, (sv Aa p0 ca)), (2, (iv p2)), (7, (pt g5)), (8, (pt g8)), (10, (sv A16 t11 c17)), (12, (sv A77 x80 c78)), (16, (pt g159)), (17, (iv x168)), (18, (iv x169)), (19, (bv false))] [] (fun fb => by kernel_rfl) rfl trivial ?_
    refine WL.done rfl (WX.next (WC.seq (WC.seq (WC.region ?_))))
    refine seg 1 [] [0, 2, 7, 8, 10, 12, 16, 17, 18, 19, 20] [(0, (sv Aa p0 ca)), (2, (iv p2)), (7, (pt g5)), (8, (pt g8)), (10, (sv A16 t11 c17)), (12, (sv A77 x80 c78)), (16, (pt g159)), (17, (iv x168)), (18, (iv x169)), (19, (bv false)), (20, (iv 0))] [] (fun fb => by kernel_rfl) rfl trivial ?_
    refine WL.done rfl (WX.next ?_)
    obtain ⟨x187, hx188, hl177⟩ := bind_some hl177
    refine WC.cutN (T := ((List Int) × Int × Bool) × (Option Addr) × Nat) (fun t => [(0, (sv Aa p0 ca)), (2, (iv p2)), (7, (pt g5)), (8, (pt g8)), (10, (sv A16 t11 c17)), (12, (sv A77 x80 c78)), (16, (pt g159)), (17, (iv t.1.2.1)), (18, (iv x169)), (19, (bv t.1.2.2))]) (fun t w1 => St NoS w w1 [rowR enc_Tile Aa ca p0, rowR encInt Ab cb p3.North, rowR encInt Ac cc p3.East, rowR encInt Ad cd p3.South, rowR encInt Ae ce p3.West] [blk g5 (.cells #[(sv Ab p3.North cb), (sv Ac p3.East cc), (sv Ad p3.South cd), (sv Ae p3.West ce)] 44 (0, 0)), blk g8 (.cells #[(iv 0), (iv 0), (.slice none 0 0)] 27 (0, 0)), rowO 88 encN_Row_ref02 A16 c17 (tag H18 t11), poolO [nestO subN_Row_ref02 H18 t11], rowO 95 (encSl Bool) A77 c78 (tag H79 x80), rowsO 4 encBool H79 x80, blk g159 (.cells #[(iv p1), (iv p2), (sv t.2.1 t.1.1 t.2.2)] 27 (0, 0)), rowO 3 encInt t.2.1 t.2.2 t.1.1] ∧ x187 = t.1) (fun Kx187 => ?_) ?_
    ·
     refine WC.block ?_
     refine WC.loop (T := ((List Int) × Int × Bool × Int) × (Option Addr) × Nat) (fun t => [(0, (sv Aa p0 ca)), (2, (iv p2)), (7, (pt g5)), (8, (pt g8)), (10, (sv A16 t11 c17)), (12, (sv A77 x80 c78)), (16, (pt g159)), (17, (iv t.1.2.1)), (18, (iv x169)), (19, (bv t.1.2.2.1)), (20, (iv t.1.2.2.2))]) (fun n t w1 => St NoS w w1 [rowR enc_Tile Aa ca p0, rowR encInt Ab cb p3.North, rowR encInt Ac cc p3.East, rowR encInt Ad cd p3.South, rowR encInt Ae ce p3.West] [blk g5 (.cells #[(sv Ab p3.North cb), (sv Ac p3.East cc), (sv Ad p3.South cd), (sv Ae p3.West ce)] 44 (0, 0)), blk g8 (.cells #[(iv 0), (iv 0), (.slice none 0 0)] 27 (0, 0)), rowO 88 encN_Row_ref02 A16 c17 (tag H18 t11), poolO [nestO subN_Row_ref02 H18 t11], rowO 95 (encSl Bool) A77 c78 (tag H79 x80), rowsO 4 encBool H79 x80, blk g159 (.cells #[(iv p1), (iv p2), (sv t.2.1 t.1.1 t.2.2)] 27 (0, 0)), rowO 3 encInt t.2.1 t.2.2 t.1.1] ∧ ref02_First.l4 n t.1.1 t.1.2.1 t.1.2.2.1 t.1.2.2.2 p0 p2 p3 t11 x80 x169 = some x187) k174 ((l167, x168, false, 0), A165, c166) [0, 2, 7, 8, 10, 12, 16, 17, 18, 19, 20] rfl ⟨(hS176.subR [0, 1, 2, 3, 4]).sub [0, 1, 2, 3, 4, 5, 6, 7] (by decide), hx188⟩ ?_
     rintro k189 ⟨⟨l181, x182, b183, x184⟩, A179, c180⟩ w190 ⟨hS191, hl192⟩
     cases k189 with
     | zero => rw [ref02_First.l4] at hl192; cases hl192
     | succ k189 =>
      rw [ref02_First.l4] at hl192
      refine WC.seq (WC.seq (WC.region ?_))
      refine seg 5 [] [0, 2, 7, 8, 10, 12, 16, 17, 18, 19, 20, 111] [(0, (sv Aa p0 ca)), (2, (iv p2)), (7, (pt g5)), (8, (pt g8)), (10, (sv A16 t11 c17)), (12, (sv A77 x80 c78)), (16, (pt g159)), (17, (iv x182)), (18, (iv x169)), (19, (bv b183)), (20, (iv x184)), (111, (bv (decide (x184 < (t11.length : Int)))))] [] (fun fb => by kernel_rfl) rfl trivial ?_
      refine WL.cutV (T := Bool) 8 (fun t => [(114, (bv t)), (0, (sv Aa p0 ca)), (2, (iv p2)), (7, (pt g5)), (8, (pt g8)), (10, (sv A16 t11 c17)), (12, (sv A77 x80 c78)), (16, (pt g159)), (17, (iv x182)), (18, (iv x169)), (19, (bv b183)), (20, (iv x184))]) (fun t => ((decide (x184 < (t11.length : Int))) && (!b183)) = t) (fun K => ?_) ?_
      ·
       rcases Bool.eq_false_or_eq_true (decide (x184 < (t11.length : Int))) with h193 | h193
       ·
        refine WL.setB 111 h193 rfl ?_
        refine seg 8 [] [0, 2, 7, 8, 10, 12, 16, 17, 18, 19, 20, 114] [(0, (sv Aa p0 ca)), (2, (iv p2)), (7, (pt g5)), (8, (pt g8)), (10, (sv A16 t11 c17)), (12, (sv A77 x80 c78)), (16, (pt g159)), (17, (iv x182)), (18, (iv x169)), (19, (bv b183)), (20, (iv x184)), (114, (bv (!b183)))] [] (fun fb => by kernel_rfl) rfl trivial ?_
        exact WL.toV K (!b183) [114, 0, 2, 7, 8, 10, 12, 16, 17, 18, 19, 20] rfl (by first | (rw [h193]; done) | (rw [h193]; rfl))
       refine WL.setB 111 h193 rfl ?_
       refine seg 8 [] [0, 2, 7, 8, 10, 12, 16, 17, 18, 19, 20, 114] [(0, (sv Aa p0 ca)), (2, (iv p2)), (7, (pt g5)), (8, (pt g8)), (10, (sv A16 t11 c17)), (12, (sv A77 x80 c78)), (16, (pt g159)), (17, (iv x182)), (18, (iv x169)), (19, (bv b183)), (20, (iv x184)), (114, (bv false))] [] (fun fb => by kernel_rfl) rfl trivial ?_
       exact WL.toV K false [114, 0, 2, 7, 8, 10, 12, 16, 17, 18, 19, 20] rfl (by first | (rw [h193]; done) | (rw [h193]; rfl))
      rintro b194 rfl
      refine WL.done rfl (WX.next ?_)
      rcases br_some hl192 with ⟨h195, hl192⟩ | ⟨h195, hl192⟩
      ·refine WC.condT2 (fun fb => by kernel_rfl) h195 ?_
       refine WC.skip (WX.next (WC.seq (WC.block (WC.seq (WC.region ?_)))))
       refine seg 2 [] [0, 2, 7, 8, 10, 12, 16, 17, 18, 19, 20, 117, 118] [(0, (sv Aa p0 ca)), (2, (iv p2)), (7, (pt g5)), (8, (pt g8)), (10, (sv A16 t11 c17)), (12, (sv A77 x80 c78)), (16, (pt g159)), (17, (iv x182)), (18, (iv x169)), (19, (bv b183)), (20, (iv x184)), (117, (sv A16 t11 c17)), (118, (iv x184))] [] (fun fb => by kernel_rfl) rfl trivial ?_
       obtain ⟨h196, hl192⟩ := as_some hl192
       refine seg 4 [.v (sv ((H18 x184.toNat 0).1) ((rdD t11 x184 z_Row_ref02).Cells) ((H18 x184.toNat 0).2)), .v (iv ((rdD t11 x184 z_Row_ref02).South)), .v (iv ((rdD t11 x184 z_Row_ref02).North))] [0, 2, 7, 8, 10, 12, 16, 17, 18, 19, 20, 120] [(0, (sv Aa p0 ca)), (2, (iv p2)), (7, (pt g5)), (8, (pt g8)), (10, (sv A16 t11 c17)), (12, (sv A77 x80 c78)), (16, (pt g159)), (17, (iv x182)), (18, (iv x169)), (19, (bv b183)), (20, (iv x184)), (120, (.agg #[(sv ((H18 x184.toNat 0).1) ((rdD t11 x184 z_Row_ref02).Cells) ((H18 x184.toNat 0).2)), (iv ((rdD t11 x184 z_Row_ref02).South)), (iv ((rdD t11 x184 z_Row_ref02).North))]))] [.idx A16 x184 t11.length, .cell ((adr A16).add ((x184).toNat * 3)) (sv ((H18 x184.toNat 0).1) ((rdD t11 x184 z_Row_ref02).Cells) ((H18 x184.toNat 0).2)), .cell (((adr A16).add ((x184).toNat * 3)).add 1) (iv ((rdD t11 x184 z_Row_ref02).South)), .cell (((adr A16).add ((x184).toNat * 3)).add 2) (iv ((rdD t11 x184 z_Row_ref02).North))] (fun fb => by kernel_rfl) rfl ⟨nrow_adr (rowO.rd (hS191.own 2).1) h196.1 h196.2, nrow_cell (rowO.rd (hS191.own 2).1) z_Row_ref02 h196.1 h196.2 0 rfl, nrow_cell (rowO.rd (hS191.own 2).1) z_Row_ref02 h196.1 h196.2 1 rfl, nrow_cell (rowO.rd (hS191.own 2).1) z_Row_ref02 h196.1 h196.2 2 rfl, trivial⟩ ?_
       refine WL.new hS191 21 [] (fun g => (pt g)) (.cells #[(.slice none 0 0), (iv 0), (iv 0)] 88 (0, 0)) [] (fun fb g => by kernel_rfl) trivial (fun g197 w198 hS199 => ?_)
       refine ⟨trivial, ?_⟩
       refine WL.store hS199 0 rfl [(0, (sv ((H18 x184.toNat 0).1) ((rdD t11 x184 z_Row_ref02).Cells) ((H18 x184.toNat 0).2))), (1, (iv ((rdD t11 x184 z_Row_ref02).South))), (2, (iv ((rdD t11 x184 z_Row_ref02).North)))] #[(sv ((H18 x184.toNat 0).1) ((rdD t11 x184 z_Row_ref02).Cells) ((H18 x184.toNat 0).2)), (iv ((rdD t11 x184 z_Row_ref02).South)), (iv ((rdD t11 x184 z_Row_ref02).North))] (fun fb => by kernel_rfl) (by kernel_rfl) rfl [1, 2, 3, 4, 5, 6, 7, 8] (by decide) (by decide) (fun w200 hS201 => ?_)
       refine ⟨trivial, ?_⟩
       refine WL.done rfl (WX.next (WC.seq ?_))
       obtain ⟨x202, hx203, hl192⟩ := bind_some hl192
       refine WC.cutN (T := Bool) (fun t => [(0, (sv Aa p0 ca)), (2, (iv p2)), (7, (pt g5)), (8, (pt g8)), (10, (sv A16 t11 c17)), (12, (sv A77 x80 c78)), (16, (pt g159)), (17, (iv x182)), (18, (iv x169)), (19, (bv b183)), (20, (iv x184)), (21, (pt g197)), (147, (bv t))]) (fun t w1 => St NoS w w1 [rowR enc_Tile Aa ca p0, rowR encInt Ab cb p3.North, rowR encInt Ac cc p3.East, rowR encInt Ad cd p3.South, rowR encInt Ae ce p3.West] [blk g5 (.cells #[(sv Ab p3.North cb), (sv Ac p3.East cc), (sv Ad p3.South cd), (sv Ae p3.West ce)] 44 (0, 0)), blk g8 (.cells #[(iv 0), (iv 0), (.slice none 0 0)] 27 (0, 0)), rowO 88 encN_Row_ref02 A16 c17 (tag H18 t11), poolO [nestO subN_Row_ref02 H18 t11], rowO 95 (encSl Bool) A77 c78 (tag H79 x80), rowsO 4 encBool H79 x80, blk g159 (.cells #[(iv p1), (iv p2), (sv A179 l181 c180)] 27 (0, 0)), rowO 3 encInt A179 c180 l181, blk g197 (.cells #[(sv ((H18 x184.toNat 0).1) ((rdD t11 x184 z_Row_ref02).Cells) ((H18 x184.toNat 0).2)), (iv ((rdD t11 x184 z_Row_ref02).South)), (iv ((rdD t11 x184 z_Row_ref02).North))] 88 (0, 0))] ∧ x202 = t) (fun Kx202 => ?_) ?_
       ·
        rcases br_some hx203 with ⟨h204, hx203⟩ | ⟨h204, hx203⟩
        ·
         rcases br_some hx203 with ⟨h205, hx203⟩ | ⟨h205, hx203⟩
         ·
          obtain ⟨h208, hx203⟩ := as_some hx203
          obtain ⟨h209, hx203⟩ := as_some hx203
          refine WC.regionD ([(13, ((adr A77).add ((w64 (x169 + 1)).toNat * 1)), (sv ((H79 (w64 (x169 + 1)).toNat).1) (rdD x80 (w64 (x169 + 1)) []) ((H79 (w64 (x169 + 1)).toNat).2))), (15, ⟨g197, 2, none⟩, (iv ((rdD t11 x184 z_Row_ref02).North))), (17, ((adr ((H79 (w64 (x169 + 1)).toNat).1)).add (((rdD t11 x184 z_Row_ref02).North).toNat * 1)), (bv (rdD (rdD x80 (w64 (x169 + 1)) []) ((rdD t11 x184 z_Row_ref02).North) false))), (21, ⟨g197, 0, none⟩, (sv ((H18 x184.toNat 0).1) ((rdD t11 x184 z_Row_ref02).Cells) ((H18 x184.toNat 0).2))), (21, ⟨g197, 1, none⟩, (iv ((rdD t11 x184 z_Row_ref02).South))), (21, ⟨g197, 2, none⟩, (iv ((rdD t11 x184 z_Row_ref02).North))), (24, ⟨g5, 0, none⟩, (sv Ab p3.North cb)), (24, ⟨g5, 1, none⟩, (sv Ac p3.East cc)), (24, ⟨g5, 2, none⟩, (sv Ad p3.South cd)), (24, ⟨g5, 3, none⟩, (sv Ae p3.West ce))], [0, 1, 2, 3, 4, 5, 6, 7, 8, 9, 10, 11, 12, 13, 14, 15, 16, 17, 18, 19, 20, 21, 22, 23, 24, 26], [[], [0], [0, 1], [0, 1, 2], [0, 1, 2, 3], [0, 1, 2], [0, 1, 2, 3, 4, 5], [0, 1, 2, 3, 4, 5, 6], [0, 1, 2, 3, 4, 5, 6, 7], [0, 1, 2, 3, 4, 5, 6, 7, 8], [0, 1, 2, 3, 4, 5, 6, 7, 8], [0, 1, 2, 3, 4, 5, 6, 7, 8, 10], [0, 1, 2, 3, 4, 5, 6, 7, 8, 9, 10, 11], [0, 1, 2, 3, 4, 5, 6, 7, 8, 9, 10, 11, 12], [0, 1, 2, 3, 4, 5, 6, 7, 8], [0, 1, 2, 3, 4, 5, 6, 7, 8, 14], [0, 1, 2, 3, 4, 5, 6, 7, 8, 9, 10, 11, 12, 13, 14, 15], [0, 1, 2, 3, 4, 5, 6, 7, 8, 9, 10, 11, 12, 13, 14, 15, 16], [0, 1, 2, 3, 4, 5, 6, 7, 8, 9, 10, 11, 12, 13, 14, 15, 16, 17], [0, 1, 2, 3, 4, 5, 6, 7, 8, 9, 10, 11, 12, 13, 14, 15, 16, 17, 18], [0, 1, 2, 3, 4, 5, 6, 7, 8, 9, 10, 11, 12, 13, 14, 15, 16, 17, 18, 19], [0, 1, 2, 3, 4, 5, 6, 7, 8, 9, 10, 11, 12, 13, 14, 15, 16, 17, 18, 19], [0, 1, 2, 3, 4, 5, 6, 7, 8, 9, 10, 11, 12, 13, 14, 15, 16, 17, 18, 19], [0, 1, 2, 3, 4, 5, 6, 7, 8, 9, 10, 11, 12, 13, 14, 15, 16, 17, 18, 19], [0, 1, 2, 3, 4, 5, 6, 7, 8, 9, 10, 11, 12, 13, 14, 15, 16, 17, 18, 19], [0, 1, 2, 3, 4, 5, 6, 7, 8, 9, 10, 11, 12, 13, 14, 15, 16, 17, 18, 19, 20, 21, 22, 23, 24], [0, 1, 2, 3, 4, 5, 6, 7, 8, 9, 10, 11, 12, 13, 14, 15, 16, 17, 18, 19, 20, 21, 22, 23, 24, 25]]) [[0, 1, 2, 3, 4, 5, 6, 7, 8, 9, 10, 11, 12, 13, 14, 15, 16, 17, 18, 19, 20, 21, 22, 23, 24, 25, 26]] (by kernel_rfl) (by kernel_rfl) (NoPanic.seq (NoPanic.block (NoPanic.seq (NoPanic.seq (NoPanic.block (NoPanic.seq (NoPanic.block (NoPanic.seq (NoPanic.seq (NoPanic.block (NoPanic.seq (NoPanic.body)))))))))))) ?_
          have hS207 := hS201.drew
          revert hS207
          generalize World.drew w200 = w206
          intro hS207
          refine ⟨⟨nrow_cell (rowO.rd (hS207.own 5).1) [] h208.1 h208.2 0 rfl, hS207.cell 0 rfl 2 rfl, rowR.cell (rowO.rd (rowsO.at (hS207.own 6).1 h208.1 h208.2)) false h209.1 h209.2 0 rfl, hS207.cell 0 rfl 0 rfl, hS207.cell 0 rfl 1 rfl, hS207.cell 0 rfl 2 rfl, hS207.cell 1 rfl 0 rfl, hS207.cell 1 rfl 1 rfl, hS207.cell 1 rfl 2 rfl, hS207.cell 1 rfl 3 rfl, trivial⟩, forallC ?_ (forallN)⟩
          refine seg 3 [] [0, 2, 7, 8, 10, 12, 16, 17, 18, 19, 20, 21, 123] [(0, (sv Aa p0 ca)), (2, (iv p2)), (7, (pt g5)), (8, (pt g8)), (10, (sv A16 t11 c17)), (12, (sv A77 x80 c78)), (16, (pt g159)), (17, (iv x182)), (18, (iv x169)), (19, (bv b183)), (20, (iv x184)), (21, (pt g197)), (123, (bv (x169 == 0)))] [] (fun fb => by kernel_rfl) rfl trivial ?_
          refine WL.setB 123 h204 rfl ?_
          refine segF 20 [.v (sv ((H79 (w64 (x169 + 1)).toNat).1) (rdD x80 (w64 (x169 + 1)) []) ((H79 (w64 (x169 + 1)).toNat).2)), .v (iv ((rdD t11 x184 z_Row_ref02).North)), .v (bv (rdD (rdD x80 (w64 (x169 + 1)) []) ((rdD t11 x184 z_Row_ref02).North) false))] [0, 2, 7, 8, 10, 12, 16, 17, 18, 19, 20, 21, 140] [(0, (sv Aa p0 ca)), (2, (iv p2)), (7, (pt g5)), (8, (pt g8)), (10, (sv A16 t11 c17)), (12, (sv A77 x80 c78)), (16, (pt g159)), (17, (iv x182)), (18, (iv x169)), (19, (bv b183)), (20, (iv x184)), (21, (pt g197)), (140, (bv (rdD (rdD x80 (w64 (x169 + 1)) []) ((rdD t11 x184 z_Row_ref02).North) false)))] [.idx A77 (w64 (x169 + 1)) x80.length, .idx ((H79 (w64 (x169 + 1)).toNat).1) ((rdD t11 x184 z_Row_ref02).North) (rdD x80 (w64 (x169 + 1)) []).length] [0, 1, 2] [(13, ((adr A77).add ((w64 (x169 + 1)).toNat * 1)), (sv ((H79 (w64 (x169 + 1)).toNat).1) (rdD x80 (w64 (x169 + 1)) []) ((H79 (w64 (x169 + 1)).toNat).2))), (15, ⟨g197, 2, none⟩, (iv ((rdD t11 x184 z_Row_ref02).North))), (17, ((adr ((H79 (w64 (x169 + 1)).toNat).1)).add (((rdD t11 x184 z_Row_ref02).North).toNat * 1)), (bv (rdD (rdD x80 (w64 (x169 + 1)) []) ((rdD t11 x184 z_Row_ref02).North) false)))] (fun fb => by kernel_rfl) rfl ⟨nrow_adr (rowO.rd (hS207.own 5).1) h208.1 h208.2, rowR.adr (rowO.rd (rowsO.at (hS207.own 6).1 h208.1 h208.2)) h209.1 h209.2, trivial⟩ rfl ?_
          refine WL.setB 140 h205 rfl ?_
          refine segF 25 [.v (sv ((H18 x184.toNat 0).1) ((rdD t11 x184 z_Row_ref02).Cells) ((H18 x184.toNat 0).2)), .v (iv ((rdD t11 x184 z_Row_ref02).South)), .v (iv ((rdD t11 x184 z_Row_ref02).North)), .v (sv Ab p3.North cb), .v (sv Ac p3.East cc), .v (sv Ad p3.South cd), .v (sv Ae p3.West ce)] [0, 2, 7, 8, 10, 12, 16, 17, 18, 19, 20, 21, 140, 141, 142, 143, 144, 145] [(0, (sv Aa p0 ca)), (2, (iv p2)), (7, (pt g5)), (8, (pt g8)), (10, (sv A16 t11 c17)), (12, (sv A77 x80 c78)), (16, (pt g159)), (17, (iv x182)), (18, (iv x169)), (19, (bv b183)), (20, (iv x184)), (21, (pt g197)), (140, (bv true)), (141, (sv Aa p0 ca)), (142, (.agg #[(sv ((H18 x184.toNat 0).1) ((rdD t11 x184 z_Row_ref02).Cells) ((H18 x184.toNat 0).2)), (iv ((rdD t11 x184 z_Row_ref02).South)), (iv ((rdD t11 x184 z_Row_ref02).North))])), (143, (iv x169)), (144, (iv p2)), (145, (.agg #[(sv Ab p3.North cb), (sv Ac p3.East cc), (sv Ad p3.South cd), (sv Ae p3.West ce)]))] [] [3, 4, 5, 6, 7, 8, 9] [(21, ⟨g197, 0, none⟩, (sv ((H18 x184.toNat 0).1) ((rdD t11 x184 z_Row_ref02).Cells) ((H18 x184.toNat 0).2))), (21, ⟨g197, 1, none⟩, (iv ((rdD t11 x184 z_Row_ref02).South))), (21, ⟨g197, 2, none⟩, (iv ((rdD t11 x184 z_Row_ref02).North))), (24, ⟨g5, 0, none⟩, (sv Ab p3.North cb)), (24, ⟨g5, 1, none⟩, (sv Ac p3.East cc)), (24, ⟨g5, 2, none⟩, (sv Ad p3.South cd)), (24, ⟨g5, 3, none⟩, (sv Ae p3.West ce))] (fun fb => by kernel_rfl) rfl trivial rfl ?_
          obtain ⟨t210, ht211, hx203⟩ := bind_some hx203
          refine WL.call (some 146) 63 #[(sv Aa p0 ca), (.agg #[(sv ((H18 x184.toNat 0).1) ((rdD t11 x184 z_Row_ref02).Cells) ((H18 x184.toNat 0).2)), (iv ((rdD t11 x184 z_Row_ref02).South)), (iv ((rdD t11 x184 z_Row_ref02).North))]), (iv x169), (iv p2), (.agg #[(sv Ab p3.North cb), (sv Ac p3.East cc), (sv Ad p3.South cd), (sv Ae p3.West ce)])] (fun fb => by kernel_rfl) (ref02_fits_calls _ p0 (rdD t11 x184 z_Row_ref02) x169 p2 p3 Aa ca ((H18 x184.toNat 0).1) ((H18 x184.toNat 0).2) Ab cb Ac cc Ad cd Ae ce t210 _ (hS207.rd 0) (nestO.ro (poolO.ro (hS207.ow 4) 0) z_Row_ref02 h196.1 h196.2) (hS207.rd 1) (hS207.rd 2) (hS207.rd 3) (hS207.rd 4) ht211) (fun v w212 hR213 => ?_)
          obtain ⟨rfl, hk_⟩ := hR213
          have hS214 := hS207.keepN hk_
          refine ⟨trivial, ?_⟩
          refine seg 27 [] [0, 2, 7, 8, 10, 12, 16, 17, 18, 19, 20, 21, 147] [(0, (sv Aa p0 ca)), (2, (iv p2)), (7, (pt g5)), (8, (pt g8)), (10, (sv A16 t11 c17)), (12, (sv A77 x80 c78)), (16, (pt g159)), (17, (iv x182)), (18, (iv x169)), (19, (bv b183)), (20, (iv x184)), (21, (pt g197)), (147, (bv t210))] [] (fun fb => by kernel_rfl) rfl trivial ?_
          refine WL.done rfl ?_
          injection hx203 with hx203
          exact WX.to Kx202 t210 [0, 2, 7, 8, 10, 12, 16, 17, 18, 19, 20, 21, 147] rfl ⟨(hS214.subR [0, 1, 2, 3, 4]).sub [1, 2, 3, 4, 5, 6, 7, 8, 0] (by decide), hx203.symm⟩
         obtain ⟨h217, hx203⟩ := as_some hx203
         obtain ⟨h218, hx203⟩ := as_some hx203
         refine WC.regionD ([(13, ((adr A77).add ((w64 (x169 + 1)).toNat * 1)), (sv ((H79 (w64 (x169 + 1)).toNat).1) (rdD x80 (w64 (x169 + 1)) []) ((H79 (w64 (x169 + 1)).toNat).2))), (15, ⟨g197, 2, none⟩, (iv ((rdD t11 x184 z_Row_ref02).North))), (17, ((adr ((H79 (w64 (x169 + 1)).toNat).1)).add (((rdD t11 x184 z_Row_ref02).North).toNat * 1)), (bv (rdD (rdD x80 (w64 (x169 + 1)) []) ((rdD t11 x184 z_Row_ref02).North) false)))], [0, 1, 2, 3, 4, 5, 6, 7, 8, 9, 10, 11, 12, 13, 14, 15, 16, 17, 18, 19, 20, 21, 22, 23, 24, 26], [[], [0], [0, 1], [0, 1, 2], [0, 1, 2, 3], [0, 1, 2], [0, 1, 2, 3, 4, 5], [0, 1, 2, 3, 4, 5, 6], [0, 1, 2, 3, 4, 5, 6, 7], [0, 1, 2, 3, 4, 5, 6, 7, 8], [0, 1, 2, 3, 4, 5, 6, 7, 8], [0, 1, 2, 3, 4, 5, 6, 7, 8, 10], [0, 1, 2, 3, 4, 5, 6, 7, 8, 9, 10, 11], [0, 1, 2, 3, 4, 5, 6, 7, 8, 9, 10, 11, 12], [0, 1, 2, 3, 4, 5, 6, 7, 8], [0, 1, 2, 3, 4, 5, 6, 7, 8, 14], [0, 1, 2, 3, 4, 5, 6, 7, 8, 9, 10, 11, 12, 13, 14, 15], [0, 1, 2, 3, 4, 5, 6, 7, 8, 9, 10, 11, 12, 13, 14, 15, 16], [0, 1, 2, 3, 4, 5, 6, 7, 8, 9, 10, 11, 12, 13, 14, 15, 16, 17], [0, 1, 2, 3, 4, 5, 6, 7, 8, 9, 10, 11, 12, 13, 14, 15, 16, 17, 18], [0, 1, 2, 3, 4, 5, 6, 7, 8, 9, 10, 11, 12, 13, 14, 15, 16, 17, 18, 19], [0, 1, 2, 3, 4, 5, 6, 7, 8, 9, 10, 11, 12, 13, 14, 15, 16, 17, 18, 19], [0, 1, 2, 3, 4, 5, 6, 7, 8, 9, 10, 11, 12, 13, 14, 15, 16, 17, 18, 19], [0, 1, 2, 3, 4, 5, 6, 7, 8, 9, 10, 11, 12, 13, 14, 15, 16, 17, 18, 19], [0, 1, 2, 3, 4, 5, 6, 7, 8, 9, 10, 11, 12, 13, 14, 15, 16, 17, 18, 19], [0, 1, 2, 3, 4, 5, 6, 7, 8, 9, 10, 11, 12, 13, 14, 15, 16, 17, 18, 19, 20, 21, 22, 23, 24], [0, 1, 2, 3, 4, 5, 6, 7, 8, 9, 10, 11, 12, 13, 14, 15, 16, 17, 18, 19, 20, 21, 22, 23, 24, 25]]) [[0, 1, 2, 3, 4, 5, 6, 7, 8, 9, 10, 11, 12, 13, 14, 15, 16, 17, 18, 19, 20, 21, 22, 23, 24, 25, 26]] (by kernel_rfl) (by kernel_rfl) (NoPanic.seq (NoPanic.block (NoPanic.seq (NoPanic.seq (NoPanic.block (NoPanic.seq (NoPanic.block (NoPanic.seq (NoPanic.seq (NoPanic.block (NoPanic.seq (NoPanic.body)))))))))))) ?_
         have hS216 := hS201.drew
         revert hS216
         generalize World.drew w200 = w215
         intro hS216
         refine ⟨⟨nrow_cell (rowO.rd (hS216.own 5).1) [] h217.1 h217.2 0 rfl, hS216.cell 0 rfl 2 rfl, rowR.cell (rowO.rd (rowsO.at (hS216.own 6).1 h217.1 h217.2)) false h218.1 h218.2 0 rfl, trivial⟩, forallC ?_ (forallN)⟩
         refine seg 3 [] [0, 2, 7, 8, 10, 12, 16, 17, 18, 19, 20, 21, 123] [(0, (sv Aa p0 ca)), (2, (iv p2)), (7, (pt g5)), (8, (pt g8)), (10, (sv A16 t11 c17)), (12, (sv A77 x80 c78)), (16, (pt g159)), (17, (iv x182)), (18, (iv x169)), (19, (bv b183)), (20, (iv x184)), (21, (pt g197)), (123, (bv (x169 == 0)))] [] (fun fb => by kernel_rfl) rfl trivial ?_
         refine WL.setB 123 h204 rfl ?_
         refine segF 20 [.v (sv ((H79 (w64 (x169 + 1)).toNat).1) (rdD x80 (w64 (x169 + 1)) []) ((H79 (w64 (x169 + 1)).toNat).2)), .v (iv ((rdD t11 x184 z_Row_ref02).North)), .v (bv (rdD (rdD x80 (w64 (x169 + 1)) []) ((rdD t11 x184 z_Row_ref02).North) false))] [0, 2, 7, 8, 10, 12, 16, 17, 18, 19, 20, 21, 140] [(0, (sv Aa p0 ca)), (2, (iv p2)), (7, (pt g5)), (8, (pt g8)), (10, (sv A16 t11 c17)), (12, (sv A77 x80 c78)), (16, (pt g159)), (17, (iv x182)), (18, (iv x169)), (19, (bv b183)), (20, (iv x184)), (21, (pt g197)), (140, (bv (rdD (rdD x80 (w64 (x169 + 1)) []) ((rdD t11 x184 z_Row_ref02).North) false)))] [.idx A77 (w64 (x169 + 1)) x80.length, .idx ((H79 (w64 (x169 + 1)).toNat).1) ((rdD t11 x184 z_Row_ref02).North) (rdD x80 (w64 (x169 + 1)) []).length] [0, 1, 2] [(13, ((adr A77).add ((w64 (x169 + 1)).toNat * 1)), (sv ((H79 (w64 (x169 + 1)).toNat).1) (rdD x80 (w64 (x169 + 1)) []) ((H79 (w64 (x169 + 1)).toNat).2))), (15, ⟨g197, 2, none⟩, (iv ((rdD t11 x184 z_Row_ref02).North))), (17, ((adr ((H79 (w64 (x169 + 1)).toNat).1)).add (((rdD t11 x184 z_Row_ref02).North).toNat * 1)), (bv (rdD (rdD x80 (w64 (x169 + 1)) []) ((rdD t11 x184 z_Row_ref02).North) false)))] (fun fb => by kernel_rfl) rfl ⟨nrow_adr (rowO.rd (hS216.own 5).1) h217.1 h217.2, rowR.adr (rowO.rd (rowsO.at (hS216.own 6).1 h217.1 h217.2)) h218.1 h218.2, trivial⟩ rfl ?_
         refine WL.setB 140 h205 rfl ?_
         refine seg 27 [] [0, 2, 7, 8, 10, 12, 16, 17, 18, 19, 20, 21, 147] [(0, (sv Aa p0 ca)), (2, (iv p2)), (7, (pt g5)), (8, (pt g8)), (10, (sv A16 t11 c17)), (12, (sv A77 x80 c78)), (16, (pt g159)), (17, (iv x182)), (18, (iv x169)), (19, (bv b183)), (20, (iv x184)), (21, (pt g197)), (147, (bv false))] [] (fun fb => by kernel_rfl) rfl trivial ?_
         refine WL.done rfl ?_
         injection hx203 with hx203
         exact WX.to Kx202 false [0, 2, 7, 8, 10, 12, 16, 17, 18, 19, 20, 21, 147] rfl ⟨(hS216.subR [0, 1, 2, 3, 4]).sub [1, 2, 3, 4, 5, 6, 7, 8, 0] (by decide), hx203.symm⟩
        rcases br_some hx203 with ⟨h219, hx203⟩ | ⟨h219, hx203⟩
        ·
         rcases br_some hx203 with ⟨h220, hx203⟩ | ⟨h220, hx203⟩
         ·
          obtain ⟨h223, hx203⟩ := as_some hx203
          obtain ⟨h224, hx203⟩ := as_some hx203
          refine WC.regionD ([(4, ⟨g197, 1, none⟩, (iv ((rdD t11 x184 z_Row_ref02).South))), (13, ((adr A77).add ((w64 (x169 + 1)).toNat * 1)), (sv ((H79 (w64 (x169 + 1)).toNat).1) (rdD x80 (w64 (x169 + 1)) []) ((H79 (w64 (x169 + 1)).toNat).2))), (15, ⟨g197, 2, none⟩, (iv ((rdD t11 x184 z_Row_ref02).North))), (17, ((adr ((H79 (w64 (x169 + 1)).toNat).1)).add (((rdD t11 x184 z_Row_ref02).North).toNat * 1)), (bv (rdD (rdD x80 (w64 (x169 + 1)) []) ((rdD t11 x184 z_Row_ref02).North) false))), (21, ⟨g197, 0, none⟩, (sv ((H18 x184.toNat 0).1) ((rdD t11 x184 z_Row_ref02).Cells) ((H18 x184.toNat 0).2))), (21, ⟨g197, 1, none⟩, (iv ((rdD t11 x184 z_Row_ref02).South))), (21, ⟨g197, 2, none⟩, (iv ((rdD t11 x184 z_Row_ref02).North))), (24, ⟨g5, 0, none⟩, (sv Ab p3.North cb)), (24, ⟨g5, 1, none⟩, (sv Ac p3.East cc)), (24, ⟨g5, 2, none⟩, (sv Ad p3.South cd)), (24, ⟨g5, 3, none⟩, (sv Ae p3.West ce))], [0, 1, 2, 3, 4, 5, 6, 7, 8, 9, 10, 11, 12, 13, 14, 15, 16, 17, 18, 19, 20, 21, 22, 23, 24, 26], [[], [0], [0, 1], [0, 1, 2], [0, 1, 2, 3], [0, 1, 2], [0, 1, 2, 3, 4, 5], [0, 1, 2, 3, 4, 5, 6], [0, 1, 2, 3, 4, 5, 6, 7], [0, 1, 2, 3, 4, 5, 6, 7, 8], [0, 1, 2, 3, 4, 5, 6, 7, 8], [0, 1, 2, 3, 4, 5, 6, 7, 8, 10], [0, 1, 2, 3, 4, 5, 6, 7, 8, 9, 10, 11], [0, 1, 2, 3, 4, 5, 6, 7, 8, 9, 10, 11, 12], [0, 1, 2, 3, 4, 5, 6, 7, 8], [0, 1, 2, 3, 4, 5, 6, 7, 8, 14], [0, 1, 2, 3, 4, 5, 6, 7, 8, 9, 10, 11, 12, 13, 14, 15], [0, 1, 2, 3, 4, 5, 6, 7, 8, 9, 10, 11, 12, 13, 14, 15, 16], [0, 1, 2, 3, 4, 5, 6, 7, 8, 9, 10, 11, 12, 13, 14, 15, 16, 17], [0, 1, 2, 3, 4, 5, 6, 7, 8, 9, 10, 11, 12, 13, 14, 15, 16, 17, 18], [0, 1, 2, 3, 4, 5, 6, 7, 8, 9, 10, 11, 12, 13, 14, 15, 16, 17, 18, 19], [0, 1, 2, 3, 4, 5, 6, 7, 8, 9, 10, 11, 12, 13, 14, 15, 16, 17, 18, 19], [0, 1, 2, 3, 4, 5, 6, 7, 8, 9, 10, 11, 12, 13, 14, 15, 16, 17, 18, 19], [0, 1, 2, 3, 4, 5, 6, 7, 8, 9, 10, 11, 12, 13, 14, 15, 16, 17, 18, 19], [0, 1, 2, 3, 4, 5, 6, 7, 8, 9, 10, 11, 12, 13, 14, 15, 16, 17, 18, 19], [0, 1, 2, 3, 4, 5, 6, 7, 8, 9, 10, 11, 12, 13, 14, 15, 16, 17, 18, 19, 20, 21, 22, 23, 24], [0, 1, 2, 3, 4, 5, 6, 7, 8, 9, 10, 11, 12, 13, 14, 15, 16, 17, 18, 19, 20, 21, 22, 23, 24, 25]]) [[0, 1, 2, 3, 4, 5, 6, 7, 8, 9, 10, 11, 12, 13, 14, 15, 16, 17, 18, 19, 20, 21, 22, 23, 24, 25, 26]] (by kernel_rfl) (by kernel_rfl) (NoPanic.seq (NoPanic.block (NoPanic.seq (NoPanic.seq (NoPanic.block (NoPanic.seq (NoPanic.block (NoPanic.seq (NoPanic.seq (NoPanic.block (NoPanic.seq (NoPanic.body)))))))))))) ?_
          have hS222 := hS201.drew
          revert hS222
          generalize World.drew w200 = w221
          intro hS222
          refine ⟨⟨hS222.cell 0 rfl 1 rfl, nrow_cell (rowO.rd (hS222.own 5).1) [] h223.1 h223.2 0 rfl, hS222.cell 0 rfl 2 rfl, rowR.cell (rowO.rd (rowsO.at (hS222.own 6).1 h223.1 h223.2)) false h224.1 h224.2 0 rfl, hS222.cell 0 rfl 0 rfl, hS222.cell 0 rfl 1 rfl, hS222.cell 0 rfl 2 rfl, hS222.cell 1 rfl 0 rfl, hS222.cell 1 rfl 1 rfl, hS222.cell 1 rfl 2 rfl, hS222.cell 1 rfl 3 rfl, trivial⟩, forallC ?_ (forallN)⟩
          refine seg 3 [] [0, 2, 7, 8, 10, 12, 16, 17, 18, 19, 20, 21, 123] [(0, (sv Aa p0 ca)), (2, (iv p2)), (7, (pt g5)), (8, (pt g8)), (10, (sv A16 t11 c17)), (12, (sv A77 x80 c78)), (16, (pt g159)), (17, (iv x182)), (18, (iv x169)), (19, (bv b183)), (20, (iv x184)), (21, (pt g197)), (123, (bv (x169 == 0)))] [] (fun fb => by kernel_rfl) rfl trivial ?_
          refine WL.setB 123 h204 rfl ?_
          refine segF 9 [.v (iv ((rdD t11 x184 z_Row_ref02).South))] [0, 2, 7, 8, 10, 12, 16, 17, 18, 19, 20, 21, 129] [(0, (sv Aa p0 ca)), (2, (iv p2)), (7, (pt g5)), (8, (pt g8)), (10, (sv A16 t11 c17)), (12, (sv A77 x80 c78)), (16, (pt g159)), (17, (iv x182)), (18, (iv x169)), (19, (bv b183)), (20, (iv x184)), (21, (pt g197)), (129, (bv (((rdD t11 x184 z_Row_ref02).South) == x182)))] [] [0] [(4, ⟨g197, 1, none⟩, (iv ((rdD t11 x184 z_Row_ref02).South)))] (fun fb => by kernel_rfl) rfl trivial rfl ?_
          refine WL.setB 129 h219 rfl ?_
          refine segF 20 [.v (sv ((H79 (w64 (x169 + 1)).toNat).1) (rdD x80 (w64 (x169 + 1)) []) ((H79 (w64 (x169 + 1)).toNat).2)), .v (iv ((rdD t11 x184 z_Row_ref02).North)), .v (bv (rdD (rdD x80 (w64 (x169 + 1)) []) ((rdD t11 x184 z_Row_ref02).North) false))] [0, 2, 7, 8, 10, 12, 16, 17, 18, 19, 20, 21, 140] [(0, (sv Aa p0 ca)), (2, (iv p2)), (7, (pt g5)), (8, (pt g8)), (10, (sv A16 t11 c17)), (12, (sv A77 x80 c78)), (16, (pt g159)), (17, (iv x182)), (18, (iv x169)), (19, (bv b183)), (20, (iv x184)), (21, (pt g197)), (140, (bv (rdD (rdD x80 (w64 (x169 + 1)) []) ((rdD t11 x184 z_Row_ref02).North) false)))] [.idx A77 (w64 (x169 + 1)) x80.length, .idx ((H79 (w64 (x169 + 1)).toNat).1) ((rdD t11 x184 z_Row_ref02).North) (rdD x80 (w64 (x169 + 1)) []).length] [1, 2, 3] [(13, ((adr A77).add ((w64 (x169 + 1)).toNat * 1)), (sv ((H79 (w64 (x169 + 1)).toNat).1) (rdD x80 (w64 (x169 + 1)) []) ((H79 (w64 (x169 + 1)).toNat).2))), (15, ⟨g197, 2, none⟩, (iv ((rdD t11 x184 z_Row_ref02).North))), (17, ((adr ((H79 (w64 (x169 + 1)).toNat).1)).add (((rdD t11 x184 z_Row_ref02).North).toNat * 1)), (bv (rdD (rdD x80 (w64 (x169 + 1)) []) ((rdD t11 x184 z_Row_ref02).North) false)))] (fun fb => by kernel_rfl) rfl ⟨nrow_adr (rowO.rd (hS222.own 5).1) h223.1 h223.2, rowR.adr (rowO.rd (rowsO.at (hS222.own 6).1 h223.1 h223.2)) h224.1 h224.2, trivial⟩ rfl ?_
          refine WL.setB 140 h220 rfl ?_
          refine segF 25 [.v (sv ((H18 x184.toNat 0).1) ((rdD t11 x184 z_Row_ref02).Cells) ((H18 x184.toNat 0).2)), .v (iv ((rdD t11 x184 z_Row_ref02).South)), .v (iv ((rdD t11 x184 z_Row_ref02).North)), .v (sv Ab p3.North cb), .v (sv Ac p3.East cc), .v (sv Ad p3.South cd), .v (sv Ae p3.West ce)] [0, 2, 7, 8, 10, 12, 16, 17, 18, 19, 20, 21, 140, 141, 142, 143, 144, 145] [(0, (sv Aa p0 ca)), (2, (iv p2)), (7, (pt g5)), (8, (pt g8)), (10, (sv A16 t11 c17)), (12, (sv A77 x80 c78)), (16, (pt g159)), (17, (iv x182)), (18, (iv x169)), (19, (bv b183)), (20, (iv x184)), (21, (pt g197)), (140, (bv true)), (141, (sv Aa p0 ca)), (142, (.agg #[(sv ((H18 x184.toNat 0).1) ((rdD t11 x184 z_Row_ref02).Cells) ((H18 x184.toNat 0).2)), (iv ((rdD t11 x184 z_Row_ref02).South)), (iv ((rdD t11 x184 z_Row_ref02).North))])), (143, (iv x169)), (144, (iv p2)), (145, (.agg #[(sv Ab p3.North cb), (sv Ac p3.East cc), (sv Ad p3.South cd), (sv Ae p3.West ce)]))] [] [4, 5, 6, 7, 8, 9, 10] [(21, ⟨g197, 0, none⟩, (sv ((H18 x184.toNat 0).1) ((rdD t11 x184 z_Row_ref02).Cells) ((H18 x184.toNat 0).2))), (21, ⟨g197, 1, none⟩, (iv ((rdD t11 x184 z_Row_ref02).South))), (21, ⟨g197, 2, none⟩, (iv ((rdD t11 x184 z_Row_ref02).North))), (24, ⟨g5, 0, none⟩, (sv Ab p3.North cb)), (24, ⟨g5, 1, none⟩, (sv Ac p3.East cc)), (24, ⟨g5, 2, none⟩, (sv Ad p3.South cd)), (24, ⟨g5, 3, none⟩, (sv Ae p3.West ce))] (fun fb => by kernel_rfl) rfl trivial rfl ?_
          obtain ⟨t225, ht226, hx203⟩ := bind_some hx203
          refine WL.call (some 146) 63 #[(sv Aa p0 ca), (.agg #[(sv ((H18 x184.toNat 0).1) ((rdD t11 x184 z_Row_ref02).Cells) ((H18 x184.toNat 0).2)), (iv ((rdD t11 x184 z_Row_ref02).South)), (iv ((rdD t11 x184 z_Row_ref02).North))]), (iv x169), (iv p2), (.agg #[(sv Ab p3.North cb), (sv Ac p3.East cc), (sv Ad p3.South cd), (sv Ae p3.West ce)])] (fun fb => by kernel_rfl) (ref02_fits_calls _ p0 (rdD t11 x184 z_Row_ref02) x169 p2 p3 Aa ca ((H18 x184.toNat 0).1) ((H18 x184.toNat 0).2) Ab cb Ac cc Ad cd Ae ce t225 _ (hS222.rd 0) (nestO.ro (poolO.ro (hS222.ow 4) 0) z_Row_ref02 h196.1 h196.2) (hS222.rd 1) (hS222.rd 2) (hS222.rd 3) (hS222.rd 4) ht226) (fun v w227 hR228 => ?_)
          obtain ⟨rfl, hk_⟩ := hR228
          have hS229 := hS222.keepN hk_
          refine ⟨trivial, ?_⟩
          refine seg 27 [] [0, 2, 7, 8, 10, 12, 16, 17, 18, 19, 20, 21, 147] [(0, (sv Aa p0 ca)), (2, (iv p2)), (7, (pt g5)), (8, (pt g8)), (10, (sv A16 t11 c17)), (12, (sv A77 x80 c78)), (16, (pt g159)), (17, (iv x182)), (18, (iv x169)), (19, (bv b183)), (20, (iv x184)), (21, (pt g197)), (147, (bv t225))] [] (fun fb => by kernel_rfl) rfl trivial ?_
          refine WL.done rfl ?_
          injection hx203 with hx203
          exact WX.to Kx202 t225 [0, 2, 7, 8, 10, 12, 16, 17, 18, 19, 20, 21, 147] rfl ⟨(hS229.subR [0, 1, 2, 3, 4]).sub [1, 2, 3, 4, 5, 6, 7, 8, 0] (by decide), hx203.symm⟩
         obtain ⟨h232, hx203⟩ := as_some hx203
         obtain ⟨h233, hx203⟩ := as_some hx203
         refine WC.regionD ([(4, ⟨g197, 1, none⟩, (iv ((rdD t11 x184 z_Row_ref02).South))), (13, ((adr A77).add ((w64 (x169 + 1)).toNat * 1)), (sv ((H79 (w64 (x169 + 1)).toNat).1) (rdD x80 (w64 (x169 + 1)) []) ((H79 (w64 (x169 + 1)).toNat).2))), (15, ⟨g197, 2, none⟩, (iv ((rdD t11 x184 z_Row_ref02).North))), (17, ((adr ((H79 (w64 (x169 + 1)).toNat).1)).add (((rdD t11 x184 z_Row_ref02).North).toNat * 1)), (bv (rdD (rdD x80 (w64 (x169 + 1)) []) ((rdD t11 x184 z_Row_ref02).North) false)))], [0, 1, 2, 3, 4, 5, 6, 7, 8, 9, 10, 11, 12, 13, 14, 15, 16, 17, 18, 19, 20, 21, 22, 23, 24, 26], [[], [0], [0, 1], [0, 1, 2], [0, 1, 2, 3], [0, 1, 2], [0, 1, 2, 3, 4, 5], [0, 1, 2, 3, 4, 5, 6], [0, 1, 2, 3, 4, 5, 6, 7], [0, 1, 2, 3, 4, 5, 6, 7, 8], [0, 1, 2, 3, 4, 5, 6, 7, 8], [0, 1, 2, 3, 4, 5, 6, 7, 8, 10], [0, 1, 2, 3, 4, 5, 6, 7, 8, 9, 10, 11], [0, 1, 2, 3, 4, 5, 6, 7, 8, 9, 10, 11, 12], [0, 1, 2, 3, 4, 5, 6, 7, 8], [0, 1, 2, 3, 4, 5, 6, 7, 8, 14], [0, 1, 2, 3, 4, 5, 6, 7, 8, 9, 10, 11, 12, 13, 14, 15], [0, 1, 2, 3, 4, 5, 6, 7, 8, 9, 10, 11, 12, 13, 14, 15, 16], [0, 1, 2, 3, 4, 5, 6, 7, 8, 9, 10, 11, 12, 13, 14, 15, 16, 17], [0, 1, 2, 3, 4, 5, 6, 7, 8, 9, 10, 11, 12, 13, 14, 15, 16, 17, 18], [0, 1, 2, 3, 4, 5, 6, 7, 8, 9, 10, 11, 12, 13, 14, 15, 16, 17, 18, 19], [0, 1, 2, 3, 4, 5, 6, 7, 8, 9, 10, 11, 12, 13, 14, 15, 16, 17, 18, 19], [0, 1, 2, 3, 4, 5, 6, 7, 8, 9, 10, 11, 12, 13, 14, 15, 16, 17, 18, 19], [0, 1, 2, 3, 4, 5, 6, 7, 8, 9, 10, 11, 12, 13, 14, 15, 16, 17, 18, 19], [0, 1, 2, 3, 4, 5, 6, 7, 8, 9, 10, 11, 12, 13, 14, 15, 16, 17, 18, 19], [0, 1, 2, 3, 4, 5, 6, 7, 8, 9, 10, 11, 12, 13, 14, 15, 16, 17, 18, 19, 20, 21, 22, 23, 24], [0, 1, 2, 3, 4, 5, 6, 7, 8, 9, 10, 11, 12, 13, 14, 15, 16, 17, 18, 19, 20, 21, 22, 23, 24, 25]]) [[0, 1, 2, 3, 4, 5, 6, 7, 8, 9, 10, 11, 12, 13, 14, 15, 16, 17, 18, 19, 20, 21, 22, 23, 24, 25, 26]] (by kernel_rfl) (by kernel_rfl) (NoPanic.seq (NoPanic.block (NoPanic.seq (NoPanic.seq (NoPanic.block (NoPanic.seq (NoPanic.block (NoPanic.seq (NoPanic.seq (NoPanic.block (NoPanic.seq (NoPanic.body)))))))))))) ?_
         have hS231 := hS201.drew
         revert hS231
         generalize World.drew w200 = w230
         intro hS231
         refine ⟨⟨hS231.cell 0 rfl 1 rfl, nrow_cell (rowO.rd (hS231.own 5).1) [] h232.1 h232.2 0 rfl, hS231.cell 0 rfl 2 rfl, rowR.cell (rowO.rd (rowsO.at (hS231.own 6).1 h232.1 h232.2)) false h233.1 h233.2 0 rfl, trivial⟩, forallC ?_ (forallN)⟩
         refine seg 3 [] [0, 2, 7, 8, 10, 12, 16, 17, 18, 19, 20, 21, 123] [(0, (sv Aa p0 ca)), (2, (iv p2)), (7, (pt g5)), (8, (pt g8)), (10, (sv A16 t11 c17)), (12, (sv A77 x80 c78)), (16, (pt g159)), (17, (iv x182)), (18, (iv x169)), (19, (bv b183)), (20, (iv x184)), (21, (pt g197)), (123, (bv (x169 == 0)))] [] (fun fb => by kernel_rfl) rfl trivial ?_
         refine WL.setB 123 h204 rfl ?_
         refine segF 9 [.v (iv ((rdD t11 x184 z_Row_ref02).South))] [0, 2, 7, 8, 10, 12, 16, 17, 18, 19, 20, 21, 129] [(0, (sv Aa p0 ca)), (2, (iv p2)), (7, (pt g5)), (8, (pt g8)), (10, (sv A16 t11 c17)), (12, (sv A77 x80 c78)), (16, (pt g159)), (17, (iv x182)), (18, (iv x169)), (19, (bv b183)), (20, (iv x184)), (21, (pt g197)), (129, (bv (((rdD t11 x184 z_Row_ref02).South) == x182)))] [] [0] [(4, ⟨g197, 1, none⟩, (iv ((rdD t11 x184 z_Row_ref02).South)))] (fun fb => by kernel_rfl) rfl trivial rfl ?_
         refine WL.setB 129 h219 rfl ?_
         refine segF 20 [.v (sv ((H79 (w64 (x169 + 1)).toNat).1) (rdD x80 (w64 (x169 + 1)) []) ((H79 (w64 (x169 + 1)).toNat).2)), .v (iv ((rdD t11 x184 z_Row_ref02).North)), .v (bv (rdD (rdD x80 (w64 (x169 + 1)) []) ((rdD t11 x184 z_Row_ref02).North) false))] [0, 2, 7, 8, 10, 12, 16, 17, 18, 19, 20, 21, 140] [(0, (sv Aa p0 ca)), (2, (iv p2)), (7, (pt g5)), (8, (pt g8)), (10, (sv A16 t11 c17)), (12, (sv A77 x80 c78)), (16, (pt g159)), (17, (iv x182)), (18, (iv x169)), (19, (bv b183)), (20, (iv x184)), (21, (pt g197)), (140, (bv (rdD (rdD x80 (w64 (x169 + 1)) []) ((rdD t11 x184 z_Row_ref02).North) false)))] [.idx A77 (w64 (x169 + 1)) x80.length, .idx ((H79 (w64 (x169 + 1)).toNat).1) ((rdD t11 x184 z_Row_ref02).North) (rdD x80 (w64 (x169 + 1)) []).length] [1, 2, 3] [(13, ((adr A77).add ((w64 (x169 + 1)).toNat * 1)), (sv ((H79 (w64 (x169 + 1)).toNat).1) (rdD x80 (w64 (x169 + 1)) []) ((H79 (w64 (x169 + 1)).toNat).2))), (15, ⟨g197, 2, none⟩, (iv ((rdD t11 x184 z_Row_ref02).North))), (17, ((adr ((H79 (w64 (x169 + 1)).toNat).1)).add (((rdD t11 x184 z_Row_ref02).North).toNat * 1)), (bv (rdD (rdD x80 (w64 (x169 + 1)) []) ((rdD t11 x184 z_Row_ref02).North) false)))] (fun fb => by kernel_rfl) rfl ⟨nrow_adr (rowO.rd (hS231.own 5).1) h232.1 h232.2, rowR.adr (rowO.rd (rowsO.at (hS231.own 6).1 h232.1 h232.2)) h233.1 h233.2, trivial⟩ rfl ?_
         refine WL.setB 140 h220 rfl ?_
         refine seg 27 [] [0, 2, 7, 8, 10, 12, 16, 17, 18, 19, 20, 21, 147] [(0, (sv Aa p0 ca)), (2, (iv p2)), (7, (pt g5)), (8, (pt g8)), (10, (sv A16 t11 c17)), (12, (sv A77 x80 c78)), (16, (pt g159)), (17, (iv x182)), (18, (iv x169)), (19, (bv b183)), (20, (iv x184)), (21, (pt g197)), (147, (bv false))] [] (fun fb => by kernel_rfl) rfl trivial ?_
         refine WL.done rfl ?_
         injection hx203 with hx203
         exact WX.to Kx202 false [0, 2, 7, 8, 10, 12, 16, 17, 18, 19, 20, 21, 147] rfl ⟨(hS231.subR [0, 1, 2, 3, 4]).sub [1, 2, 3, 4, 5, 6, 7, 8, 0] (by decide), hx203.symm⟩
        refine WC.regionD ([(4, ⟨g197, 1, none⟩, (iv ((rdD t11 x184 z_Row_ref02).South)))], [0, 1, 2, 3, 4, 5, 6, 7, 8, 9, 10, 11, 12, 13, 14, 15, 16, 17, 18, 19, 20, 21, 22, 23, 24, 26], [[], [0], [0, 1], [0, 1, 2], [0, 1, 2, 3], [0, 1, 2], [0, 1, 2, 3, 4, 5], [0, 1, 2, 3, 4, 5, 6], [0, 1, 2, 3, 4, 5, 6, 7], [0, 1, 2, 3, 4, 5, 6, 7, 8], [0, 1, 2, 3, 4, 5, 6, 7, 8], [0, 1, 2, 3, 4, 5, 6, 7, 8, 10], [0, 1, 2, 3, 4, 5, 6, 7, 8, 9, 10, 11], [0, 1, 2, 3, 4, 5, 6, 7, 8, 9, 10, 11, 12], [0, 1, 2, 3, 4, 5, 6, 7, 8], [0, 1, 2, 3, 4, 5, 6, 7, 8, 14], [0, 1, 2, 3, 4, 5, 6, 7, 8, 9, 10, 11, 12, 13, 14, 15], [0, 1, 2, 3, 4, 5, 6, 7, 8, 9, 10, 11, 12, 13, 14, 15, 16], [0, 1, 2, 3, 4, 5, 6, 7, 8, 9, 10, 11, 12, 13, 14, 15, 16, 17], [0, 1, 2, 3, 4, 5, 6, 7, 8, 9, 10, 11, 12, 13, 14, 15, 16, 17, 18], [0, 1, 2, 3, 4, 5, 6, 7, 8, 9, 10, 11, 12, 13, 14, 15, 16, 17, 18, 19], [0, 1, 2, 3, 4, 5, 6, 7, 8, 9, 10, 11, 12, 13, 14, 15, 16, 17, 18, 19], [0, 1, 2, 3, 4, 5, 6, 7, 8, 9, 10, 11, 12, 13, 14, 15, 16, 17, 18, 19], [0, 1, 2, 3, 4, 5, 6, 7, 8, 9, 10, 11, 12, 13, 14, 15, 16, 17, 18, 19], [0, 1, 2, 3, 4, 5, 6, 7, 8, 9, 10, 11, 12, 13, 14, 15, 16, 17, 18, 19], [0, 1, 2, 3, 4, 5, 6, 7, 8, 9, 10, 11, 12, 13, 14, 15, 16, 17, 18, 19, 20, 21, 22, 23, 24], [0, 1, 2, 3, 4, 5, 6, 7, 8, 9, 10, 11, 12, 13, 14, 15, 16, 17, 18, 19, 20, 21, 22, 23, 24, 25]]) [[0, 1, 2, 3, 4, 5, 6, 7, 8, 9, 10, 11, 12, 13, 14, 15, 16, 17, 18, 19, 20, 21, 22, 23, 24, 25, 26]] (by kernel_rfl) (by kernel_rfl) (NoPanic.seq (NoPanic.block (NoPanic.seq (NoPanic.seq (NoPanic.block (NoPanic.seq (NoPanic.block (NoPanic.seq (NoPanic.seq (NoPanic.block (NoPanic.seq (NoPanic.body)))))))))))) ?_
        have hS235 := hS201.drew
        revert hS235
        generalize World.drew w200 = w234
        intro hS235
        refine ⟨⟨hS235.cell 0 rfl 1 rfl, trivial⟩, forallC ?_ (forallN)⟩
        refine seg 3 [] [0, 2, 7, 8, 10, 12, 16, 17, 18, 19, 20, 21, 123] [(0, (sv Aa p0 ca)), (2, (iv p2)), (7, (pt g5)), (8, (pt g8)), (10, (sv A16 t11 c17)), (12, (sv A77 x80 c78)), (16, (pt g159)), (17, (iv x182)), (18, (iv x169)), (19, (bv b183)), (20, (iv x184)), (21, (pt g197)), (123, (bv (x169 == 0)))] [] (fun fb => by kernel_rfl) rfl trivial ?_
        refine WL.setB 123 h204 rfl ?_
        refine segF 9 [.v (iv ((rdD t11 x184 z_Row_ref02).South))] [0, 2, 7, 8, 10, 12, 16, 17, 18, 19, 20, 21, 129] [(0, (sv Aa p0 ca)), (2, (iv p2)), (7, (pt g5)), (8, (pt g8)), (10, (sv A16 t11 c17)), (12, (sv A77 x80 c78)), (16, (pt g159)), (17, (iv x182)), (18, (iv x169)), (19, (bv b183)), (20, (iv x184)), (21, (pt g197)), (129, (bv (((rdD t11 x184 z_Row_ref02).South) == x182)))] [] [0] [(4, ⟨g197, 1, none⟩, (iv ((rdD t11 x184 z_Row_ref02).South)))] (fun fb => by kernel_rfl) rfl trivial rfl ?_
        refine WL.setB 129 h219 rfl ?_
        refine seg 27 [] [0, 2, 7, 8, 10, 12, 16, 17, 18, 19, 20, 21, 147] [(0, (sv Aa p0 ca)), (2, (iv p2)), (7, (pt g5)), (8, (pt g8)), (10, (sv A16 t11 c17)), (12, (sv A77 x80 c78)), (16, (pt g159)), (17, (iv x182)), (18, (iv x169)), (19, (bv b183)), (20, (iv x184)), (21, (pt g197)), (147, (bv false))] [] (fun fb => by kernel_rfl) rfl trivial ?_
        refine WL.done rfl ?_
        injection hx203 with hx203
        exact WX.to Kx202 false [0, 2, 7, 8, 10, 12, 16, 17, 18, 19, 20, 21, 147] rfl ⟨(hS235.subR [0, 1, 2, 3, 4]).sub [1, 2, 3, 4, 5, 6, 7, 8, 0] (by decide), hx203.symm⟩
       rintro y239 w236 ⟨hS237, hq238⟩
       subst hq238
       refine WX.next ?_
       obtain ⟨x242, hx243, hl192⟩ := bind_some hl192
       refine WC.cutN (T := ((List Int) × Int × Bool) × (Option Addr) × Nat) (fun t => [(0, (sv Aa p0 ca)), (2, (iv p2)), (7, (pt g5)), (8, (pt g8)), (10, (sv A16 t11 c17)), (12, (sv A77 x80 c78)), (16, (pt g159)), (17, (iv t.1.2.1)), (18, (iv x169)), (19, (bv t.1.2.2)), (20, (iv x184))]) (fun t w1 => St NoS w w1 [rowR enc_Tile Aa ca p0, rowR encInt Ab cb p3.North, rowR encInt Ac cc p3.East, rowR encInt Ad cd p3.South, rowR encInt Ae ce p3.West] [blk g5 (.cells #[(sv Ab p3.North cb), (sv Ac p3.East cc), (sv Ad p3.South cd), (sv Ae p3.West ce)] 44 (0, 0)), blk g8 (.cells #[(iv 0), (iv 0), (.slice none 0 0)] 27 (0, 0)), rowO 88 encN_Row_ref02 A16 c17 (tag H18 t11), poolO [nestO subN_Row_ref02 H18 t11], rowO 95 (encSl Bool) A77 c78 (tag H79 x80), rowsO 4 encBool H79 x80, blk g159 (.cells #[(iv p1), (iv p2), (sv t.2.1 t.1.1 t.2.2)] 27 (0, 0)), rowO 3 encInt t.2.1 t.2.2 t.1.1] ∧ x242 = t.1) (fun Kx242 => ?_) ?_
       ·
        rcases br_some hx243 with ⟨h244, hx243⟩ | ⟨h244, hx243⟩
        ·refine WC.condT2 (fun fb => by kernel_rfl) h244 ?_
         refine WC.seq (WC.region ?_)
         refine seg 4 [.v (sv A179 l181 c180), .v (sv ((H18 x184.toNat 0).1) ((rdD t11 x184 z_Row_ref02).Cells) ((H18 x184.toNat 0).2))] [0, 2, 7, 8, 10, 12, 16, 18, 20, 21, 149, 151] [(0, (sv Aa p0 ca)), (2, (iv p2)), (7, (pt g5)), (8, (pt g8)), (10, (sv A16 t11 c17)), (12, (sv A77 x80 c78)), (16, (pt g159)), (18, (iv x169)), (20, (iv x184)), (21, (pt g197)), (149, (sv A179 l181 c180)), (151, (sv ((H18 x184.toNat 0).1) ((rdD t11 x184 z_Row_ref02).Cells) ((H18 x184.toNat 0).2)))] [.cell ⟨g159, 2, none⟩ (sv A179 l181 c180), .cell ⟨g197, 0, none⟩ (sv ((H18 x184.toNat 0).1) ((rdD t11 x184 z_Row_ref02).Cells) ((H18 x184.toNat 0).2))] (fun fb => by kernel_rfl) rfl ⟨hS237.cell 6 rfl 2 rfl, hS237.cell 8 rfl 0 rfl, trivial⟩ ?_
         obtain ⟨h245, hx243⟩ := as_some hx243
         refine WL.append hS237 7 (d := 152) (tS := 25) (z := (iv 0)) (bytes := 8) (c2 := (H18 x184.toNat 0).2) rfl (fun fb => by kernel_rfl) (nestO.at ((hS237.own 3).1 0) z_Row_ref02 h196.1 h196.2) (by kernel_rfl) (by kernel_rfl) rfl (by decide) h245 (by decide) [0, 1, 2, 3, 4, 5, 6, 8] (by decide) (by decide) (fun A246 c247 w248 hS249 => ?_)
         refine ⟨trivial, ?_⟩
         refine seg 6 [] [0, 2, 7, 8, 10, 12, 16, 18, 20, 21, 152, 153] [(0, (sv Aa p0 ca)), (2, (iv p2)), (7, (pt g5)), (8, (pt g8)), (10, (sv A16 t11 c17)), (12, (sv A77 x80 c78)), (16, (pt g159)), (18, (iv x169)), (20, (iv x184)), (21, (pt g197)), (152, (sv A246 (l181 ++ ((rdD t11 x184 z_Row_ref02).Cells)) c247)), (153, (.pointer (some ⟨g159, 2, none⟩)))] [] (fun fb => by kernel_rfl) rfl trivial ?_
         refine WL.store hS249 7 rfl [(2, (sv A246 (l181 ++ ((rdD t11 x184 z_Row_ref02).Cells)) c247))] #[(iv p1), (iv p2), (sv A246 (l181 ++ ((rdD t11 x184 z_Row_ref02).Cells)) c247)] (fun fb => by kernel_rfl) (by kernel_rfl) rfl [0, 1, 2, 3, 4, 5, 6, 8] (by decide) (by decide) (fun w250 hS251 => ?_)
         refine ⟨trivial, ?_⟩
         refine WL.done rfl (WX.next (WC.region ?_))
         refine seg 4 [.v (iv ((rdD t11 x184 z_Row_ref02).North))] [0, 2, 7, 8, 10, 12, 16, 17, 18, 19, 20] [(0, (sv Aa p0 ca)), (2, (iv p2)), (7, (pt g5)), (8, (pt g8)), (10, (sv A16 t11 c17)), (12, (sv A77 x80 c78)), (16, (pt g159)), (17, (iv ((rdD t11 x184 z_Row_ref02).North))), (18, (iv x169)), (19, (bv true)), (20, (iv x184))] [.cell ⟨g197, 2, none⟩ (iv ((rdD t11 x184 z_Row_ref02).North))] (fun fb => by kernel_rfl) rfl ⟨hS251.cell 8 rfl 2 rfl, trivial⟩ ?_
         refine WL.done rfl ?_
         injection hx243 with hx243
         exact WX.to Kx242 ((l181 ++ ((rdD t11 x184 z_Row_ref02).Cells), (rdD t11 x184 z_Row_ref02).North, true), A246, c247) [0, 2, 7, 8, 10, 12, 16, 17, 18, 19, 20] rfl ⟨(hS251.subR [0, 1, 2, 3, 4]).sub [2, 3, 4, 5, 6, 7, 0, 1] (by decide), hx243.symm⟩
        refine WC.condF2 (fun fb => by kernel_rfl) h244 ?_
        refine WC.skip ?_
        injection hx243 with hx243
        exact WX.to Kx242 ((l181, x182, b183), A179, c180) [0, 2, 7, 8, 10, 12, 16, 17, 18, 19, 20] rfl ⟨(hS237.subR [0, 1, 2, 3, 4]).sub [0, 1, 2, 3, 4, 5, 6, 7] (by decide), hx243.symm⟩
       rintro ⟨y255, A240, c241⟩ w252 ⟨hS253, hq254⟩
       subst hq254
       refine WX.blockN (WX.next ?_)
       refine WC.region ?_
       refine seg 3 [] [0, 2, 7, 8, 10, 12, 16, 17, 18, 19, 20] [(0, (sv Aa p0 ca)), (2, (iv p2)), (7, (pt g5)), (8, (pt g8)), (10, (sv A16 t11 c17)), (12, (sv A77 x80 c78)), (16, (pt g159)), (17, (iv x242.2.1)), (18, (iv x169)), (19, (bv x242.2.2)), (20, (iv (w64 (x184 + 1))))] [] (fun fb => by kernel_rfl) rfl trivial ?_
       refine WL.done rfl ?_
       exact WX.again k189 (Nat.lt_succ_self _) ((x242.1, x242.2.1, x242.2.2, w64 (x184 + 1)), A240, c241) [0, 2, 7, 8, 10, 12, 16, 17, 18, 19, 20] rfl ⟨(hS253.subR [0, 1, 2, 3, 4]).sub [0, 1, 2, 3, 4, 5, 6, 7] (by decide), hl192⟩
      refine WC.condF2 (fun fb => by kernel_rfl) h195 ?_
      refine WC.exit ?_
      injection hl192 with hl192
      exact WX.thenX (WX.thenX (WX.blockHere (WX.to Kx187 ((l181, x182, b183), A179, c180) [0, 2, 7, 8, 10, 12, 16, 17, 18, 19] rfl ⟨(hS191.subR [0, 1, 2, 3, 4]).sub [0, 1, 2, 3, 4, 5, 6, 7] (by decide), hl192.symm⟩)))
    rintro ⟨y259, A185, c186⟩ w256 ⟨hS257, hq258⟩
    subst hq258
    refine WX.next (WC.seq (WC.region ?_))
    refine seg 2 [] [0, 2, 7, 8, 10, 12, 16, 17, 18, 157] [(0, (sv Aa p0 ca)), (2, (iv p2)), (7, (pt g5)), (8, (pt g8)), (10, (sv A16 t11 c17)), (12, (sv A77 x80 c78)), (16, (pt g159)), (17, (iv x187.2.1)), (18, (iv x169)), (157, (bv (!x187.2.2)))] [] (fun fb => by kernel_rfl) rfl trivial ?_
    refine WL.done rfl (WX.next ?_)
    rcases br_some hl177 with ⟨h260, hl177⟩ | ⟨h260, hl177⟩
    ·refine WC.condT2 (fun fb => by kernel_rfl) h260 ?_
     refine WC.seq (WC.region ?_)
     refine seg 1 [] [8, 158] [(8, (pt g8)), (158, (.agg #[(iv 0), (iv 0), (.slice none 0 0)]))] [] (fun fb => by kernel_rfl) rfl trivial ?_
     refine WL.store hS257 1 rfl [(0, (iv 0)), (1, (iv 0)), (2, (.slice none 0 0))] #[(iv 0), (iv 0), (.slice none 0 0)] (fun fb => by kernel_rfl) (by kernel_rfl) rfl [0, 2, 3, 4, 5, 6, 7] (by decide) (by decide) (fun w261 hS262 => ?_)
     refine ⟨trivial, ?_⟩
     refine seg 3 [] [8, 9] [(8, (pt g8)), (9, (bv false))] [] (fun fb => by kernel_rfl) rfl trivial ?_
     refine WL.done rfl (WX.next ?_)
     refine WC.ret ?_
     have hS263 := hS262.nilrow 3 encInt
     injection hl177 with hl177
     subst hl177
     injection hf with hf
     subst hf
     exact WX.blockR (WX.thenR (WX.thenR (WX.blockR (WX.thenR (WX.ret_ [.v (iv 0), .v (iv 0), .v (.slice none 0 0)] (.tuple #[(.agg #[(iv 0), (iv 0), (sv none ([] : List Int) 0)]), (bv false)]) [.cell ⟨g8, 0, none⟩ (iv 0), .cell ⟨g8, 1, none⟩ (iv 0), .cell ⟨g8, 2, none⟩ (.slice none 0 0)] (fun fb => by kernel_rfl) ⟨hS262.cell 0 rfl 0 rfl, hS262.cell 0 rfl 1 rfl, hS262.cell 0 rfl 2 rfl, trivial⟩ ⟨_, rfl, none, 0, rfl, (hS263.sub [0] (by decide)).noR⟩)))))
    refine WC.condF2 (fun fb => by kernel_rfl) h260 ?_
    refine WC.skip ?_
    refine WX.blockN (WX.next ?_)
    refine WC.region ?_
    refine seg 3 [] [0, 2, 7, 8, 10, 12, 16, 17, 18] [(0, (sv Aa p0 ca)), (2, (iv p2)), (7, (pt g5)), (8, (pt g8)), (10, (sv A16 t11 c17)), (12, (sv A77 x80 c78)), (16, (pt g159)), (17, (iv x187.2.1)), (18, (iv (w64 (x169 + 1))))] [] (fun fb => by kernel_rfl) rfl trivial ?_
    refine WL.done rfl ?_
    exact WX.again k174 (Nat.lt_succ_self _) ((x187.1, x187.2.1, w64 (x169 + 1)), A185, c186) [0, 2, 7, 8, 10, 12, 16, 17, 18] rfl ⟨(hS257.subR [0, 1, 2, 3, 4]).sub [0, 1, 2, 3, 4, 5, 6, 7] (by decide), hl177⟩
   refine WC.condF2 (fun fb => by kernel_rfl) h178 ?_
   refine WC.exit ?_
   injection hl177 with hl177
   exact WX.thenX (WX.thenX (WX.blockHere (WX.to Kx172 (l167, A165, c166) [8, 16] rfl ⟨(hS176.subR [0, 1, 2, 3, 4]).sub [1, 6, 7] (by decide), hl177.symm⟩)))
 rintro ⟨y267, A170, c171⟩ w264 ⟨hS265, hq266⟩
 subst hq266
 have hf := sum_inr hf
 refine WX.next (WC.seq (WC.region ?_))
 refine seg 1 [.v (iv p1), .v (iv p2), .v (sv A170 y267 c171)] [8, 159] [(8, (pt g8)), (159, (.agg #[(iv p1), (iv p2), (sv A170 y267 c171)]))] [.cell ⟨g159, 0, none⟩ (iv p1), .cell ⟨g159, 1, none⟩ (iv p2), .cell ⟨g159, 2, none⟩ (sv A170 y267 c171)] (fun fb => by kernel_rfl) rfl ⟨hS265.cell 1 rfl 0 rfl, hS265.cell 1 rfl 1 rfl, hS265.cell 1 rfl 2 rfl, trivial⟩ ?_
 refine WL.store hS265 0 rfl [(0, (iv p1)), (1, (iv p2)), (2, (sv A170 y267 c171))] #[(iv p1), (iv p2), (sv A170 y267 c171)] (fun fb => by kernel_rfl) (by kernel_rfl) rfl [1, 2] (by decide) (by decide) (fun w268 hS269 => ?_)
 refine ⟨trivial, ?_⟩
 refine seg 3 [] [8, 9] [(8, (pt g8)), (9, (bv true))] [] (fun fb => by kernel_rfl) rfl trivial ?_
 refine WL.done rfl (WX.next ?_)
 refine WC.ret ?_
 injection hf with hf
 subst hf
 exact WX.ret_ [.v (iv p1), .v (iv p2), .v (sv A170 y267 c171)] (.tuple #[(.agg #[(iv p1), (iv p2), (sv A170 y267 c171)]), (bv true)]) [.cell ⟨g8, 0, none⟩ (iv p1), .cell ⟨g8, 1, none⟩ (iv p2), .cell ⟨g8, 2, none⟩ (sv A170 y267 c171)] (fun fb => by kernel_rfl) ⟨hS269.cell 0 rfl 0 rfl, hS269.cell 0 rfl 1 rfl, hS269.cell 0 rfl 2 rfl, trivial⟩ ⟨_, rfl, A170, c171, rfl, (hS269.sub [2] (by decide)).noR⟩
theorem law02_FillFirst_calls (k : Nat) (p0 : List Tile) (p1 : Int) (p2 : Int) (p3 : Edges) (Aa : Option Addr) (ca : Nat) (Ab : Option Addr) (cb : Nat) (Ac : Option Addr) (cc : Nat) (Ad : Option Addr) (cd : Nat) (Ae : Option Addr) (ce : Nat) (mG : Int) (r : Bool) (w : World) (hR0 : RO NoS w (rowR enc_Tile Aa ca p0)) (hR1 : RO NoS w (rowR encInt Ab cb p3.North)) (hR2 : RO NoS w (rowR encInt Ac cc p3.East)) (hR3 : RO NoS w (rowR encInt Ad cd p3.South)) (hR4 : RO NoS w (rowR encInt Ae ce p3.West)) (hR5 : RO NoS w (cel ⟨2, 0, none⟩ (iv mG))) (hf : law02_FillFirst k p0 p1 p2 p3 = some r) :
  CallsR Tryd.prog 7 #[(sv Aa p0 ca), (iv p1), (iv p2), (.agg #[(sv Ab p3.North cb), (sv Ac p3.East cc), (sv Ad p3.South cd), (sv Ae p3.West ce)])] w (fun v w' => v = (bv r) ∧ Keeps NoS w w') := by
 have hS : St NoS w w [rowR enc_Tile Aa ca p0, rowR encInt Ab cb p3.North, rowR encInt Ac cc p3.East, rowR encInt Ad cd p3.South, rowR encInt Ae ce p3.West, cel ⟨2, 0, none⟩ (iv mG)] [] := St.init (ro_cons hR0 (ro_cons hR1 (ro_cons hR2 (ro_cons hR3 (ro_cons hR4 (ro_cons hR5 (ro_nil _ _)))))))
 refine enter 101 Tryd.func7 rfl Tryd.ntmps7 rfl ?_
 unfold law02_FillFirst at hf
 refine WC.seq (WC.region ?_)
 refine WL.new hS 7 [] (fun g => (pt g)) (.cells #[(sv Ab p3.North cb), (sv Ac p3.East cc), (sv Ad p3.South cd), (sv Ae p3.West ce)] 44 (0, 0)) [] (fun fb g => by kernel_rfl) trivial (fun g1 w2 hS3 => ?_)
 refine ⟨trivial, ?_⟩
 refine seg 2 [] [0, 1, 2, 7] [(0, (sv Aa p0 ca)), (1, (iv p1)), (2, (iv p2)), (7, (pt g1))] [] (fun fb => by kernel_rfl) rfl trivial ?_
 refine WL.done rfl (WX.next (WC.seq (WC.seq (WC.region ?_))))
 refine seg 2 [.v (sv Ab p3.North cb), .v (sv Ac p3.East cc), .v (sv Ad p3.South cd), .v (sv Ae p3.West ce)] [0, 1, 2, 7, 16, 17] [(0, (sv Aa p0 ca)), (1, (iv p1)), (2, (iv p2)), (7, (pt g1)), (16, (sv Aa p0 ca)), (17, (.agg #[(sv Ab p3.North cb), (sv Ac p3.East cc), (sv Ad p3.South cd), (sv Ae p3.West ce)]))] [.cell ⟨g1, 0, none⟩ (sv Ab p3.North cb), .cell ⟨g1, 1, none⟩ (sv Ac p3.East cc), .cell ⟨g1, 2, none⟩ (sv Ad p3.South cd), .cell ⟨g1, 3, none⟩ (sv Ae p3.West ce)] (fun fb => by kernel_rfl) rfl ⟨hS3.cell 0 rfl 0 rfl, hS3.cell 0 rfl 1 rfl, hS3.cell 0 rfl 2 rfl, hS3.cell 0 rfl 3 rfl, trivial⟩ ?_
 obtain ⟨t17, ht18, hf⟩ := bind_some hf
 refine WL.call (some 18) 25 #[(sv Aa p0 ca), (.agg #[(sv Ab p3.North cb), (sv Ac p3.East cc), (sv Ad p3.South cd), (sv Ae p3.West ce)])] (fun fb => by kernel_rfl) (law02_wide_calls p0 p3 Aa ca Ab cb Ac cc Ad cd Ae ce t17 _ (hS3.rd 0) (hS3.rd 1) (hS3.rd 2) (hS3.rd 3) (hS3.rd 4) ht18) (fun v w19 hR20 => ?_)
 obtain ⟨rfl, hk_⟩ := hR20
 have hS21 := hS3.keepN hk_
 refine ⟨trivial, ?_⟩
 refine WL.done rfl (WX.next ?_)
 rcases br_some hf with ⟨h22, hf⟩ | ⟨h22, hf⟩
 ·refine WC.condT2 (fun fb => by kernel_rfl) h22 ?_
  refine WC.seq (WC.region ?_)
  obtain ⟨t6, ht8, hf⟩ := bind_some hf
  refine WL.call (some 19) 26 #[] (fun fb => by kernel_rfl) (law02_awake_calls _ mG t6 _ (hS21.rd 5) ht8) (fun v w9 hR10 => ?_)
  obtain ⟨rfl, hk_⟩ := hR10
  have hS11 := hS21.keepN hk_
  refine ⟨trivial, ?_⟩
  refine seg 2 [] [8] [(8, (bv t6))] [] (fun fb => by kernel_rfl) rfl trivial ?_
  refine WL.done rfl (WX.next ?_)
  refine WC.ret ?_
  injection hf with hf
  subst hf
  exact WX.thenR (WX.ret_ [] (bv t6) [] (fun fb => by kernel_rfl) trivial ⟨_, rfl, rfl, hS11.keep⟩)
 refine WC.condF2 (fun fb => by kernel_rfl) h22 ?_
 refine WC.skip (WX.next (WC.seq (WC.seq (WC.region ?_))))
 refine seg 4 [.v (sv Ab p3.North cb), .v (sv Ac p3.East cc), .v (sv Ad p3.South cd), .v (sv Ae p3.West ce)] [0, 1, 2, 7, 20, 21, 22, 23] [(0, (sv Aa p0 ca)), (1, (iv p1)), (2, (iv p2)), (7, (pt g1)), (20, (sv Aa p0 ca)), (21, (iv p1)), (22, (iv p2)), (23, (.agg #[(sv Ab p3.North cb), (sv Ac p3.East cc), (sv Ad p3.South cd), (sv Ae p3.West ce)]))] [.cell ⟨g1, 0, none⟩ (sv Ab p3.North cb), .cell ⟨g1, 1, none⟩ (sv Ac p3.East cc), .cell ⟨g1, 2, none⟩ (sv Ad p3.South cd), .cell ⟨g1, 3, none⟩ (sv Ae p3.West ce)] (fun fb => by kernel_rfl) rfl ⟨hS21.cell 0 rfl 0 rfl, hS21.cell 0 rfl 1 rfl, hS21.cell 0 rfl 2 rfl, hS21.cell 0 rfl 3 rfl, trivial⟩ ?_
 obtain ⟨t12, ht13, hf⟩ := bind_some hf
 refine WL.call (some 24) 27 #[(sv Aa p0 ca), (iv p1), (iv p2), (.agg #[(sv Ab p3.North cb), (sv Ac p3.East cc), (sv Ad p3.South cd), (sv Ae p3.West ce)])] (fun fb => by kernel_rfl) (ref02_Fault_calls _ p0 p1 p2 p3 Aa ca Ab cb Ac cc Ad cd Ae ce t12 _ (hS21.rd 0) (hS21.rd 1) (hS21.rd 2) (hS21.rd 3) (hS21.rd 4) ht13) (fun v w14 hR15 => ?_)
 obtain ⟨rfl, hk_⟩ := hR15
 have hS16 := hS21.keepN hk_
 refine ⟨trivial, ?_⟩
 refine seg 6 [] [0, 1, 2, 7, 9] [(0, (sv Aa p0 ca)), (1, (iv p1)), (2, (iv p2)), (7, (pt g1)), (9, (iv t12))] [] (fun fb => by kernel_rfl) rfl trivial ?_
 refine WL.done rfl (WX.next (WC.seq (WC.region ?_)))
 refine seg 2 [] [0, 1, 2, 7, 9, 26] [(0, (sv Aa p0 ca)), (1, (iv p1)), (2, (iv p2)), (7, (pt g1)), (9, (iv t12)), (26, (bv (t12 != 0)))] [] (fun fb => by kernel_rfl) rfl trivial ?_
 refine WL.done rfl (WX.next ?_)
 rcases br_some hf with ⟨h23, hf⟩ | ⟨h23, hf⟩
 ·refine WC.condT2 (fun fb => by kernel_rfl) h23 ?_
  refine WC.seq (WC.region ?_)
  refine seg 4 [.v (sv Ab p3.North cb), .v (sv Ac p3.East cc), .v (sv Ad p3.South cd), .v (sv Ae p3.West ce)] [9, 28, 29, 30, 31] [(9, (iv t12)), (28, (sv Aa p0 ca)), (29, (iv p1)), (30, (iv p2)), (31, (.agg #[(sv Ab p3.North cb), (sv Ac p3.East cc), (sv Ad p3.South cd), (sv Ae p3.West ce)]))] [.cell ⟨g1, 0, none⟩ (sv Ab p3.North cb), .cell ⟨g1, 1, none⟩ (sv Ac p3.East cc), .cell ⟨g1, 2, none⟩ (sv Ad p3.South cd), .cell ⟨g1, 3, none⟩ (sv Ae p3.West ce)] (fun fb => by kernel_rfl) rfl ⟨hS16.cell 0 rfl 0 rfl, hS16.cell 0 rfl 1 rfl, hS16.cell 0 rfl 2 rfl, hS16.cell 0 rfl 3 rfl, trivial⟩ ?_
  obtain ⟨t24, ht25, hf⟩ := bind_some hf
  refine WL.call (some 32) 31 #[(sv Aa p0 ca), (iv p1), (iv p2), (.agg #[(sv Ab p3.North cb), (sv Ac p3.East cc), (sv Ad p3.South cd), (sv Ae p3.West ce)])] (fun fb => by kernel_rfl) (fill_First_calls _ p0 p1 p2 p3 Aa ca Ab cb Ac cc Ad cd Ae ce t24 _ (hS16.rd 0) (hS16.rd 1) (hS16.rd 2) (hS16.rd 3) (hS16.rd 4) ht25) (fun v w26 hR27 => ?_)
  obtain ⟨A29, c30, rfl, hk_⟩ := hR27
  have hS28 := hS.go w26 [rowO 3 encInt A29 c30 t24.1.Cells, blk g1 (.cells #[(.slice Ab p3.North.length cb), (.slice Ac p3.East.length cc), (.slice Ad p3.South.length cd), (.slice Ae p3.West.length ce)] 44 (0, 0))] (hS16.call hk_ [] [0] (fun g hg => hg.elim) (by simp) (by decide))
  refine ⟨trivial, ?_⟩
  refine seg 8 [] [9, 33, 34] [(9, (iv t12)), (33, (.agg #[(iv t24.1.Width), (iv t24.1.Height), (sv A29 t24.1.Cells c30)])), (34, (iv t24.2))] [] (fun fb => by kernel_rfl) rfl trivial ?_
  refine WL.new hS28 10 [] (fun g => (pt g)) (.cells #[(iv 0), (iv 0), (.slice none 0 0)] 27 (0, 0)) [] (fun fb g => by kernel_rfl) trivial (fun g31 w32 hS33 => ?_)
  refine ⟨trivial, ?_⟩
  refine WL.store hS33 0 rfl [(0, (iv t24.1.Width)), (1, (iv t24.1.Height)), (2, (sv A29 t24.1.Cells c30))] #[(iv t24.1.Width), (iv t24.1.Height), (sv A29 t24.1.Cells c30)] (fun fb => by kernel_rfl) (by kernel_rfl) rfl [1, 2] (by decide) (by decide) (fun w34 hS35 => ?_)
  refine ⟨trivial, ?_⟩
  refine seg 11 [] [9, 10, 11] [(9, (iv t12)), (10, (pt g31)), (11, (iv t24.2))] [] (fun fb => by kernel_rfl) rfl trivial ?_
  refine WL.done rfl (WX.next (WC.seq (WC.region ?_)))
  refine seg 4 [] [10, 38] [(10, (pt g31)), (38, (bv (t24.2 == t12)))] [] (fun fb => by kernel_rfl) rfl trivial ?_
  obtain ⟨x36, hx37, hf⟩ := bind_some hf
  refine WL.cutW (T := Bool) 8 (fun t => [(42, (bv t))]) (fun t w1 => (St NoS w w1 [rowR enc_Tile Aa ca p0, rowR encInt Ab cb p3.North, rowR encInt Ac cc p3.East, rowR encInt Ad cd p3.South, rowR encInt Ae ce p3.West, cel ⟨2, 0, none⟩ (iv mG)] [] ∧ x36 = t) ∧ CellsOK [] w1) (fun K => ?_) ?_
  ·
   rcases br_some hx37 with ⟨h38, hx37⟩ | ⟨h38, hx37⟩
   ·
    refine WL.setB 38 h38 rfl ?_
    refine seg 6 [.v (iv t24.1.Width), .v (iv t24.1.Height), .v (sv A29 t24.1.Cells c30)] [38, 39, 40] [(38, (bv true)), (39, (.agg #[(iv t24.1.Width), (iv t24.1.Height), (sv A29 t24.1.Cells c30)])), (40, (.agg #[(iv 0), (iv 0), (.slice none 0 0)]))] [.cell ⟨g31, 0, none⟩ (iv t24.1.Width), .cell ⟨g31, 1, none⟩ (iv t24.1.Height), .cell ⟨g31, 2, none⟩ (sv A29 t24.1.Cells c30)] (fun fb => by kernel_rfl) rfl ⟨hS35.cell 0 rfl 0 rfl, hS35.cell 0 rfl 1 rfl, hS35.cell 0 rfl 2 rfl, trivial⟩ ?_
    obtain ⟨t39, ht40, hx37⟩ := bind_some hx37
    refine WL.call (some 41) 32 #[(.agg #[(iv t24.1.Width), (iv t24.1.Height), (sv A29 t24.1.Cells c30)]), (.agg #[(iv 0), (iv 0), (.slice none 0 0)])] (fun fb => by kernel_rfl) (ref01_SamePattern_calls _ t24.1 (Pattern.mk 0 0 ([] : List Int)) A29 c30 none 0 t39 _ (hS35.ow 1).ofO (RO.nilR _ _ _) ht40) (fun v w41 hR42 => ?_)
    obtain ⟨rfl, hk_⟩ := hR42
    have hS43 := hS35.keepN hk_
    refine ⟨trivial, ?_⟩
    refine seg 8 [] [42] [(42, (bv t39))] [] (fun fb => by kernel_rfl) rfl trivial ?_
    injection hx37 with hx37
    exact WL.to K t39 [42] rfl ⟨⟨(hS43.subR [0, 1, 2, 3, 4, 5]).sub [] (by decide), hx37.symm⟩, trivial⟩
   refine WL.setB 38 h38 rfl ?_
   refine seg 8 [] [42] [(42, (bv false))] [] (fun fb => by kernel_rfl) rfl trivial ?_
   injection hx37 with hx37
   exact WL.to K false [42] rfl ⟨⟨(hS35.subR [0, 1, 2, 3, 4, 5]).sub [] (by decide), hx37.symm⟩, trivial⟩
  rintro y44 w46 ⟨⟨hS47, hq45⟩, hF48⟩
  subst hq45
  refine seg 9 [] [43] [(43, (bv x36))] [] (fun fb => by kernel_rfl) rfl trivial ?_
  obtain ⟨x49, hx50, hf⟩ := bind_some hf
  refine WL.cutW (T := Bool) 11 (fun t => [(45, (bv t))]) (fun t w1 => (St NoS w w1 [rowR enc_Tile Aa ca p0, rowR encInt Ab cb p3.North, rowR encInt Ac cc p3.East, rowR encInt Ad cd p3.South, rowR encInt Ae ce p3.West, cel ⟨2, 0, none⟩ (iv mG)] [] ∧ x49 = t) ∧ CellsOK [] w1) (fun K => ?_) ?_
  ·
   rcases br_some hx50 with ⟨h51, hx50⟩ | ⟨h51, hx50⟩
   ·
    refine WL.setB 43 h51 rfl ?_
    obtain ⟨t52, ht53, hx50⟩ := bind_some hx50
    refine WL.call (some 44) 26 #[] (fun fb => by kernel_rfl) (law02_awake_calls _ mG t52 _ (hS47.rd 5) ht53) (fun v w54 hR55 => ?_)
    obtain ⟨rfl, hk_⟩ := hR55
    have hS56 := hS47.keepN hk_
    refine ⟨trivial, ?_⟩
    refine seg 11 [] [45] [(45, (bv t52))] [] (fun fb => by kernel_rfl) rfl trivial ?_
    injection hx50 with hx50
    exact WL.to K t52 [45] rfl ⟨⟨(hS56.subR [0, 1, 2, 3, 4, 5]).sub [] (by decide), hx50.symm⟩, trivial⟩
   refine WL.setB 43 h51 rfl ?_
   refine seg 11 [] [45] [(45, (bv false))] [] (fun fb => by kernel_rfl) rfl trivial ?_
   injection hx50 with hx50
   exact WL.to K false [45] rfl ⟨⟨(hS47.subR [0, 1, 2, 3, 4, 5]).sub [] (by decide), hx50.symm⟩, trivial⟩
  rintro y57 w59 ⟨⟨hS60, hq58⟩, hF61⟩
  subst hq58
  refine seg 12 [] [8] [(8, (bv x49))] [] (fun fb => by kernel_rfl) rfl trivial ?_
  refine WL.done rfl (WX.next ?_)
  refine WC.ret ?_
  injection hf with hf
  subst hf
  exact WX.thenR (WX.ret_ [] (bv x49) [] (fun fb => by kernel_rfl) trivial ⟨_, rfl, rfl, hS60.keep⟩)
 refine WC.condF2 (fun fb => by kernel_rfl) h23 ?_
 refine WC.skip (WX.next (WC.seq (WC.seq (WC.region ?_))))
 refine seg 2 [] [0, 1, 2, 7, 46, 47] [(0, (sv Aa p0 ca)), (1, (iv p1)), (2, (iv p2)), (7, (pt g1)), (46, (sv Aa p0 ca)), (47, (iv p1))] [] (fun fb => by kernel_rfl) rfl trivial ?_
 obtain ⟨t62, ht63, hf⟩ := bind_some hf
 refine WL.call (some 48) 29 #[(sv Aa p0 ca), (iv p1)] (fun fb => by kernel_rfl) (law02_heavy_calls _ p0 p1 Aa ca t62 _ (hS16.rd 0) ht63) (fun v w65 hR66 => ?_)
 obtain ⟨rfl, hk_⟩ := hR66
 have hS67 := hS16.keepN hk_
 refine ⟨trivial, ?_⟩
 refine WL.done rfl (WX.next ?_)
 rcases br_some hf with ⟨h68, hf⟩ | ⟨h68, hf⟩
 ·refine WC.condT2 (fun fb => by kernel_rfl) h68 ?_
  refine WC.seq (WC.region ?_)
  obtain ⟨t69, ht70, hf⟩ := bind_some hf
  refine WL.call (some 49) 26 #[] (fun fb => by kernel_rfl) (law02_awake_calls _ mG t69 _ (hS67.rd 5) ht70) (fun v w71 hR72 => ?_)
  obtain ⟨rfl, hk_⟩ := hR72
  have hS73 := hS67.keepN hk_
  refine ⟨trivial, ?_⟩
  refine seg 2 [] [8] [(8, (bv t69))] [] (fun fb => by kernel_rfl) rfl trivial ?_
  refine WL.done rfl (WX.next ?_)
  refine WC.ret ?_
  injection hf with hf
  subst hf
  exact WX.thenR (WX.ret_ [] (bv t69) [] (fun fb => by kernel_rfl) trivial ⟨_, rfl, rfl, hS73.keep⟩)
 refine WC.condF2 (fun fb => by kernel_rfl) h68 ?_
 refine WC.skip (WX.next (WC.seq (WC.region ?_)))
 refine seg 4 [.v (sv Ab p3.North cb), .v (sv Ac p3.East cc), .v (sv Ad p3.South cd), .v (sv Ae p3.West ce)] [0, 1, 2, 7, 51, 52, 53, 54] [(0, (sv Aa p0 ca)), (1, (iv p1)), (2, (iv p2)), (7, (pt g1)), (51, (sv Aa p0 ca)), (52, (iv p1)), (53, (iv p2)), (54, (.agg #[(sv Ab p3.North cb), (sv Ac p3.East cc), (sv Ad p3.South cd), (sv Ae p3.West ce)]))] [.cell ⟨g1, 0, none⟩ (sv Ab p3.North cb), .cell ⟨g1, 1, none⟩ (sv Ac p3.East cc), .cell ⟨g1, 2, none⟩ (sv Ad p3.South cd), .cell ⟨g1, 3, none⟩ (sv Ae p3.West ce)] (fun fb => by kernel_rfl) rfl ⟨hS67.cell 0 rfl 0 rfl, hS67.cell 0 rfl 1 rfl, hS67.cell 0 rfl 2 rfl, hS67.cell 0 rfl 3 rfl, trivial⟩ ?_
 obtain ⟨t74, ht75, hf⟩ := bind_some hf
 refine WL.call (some 55) 31 #[(sv Aa p0 ca), (iv p1), (iv p2), (.agg #[(sv Ab p3.North cb), (sv Ac p3.East cc), (sv Ad p3.South cd), (sv Ae p3.West ce)])] (fun fb => by kernel_rfl) (fill_First_calls _ p0 p1 p2 p3 Aa ca Ab cb Ac cc Ad cd Ae ce t74 _ (hS67.rd 0) (hS67.rd 1) (hS67.rd 2) (hS67.rd 3) (hS67.rd 4) ht75) (fun v w76 hR77 => ?_)
 obtain ⟨A79, c80, rfl, hk_⟩ := hR77
 have hS78 := hS.go w76 [rowO 3 encInt A79 c80 t74.1.Cells, blk g1 (.cells #[(.slice Ab p3.North.length cb), (.slice Ac p3.East.length cc), (.slice Ad p3.South.length cd), (.slice Ae p3.West.length ce)] 44 (0, 0))] (hS67.call hk_ [] [0] (fun g hg => hg.elim) (by simp) (by decide))
 refine ⟨trivial, ?_⟩
 refine seg 8 [] [0, 1, 2, 7, 56, 57] [(0, (sv Aa p0 ca)), (1, (iv p1)), (2, (iv p2)), (7, (pt g1)), (56, (.agg #[(iv t74.1.Width), (iv t74.1.Height), (sv A79 t74.1.Cells c80)])), (57, (iv t74.2))] [] (fun fb => by kernel_rfl) rfl trivial ?_
 refine WL.new hS78 12 [] (fun g => (pt g)) (.cells #[(iv 0), (iv 0), (.slice none 0 0)] 27 (0, 0)) [] (fun fb g => by kernel_rfl) trivial (fun g81 w82 hS83 => ?_)
 refine ⟨trivial, ?_⟩
 refine WL.store hS83 0 rfl [(0, (iv t74.1.Width)), (1, (iv t74.1.Height)), (2, (sv A79 t74.1.Cells c80))] #[(iv t74.1.Width), (iv t74.1.Height), (sv A79 t74.1.Cells c80)] (fun fb => by kernel_rfl) (by kernel_rfl) rfl [1, 2] (by decide) (by decide) (fun w84 hS85 => ?_)
 refine ⟨trivial, ?_⟩
 refine seg 11 [] [0, 1, 2, 7, 12, 13] [(0, (sv Aa p0 ca)), (1, (iv p1)), (2, (iv p2)), (7, (pt g1)), (12, (pt g81)), (13, (iv t74.2))] [] (fun fb => by kernel_rfl) rfl trivial ?_
 refine WL.done rfl (WX.next (WC.seq (WC.seq (WC.region ?_))))
 refine seg 3 [] [0, 1, 2, 7, 12, 13, 60] [(0, (sv Aa p0 ca)), (1, (iv p1)), (2, (iv p2)), (7, (pt g1)), (12, (pt g81)), (13, (iv t74.2)), (60, (bv (t74.2 == 4)))] [] (fun fb => by kernel_rfl) rfl trivial ?_
 obtain ⟨x86, hx87, hf⟩ := bind_some hf
 refine WL.cutW (T := Bool) 7 (fun t => [(0, (sv Aa p0 ca)), (1, (iv p1)), (2, (iv p2)), (7, (pt g1)), (12, (pt g81)), (13, (iv t74.2)), (64, (bv t))]) (fun t w1 => (St NoS w w1 [rowR enc_Tile Aa ca p0, rowR encInt Ab cb p3.North, rowR encInt Ac cc p3.East, rowR encInt Ad cd p3.South, rowR encInt Ae ce p3.West, cel ⟨2, 0, none⟩ (iv mG)] [blk g1 (.cells #[(sv Ab p3.North cb), (sv Ac p3.East cc), (sv Ad p3.South cd), (sv Ae p3.West ce)] 44 (0, 0)), blk g81 (.cells #[(iv t74.1.Width), (iv t74.1.Height), (sv A79 t74.1.Cells c80)] 27 (0, 0)), rowO 3 encInt A79 c80 t74.1.Cells] ∧ x86 = t) ∧ CellsOK [] w1) (fun K => ?_) ?_
 ·
  rcases br_some hx87 with ⟨h88, hx87⟩ | ⟨h88, hx87⟩
  ·
   refine WL.setB 60 h88 rfl ?_
   refine seg 5 [] [0, 1, 2, 7, 12, 13, 60, 61, 62] [(0, (sv Aa p0 ca)), (1, (iv p1)), (2, (iv p2)), (7, (pt g1)), (12, (pt g81)), (13, (iv t74.2)), (60, (bv true)), (61, (sv Aa p0 ca)), (62, (iv p1))] [] (fun fb => by kernel_rfl) rfl trivial ?_
   obtain ⟨t89, ht90, hx87⟩ := bind_some hx87
   refine WL.call (some 63) 19 #[(sv Aa p0 ca), (iv p1)] (fun fb => by kernel_rfl) (ref02_Great_calls _ p0 p1 Aa ca t89 _ (hS85.rd 0) ht90) (fun v w91 hR92 => ?_)
   obtain ⟨rfl, hk_⟩ := hR92
   have hS93 := hS85.keepN hk_
   refine ⟨trivial, ?_⟩
   refine seg 7 [] [0, 1, 2, 7, 12, 13, 64] [(0, (sv Aa p0 ca)), (1, (iv p1)), (2, (iv p2)), (7, (pt g1)), (12, (pt g81)), (13, (iv t74.2)), (64, (bv t89))] [] (fun fb => by kernel_rfl) rfl trivial ?_
   injection hx87 with hx87
   exact WL.to K t89 [0, 1, 2, 7, 12, 13, 64] rfl ⟨⟨(hS93.subR [0, 1, 2, 3, 4, 5]).sub [2, 0, 1] (by decide), hx87.symm⟩, trivial⟩
  refine WL.setB 60 h88 rfl ?_
  refine seg 7 [] [0, 1, 2, 7, 12, 13, 64] [(0, (sv Aa p0 ca)), (1, (iv p1)), (2, (iv p2)), (7, (pt g1)), (12, (pt g81)), (13, (iv t74.2)), (64, (bv false))] [] (fun fb => by kernel_rfl) rfl trivial ?_
  injection hx87 with hx87
  exact WL.to K false [0, 1, 2, 7, 12, 13, 64] rfl ⟨⟨(hS85.subR [0, 1, 2, 3, 4, 5]).sub [2, 0, 1] (by decide), hx87.symm⟩, trivial⟩
 rintro y94 w96 ⟨⟨hS97, hq95⟩, hF98⟩
 subst hq95
 refine WL.done rfl (WX.next ?_)
 rcases br_some hf with ⟨h99, hf⟩ | ⟨h99, hf⟩
 ·refine WC.condT2 (fun fb => by kernel_rfl) h99 ?_
  refine WC.seq (WC.region ?_)
  refine seg 2 [.v (iv t74.1.Width), .v (iv t74.1.Height), .v (sv A79 t74.1.Cells c80)] [65, 66] [(65, (.agg #[(iv t74.1.Width), (iv t74.1.Height), (sv A79 t74.1.Cells c80)])), (66, (.agg #[(iv 0), (iv 0), (.slice none 0 0)]))] [.cell ⟨g81, 0, none⟩ (iv t74.1.Width), .cell ⟨g81, 1, none⟩ (iv t74.1.Height), .cell ⟨g81, 2, none⟩ (sv A79 t74.1.Cells c80)] (fun fb => by kernel_rfl) rfl ⟨hS97.cell 1 rfl 0 rfl, hS97.cell 1 rfl 1 rfl, hS97.cell 1 rfl 2 rfl, trivial⟩ ?_
  obtain ⟨t100, ht101, hf⟩ := bind_some hf
  refine WL.call (some 67) 32 #[(.agg #[(iv t74.1.Width), (iv t74.1.Height), (sv A79 t74.1.Cells c80)]), (.agg #[(iv 0), (iv 0), (.slice none 0 0)])] (fun fb => by kernel_rfl) (ref01_SamePattern_calls _ t74.1 (Pattern.mk 0 0 ([] : List Int)) A79 c80 none 0 t100 _ (hS97.ow 2).ofO (RO.nilR _ _ _) ht101) (fun v w102 hR103 => ?_)
  obtain ⟨rfl, hk_⟩ := hR103
  have hS104 := hS97.keepN hk_
  refine ⟨trivial, ?_⟩
  refine seg 4 [] [68] [(68, (bv t100))] [] (fun fb => by kernel_rfl) rfl trivial ?_
  obtain ⟨x105, hx106, hf⟩ := bind_some hf
  refine WL.cutW (T := Bool) 6 (fun t => [(70, (bv t))]) (fun t w1 => (St NoS w w1 [rowR enc_Tile Aa ca p0, rowR encInt Ab cb p3.North, rowR encInt Ac cc p3.East, rowR encInt Ad cd p3.South, rowR encInt Ae ce p3.West, cel ⟨2, 0, none⟩ (iv mG)] [] ∧ x105 = t) ∧ CellsOK [] w1) (fun K => ?_) ?_
  ·
   rcases br_some hx106 with ⟨h107, hx106⟩ | ⟨h107, hx106⟩
   ·
    refine WL.setB 68 h107 rfl ?_
    obtain ⟨t108, ht109, hx106⟩ := bind_some hx106
    refine WL.call (some 69) 26 #[] (fun fb => by kernel_rfl) (law02_awake_calls _ mG t108 _ (hS104.rd 5) ht109) (fun v w110 hR111 => ?_)
    obtain ⟨rfl, hk_⟩ := hR111
    have hS112 := hS104.keepN hk_
    refine ⟨trivial, ?_⟩
    refine seg 6 [] [70] [(70, (bv t108))] [] (fun fb => by kernel_rfl) rfl trivial ?_
    injection hx106 with hx106
    exact WL.to K t108 [70] rfl ⟨⟨(hS112.subR [0, 1, 2, 3, 4, 5]).sub [] (by decide), hx106.symm⟩, trivial⟩
   refine WL.setB 68 h107 rfl ?_
   refine seg 6 [] [70] [(70, (bv false))] [] (fun fb => by kernel_rfl) rfl trivial ?_
   injection hx106 with hx106
   exact WL.to K false [70] rfl ⟨⟨(hS104.subR [0, 1, 2, 3, 4, 5]).sub [] (by decide), hx106.symm⟩, trivial⟩
  rintro y113 w115 ⟨⟨hS116, hq114⟩, hF117⟩
  subst hq114
  refine seg 7 [] [8] [(8, (bv x105))] [] (fun fb => by kernel_rfl) rfl trivial ?_
  refine WL.done rfl (WX.next ?_)
  refine WC.ret ?_
  injection hf with hf
  subst hf
  exact WX.thenR (WX.ret_ [] (bv x105) [] (fun fb => by kernel_rfl) trivial ⟨_, rfl, rfl, hS116.keep⟩)
 refine WC.condF2 (fun fb => by kernel_rfl) h99 ?_
 refine WC.skip (WX.next (WC.seq (WC.region ?_)))
 refine seg 4 [.v (sv Ab p3.North cb), .v (sv Ac p3.East cc), .v (sv Ad p3.South cd), .v (sv Ae p3.West ce)] [12, 13, 72, 73, 74, 75] [(12, (pt g81)), (13, (iv t74.2)), (72, (sv Aa p0 ca)), (73, (iv p1)), (74, (iv p2)), (75, (.agg #[(sv Ab p3.North cb), (sv Ac p3.East cc), (sv Ad p3.South cd), (sv Ae p3.West ce)]))] [.cell ⟨g1, 0, none⟩ (sv Ab p3.North cb), .cell ⟨g1, 1, none⟩ (sv Ac p3.East cc), .cell ⟨g1, 2, none⟩ (sv Ad p3.South cd), .cell ⟨g1, 3, none⟩ (sv Ae p3.West ce)] (fun fb => by kernel_rfl) rfl ⟨hS97.cell 0 rfl 0 rfl, hS97.cell 0 rfl 1 rfl, hS97.cell 0 rfl 2 rfl, hS97.cell 0 rfl 3 rfl, trivial⟩ ?_
 obtain ⟨t118, ht119, hf⟩ := bind_some hf
 refine WL.call (some 76) 33 #[(sv Aa p0 ca), (iv p1), (iv p2), (.agg #[(sv Ab p3.North cb), (sv Ac p3.East cc), (sv Ad p3.South cd), (sv Ae p3.West ce)])] (fun fb => by kernel_rfl) (ref02_First_calls _ p0 p1 p2 p3 Aa ca Ab cb Ac cc Ad cd Ae ce t118 _ (hS97.rd 0) (hS97.rd 1) (hS97.rd 2) (hS97.rd 3) (hS97.rd 4) ht119) (fun v w120 hR121 => ?_)
 obtain ⟨A123, c124, rfl, hk_⟩ := hR121
 have hS122 := hS78.go w120 [rowO 3 encInt A123 c124 t118.1.Cells, blk g1 (.cells #[(.slice Ab p3.North.length cb), (.slice Ac p3.East.length cc), (.slice Ad p3.South.length cd), (.slice Ae p3.West.length ce)] 44 (0, 0)), blk g81 (.cells #[(iv t74.1.Width), (iv t74.1.Height), (.slice A79 t74.1.Cells.length c80)] 27 (0, 0)), rowO 3 encInt A79 c80 t74.1.Cells] (hS97.call hk_ [] [0, 1, 2] (fun g hg => hg.elim) (by simp) (by decide))
 refine ⟨trivial, ?_⟩
 refine seg 8 [] [12, 13, 77, 78] [(12, (pt g81)), (13, (iv t74.2)), (77, (.agg #[(iv t118.1.Width), (iv t118.1.Height), (sv A123 t118.1.Cells c124)])), (78, (bv t118.2))] [] (fun fb => by kernel_rfl) rfl trivial ?_
 refine WL.new hS122 14 [] (fun g => (pt g)) (.cells #[(iv 0), (iv 0), (.slice none 0 0)] 27 (0, 0)) [] (fun fb g => by kernel_rfl) trivial (fun g125 w126 hS127 => ?_)
 refine ⟨trivial, ?_⟩
 refine WL.store hS127 0 rfl [(0, (iv t118.1.Width)), (1, (iv t118.1.Height)), (2, (sv A123 t118.1.Cells c124))] #[(iv t118.1.Width), (iv t118.1.Height), (sv A123 t118.1.Cells c124)] (fun fb => by kernel_rfl) (by kernel_rfl) rfl [1, 2, 3, 4] (by decide) (by decide) (fun w128 hS129 => ?_)
 refine ⟨trivial, ?_⟩
 refine seg 11 [] [12, 13, 14, 15] [(12, (pt g81)), (13, (iv t74.2)), (14, (pt g125)), (15, (bv t118.2))] [] (fun fb => by kernel_rfl) rfl trivial ?_
 refine WL.done rfl (WX.next (WC.seq (WC.seq (WC.region ?_))))
 refine seg 2 [] [12, 13, 14, 80] [(12, (pt g81)), (13, (iv t74.2)), (14, (pt g125)), (80, (bv (!t118.2)))] [] (fun fb => by kernel_rfl) rfl trivial ?_
 refine WL.done rfl (WX.next ?_)
 rcases br_some hf with ⟨h130, hf⟩ | ⟨h130, hf⟩
 ·refine WC.condT2 (fun fb => by kernel_rfl) h130 ?_
  refine WC.seq (WC.region ?_)
  refine seg 3 [] [12, 83] [(12, (pt g81)), (83, (bv (t74.2 == 6)))] [] (fun fb => by kernel_rfl) rfl trivial ?_
  obtain ⟨x131, hx132, hf⟩ := bind_some hf
  refine WL.cutW (T := Bool) 7 (fun t => [(87, (bv t))]) (fun t w1 => (St NoS w w1 [rowR enc_Tile Aa ca p0, rowR encInt Ab cb p3.North, rowR encInt Ac cc p3.East, rowR encInt Ad cd p3.South, rowR encInt Ae ce p3.West, cel ⟨2, 0, none⟩ (iv mG)] [] ∧ x131 = t) ∧ CellsOK [] w1) (fun K => ?_) ?_
  ·
   rcases br_some hx132 with ⟨h133, hx132⟩ | ⟨h133, hx132⟩
   ·
    refine WL.setB 83 h133 rfl ?_
    refine seg 5 [.v (iv t74.1.Width), .v (iv t74.1.Height), .v (sv A79 t74.1.Cells c80)] [83, 84, 85] [(83, (bv true)), (84, (.agg #[(iv t74.1.Width), (iv t74.1.Height), (sv A79 t74.1.Cells c80)])), (85, (.agg #[(iv 0), (iv 0), (.slice none 0 0)]))] [.cell ⟨g81, 0, none⟩ (iv t74.1.Width), .cell ⟨g81, 1, none⟩ (iv t74.1.Height), .cell ⟨g81, 2, none⟩ (sv A79 t74.1.Cells c80)] (fun fb => by kernel_rfl) rfl ⟨hS129.cell 3 rfl 0 rfl, hS129.cell 3 rfl 1 rfl, hS129.cell 3 rfl 2 rfl, trivial⟩ ?_
    obtain ⟨t134, ht135, hx132⟩ := bind_some hx132
    refine WL.call (some 86) 32 #[(.agg #[(iv t74.1.Width), (iv t74.1.Height), (sv A79 t74.1.Cells c80)]), (.agg #[(iv 0), (iv 0), (.slice none 0 0)])] (fun fb => by kernel_rfl) (ref01_SamePattern_calls _ t74.1 (Pattern.mk 0 0 ([] : List Int)) A79 c80 none 0 t134 _ (hS129.ow 4).ofO (RO.nilR _ _ _) ht135) (fun v w136 hR137 => ?_)
    obtain ⟨rfl, hk_⟩ := hR137
    have hS138 := hS129.keepN hk_
    refine ⟨trivial, ?_⟩
    refine seg 7 [] [87] [(87, (bv t134))] [] (fun fb => by kernel_rfl) rfl trivial ?_
    injection hx132 with hx132
    exact WL.to K t134 [87] rfl ⟨⟨(hS138.subR [0, 1, 2, 3, 4, 5]).sub [] (by decide), hx132.symm⟩, trivial⟩
   refine WL.setB 83 h133 rfl ?_
   refine seg 7 [] [87] [(87, (bv false))] [] (fun fb => by kernel_rfl) rfl trivial ?_
   injection hx132 with hx132
   exact WL.to K false [87] rfl ⟨⟨(hS129.subR [0, 1, 2, 3, 4, 5]).sub [] (by decide), hx132.symm⟩, trivial⟩
  rintro y139 w141 ⟨⟨hS142, hq140⟩, hF143⟩
  subst hq140
  refine seg 8 [] [88] [(88, (bv x131))] [] (fun fb => by kernel_rfl) rfl trivial ?_
  obtain ⟨x144, hx145, hf⟩ := bind_some hf
  refine WL.cutW (T := Bool) 10 (fun t => [(90, (bv t))]) (fun t w1 => (St NoS w w1 [rowR enc_Tile Aa ca p0, rowR encInt Ab cb p3.North, rowR encInt Ac cc p3.East, rowR encInt Ad cd p3.South, rowR encInt Ae ce p3.West, cel ⟨2, 0, none⟩ (iv mG)] [] ∧ x144 = t) ∧ CellsOK [] w1) (fun K => ?_) ?_
  ·
   rcases br_some hx145 with ⟨h146, hx145⟩ | ⟨h146, hx145⟩
   ·
    refine WL.setB 88 h146 rfl ?_
    obtain ⟨t147, ht148, hx145⟩ := bind_some hx145
    refine WL.call (some 89) 26 #[] (fun fb => by kernel_rfl) (law02_awake_calls _ mG t147 _ (hS142.rd 5) ht148) (fun v w149 hR150 => ?_)
    obtain ⟨rfl, hk_⟩ := hR150
    have hS151 := hS142.keepN hk_
    refine ⟨trivial, ?_⟩
    refine seg 10 [] [90] [(90, (bv t147))] [] (fun fb => by kernel_rfl) rfl trivial ?_
    injection hx145 with hx145
    exact WL.to K t147 [90] rfl ⟨⟨(hS151.subR [0, 1, 2, 3, 4, 5]).sub [] (by decide), hx145.symm⟩, trivial⟩
   refine WL.setB 88 h146 rfl ?_
   refine seg 10 [] [90] [(90, (bv false))] [] (fun fb => by kernel_rfl) rfl trivial ?_
   injection hx145 with hx145
   exact WL.to K false [90] rfl ⟨⟨(hS142.subR [0, 1, 2, 3, 4, 5]).sub [] (by decide), hx145.symm⟩, trivial⟩
  rintro y152 w154 ⟨⟨hS155, hq153⟩, hF156⟩
  subst hq153
  refine seg 11 [] [8] [(8, (bv x144))] [] (fun fb => by kernel_rfl) rfl trivial ?_
  refine WL.done rfl (WX.next ?_)
  refine WC.ret ?_
  injection hf with hf
  subst hf
  exact WX.thenR (WX.ret_ [] (bv x144) [] (fun fb => by kernel_rfl) trivial ⟨_, rfl, rfl, hS155.keep⟩)
 refine WC.condF2 (fun fb => by kernel_rfl) h130 ?_
 refine WC.skip (WX.next (WC.seq (WC.region ?_)))
 refine seg 3 [] [12, 14, 93] [(12, (pt g81)), (14, (pt g125)), (93, (bv (t74.2 == 0)))] [] (fun fb => by kernel_rfl) rfl trivial ?_
 obtain ⟨x157, hx158, hf⟩ := bind_some hf
 refine WL.cutW (T := Bool) 7 (fun t => [(97, (bv t))]) (fun t w1 => (St NoS w w1 [rowR enc_Tile Aa ca p0, rowR encInt Ab cb p3.North, rowR encInt Ac cc p3.East, rowR encInt Ad cd p3.South, rowR encInt Ae ce p3.West, cel ⟨2, 0, none⟩ (iv mG)] [] ∧ x157 = t) ∧ CellsOK [] w1) (fun K => ?_) ?_
 ·
  rcases br_some hx158 with ⟨h159, hx158⟩ | ⟨h159, hx158⟩
  ·
   refine WL.setB 93 h159 rfl ?_
   refine seg 5 [.v (iv t74.1.Width), .v (iv t74.1.Height), .v (sv A79 t74.1.Cells c80), .v (iv t118.1.Width), .v (iv t118.1.Height), .v (sv A123 t118.1.Cells c124)] [93, 94, 95] [(93, (bv true)), (94, (.agg #[(iv t74.1.Width), (iv t74.1.Height), (sv A79 t74.1.Cells c80)])), (95, (.agg #[(iv t118.1.Width), (iv t118.1.Height), (sv A123 t118.1.Cells c124)]))] [.cell ⟨g81, 0, none⟩ (iv t74.1.Width), .cell ⟨g81, 1, none⟩ (iv t74.1.Height), .cell ⟨g81, 2, none⟩ (sv A79 t74.1.Cells c80), .cell ⟨g125, 0, none⟩ (iv t118.1.Width), .cell ⟨g125, 1, none⟩ (iv t118.1.Height), .cell ⟨g125, 2, none⟩ (sv A123 t118.1.Cells c124)] (fun fb => by kernel_rfl) rfl ⟨hS129.cell 3 rfl 0 rfl, hS129.cell 3 rfl 1 rfl, hS129.cell 3 rfl 2 rfl, hS129.cell 0 rfl 0 rfl, hS129.cell 0 rfl 1 rfl, hS129.cell 0 rfl 2 rfl, trivial⟩ ?_
   obtain ⟨t160, ht161, hx158⟩ := bind_some hx158
   refine WL.call (some 96) 32 #[(.agg #[(iv t74.1.Width), (iv t74.1.Height), (sv A79 t74.1.Cells c80)]), (.agg #[(iv t118.1.Width), (iv t118.1.Height), (sv A123 t118.1.Cells c124)])] (fun fb => by kernel_rfl) (ref01_SamePattern_calls _ t74.1 t118.1 A79 c80 A123 c124 t160 _ (hS129.ow 4).ofO (hS129.ow 1).ofO ht161) (fun v w162 hR163 => ?_)
   obtain ⟨rfl, hk_⟩ := hR163
   have hS164 := hS129.keepN hk_
   refine ⟨trivial, ?_⟩
   refine seg 7 [] [97] [(97, (bv t160))] [] (fun fb => by kernel_rfl) rfl trivial ?_
   injection hx158 with hx158
   exact WL.to K t160 [97] rfl ⟨⟨(hS164.subR [0, 1, 2, 3, 4, 5]).sub [] (by decide), hx158.symm⟩, trivial⟩
  refine WL.setB 93 h159 rfl ?_
  refine seg 7 [] [97] [(97, (bv false))] [] (fun fb => by kernel_rfl) rfl trivial ?_
  injection hx158 with hx158
  exact WL.to K false [97] rfl ⟨⟨(hS129.subR [0, 1, 2, 3, 4, 5]).sub [] (by decide), hx158.symm⟩, trivial⟩
 rintro y165 w167 ⟨⟨hS168, hq166⟩, hF169⟩
 subst hq166
 refine seg 8 [] [98] [(98, (bv x157))] [] (fun fb => by kernel_rfl) rfl trivial ?_
 obtain ⟨x170, hx171, hf⟩ := bind_some hf
 refine WL.cutW (T := Bool) 10 (fun t => [(100, (bv t))]) (fun t w1 => (St NoS w w1 [rowR enc_Tile Aa ca p0, rowR encInt Ab cb p3.North, rowR encInt Ac cc p3.East, rowR encInt Ad cd p3.South, rowR encInt Ae ce p3.West, cel ⟨2, 0, none⟩ (iv mG)] [] ∧ x170 = t) ∧ CellsOK [] w1) (fun K => ?_) ?_
 ·
  rcases br_some hx171 with ⟨h172, hx171⟩ | ⟨h172, hx171⟩
  ·
   refine WL.setB 98 h172 rfl ?_
   obtain ⟨t173, ht174, hx171⟩ := bind_some hx171
   refine WL.call (some 99) 26 #[] (fun fb => by kernel_rfl) (law02_awake_calls _ mG t173 _ (hS168.rd 5) ht174) (fun v w175 hR176 => ?_)
   obtain ⟨rfl, hk_⟩ := hR176
   have hS177 := hS168.keepN hk_
   refine ⟨trivial, ?_⟩
   refine seg 10 [] [100] [(100, (bv t173))] [] (fun fb => by kernel_rfl) rfl trivial ?_
   injection hx171 with hx171
   exact WL.to K t173 [100] rfl ⟨⟨(hS177.subR [0, 1, 2, 3, 4, 5]).sub [] (by decide), hx171.symm⟩, trivial⟩
  refine WL.setB 98 h172 rfl ?_
  refine seg 10 [] [100] [(100, (bv false))] [] (fun fb => by kernel_rfl) rfl trivial ?_
  injection hx171 with hx171
  exact WL.to K false [100] rfl ⟨⟨(hS168.subR [0, 1, 2, 3, 4, 5]).sub [] (by decide), hx171.symm⟩, trivial⟩
 rintro y178 w180 ⟨⟨hS181, hq179⟩, hF182⟩
 subst hq179
 refine seg 11 [] [8] [(8, (bv x170))] [] (fun fb => by kernel_rfl) rfl trivial ?_
 refine WL.done rfl (WX.next ?_)
 refine WC.ret ?_
 injection hf with hf
 subst hf
 exact WX.ret_ [] (bv x170) [] (fun fb => by kernel_rfl) trivial ⟨_, rfl, rfl, hS181.keep⟩
end Gp
