/- Walks: each function of the program computes its plain function. -/
import Derived.Test.YtjfmjfheeijfiaaDoorGx0
set_option linter.unusedVariables false
set_option linter.unusedSimpArgs false
set_option maxHeartbeats 4000000
namespace Gp
open Go Gw Go.Proofs
theorem fill_job_allows_calls (k : Nat) (p0 : Job) (p1 : Row) (p2 : Int) (g_p0 : Nat) (A_p0_rows : Option Addr) (c_p0_rows : Nat) (H_p0_rows : Nat → HF) (A_p0_edges_North : Option Addr) (c_p0_edges_North : Nat) (A_p0_edges_East : Option Addr) (c_p0_edges_East : Nat) (A_p0_edges_South : Option Addr) (c_p0_edges_South : Nat) (A_p0_edges_West : Option Addr) (c_p0_edges_West : Nat) (A_p1_Cells : Option Addr) (c_p1_Cells : Nat) (r : Bool) (w : World) (hR0 : RO NoS w (blk g_p0 (.cells #[(sv A_p0_rows p0.rows c_p0_rows), (iv p0.width), (iv p0.height), (sv A_p0_edges_North p0.edges.North c_p0_edges_North), (sv A_p0_edges_East p0.edges.East c_p0_edges_East), (sv A_p0_edges_South p0.edges.South c_p0_edges_South), (sv A_p0_edges_West p0.edges.West c_p0_edges_West)] 81 (0, 0)))) (hR1 : RO NoS w (rowR encN_Row A_p0_rows c_p0_rows (tag H_p0_rows p0.rows))) (hR2 : RO NoS w (nestO subN_Row H_p0_rows p0.rows)) (hR3 : RO NoS w (rowR encInt A_p0_edges_North c_p0_edges_North p0.edges.North)) (hR4 : RO NoS w (rowR encInt A_p0_edges_East c_p0_edges_East p0.edges.East)) (hR5 : RO NoS w (rowR encInt A_p0_edges_South c_p0_edges_South p0.edges.South)) (hR6 : RO NoS w (rowR encInt A_p0_edges_West c_p0_edges_West p0.edges.West)) (hR7 : RO NoS w (rowR encInt A_p1_Cells c_p1_Cells p1.Cells)) (hf : fill_job_allows k p0 p1 p2 = some r) :
  CallsR Tryd.prog 60 #[(pt g_p0), (.agg #[(sv A_p1_Cells p1.Cells c_p1_Cells), (iv p1.South.e0), (iv p1.South.e1), (iv p1.South.e2), (iv p1.South.e3), (iv p1.South.e4), (iv p1.South.e5), (iv p1.South.e6), (iv p1.South.e7), (iv p1.North.e0), (iv p1.North.e1), (iv p1.North.e2), (iv p1.North.e3), (iv p1.North.e4), (iv p1.North.e5), (iv p1.North.e6), (iv p1.North.e7), (iv p1.West), (iv p1.East)]), (iv p2)] w (fun v w' => v = (bv r) ∧ Keeps NoS w w') := by
 have hS : St NoS w w [blk g_p0 (.cells #[(sv A_p0_rows p0.rows c_p0_rows), (iv p0.width), (iv p0.height), (sv A_p0_edges_North p0.edges.North c_p0_edges_North), (sv A_p0_edges_East p0.edges.East c_p0_edges_East), (sv A_p0_edges_South p0.edges.South c_p0_edges_South), (sv A_p0_edges_West p0.edges.West c_p0_edges_West)] 81 (0, 0)), rowR encN_Row A_p0_rows c_p0_rows (tag H_p0_rows p0.rows), nestO subN_Row H_p0_rows p0.rows, rowR encInt A_p0_edges_North c_p0_edges_North p0.edges.North, rowR encInt A_p0_edges_East c_p0_edges_East p0.edges.East, rowR encInt A_p0_edges_South c_p0_edges_South p0.edges.South, rowR encInt A_p0_edges_West c_p0_edges_West p0.edges.West, rowR encInt A_p1_Cells c_p1_Cells p1.Cells] [] := St.init (ro_cons hR0 (ro_cons hR1 (ro_cons hR2 (ro_cons hR3 (ro_cons hR4 (ro_cons hR5 (ro_cons hR6 (ro_cons hR7 (ro_nil _ _)))))))))
 refine enter 77 Tryd.func60 rfl Tryd.ntmps60 rfl ?_
 unfold fill_job_allows at hf
 refine WC.seq ?_
 refine WC.region ?_
 refine WL.new hS 4 [] (fun g => (pt g)) (.cells #[(sv A_p1_Cells p1.Cells c_p1_Cells), (iv p1.South.e0), (iv p1.South.e1), (iv p1.South.e2), (iv p1.South.e3), (iv p1.South.e4), (iv p1.South.e5), (iv p1.South.e6), (iv p1.South.e7), (iv p1.North.e0), (iv p1.North.e1), (iv p1.North.e2), (iv p1.North.e3), (iv p1.North.e4), (iv p1.North.e5), (iv p1.North.e6), (iv p1.North.e7), (iv p1.West), (iv p1.East)] 85 (0, 0)) [] (fun fb g => by kernel_rfl) trivial (fun g9 w10 hS11 => ?_)
 refine ⟨trivial, ?_⟩
 refine seg 2 [] [0, 2, 4] [(0, (pt g_p0)), (2, (iv p2)), (4, (pt g9))] [] (fun fb => by kernel_rfl) rfl trivial ?_
 refine WL.done rfl ?_
 refine WX.next ?_
 refine WC.seq ?_
 refine WC.seq ?_
 refine WC.regionD ([(4, ⟨g_p0, 6, none⟩, (sv A_p0_edges_West p0.edges.West c_p0_edges_West)), (7, ⟨g9, 17, none⟩, (iv p1.West)), (18, ⟨g9, 18, none⟩, (iv p1.East))], [0, 1, 2, 3, 4, 5, 6, 7, 9, 10, 11, 12, 13, 14, 16, 17, 18, 20, 21], [[], [0], [0, 1], [0, 1, 2], [0, 1, 2, 3], [], [], [6], [0, 1, 2, 3, 4, 5, 6, 7], [0, 1, 2, 3, 4, 5, 6, 7, 8], [0, 1, 2, 3, 4, 5, 6, 7, 8, 9], [0, 1, 2, 3, 4, 5, 6, 7, 8, 9, 10], [0, 1, 2, 3, 4, 5, 6, 7, 8, 9, 10, 11], [0, 1, 2, 3, 4, 5, 6, 7, 8, 9, 10, 11, 12], [0, 1, 2, 3, 4, 5, 6, 7, 8, 9, 10, 11, 12, 13], [0, 1, 2, 3, 4, 5, 6, 7, 8, 9, 10, 11, 12, 13, 14], [0, 1, 2, 3, 4, 5, 6, 7, 8, 9, 10], [0, 1, 2, 3, 4, 5, 6, 7, 8, 9, 10], [0, 1, 2, 3, 4, 5, 6, 7, 8, 9, 10, 17], [0, 1, 2, 3, 4, 5, 6, 7, 8, 9, 10, 11, 12, 13, 14, 15, 16, 17, 18], [0, 1, 2, 3, 4, 5, 6, 7, 8, 9, 10, 11, 12, 13, 14, 15, 16, 17, 18, 19], [0, 1, 2, 3, 4, 5, 6, 7, 8, 9, 10, 11, 12, 13, 14, 15, 16, 17, 18, 19, 20]]) [[0, 1, 2, 3, 4, 5, 6, 7, 8, 9, 10, 11, 12, 13, 14, 16, 17, 18, 15, 19, 20, 21]] (by kernel_rfl) (by kernel_rfl) (NoPanic.seq (NoPanic.seq (NoPanic.body))) ?_
 have hS13 := hS11.drew
 revert hS13
 generalize World.drew w10 = w12
 intro hS13
 refine ⟨⟨blk_cell (hS13.rd 0).1 6 rfl, hS13.cell 0 rfl 17 rfl, hS13.cell 0 rfl 18 rfl, trivial⟩, forallC ?_ (forallN)⟩
 refine segF 8 [.v (sv A_p0_edges_West p0.edges.West c_p0_edges_West), .v (iv p1.West)] [0, 2, 4, 12, 13, 15] [(0, (pt g_p0)), (2, (iv p2)), (4, (pt g9)), (12, (sv A_p0_edges_West p0.edges.West c_p0_edges_West)), (13, (iv p2)), (15, (iv p1.West))] [] [0, 1] [(4, ⟨g_p0, 6, none⟩, (sv A_p0_edges_West p0.edges.West c_p0_edges_West)), (7, ⟨g9, 17, none⟩, (iv p1.West))] (fun fb => by kernel_rfl) rfl trivial rfl ?_
 obtain ⟨t14, ht15, hf⟩ := bind_some hf
 refine WL.call (some 16) 84 #[(sv A_p0_edges_West p0.edges.West c_p0_edges_West), (iv p2), (iv p1.West)] (fun fb => by kernel_rfl) (fill_at_calls p0.edges.West p2 p1.West A_p0_edges_West c_p0_edges_West t14 _ (hS13.rd 6) ht15) (fun v w16 hR17 => ?_)
 obtain ⟨rfl, hk_⟩ := hR17
 have hS18 := hS13.keepN hk_
 refine ⟨⟨hS18.cell 0 rfl 18 rfl, trivial⟩, ?_⟩
 refine seg 11 [] [0, 2, 4, 18] [(0, (pt g_p0)), (2, (iv p2)), (4, (pt g9)), (18, (bv (!t14)))] [] (fun fb => by kernel_rfl) rfl trivial ?_
 obtain ⟨x19, hx20, hf⟩ := bind_some hf
 refine WL.cutW (T := Bool) 22 (fun t => [(0, (pt g_p0)), (2, (iv p2)), (4, (pt g9)), (29, (bv t))]) (fun t w1 => (St NoS w w1 [blk g_p0 (.cells #[(sv A_p0_rows p0.rows c_p0_rows), (iv p0.width), (iv p0.height), (sv A_p0_edges_North p0.edges.North c_p0_edges_North), (sv A_p0_edges_East p0.edges.East c_p0_edges_East), (sv A_p0_edges_South p0.edges.South c_p0_edges_South), (sv A_p0_edges_West p0.edges.West c_p0_edges_West)] 81 (0, 0)), rowR encN_Row A_p0_rows c_p0_rows (tag H_p0_rows p0.rows), nestO subN_Row H_p0_rows p0.rows, rowR encInt A_p0_edges_North c_p0_edges_North p0.edges.North, rowR encInt A_p0_edges_East c_p0_edges_East p0.edges.East, rowR encInt A_p0_edges_South c_p0_edges_South p0.edges.South, rowR encInt A_p0_edges_West c_p0_edges_West p0.edges.West, rowR encInt A_p1_Cells c_p1_Cells p1.Cells] [blk g9 (.cells #[(sv A_p1_Cells p1.Cells c_p1_Cells), (iv p1.South.e0), (iv p1.South.e1), (iv p1.South.e2), (iv p1.South.e3), (iv p1.South.e4), (iv p1.South.e5), (iv p1.South.e6), (iv p1.South.e7), (iv p1.North.e0), (iv p1.North.e1), (iv p1.North.e2), (iv p1.North.e3), (iv p1.North.e4), (iv p1.North.e5), (iv p1.North.e6), (iv p1.North.e7), (iv p1.West), (iv p1.East)] 85 (0, 0))] ∧ x19 = t) ∧ CellsOK [] w1) (fun K => ?_) ?_
 ·
  rcases br_some hx20 with ⟨h21, hx20⟩ | ⟨h21, hx20⟩
  ·
   refine WL.setB 18 h21 rfl ?_
   refine seg 22 [] [0, 2, 4, 29] [(0, (pt g_p0)), (2, (iv p2)), (4, (pt g9)), (29, (bv true))] [] (fun fb => by kernel_rfl) rfl trivial ?_
   injection hx20 with hx20
   exact WL.to K true [0, 2, 4, 29] rfl ⟨⟨(hS18.subR [0, 1, 2, 3, 4, 5, 6, 7]).sub [0] (by decide), hx20.symm⟩, trivial⟩
  refine WL.setB 18 h21 rfl ?_
  refine segF 19 [.v (iv p1.East), .v (sv A_p0_edges_East p0.edges.East c_p0_edges_East)] [0, 2, 4, 18, 23, 24, 26] [(0, (pt g_p0)), (2, (iv p2)), (4, (pt g9)), (18, (bv false)), (23, (sv A_p0_edges_East p0.edges.East c_p0_edges_East)), (24, (iv p2)), (26, (iv p1.East))] [.cell ⟨g_p0, 4, none⟩ (sv A_p0_edges_East p0.edges.East c_p0_edges_East)] [2] [(18, ⟨g9, 18, none⟩, (iv p1.East))] (fun fb => by kernel_rfl) rfl ⟨blk_cell (hS18.rd 0).1 4 rfl, trivial⟩ rfl ?_
  obtain ⟨t22, ht23, hx20⟩ := bind_some hx20
  refine WL.call (some 27) 84 #[(sv A_p0_edges_East p0.edges.East c_p0_edges_East), (iv p2), (iv p1.East)] (fun fb => by kernel_rfl) (fill_at_calls p0.edges.East p2 p1.East A_p0_edges_East c_p0_edges_East t22 _ (hS18.rd 4) ht23) (fun v w24 hR25 => ?_)
  obtain ⟨rfl, hk_⟩ := hR25
  have hS26 := hS18.keepN hk_
  refine ⟨trivial, ?_⟩
  refine seg 22 [] [0, 2, 4, 29] [(0, (pt g_p0)), (2, (iv p2)), (4, (pt g9)), (29, (bv (!t22)))] [] (fun fb => by kernel_rfl) rfl trivial ?_
  injection hx20 with hx20
  exact WL.to K (!t22) [0, 2, 4, 29] rfl ⟨⟨(hS26.subR [0, 1, 2, 3, 4, 5, 6, 7]).sub [0] (by decide), hx20.symm⟩, trivial⟩
 rintro y27 w29 ⟨⟨hS30, hq28⟩, hF31⟩
 subst hq28
 refine WL.done rfl ?_
 refine WX.next ?_
 rcases br_some hf with ⟨h32, hf⟩ | ⟨h32, hf⟩
 ·refine WC.condT2 (fun fb => by kernel_rfl) h32 ?_
  refine WC.seq ?_
  refine WC.region ?_
  refine seg 1 [] [6] [(6, (bv false))] [] (fun fb => by kernel_rfl) rfl trivial ?_
  refine WL.done rfl ?_
  refine WX.next ?_
  refine WC.ret ?_
  injection hf with hf
  subst hf
  exact WX.thenR (WX.ret_ [] (bv false) [] (fun fb => by kernel_rfl) trivial ⟨_, rfl, rfl, hS30.keep⟩)
 refine WC.condF2 (fun fb => by kernel_rfl) h32 ?_
 refine WC.skip ?_
 refine WX.next ?_
 refine WC.seq ?_
 refine WC.seq ?_
 refine WC.region ?_
 refine seg 5 [.v (iv p0.width)] [0, 2, 4, 33, 34] [(0, (pt g_p0)), (2, (iv p2)), (4, (pt g9)), (33, (iv p0.width)), (34, (iv 0))] [.cell ⟨g_p0, 1, none⟩ (iv p0.width)] (fun fb => by kernel_rfl) rfl ⟨blk_cell (hS30.rd 0).1 1 rfl, trivial⟩ ?_
 refine WL.done rfl ?_
 refine WX.next ?_
 obtain ⟨x34, hx35, hf⟩ := bind_some hf
 refine WC.cutN (T := Unit) (fun t => []) (fun t w1 => St NoS w w1 [blk g_p0 (.cells #[(sv A_p0_rows p0.rows c_p0_rows), (iv p0.width), (iv p0.height), (sv A_p0_edges_North p0.edges.North c_p0_edges_North), (sv A_p0_edges_East p0.edges.East c_p0_edges_East), (sv A_p0_edges_South p0.edges.South c_p0_edges_South), (sv A_p0_edges_West p0.edges.West c_p0_edges_West)] 81 (0, 0)), rowR encN_Row A_p0_rows c_p0_rows (tag H_p0_rows p0.rows), nestO subN_Row H_p0_rows p0.rows, rowR encInt A_p0_edges_North c_p0_edges_North p0.edges.North, rowR encInt A_p0_edges_East c_p0_edges_East p0.edges.East, rowR encInt A_p0_edges_South c_p0_edges_South p0.edges.South, rowR encInt A_p0_edges_West c_p0_edges_West p0.edges.West, rowR encInt A_p1_Cells c_p1_Cells p1.Cells] [] ∧ x34 = .inr t) (fun Kx34 => ?_) ?_
 ·
  refine WC.block ?_
  refine WC.loop (T := Int) (fun t => [(0, (pt g_p0)), (2, (iv p2)), (4, (pt g9)), (33, (iv p0.width)), (34, (iv t))]) (fun n t w1 => St NoS w w1 [blk g_p0 (.cells #[(sv A_p0_rows p0.rows c_p0_rows), (iv p0.width), (iv p0.height), (sv A_p0_edges_North p0.edges.North c_p0_edges_North), (sv A_p0_edges_East p0.edges.East c_p0_edges_East), (sv A_p0_edges_South p0.edges.South c_p0_edges_South), (sv A_p0_edges_West p0.edges.West c_p0_edges_West)] 81 (0, 0)), rowR encN_Row A_p0_rows c_p0_rows (tag H_p0_rows p0.rows), nestO subN_Row H_p0_rows p0.rows, rowR encInt A_p0_edges_North c_p0_edges_North p0.edges.North, rowR encInt A_p0_edges_East c_p0_edges_East p0.edges.East, rowR encInt A_p0_edges_South c_p0_edges_South p0.edges.South, rowR encInt A_p0_edges_West c_p0_edges_West p0.edges.West, rowR encInt A_p1_Cells c_p1_Cells p1.Cells] [blk g9 (.cells #[(sv A_p1_Cells p1.Cells c_p1_Cells), (iv p1.South.e0), (iv p1.South.e1), (iv p1.South.e2), (iv p1.South.e3), (iv p1.South.e4), (iv p1.South.e5), (iv p1.South.e6), (iv p1.South.e7), (iv p1.North.e0), (iv p1.North.e1), (iv p1.North.e2), (iv p1.North.e3), (iv p1.North.e4), (iv p1.North.e5), (iv p1.North.e6), (iv p1.North.e7), (iv p1.West), (iv p1.East)] 85 (0, 0))] ∧ fill_job_allows.l0 n t p0 p1 p2 = some x34) k 0 [0, 2, 4, 33, 34] rfl ⟨(hS30.subR [0, 1, 2, 3, 4, 5, 6, 7]).sub [0] (by decide), hx35⟩ ?_
  rintro k36 x33 w37 ⟨hS38, hl39⟩
  cases k36 with
  | zero => rw [fill_job_allows.l0] at hl39; cases hl39
  | succ k36 =>
   rw [fill_job_allows.l0] at hl39
   refine WC.seq ?_
   refine WC.region ?_
   refine seg 1 [] [0, 2, 4, 33, 34, 35] [(0, (pt g_p0)), (2, (iv p2)), (4, (pt g9)), (33, (iv p0.width)), (34, (iv x33)), (35, (bv (decide (x33 < p0.width))))] [] (fun fb => by kernel_rfl) rfl trivial ?_
   refine WL.done rfl ?_
   refine WX.next ?_
   refine WC.seq ?_
   rcases br_some hl39 with ⟨h40, hl39⟩ | ⟨h40, hl39⟩
   ·refine WC.condT2 (fun fb => by kernel_rfl) h40 ?_
    refine WC.skip ?_
    refine WX.next ?_
    refine WC.seq ?_
    refine WC.block ?_
    refine WC.seq ?_
    refine WC.region ?_
    refine seg 2 [] [0, 2, 4, 7, 33, 34] [(0, (pt g_p0)), (2, (iv p2)), (4, (pt g9)), (7, (iv x33)), (33, (iv p0.width)), (34, (iv x33))] [] (fun fb => by kernel_rfl) rfl trivial ?_
    refine WL.done rfl ?_
    refine WX.next ?_
    refine WC.seq ?_
    obtain ⟨x41, hx42, hl39⟩ := bind_some hl39
    refine WC.cutN (T := Bool) (fun t => [(0, (pt g_p0)), (2, (iv p2)), (4, (pt g9)), (33, (iv p0.width)), (34, (iv x33)), (75, (bv t))]) (fun t w1 => St NoS w w1 [blk g_p0 (.cells #[(sv A_p0_rows p0.rows c_p0_rows), (iv p0.width), (iv p0.height), (sv A_p0_edges_North p0.edges.North c_p0_edges_North), (sv A_p0_edges_East p0.edges.East c_p0_edges_East), (sv A_p0_edges_South p0.edges.South c_p0_edges_South), (sv A_p0_edges_West p0.edges.West c_p0_edges_West)] 81 (0, 0)), rowR encN_Row A_p0_rows c_p0_rows (tag H_p0_rows p0.rows), nestO subN_Row H_p0_rows p0.rows, rowR encInt A_p0_edges_North c_p0_edges_North p0.edges.North, rowR encInt A_p0_edges_East c_p0_edges_East p0.edges.East, rowR encInt A_p0_edges_South c_p0_edges_South p0.edges.South, rowR encInt A_p0_edges_West c_p0_edges_West p0.edges.West, rowR encInt A_p1_Cells c_p1_Cells p1.Cells] [blk g9 (.cells #[(sv A_p1_Cells p1.Cells c_p1_Cells), (iv p1.South.e0), (iv p1.South.e1), (iv p1.South.e2), (iv p1.South.e3), (iv p1.South.e4), (iv p1.South.e5), (iv p1.South.e6), (iv p1.South.e7), (iv p1.North.e0), (iv p1.North.e1), (iv p1.North.e2), (iv p1.North.e3), (iv p1.North.e4), (iv p1.North.e5), (iv p1.North.e6), (iv p1.North.e7), (iv p1.West), (iv p1.East)] 85 (0, 0))] ∧ x41 = t) (fun Kx41 => ?_) ?_
    ·
     rcases br_some hx42 with ⟨h43, hx42⟩ | ⟨h43, hx42⟩
     ·
      rcases br_some hx42 with ⟨h44, hx42⟩ | ⟨h44, hx42⟩
      ·
       obtain ⟨h47, hx42⟩ := as_some hx42
       refine WC.regionD ([(7, ⟨g_p0, 5, none⟩, (sv A_p0_edges_South p0.edges.South c_p0_edges_South)), (12, (flatA ⟨g9, 1, none⟩ (x33.toNat * 1)), (iv (A8_Int.get p1.South x33)))], [0, 1, 2, 3, 4, 5, 6, 7, 8, 9, 10, 11, 12, 14, 15, 16, 17, 18, 19, 20, 22, 23, 24, 25, 26, 27, 28, 30, 31, 32, 33, 36, 37, 38], [[], [0], [0, 1], [0, 1, 2], [0, 1, 2, 3], [0, 1, 2, 3, 4], [0, 1, 2, 3, 4, 5], [0, 1, 2, 3, 4, 5, 6], [0, 1, 2], [0, 1, 2], [0, 1, 2], [0, 1, 2, 9, 10], [0, 1, 2, 9, 10, 11], [0, 1, 2, 3, 4, 5, 6, 7, 8, 9, 10, 11, 12], [0, 1, 2, 3, 4, 5, 6, 7, 8, 9, 10, 11, 12, 13], [0, 1, 2, 3, 4, 5, 6, 7, 8, 9, 10, 11, 12, 13, 14], [0, 1, 2, 3, 4, 5, 6, 7, 8, 9, 10, 11, 12, 13, 14, 15], [0, 1, 2, 3, 4, 5, 6, 7, 8, 9, 10, 11, 12, 13, 14, 15, 16], [0, 1, 2, 3, 4, 5, 6, 7, 8, 9, 10, 11, 12, 13, 14, 15, 16], [0, 1, 2, 3, 4, 5, 6, 7, 8, 9, 10, 11, 12, 13, 14, 15, 16, 18], [0, 1, 2, 3, 4, 5, 6, 7, 8, 9, 10, 11, 12, 13, 14, 15, 16, 18, 19], [0, 1, 2, 3, 4, 5, 6, 7, 8, 9, 10, 11, 12, 13, 14, 15, 16, 18, 19, 20], [0, 1, 2, 3, 4, 5, 6, 7, 8, 9, 10, 11, 12, 13, 14, 15, 16, 18, 19, 20, 21], [0, 1, 2, 3, 4, 5, 6, 7, 8, 9, 10, 11, 12, 13, 14, 15, 16, 17, 18, 19, 20, 21, 22], [0, 1, 2, 3, 4, 5, 6, 7, 8, 9, 10, 11, 12, 13, 14, 15, 16, 17, 18, 19, 20, 21, 22, 23], [0, 1, 2, 3, 4, 5, 6, 7, 8, 9, 10, 11, 12, 13, 14, 15, 16, 17, 18, 19, 20, 21, 22, 23, 24], [0, 1, 2, 3, 4, 5, 6, 7, 8, 9, 10, 11, 12, 13, 14, 15, 16, 17, 18, 19, 20, 21, 22, 23, 24, 25], [0, 1, 2, 3, 4, 5, 6, 7, 8, 9, 10, 11, 12, 13, 14, 15, 16, 17, 18, 19, 20, 21, 22, 23, 24, 25, 26], [0, 1, 2, 3, 4, 5, 6, 7, 8, 9, 10, 11, 12, 13, 14, 15, 16, 17, 18, 19, 20, 21, 22, 23, 24, 25, 26, 27], [0, 1, 2, 3, 4, 5, 6, 7, 8, 9, 10, 11, 12, 13, 14, 15, 16, 17, 18, 19, 20, 21, 22, 23, 24, 25, 26, 27, 28], [0, 1, 2, 3, 4, 5, 6, 7, 8, 9, 10, 11, 12, 13, 14, 15, 16, 17, 18, 19, 20, 21, 22, 23, 24], [0, 1, 2, 3, 4, 5, 6, 7, 8, 9, 10, 11, 12, 13, 14, 15, 16, 17, 18, 19, 20, 21, 22, 23, 24], [0, 1, 2, 3, 4, 5, 6, 7, 8, 9, 10, 11, 12, 13, 14, 15, 16, 17, 18, 19, 20, 21, 22, 23, 24], [0, 1, 2, 3, 4, 5, 6, 7, 8, 9, 10, 11, 12, 13, 14, 15, 16, 17, 18, 19, 20, 21, 22, 23, 24, 31, 32], [0, 1, 2, 3, 4, 5, 6, 7, 8, 9, 10, 11, 12, 13, 14, 15, 16, 17, 18, 19, 20, 21, 22, 23, 24, 31, 32, 33], [0, 1, 2, 3, 4, 5, 6, 7, 8, 9, 10, 11, 12, 13, 14, 15, 16, 17, 18, 19, 20, 21, 22, 23, 24, 25, 26, 27, 28, 29, 30, 31, 32, 33, 34], [0, 1, 2, 3, 4, 5, 6, 7, 8, 9, 10, 11, 12, 13, 14, 15, 16, 17, 18, 19, 20, 21, 22, 23, 24, 25, 26, 27, 28, 29, 30, 31, 32, 33, 34, 35], [0, 1, 2, 3, 4, 5, 6, 7, 8, 9, 10, 11, 12, 13, 14, 15, 16, 17, 18, 19, 20, 21, 22, 23, 24, 25, 26, 27, 28, 29, 30, 31, 32, 33, 34, 35, 36], [0, 1, 2, 3, 4, 5, 6, 7, 8, 9, 10, 11, 12, 13, 14, 15, 16, 17, 18, 19, 20, 21, 22, 23, 24, 25, 26, 27, 28, 29, 30, 31, 32, 33, 34, 35, 36, 37]]) [[0, 1, 2, 3, 4, 5, 6, 7, 8, 9, 10, 11, 12, 13, 14, 15, 16, 17, 18, 19, 20, 21, 22, 23, 24, 25, 26, 27, 28, 30, 31, 32, 33, 29, 34, 35, 36, 37, 38], [0, 1, 2, 3, 4, 5, 6, 7, 8, 9, 10, 11, 12, 13, 14, 15, 16, 17, 18, 19, 20, 21, 22, 23, 24, 25, 26, 27, 28, 30, 31, 32, 33, 34, 29, 35, 36, 37, 38]] (by kernel_rfl) (by kernel_rfl) (NoPanic.seq (NoPanic.block (NoPanic.seq (NoPanic.seq (NoPanic.block (NoPanic.seq (NoPanic.body))))))) ?_
       have hS46 := hS38.drew
       revert hS46
       generalize World.drew w37 = w45
       intro hS46
       refine ⟨⟨blk_cell (hS46.rd 0).1 5 rfl, hS46.cell 0 rfl _ (cases8 (Q := fun z_ => (#[(sv A_p1_Cells p1.Cells c_p1_Cells), (iv p1.South.e0), (iv p1.South.e1), (iv p1.South.e2), (iv p1.South.e3), (iv p1.South.e4), (iv p1.South.e5), (iv p1.South.e6), (iv p1.South.e7), (iv p1.North.e0), (iv p1.North.e1), (iv p1.North.e2), (iv p1.North.e3), (iv p1.North.e4), (iv p1.North.e5), (iv p1.North.e6), (iv p1.North.e7), (iv p1.West), (iv p1.East)] : Array Value)[1 + z_.toNat * 1]? = some (iv (A8_Int.get p1.South z_))) h47 (by kernel_rfl) (by kernel_rfl) (by kernel_rfl) (by kernel_rfl) (by kernel_rfl) (by kernel_rfl) (by kernel_rfl) (by kernel_rfl)), trivial⟩, forallC ?_ (forallC ?_ (forallN))⟩
       ·
        refine seg 3 [] [0, 2, 4, 7, 33, 34, 39] [(0, (pt g_p0)), (2, (iv p2)), (4, (pt g9)), (7, (iv x33)), (33, (iv p0.width)), (34, (iv x33)), (39, (bv (p2 == 0)))] [] (fun fb => by kernel_rfl) rfl trivial ?_
        refine WL.setB 39 h43 rfl ?_
        refine segF 13 [.v (sv A_p0_edges_South p0.edges.South c_p0_edges_South), .v (iv (A8_Int.get p1.South x33))] [0, 2, 4, 7, 33, 34, 39, 44, 45, 49] [(0, (pt g_p0)), (2, (iv p2)), (4, (pt g9)), (7, (iv x33)), (33, (iv p0.width)), (34, (iv x33)), (39, (bv true)), (44, (sv A_p0_edges_South p0.edges.South c_p0_edges_South)), (45, (iv x33)), (49, (iv (A8_Int.get p1.South x33)))] [.idx (some ⟨0, 0, none⟩) x33 8] [0, 1] [(7, ⟨g_p0, 5, none⟩, (sv A_p0_edges_South p0.edges.South c_p0_edges_South)), (12, (flatA ⟨g9, 1, none⟩ (x33.toNat * 1)), (iv (A8_Int.get p1.South x33)))] (fun fb => by kernel_rfl) rfl ⟨⟨h47.1, h47.2, rfl⟩, trivial⟩ rfl ?_
        obtain ⟨t48, ht49, hx42⟩ := bind_some hx42
        refine WL.call (some 50) 84 #[(sv A_p0_edges_South p0.edges.South c_p0_edges_South), (iv x33), (iv (A8_Int.get p1.South x33))] (fun fb => by kernel_rfl) (fill_at_calls p0.edges.South x33 (A8_Int.get p1.South x33) A_p0_edges_South c_p0_edges_South t48 _ (hS46.rd 5) ht49) (fun v w50 hR51 => ?_)
        obtain ⟨rfl, hk_⟩ := hR51
        have hS52 := hS46.keepN hk_
        refine ⟨trivial, ?_⟩
        refine seg 17 [] [0, 2, 4, 7, 33, 34, 53] [(0, (pt g_p0)), (2, (iv p2)), (4, (pt g9)), (7, (iv x33)), (33, (iv p0.width)), (34, (iv x33)), (53, (bv (!t48)))] [] (fun fb => by kernel_rfl) rfl trivial ?_
        obtain ⟨x53, hx54, hx42⟩ := bind_some hx42
        refine WL.cutW (T := Bool) 39 (fun t => [(0, (pt g_p0)), (2, (iv p2)), (4, (pt g9)), (33, (iv p0.width)), (34, (iv x33)), (75, (bv t))]) (fun t w1 => (St NoS w w1 [blk g_p0 (.cells #[(sv A_p0_rows p0.rows c_p0_rows), (iv p0.width), (iv p0.height), (sv A_p0_edges_North p0.edges.North c_p0_edges_North), (sv A_p0_edges_East p0.edges.East c_p0_edges_East), (sv A_p0_edges_South p0.edges.South c_p0_edges_South), (sv A_p0_edges_West p0.edges.West c_p0_edges_West)] 81 (0, 0)), rowR encN_Row A_p0_rows c_p0_rows (tag H_p0_rows p0.rows), nestO subN_Row H_p0_rows p0.rows, rowR encInt A_p0_edges_North c_p0_edges_North p0.edges.North, rowR encInt A_p0_edges_East c_p0_edges_East p0.edges.East, rowR encInt A_p0_edges_South c_p0_edges_South p0.edges.South, rowR encInt A_p0_edges_West c_p0_edges_West p0.edges.West, rowR encInt A_p1_Cells c_p1_Cells p1.Cells] [blk g9 (.cells #[(sv A_p1_Cells p1.Cells c_p1_Cells), (iv p1.South.e0), (iv p1.South.e1), (iv p1.South.e2), (iv p1.South.e3), (iv p1.South.e4), (iv p1.South.e5), (iv p1.South.e6), (iv p1.South.e7), (iv p1.North.e0), (iv p1.North.e1), (iv p1.North.e2), (iv p1.North.e3), (iv p1.North.e4), (iv p1.North.e5), (iv p1.North.e6), (iv p1.North.e7), (iv p1.West), (iv p1.East)] 85 (0, 0))] ∧ x53 = t) ∧ CellsOK [] w1) (fun K => ?_) ?_
        ·
         rcases br_some hx54 with ⟨h55, hx54⟩ | ⟨h55, hx54⟩
         ·
          refine WL.setB 53 h55 rfl ?_
          refine seg 39 [] [0, 2, 4, 33, 34, 75] [(0, (pt g_p0)), (2, (iv p2)), (4, (pt g9)), (33, (iv p0.width)), (34, (iv x33)), (75, (bv true))] [] (fun fb => by kernel_rfl) rfl trivial ?_
          injection hx54 with hx54
          exact WL.to K true [0, 2, 4, 33, 34, 75] rfl ⟨⟨(hS52.subR [0, 1, 2, 3, 4, 5, 6, 7]).sub [0] (by decide), hx54.symm⟩, trivial⟩
         refine WL.setB 53 h55 rfl ?_
         refine seg 25 [.v (iv p0.height)] [0, 2, 4, 7, 33, 34, 53, 61] [(0, (pt g_p0)), (2, (iv p2)), (4, (pt g9)), (7, (iv x33)), (33, (iv p0.width)), (34, (iv x33)), (53, (bv false)), (61, (bv (p2 == (w64 (p0.height - 1)))))] [.cell ⟨g_p0, 2, none⟩ (iv p0.height)] (fun fb => by kernel_rfl) rfl ⟨blk_cell (hS52.rd 0).1 2 rfl, trivial⟩ ?_
         refine WL.setB 61 h44 rfl ?_
         refine seg 35 [.v (sv A_p0_edges_North p0.edges.North c_p0_edges_North), .v (iv (A8_Int.get p1.North x33))] [0, 2, 4, 33, 34, 53, 61, 66, 67, 71] [(0, (pt g_p0)), (2, (iv p2)), (4, (pt g9)), (33, (iv p0.width)), (34, (iv x33)), (53, (bv false)), (61, (bv true)), (66, (sv A_p0_edges_North p0.edges.North c_p0_edges_North)), (67, (iv x33)), (71, (iv (A8_Int.get p1.North x33)))] [.idx (some ⟨0, 0, none⟩) x33 8, .cell ⟨g_p0, 3, none⟩ (sv A_p0_edges_North p0.edges.North c_p0_edges_North), .cell (flatA ⟨g9, 9, none⟩ (x33.toNat * 1)) (iv (A8_Int.get p1.North x33))] (fun fb => by kernel_rfl) rfl ⟨⟨h47.1, h47.2, rfl⟩, blk_cell (hS52.rd 0).1 3 rfl, hS52.cell 0 rfl _ (cases8 (Q := fun z_ => (#[(sv A_p1_Cells p1.Cells c_p1_Cells), (iv p1.South.e0), (iv p1.South.e1), (iv p1.South.e2), (iv p1.South.e3), (iv p1.South.e4), (iv p1.South.e5), (iv p1.South.e6), (iv p1.South.e7), (iv p1.North.e0), (iv p1.North.e1), (iv p1.North.e2), (iv p1.North.e3), (iv p1.North.e4), (iv p1.North.e5), (iv p1.North.e6), (iv p1.North.e7), (iv p1.West), (iv p1.East)] : Array Value)[9 + z_.toNat * 1]? = some (iv (A8_Int.get p1.North z_))) h47 (by kernel_rfl) (by kernel_rfl) (by kernel_rfl) (by kernel_rfl) (by kernel_rfl) (by kernel_rfl) (by kernel_rfl) (by kernel_rfl)), trivial⟩ ?_
         obtain ⟨t56, ht57, hx54⟩ := bind_some hx54
         refine WL.call (some 72) 84 #[(sv A_p0_edges_North p0.edges.North c_p0_edges_North), (iv x33), (iv (A8_Int.get p1.North x33))] (fun fb => by kernel_rfl) (fill_at_calls p0.edges.North x33 (A8_Int.get p1.North x33) A_p0_edges_North c_p0_edges_North t56 _ (hS52.rd 3) ht57) (fun v w58 hR59 => ?_)
         obtain ⟨rfl, hk_⟩ := hR59
         have hS61 := hS52.keepN hk_
         refine ⟨trivial, ?_⟩
         refine seg 39 [] [0, 2, 4, 33, 34, 75] [(0, (pt g_p0)), (2, (iv p2)), (4, (pt g9)), (33, (iv p0.width)), (34, (iv x33)), (75, (bv (!t56)))] [] (fun fb => by kernel_rfl) rfl trivial ?_
         injection hx54 with hx54
         exact WL.to K (!t56) [0, 2, 4, 33, 34, 75] rfl ⟨⟨(hS61.subR [0, 1, 2, 3, 4, 5, 6, 7]).sub [0] (by decide), hx54.symm⟩, trivial⟩
        rintro y62 w65 ⟨⟨hS66, hq63⟩, hF67⟩
        subst hq63
        refine WL.done rfl ?_
        injection hx42 with hx42
        exact WX.to Kx41 x53 [0, 2, 4, 33, 34, 75] rfl ⟨(hS66.subR [0, 1, 2, 3, 4, 5, 6, 7]).sub [0] (by decide), hx42.symm⟩
       refine seg 3 [] [0, 2, 4, 7, 33, 34, 39] [(0, (pt g_p0)), (2, (iv p2)), (4, (pt g9)), (7, (iv x33)), (33, (iv p0.width)), (34, (iv x33)), (39, (bv (p2 == 0)))] [] (fun fb => by kernel_rfl) rfl trivial ?_
       refine WL.setB 39 h43 rfl ?_
       refine segF 13 [.v (sv A_p0_edges_South p0.edges.South c_p0_edges_South), .v (iv (A8_Int.get p1.South x33))] [0, 2, 4, 7, 33, 34, 39, 44, 45, 49] [(0, (pt g_p0)), (2, (iv p2)), (4, (pt g9)), (7, (iv x33)), (33, (iv p0.width)), (34, (iv x33)), (39, (bv true)), (44, (sv A_p0_edges_South p0.edges.South c_p0_edges_South)), (45, (iv x33)), (49, (iv (A8_Int.get p1.South x33)))] [.idx (some ⟨0, 0, none⟩) x33 8] [0, 1] [(7, ⟨g_p0, 5, none⟩, (sv A_p0_edges_South p0.edges.South c_p0_edges_South)), (12, (flatA ⟨g9, 1, none⟩ (x33.toNat * 1)), (iv (A8_Int.get p1.South x33)))] (fun fb => by kernel_rfl) rfl ⟨⟨h47.1, h47.2, rfl⟩, trivial⟩ rfl ?_
       obtain ⟨t68, ht69, hx42⟩ := bind_some hx42
       refine WL.call (some 50) 84 #[(sv A_p0_edges_South p0.edges.South c_p0_edges_South), (iv x33), (iv (A8_Int.get p1.South x33))] (fun fb => by kernel_rfl) (fill_at_calls p0.edges.South x33 (A8_Int.get p1.South x33) A_p0_edges_South c_p0_edges_South t68 _ (hS46.rd 5) ht69) (fun v w70 hR71 => ?_)
       obtain ⟨rfl, hk_⟩ := hR71
       have hS72 := hS46.keepN hk_
       refine ⟨trivial, ?_⟩
       refine seg 17 [] [0, 2, 4, 7, 33, 34, 53] [(0, (pt g_p0)), (2, (iv p2)), (4, (pt g9)), (7, (iv x33)), (33, (iv p0.width)), (34, (iv x33)), (53, (bv (!t68)))] [] (fun fb => by kernel_rfl) rfl trivial ?_
       obtain ⟨x73, hx74, hx42⟩ := bind_some hx42
       refine WL.cutW (T := Bool) 39 (fun t => [(0, (pt g_p0)), (2, (iv p2)), (4, (pt g9)), (33, (iv p0.width)), (34, (iv x33)), (75, (bv t))]) (fun t w1 => (St NoS w w1 [blk g_p0 (.cells #[(sv A_p0_rows p0.rows c_p0_rows), (iv p0.width), (iv p0.height), (sv A_p0_edges_North p0.edges.North c_p0_edges_North), (sv A_p0_edges_East p0.edges.East c_p0_edges_East), (sv A_p0_edges_South p0.edges.South c_p0_edges_South), (sv A_p0_edges_West p0.edges.West c_p0_edges_West)] 81 (0, 0)), rowR encN_Row A_p0_rows c_p0_rows (tag H_p0_rows p0.rows), nestO subN_Row H_p0_rows p0.rows, rowR encInt A_p0_edges_North c_p0_edges_North p0.edges.North, rowR encInt A_p0_edges_East c_p0_edges_East p0.edges.East, rowR encInt A_p0_edges_South c_p0_edges_South p0.edges.South, rowR encInt A_p0_edges_West c_p0_edges_West p0.edges.West, rowR encInt A_p1_Cells c_p1_Cells p1.Cells] [blk g9 (.cells #[(sv A_p1_Cells p1.Cells c_p1_Cells), (iv p1.South.e0), (iv p1.South.e1), (iv p1.South.e2), (iv p1.South.e3), (iv p1.South.e4), (iv p1.South.e5), (iv p1.South.e6), (iv p1.South.e7), (iv p1.North.e0), (iv p1.North.e1), (iv p1.North.e2), (iv p1.North.e3), (iv p1.North.e4), (iv p1.North.e5), (iv p1.North.e6), (iv p1.North.e7), (iv p1.West), (iv p1.East)] 85 (0, 0))] ∧ x73 = t) ∧ CellsOK [] w1) (fun K => ?_) ?_
       ·
        rcases br_some hx74 with ⟨h75, hx74⟩ | ⟨h75, hx74⟩
        ·
         refine WL.setB 53 h75 rfl ?_
         refine seg 39 [] [0, 2, 4, 33, 34, 75] [(0, (pt g_p0)), (2, (iv p2)), (4, (pt g9)), (33, (iv p0.width)), (34, (iv x33)), (75, (bv true))] [] (fun fb => by kernel_rfl) rfl trivial ?_
         injection hx74 with hx74
         exact WL.to K true [0, 2, 4, 33, 34, 75] rfl ⟨⟨(hS72.subR [0, 1, 2, 3, 4, 5, 6, 7]).sub [0] (by decide), hx74.symm⟩, trivial⟩
        refine WL.setB 53 h75 rfl ?_
        refine seg 25 [.v (iv p0.height)] [0, 2, 4, 7, 33, 34, 53, 61] [(0, (pt g_p0)), (2, (iv p2)), (4, (pt g9)), (7, (iv x33)), (33, (iv p0.width)), (34, (iv x33)), (53, (bv false)), (61, (bv (p2 == (w64 (p0.height - 1)))))] [.cell ⟨g_p0, 2, none⟩ (iv p0.height)] (fun fb => by kernel_rfl) rfl ⟨blk_cell (hS72.rd 0).1 2 rfl, trivial⟩ ?_
        refine WL.setB 61 h44 rfl ?_
        refine seg 35 [.v (iv (A8_Int.get p1.North x33)), .v (sv A_p0_edges_North p0.edges.North c_p0_edges_North)] [0, 2, 4, 33, 34, 53, 61, 66, 67, 71] [(0, (pt g_p0)), (2, (iv p2)), (4, (pt g9)), (33, (iv p0.width)), (34, (iv x33)), (53, (bv false)), (61, (bv true)), (66, (sv A_p0_edges_North p0.edges.North c_p0_edges_North)), (67, (iv x33)), (71, (iv (A8_Int.get p1.North x33)))] [.idx (some ⟨0, 0, none⟩) x33 8, .cell (flatA ⟨g9, 9, none⟩ (x33.toNat * 1)) (iv (A8_Int.get p1.North x33)), .cell ⟨g_p0, 3, none⟩ (sv A_p0_edges_North p0.edges.North c_p0_edges_North)] (fun fb => by kernel_rfl) rfl ⟨⟨h47.1, h47.2, rfl⟩, hS72.cell 0 rfl _ (cases8 (Q := fun z_ => (#[(sv A_p1_Cells p1.Cells c_p1_Cells), (iv p1.South.e0), (iv p1.South.e1), (iv p1.South.e2), (iv p1.South.e3), (iv p1.South.e4), (iv p1.South.e5), (iv p1.South.e6), (iv p1.South.e7), (iv p1.North.e0), (iv p1.North.e1), (iv p1.North.e2), (iv p1.North.e3), (iv p1.North.e4), (iv p1.North.e5), (iv p1.North.e6), (iv p1.North.e7), (iv p1.West), (iv p1.East)] : Array Value)[9 + z_.toNat * 1]? = some (iv (A8_Int.get p1.North z_))) h47 (by kernel_rfl) (by kernel_rfl) (by kernel_rfl) (by kernel_rfl) (by kernel_rfl) (by kernel_rfl) (by kernel_rfl) (by kernel_rfl)), blk_cell (hS72.rd 0).1 3 rfl, trivial⟩ ?_
        obtain ⟨t76, ht77, hx74⟩ := bind_some hx74
        refine WL.call (some 72) 84 #[(sv A_p0_edges_North p0.edges.North c_p0_edges_North), (iv x33), (iv (A8_Int.get p1.North x33))] (fun fb => by kernel_rfl) (fill_at_calls p0.edges.North x33 (A8_Int.get p1.North x33) A_p0_edges_North c_p0_edges_North t76 _ (hS72.rd 3) ht77) (fun v w78 hR79 => ?_)
        obtain ⟨rfl, hk_⟩ := hR79
        have hS80 := hS72.keepN hk_
        refine ⟨trivial, ?_⟩
        refine seg 39 [] [0, 2, 4, 33, 34, 75] [(0, (pt g_p0)), (2, (iv p2)), (4, (pt g9)), (33, (iv p0.width)), (34, (iv x33)), (75, (bv (!t76)))] [] (fun fb => by kernel_rfl) rfl trivial ?_
        injection hx74 with hx74
        exact WL.to K (!t76) [0, 2, 4, 33, 34, 75] rfl ⟨⟨(hS80.subR [0, 1, 2, 3, 4, 5, 6, 7]).sub [0] (by decide), hx74.symm⟩, trivial⟩
       rintro y81 w83 ⟨⟨hS84, hq82⟩, hF85⟩
       subst hq82
       refine WL.done rfl ?_
       injection hx42 with hx42
       exact WX.to Kx41 x73 [0, 2, 4, 33, 34, 75] rfl ⟨(hS84.subR [0, 1, 2, 3, 4, 5, 6, 7]).sub [0] (by decide), hx42.symm⟩
      obtain ⟨h88, hx42⟩ := as_some hx42
      refine WC.regionD ([(7, ⟨g_p0, 5, none⟩, (sv A_p0_edges_South p0.edges.South c_p0_edges_South)), (12, (flatA ⟨g9, 1, none⟩ (x33.toNat * 1)), (iv (A8_Int.get p1.South x33)))], [0, 1, 2, 3, 4, 5, 6, 7, 8, 9, 10, 11, 12, 14, 15, 16, 17, 18, 19, 20, 22, 23, 24, 25, 26, 27, 28, 30, 31, 32, 33, 36, 37, 38], [[], [0], [0, 1], [0, 1, 2], [0, 1, 2, 3], [0, 1, 2, 3, 4], [0, 1, 2, 3, 4, 5], [0, 1, 2, 3, 4, 5, 6], [0, 1, 2], [0, 1, 2], [0, 1, 2], [0, 1, 2, 9, 10], [0, 1, 2, 9, 10, 11], [0, 1, 2, 3, 4, 5, 6, 7, 8, 9, 10, 11, 12], [0, 1, 2, 3, 4, 5, 6, 7, 8, 9, 10, 11, 12, 13], [0, 1, 2, 3, 4, 5, 6, 7, 8, 9, 10, 11, 12, 13, 14], [0, 1, 2, 3, 4, 5, 6, 7, 8, 9, 10, 11, 12, 13, 14, 15], [0, 1, 2, 3, 4, 5, 6, 7, 8, 9, 10, 11, 12, 13, 14, 15, 16], [0, 1, 2, 3, 4, 5, 6, 7, 8, 9, 10, 11, 12, 13, 14, 15, 16], [0, 1, 2, 3, 4, 5, 6, 7, 8, 9, 10, 11, 12, 13, 14, 15, 16, 18], [0, 1, 2, 3, 4, 5, 6, 7, 8, 9, 10, 11, 12, 13, 14, 15, 16, 18, 19], [0, 1, 2, 3, 4, 5, 6, 7, 8, 9, 10, 11, 12, 13, 14, 15, 16, 18, 19, 20], [0, 1, 2, 3, 4, 5, 6, 7, 8, 9, 10, 11, 12, 13, 14, 15, 16, 18, 19, 20, 21], [0, 1, 2, 3, 4, 5, 6, 7, 8, 9, 10, 11, 12, 13, 14, 15, 16, 17, 18, 19, 20, 21, 22], [0, 1, 2, 3, 4, 5, 6, 7, 8, 9, 10, 11, 12, 13, 14, 15, 16, 17, 18, 19, 20, 21, 22, 23], [0, 1, 2, 3, 4, 5, 6, 7, 8, 9, 10, 11, 12, 13, 14, 15, 16, 17, 18, 19, 20, 21, 22, 23, 24], [0, 1, 2, 3, 4, 5, 6, 7, 8, 9, 10, 11, 12, 13, 14, 15, 16, 17, 18, 19, 20, 21, 22, 23, 24, 25], [0, 1, 2, 3, 4, 5, 6, 7, 8, 9, 10, 11, 12, 13, 14, 15, 16, 17, 18, 19, 20, 21, 22, 23, 24, 25, 26], [0, 1, 2, 3, 4, 5, 6, 7, 8, 9, 10, 11, 12, 13, 14, 15, 16, 17, 18, 19, 20, 21, 22, 23, 24, 25, 26, 27], [0, 1, 2, 3, 4, 5, 6, 7, 8, 9, 10, 11, 12, 13, 14, 15, 16, 17, 18, 19, 20, 21, 22, 23, 24, 25, 26, 27, 28], [0, 1, 2, 3, 4, 5, 6, 7, 8, 9, 10, 11, 12, 13, 14, 15, 16, 17, 18, 19, 20, 21, 22, 23, 24], [0, 1, 2, 3, 4, 5, 6, 7, 8, 9, 10, 11, 12, 13, 14, 15, 16, 17, 18, 19, 20, 21, 22, 23, 24], [0, 1, 2, 3, 4, 5, 6, 7, 8, 9, 10, 11, 12, 13, 14, 15, 16, 17, 18, 19, 20, 21, 22, 23, 24], [0, 1, 2, 3, 4, 5, 6, 7, 8, 9, 10, 11, 12, 13, 14, 15, 16, 17, 18, 19, 20, 21, 22, 23, 24, 31, 32], [0, 1, 2, 3, 4, 5, 6, 7, 8, 9, 10, 11, 12, 13, 14, 15, 16, 17, 18, 19, 20, 21, 22, 23, 24, 31, 32, 33], [0, 1, 2, 3, 4, 5, 6, 7, 8, 9, 10, 11, 12, 13, 14, 15, 16, 17, 18, 19, 20, 21, 22, 23, 24, 25, 26, 27, 28, 29, 30, 31, 32, 33, 34], [0, 1, 2, 3, 4, 5, 6, 7, 8, 9, 10, 11, 12, 13, 14, 15, 16, 17, 18, 19, 20, 21, 22, 23, 24, 25, 26, 27, 28, 29, 30, 31, 32, 33, 34, 35], [0, 1, 2, 3, 4, 5, 6, 7, 8, 9, 10, 11, 12, 13, 14, 15, 16, 17, 18, 19, 20, 21, 22, 23, 24, 25, 26, 27, 28, 29, 30, 31, 32, 33, 34, 35, 36], [0, 1, 2, 3, 4, 5, 6, 7, 8, 9, 10, 11, 12, 13, 14, 15, 16, 17, 18, 19, 20, 21, 22, 23, 24, 25, 26, 27, 28, 29, 30, 31, 32, 33, 34, 35, 36, 37]]) [[0, 1, 2, 3, 4, 5, 6, 7, 8, 9, 10, 11, 12, 13, 14, 15, 16, 17, 18, 19, 20, 21, 22, 23, 24, 25, 26, 27, 28, 30, 31, 32, 33, 29, 34, 35, 36, 37, 38], [0, 1, 2, 3, 4, 5, 6, 7, 8, 9, 10, 11, 12, 13, 14, 15, 16, 17, 18, 19, 20, 21, 22, 23, 24, 25, 26, 27, 28, 30, 31, 32, 33, 34, 29, 35, 36, 37, 38]] (by kernel_rfl) (by kernel_rfl) (NoPanic.seq (NoPanic.block (NoPanic.seq (NoPanic.seq (NoPanic.block (NoPanic.seq (NoPanic.body))))))) ?_
      have hS87 := hS38.drew
      revert hS87
      generalize World.drew w37 = w86
      intro hS87
      refine ⟨⟨blk_cell (hS87.rd 0).1 5 rfl, hS87.cell 0 rfl _ (cases8 (Q := fun z_ => (#[(sv A_p1_Cells p1.Cells c_p1_Cells), (iv p1.South.e0), (iv p1.South.e1), (iv p1.South.e2), (iv p1.South.e3), (iv p1.South.e4), (iv p1.South.e5), (iv p1.South.e6), (iv p1.South.e7), (iv p1.North.e0), (iv p1.North.e1), (iv p1.North.e2), (iv p1.North.e3), (iv p1.North.e4), (iv p1.North.e5), (iv p1.North.e6), (iv p1.North.e7), (iv p1.West), (iv p1.East)] : Array Value)[1 + z_.toNat * 1]? = some (iv (A8_Int.get p1.South z_))) h88 (by kernel_rfl) (by kernel_rfl) (by kernel_rfl) (by kernel_rfl) (by kernel_rfl) (by kernel_rfl) (by kernel_rfl) (by kernel_rfl)), trivial⟩, forallC ?_ (forallC ?_ (forallN))⟩
      ·
       refine seg 3 [] [0, 2, 4, 7, 33, 34, 39] [(0, (pt g_p0)), (2, (iv p2)), (4, (pt g9)), (7, (iv x33)), (33, (iv p0.width)), (34, (iv x33)), (39, (bv (p2 == 0)))] [] (fun fb => by kernel_rfl) rfl trivial ?_
       refine WL.setB 39 h43 rfl ?_
       refine segF 13 [.v (sv A_p0_edges_South p0.edges.South c_p0_edges_South), .v (iv (A8_Int.get p1.South x33))] [0, 2, 4, 7, 33, 34, 39, 44, 45, 49] [(0, (pt g_p0)), (2, (iv p2)), (4, (pt g9)), (7, (iv x33)), (33, (iv p0.width)), (34, (iv x33)), (39, (bv true)), (44, (sv A_p0_edges_South p0.edges.South c_p0_edges_South)), (45, (iv x33)), (49, (iv (A8_Int.get p1.South x33)))] [.idx (some ⟨0, 0, none⟩) x33 8] [0, 1] [(7, ⟨g_p0, 5, none⟩, (sv A_p0_edges_South p0.edges.South c_p0_edges_South)), (12, (flatA ⟨g9, 1, none⟩ (x33.toNat * 1)), (iv (A8_Int.get p1.South x33)))] (fun fb => by kernel_rfl) rfl ⟨⟨h88.1, h88.2, rfl⟩, trivial⟩ rfl ?_
       obtain ⟨t89, ht90, hx42⟩ := bind_some hx42
       refine WL.call (some 50) 84 #[(sv A_p0_edges_South p0.edges.South c_p0_edges_South), (iv x33), (iv (A8_Int.get p1.South x33))] (fun fb => by kernel_rfl) (fill_at_calls p0.edges.South x33 (A8_Int.get p1.South x33) A_p0_edges_South c_p0_edges_South t89 _ (hS87.rd 5) ht90) (fun v w91 hR92 => ?_)
       obtain ⟨rfl, hk_⟩ := hR92
       have hS93 := hS87.keepN hk_
       refine ⟨trivial, ?_⟩
       refine seg 17 [] [0, 2, 4, 7, 33, 34, 53] [(0, (pt g_p0)), (2, (iv p2)), (4, (pt g9)), (7, (iv x33)), (33, (iv p0.width)), (34, (iv x33)), (53, (bv (!t89)))] [] (fun fb => by kernel_rfl) rfl trivial ?_
       refine WL.cutV (T := Bool) 39 (fun t => [(75, (bv t)), (0, (pt g_p0)), (2, (iv p2)), (4, (pt g9)), (33, (iv p0.width)), (34, (iv x33))]) (fun t => (!t89) = t) (fun K => ?_) ?_
       ·
        rcases Bool.eq_false_or_eq_true (!t89) with h94 | h94
        ·
         refine WL.setB 53 h94 rfl ?_
         refine seg 39 [] [0, 2, 4, 33, 34, 75] [(0, (pt g_p0)), (2, (iv p2)), (4, (pt g9)), (33, (iv p0.width)), (34, (iv x33)), (75, (bv true))] [] (fun fb => by kernel_rfl) rfl trivial ?_
         exact WL.toV K true [75, 0, 2, 4, 33, 34] rfl (by first | (rw [h94]; done) | (rw [h94]; rfl))
        refine WL.setB 53 h94 rfl ?_
        refine seg 25 [.v (iv p0.height)] [0, 2, 4, 7, 33, 34, 53, 61] [(0, (pt g_p0)), (2, (iv p2)), (4, (pt g9)), (7, (iv x33)), (33, (iv p0.width)), (34, (iv x33)), (53, (bv false)), (61, (bv (p2 == (w64 (p0.height - 1)))))] [.cell ⟨g_p0, 2, none⟩ (iv p0.height)] (fun fb => by kernel_rfl) rfl ⟨blk_cell (hS93.rd 0).1 2 rfl, trivial⟩ ?_
        refine WL.setB 61 h44 rfl ?_
        refine seg 39 [] [0, 2, 4, 33, 34, 75] [(0, (pt g_p0)), (2, (iv p2)), (4, (pt g9)), (33, (iv p0.width)), (34, (iv x33)), (75, (bv false))] [] (fun fb => by kernel_rfl) rfl trivial ?_
        exact WL.toV K false [75, 0, 2, 4, 33, 34] rfl (by first | (rw [h94]; done) | (rw [h94]; rfl))
       rintro b95 rfl
       refine WL.done rfl ?_
       injection hx42 with hx42
       exact WX.to Kx41 (!t89) [0, 2, 4, 33, 34, 75] rfl ⟨(hS93.subR [0, 1, 2, 3, 4, 5, 6, 7]).sub [0] (by decide), hx42.symm⟩
      refine seg 3 [] [0, 2, 4, 7, 33, 34, 39] [(0, (pt g_p0)), (2, (iv p2)), (4, (pt g9)), (7, (iv x33)), (33, (iv p0.width)), (34, (iv x33)), (39, (bv (p2 == 0)))] [] (fun fb => by kernel_rfl) rfl trivial ?_
      refine WL.setB 39 h43 rfl ?_
      refine segF 13 [.v (sv A_p0_edges_South p0.edges.South c_p0_edges_South), .v (iv (A8_Int.get p1.South x33))] [0, 2, 4, 7, 33, 34, 39, 44, 45, 49] [(0, (pt g_p0)), (2, (iv p2)), (4, (pt g9)), (7, (iv x33)), (33, (iv p0.width)), (34, (iv x33)), (39, (bv true)), (44, (sv A_p0_edges_South p0.edges.South c_p0_edges_South)), (45, (iv x33)), (49, (iv (A8_Int.get p1.South x33)))] [.idx (some ⟨0, 0, none⟩) x33 8] [0, 1] [(7, ⟨g_p0, 5, none⟩, (sv A_p0_edges_South p0.edges.South c_p0_edges_South)), (12, (flatA ⟨g9, 1, none⟩ (x33.toNat * 1)), (iv (A8_Int.get p1.South x33)))] (fun fb => by kernel_rfl) rfl ⟨⟨h88.1, h88.2, rfl⟩, trivial⟩ rfl ?_
      obtain ⟨t96, ht97, hx42⟩ := bind_some hx42
      refine WL.call (some 50) 84 #[(sv A_p0_edges_South p0.edges.South c_p0_edges_South), (iv x33), (iv (A8_Int.get p1.South x33))] (fun fb => by kernel_rfl) (fill_at_calls p0.edges.South x33 (A8_Int.get p1.South x33) A_p0_edges_South c_p0_edges_South t96 _ (hS87.rd 5) ht97) (fun v w98 hR99 => ?_)
      obtain ⟨rfl, hk_⟩ := hR99
      have hS100 := hS87.keepN hk_
      refine ⟨trivial, ?_⟩
      refine seg 17 [] [0, 2, 4, 7, 33, 34, 53] [(0, (pt g_p0)), (2, (iv p2)), (4, (pt g9)), (7, (iv x33)), (33, (iv p0.width)), (34, (iv x33)), (53, (bv (!t96)))] [] (fun fb => by kernel_rfl) rfl trivial ?_
      refine WL.cutV (T := Bool) 39 (fun t => [(75, (bv t)), (0, (pt g_p0)), (2, (iv p2)), (4, (pt g9)), (33, (iv p0.width)), (34, (iv x33))]) (fun t => (!t96) = t) (fun K => ?_) ?_
      ·
       rcases Bool.eq_false_or_eq_true (!t96) with h101 | h101
       ·
        refine WL.setB 53 h101 rfl ?_
        refine seg 39 [] [0, 2, 4, 33, 34, 75] [(0, (pt g_p0)), (2, (iv p2)), (4, (pt g9)), (33, (iv p0.width)), (34, (iv x33)), (75, (bv true))] [] (fun fb => by kernel_rfl) rfl trivial ?_
        exact WL.toV K true [75, 0, 2, 4, 33, 34] rfl (by first | (rw [h101]; done) | (rw [h101]; rfl))
       refine WL.setB 53 h101 rfl ?_
       refine seg 25 [.v (iv p0.height)] [0, 2, 4, 7, 33, 34, 53, 61] [(0, (pt g_p0)), (2, (iv p2)), (4, (pt g9)), (7, (iv x33)), (33, (iv p0.width)), (34, (iv x33)), (53, (bv false)), (61, (bv (p2 == (w64 (p0.height - 1)))))] [.cell ⟨g_p0, 2, none⟩ (iv p0.height)] (fun fb => by kernel_rfl) rfl ⟨blk_cell (hS100.rd 0).1 2 rfl, trivial⟩ ?_
       refine WL.setB 61 h44 rfl ?_
       refine seg 39 [] [0, 2, 4, 33, 34, 75] [(0, (pt g_p0)), (2, (iv p2)), (4, (pt g9)), (33, (iv p0.width)), (34, (iv x33)), (75, (bv false))] [] (fun fb => by kernel_rfl) rfl trivial ?_
       exact WL.toV K false [75, 0, 2, 4, 33, 34] rfl (by first | (rw [h101]; done) | (rw [h101]; rfl))
      rintro b102 rfl
      refine WL.done rfl ?_
      injection hx42 with hx42
      exact WX.to Kx41 (!t96) [0, 2, 4, 33, 34, 75] rfl ⟨(hS100.subR [0, 1, 2, 3, 4, 5, 6, 7]).sub [0] (by decide), hx42.symm⟩
     rcases br_some hx42 with ⟨h103, hx42⟩ | ⟨h103, hx42⟩
     ·
      refine WC.regionD ([], [0, 1, 2, 3, 4, 5, 6, 7, 8, 9, 10, 11, 12, 14, 15, 16, 17, 18, 19, 20, 22, 23, 24, 25, 26, 27, 28, 30, 31, 32, 33, 36, 37, 38], [[], [0], [0, 1], [0, 1, 2], [0, 1, 2, 3], [0, 1, 2, 3, 4], [0, 1, 2, 3, 4, 5], [0, 1, 2, 3, 4, 5, 6], [0, 1, 2], [0, 1, 2], [0, 1, 2], [0, 1, 2, 9, 10], [0, 1, 2, 9, 10, 11], [0, 1, 2, 3, 4, 5, 6, 7, 8, 9, 10, 11, 12], [0, 1, 2, 3, 4, 5, 6, 7, 8, 9, 10, 11, 12, 13], [0, 1, 2, 3, 4, 5, 6, 7, 8, 9, 10, 11, 12, 13, 14], [0, 1, 2, 3, 4, 5, 6, 7, 8, 9, 10, 11, 12, 13, 14, 15], [0, 1, 2, 3, 4, 5, 6, 7, 8, 9, 10, 11, 12, 13, 14, 15, 16], [0, 1, 2, 3, 4, 5, 6, 7, 8, 9, 10, 11, 12, 13, 14, 15, 16], [0, 1, 2, 3, 4, 5, 6, 7, 8, 9, 10, 11, 12, 13, 14, 15, 16, 18], [0, 1, 2, 3, 4, 5, 6, 7, 8, 9, 10, 11, 12, 13, 14, 15, 16, 18, 19], [0, 1, 2, 3, 4, 5, 6, 7, 8, 9, 10, 11, 12, 13, 14, 15, 16, 18, 19, 20], [0, 1, 2, 3, 4, 5, 6, 7, 8, 9, 10, 11, 12, 13, 14, 15, 16, 18, 19, 20, 21], [0, 1, 2, 3, 4, 5, 6, 7, 8, 9, 10, 11, 12, 13, 14, 15, 16, 17, 18, 19, 20, 21, 22], [0, 1, 2, 3, 4, 5, 6, 7, 8, 9, 10, 11, 12, 13, 14, 15, 16, 17, 18, 19, 20, 21, 22, 23], [0, 1, 2, 3, 4, 5, 6, 7, 8, 9, 10, 11, 12, 13, 14, 15, 16, 17, 18, 19, 20, 21, 22, 23, 24], [0, 1, 2, 3, 4, 5, 6, 7, 8, 9, 10, 11, 12, 13, 14, 15, 16, 17, 18, 19, 20, 21, 22, 23, 24, 25], [0, 1, 2, 3, 4, 5, 6, 7, 8, 9, 10, 11, 12, 13, 14, 15, 16, 17, 18, 19, 20, 21, 22, 23, 24, 25, 26], [0, 1, 2, 3, 4, 5, 6, 7, 8, 9, 10, 11, 12, 13, 14, 15, 16, 17, 18, 19, 20, 21, 22, 23, 24, 25, 26, 27], [0, 1, 2, 3, 4, 5, 6, 7, 8, 9, 10, 11, 12, 13, 14, 15, 16, 17, 18, 19, 20, 21, 22, 23, 24, 25, 26, 27, 28], [0, 1, 2, 3, 4, 5, 6, 7, 8, 9, 10, 11, 12, 13, 14, 15, 16, 17, 18, 19, 20, 21, 22, 23, 24], [0, 1, 2, 3, 4, 5, 6, 7, 8, 9, 10, 11, 12, 13, 14, 15, 16, 17, 18, 19, 20, 21, 22, 23, 24], [0, 1, 2, 3, 4, 5, 6, 7, 8, 9, 10, 11, 12, 13, 14, 15, 16, 17, 18, 19, 20, 21, 22, 23, 24], [0, 1, 2, 3, 4, 5, 6, 7, 8, 9, 10, 11, 12, 13, 14, 15, 16, 17, 18, 19, 20, 21, 22, 23, 24, 31, 32], [0, 1, 2, 3, 4, 5, 6, 7, 8, 9, 10, 11, 12, 13, 14, 15, 16, 17, 18, 19, 20, 21, 22, 23, 24, 31, 32, 33], [0, 1, 2, 3, 4, 5, 6, 7, 8, 9, 10, 11, 12, 13, 14, 15, 16, 17, 18, 19, 20, 21, 22, 23, 24, 25, 26, 27, 28, 29, 30, 31, 32, 33, 34], [0, 1, 2, 3, 4, 5, 6, 7, 8, 9, 10, 11, 12, 13, 14, 15, 16, 17, 18, 19, 20, 21, 22, 23, 24, 25, 26, 27, 28, 29, 30, 31, 32, 33, 34, 35], [0, 1, 2, 3, 4, 5, 6, 7, 8, 9, 10, 11, 12, 13, 14, 15, 16, 17, 18, 19, 20, 21, 22, 23, 24, 25, 26, 27, 28, 29, 30, 31, 32, 33, 34, 35, 36], [0, 1, 2, 3, 4, 5, 6, 7, 8, 9, 10, 11, 12, 13, 14, 15, 16, 17, 18, 19, 20, 21, 22, 23, 24, 25, 26, 27, 28, 29, 30, 31, 32, 33, 34, 35, 36, 37]]) [[0, 1, 2, 3, 4, 5, 6, 7, 8, 9, 10, 11, 12, 13, 14, 15, 16, 17, 18, 19, 20, 21, 22, 23, 24, 25, 26, 27, 28, 30, 31, 32, 33, 29, 34, 35, 36, 37, 38], [0, 1, 2, 3, 4, 5, 6, 7, 8, 9, 10, 11, 12, 13, 14, 15, 16, 17, 18, 19, 20, 21, 22, 23, 24, 25, 26, 27, 28, 30, 31, 32, 33, 34, 29, 35, 36, 37, 38]] (by kernel_rfl) (by kernel_rfl) (NoPanic.seq (NoPanic.block (NoPanic.seq (NoPanic.seq (NoPanic.block (NoPanic.seq (NoPanic.body))))))) ?_
      have hS105 := hS38.drew
      revert hS105
      generalize World.drew w37 = w104
      intro hS105
      refine ⟨trivial, forallC ?_ (forallC ?_ (forallN))⟩
      ·
       refine seg 3 [] [0, 2, 4, 7, 33, 34, 39] [(0, (pt g_p0)), (2, (iv p2)), (4, (pt g9)), (7, (iv x33)), (33, (iv p0.width)), (34, (iv x33)), (39, (bv (p2 == 0)))] [] (fun fb => by kernel_rfl) rfl trivial ?_
       refine WL.setB 39 h43 rfl ?_
       refine seg 25 [.v (iv p0.height)] [0, 2, 4, 7, 33, 34, 53, 61] [(0, (pt g_p0)), (2, (iv p2)), (4, (pt g9)), (7, (iv x33)), (33, (iv p0.width)), (34, (iv x33)), (53, (bv false)), (61, (bv (p2 == (w64 (p0.height - 1)))))] [.cell ⟨g_p0, 2, none⟩ (iv p0.height)] (fun fb => by kernel_rfl) rfl ⟨blk_cell (hS105.rd 0).1 2 rfl, trivial⟩ ?_
       refine WL.setB 61 h103 rfl ?_
       refine seg 32 [] [0, 2, 4, 33, 34, 53, 61, 65, 67, 68, 69] [(0, (pt g_p0)), (2, (iv p2)), (4, (pt g9)), (33, (iv p0.width)), (34, (iv x33)), (53, (bv false)), (61, (bv true)), (65, (.pointer (some ⟨g_p0, 3, none⟩))), (67, (iv x33)), (68, (iv x33)), (69, (.pointer (some ⟨g9, 9, none⟩)))] [] (fun fb => by kernel_rfl) rfl trivial ?_
       obtain ⟨h106, hx42⟩ := as_some hx42
       refine seg 35 [.v (sv A_p0_edges_North p0.edges.North c_p0_edges_North), .v (iv (A8_Int.get p1.North x33))] [0, 2, 4, 33, 34, 53, 61, 66, 67, 71] [(0, (pt g_p0)), (2, (iv p2)), (4, (pt g9)), (33, (iv p0.width)), (34, (iv x33)), (53, (bv false)), (61, (bv true)), (66, (sv A_p0_edges_North p0.edges.North c_p0_edges_North)), (67, (iv x33)), (71, (iv (A8_Int.get p1.North x33)))] [.idx (some ⟨0, 0, none⟩) x33 8, .cell ⟨g_p0, 3, none⟩ (sv A_p0_edges_North p0.edges.North c_p0_edges_North), .cell (flatA ⟨g9, 9, none⟩ (x33.toNat * 1)) (iv (A8_Int.get p1.North x33))] (fun fb => by kernel_rfl) rfl ⟨⟨h106.1, h106.2, rfl⟩, blk_cell (hS105.rd 0).1 3 rfl, hS105.cell 0 rfl _ (cases8 (Q := fun z_ => (#[(sv A_p1_Cells p1.Cells c_p1_Cells), (iv p1.South.e0), (iv p1.South.e1), (iv p1.South.e2), (iv p1.South.e3), (iv p1.South.e4), (iv p1.South.e5), (iv p1.South.e6), (iv p1.South.e7), (iv p1.North.e0), (iv p1.North.e1), (iv p1.North.e2), (iv p1.North.e3), (iv p1.North.e4), (iv p1.North.e5), (iv p1.North.e6), (iv p1.North.e7), (iv p1.West), (iv p1.East)] : Array Value)[9 + z_.toNat * 1]? = some (iv (A8_Int.get p1.North z_))) h106 (by kernel_rfl) (by kernel_rfl) (by kernel_rfl) (by kernel_rfl) (by kernel_rfl) (by kernel_rfl) (by kernel_rfl) (by kernel_rfl)), trivial⟩ ?_
       obtain ⟨t107, ht108, hx42⟩ := bind_some hx42
       refine WL.call (some 72) 84 #[(sv A_p0_edges_North p0.edges.North c_p0_edges_North), (iv x33), (iv (A8_Int.get p1.North x33))] (fun fb => by kernel_rfl) (fill_at_calls p0.edges.North x33 (A8_Int.get p1.North x33) A_p0_edges_North c_p0_edges_North t107 _ (hS105.rd 3) ht108) (fun v w109 hR110 => ?_)
       obtain ⟨rfl, hk_⟩ := hR110
       have hS111 := hS105.keepN hk_
       refine ⟨trivial, ?_⟩
       refine seg 39 [] [0, 2, 4, 33, 34, 75] [(0, (pt g_p0)), (2, (iv p2)), (4, (pt g9)), (33, (iv p0.width)), (34, (iv x33)), (75, (bv (!t107)))] [] (fun fb => by kernel_rfl) rfl trivial ?_
       refine WL.done rfl ?_
       injection hx42 with hx42
       exact WX.to Kx41 (!t107) [0, 2, 4, 33, 34, 75] rfl ⟨(hS111.subR [0, 1, 2, 3, 4, 5, 6, 7]).sub [0] (by decide), hx42.symm⟩
      refine seg 3 [] [0, 2, 4, 7, 33, 34, 39] [(0, (pt g_p0)), (2, (iv p2)), (4, (pt g9)), (7, (iv x33)), (33, (iv p0.width)), (34, (iv x33)), (39, (bv (p2 == 0)))] [] (fun fb => by kernel_rfl) rfl trivial ?_
      refine WL.setB 39 h43 rfl ?_
      refine seg 25 [.v (iv p0.height)] [0, 2, 4, 7, 33, 34, 53, 61] [(0, (pt g_p0)), (2, (iv p2)), (4, (pt g9)), (7, (iv x33)), (33, (iv p0.width)), (34, (iv x33)), (53, (bv false)), (61, (bv (p2 == (w64 (p0.height - 1)))))] [.cell ⟨g_p0, 2, none⟩ (iv p0.height)] (fun fb => by kernel_rfl) rfl ⟨blk_cell (hS105.rd 0).1 2 rfl, trivial⟩ ?_
      refine WL.setB 61 h103 rfl ?_
      refine seg 32 [] [0, 2, 4, 33, 34, 53, 61, 65, 67, 68, 69] [(0, (pt g_p0)), (2, (iv p2)), (4, (pt g9)), (33, (iv p0.width)), (34, (iv x33)), (53, (bv false)), (61, (bv true)), (65, (.pointer (some ⟨g_p0, 3, none⟩))), (67, (iv x33)), (68, (iv x33)), (69, (.pointer (some ⟨g9, 9, none⟩)))] [] (fun fb => by kernel_rfl) rfl trivial ?_
      obtain ⟨h112, hx42⟩ := as_some hx42
      refine seg 35 [.v (iv (A8_Int.get p1.North x33)), .v (sv A_p0_edges_North p0.edges.North c_p0_edges_North)] [0, 2, 4, 33, 34, 53, 61, 66, 67, 71] [(0, (pt g_p0)), (2, (iv p2)), (4, (pt g9)), (33, (iv p0.width)), (34, (iv x33)), (53, (bv false)), (61, (bv true)), (66, (sv A_p0_edges_North p0.edges.North c_p0_edges_North)), (67, (iv x33)), (71, (iv (A8_Int.get p1.North x33)))] [.idx (some ⟨0, 0, none⟩) x33 8, .cell (flatA ⟨g9, 9, none⟩ (x33.toNat * 1)) (iv (A8_Int.get p1.North x33)), .cell ⟨g_p0, 3, none⟩ (sv A_p0_edges_North p0.edges.North c_p0_edges_North)] (fun fb => by kernel_rfl) rfl ⟨⟨h112.1, h112.2, rfl⟩, hS105.cell 0 rfl _ (cases8 (Q := fun z_ => (#[(sv A_p1_Cells p1.Cells c_p1_Cells), (iv p1.South.e0), (iv p1.South.e1), (iv p1.South.e2), (iv p1.South.e3), (iv p1.South.e4), (iv p1.South.e5), (iv p1.South.e6), (iv p1.South.e7), (iv p1.North.e0), (iv p1.North.e1), (iv p1.North.e2), (iv p1.North.e3), (iv p1.North.e4), (iv p1.North.e5), (iv p1.North.e6), (iv p1.North.e7), (iv p1.West), (iv p1.East)] : Array Value)[9 + z_.toNat * 1]? = some (iv (A8_Int.get p1.North z_))) h112 (by kernel_rfl) (by kernel_rfl) (by kernel_rfl) (by kernel_rfl) (by kernel_rfl) (by kernel_rfl) (by kernel_rfl) (by kernel_rfl)), blk_cell (hS105.rd 0).1 3 rfl, trivial⟩ ?_
      obtain ⟨t113, ht114, hx42⟩ := bind_some hx42
      refine WL.call (some 72) 84 #[(sv A_p0_edges_North p0.edges.North c_p0_edges_North), (iv x33), (iv (A8_Int.get p1.North x33))] (fun fb => by kernel_rfl) (fill_at_calls p0.edges.North x33 (A8_Int.get p1.North x33) A_p0_edges_North c_p0_edges_North t113 _ (hS105.rd 3) ht114) (fun v w115 hR116 => ?_)
      obtain ⟨rfl, hk_⟩ := hR116
      have hS117 := hS105.keepN hk_
      refine ⟨trivial, ?_⟩
      refine seg 39 [] [0, 2, 4, 33, 34, 75] [(0, (pt g_p0)), (2, (iv p2)), (4, (pt g9)), (33, (iv p0.width)), (34, (iv x33)), (75, (bv (!t113)))] [] (fun fb => by kernel_rfl) rfl trivial ?_
      refine WL.done rfl ?_
      injection hx42 with hx42
      exact WX.to Kx41 (!t113) [0, 2, 4, 33, 34, 75] rfl ⟨(hS117.subR [0, 1, 2, 3, 4, 5, 6, 7]).sub [0] (by decide), hx42.symm⟩
     refine WC.regionD ([], [0, 1, 2, 3, 4, 5, 6, 7, 8, 9, 10, 11, 12, 14, 15, 16, 17, 18, 19, 20, 22, 23, 24, 25, 26, 27, 28, 30, 31, 32, 33, 36, 37, 38], [[], [0], [0, 1], [0, 1, 2], [0, 1, 2, 3], [0, 1, 2, 3, 4], [0, 1, 2, 3, 4, 5], [0, 1, 2, 3, 4, 5, 6], [0, 1, 2], [0, 1, 2], [0, 1, 2], [0, 1, 2, 9, 10], [0, 1, 2, 9, 10, 11], [0, 1, 2, 3, 4, 5, 6, 7, 8, 9, 10, 11, 12], [0, 1, 2, 3, 4, 5, 6, 7, 8, 9, 10, 11, 12, 13], [0, 1, 2, 3, 4, 5, 6, 7, 8, 9, 10, 11, 12, 13, 14], [0, 1, 2, 3, 4, 5, 6, 7, 8, 9, 10, 11, 12, 13, 14, 15], [0, 1, 2, 3, 4, 5, 6, 7, 8, 9, 10, 11, 12, 13, 14, 15, 16], [0, 1, 2, 3, 4, 5, 6, 7, 8, 9, 10, 11, 12, 13, 14, 15, 16], [0, 1, 2, 3, 4, 5, 6, 7, 8, 9, 10, 11, 12, 13, 14, 15, 16, 18], [0, 1, 2, 3, 4, 5, 6, 7, 8, 9, 10, 11, 12, 13, 14, 15, 16, 18, 19], [0, 1, 2, 3, 4, 5, 6, 7, 8, 9, 10, 11, 12, 13, 14, 15, 16, 18, 19, 20], [0, 1, 2, 3, 4, 5, 6, 7, 8, 9, 10, 11, 12, 13, 14, 15, 16, 18, 19, 20, 21], [0, 1, 2, 3, 4, 5, 6, 7, 8, 9, 10, 11, 12, 13, 14, 15, 16, 17, 18, 19, 20, 21, 22], [0, 1, 2, 3, 4, 5, 6, 7, 8, 9, 10, 11, 12, 13, 14, 15, 16, 17, 18, 19, 20, 21, 22, 23], [0, 1, 2, 3, 4, 5, 6, 7, 8, 9, 10, 11, 12, 13, 14, 15, 16, 17, 18, 19, 20, 21, 22, 23, 24], [0, 1, 2, 3, 4, 5, 6, 7, 8, 9, 10, 11, 12, 13, 14, 15, 16, 17, 18, 19, 20, 21, 22, 23, 24, 25], [0, 1, 2, 3, 4, 5, 6, 7, 8, 9, 10, 11, 12, 13, 14, 15, 16, 17, 18, 19, 20, 21, 22, 23, 24, 25, 26], [0, 1, 2, 3, 4, 5, 6, 7, 8, 9, 10, 11, 12, 13, 14, 15, 16, 17, 18, 19, 20, 21, 22, 23, 24, 25, 26, 27], [0, 1, 2, 3, 4, 5, 6, 7, 8, 9, 10, 11, 12, 13, 14, 15, 16, 17, 18, 19, 20, 21, 22, 23, 24, 25, 26, 27, 28], [0, 1, 2, 3, 4, 5, 6, 7, 8, 9, 10, 11, 12, 13, 14, 15, 16, 17, 18, 19, 20, 21, 22, 23, 24], [0, 1, 2, 3, 4, 5, 6, 7, 8, 9, 10, 11, 12, 13, 14, 15, 16, 17, 18, 19, 20, 21, 22, 23, 24], [0, 1, 2, 3, 4, 5, 6, 7, 8, 9, 10, 11, 12, 13, 14, 15, 16, 17, 18, 19, 20, 21, 22, 23, 24], [0, 1, 2, 3, 4, 5, 6, 7, 8, 9, 10, 11, 12, 13, 14, 15, 16, 17, 18, 19, 20, 21, 22, 23, 24, 31, 32], [0, 1, 2, 3, 4, 5, 6, 7, 8, 9, 10, 11, 12, 13, 14, 15, 16, 17, 18, 19, 20, 21, 22, 23, 24, 31, 32, 33], [0, 1, 2, 3, 4, 5, 6, 7, 8, 9, 10, 11, 12, 13, 14, 15, 16, 17, 18, 19, 20, 21, 22, 23, 24, 25, 26, 27, 28, 29, 30, 31, 32, 33, 34], [0, 1, 2, 3, 4, 5, 6, 7, 8, 9, 10, 11, 12, 13, 14, 15, 16, 17, 18, 19, 20, 21, 22, 23, 24, 25, 26, 27, 28, 29, 30, 31, 32, 33, 34, 35], [0, 1, 2, 3, 4, 5, 6, 7, 8, 9, 10, 11, 12, 13, 14, 15, 16, 17, 18, 19, 20, 21, 22, 23, 24, 25, 26, 27, 28, 29, 30, 31, 32, 33, 34, 35, 36], [0, 1, 2, 3, 4, 5, 6, 7, 8, 9, 10, 11, 12, 13, 14, 15, 16, 17, 18, 19, 20, 21, 22, 23, 24, 25, 26, 27, 28, 29, 30, 31, 32, 33, 34, 35, 36, 37]]) [[0, 1, 2, 3, 4, 5, 6, 7, 8, 9, 10, 11, 12, 13, 14, 15, 16, 17, 18, 19, 20, 21, 22, 23, 24, 25, 26, 27, 28, 30, 31, 32, 33, 29, 34, 35, 36, 37, 38], [0, 1, 2, 3, 4, 5, 6, 7, 8, 9, 10, 11, 12, 13, 14, 15, 16, 17, 18, 19, 20, 21, 22, 23, 24, 25, 26, 27, 28, 30, 31, 32, 33, 34, 29, 35, 36, 37, 38]] (by kernel_rfl) (by kernel_rfl) (NoPanic.seq (NoPanic.block (NoPanic.seq (NoPanic.seq (NoPanic.block (NoPanic.seq (NoPanic.body))))))) ?_
     have hS119 := hS38.drew
     revert hS119
     generalize World.drew w37 = w118
     intro hS119
     refine ⟨trivial, forallC ?_ (forallC ?_ (forallN))⟩
     ·
      refine seg 3 [] [0, 2, 4, 7, 33, 34, 39] [(0, (pt g_p0)), (2, (iv p2)), (4, (pt g9)), (7, (iv x33)), (33, (iv p0.width)), (34, (iv x33)), (39, (bv (p2 == 0)))] [] (fun fb => by kernel_rfl) rfl trivial ?_
      refine WL.setB 39 h43 rfl ?_
      refine seg 25 [.v (iv p0.height)] [0, 2, 4, 7, 33, 34, 53, 61] [(0, (pt g_p0)), (2, (iv p2)), (4, (pt g9)), (7, (iv x33)), (33, (iv p0.width)), (34, (iv x33)), (53, (bv false)), (61, (bv (p2 == (w64 (p0.height - 1)))))] [.cell ⟨g_p0, 2, none⟩ (iv p0.height)] (fun fb => by kernel_rfl) rfl ⟨blk_cell (hS119.rd 0).1 2 rfl, trivial⟩ ?_
      refine WL.setB 61 h103 rfl ?_
      refine seg 39 [] [0, 2, 4, 33, 34, 75] [(0, (pt g_p0)), (2, (iv p2)), (4, (pt g9)), (33, (iv p0.width)), (34, (iv x33)), (75, (bv false))] [] (fun fb => by kernel_rfl) rfl trivial ?_
      refine WL.done rfl ?_
      injection hx42 with hx42
      exact WX.to Kx41 false [0, 2, 4, 33, 34, 75] rfl ⟨(hS119.subR [0, 1, 2, 3, 4, 5, 6, 7]).sub [0] (by decide), hx42.symm⟩
     refine seg 3 [] [0, 2, 4, 7, 33, 34, 39] [(0, (pt g_p0)), (2, (iv p2)), (4, (pt g9)), (7, (iv x33)), (33, (iv p0.width)), (34, (iv x33)), (39, (bv (p2 == 0)))] [] (fun fb => by kernel_rfl) rfl trivial ?_
     refine WL.setB 39 h43 rfl ?_
     refine seg 25 [.v (iv p0.height)] [0, 2, 4, 7, 33, 34, 53, 61] [(0, (pt g_p0)), (2, (iv p2)), (4, (pt g9)), (7, (iv x33)), (33, (iv p0.width)), (34, (iv x33)), (53, (bv false)), (61, (bv (p2 == (w64 (p0.height - 1)))))] [.cell ⟨g_p0, 2, none⟩ (iv p0.height)] (fun fb => by kernel_rfl) rfl ⟨blk_cell (hS119.rd 0).1 2 rfl, trivial⟩ ?_
     refine WL.setB 61 h103 rfl ?_
     refine seg 39 [] [0, 2, 4, 33, 34, 75] [(0, (pt g_p0)), (2, (iv p2)), (4, (pt g9)), (33, (iv p0.width)), (34, (iv x33)), (75, (bv false))] [] (fun fb => by kernel_rfl) rfl trivial ?_
     refine WL.done rfl ?_
     injection hx42 with hx42
     exact WX.to Kx41 false [0, 2, 4, 33, 34, 75] rfl ⟨(hS119.subR [0, 1, 2, 3, 4, 5, 6, 7]).sub [0] (by decide), hx42.symm⟩
    rintro y123 w120 ⟨hS121, hq122⟩
    subst hq122
    refine WX.next ?_
    rcases br_some hl39 with ⟨h124, hl39⟩ | ⟨h124, hl39⟩
    ·refine WC.condT2 (fun fb => by kernel_rfl) h124 ?_
     refine WC.seq ?_
     refine WC.region ?_
     refine seg 1 [] [6] [(6, (bv false))] [] (fun fb => by kernel_rfl) rfl trivial ?_
     refine WL.done rfl ?_
     refine WX.next ?_
     refine WC.ret ?_
     injection hl39 with hl39
     subst hl39
     injection hf with hf
     subst hf
     exact WX.blockR (WX.thenR (WX.thenR (WX.blockR (WX.thenR (WX.ret_ [] (bv false) [] (fun fb => by kernel_rfl) trivial ⟨_, rfl, rfl, hS121.keep⟩)))))
    refine WC.condF2 (fun fb => by kernel_rfl) h124 ?_
    refine WC.skip ?_
    refine WX.blockN (WX.next ?_)
    refine WC.region ?_
    refine seg 2 [] [0, 2, 4, 33, 34] [(0, (pt g_p0)), (2, (iv p2)), (4, (pt g9)), (33, (iv p0.width)), (34, (iv (w64 (x33 + 1))))] [] (fun fb => by kernel_rfl) rfl trivial ?_
    refine WL.done rfl ?_
    exact WX.again k36 (Nat.lt_succ_self _) (w64 (x33 + 1)) [0, 2, 4, 33, 34] rfl ⟨(hS121.subR [0, 1, 2, 3, 4, 5, 6, 7]).sub [0] (by decide), hl39⟩
   refine WC.condF2 (fun fb => by kernel_rfl) h40 ?_
   refine WC.exit ?_
   injection hl39 with hl39
   exact WX.thenX (WX.thenX (WX.blockHere (WX.to Kx34 () [] rfl ⟨(hS38.subR [0, 1, 2, 3, 4, 5, 6, 7]).sub [] (by decide), hl39.symm⟩)))
 rintro y128 w125 ⟨hS126, hq127⟩
 subst hq127
 have hf := sum_inr hf
 refine WX.next ?_
 refine WC.seq ?_
 refine WC.region ?_
 refine seg 1 [] [6] [(6, (bv true))] [] (fun fb => by kernel_rfl) rfl trivial ?_
 refine WL.done rfl ?_
 refine WX.next ?_
 refine WC.ret ?_
 injection hf with hf
 subst hf
 exact WX.ret_ [] (bv true) [] (fun fb => by kernel_rfl) trivial ⟨_, rfl, rfl, hS126.keep⟩
end Gp
