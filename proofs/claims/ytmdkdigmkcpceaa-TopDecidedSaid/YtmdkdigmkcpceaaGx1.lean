/- Walks: each function of the program computes its plain function. -/
import Derived.Test.YtmdkdigmkcpceaaGx0
set_option linter.unusedVariables false
set_option linter.unusedSimpArgs false
set_option maxHeartbeats 4000000
namespace Gp
open Go Gw Go.Proofs
theorem fill_job_allows_calls (k : Nat) (p0 : Job) (p1 : Row) (p2 : Int) (g_p0 : Nat) (A_p0_rows : Option Addr) (c_p0_rows : Nat) (H_p0_rows : Nat → HF) (A_p0_edges_North : Option Addr) (c_p0_edges_North : Nat) (A_p0_edges_East : Option Addr) (c_p0_edges_East : Nat) (A_p0_edges_South : Option Addr) (c_p0_edges_South : Nat) (A_p0_edges_West : Option Addr) (c_p0_edges_West : Nat) (A_p1_Cells : Option Addr) (c_p1_Cells : Nat) (r : Bool) (w : World) (hR0 : RO NoS w (blk g_p0 (.cells #[(.slice A_p0_rows p0.rows.length c_p0_rows), (iv p0.width), (iv p0.height), (.slice A_p0_edges_North p0.edges.North.length c_p0_edges_North), (.slice A_p0_edges_East p0.edges.East.length c_p0_edges_East), (.slice A_p0_edges_South p0.edges.South.length c_p0_edges_South), (.slice A_p0_edges_West p0.edges.West.length c_p0_edges_West)] 84 (0, 0)))) (hR1 : RO NoS w (rowR encN_Row A_p0_rows c_p0_rows (tag H_p0_rows p0.rows))) (hR2 : RO NoS w (nestO subN_Row H_p0_rows p0.rows)) (hR3 : RO NoS w (rowR encInt A_p0_edges_North c_p0_edges_North p0.edges.North)) (hR4 : RO NoS w (rowR encInt A_p0_edges_East c_p0_edges_East p0.edges.East)) (hR5 : RO NoS w (rowR encInt A_p0_edges_South c_p0_edges_South p0.edges.South)) (hR6 : RO NoS w (rowR encInt A_p0_edges_West c_p0_edges_West p0.edges.West)) (hR7 : RO NoS w (rowR encInt A_p1_Cells c_p1_Cells p1.Cells)) (hf : fill_job_allows k p0 p1 p2 = some r) :
  CallsR Try.prog 55 #[(.pointer (some ⟨g_p0, 0, none⟩)), (.agg #[(.slice A_p1_Cells p1.Cells.length c_p1_Cells), (iv p1.South.e0), (iv p1.South.e1), (iv p1.South.e2), (iv p1.South.e3), (iv p1.South.e4), (iv p1.South.e5), (iv p1.South.e6), (iv p1.South.e7), (iv p1.North.e0), (iv p1.North.e1), (iv p1.North.e2), (iv p1.North.e3), (iv p1.North.e4), (iv p1.North.e5), (iv p1.North.e6), (iv p1.North.e7), (iv p1.West), (iv p1.East)]), (iv p2)] w (fun v w' => v = (.bool r) ∧ Keeps NoS w w') := by
 have hS : St NoS w w [blk g_p0 (.cells #[(.slice A_p0_rows p0.rows.length c_p0_rows), (iv p0.width), (iv p0.height), (.slice A_p0_edges_North p0.edges.North.length c_p0_edges_North), (.slice A_p0_edges_East p0.edges.East.length c_p0_edges_East), (.slice A_p0_edges_South p0.edges.South.length c_p0_edges_South), (.slice A_p0_edges_West p0.edges.West.length c_p0_edges_West)] 84 (0, 0)), rowR encN_Row A_p0_rows c_p0_rows (tag H_p0_rows p0.rows), nestO subN_Row H_p0_rows p0.rows, rowR encInt A_p0_edges_North c_p0_edges_North p0.edges.North, rowR encInt A_p0_edges_East c_p0_edges_East p0.edges.East, rowR encInt A_p0_edges_South c_p0_edges_South p0.edges.South, rowR encInt A_p0_edges_West c_p0_edges_West p0.edges.West, rowR encInt A_p1_Cells c_p1_Cells p1.Cells] [] := St.init (ro_cons hR0 (ro_cons hR1 (ro_cons hR2 (ro_cons hR3 (ro_cons hR4 (ro_cons hR5 (ro_cons hR6 (ro_cons hR7 (ro_nil _ _)))))))))
 refine enter 77 Try.func55 rfl Try.ntmps55 rfl ?_
 unfold fill_job_allows at hf
 refine WC.seq ?_
 refine WC.region ?_
 refine WL.new hS 4 [] (fun g => (.pointer (some ⟨g, 0, none⟩))) (.cells #[(.slice A_p1_Cells p1.Cells.length c_p1_Cells), (iv p1.South.e0), (iv p1.South.e1), (iv p1.South.e2), (iv p1.South.e3), (iv p1.South.e4), (iv p1.South.e5), (iv p1.South.e6), (iv p1.South.e7), (iv p1.North.e0), (iv p1.North.e1), (iv p1.North.e2), (iv p1.North.e3), (iv p1.North.e4), (iv p1.North.e5), (iv p1.North.e6), (iv p1.North.e7), (iv p1.West), (iv p1.East)] 88 (0, 0)) [] (fun fb g => by kernel_rfl) trivial (fun g2446 w2447 hS2448 => ?_)
 refine ⟨trivial, ?_⟩
 refine seg 2 [] [0, 2, 4] [(0, (.pointer (some ⟨g_p0, 0, none⟩))), (2, (iv p2)), (4, (pt g2446))] [] (fun fb => by kernel_rfl) rfl trivial ?_
 refine WL.done rfl ?_
 refine WX.next ?_
 refine WC.seq ?_
 refine WC.seq ?_
 refine WC.regionD ([(4, ⟨g_p0, 6, none⟩, (.slice A_p0_edges_West p0.edges.West.length c_p0_edges_West)), (7, ⟨g2446, 17, none⟩, (iv p1.West)), (18, ⟨g2446, 18, none⟩, (iv p1.East))], [0, 1, 2, 3, 4, 5, 6, 7, 9, 10, 11, 12, 13, 14, 16, 17, 18, 20, 21], [[], [0], [0, 1], [0, 1, 2], [0, 1, 2, 3], [], [], [6], [0, 1, 2, 3, 4, 5, 6, 7], [0, 1, 2, 3, 4, 5, 6, 7, 8], [0, 1, 2, 3, 4, 5, 6, 7, 8, 9], [0, 1, 2, 3, 4, 5, 6, 7, 8, 9, 10], [0, 1, 2, 3, 4, 5, 6, 7, 8, 9, 10, 11], [0, 1, 2, 3, 4, 5, 6, 7, 8, 9, 10, 11, 12], [0, 1, 2, 3, 4, 5, 6, 7, 8, 9, 10, 11, 12, 13], [0, 1, 2, 3, 4, 5, 6, 7, 8, 9, 10, 11, 12, 13, 14], [0, 1, 2, 3, 4, 5, 6, 7, 8, 9, 10], [0, 1, 2, 3, 4, 5, 6, 7, 8, 9, 10], [0, 1, 2, 3, 4, 5, 6, 7, 8, 9, 10, 17], [0, 1, 2, 3, 4, 5, 6, 7, 8, 9, 10, 11, 12, 13, 14, 15, 16, 17, 18], [0, 1, 2, 3, 4, 5, 6, 7, 8, 9, 10, 11, 12, 13, 14, 15, 16, 17, 18, 19], [0, 1, 2, 3, 4, 5, 6, 7, 8, 9, 10, 11, 12, 13, 14, 15, 16, 17, 18, 19, 20]]) [[0, 1, 2, 3, 4, 5, 6, 7, 8, 9, 10, 11, 12, 13, 14, 16, 17, 18, 15, 19, 20, 21]] (by kernel_rfl) (by kernel_rfl) (NoPanic.seq (NoPanic.seq (NoPanic.body))) ?_
 have hS2480 := hS2448.drew
 revert hS2480
 generalize World.drew w2447 = w2479
 intro hS2480
 refine ⟨⟨blk_cell (hS2480.rd 0).1 6 rfl, hS2480.cell 0 rfl 17 rfl, hS2480.cell 0 rfl 18 rfl, trivial⟩, forallC ?_ (forallN)⟩
 refine segF 8 [.v (.slice A_p0_edges_West p0.edges.West.length c_p0_edges_West), .v (iv p1.West)] [0, 2, 4, 12, 13, 15] [(0, (.pointer (some ⟨g_p0, 0, none⟩))), (2, (iv p2)), (4, (pt g2446)), (12, (.slice A_p0_edges_West p0.edges.West.length c_p0_edges_West)), (13, (iv p2)), (15, (iv p1.West))] [] [0, 1] [(4, ⟨g_p0, 6, none⟩, (.slice A_p0_edges_West p0.edges.West.length c_p0_edges_West)), (7, ⟨g2446, 17, none⟩, (iv p1.West))] (fun fb => by kernel_rfl) rfl trivial rfl ?_
 obtain ⟨t2481, ht2482, hf⟩ := bind_some hf
 refine WL.call (some 16) 68 #[(.slice A_p0_edges_West p0.edges.West.length c_p0_edges_West), (iv p2), (iv p1.West)] (fun fb => by kernel_rfl) (fill_at_calls p0.edges.West p2 p1.West A_p0_edges_West c_p0_edges_West t2481 _ (hS2480.rd 6) ht2482) (fun v w2483 hR2484 => ?_)
 obtain ⟨rfl, hk_⟩ := hR2484
 have hS2485 := hS2480.keepN hk_
 refine ⟨⟨hS2485.cell 0 rfl 18 rfl, trivial⟩, ?_⟩
 refine seg 11 [] [0, 2, 4, 18] [(0, (.pointer (some ⟨g_p0, 0, none⟩))), (2, (iv p2)), (4, (pt g2446)), (18, (.bool (!t2481)))] [] (fun fb => by kernel_rfl) rfl trivial ?_
 obtain ⟨x2492, hx2493, hf⟩ := bind_some hf
 refine WL.cutW (T := Bool) 22 (fun t => [(0, (.pointer (some ⟨g_p0, 0, none⟩))), (2, (iv p2)), (4, (pt g2446)), (29, (.bool t))]) (fun t w1 => (St NoS w w1 [blk g_p0 (.cells #[(.slice A_p0_rows p0.rows.length c_p0_rows), (iv p0.width), (iv p0.height), (.slice A_p0_edges_North p0.edges.North.length c_p0_edges_North), (.slice A_p0_edges_East p0.edges.East.length c_p0_edges_East), (.slice A_p0_edges_South p0.edges.South.length c_p0_edges_South), (.slice A_p0_edges_West p0.edges.West.length c_p0_edges_West)] 84 (0, 0)), rowR encN_Row A_p0_rows c_p0_rows (tag H_p0_rows p0.rows), nestO subN_Row H_p0_rows p0.rows, rowR encInt A_p0_edges_North c_p0_edges_North p0.edges.North, rowR encInt A_p0_edges_East c_p0_edges_East p0.edges.East, rowR encInt A_p0_edges_South c_p0_edges_South p0.edges.South, rowR encInt A_p0_edges_West c_p0_edges_West p0.edges.West, rowR encInt A_p1_Cells c_p1_Cells p1.Cells] [blk g2446 (.cells #[(.slice A_p1_Cells p1.Cells.length c_p1_Cells), (iv p1.South.e0), (iv p1.South.e1), (iv p1.South.e2), (iv p1.South.e3), (iv p1.South.e4), (iv p1.South.e5), (iv p1.South.e6), (iv p1.South.e7), (iv p1.North.e0), (iv p1.North.e1), (iv p1.North.e2), (iv p1.North.e3), (iv p1.North.e4), (iv p1.North.e5), (iv p1.North.e6), (iv p1.North.e7), (iv p1.West), (iv p1.East)] 88 (0, 0))] ∧ x2492 = t) ∧ CellsOK [] w1) (fun K => ?_) ?_
 ·
  rcases br_some hx2493 with ⟨h2494, hx2493⟩ | ⟨h2494, hx2493⟩
  ·
   refine WL.setB 18 h2494 rfl ?_
   refine seg 22 [] [0, 2, 4, 29] [(0, (.pointer (some ⟨g_p0, 0, none⟩))), (2, (iv p2)), (4, (pt g2446)), (29, (.bool true))] [] (fun fb => by kernel_rfl) rfl trivial ?_
   injection hx2493 with hx2493
   exact WL.to K true [0, 2, 4, 29] rfl ⟨⟨(hS2485.subR [0, 1, 2, 3, 4, 5, 6, 7]).sub [0] (by decide), hx2493.symm⟩, trivial⟩
  refine WL.setB 18 h2494 rfl ?_
  refine segF 19 [.v (iv p1.East), .v (.slice A_p0_edges_East p0.edges.East.length c_p0_edges_East)] [0, 2, 4, 18, 23, 24, 26] [(0, (.pointer (some ⟨g_p0, 0, none⟩))), (2, (iv p2)), (4, (pt g2446)), (18, (.bool false)), (23, (.slice A_p0_edges_East p0.edges.East.length c_p0_edges_East)), (24, (iv p2)), (26, (iv p1.East))] [.cell ⟨g_p0, 4, none⟩ (.slice A_p0_edges_East p0.edges.East.length c_p0_edges_East)] [2] [(18, ⟨g2446, 18, none⟩, (iv p1.East))] (fun fb => by kernel_rfl) rfl ⟨blk_cell (hS2485.rd 0).1 4 rfl, trivial⟩ rfl ?_
  obtain ⟨t2495, ht2496, hx2493⟩ := bind_some hx2493
  refine WL.call (some 27) 68 #[(.slice A_p0_edges_East p0.edges.East.length c_p0_edges_East), (iv p2), (iv p1.East)] (fun fb => by kernel_rfl) (fill_at_calls p0.edges.East p2 p1.East A_p0_edges_East c_p0_edges_East t2495 _ (hS2485.rd 4) ht2496) (fun v w2497 hR2498 => ?_)
  obtain ⟨rfl, hk_⟩ := hR2498
  have hS2499 := hS2485.keepN hk_
  refine ⟨trivial, ?_⟩
  refine seg 22 [] [0, 2, 4, 29] [(0, (.pointer (some ⟨g_p0, 0, none⟩))), (2, (iv p2)), (4, (pt g2446)), (29, (.bool (!t2495)))] [] (fun fb => by kernel_rfl) rfl trivial ?_
  injection hx2493 with hx2493
  exact WL.to K (!t2495) [0, 2, 4, 29] rfl ⟨⟨(hS2499.subR [0, 1, 2, 3, 4, 5, 6, 7]).sub [0] (by decide), hx2493.symm⟩, trivial⟩
 rintro y2500 w2502 ⟨⟨hS2503, hq2501⟩, hF2504⟩
 subst hq2501
 refine WL.done rfl ?_
 refine WX.next ?_
 rcases br_some hf with ⟨h2505, hf⟩ | ⟨h2505, hf⟩
 ·refine WC.condT2 (fun fb => by kernel_rfl) h2505 ?_
  refine WC.seq ?_
  refine WC.region ?_
  refine seg 1 [] [6] [(6, (.bool false))] [] (fun fb => by kernel_rfl) rfl trivial ?_
  refine WL.done rfl ?_
  refine WX.next ?_
  refine WC.ret ?_
  injection hf with hf
  subst hf
  exact WX.thenR (WX.ret_ [] (.bool false) [] (fun fb => by kernel_rfl) trivial ⟨_, rfl, rfl, hS2503.keep⟩)
 refine WC.condF2 (fun fb => by kernel_rfl) h2505 ?_
 refine WC.skip ?_
 refine WX.next ?_
 refine WC.seq ?_
 refine WC.seq ?_
 refine WC.region ?_
 refine seg 5 [.v (iv p0.width)] [0, 2, 4, 33, 34] [(0, (.pointer (some ⟨g_p0, 0, none⟩))), (2, (iv p2)), (4, (pt g2446)), (33, (iv p0.width)), (34, (iv 0))] [.cell ⟨g_p0, 1, none⟩ (iv p0.width)] (fun fb => by kernel_rfl) rfl ⟨blk_cell (hS2503.rd 0).1 1 rfl, trivial⟩ ?_
 refine WL.done rfl ?_
 refine WX.next ?_
 obtain ⟨x3042, hx3043, hf⟩ := bind_some hf
 refine WC.cutN (T := Unit) (fun t => []) (fun t w1 => St NoS w w1 [blk g_p0 (.cells #[(.slice A_p0_rows p0.rows.length c_p0_rows), (iv p0.width), (iv p0.height), (.slice A_p0_edges_North p0.edges.North.length c_p0_edges_North), (.slice A_p0_edges_East p0.edges.East.length c_p0_edges_East), (.slice A_p0_edges_South p0.edges.South.length c_p0_edges_South), (.slice A_p0_edges_West p0.edges.West.length c_p0_edges_West)] 84 (0, 0)), rowR encN_Row A_p0_rows c_p0_rows (tag H_p0_rows p0.rows), nestO subN_Row H_p0_rows p0.rows, rowR encInt A_p0_edges_North c_p0_edges_North p0.edges.North, rowR encInt A_p0_edges_East c_p0_edges_East p0.edges.East, rowR encInt A_p0_edges_South c_p0_edges_South p0.edges.South, rowR encInt A_p0_edges_West c_p0_edges_West p0.edges.West, rowR encInt A_p1_Cells c_p1_Cells p1.Cells] [] ∧ x3042 = .inr t) (fun Kx3042 => ?_) ?_
 ·
  refine WC.block ?_
  refine WC.loop (T := Int) (fun t => [(0, (.pointer (some ⟨g_p0, 0, none⟩))), (2, (iv p2)), (4, (pt g2446)), (33, (iv p0.width)), (34, (iv t))]) (fun n t w1 => St NoS w w1 [blk g_p0 (.cells #[(.slice A_p0_rows p0.rows.length c_p0_rows), (iv p0.width), (iv p0.height), (.slice A_p0_edges_North p0.edges.North.length c_p0_edges_North), (.slice A_p0_edges_East p0.edges.East.length c_p0_edges_East), (.slice A_p0_edges_South p0.edges.South.length c_p0_edges_South), (.slice A_p0_edges_West p0.edges.West.length c_p0_edges_West)] 84 (0, 0)), rowR encN_Row A_p0_rows c_p0_rows (tag H_p0_rows p0.rows), nestO subN_Row H_p0_rows p0.rows, rowR encInt A_p0_edges_North c_p0_edges_North p0.edges.North, rowR encInt A_p0_edges_East c_p0_edges_East p0.edges.East, rowR encInt A_p0_edges_South c_p0_edges_South p0.edges.South, rowR encInt A_p0_edges_West c_p0_edges_West p0.edges.West, rowR encInt A_p1_Cells c_p1_Cells p1.Cells] [blk g2446 (.cells #[(.slice A_p1_Cells p1.Cells.length c_p1_Cells), (iv p1.South.e0), (iv p1.South.e1), (iv p1.South.e2), (iv p1.South.e3), (iv p1.South.e4), (iv p1.South.e5), (iv p1.South.e6), (iv p1.South.e7), (iv p1.North.e0), (iv p1.North.e1), (iv p1.North.e2), (iv p1.North.e3), (iv p1.North.e4), (iv p1.North.e5), (iv p1.North.e6), (iv p1.North.e7), (iv p1.West), (iv p1.East)] 88 (0, 0))] ∧ fill_job_allows.l0 n t p0 p1 p2 = some x3042) k 0 [0, 2, 4, 33, 34] rfl ⟨(hS2503.subR [0, 1, 2, 3, 4, 5, 6, 7]).sub [0] (by decide), hx3043⟩ ?_
  rintro k3044 x3041 w3045 ⟨hS3046, hl3047⟩
  cases k3044 with
  | zero => rw [fill_job_allows.l0] at hl3047; cases hl3047
  | succ k3044 =>
   rw [fill_job_allows.l0] at hl3047
   refine WC.seq ?_
   refine WC.region ?_
   refine seg 1 [] [0, 2, 4, 33, 34, 35] [(0, (.pointer (some ⟨g_p0, 0, none⟩))), (2, (iv p2)), (4, (pt g2446)), (33, (iv p0.width)), (34, (iv x3041)), (35, (.bool (decide (x3041 < p0.width))))] [] (fun fb => by kernel_rfl) rfl trivial ?_
   refine WL.done rfl ?_
   refine WX.next ?_
   refine WC.seq ?_
   rcases br_some hl3047 with ⟨h3048, hl3047⟩ | ⟨h3048, hl3047⟩
   ·refine WC.condT2 (fun fb => by kernel_rfl) h3048 ?_
    refine WC.skip ?_
    refine WX.next ?_
    refine WC.seq ?_
    refine WC.block ?_
    refine WC.seq ?_
    refine WC.region ?_
    refine seg 2 [] [0, 2, 4, 7, 33, 34] [(0, (.pointer (some ⟨g_p0, 0, none⟩))), (2, (iv p2)), (4, (pt g2446)), (7, (iv x3041)), (33, (iv p0.width)), (34, (iv x3041))] [] (fun fb => by kernel_rfl) rfl trivial ?_
    refine WL.done rfl ?_
    refine WX.next ?_
    refine WC.seq ?_
    obtain ⟨x3184, hx3185, hl3047⟩ := bind_some hl3047
    refine WC.cutN (T := Bool) (fun t => [(0, (.pointer (some ⟨g_p0, 0, none⟩))), (2, (iv p2)), (4, (pt g2446)), (33, (iv p0.width)), (34, (iv x3041)), (75, (.bool t))]) (fun t w1 => St NoS w w1 [blk g_p0 (.cells #[(.slice A_p0_rows p0.rows.length c_p0_rows), (iv p0.width), (iv p0.height), (.slice A_p0_edges_North p0.edges.North.length c_p0_edges_North), (.slice A_p0_edges_East p0.edges.East.length c_p0_edges_East), (.slice A_p0_edges_South p0.edges.South.length c_p0_edges_South), (.slice A_p0_edges_West p0.edges.West.length c_p0_edges_West)] 84 (0, 0)), rowR encN_Row A_p0_rows c_p0_rows (tag H_p0_rows p0.rows), nestO subN_Row H_p0_rows p0.rows, rowR encInt A_p0_edges_North c_p0_edges_North p0.edges.North, rowR encInt A_p0_edges_East c_p0_edges_East p0.edges.East, rowR encInt A_p0_edges_South c_p0_edges_South p0.edges.South, rowR encInt A_p0_edges_West c_p0_edges_West p0.edges.West, rowR encInt A_p1_Cells c_p1_Cells p1.Cells] [blk g2446 (.cells #[(.slice A_p1_Cells p1.Cells.length c_p1_Cells), (iv p1.South.e0), (iv p1.South.e1), (iv p1.South.e2), (iv p1.South.e3), (iv p1.South.e4), (iv p1.South.e5), (iv p1.South.e6), (iv p1.South.e7), (iv p1.North.e0), (iv p1.North.e1), (iv p1.North.e2), (iv p1.North.e3), (iv p1.North.e4), (iv p1.North.e5), (iv p1.North.e6), (iv p1.North.e7), (iv p1.West), (iv p1.East)] 88 (0, 0))] ∧ x3184 = t) (fun Kx3184 => ?_) ?_
    ·
     rcases br_some hx3185 with ⟨h3186, hx3185⟩ | ⟨h3186, hx3185⟩
     ·
      rcases br_some hx3185 with ⟨h3193, hx3185⟩ | ⟨h3193, hx3185⟩
      ·
       obtain ⟨h3222, hx3185⟩ := as_some hx3185
       refine WC.regionD ([(7, ⟨g_p0, 5, none⟩, (.slice A_p0_edges_South p0.edges.South.length c_p0_edges_South)), (12, (flatA ⟨g2446, 1, none⟩ (x3041.toNat * 1)), (iv (A8_Int.get p1.South x3041)))], [0, 1, 2, 3, 4, 5, 6, 7, 8, 9, 10, 11, 12, 14, 15, 16, 17, 18, 19, 20, 22, 23, 24, 25, 26, 27, 28, 30, 31, 32, 33, 36, 37, 38], [[], [0], [0, 1], [0, 1, 2], [0, 1, 2, 3], [0, 1, 2, 3, 4], [0, 1, 2, 3, 4, 5], [0, 1, 2, 3, 4, 5, 6], [0, 1, 2], [0, 1, 2], [0, 1, 2], [0, 1, 2, 9, 10], [0, 1, 2, 9, 10, 11], [0, 1, 2, 3, 4, 5, 6, 7, 8, 9, 10, 11, 12], [0, 1, 2, 3, 4, 5, 6, 7, 8, 9, 10, 11, 12, 13], [0, 1, 2, 3, 4, 5, 6, 7, 8, 9, 10, 11, 12, 13, 14], [0, 1, 2, 3, 4, 5, 6, 7, 8, 9, 10, 11, 12, 13, 14, 15], [0, 1, 2, 3, 4, 5, 6, 7, 8, 9, 10, 11, 12, 13, 14, 15, 16], [0, 1, 2, 3, 4, 5, 6, 7, 8, 9, 10, 11, 12, 13, 14, 15, 16], [0, 1, 2, 3, 4, 5, 6, 7, 8, 9, 10, 11, 12, 13, 14, 15, 16, 18], [0, 1, 2, 3, 4, 5, 6, 7, 8, 9, 10, 11, 12, 13, 14, 15, 16, 18, 19], [0, 1, 2, 3, 4, 5, 6, 7, 8, 9, 10, 11, 12, 13, 14, 15, 16, 18, 19, 20], [0, 1, 2, 3, 4, 5, 6, 7, 8, 9, 10, 11, 12, 13, 14, 15, 16, 18, 19, 20, 21], [0, 1, 2, 3, 4, 5, 6, 7, 8, 9, 10, 11, 12, 13, 14, 15, 16, 17, 18, 19, 20, 21, 22], [0, 1, 2, 3, 4, 5, 6, 7, 8, 9, 10, 11, 12, 13, 14, 15, 16, 17, 18, 19, 20, 21, 22, 23], [0, 1, 2, 3, 4, 5, 6, 7, 8, 9, 10, 11, 12, 13, 14, 15, 16, 17, 18, 19, 20, 21, 22, 23, 24], [0, 1, 2, 3, 4, 5, 6, 7, 8, 9, 10, 11, 12, 13, 14, 15, 16, 17, 18, 19, 20, 21, 22, 23, 24, 25], [0, 1, 2, 3, 4, 5, 6, 7, 8, 9, 10, 11, 12, 13, 14, 15, 16, 17, 18, 19, 20, 21, 22, 23, 24, 25, 26], [0, 1, 2, 3, 4, 5, 6, 7, 8, 9, 10, 11, 12, 13, 14, 15, 16, 17, 18, 19, 20, 21, 22, 23, 24, 25, 26, 27], [0, 1, 2, 3, 4, 5, 6, 7, 8, 9, 10, 11, 12, 13, 14, 15, 16, 17, 18, 19, 20, 21, 22, 23, 24, 25, 26, 27, 28], [0, 1, 2, 3, 4, 5, 6, 7, 8, 9, 10, 11, 12, 13, 14, 15, 16, 17, 18, 19, 20, 21, 22, 23, 24], [0, 1, 2, 3, 4, 5, 6, 7, 8, 9, 10, 11, 12, 13, 14, 15, 16, 17, 18, 19, 20, 21, 22, 23, 24], [0, 1, 2, 3, 4, 5, 6, 7, 8, 9, 10, 11, 12, 13, 14, 15, 16, 17, 18, 19, 20, 21, 22, 23, 24], [0, 1, 2, 3, 4, 5, 6, 7, 8, 9, 10, 11, 12, 13, 14, 15, 16, 17, 18, 19, 20, 21, 22, 23, 24, 31, 32], [0, 1, 2, 3, 4, 5, 6, 7, 8, 9, 10, 11, 12, 13, 14, 15, 16, 17, 18, 19, 20, 21, 22, 23, 24, 31, 32, 33], [0, 1, 2, 3, 4, 5, 6, 7, 8, 9, 10, 11, 12, 13, 14, 15, 16, 17, 18, 19, 20, 21, 22, 23, 24, 25, 26, 27, 28, 29, 30, 31, 32, 33, 34], [0, 1, 2, 3, 4, 5, 6, 7, 8, 9, 10, 11, 12, 13, 14, 15, 16, 17, 18, 19, 20, 21, 22, 23, 24, 25, 26, 27, 28, 29, 30, 31, 32, 33, 34, 35], [0, 1, 2, 3, 4, 5, 6, 7, 8, 9, 10, 11, 12, 13, 14, 15, 16, 17, 18, 19, 20, 21, 22, 23, 24, 25, 26, 27, 28, 29, 30, 31, 32, 33, 34, 35, 36], [0, 1, 2, 3, 4, 5, 6, 7, 8, 9, 10, 11, 12, 13, 14, 15, 16, 17, 18, 19, 20, 21, 22, 23, 24, 25, 26, 27, 28, 29, 30, 31, 32, 33, 34, 35, 36, 37]]) [[0, 1, 2, 3, 4, 5, 6, 7, 8, 9, 10, 11, 12, 13, 14, 15, 16, 17, 18, 19, 20, 21, 22, 23, 24, 25, 26, 27, 28, 30, 31, 32, 33, 29, 34, 35, 36, 37, 38], [0, 1, 2, 3, 4, 5, 6, 7, 8, 9, 10, 11, 12, 13, 14, 15, 16, 17, 18, 19, 20, 21, 22, 23, 24, 25, 26, 27, 28, 30, 31, 32, 33, 34, 29, 35, 36, 37, 38]] (by kernel_rfl) (by kernel_rfl) (NoPanic.seq (NoPanic.block (NoPanic.seq (NoPanic.seq (NoPanic.block (NoPanic.seq (NoPanic.body))))))) ?_
       have hS3220 := hS3046.drew
       revert hS3220
       generalize World.drew w3045 = w3219
       intro hS3220
       refine ⟨⟨blk_cell (hS3220.rd 0).1 5 rfl, hS3220.cell 0 rfl _ (cases8 (Q := fun z_ => (#[(.slice A_p1_Cells p1.Cells.length c_p1_Cells), (iv p1.South.e0), (iv p1.South.e1), (iv p1.South.e2), (iv p1.South.e3), (iv p1.South.e4), (iv p1.South.e5), (iv p1.South.e6), (iv p1.South.e7), (iv p1.North.e0), (iv p1.North.e1), (iv p1.North.e2), (iv p1.North.e3), (iv p1.North.e4), (iv p1.North.e5), (iv p1.North.e6), (iv p1.North.e7), (iv p1.West), (iv p1.East)] : Array Value)[1 + z_.toNat * 1]? = some (iv (A8_Int.get p1.South z_))) h3222 (by kernel_rfl) (by kernel_rfl) (by kernel_rfl) (by kernel_rfl) (by kernel_rfl) (by kernel_rfl) (by kernel_rfl) (by kernel_rfl)), trivial⟩, forallC ?_ (forallC ?_ (forallN))⟩
       ·
        refine seg 3 [] [0, 2, 4, 7, 33, 34, 39] [(0, (.pointer (some ⟨g_p0, 0, none⟩))), (2, (iv p2)), (4, (pt g2446)), (7, (iv x3041)), (33, (iv p0.width)), (34, (iv x3041)), (39, (.bool (p2 == 0)))] [] (fun fb => by kernel_rfl) rfl trivial ?_
        refine WL.setB 39 h3186 rfl ?_
        refine segF 13 [.v (.slice A_p0_edges_South p0.edges.South.length c_p0_edges_South), .v (iv (A8_Int.get p1.South x3041))] [0, 2, 4, 7, 33, 34, 39, 44, 45, 49] [(0, (.pointer (some ⟨g_p0, 0, none⟩))), (2, (iv p2)), (4, (pt g2446)), (7, (iv x3041)), (33, (iv p0.width)), (34, (iv x3041)), (39, (.bool true)), (44, (.slice A_p0_edges_South p0.edges.South.length c_p0_edges_South)), (45, (iv x3041)), (49, (iv (A8_Int.get p1.South x3041)))] [.idx (some ⟨0, 0, none⟩) x3041 8] [0, 1] [(7, ⟨g_p0, 5, none⟩, (.slice A_p0_edges_South p0.edges.South.length c_p0_edges_South)), (12, (flatA ⟨g2446, 1, none⟩ (x3041.toNat * 1)), (iv (A8_Int.get p1.South x3041)))] (fun fb => by kernel_rfl) rfl ⟨⟨h3222.1, h3222.2, rfl⟩, trivial⟩ rfl ?_
        obtain ⟨t3223, ht3224, hx3185⟩ := bind_some hx3185
        refine WL.call (some 50) 68 #[(.slice A_p0_edges_South p0.edges.South.length c_p0_edges_South), (iv x3041), (iv (A8_Int.get p1.South x3041))] (fun fb => by kernel_rfl) (fill_at_calls p0.edges.South x3041 (A8_Int.get p1.South x3041) A_p0_edges_South c_p0_edges_South t3223 _ (hS3220.rd 5) ht3224) (fun v w3225 hR3226 => ?_)
        obtain ⟨rfl, hk_⟩ := hR3226
        have hS3227 := hS3220.keepN hk_
        refine ⟨trivial, ?_⟩
        refine seg 17 [] [0, 2, 4, 7, 33, 34, 53] [(0, (.pointer (some ⟨g_p0, 0, none⟩))), (2, (iv p2)), (4, (pt g2446)), (7, (iv x3041)), (33, (iv p0.width)), (34, (iv x3041)), (53, (.bool (!t3223)))] [] (fun fb => by kernel_rfl) rfl trivial ?_
        obtain ⟨x3234, hx3235, hx3185⟩ := bind_some hx3185
        refine WL.cutW (T := Bool) 39 (fun t => [(0, (.pointer (some ⟨g_p0, 0, none⟩))), (2, (iv p2)), (4, (pt g2446)), (33, (iv p0.width)), (34, (iv x3041)), (75, (.bool t))]) (fun t w1 => (St NoS w w1 [blk g_p0 (.cells #[(.slice A_p0_rows p0.rows.length c_p0_rows), (iv p0.width), (iv p0.height), (.slice A_p0_edges_North p0.edges.North.length c_p0_edges_North), (.slice A_p0_edges_East p0.edges.East.length c_p0_edges_East), (.slice A_p0_edges_South p0.edges.South.length c_p0_edges_South), (.slice A_p0_edges_West p0.edges.West.length c_p0_edges_West)] 84 (0, 0)), rowR encN_Row A_p0_rows c_p0_rows (tag H_p0_rows p0.rows), nestO subN_Row H_p0_rows p0.rows, rowR encInt A_p0_edges_North c_p0_edges_North p0.edges.North, rowR encInt A_p0_edges_East c_p0_edges_East p0.edges.East, rowR encInt A_p0_edges_South c_p0_edges_South p0.edges.South, rowR encInt A_p0_edges_West c_p0_edges_West p0.edges.West, rowR encInt A_p1_Cells c_p1_Cells p1.Cells] [blk g2446 (.cells #[(.slice A_p1_Cells p1.Cells.length c_p1_Cells), (iv p1.South.e0), (iv p1.South.e1), (iv p1.South.e2), (iv p1.South.e3), (iv p1.South.e4), (iv p1.South.e5), (iv p1.South.e6), (iv p1.South.e7), (iv p1.North.e0), (iv p1.North.e1), (iv p1.North.e2), (iv p1.North.e3), (iv p1.North.e4), (iv p1.North.e5), (iv p1.North.e6), (iv p1.North.e7), (iv p1.West), (iv p1.East)] 88 (0, 0))] ∧ x3234 = t) ∧ CellsOK [] w1) (fun K => ?_) ?_
        ·
         rcases br_some hx3235 with ⟨h3236, hx3235⟩ | ⟨h3236, hx3235⟩
         ·
          refine WL.setB 53 h3236 rfl ?_
          refine seg 39 [] [0, 2, 4, 33, 34, 75] [(0, (.pointer (some ⟨g_p0, 0, none⟩))), (2, (iv p2)), (4, (pt g2446)), (33, (iv p0.width)), (34, (iv x3041)), (75, (.bool true))] [] (fun fb => by kernel_rfl) rfl trivial ?_
          injection hx3235 with hx3235
          exact WL.to K true [0, 2, 4, 33, 34, 75] rfl ⟨⟨(hS3227.subR [0, 1, 2, 3, 4, 5, 6, 7]).sub [0] (by decide), hx3235.symm⟩, trivial⟩
         refine WL.setB 53 h3236 rfl ?_
         refine seg 25 [.v (iv p0.height)] [0, 2, 4, 7, 33, 34, 53, 61] [(0, (.pointer (some ⟨g_p0, 0, none⟩))), (2, (iv p2)), (4, (pt g2446)), (7, (iv x3041)), (33, (iv p0.width)), (34, (iv x3041)), (53, (.bool false)), (61, (.bool (p2 == (w64 (p0.height - 1)))))] [.cell ⟨g_p0, 2, none⟩ (iv p0.height)] (fun fb => by kernel_rfl) rfl ⟨blk_cell (hS3227.rd 0).1 2 rfl, trivial⟩ ?_
         refine WL.setB 61 h3193 rfl ?_
         refine seg 35 [.v (.slice A_p0_edges_North p0.edges.North.length c_p0_edges_North), .v (iv (A8_Int.get p1.North x3041))] [0, 2, 4, 33, 34, 53, 61, 66, 67, 71] [(0, (.pointer (some ⟨g_p0, 0, none⟩))), (2, (iv p2)), (4, (pt g2446)), (33, (iv p0.width)), (34, (iv x3041)), (53, (.bool false)), (61, (.bool true)), (66, (.slice A_p0_edges_North p0.edges.North.length c_p0_edges_North)), (67, (iv x3041)), (71, (iv (A8_Int.get p1.North x3041)))] [.idx (some ⟨0, 0, none⟩) x3041 8, .cell ⟨g_p0, 3, none⟩ (.slice A_p0_edges_North p0.edges.North.length c_p0_edges_North), .cell (flatA ⟨g2446, 9, none⟩ (x3041.toNat * 1)) (iv (A8_Int.get p1.North x3041))] (fun fb => by kernel_rfl) rfl ⟨⟨h3222.1, h3222.2, rfl⟩, blk_cell (hS3227.rd 0).1 3 rfl, hS3227.cell 0 rfl _ (cases8 (Q := fun z_ => (#[(.slice A_p1_Cells p1.Cells.length c_p1_Cells), (iv p1.South.e0), (iv p1.South.e1), (iv p1.South.e2), (iv p1.South.e3), (iv p1.South.e4), (iv p1.South.e5), (iv p1.South.e6), (iv p1.South.e7), (iv p1.North.e0), (iv p1.North.e1), (iv p1.North.e2), (iv p1.North.e3), (iv p1.North.e4), (iv p1.North.e5), (iv p1.North.e6), (iv p1.North.e7), (iv p1.West), (iv p1.East)] : Array Value)[9 + z_.toNat * 1]? = some (iv (A8_Int.get p1.North z_))) h3222 (by kernel_rfl) (by kernel_rfl) (by kernel_rfl) (by kernel_rfl) (by kernel_rfl) (by kernel_rfl) (by kernel_rfl) (by kernel_rfl)), trivial⟩ ?_
         obtain ⟨t3237, ht3238, hx3235⟩ := bind_some hx3235
         refine WL.call (some 72) 68 #[(.slice A_p0_edges_North p0.edges.North.length c_p0_edges_North), (iv x3041), (iv (A8_Int.get p1.North x3041))] (fun fb => by kernel_rfl) (fill_at_calls p0.edges.North x3041 (A8_Int.get p1.North x3041) A_p0_edges_North c_p0_edges_North t3237 _ (hS3227.rd 3) ht3238) (fun v w3239 hR3240 => ?_)
         obtain ⟨rfl, hk_⟩ := hR3240
         have hS3241 := hS3227.keepN hk_
         refine ⟨trivial, ?_⟩
         refine seg 39 [] [0, 2, 4, 33, 34, 75] [(0, (.pointer (some ⟨g_p0, 0, none⟩))), (2, (iv p2)), (4, (pt g2446)), (33, (iv p0.width)), (34, (iv x3041)), (75, (.bool (!t3237)))] [] (fun fb => by kernel_rfl) rfl trivial ?_
         injection hx3235 with hx3235
         exact WL.to K (!t3237) [0, 2, 4, 33, 34, 75] rfl ⟨⟨(hS3241.subR [0, 1, 2, 3, 4, 5, 6, 7]).sub [0] (by decide), hx3235.symm⟩, trivial⟩
        rintro y3242 w3244 ⟨⟨hS3245, hq3243⟩, hF3246⟩
        subst hq3243
        refine WL.done rfl ?_
        injection hx3185 with hx3185
        exact WX.to Kx3184 x3234 [0, 2, 4, 33, 34, 75] rfl ⟨(hS3245.subR [0, 1, 2, 3, 4, 5, 6, 7]).sub [0] (by decide), hx3185.symm⟩
       refine seg 3 [] [0, 2, 4, 7, 33, 34, 39] [(0, (.pointer (some ⟨g_p0, 0, none⟩))), (2, (iv p2)), (4, (pt g2446)), (7, (iv x3041)), (33, (iv p0.width)), (34, (iv x3041)), (39, (.bool (p2 == 0)))] [] (fun fb => by kernel_rfl) rfl trivial ?_
       refine WL.setB 39 h3186 rfl ?_
       refine segF 13 [.v (.slice A_p0_edges_South p0.edges.South.length c_p0_edges_South), .v (iv (A8_Int.get p1.South x3041))] [0, 2, 4, 7, 33, 34, 39, 44, 45, 49] [(0, (.pointer (some ⟨g_p0, 0, none⟩))), (2, (iv p2)), (4, (pt g2446)), (7, (iv x3041)), (33, (iv p0.width)), (34, (iv x3041)), (39, (.bool true)), (44, (.slice A_p0_edges_South p0.edges.South.length c_p0_edges_South)), (45, (iv x3041)), (49, (iv (A8_Int.get p1.South x3041)))] [.idx (some ⟨0, 0, none⟩) x3041 8] [0, 1] [(7, ⟨g_p0, 5, none⟩, (.slice A_p0_edges_South p0.edges.South.length c_p0_edges_South)), (12, (flatA ⟨g2446, 1, none⟩ (x3041.toNat * 1)), (iv (A8_Int.get p1.South x3041)))] (fun fb => by kernel_rfl) rfl ⟨⟨h3222.1, h3222.2, rfl⟩, trivial⟩ rfl ?_
       obtain ⟨t3247, ht3248, hx3185⟩ := bind_some hx3185
       refine WL.call (some 50) 68 #[(.slice A_p0_edges_South p0.edges.South.length c_p0_edges_South), (iv x3041), (iv (A8_Int.get p1.South x3041))] (fun fb => by kernel_rfl) (fill_at_calls p0.edges.South x3041 (A8_Int.get p1.South x3041) A_p0_edges_South c_p0_edges_South t3247 _ (hS3220.rd 5) ht3248) (fun v w3249 hR3250 => ?_)
       obtain ⟨rfl, hk_⟩ := hR3250
       have hS3251 := hS3220.keepN hk_
       refine ⟨trivial, ?_⟩
       refine seg 17 [] [0, 2, 4, 7, 33, 34, 53] [(0, (.pointer (some ⟨g_p0, 0, none⟩))), (2, (iv p2)), (4, (pt g2446)), (7, (iv x3041)), (33, (iv p0.width)), (34, (iv x3041)), (53, (.bool (!t3247)))] [] (fun fb => by kernel_rfl) rfl trivial ?_
       obtain ⟨x3258, hx3259, hx3185⟩ := bind_some hx3185
       refine WL.cutW (T := Bool) 39 (fun t => [(0, (.pointer (some ⟨g_p0, 0, none⟩))), (2, (iv p2)), (4, (pt g2446)), (33, (iv p0.width)), (34, (iv x3041)), (75, (.bool t))]) (fun t w1 => (St NoS w w1 [blk g_p0 (.cells #[(.slice A_p0_rows p0.rows.length c_p0_rows), (iv p0.width), (iv p0.height), (.slice A_p0_edges_North p0.edges.North.length c_p0_edges_North), (.slice A_p0_edges_East p0.edges.East.length c_p0_edges_East), (.slice A_p0_edges_South p0.edges.South.length c_p0_edges_South), (.slice A_p0_edges_West p0.edges.West.length c_p0_edges_West)] 84 (0, 0)), rowR encN_Row A_p0_rows c_p0_rows (tag H_p0_rows p0.rows), nestO subN_Row H_p0_rows p0.rows, rowR encInt A_p0_edges_North c_p0_edges_North p0.edges.North, rowR encInt A_p0_edges_East c_p0_edges_East p0.edges.East, rowR encInt A_p0_edges_South c_p0_edges_South p0.edges.South, rowR encInt A_p0_edges_West c_p0_edges_West p0.edges.West, rowR encInt A_p1_Cells c_p1_Cells p1.Cells] [blk g2446 (.cells #[(.slice A_p1_Cells p1.Cells.length c_p1_Cells), (iv p1.South.e0), (iv p1.South.e1), (iv p1.South.e2), (iv p1.South.e3), (iv p1.South.e4), (iv p1.South.e5), (iv p1.South.e6), (iv p1.South.e7), (iv p1.North.e0), (iv p1.North.e1), (iv p1.North.e2), (iv p1.North.e3), (iv p1.North.e4), (iv p1.North.e5), (iv p1.North.e6), (iv p1.North.e7), (iv p1.West), (iv p1.East)] 88 (0, 0))] ∧ x3258 = t) ∧ CellsOK [] w1) (fun K => ?_) ?_
       ·
        rcases br_some hx3259 with ⟨h3260, hx3259⟩ | ⟨h3260, hx3259⟩
        ·
         refine WL.setB 53 h3260 rfl ?_
         refine seg 39 [] [0, 2, 4, 33, 34, 75] [(0, (.pointer (some ⟨g_p0, 0, none⟩))), (2, (iv p2)), (4, (pt g2446)), (33, (iv p0.width)), (34, (iv x3041)), (75, (.bool true))] [] (fun fb => by kernel_rfl) rfl trivial ?_
         injection hx3259 with hx3259
         exact WL.to K true [0, 2, 4, 33, 34, 75] rfl ⟨⟨(hS3251.subR [0, 1, 2, 3, 4, 5, 6, 7]).sub [0] (by decide), hx3259.symm⟩, trivial⟩
        refine WL.setB 53 h3260 rfl ?_
        refine seg 25 [.v (iv p0.height)] [0, 2, 4, 7, 33, 34, 53, 61] [(0, (.pointer (some ⟨g_p0, 0, none⟩))), (2, (iv p2)), (4, (pt g2446)), (7, (iv x3041)), (33, (iv p0.width)), (34, (iv x3041)), (53, (.bool false)), (61, (.bool (p2 == (w64 (p0.height - 1)))))] [.cell ⟨g_p0, 2, none⟩ (iv p0.height)] (fun fb => by kernel_rfl) rfl ⟨blk_cell (hS3251.rd 0).1 2 rfl, trivial⟩ ?_
        refine WL.setB 61 h3193 rfl ?_
        refine seg 35 [.v (iv (A8_Int.get p1.North x3041)), .v (.slice A_p0_edges_North p0.edges.North.length c_p0_edges_North)] [0, 2, 4, 33, 34, 53, 61, 66, 67, 71] [(0, (.pointer (some ⟨g_p0, 0, none⟩))), (2, (iv p2)), (4, (pt g2446)), (33, (iv p0.width)), (34, (iv x3041)), (53, (.bool false)), (61, (.bool true)), (66, (.slice A_p0_edges_North p0.edges.North.length c_p0_edges_North)), (67, (iv x3041)), (71, (iv (A8_Int.get p1.North x3041)))] [.idx (some ⟨0, 0, none⟩) x3041 8, .cell (flatA ⟨g2446, 9, none⟩ (x3041.toNat * 1)) (iv (A8_Int.get p1.North x3041)), .cell ⟨g_p0, 3, none⟩ (.slice A_p0_edges_North p0.edges.North.length c_p0_edges_North)] (fun fb => by kernel_rfl) rfl ⟨⟨h3222.1, h3222.2, rfl⟩, hS3251.cell 0 rfl _ (cases8 (Q := fun z_ => (#[(.slice A_p1_Cells p1.Cells.length c_p1_Cells), (iv p1.South.e0), (iv p1.South.e1), (iv p1.South.e2), (iv p1.South.e3), (iv p1.South.e4), (iv p1.South.e5), (iv p1.South.e6), (iv p1.South.e7), (iv p1.North.e0), (iv p1.North.e1), (iv p1.North.e2), (iv p1.North.e3), (iv p1.North.e4), (iv p1.North.e5), (iv p1.North.e6), (iv p1.North.e7), (iv p1.West), (iv p1.East)] : Array Value)[9 + z_.toNat * 1]? = some (iv (A8_Int.get p1.North z_))) h3222 (by kernel_rfl) (by kernel_rfl) (by kernel_rfl) (by kernel_rfl) (by kernel_rfl) (by kernel_rfl) (by kernel_rfl) (by kernel_rfl)), blk_cell (hS3251.rd 0).1 3 rfl, trivial⟩ ?_
        obtain ⟨t3261, ht3262, hx3259⟩ := bind_some hx3259
        refine WL.call (some 72) 68 #[(.slice A_p0_edges_North p0.edges.North.length c_p0_edges_North), (iv x3041), (iv (A8_Int.get p1.North x3041))] (fun fb => by kernel_rfl) (fill_at_calls p0.edges.North x3041 (A8_Int.get p1.North x3041) A_p0_edges_North c_p0_edges_North t3261 _ (hS3251.rd 3) ht3262) (fun v w3263 hR3264 => ?_)
        obtain ⟨rfl, hk_⟩ := hR3264
        have hS3265 := hS3251.keepN hk_
        refine ⟨trivial, ?_⟩
        refine seg 39 [] [0, 2, 4, 33, 34, 75] [(0, (.pointer (some ⟨g_p0, 0, none⟩))), (2, (iv p2)), (4, (pt g2446)), (33, (iv p0.width)), (34, (iv x3041)), (75, (.bool (!t3261)))] [] (fun fb => by kernel_rfl) rfl trivial ?_
        injection hx3259 with hx3259
        exact WL.to K (!t3261) [0, 2, 4, 33, 34, 75] rfl ⟨⟨(hS3265.subR [0, 1, 2, 3, 4, 5, 6, 7]).sub [0] (by decide), hx3259.symm⟩, trivial⟩
       rintro y3266 w3268 ⟨⟨hS3269, hq3267⟩, hF3270⟩
       subst hq3267
       refine WL.done rfl ?_
       injection hx3185 with hx3185
       exact WX.to Kx3184 x3258 [0, 2, 4, 33, 34, 75] rfl ⟨(hS3269.subR [0, 1, 2, 3, 4, 5, 6, 7]).sub [0] (by decide), hx3185.symm⟩
      obtain ⟨h3282, hx3185⟩ := as_some hx3185
      refine WC.regionD ([(7, ⟨g_p0, 5, none⟩, (.slice A_p0_edges_South p0.edges.South.length c_p0_edges_South)), (12, (flatA ⟨g2446, 1, none⟩ (x3041.toNat * 1)), (iv (A8_Int.get p1.South x3041)))], [0, 1, 2, 3, 4, 5, 6, 7, 8, 9, 10, 11, 12, 14, 15, 16, 17, 18, 19, 20, 22, 23, 24, 25, 26, 27, 28, 30, 31, 32, 33, 36, 37, 38], [[], [0], [0, 1], [0, 1, 2], [0, 1, 2, 3], [0, 1, 2, 3, 4], [0, 1, 2, 3, 4, 5], [0, 1, 2, 3, 4, 5, 6], [0, 1, 2], [0, 1, 2], [0, 1, 2], [0, 1, 2, 9, 10], [0, 1, 2, 9, 10, 11], [0, 1, 2, 3, 4, 5, 6, 7, 8, 9, 10, 11, 12], [0, 1, 2, 3, 4, 5, 6, 7, 8, 9, 10, 11, 12, 13], [0, 1, 2, 3, 4, 5, 6, 7, 8, 9, 10, 11, 12, 13, 14], [0, 1, 2, 3, 4, 5, 6, 7, 8, 9, 10, 11, 12, 13, 14, 15], [0, 1, 2, 3, 4, 5, 6, 7, 8, 9, 10, 11, 12, 13, 14, 15, 16], [0, 1, 2, 3, 4, 5, 6, 7, 8, 9, 10, 11, 12, 13, 14, 15, 16], [0, 1, 2, 3, 4, 5, 6, 7, 8, 9, 10, 11, 12, 13, 14, 15, 16, 18], [0, 1, 2, 3, 4, 5, 6, 7, 8, 9, 10, 11, 12, 13, 14, 15, 16, 18, 19], [0, 1, 2, 3, 4, 5, 6, 7, 8, 9, 10, 11, 12, 13, 14, 15, 16, 18, 19, 20], [0, 1, 2, 3, 4, 5, 6, 7, 8, 9, 10, 11, 12, 13, 14, 15, 16, 18, 19, 20, 21], [0, 1, 2, 3, 4, 5, 6, 7, 8, 9, 10, 11, 12, 13, 14, 15, 16, 17, 18, 19, 20, 21, 22], [0, 1, 2, 3, 4, 5, 6, 7, 8, 9, 10, 11, 12, 13, 14, 15, 16, 17, 18, 19, 20, 21, 22, 23], [0, 1, 2, 3, 4, 5, 6, 7, 8, 9, 10, 11, 12, 13, 14, 15, 16, 17, 18, 19, 20, 21, 22, 23, 24], [0, 1, 2, 3, 4, 5, 6, 7, 8, 9, 10, 11, 12, 13, 14, 15, 16, 17, 18, 19, 20, 21, 22, 23, 24, 25], [0, 1, 2, 3, 4, 5, 6, 7, 8, 9, 10, 11, 12, 13, 14, 15, 16, 17, 18, 19, 20, 21, 22, 23, 24, 25, 26], [0, 1, 2, 3, 4, 5, 6, 7, 8, 9, 10, 11, 12, 13, 14, 15, 16, 17, 18, 19, 20, 21, 22, 23, 24, 25, 26, 27], [0, 1, 2, 3, 4, 5, 6, 7, 8, 9, 10, 11, 12, 13, 14, 15, 16, 17, 18, 19, 20, 21, 22, 23, 24, 25, 26, 27, 28], [0, 1, 2, 3, 4, 5, 6, 7, 8, 9, 10, 11, 12, 13, 14, 15, 16, 17, 18, 19, 20, 21, 22, 23, 24], [0, 1, 2, 3, 4, 5, 6, 7, 8, 9, 10, 11, 12, 13, 14, 15, 16, 17, 18, 19, 20, 21, 22, 23, 24], [0, 1, 2, 3, 4, 5, 6, 7, 8, 9, 10, 11, 12, 13, 14, 15, 16, 17, 18, 19, 20, 21, 22, 23, 24], [0, 1, 2, 3, 4, 5, 6, 7, 8, 9, 10, 11, 12, 13, 14, 15, 16, 17, 18, 19, 20, 21, 22, 23, 24, 31, 32], [0, 1, 2, 3, 4, 5, 6, 7, 8, 9, 10, 11, 12, 13, 14, 15, 16, 17, 18, 19, 20, 21, 22, 23, 24, 31, 32, 33], [0, 1, 2, 3, 4, 5, 6, 7, 8, 9, 10, 11, 12, 13, 14, 15, 16, 17, 18, 19, 20, 21, 22, 23, 24, 25, 26, 27, 28, 29, 30, 31, 32, 33, 34], [0, 1, 2, 3, 4, 5, 6, 7, 8, 9, 10, 11, 12, 13, 14, 15, 16, 17, 18, 19, 20, 21, 22, 23, 24, 25, 26, 27, 28, 29, 30, 31, 32, 33, 34, 35], [0, 1, 2, 3, 4, 5, 6, 7, 8, 9, 10, 11, 12, 13, 14, 15, 16, 17, 18, 19, 20, 21, 22, 23, 24, 25, 26, 27, 28, 29, 30, 31, 32, 33, 34, 35, 36], [0, 1, 2, 3, 4, 5, 6, 7, 8, 9, 10, 11, 12, 13, 14, 15, 16, 17, 18, 19, 20, 21, 22, 23, 24, 25, 26, 27, 28, 29, 30, 31, 32, 33, 34, 35, 36, 37]]) [[0, 1, 2, 3, 4, 5, 6, 7, 8, 9, 10, 11, 12, 13, 14, 15, 16, 17, 18, 19, 20, 21, 22, 23, 24, 25, 26, 27, 28, 30, 31, 32, 33, 29, 34, 35, 36, 37, 38], [0, 1, 2, 3, 4, 5, 6, 7, 8, 9, 10, 11, 12, 13, 14, 15, 16, 17, 18, 19, 20, 21, 22, 23, 24, 25, 26, 27, 28, 30, 31, 32, 33, 34, 29, 35, 36, 37, 38]] (by kernel_rfl) (by kernel_rfl) (NoPanic.seq (NoPanic.block (NoPanic.seq (NoPanic.seq (NoPanic.block (NoPanic.seq (NoPanic.body))))))) ?_
      have hS3280 := hS3046.drew
      revert hS3280
      generalize World.drew w3045 = w3279
      intro hS3280
      refine ⟨⟨blk_cell (hS3280.rd 0).1 5 rfl, hS3280.cell 0 rfl _ (cases8 (Q := fun z_ => (#[(.slice A_p1_Cells p1.Cells.length c_p1_Cells), (iv p1.South.e0), (iv p1.South.e1), (iv p1.South.e2), (iv p1.South.e3), (iv p1.South.e4), (iv p1.South.e5), (iv p1.South.e6), (iv p1.South.e7), (iv p1.North.e0), (iv p1.North.e1), (iv p1.North.e2), (iv p1.North.e3), (iv p1.North.e4), (iv p1.North.e5), (iv p1.North.e6), (iv p1.North.e7), (iv p1.West), (iv p1.East)] : Array Value)[1 + z_.toNat * 1]? = some (iv (A8_Int.get p1.South z_))) h3282 (by kernel_rfl) (by kernel_rfl) (by kernel_rfl) (by kernel_rfl) (by kernel_rfl) (by kernel_rfl) (by kernel_rfl) (by kernel_rfl)), trivial⟩, forallC ?_ (forallC ?_ (forallN))⟩
      ·
       refine seg 3 [] [0, 2, 4, 7, 33, 34, 39] [(0, (.pointer (some ⟨g_p0, 0, none⟩))), (2, (iv p2)), (4, (pt g2446)), (7, (iv x3041)), (33, (iv p0.width)), (34, (iv x3041)), (39, (.bool (p2 == 0)))] [] (fun fb => by kernel_rfl) rfl trivial ?_
       refine WL.setB 39 h3186 rfl ?_
       refine segF 13 [.v (.slice A_p0_edges_South p0.edges.South.length c_p0_edges_South), .v (iv (A8_Int.get p1.South x3041))] [0, 2, 4, 7, 33, 34, 39, 44, 45, 49] [(0, (.pointer (some ⟨g_p0, 0, none⟩))), (2, (iv p2)), (4, (pt g2446)), (7, (iv x3041)), (33, (iv p0.width)), (34, (iv x3041)), (39, (.bool true)), (44, (.slice A_p0_edges_South p0.edges.South.length c_p0_edges_South)), (45, (iv x3041)), (49, (iv (A8_Int.get p1.South x3041)))] [.idx (some ⟨0, 0, none⟩) x3041 8] [0, 1] [(7, ⟨g_p0, 5, none⟩, (.slice A_p0_edges_South p0.edges.South.length c_p0_edges_South)), (12, (flatA ⟨g2446, 1, none⟩ (x3041.toNat * 1)), (iv (A8_Int.get p1.South x3041)))] (fun fb => by kernel_rfl) rfl ⟨⟨h3282.1, h3282.2, rfl⟩, trivial⟩ rfl ?_
       obtain ⟨t3283, ht3284, hx3185⟩ := bind_some hx3185
       refine WL.call (some 50) 68 #[(.slice A_p0_edges_South p0.edges.South.length c_p0_edges_South), (iv x3041), (iv (A8_Int.get p1.South x3041))] (fun fb => by kernel_rfl) (fill_at_calls p0.edges.South x3041 (A8_Int.get p1.South x3041) A_p0_edges_South c_p0_edges_South t3283 _ (hS3280.rd 5) ht3284) (fun v w3285 hR3286 => ?_)
       obtain ⟨rfl, hk_⟩ := hR3286
       have hS3287 := hS3280.keepN hk_
       refine ⟨trivial, ?_⟩
       refine seg 17 [] [0, 2, 4, 7, 33, 34, 53] [(0, (.pointer (some ⟨g_p0, 0, none⟩))), (2, (iv p2)), (4, (pt g2446)), (7, (iv x3041)), (33, (iv p0.width)), (34, (iv x3041)), (53, (.bool (!t3283)))] [] (fun fb => by kernel_rfl) rfl trivial ?_
       refine WL.cutV (T := Bool) 39 (fun t => [(75, (.bool t)), (0, (.pointer (some ⟨g_p0, 0, none⟩))), (2, (iv p2)), (4, (pt g2446)), (33, (iv p0.width)), (34, (iv x3041))]) (fun t => (!t3283) = t) (fun K => ?_) ?_
       ·
        rcases Bool.eq_false_or_eq_true (!t3283) with h3288 | h3288
        ·
         refine WL.setB 53 h3288 rfl ?_
         refine seg 39 [] [0, 2, 4, 33, 34, 75] [(0, (.pointer (some ⟨g_p0, 0, none⟩))), (2, (iv p2)), (4, (pt g2446)), (33, (iv p0.width)), (34, (iv x3041)), (75, (.bool true))] [] (fun fb => by kernel_rfl) rfl trivial ?_
         exact WL.toV K true [75, 0, 2, 4, 33, 34] rfl (by first | (rw [h3288]; done) | (rw [h3288]; rfl))
        refine WL.setB 53 h3288 rfl ?_
        refine seg 25 [.v (iv p0.height)] [0, 2, 4, 7, 33, 34, 53, 61] [(0, (.pointer (some ⟨g_p0, 0, none⟩))), (2, (iv p2)), (4, (pt g2446)), (7, (iv x3041)), (33, (iv p0.width)), (34, (iv x3041)), (53, (.bool false)), (61, (.bool (p2 == (w64 (p0.height - 1)))))] [.cell ⟨g_p0, 2, none⟩ (iv p0.height)] (fun fb => by kernel_rfl) rfl ⟨blk_cell (hS3287.rd 0).1 2 rfl, trivial⟩ ?_
        refine WL.setB 61 h3193 rfl ?_
        refine seg 39 [] [0, 2, 4, 33, 34, 75] [(0, (.pointer (some ⟨g_p0, 0, none⟩))), (2, (iv p2)), (4, (pt g2446)), (33, (iv p0.width)), (34, (iv x3041)), (75, (.bool false))] [] (fun fb => by kernel_rfl) rfl trivial ?_
        exact WL.toV K false [75, 0, 2, 4, 33, 34] rfl (by first | (rw [h3288]; done) | (rw [h3288]; rfl))
       rintro b3289 rfl
       refine WL.done rfl ?_
       injection hx3185 with hx3185
       exact WX.to Kx3184 (!t3283) [0, 2, 4, 33, 34, 75] rfl ⟨(hS3287.subR [0, 1, 2, 3, 4, 5, 6, 7]).sub [0] (by decide), hx3185.symm⟩
      refine seg 3 [] [0, 2, 4, 7, 33, 34, 39] [(0, (.pointer (some ⟨g_p0, 0, none⟩))), (2, (iv p2)), (4, (pt g2446)), (7, (iv x3041)), (33, (iv p0.width)), (34, (iv x3041)), (39, (.bool (p2 == 0)))] [] (fun fb => by kernel_rfl) rfl trivial ?_
      refine WL.setB 39 h3186 rfl ?_
      refine segF 13 [.v (.slice A_p0_edges_South p0.edges.South.length c_p0_edges_South), .v (iv (A8_Int.get p1.South x3041))] [0, 2, 4, 7, 33, 34, 39, 44, 45, 49] [(0, (.pointer (some ⟨g_p0, 0, none⟩))), (2, (iv p2)), (4, (pt g2446)), (7, (iv x3041)), (33, (iv p0.width)), (34, (iv x3041)), (39, (.bool true)), (44, (.slice A_p0_edges_South p0.edges.South.length c_p0_edges_South)), (45, (iv x3041)), (49, (iv (A8_Int.get p1.South x3041)))] [.idx (some ⟨0, 0, none⟩) x3041 8] [0, 1] [(7, ⟨g_p0, 5, none⟩, (.slice A_p0_edges_South p0.edges.South.length c_p0_edges_South)), (12, (flatA ⟨g2446, 1, none⟩ (x3041.toNat * 1)), (iv (A8_Int.get p1.South x3041)))] (fun fb => by kernel_rfl) rfl ⟨⟨h3282.1, h3282.2, rfl⟩, trivial⟩ rfl ?_
      obtain ⟨t3290, ht3291, hx3185⟩ := bind_some hx3185
      refine WL.call (some 50) 68 #[(.slice A_p0_edges_South p0.edges.South.length c_p0_edges_South), (iv x3041), (iv (A8_Int.get p1.South x3041))] (fun fb => by kernel_rfl) (fill_at_calls p0.edges.South x3041 (A8_Int.get p1.South x3041) A_p0_edges_South c_p0_edges_South t3290 _ (hS3280.rd 5) ht3291) (fun v w3292 hR3293 => ?_)
      obtain ⟨rfl, hk_⟩ := hR3293
      have hS3294 := hS3280.keepN hk_
      refine ⟨trivial, ?_⟩
      refine seg 17 [] [0, 2, 4, 7, 33, 34, 53] [(0, (.pointer (some ⟨g_p0, 0, none⟩))), (2, (iv p2)), (4, (pt g2446)), (7, (iv x3041)), (33, (iv p0.width)), (34, (iv x3041)), (53, (.bool (!t3290)))] [] (fun fb => by kernel_rfl) rfl trivial ?_
      refine WL.cutV (T := Bool) 39 (fun t => [(75, (.bool t)), (0, (.pointer (some ⟨g_p0, 0, none⟩))), (2, (iv p2)), (4, (pt g2446)), (33, (iv p0.width)), (34, (iv x3041))]) (fun t => (!t3290) = t) (fun K => ?_) ?_
      ·
       rcases Bool.eq_false_or_eq_true (!t3290) with h3295 | h3295
       ·
        refine WL.setB 53 h3295 rfl ?_
        refine seg 39 [] [0, 2, 4, 33, 34, 75] [(0, (.pointer (some ⟨g_p0, 0, none⟩))), (2, (iv p2)), (4, (pt g2446)), (33, (iv p0.width)), (34, (iv x3041)), (75, (.bool true))] [] (fun fb => by kernel_rfl) rfl trivial ?_
        exact WL.toV K true [75, 0, 2, 4, 33, 34] rfl (by first | (rw [h3295]; done) | (rw [h3295]; rfl))
       refine WL.setB 53 h3295 rfl ?_
       refine seg 25 [.v (iv p0.height)] [0, 2, 4, 7, 33, 34, 53, 61] [(0, (.pointer (some ⟨g_p0, 0, none⟩))), (2, (iv p2)), (4, (pt g2446)), (7, (iv x3041)), (33, (iv p0.width)), (34, (iv x3041)), (53, (.bool false)), (61, (.bool (p2 == (w64 (p0.height - 1)))))] [.cell ⟨g_p0, 2, none⟩ (iv p0.height)] (fun fb => by kernel_rfl) rfl ⟨blk_cell (hS3294.rd 0).1 2 rfl, trivial⟩ ?_
       refine WL.setB 61 h3193 rfl ?_
       refine seg 39 [] [0, 2, 4, 33, 34, 75] [(0, (.pointer (some ⟨g_p0, 0, none⟩))), (2, (iv p2)), (4, (pt g2446)), (33, (iv p0.width)), (34, (iv x3041)), (75, (.bool false))] [] (fun fb => by kernel_rfl) rfl trivial ?_
       exact WL.toV K false [75, 0, 2, 4, 33, 34] rfl (by first | (rw [h3295]; done) | (rw [h3295]; rfl))
      rintro b3296 rfl
      refine WL.done rfl ?_
      injection hx3185 with hx3185
      exact WX.to Kx3184 (!t3290) [0, 2, 4, 33, 34, 75] rfl ⟨(hS3294.subR [0, 1, 2, 3, 4, 5, 6, 7]).sub [0] (by decide), hx3185.symm⟩
     rcases br_some hx3185 with ⟨h3297, hx3185⟩ | ⟨h3297, hx3185⟩
     ·
      refine WC.regionD ([], [0, 1, 2, 3, 4, 5, 6, 7, 8, 9, 10, 11, 12, 14, 15, 16, 17, 18, 19, 20, 22, 23, 24, 25, 26, 27, 28, 30, 31, 32, 33, 36, 37, 38], [[], [0], [0, 1], [0, 1, 2], [0, 1, 2, 3], [0, 1, 2, 3, 4], [0, 1, 2, 3, 4, 5], [0, 1, 2, 3, 4, 5, 6], [0, 1, 2], [0, 1, 2], [0, 1, 2], [0, 1, 2, 9, 10], [0, 1, 2, 9, 10, 11], [0, 1, 2, 3, 4, 5, 6, 7, 8, 9, 10, 11, 12], [0, 1, 2, 3, 4, 5, 6, 7, 8, 9, 10, 11, 12, 13], [0, 1, 2, 3, 4, 5, 6, 7, 8, 9, 10, 11, 12, 13, 14], [0, 1, 2, 3, 4, 5, 6, 7, 8, 9, 10, 11, 12, 13, 14, 15], [0, 1, 2, 3, 4, 5, 6, 7, 8, 9, 10, 11, 12, 13, 14, 15, 16], [0, 1, 2, 3, 4, 5, 6, 7, 8, 9, 10, 11, 12, 13, 14, 15, 16], [0, 1, 2, 3, 4, 5, 6, 7, 8, 9, 10, 11, 12, 13, 14, 15, 16, 18], [0, 1, 2, 3, 4, 5, 6, 7, 8, 9, 10, 11, 12, 13, 14, 15, 16, 18, 19], [0, 1, 2, 3, 4, 5, 6, 7, 8, 9, 10, 11, 12, 13, 14, 15, 16, 18, 19, 20], [0, 1, 2, 3, 4, 5, 6, 7, 8, 9, 10, 11, 12, 13, 14, 15, 16, 18, 19, 20, 21], [0, 1, 2, 3, 4, 5, 6, 7, 8, 9, 10, 11, 12, 13, 14, 15, 16, 17, 18, 19, 20, 21, 22], [0, 1, 2, 3, 4, 5, 6, 7, 8, 9, 10, 11, 12, 13, 14, 15, 16, 17, 18, 19, 20, 21, 22, 23], [0, 1, 2, 3, 4, 5, 6, 7, 8, 9, 10, 11, 12, 13, 14, 15, 16, 17, 18, 19, 20, 21, 22, 23, 24], [0, 1, 2, 3, 4, 5, 6, 7, 8, 9, 10, 11, 12, 13, 14, 15, 16, 17, 18, 19, 20, 21, 22, 23, 24, 25], [0, 1, 2, 3, 4, 5, 6, 7, 8, 9, 10, 11, 12, 13, 14, 15, 16, 17, 18, 19, 20, 21, 22, 23, 24, 25, 26], [0, 1, 2, 3, 4, 5, 6, 7, 8, 9, 10, 11, 12, 13, 14, 15, 16, 17, 18, 19, 20, 21, 22, 23, 24, 25, 26, 27], [0, 1, 2, 3, 4, 5, 6, 7, 8, 9, 10, 11, 12, 13, 14, 15, 16, 17, 18, 19, 20, 21, 22, 23, 24, 25, 26, 27, 28], [0, 1, 2, 3, 4, 5, 6, 7, 8, 9, 10, 11, 12, 13, 14, 15, 16, 17, 18, 19, 20, 21, 22, 23, 24], [0, 1, 2, 3, 4, 5, 6, 7, 8, 9, 10, 11, 12, 13, 14, 15, 16, 17, 18, 19, 20, 21, 22, 23, 24], [0, 1, 2, 3, 4, 5, 6, 7, 8, 9, 10, 11, 12, 13, 14, 15, 16, 17, 18, 19, 20, 21, 22, 23, 24], [0, 1, 2, 3, 4, 5, 6, 7, 8, 9, 10, 11, 12, 13, 14, 15, 16, 17, 18, 19, 20, 21, 22, 23, 24, 31, 32], [0, 1, 2, 3, 4, 5, 6, 7, 8, 9, 10, 11, 12, 13, 14, 15, 16, 17, 18, 19, 20, 21, 22, 23, 24, 31, 32, 33], [0, 1, 2, 3, 4, 5, 6, 7, 8, 9, 10, 11, 12, 13, 14, 15, 16, 17, 18, 19, 20, 21, 22, 23, 24, 25, 26, 27, 28, 29, 30, 31, 32, 33, 34], [0, 1, 2, 3, 4, 5, 6, 7, 8, 9, 10, 11, 12, 13, 14, 15, 16, 17, 18, 19, 20, 21, 22, 23, 24, 25, 26, 27, 28, 29, 30, 31, 32, 33, 34, 35], [0, 1, 2, 3, 4, 5, 6, 7, 8, 9, 10, 11, 12, 13, 14, 15, 16, 17, 18, 19, 20, 21, 22, 23, 24, 25, 26, 27, 28, 29, 30, 31, 32, 33, 34, 35, 36], [0, 1, 2, 3, 4, 5, 6, 7, 8, 9, 10, 11, 12, 13, 14, 15, 16, 17, 18, 19, 20, 21, 22, 23, 24, 25, 26, 27, 28, 29, 30, 31, 32, 33, 34, 35, 36, 37]]) [[0, 1, 2, 3, 4, 5, 6, 7, 8, 9, 10, 11, 12, 13, 14, 15, 16, 17, 18, 19, 20, 21, 22, 23, 24, 25, 26, 27, 28, 30, 31, 32, 33, 29, 34, 35, 36, 37, 38], [0, 1, 2, 3, 4, 5, 6, 7, 8, 9, 10, 11, 12, 13, 14, 15, 16, 17, 18, 19, 20, 21, 22, 23, 24, 25, 26, 27, 28, 30, 31, 32, 33, 34, 29, 35, 36, 37, 38]] (by kernel_rfl) (by kernel_rfl) (NoPanic.seq (NoPanic.block (NoPanic.seq (NoPanic.seq (NoPanic.block (NoPanic.seq (NoPanic.body))))))) ?_
      have hS3305 := hS3046.drew
      revert hS3305
      generalize World.drew w3045 = w3304
      intro hS3305
      refine ⟨trivial, forallC ?_ (forallC ?_ (forallN))⟩
      ·
       refine seg 3 [] [0, 2, 4, 7, 33, 34, 39] [(0, (.pointer (some ⟨g_p0, 0, none⟩))), (2, (iv p2)), (4, (pt g2446)), (7, (iv x3041)), (33, (iv p0.width)), (34, (iv x3041)), (39, (.bool (p2 == 0)))] [] (fun fb => by kernel_rfl) rfl trivial ?_
       refine WL.setB 39 h3186 rfl ?_
       refine seg 25 [.v (iv p0.height)] [0, 2, 4, 7, 33, 34, 53, 61] [(0, (.pointer (some ⟨g_p0, 0, none⟩))), (2, (iv p2)), (4, (pt g2446)), (7, (iv x3041)), (33, (iv p0.width)), (34, (iv x3041)), (53, (.bool false)), (61, (.bool (p2 == (w64 (p0.height - 1)))))] [.cell ⟨g_p0, 2, none⟩ (iv p0.height)] (fun fb => by kernel_rfl) rfl ⟨blk_cell (hS3305.rd 0).1 2 rfl, trivial⟩ ?_
       refine WL.setB 61 h3297 rfl ?_
       refine seg 32 [] [0, 2, 4, 33, 34, 53, 61, 65, 67, 68, 69] [(0, (.pointer (some ⟨g_p0, 0, none⟩))), (2, (iv p2)), (4, (pt g2446)), (33, (iv p0.width)), (34, (iv x3041)), (53, (.bool false)), (61, (.bool true)), (65, (.pointer (some ⟨g_p0, 3, none⟩))), (67, (iv x3041)), (68, (iv x3041)), (69, (.pointer (some ⟨g2446, 9, none⟩)))] [] (fun fb => by kernel_rfl) rfl trivial ?_
       obtain ⟨h3306, hx3185⟩ := as_some hx3185
       refine seg 35 [.v (.slice A_p0_edges_North p0.edges.North.length c_p0_edges_North), .v (iv (A8_Int.get p1.North x3041))] [0, 2, 4, 33, 34, 53, 61, 66, 67, 71] [(0, (.pointer (some ⟨g_p0, 0, none⟩))), (2, (iv p2)), (4, (pt g2446)), (33, (iv p0.width)), (34, (iv x3041)), (53, (.bool false)), (61, (.bool true)), (66, (.slice A_p0_edges_North p0.edges.North.length c_p0_edges_North)), (67, (iv x3041)), (71, (iv (A8_Int.get p1.North x3041)))] [.idx (some ⟨0, 0, none⟩) x3041 8, .cell ⟨g_p0, 3, none⟩ (.slice A_p0_edges_North p0.edges.North.length c_p0_edges_North), .cell (flatA ⟨g2446, 9, none⟩ (x3041.toNat * 1)) (iv (A8_Int.get p1.North x3041))] (fun fb => by kernel_rfl) rfl ⟨⟨h3306.1, h3306.2, rfl⟩, blk_cell (hS3305.rd 0).1 3 rfl, hS3305.cell 0 rfl _ (cases8 (Q := fun z_ => (#[(.slice A_p1_Cells p1.Cells.length c_p1_Cells), (iv p1.South.e0), (iv p1.South.e1), (iv p1.South.e2), (iv p1.South.e3), (iv p1.South.e4), (iv p1.South.e5), (iv p1.South.e6), (iv p1.South.e7), (iv p1.North.e0), (iv p1.North.e1), (iv p1.North.e2), (iv p1.North.e3), (iv p1.North.e4), (iv p1.North.e5), (iv p1.North.e6), (iv p1.North.e7), (iv p1.West), (iv p1.East)] : Array Value)[9 + z_.toNat * 1]? = some (iv (A8_Int.get p1.North z_))) h3306 (by kernel_rfl) (by kernel_rfl) (by kernel_rfl) (by kernel_rfl) (by kernel_rfl) (by kernel_rfl) (by kernel_rfl) (by kernel_rfl)), trivial⟩ ?_
       obtain ⟨t3307, ht3308, hx3185⟩ := bind_some hx3185
       refine WL.call (some 72) 68 #[(.slice A_p0_edges_North p0.edges.North.length c_p0_edges_North), (iv x3041), (iv (A8_Int.get p1.North x3041))] (fun fb => by kernel_rfl) (fill_at_calls p0.edges.North x3041 (A8_Int.get p1.North x3041) A_p0_edges_North c_p0_edges_North t3307 _ (hS3305.rd 3) ht3308) (fun v w3309 hR3310 => ?_)
       obtain ⟨rfl, hk_⟩ := hR3310
       have hS3311 := hS3305.keepN hk_
       refine ⟨trivial, ?_⟩
       refine seg 39 [] [0, 2, 4, 33, 34, 75] [(0, (.pointer (some ⟨g_p0, 0, none⟩))), (2, (iv p2)), (4, (pt g2446)), (33, (iv p0.width)), (34, (iv x3041)), (75, (.bool (!t3307)))] [] (fun fb => by kernel_rfl) rfl trivial ?_
       refine WL.done rfl ?_
       injection hx3185 with hx3185
       exact WX.to Kx3184 (!t3307) [0, 2, 4, 33, 34, 75] rfl ⟨(hS3311.subR [0, 1, 2, 3, 4, 5, 6, 7]).sub [0] (by decide), hx3185.symm⟩
      refine seg 3 [] [0, 2, 4, 7, 33, 34, 39] [(0, (.pointer (some ⟨g_p0, 0, none⟩))), (2, (iv p2)), (4, (pt g2446)), (7, (iv x3041)), (33, (iv p0.width)), (34, (iv x3041)), (39, (.bool (p2 == 0)))] [] (fun fb => by kernel_rfl) rfl trivial ?_
      refine WL.setB 39 h3186 rfl ?_
      refine seg 25 [.v (iv p0.height)] [0, 2, 4, 7, 33, 34, 53, 61] [(0, (.pointer (some ⟨g_p0, 0, none⟩))), (2, (iv p2)), (4, (pt g2446)), (7, (iv x3041)), (33, (iv p0.width)), (34, (iv x3041)), (53, (.bool false)), (61, (.bool (p2 == (w64 (p0.height - 1)))))] [.cell ⟨g_p0, 2, none⟩ (iv p0.height)] (fun fb => by kernel_rfl) rfl ⟨blk_cell (hS3305.rd 0).1 2 rfl, trivial⟩ ?_
      refine WL.setB 61 h3297 rfl ?_
      refine seg 32 [] [0, 2, 4, 33, 34, 53, 61, 65, 67, 68, 69] [(0, (.pointer (some ⟨g_p0, 0, none⟩))), (2, (iv p2)), (4, (pt g2446)), (33, (iv p0.width)), (34, (iv x3041)), (53, (.bool false)), (61, (.bool true)), (65, (.pointer (some ⟨g_p0, 3, none⟩))), (67, (iv x3041)), (68, (iv x3041)), (69, (.pointer (some ⟨g2446, 9, none⟩)))] [] (fun fb => by kernel_rfl) rfl trivial ?_
      obtain ⟨h3312, hx3185⟩ := as_some hx3185
      refine seg 35 [.v (iv (A8_Int.get p1.North x3041)), .v (.slice A_p0_edges_North p0.edges.North.length c_p0_edges_North)] [0, 2, 4, 33, 34, 53, 61, 66, 67, 71] [(0, (.pointer (some ⟨g_p0, 0, none⟩))), (2, (iv p2)), (4, (pt g2446)), (33, (iv p0.width)), (34, (iv x3041)), (53, (.bool false)), (61, (.bool true)), (66, (.slice A_p0_edges_North p0.edges.North.length c_p0_edges_North)), (67, (iv x3041)), (71, (iv (A8_Int.get p1.North x3041)))] [.idx (some ⟨0, 0, none⟩) x3041 8, .cell (flatA ⟨g2446, 9, none⟩ (x3041.toNat * 1)) (iv (A8_Int.get p1.North x3041)), .cell ⟨g_p0, 3, none⟩ (.slice A_p0_edges_North p0.edges.North.length c_p0_edges_North)] (fun fb => by kernel_rfl) rfl ⟨⟨h3312.1, h3312.2, rfl⟩, hS3305.cell 0 rfl _ (cases8 (Q := fun z_ => (#[(.slice A_p1_Cells p1.Cells.length c_p1_Cells), (iv p1.South.e0), (iv p1.South.e1), (iv p1.South.e2), (iv p1.South.e3), (iv p1.South.e4), (iv p1.South.e5), (iv p1.South.e6), (iv p1.South.e7), (iv p1.North.e0), (iv p1.North.e1), (iv p1.North.e2), (iv p1.North.e3), (iv p1.North.e4), (iv p1.North.e5), (iv p1.North.e6), (iv p1.North.e7), (iv p1.West), (iv p1.East)] : Array Value)[9 + z_.toNat * 1]? = some (iv (A8_Int.get p1.North z_))) h3312 (by kernel_rfl) (by kernel_rfl) (by kernel_rfl) (by kernel_rfl) (by kernel_rfl) (by kernel_rfl) (by kernel_rfl) (by kernel_rfl)), blk_cell (hS3305.rd 0).1 3 rfl, trivial⟩ ?_
      obtain ⟨t3313, ht3314, hx3185⟩ := bind_some hx3185
      refine WL.call (some 72) 68 #[(.slice A_p0_edges_North p0.edges.North.length c_p0_edges_North), (iv x3041), (iv (A8_Int.get p1.North x3041))] (fun fb => by kernel_rfl) (fill_at_calls p0.edges.North x3041 (A8_Int.get p1.North x3041) A_p0_edges_North c_p0_edges_North t3313 _ (hS3305.rd 3) ht3314) (fun v w3315 hR3316 => ?_)
      obtain ⟨rfl, hk_⟩ := hR3316
      have hS3317 := hS3305.keepN hk_
      refine ⟨trivial, ?_⟩
      refine seg 39 [] [0, 2, 4, 33, 34, 75] [(0, (.pointer (some ⟨g_p0, 0, none⟩))), (2, (iv p2)), (4, (pt g2446)), (33, (iv p0.width)), (34, (iv x3041)), (75, (.bool (!t3313)))] [] (fun fb => by kernel_rfl) rfl trivial ?_
      refine WL.done rfl ?_
      injection hx3185 with hx3185
      exact WX.to Kx3184 (!t3313) [0, 2, 4, 33, 34, 75] rfl ⟨(hS3317.subR [0, 1, 2, 3, 4, 5, 6, 7]).sub [0] (by decide), hx3185.symm⟩
     refine WC.regionD ([], [0, 1, 2, 3, 4, 5, 6, 7, 8, 9, 10, 11, 12, 14, 15, 16, 17, 18, 19, 20, 22, 23, 24, 25, 26, 27, 28, 30, 31, 32, 33, 36, 37, 38], [[], [0], [0, 1], [0, 1, 2], [0, 1, 2, 3], [0, 1, 2, 3, 4], [0, 1, 2, 3, 4, 5], [0, 1, 2, 3, 4, 5, 6], [0, 1, 2], [0, 1, 2], [0, 1, 2], [0, 1, 2, 9, 10], [0, 1, 2, 9, 10, 11], [0, 1, 2, 3, 4, 5, 6, 7, 8, 9, 10, 11, 12], [0, 1, 2, 3, 4, 5, 6, 7, 8, 9, 10, 11, 12, 13], [0, 1, 2, 3, 4, 5, 6, 7, 8, 9, 10, 11, 12, 13, 14], [0, 1, 2, 3, 4, 5, 6, 7, 8, 9, 10, 11, 12, 13, 14, 15], [0, 1, 2, 3, 4, 5, 6, 7, 8, 9, 10, 11, 12, 13, 14, 15, 16], [0, 1, 2, 3, 4, 5, 6, 7, 8, 9, 10, 11, 12, 13, 14, 15, 16], [0, 1, 2, 3, 4, 5, 6, 7, 8, 9, 10, 11, 12, 13, 14, 15, 16, 18], [0, 1, 2, 3, 4, 5, 6, 7, 8, 9, 10, 11, 12, 13, 14, 15, 16, 18, 19], [0, 1, 2, 3, 4, 5, 6, 7, 8, 9, 10, 11, 12, 13, 14, 15, 16, 18, 19, 20], [0, 1, 2, 3, 4, 5, 6, 7, 8, 9, 10, 11, 12, 13, 14, 15, 16, 18, 19, 20, 21], [0, 1, 2, 3, 4, 5, 6, 7, 8, 9, 10, 11, 12, 13, 14, 15, 16, 17, 18, 19, 20, 21, 22], [0, 1, 2, 3, 4, 5, 6, 7, 8, 9, 10, 11, 12, 13, 14, 15, 16, 17, 18, 19, 20, 21, 22, 23], [0, 1, 2, 3, 4, 5, 6, 7, 8, 9, 10, 11, 12, 13, 14, 15, 16, 17, 18, 19, 20, 21, 22, 23, 24], [0, 1, 2, 3, 4, 5, 6, 7, 8, 9, 10, 11, 12, 13, 14, 15, 16, 17, 18, 19, 20, 21, 22, 23, 24, 25], [0, 1, 2, 3, 4, 5, 6, 7, 8, 9, 10, 11, 12, 13, 14, 15, 16, 17, 18, 19, 20, 21, 22, 23, 24, 25, 26], [0, 1, 2, 3, 4, 5, 6, 7, 8, 9, 10, 11, 12, 13, 14, 15, 16, 17, 18, 19, 20, 21, 22, 23, 24, 25, 26, 27], [0, 1, 2, 3, 4, 5, 6, 7, 8, 9, 10, 11, 12, 13, 14, 15, 16, 17, 18, 19, 20, 21, 22, 23, 24, 25, 26, 27, 28], [0, 1, 2, 3, 4, 5, 6, 7, 8, 9, 10, 11, 12, 13, 14, 15, 16, 17, 18, 19, 20, 21, 22, 23, 24], [0, 1, 2, 3, 4, 5, 6, 7, 8, 9, 10, 11, 12, 13, 14, 15, 16, 17, 18, 19, 20, 21, 22, 23, 24], [0, 1, 2, 3, 4, 5, 6, 7, 8, 9, 10, 11, 12, 13, 14, 15, 16, 17, 18, 19, 20, 21, 22, 23, 24], [0, 1, 2, 3, 4, 5, 6, 7, 8, 9, 10, 11, 12, 13, 14, 15, 16, 17, 18, 19, 20, 21, 22, 23, 24, 31, 32], [0, 1, 2, 3, 4, 5, 6, 7, 8, 9, 10, 11, 12, 13, 14, 15, 16, 17, 18, 19, 20, 21, 22, 23, 24, 31, 32, 33], [0, 1, 2, 3, 4, 5, 6, 7, 8, 9, 10, 11, 12, 13, 14, 15, 16, 17, 18, 19, 20, 21, 22, 23, 24, 25, 26, 27, 28, 29, 30, 31, 32, 33, 34], [0, 1, 2, 3, 4, 5, 6, 7, 8, 9, 10, 11, 12, 13, 14, 15, 16, 17, 18, 19, 20, 21, 22, 23, 24, 25, 26, 27, 28, 29, 30, 31, 32, 33, 34, 35], [0, 1, 2, 3, 4, 5, 6, 7, 8, 9, 10, 11, 12, 13, 14, 15, 16, 17, 18, 19, 20, 21, 22, 23, 24, 25, 26, 27, 28, 29, 30, 31, 32, 33, 34, 35, 36], [0, 1, 2, 3, 4, 5, 6, 7, 8, 9, 10, 11, 12, 13, 14, 15, 16, 17, 18, 19, 20, 21, 22, 23, 24, 25, 26, 27, 28, 29, 30, 31, 32, 33, 34, 35, 36, 37]]) [[0, 1, 2, 3, 4, 5, 6, 7, 8, 9, 10, 11, 12, 13, 14, 15, 16, 17, 18, 19, 20, 21, 22, 23, 24, 25, 26, 27, 28, 30, 31, 32, 33, 29, 34, 35, 36, 37, 38], [0, 1, 2, 3, 4, 5, 6, 7, 8, 9, 10, 11, 12, 13, 14, 15, 16, 17, 18, 19, 20, 21, 22, 23, 24, 25, 26, 27, 28, 30, 31, 32, 33, 34, 29, 35, 36, 37, 38]] (by kernel_rfl) (by kernel_rfl) (NoPanic.seq (NoPanic.block (NoPanic.seq (NoPanic.seq (NoPanic.block (NoPanic.seq (NoPanic.body))))))) ?_
     have hS3319 := hS3046.drew
     revert hS3319
     generalize World.drew w3045 = w3318
     intro hS3319
     refine ⟨trivial, forallC ?_ (forallC ?_ (forallN))⟩
     ·
      refine seg 3 [] [0, 2, 4, 7, 33, 34, 39] [(0, (.pointer (some ⟨g_p0, 0, none⟩))), (2, (iv p2)), (4, (pt g2446)), (7, (iv x3041)), (33, (iv p0.width)), (34, (iv x3041)), (39, (.bool (p2 == 0)))] [] (fun fb => by kernel_rfl) rfl trivial ?_
      refine WL.setB 39 h3186 rfl ?_
      refine seg 25 [.v (iv p0.height)] [0, 2, 4, 7, 33, 34, 53, 61] [(0, (.pointer (some ⟨g_p0, 0, none⟩))), (2, (iv p2)), (4, (pt g2446)), (7, (iv x3041)), (33, (iv p0.width)), (34, (iv x3041)), (53, (.bool false)), (61, (.bool (p2 == (w64 (p0.height - 1)))))] [.cell ⟨g_p0, 2, none⟩ (iv p0.height)] (fun fb => by kernel_rfl) rfl ⟨blk_cell (hS3319.rd 0).1 2 rfl, trivial⟩ ?_
      refine WL.setB 61 h3297 rfl ?_
      refine seg 39 [] [0, 2, 4, 33, 34, 75] [(0, (.pointer (some ⟨g_p0, 0, none⟩))), (2, (iv p2)), (4, (pt g2446)), (33, (iv p0.width)), (34, (iv x3041)), (75, (.bool false))] [] (fun fb => by kernel_rfl) rfl trivial ?_
      refine WL.done rfl ?_
      injection hx3185 with hx3185
      exact WX.to Kx3184 false [0, 2, 4, 33, 34, 75] rfl ⟨(hS3319.subR [0, 1, 2, 3, 4, 5, 6, 7]).sub [0] (by decide), hx3185.symm⟩
     refine seg 3 [] [0, 2, 4, 7, 33, 34, 39] [(0, (.pointer (some ⟨g_p0, 0, none⟩))), (2, (iv p2)), (4, (pt g2446)), (7, (iv x3041)), (33, (iv p0.width)), (34, (iv x3041)), (39, (.bool (p2 == 0)))] [] (fun fb => by kernel_rfl) rfl trivial ?_
     refine WL.setB 39 h3186 rfl ?_
     refine seg 25 [.v (iv p0.height)] [0, 2, 4, 7, 33, 34, 53, 61] [(0, (.pointer (some ⟨g_p0, 0, none⟩))), (2, (iv p2)), (4, (pt g2446)), (7, (iv x3041)), (33, (iv p0.width)), (34, (iv x3041)), (53, (.bool false)), (61, (.bool (p2 == (w64 (p0.height - 1)))))] [.cell ⟨g_p0, 2, none⟩ (iv p0.height)] (fun fb => by kernel_rfl) rfl ⟨blk_cell (hS3319.rd 0).1 2 rfl, trivial⟩ ?_
     refine WL.setB 61 h3297 rfl ?_
     refine seg 39 [] [0, 2, 4, 33, 34, 75] [(0, (.pointer (some ⟨g_p0, 0, none⟩))), (2, (iv p2)), (4, (pt g2446)), (33, (iv p0.width)), (34, (iv x3041)), (75, (.bool false))] [] (fun fb => by kernel_rfl) rfl trivial ?_
     refine WL.done rfl ?_
     injection hx3185 with hx3185
     exact WX.to Kx3184 false [0, 2, 4, 33, 34, 75] rfl ⟨(hS3319.subR [0, 1, 2, 3, 4, 5, 6, 7]).sub [0] (by decide), hx3185.symm⟩
    rintro y3323 w3320 ⟨hS3321, hq3322⟩
    subst hq3322
    refine WX.next ?_
    rcases br_some hl3047 with ⟨h3324, hl3047⟩ | ⟨h3324, hl3047⟩
    ·refine WC.condT2 (fun fb => by kernel_rfl) h3324 ?_
     refine WC.seq ?_
     refine WC.region ?_
     refine seg 1 [] [6] [(6, (.bool false))] [] (fun fb => by kernel_rfl) rfl trivial ?_
     refine WL.done rfl ?_
     refine WX.next ?_
     refine WC.ret ?_
     injection hl3047 with hl3047
     subst hl3047
     injection hf with hf
     subst hf
     exact WX.blockR (WX.thenR (WX.thenR (WX.blockR (WX.thenR (WX.ret_ [] (.bool false) [] (fun fb => by kernel_rfl) trivial ⟨_, rfl, rfl, hS3321.keep⟩)))))
    refine WC.condF2 (fun fb => by kernel_rfl) h3324 ?_
    refine WC.skip ?_
    refine WX.blockN (WX.next ?_)
    refine WC.region ?_
    refine seg 2 [] [0, 2, 4, 33, 34] [(0, (.pointer (some ⟨g_p0, 0, none⟩))), (2, (iv p2)), (4, (pt g2446)), (33, (iv p0.width)), (34, (iv (w64 (x3041 + 1))))] [] (fun fb => by kernel_rfl) rfl trivial ?_
    refine WL.done rfl ?_
    exact WX.again k3044 (Nat.lt_succ_self _) (w64 (x3041 + 1)) [0, 2, 4, 33, 34] rfl ⟨(hS3321.subR [0, 1, 2, 3, 4, 5, 6, 7]).sub [0] (by decide), hl3047⟩
   refine WC.condF2 (fun fb => by kernel_rfl) h3048 ?_
   refine WC.exit ?_
   injection hl3047 with hl3047
   exact WX.thenX (WX.thenX (WX.blockHere (WX.to Kx3042 () [] rfl ⟨(hS3046.subR [0, 1, 2, 3, 4, 5, 6, 7]).sub [] (by decide), hl3047.symm⟩)))
 rintro y3328 w3325 ⟨hS3326, hq3327⟩
 subst hq3327
 have hf := sum_inr hf
 refine WX.next ?_
 refine WC.seq ?_
 refine WC.region ?_
 refine seg 1 [] [6] [(6, (.bool true))] [] (fun fb => by kernel_rfl) rfl trivial ?_
 refine WL.done rfl ?_
 refine WX.next ?_
 refine WC.ret ?_
 injection hf with hf
 subst hf
 exact WX.ret_ [] (.bool true) [] (fun fb => by kernel_rfl) trivial ⟨_, rfl, rfl, hS3326.keep⟩
end Gp
