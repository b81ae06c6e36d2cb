/- Walks: each function of the program computes its plain function. -/
import Derived.Test.YtamnfcbekogkdaaGx0
set_option linter.unusedVariables false
set_option linter.unusedSimpArgs false
namespace Gp
open Go Gw Go.Proofs
theorem machine_Picture_calls (k : Nat) (p0 : Machine) (p1 : Config) (p2 : Int) (A_p0_Actions : Option Addr) (c_p0_Actions : Nat) (A_p1_Cells : Option Addr) (c_p1_Cells : Nat) (r : Pattern × Int) (w : World) (hR0 : RO NoS w (rowR enc_Action A_p0_Actions c_p0_Actions p0.Actions)) (hR1 : RO NoS w (rowR encInt A_p1_Cells c_p1_Cells p1.Cells)) (hf : machine_Picture k p0 p1 p2 = some r) :
    CallsR Try.prog 12 #[(.agg #[(.int .i64 p0.States), (.int .i64 p0.Symbols), (.slice A_p0_Actions p0.Actions.length c_p0_Actions)]), (.agg #[(.int .i64 p1.State), (.int .i64 p1.At), (.slice A_p1_Cells p1.Cells.length c_p1_Cells)]), (.int .i64 p2)] w (fun v w' => ∃ (A1_ : Option Addr), ∃ (c1_ : Nat), v = (.tuple #[(.agg #[(.int .i64 r.1.Width), (.int .i64 r.1.Height), (.slice A1_ r.1.Cells.length c1_)]), (.int .i64 r.2)]) ∧ St NoS w w' [] [rowO 3 encInt A1_ c1_ r.1.Cells]) := by
  have hS : St NoS w w [rowR enc_Action A_p0_Actions c_p0_Actions p0.Actions, rowR encInt A_p1_Cells c_p1_Cells p1.Cells] [] := St.init (ro_cons hR0 (ro_cons hR1 (ro_nil _ _)))
  refine enter 67 Try.func12 rfl Try.ntmps12 rfl ?_
  unfold machine_Picture at hf
  refine WC.seq ?_
  refine WC.region ?_
  refine WL.new hS 3 [] (fun g => (.pointer (some ⟨g, 0, none⟩))) (.cells #[(.int .i64 p0.States), (.int .i64 p0.Symbols), (.slice A_p0_Actions p0.Actions.length c_p0_Actions)] 24 (0, 0)) [] (fun fb g => by kernel_rfl) trivial (fun g1601 w1602 hS1603 => ?_)
  refine ⟨trivial, ?_⟩
  refine WL.new hS1603 4 [] (fun g => (.pointer (some ⟨g, 0, none⟩))) (.cells #[(.int .i64 p1.State), (.int .i64 p1.At), (.slice A_p1_Cells p1.Cells.length c_p1_Cells)] 27 (0, 0)) [] (fun fb g => by kernel_rfl) trivial (fun g1605 w1606 hS1607 => ?_)
  refine ⟨trivial, ?_⟩
  refine WL.new hS1607 6 [] (fun g => (.pointer (some ⟨g, 0, none⟩))) (.cells #[(.int .i64 0), (.int .i64 0), (.slice none 0 0)] 31 (0, 0)) [] (fun fb g => by kernel_rfl) trivial (fun g1609 w1610 hS1611 => ?_)
  refine ⟨trivial, ?_⟩
  refine seg 4 [] [2, 3, 4, 6] [(2, (.int .i64 p2)), (3, (.pointer (some ⟨g1601, 0, none⟩))), (4, (.pointer (some ⟨g1605, 0, none⟩))), (6, (.pointer (some ⟨g1609, 0, none⟩)))] [] (fun fb => by kernel_rfl) rfl trivial ?_
  refine WL.done rfl ?_
  refine WX.next ?_
  refine WC.seq ?_
  refine WC.block ?_
  refine WC.seq ?_
  refine WC.region ?_
  refine seg 2 [.v (.int .i64 p0.States), .v (.int .i64 p0.Symbols), .v (.slice A_p0_Actions p0.Actions.length c_p0_Actions), .v (.int .i64 p1.State), .v (.int .i64 p1.At), .v (.slice A_p1_Cells p1.Cells.length c_p1_Cells)] [2, 3, 4, 6, 13, 14] [(2, (.int .i64 p2)), (3, (.pointer (some ⟨g1601, 0, none⟩))), (4, (.pointer (some ⟨g1605, 0, none⟩))), (6, (.pointer (some ⟨g1609, 0, none⟩))), (13, (.agg #[(.int .i64 p0.States), (.int .i64 p0.Symbols), (.slice A_p0_Actions p0.Actions.length c_p0_Actions)])), (14, (.agg #[(.int .i64 p1.State), (.int .i64 p1.At), (.slice A_p1_Cells p1.Cells.length c_p1_Cells)]))] [.cell ⟨g1601, 0, none⟩ (.int .i64 p0.States), .cell ⟨g1601, 1, none⟩ (.int .i64 p0.Symbols), .cell ⟨g1601, 2, none⟩ (.slice A_p0_Actions p0.Actions.length c_p0_Actions), .cell ⟨g1605, 0, none⟩ (.int .i64 p1.State), .cell ⟨g1605, 1, none⟩ (.int .i64 p1.At), .cell ⟨g1605, 2, none⟩ (.slice A_p1_Cells p1.Cells.length c_p1_Cells)] (fun fb => by kernel_rfl) rfl ⟨hS1611.cell 2 rfl 0 rfl, hS1611.cell 2 rfl 1 rfl, hS1611.cell 2 rfl 2 rfl, hS1611.cell 1 rfl 0 rfl, hS1611.cell 1 rfl 1 rfl, hS1611.cell 1 rfl 2 rfl, trivial⟩ ?_
  obtain ⟨t1613, ht1614, hf⟩ := bind_some hf
  refine WL.call (some 15) 18 #[(.agg #[(.int .i64 p0.States), (.int .i64 p0.Symbols), (.slice A_p0_Actions p0.Actions.length c_p0_Actions)]), (.agg #[(.int .i64 p1.State), (.int .i64 p1.At), (.slice A_p1_Cells p1.Cells.length c_p1_Cells)])] (fun fb => by kernel_rfl) (machine_Fits_calls _ p0 p1 A_p0_Actions c_p0_Actions A_p1_Cells c_p1_Cells t1613 _ (hS1611.rd 0) (hS1611.rd 1) ht1614) (fun v w1615 hR1616 => ?_)
  obtain ⟨rfl, hk_⟩ := hR1616
  have hS1617 := hS1611.keepN hk_
  refine ⟨trivial, ?_⟩
  refine seg 5 [] [2, 3, 4, 6, 12] [(2, (.int .i64 p2)), (3, (.pointer (some ⟨g1601, 0, none⟩))), (4, (.pointer (some ⟨g1605, 0, none⟩))), (6, (.pointer (some ⟨g1609, 0, none⟩))), (12, (.bool (!t1613)))] [] (fun fb => by kernel_rfl) rfl trivial ?_
  refine WL.done rfl ?_
  refine WX.next ?_
  rcases br_some hf with ⟨h1618, hf⟩ | ⟨h1618, hf⟩
  · refine WC.condT2 (fun fb => by kernel_rfl) h1618 ?_
    refine WC.seq ?_
    refine WC.region ?_
    refine seg 1 [] [6, 17] [(6, (.pointer (some ⟨g1609, 0, none⟩))), (17, (.agg #[(.int .i64 0), (.int .i64 0), (.slice none 0 0)]))] [] (fun fb => by kernel_rfl) rfl trivial ?_
    refine WL.store hS1617 0 rfl [(0, (.int .i64 0)), (1, (.int .i64 0)), (2, (.slice none 0 0))] #[(.int .i64 0), (.int .i64 0), (.slice none 0 0)] (fun fb => by kernel_rfl) (by kernel_rfl) rfl [1, 2] (by decide) (by decide) (fun w1619 hS1620 => ?_)
    refine ⟨trivial, ?_⟩
    refine seg 3 [] [6, 7] [(6, (.pointer (some ⟨g1609, 0, none⟩))), (7, (.int .i64 1))] [] (fun fb => by kernel_rfl) rfl trivial ?_
    refine WL.done rfl ?_
    refine WX.next ?_
    refine WC.ret ?_
    have hS1621 := hS1620.nilrow 3 encInt
    injection hf with hf
    subst hf
    exact WX.blockR (WX.thenR (WX.ret_ [.v (.int .i64 0), .v (.int .i64 0), .v (.slice none 0 0)] (.tuple #[(.agg #[(.int .i64 0), (.int .i64 0), (.slice none ([] : List Int).length 0)]), (.int .i64 1)]) [.cell ⟨g1609, 0, none⟩ (.int .i64 0), .cell ⟨g1609, 1, none⟩ (.int .i64 0), .cell ⟨g1609, 2, none⟩ (.slice none 0 0)] (fun fb => by kernel_rfl) ⟨hS1620.cell 0 rfl 0 rfl, hS1620.cell 0 rfl 1 rfl, hS1620.cell 0 rfl 2 rfl, trivial⟩ ⟨_, rfl, none, 0, rfl, (hS1621.sub [0] (by decide)).noR⟩))
  refine WC.condF2 (fun fb => by kernel_rfl) h1618 ?_
  refine WC.seq ?_
  refine WC.region ?_
  refine seg 3 [] [2, 3, 4, 6, 18] [(2, (.int .i64 p2)), (3, (.pointer (some ⟨g1601, 0, none⟩))), (4, (.pointer (some ⟨g1605, 0, none⟩))), (6, (.pointer (some ⟨g1609, 0, none⟩))), (18, (.bool (decide (p2 < 1))))] [] (fun fb => by kernel_rfl) rfl trivial ?_
  refine WL.done rfl ?_
  refine WX.next ?_
  rcases br_some hf with ⟨h1622, hf⟩ | ⟨h1622, hf⟩
  · refine WC.condT2 (fun fb => by kernel_rfl) h1622 ?_
    refine WC.seq ?_
    refine WC.region ?_
    refine seg 1 [] [6, 21] [(6, (.pointer (some ⟨g1609, 0, none⟩))), (21, (.agg #[(.int .i64 0), (.int .i64 0), (.slice none 0 0)]))] [] (fun fb => by kernel_rfl) rfl trivial ?_
    refine WL.store hS1617 0 rfl [(0, (.int .i64 0)), (1, (.int .i64 0)), (2, (.slice none 0 0))] #[(.int .i64 0), (.int .i64 0), (.slice none 0 0)] (fun fb => by kernel_rfl) (by kernel_rfl) rfl [1, 2] (by decide) (by decide) (fun w1623 hS1624 => ?_)
    refine ⟨trivial, ?_⟩
    refine seg 3 [] [6, 7] [(6, (.pointer (some ⟨g1609, 0, none⟩))), (7, (.int .i64 2))] [] (fun fb => by kernel_rfl) rfl trivial ?_
    refine WL.done rfl ?_
    refine WX.next ?_
    refine WC.ret ?_
    have hS1625 := hS1624.nilrow 3 encInt
    injection hf with hf
    subst hf
    exact WX.blockR (WX.thenR (WX.ret_ [.v (.int .i64 0), .v (.int .i64 0), .v (.slice none 0 0)] (.tuple #[(.agg #[(.int .i64 0), (.int .i64 0), (.slice none ([] : List Int).length 0)]), (.int .i64 2)]) [.cell ⟨g1609, 0, none⟩ (.int .i64 0), .cell ⟨g1609, 1, none⟩ (.int .i64 0), .cell ⟨g1609, 2, none⟩ (.slice none 0 0)] (fun fb => by kernel_rfl) ⟨hS1624.cell 0 rfl 0 rfl, hS1624.cell 0 rfl 1 rfl, hS1624.cell 0 rfl 2 rfl, trivial⟩ ⟨_, rfl, none, 0, rfl, (hS1625.sub [0] (by decide)).noR⟩))
  refine WC.condF2 (fun fb => by kernel_rfl) h1622 ?_
  refine WC.seq ?_
  refine WC.region ?_
  refine seg 3 [] [2, 3, 4, 6, 25] [(2, (.int .i64 p2)), (3, (.pointer (some ⟨g1601, 0, none⟩))), (4, (.pointer (some ⟨g1605, 0, none⟩))), (6, (.pointer (some ⟨g1609, 0, none⟩))), (25, (.bool (decide (p2 > 40000))))] [] (fun fb => by kernel_rfl) rfl trivial ?_
  refine WL.cutV (T := Bool) 10 (fun t => [(32, (.bool t)), (2, (.int .i64 p2)), (3, (.pointer (some ⟨g1601, 0, none⟩))), (4, (.pointer (some ⟨g1605, 0, none⟩))), (6, (.pointer (some ⟨g1609, 0, none⟩)))]) (fun t => t = ((decide (p2 > 40000)) || (decide (w64 ((p1.Cells.length : Int) * p2) > 40000)))) (fun K => ?_) ?_
  ·
    rcases Bool.eq_false_or_eq_true (decide (p2 > 40000)) with h1626 | h1626
    ·
      refine WL.setB 25 h1626 rfl ?_
      refine seg 10 [] [2, 3, 4, 6, 32] [(2, (.int .i64 p2)), (3, (.pointer (some ⟨g1601, 0, none⟩))), (4, (.pointer (some ⟨g1605, 0, none⟩))), (6, (.pointer (some ⟨g1609, 0, none⟩))), (32, (.bool true))] [] (fun fb => by kernel_rfl) rfl trivial ?_
      exact WL.toV K true [32, 2, 3, 4, 6] rfl (by rw [h1626]; rfl)
    refine WL.setB 25 h1626 rfl ?_
    refine seg 10 [.v (.slice A_p1_Cells p1.Cells.length c_p1_Cells)] [2, 3, 4, 6, 32] [(2, (.int .i64 p2)), (3, (.pointer (some ⟨g1601, 0, none⟩))), (4, (.pointer (some ⟨g1605, 0, none⟩))), (6, (.pointer (some ⟨g1609, 0, none⟩))), (32, (.bool (decide (w64 ((p1.Cells.length : Int) * p2) > 40000))))] [.cell ⟨g1605, 2, none⟩ (.slice A_p1_Cells p1.Cells.length c_p1_Cells)] (fun fb => by kernel_rfl) rfl ⟨hS1617.cell 1 rfl 2 rfl, trivial⟩ ?_
    exact WL.toV K (decide (w64 ((p1.Cells.length : Int) * p2) > 40000)) [32, 2, 3, 4, 6] rfl (by rw [h1626]; rfl)
  rintro b1627 rfl
  refine seg 11 [] [2, 3, 4, 6, 22] [(2, (.int .i64 p2)), (3, (.pointer (some ⟨g1601, 0, none⟩))), (4, (.pointer (some ⟨g1605, 0, none⟩))), (6, (.pointer (some ⟨g1609, 0, none⟩))), (22, (.bool ((decide (p2 > 40000)) || (decide (w64 ((p1.Cells.length : Int) * p2) > 40000)))))] [] (fun fb => by kernel_rfl) rfl trivial ?_
  refine WL.done rfl ?_
  refine WX.next ?_
  rcases br_some hf with ⟨h1628, hf⟩ | ⟨h1628, hf⟩
  · refine WC.condT2 (fun fb => by kernel_rfl) h1628 ?_
    refine WC.seq ?_
    refine WC.region ?_
    refine seg 1 [] [6, 33] [(6, (.pointer (some ⟨g1609, 0, none⟩))), (33, (.agg #[(.int .i64 0), (.int .i64 0), (.slice none 0 0)]))] [] (fun fb => by kernel_rfl) rfl trivial ?_
    refine WL.store hS1617 0 rfl [(0, (.int .i64 0)), (1, (.int .i64 0)), (2, (.slice none 0 0))] #[(.int .i64 0), (.int .i64 0), (.slice none 0 0)] (fun fb => by kernel_rfl) (by kernel_rfl) rfl [1, 2] (by decide) (by decide) (fun w1629 hS1630 => ?_)
    refine ⟨trivial, ?_⟩
    refine seg 3 [] [6, 7] [(6, (.pointer (some ⟨g1609, 0, none⟩))), (7, (.int .i64 4))] [] (fun fb => by kernel_rfl) rfl trivial ?_
    refine WL.done rfl ?_
    refine WX.next ?_
    refine WC.ret ?_
    have hS1631 := hS1630.nilrow 3 encInt
    injection hf with hf
    subst hf
    exact WX.blockR (WX.thenR (WX.ret_ [.v (.int .i64 0), .v (.int .i64 0), .v (.slice none 0 0)] (.tuple #[(.agg #[(.int .i64 0), (.int .i64 0), (.slice none ([] : List Int).length 0)]), (.int .i64 4)]) [.cell ⟨g1609, 0, none⟩ (.int .i64 0), .cell ⟨g1609, 1, none⟩ (.int .i64 0), .cell ⟨g1609, 2, none⟩ (.slice none 0 0)] (fun fb => by kernel_rfl) ⟨hS1630.cell 0 rfl 0 rfl, hS1630.cell 0 rfl 1 rfl, hS1630.cell 0 rfl 2 rfl, trivial⟩ ⟨_, rfl, none, 0, rfl, (hS1631.sub [0] (by decide)).noR⟩))
  refine WC.condF2 (fun fb => by kernel_rfl) h1628 ?_
  refine WC.skip ?_
  refine WX.blockN (WX.next ?_)
  refine WC.seq ?_
  refine WC.regionD ([(0, ⟨g1601, 0, none⟩, (.int .i64 p0.States)), (0, ⟨g1601, 1, none⟩, (.int .i64 p0.Symbols)), (0, ⟨g1601, 2, none⟩, (.slice A_p0_Actions p0.Actions.length c_p0_Actions)), (2, ⟨g1601, 0, none⟩, (.int .i64 p0.States)), (2, ⟨g1601, 1, none⟩, (.int .i64 p0.Symbols)), (2, ⟨g1601, 2, none⟩, (.slice A_p0_Actions p0.Actions.length c_p0_Actions)), (3, ⟨g1605, 0, none⟩, (.int .i64 p1.State)), (3, ⟨g1605, 1, none⟩, (.int .i64 p1.At)), (3, ⟨g1605, 2, none⟩, (.slice A_p1_Cells p1.Cells.length c_p1_Cells))], [0, 2, 3, 5, 6], [[], [0], [], [], [0, 1, 2, 3], [0, 1, 2, 3, 4], [0, 1, 2, 3, 4, 5]]) [[0, 2, 3, 1, 4, 5, 6]] (by kernel_rfl) (by kernel_rfl) (NoPanic.seq (NoPanic.body)) ?_
  have hS1683 := hS1617.drew
  revert hS1683
  generalize World.drew w1615 = w1682
  intro hS1683
  refine ⟨⟨hS1683.cell 2 rfl 0 rfl, hS1683.cell 2 rfl 1 rfl, hS1683.cell 2 rfl 2 rfl, hS1683.cell 2 rfl 0 rfl, hS1683.cell 2 rfl 1 rfl, hS1683.cell 2 rfl 2 rfl, hS1683.cell 1 rfl 0 rfl, hS1683.cell 1 rfl 1 rfl, hS1683.cell 1 rfl 2 rfl, trivial⟩, forallC ?_ (forallN)⟩
  refine segF 3 [.v (.int .i64 p0.States), .v (.int .i64 p0.Symbols), .v (.slice A_p0_Actions p0.Actions.length c_p0_Actions), .v (.int .i64 p0.States), .v (.int .i64 p0.Symbols), .v (.slice A_p0_Actions p0.Actions.length c_p0_Actions), .v (.int .i64 p1.State), .v (.int .i64 p1.At), .v (.slice A_p1_Cells p1.Cells.length c_p1_Cells)] [2, 3, 4, 6, 34, 36, 37] [(2, (.int .i64 p2)), (3, (.pointer (some ⟨g1601, 0, none⟩))), (4, (.pointer (some ⟨g1605, 0, none⟩))), (6, (.pointer (some ⟨g1609, 0, none⟩))), (34, (.agg #[(.int .i64 p0.States), (.int .i64 p0.Symbols), (.slice A_p0_Actions p0.Actions.length c_p0_Actions)])), (36, (.agg #[(.int .i64 p0.States), (.int .i64 p0.Symbols), (.slice A_p0_Actions p0.Actions.length c_p0_Actions)])), (37, (.agg #[(.int .i64 p1.State), (.int .i64 p1.At), (.slice A_p1_Cells p1.Cells.length c_p1_Cells)]))] [] [0, 1, 2, 3, 4, 5, 6, 7, 8] [(0, ⟨g1601, 0, none⟩, (.int .i64 p0.States)), (0, ⟨g1601, 1, none⟩, (.int .i64 p0.Symbols)), (0, ⟨g1601, 2, none⟩, (.slice A_p0_Actions p0.Actions.length c_p0_Actions)), (2, ⟨g1601, 0, none⟩, (.int .i64 p0.States)), (2, ⟨g1601, 1, none⟩, (.int .i64 p0.Symbols)), (2, ⟨g1601, 2, none⟩, (.slice A_p0_Actions p0.Actions.length c_p0_Actions)), (3, ⟨g1605, 0, none⟩, (.int .i64 p1.State)), (3, ⟨g1605, 1, none⟩, (.int .i64 p1.At)), (3, ⟨g1605, 2, none⟩, (.slice A_p1_Cells p1.Cells.length c_p1_Cells))] (fun fb => by kernel_rfl) rfl trivial rfl ?_
  obtain ⟨t1684, ht1685, hf⟩ := bind_some hf
  refine WL.call (some 35) 41 #[(.agg #[(.int .i64 p0.States), (.int .i64 p0.Symbols), (.slice A_p0_Actions p0.Actions.length c_p0_Actions)])] (fun fb => by kernel_rfl) (machine_kitOf_calls _ p0 A_p0_Actions c_p0_Actions t1684 _ (hS1683.rd 0) ht1685) (fun v w1686 hR1687 => ?_)
  obtain ⟨g1689, A1690, c1691, A1692, c1693, rfl, hk_⟩ := hR1687
  have hS1688 : St NoS w w1686 [rowR enc_Action A_p0_Actions c_p0_Actions p0.Actions, rowR encInt A_p1_Cells c_p1_Cells p1.Cells] [blk g1689 (.cells #[(.int .i64 t1684.m.States), (.int .i64 t1684.m.Symbols), (.slice A_p0_Actions p0.Actions.length c_p0_Actions), (.slice A1690 t1684.set.length c1691), (.slice A1692 t1684.does.length c1693), (.int .i64 t1684.base)] 96 (0, 0)), rowO 65 enc_Tile A1690 c1691 t1684.set, rowO 3 encInt A1692 c1693 t1684.does, blk g1609 (.cells #[(.int .i64 0), (.int .i64 0), (.slice none 0 0)] 31 (0, 0)), blk g1605 (.cells #[(.int .i64 p1.State), (.int .i64 p1.At), (.slice A_p1_Cells p1.Cells.length c_p1_Cells)] 27 (0, 0)), blk g1601 (.cells #[(.int .i64 p0.States), (.int .i64 p0.Symbols), (.slice A_p0_Actions p0.Actions.length c_p0_Actions)] 24 (0, 0))] := hS1683.call hk_ [] [0, 1, 2] (fun g hg => hg.elim) (by simp) (by decide)
  refine ⟨⟨hS1688.cell 5 rfl 0 rfl, hS1688.cell 5 rfl 1 rfl, hS1688.cell 5 rfl 2 rfl, hS1688.cell 4 rfl 0 rfl, hS1688.cell 4 rfl 1 rfl, hS1688.cell 4 rfl 2 rfl, trivial⟩, ?_⟩
  obtain ⟨t1694, ht1695, hf⟩ := bind_some hf
  refine WL.call (some 38) 42 #[(.agg #[(.int .i64 p0.States), (.int .i64 p0.Symbols), (.slice A_p0_Actions p0.Actions.length c_p0_Actions)]), (.agg #[(.int .i64 p1.State), (.int .i64 p1.At), (.slice A_p1_Cells p1.Cells.length c_p1_Cells)])] (fun fb => by kernel_rfl) (machine_begin_calls p0 p1 A_p0_Actions c_p0_Actions A_p1_Cells c_p1_Cells t1694 _ (hS1688.rd 0) (hS1688.rd 1) ht1695) (fun v w1696 hR1697 => ?_)
  obtain ⟨g1699, A1700, c1701, rfl, hk_⟩ := hR1697
  have hS1698 : St NoS w w1696 [rowR enc_Action A_p0_Actions c_p0_Actions p0.Actions, rowR encInt A_p1_Cells c_p1_Cells p1.Cells] [blk g1699 (.cells #[(.int .i64 t1694.m.States), (.int .i64 t1694.m.Symbols), (.slice A_p0_Actions p0.Actions.length c_p0_Actions), (.int .i64 t1694.Config.State), (.int .i64 t1694.Config.At), (.slice A1700 t1694.Config.Cells.length c1701)] 82 (0, 0)), rowO 3 encInt A1700 c1701 t1694.Config.Cells, blk g1689 (.cells #[(.int .i64 t1684.m.States), (.int .i64 t1684.m.Symbols), (.slice A_p0_Actions p0.Actions.length c_p0_Actions), (.slice A1690 t1684.set.length c1691), (.slice A1692 t1684.does.length c1693), (.int .i64 t1684.base)] 96 (0, 0)), rowO 65 enc_Tile A1690 c1691 t1684.set, rowO 3 encInt A1692 c1693 t1684.does, blk g1609 (.cells #[(.int .i64 0), (.int .i64 0), (.slice none 0 0)] 31 (0, 0)), blk g1605 (.cells #[(.int .i64 p1.State), (.int .i64 p1.At), (.slice A_p1_Cells p1.Cells.length c_p1_Cells)] 27 (0, 0)), blk g1601 (.cells #[(.int .i64 p0.States), (.int .i64 p0.Symbols), (.slice A_p0_Actions p0.Actions.length c_p0_Actions)] 24 (0, 0))] := hS1688.call hk_ [] [0, 1, 2, 3, 4, 5] (fun g hg => hg.elim) (by simp) (by decide)
  refine ⟨trivial, ?_⟩
  refine seg 7 [] [2, 3, 4, 6, 8, 9] [(2, (.int .i64 p2)), (3, (.pointer (some ⟨g1601, 0, none⟩))), (4, (.pointer (some ⟨g1605, 0, none⟩))), (6, (.pointer (some ⟨g1609, 0, none⟩))), (8, (.pointer (some ⟨g1689, 0, none⟩))), (9, (.pointer (some ⟨g1699, 0, none⟩)))] [] (fun fb => by kernel_rfl) rfl trivial ?_
  refine WL.done rfl ?_
  refine WX.next ?_
  refine WC.seq ?_
  refine WC.region ?_
  refine seg 5 [.v (.slice A_p1_Cells p1.Cells.length c_p1_Cells)] [2, 3, 6, 8, 9, 43] [(2, (.int .i64 p2)), (3, (.pointer (some ⟨g1601, 0, none⟩))), (6, (.pointer (some ⟨g1609, 0, none⟩))), (8, (.pointer (some ⟨g1689, 0, none⟩))), (9, (.pointer (some ⟨g1699, 0, none⟩))), (43, (.agg #[(.int .i64 (p1.Cells.length : Int)), (.int .i64 p2), (.slice none 0 0)]))] [.cell ⟨g1605, 2, none⟩ (.slice A_p1_Cells p1.Cells.length c_p1_Cells)] (fun fb => by kernel_rfl) rfl ⟨hS1698.cell 6 rfl 2 rfl, trivial⟩ ?_
  refine WL.new hS1698 10 [] (fun g => (.pointer (some ⟨g, 0, none⟩))) (.cells #[(.int .i64 0), (.int .i64 0), (.slice none 0 0)] 31 (0, 0)) [] (fun fb g => by kernel_rfl) trivial (fun g1702 w1703 hS1704 => ?_)
  refine ⟨trivial, ?_⟩
  refine WL.store hS1704 0 rfl [(0, (.int .i64 (p1.Cells.length : Int))), (1, (.int .i64 p2)), (2, (.slice none 0 0))] #[(.int .i64 (p1.Cells.length : Int)), (.int .i64 p2), (.slice none 0 0)] (fun fb => by kernel_rfl) (by kernel_rfl) rfl [1, 2, 3, 4, 5, 6, 7, 8] (by decide) (by decide) (fun w1706 hS1707 => ?_)
  refine ⟨trivial, ?_⟩
  refine WL.done rfl ?_
  refine WX.next ?_
  refine WC.seq ?_
  refine WC.seq ?_
  refine WC.region ?_
  refine seg 2 [] [3, 6, 8, 9, 10, 44, 45] [(3, (.pointer (some ⟨g1601, 0, none⟩))), (6, (.pointer (some ⟨g1609, 0, none⟩))), (8, (.pointer (some ⟨g1689, 0, none⟩))), (9, (.pointer (some ⟨g1699, 0, none⟩))), (10, (.pointer (some ⟨g1702, 0, none⟩))), (44, (.int .i64 p2)), (45, (.int .i64 0))] [] (fun fb => by kernel_rfl) rfl trivial ?_
  refine WL.done rfl ?_
  refine WX.next ?_
  have hS2431 := hS1707.nilrow 3 encInt
  obtain ⟨x2447, hx2448, hf⟩ := bind_some hf
  refine WC.cutN (T := (List Int) × (Option Addr) × Nat) (fun t => [(6, (.pointer (some ⟨g1609, 0, none⟩))), (10, (.pointer (some ⟨g1702, 0, none⟩)))]) (fun t w1 => St NoS w w1 [rowR enc_Action A_p0_Actions c_p0_Actions p0.Actions, rowR encInt A_p1_Cells c_p1_Cells p1.Cells] [blk g1609 (.cells #[(.int .i64 0), (.int .i64 0), (.slice none 0 0)] 31 (0, 0)), blk g1702 (.cells #[(.int .i64 (p1.Cells.length : Int)), (.int .i64 p2), (.slice t.2.1 t.1.length t.2.2)] 31 (0, 0)), rowO 3 encInt t.2.1 t.2.2 t.1] ∧ x2447 = .inr t.1) (fun Kx2447 => ?_) ?_
  ·
    refine WC.block ?_
    refine WC.loop (T := (Int × Int × Int × Int × (List Int) × (List Int) × Int) × Nat × (Option Addr) × Nat × (Option Addr) × Nat) (fun t => [(3, (.pointer (some ⟨g1601, 0, none⟩))), (6, (.pointer (some ⟨g1609, 0, none⟩))), (8, (.pointer (some ⟨g1689, 0, none⟩))), (9, (.pointer (some ⟨t.2.1, 0, none⟩))), (10, (.pointer (some ⟨g1702, 0, none⟩))), (44, (.int .i64 p2)), (45, (.int .i64 t.1.2.2.2.2.2.2))]) (fun n t w1 => St NoS w w1 [rowR enc_Action A_p0_Actions c_p0_Actions p0.Actions, rowR encInt A_p1_Cells c_p1_Cells p1.Cells] [blk g1601 (.cells #[(.int .i64 p0.States), (.int .i64 p0.Symbols), (.slice A_p0_Actions p0.Actions.length c_p0_Actions)] 24 (0, 0)), blk g1609 (.cells #[(.int .i64 0), (.int .i64 0), (.slice none 0 0)] 31 (0, 0)), blk g1689 (.cells #[(.int .i64 t1684.m.States), (.int .i64 t1684.m.Symbols), (.slice A_p0_Actions p0.Actions.length c_p0_Actions), (.slice A1690 t1684.set.length c1691), (.slice A1692 t1684.does.length c1693), (.int .i64 t1684.base)] 96 (0, 0)), rowO 65 enc_Tile A1690 c1691 t1684.set, rowO 3 encInt A1692 c1693 t1684.does, blk t.2.1 (.cells #[(.int .i64 t.1.1), (.int .i64 t.1.2.1), (.slice A_p0_Actions p0.Actions.length c_p0_Actions), (.int .i64 t.1.2.2.1), (.int .i64 t.1.2.2.2.1), (.slice t.2.2.1 t.1.2.2.2.2.1.length t.2.2.2.1)] 82 (0, 0)), rowO 3 encInt t.2.2.1 t.2.2.2.1 t.1.2.2.2.2.1, blk g1702 (.cells #[(.int .i64 (p1.Cells.length : Int)), (.int .i64 p2), (.slice t.2.2.2.2.1 t.1.2.2.2.2.2.1.length t.2.2.2.2.2)] 31 (0, 0)), rowO 3 encInt t.2.2.2.2.1 t.2.2.2.2.2 t.1.2.2.2.2.2.1] ∧ machine_Picture.l0 n t.1.1 t.1.2.1 t.1.2.2.1 t.1.2.2.2.1 t.1.2.2.2.2.1 t.1.2.2.2.2.2.1 t.1.2.2.2.2.2.2 p0 p2 t1684 = some x2447) k ((t1694.m.States, t1694.m.Symbols, t1694.Config.State, t1694.Config.At, t1694.Config.Cells, ([] : List Int), 0), g1699, A1700, c1701, none, 0) [3, 6, 8, 9, 10, 44, 45] rfl ⟨(hS2431.subR [0, 1]).sub [9, 7, 4, 5, 6, 2, 3, 1, 0] (by decide), hx2448⟩ ?_
    rintro k2449 ⟨⟨x2433, x2434, x2435, x2436, l2439, l2442, x2443⟩, g2432, A2437, c2438, A2440, c2441⟩ w2450 ⟨hS2451, hl2452⟩
    cases k2449 with
    | zero => rw [machine_Picture.l0] at hl2452; cases hl2452
    | succ k2449 =>
      rw [machine_Picture.l0] at hl2452
      refine WC.seq ?_
      refine WC.region ?_
      refine seg 1 [] [3, 6, 8, 9, 10, 44, 45, 46] [(3, (.pointer (some ⟨g1601, 0, none⟩))), (6, (.pointer (some ⟨g1609, 0, none⟩))), (8, (.pointer (some ⟨g1689, 0, none⟩))), (9, (.pointer (some ⟨g2432, 0, none⟩))), (10, (.pointer (some ⟨g1702, 0, none⟩))), (44, (.int .i64 p2)), (45, (.int .i64 x2443)), (46, (.bool (decide (x2443 < p2))))] [] (fun fb => by kernel_rfl) rfl trivial ?_
      refine WL.done rfl ?_
      refine WX.next ?_
      refine WC.seq ?_
      rcases br_some hl2452 with ⟨h2453, hl2452⟩ | ⟨h2453, hl2452⟩
      · refine WC.condT2 (fun fb => by kernel_rfl) h2453 ?_
        refine WC.skip ?_
        refine WX.next ?_
        refine WC.seq ?_
        refine WC.block ?_
        refine WC.seq ?_
        refine WC.regionD ([(0, ⟨g1601, 0, none⟩, (.int .i64 p0.States)), (0, ⟨g1601, 1, none⟩, (.int .i64 p0.Symbols)), (0, ⟨g1601, 2, none⟩, (.slice A_p0_Actions p0.Actions.length c_p0_Actions)), (4, ⟨g2432, 3, none⟩, (.int .i64 x2435)), (4, ⟨g2432, 4, none⟩, (.int .i64 x2436)), (4, ⟨g2432, 5, none⟩, (.slice A2437 l2439.length c2438))], [0, 1, 2, 3, 4, 6], [[], [], [1], [1, 2], [1, 2, 3], [0, 1, 2, 3, 4], [0, 1, 2, 3, 4, 5]]) [[0, 1, 2, 3, 4, 5, 6]] (by kernel_rfl) (by kernel_rfl) (NoPanic.seq (NoPanic.block (NoPanic.seq (NoPanic.seq (NoPanic.block (NoPanic.seq (NoPanic.body))))))) ?_
        have hS2463 := hS2451.drew
        revert hS2463
        generalize World.drew w2450 = w2462
        intro hS2463
        refine ⟨⟨hS2463.cell 0 rfl 0 rfl, hS2463.cell 0 rfl 1 rfl, hS2463.cell 0 rfl 2 rfl, hS2463.cell 5 rfl 3 rfl, hS2463.cell 5 rfl 4 rfl, hS2463.cell 5 rfl 5 rfl, trivial⟩, forallC ?_ (forallN)⟩
        refine segF 5 [.v (.int .i64 p0.States), .v (.int .i64 p0.Symbols), .v (.slice A_p0_Actions p0.Actions.length c_p0_Actions), .v (.int .i64 x2435), .v (.int .i64 x2436), .v (.slice A2437 l2439.length c2438)] [3, 6, 8, 9, 10, 44, 45, 47, 51] [(3, (.pointer (some ⟨g1601, 0, none⟩))), (6, (.pointer (some ⟨g1609, 0, none⟩))), (8, (.pointer (some ⟨g1689, 0, none⟩))), (9, (.pointer (some ⟨g2432, 0, none⟩))), (10, (.pointer (some ⟨g1702, 0, none⟩))), (44, (.int .i64 p2)), (45, (.int .i64 x2443)), (47, (.agg #[(.int .i64 p0.States), (.int .i64 p0.Symbols), (.slice A_p0_Actions p0.Actions.length c_p0_Actions)])), (51, (.agg #[(.int .i64 x2435), (.int .i64 x2436), (.slice A2437 l2439.length c2438)]))] [] [0, 1, 2, 3, 4, 5] [(0, ⟨g1601, 0, none⟩, (.int .i64 p0.States)), (0, ⟨g1601, 1, none⟩, (.int .i64 p0.Symbols)), (0, ⟨g1601, 2, none⟩, (.slice A_p0_Actions p0.Actions.length c_p0_Actions)), (4, ⟨g2432, 3, none⟩, (.int .i64 x2435)), (4, ⟨g2432, 4, none⟩, (.int .i64 x2436)), (4, ⟨g2432, 5, none⟩, (.slice A2437 l2439.length c2438))] (fun fb => by kernel_rfl) rfl trivial rfl ?_
        obtain ⟨t2464, ht2465, hl2452⟩ := bind_some hl2452
        refine WL.call (some 52) 42 #[(.agg #[(.int .i64 p0.States), (.int .i64 p0.Symbols), (.slice A_p0_Actions p0.Actions.length c_p0_Actions)]), (.agg #[(.int .i64 x2435), (.int .i64 x2436), (.slice A2437 l2439.length c2438)])] (fun fb => by kernel_rfl) (machine_begin_calls p0 (Config.mk x2435 x2436 l2439) A_p0_Actions c_p0_Actions A2437 c2438 t2464 _ (hS2463.rd 0) (hS2463.ow 6).ofO ht2465) (fun v w2466 hR2467 => ?_)
        obtain ⟨g2469, A2470, c2471, rfl, hk_⟩ := hR2467
        have hS2468 : St NoS w w2466 [rowR enc_Action A_p0_Actions c_p0_Actions p0.Actions, rowR encInt A_p1_Cells c_p1_Cells p1.Cells] [blk g2469 (.cells #[(.int .i64 t2464.m.States), (.int .i64 t2464.m.Symbols), (.slice A_p0_Actions p0.Actions.length c_p0_Actions), (.int .i64 t2464.Config.State), (.int .i64 t2464.Config.At), (.slice A2470 t2464.Config.Cells.length c2471)] 82 (0, 0)), rowO 3 encInt A2470 c2471 t2464.Config.Cells, blk g1601 (.cells #[(.int .i64 p0.States), (.int .i64 p0.Symbols), (.slice A_p0_Actions p0.Actions.length c_p0_Actions)] 24 (0, 0)), blk g1609 (.cells #[(.int .i64 0), (.int .i64 0), (.slice none 0 0)] 31 (0, 0)), blk g1689 (.cells #[(.int .i64 t1684.m.States), (.int .i64 t1684.m.Symbols), (.slice A_p0_Actions p0.Actions.length c_p0_Actions), (.slice A1690 t1684.set.length c1691), (.slice A1692 t1684.does.length c1693), (.int .i64 t1684.base)] 96 (0, 0)), rowO 65 enc_Tile A1690 c1691 t1684.set, rowO 3 encInt A1692 c1693 t1684.does, blk g2432 (.cells #[(.int .i64 x2433), (.int .i64 x2434), (.slice A_p0_Actions p0.Actions.length c_p0_Actions), (.int .i64 x2435), (.int .i64 x2436), (.slice A2437 l2439.length c2438)] 82 (0, 0)), rowO 3 encInt A2437 c2438 l2439, blk g1702 (.cells #[(.int .i64 (p1.Cells.length : Int)), (.int .i64 p2), (.slice A2440 l2442.length c2441)] 31 (0, 0)), rowO 3 encInt A2440 c2441 l2442] := hS2463.call hk_ [] [0, 1, 2, 3, 4, 5, 6, 7, 8] (fun g hg => hg.elim) (by simp) (by decide)
        refine ⟨trivial, ?_⟩
        refine seg 7 [] [3, 6, 8, 9, 10, 11, 44, 45] [(3, (.pointer (some ⟨g1601, 0, none⟩))), (6, (.pointer (some ⟨g1609, 0, none⟩))), (8, (.pointer (some ⟨g1689, 0, none⟩))), (9, (.pointer (some ⟨g2432, 0, none⟩))), (10, (.pointer (some ⟨g1702, 0, none⟩))), (11, (.pointer (some ⟨g2469, 0, none⟩))), (44, (.int .i64 p2)), (45, (.int .i64 x2443))] [] (fun fb => by kernel_rfl) rfl trivial ?_
        refine WL.done rfl ?_
        refine WX.next ?_
        refine WC.seq ?_
        refine WC.seq ?_
        refine WC.region ?_
        refine seg 1 [] [3, 6, 8, 9, 10, 11, 44, 45, 53] [(3, (.pointer (some ⟨g1601, 0, none⟩))), (6, (.pointer (some ⟨g1609, 0, none⟩))), (8, (.pointer (some ⟨g1689, 0, none⟩))), (9, (.pointer (some ⟨g2432, 0, none⟩))), (10, (.pointer (some ⟨g1702, 0, none⟩))), (11, (.pointer (some ⟨g2469, 0, none⟩))), (44, (.int .i64 p2)), (45, (.int .i64 x2443)), (53, (.pointer (some ⟨g2469, 0, none⟩)))] [] (fun fb => by kernel_rfl) rfl trivial ?_
        obtain ⟨t2472, ht2473, hl2452⟩ := bind_some hl2452
        refine WL.call (some 54) 43 #[(.pointer (some ⟨g2469, 0, none⟩))] (fun fb => by kernel_rfl) (machine_runner_step_calls (Runner.mk (Machine.mk t2464.m.States t2464.m.Symbols p0.Actions) t2464.Config) g2469 A_p0_Actions c_p0_Actions A2470 c2471 t2472 _ (hS2468.rdT [0, 1] 0) (hS2468.io [0, 1] (by decide)) ht2473) (fun v w2474 hR2475 => ?_)
        obtain ⟨A2477, c2478, rfl, hk_⟩ := hR2475
        have hS2476 : St NoS w w2474 [rowR enc_Action A_p0_Actions c_p0_Actions p0.Actions, rowR encInt A_p1_Cells c_p1_Cells p1.Cells] [blk g2469 (.cells #[(.int .i64 t2472.2.m.States), (.int .i64 t2472.2.m.Symbols), (.slice A_p0_Actions p0.Actions.length c_p0_Actions), (.int .i64 t2472.2.Config.State), (.int .i64 t2472.2.Config.At), (.slice A2477 t2472.2.Config.Cells.length c2478)] 82 (0, 0)), rowO 3 encInt A2477 c2478 t2472.2.Config.Cells, blk g1601 (.cells #[(.int .i64 p0.States), (.int .i64 p0.Symbols), (.slice A_p0_Actions p0.Actions.length c_p0_Actions)] 24 (0, 0)), blk g1609 (.cells #[(.int .i64 0), (.int .i64 0), (.slice none 0 0)] 31 (0, 0)), blk g1689 (.cells #[(.int .i64 t1684.m.States), (.int .i64 t1684.m.Symbols), (.slice A_p0_Actions p0.Actions.length c_p0_Actions), (.slice A1690 t1684.set.length c1691), (.slice A1692 t1684.does.length c1693), (.int .i64 t1684.base)] 96 (0, 0)), rowO 65 enc_Tile A1690 c1691 t1684.set, rowO 3 encInt A1692 c1693 t1684.does, blk g2432 (.cells #[(.int .i64 x2433), (.int .i64 x2434), (.slice A_p0_Actions p0.Actions.length c_p0_Actions), (.int .i64 x2435), (.int .i64 x2436), (.slice A2437 l2439.length c2438)] 82 (0, 0)), rowO 3 encInt A2437 c2438 l2439, blk g1702 (.cells #[(.int .i64 (p1.Cells.length : Int)), (.int .i64 p2), (.slice A2440 l2442.length c2441)] 31 (0, 0)), rowO 3 encInt A2440 c2441 l2442] := hS2468.call hk_ [0, 1] [2, 3, 4, 5, 6, 7, 8, 9, 10] (fun g hg => fpL_sel g hg) (by decide) (by decide)
        refine ⟨trivial, ?_⟩
        refine seg 3 [] [3, 6, 8, 9, 10, 11, 44, 45, 55] [(3, (.pointer (some ⟨g1601, 0, none⟩))), (6, (.pointer (some ⟨g1609, 0, none⟩))), (8, (.pointer (some ⟨g1689, 0, none⟩))), (9, (.pointer (some ⟨g2432, 0, none⟩))), (10, (.pointer (some ⟨g1702, 0, none⟩))), (11, (.pointer (some ⟨g2469, 0, none⟩))), (44, (.int .i64 p2)), (45, (.int .i64 x2443)), (55, (.bool (t2472.1 != 0)))] [] (fun fb => by kernel_rfl) rfl trivial ?_
        refine WL.done rfl ?_
        refine WX.next ?_
        rcases br_some hl2452 with ⟨h2479, hl2452⟩ | ⟨h2479, hl2452⟩
        · refine WC.condT2 (fun fb => by kernel_rfl) h2479 ?_
          refine WC.seq ?_
          refine WC.region ?_
          refine seg 1 [] [6, 56] [(6, (.pointer (some ⟨g1609, 0, none⟩))), (56, (.agg #[(.int .i64 0), (.int .i64 0), (.slice none 0 0)]))] [] (fun fb => by kernel_rfl) rfl trivial ?_
          refine WL.store hS2476 3 rfl [(0, (.int .i64 0)), (1, (.int .i64 0)), (2, (.slice none 0 0))] #[(.int .i64 0), (.int .i64 0), (.slice none 0 0)] (fun fb => by kernel_rfl) (by kernel_rfl) rfl [0, 1, 2, 4, 5, 6, 7, 8, 9, 10] (by decide) (by decide) (fun w2480 hS2481 => ?_)
          refine ⟨trivial, ?_⟩
          refine seg 3 [] [6, 7] [(6, (.pointer (some ⟨g1609, 0, none⟩))), (7, (.int .i64 6))] [] (fun fb => by kernel_rfl) rfl trivial ?_
          refine WL.done rfl ?_
          refine WX.next ?_
          refine WC.ret ?_
          have hS2482 := hS2481.nilrow 3 encInt
          injection hl2452 with hl2452
          subst hl2452
          injection hf with hf
          subst hf
          exact WX.thenR (WX.blockR (WX.thenR (WX.thenR (WX.blockR (WX.thenR (WX.ret_ [.v (.int .i64 0), .v (.int .i64 0), .v (.slice none 0 0)] (.tuple #[(.agg #[(.int .i64 0), (.int .i64 0), (.slice none ([] : List Int).length 0)]), (.int .i64 6)]) [.cell ⟨g1609, 0, none⟩ (.int .i64 0), .cell ⟨g1609, 1, none⟩ (.int .i64 0), .cell ⟨g1609, 2, none⟩ (.slice none 0 0)] (fun fb => by kernel_rfl) ⟨hS2481.cell 0 rfl 0 rfl, hS2481.cell 0 rfl 1 rfl, hS2481.cell 0 rfl 2 rfl, trivial⟩ ⟨_, rfl, none, 0, rfl, (hS2482.sub [0] (by decide)).noR⟩))))))
        refine WC.condF2 (fun fb => by kernel_rfl) h2479 ?_
        refine WC.skip ?_
        refine WX.next ?_
        refine WC.seq ?_
        refine WC.regionD ([(1, ⟨g1702, 2, none⟩, (.slice A2440 l2442.length c2441))], [0, 1, 2, 3, 6], [[], [0], [], [], [2, 3], [0, 1, 2, 3, 4], [0, 1, 2, 3, 4, 5], [0, 1, 2, 3, 4, 5, 6]]) [[0, 1, 2, 3, 4, 5, 6, 7]] (by kernel_rfl) (by kernel_rfl) (NoPanic.seq (NoPanic.block (NoPanic.seq (NoPanic.seq (NoPanic.block (NoPanic.seq (NoPanic.body))))))) ?_
        have hS2498 := hS2476.drew
        revert hS2498
        generalize World.drew w2474 = w2497
        intro hS2498
        refine ⟨⟨hS2498.cell 9 rfl 2 rfl, trivial⟩, forallC ?_ (forallN)⟩
        refine segF 4 [.v (.slice A2440 l2442.length c2441)] [3, 6, 8, 10, 11, 44, 45, 58, 59, 60] [(3, (.pointer (some ⟨g1601, 0, none⟩))), (6, (.pointer (some ⟨g1609, 0, none⟩))), (8, (.pointer (some ⟨g1689, 0, none⟩))), (10, (.pointer (some ⟨g1702, 0, none⟩))), (11, (.pointer (some ⟨g2469, 0, none⟩))), (44, (.int .i64 p2)), (45, (.int .i64 x2443)), (58, (.slice A2440 l2442.length c2441)), (59, (.pointer (some ⟨g1689, 0, none⟩))), (60, (.pointer (some ⟨g2432, 0, none⟩)))] [] [0] [(1, ⟨g1702, 2, none⟩, (.slice A2440 l2442.length c2441))] (fun fb => by kernel_rfl) rfl trivial rfl ?_
        obtain ⟨t2499, ht2500, hl2452⟩ := bind_some hl2452
        refine WL.call (some 61) 44 #[(.pointer (some ⟨g1689, 0, none⟩)), (.pointer (some ⟨g2432, 0, none⟩))] (fun fb => by kernel_rfl) (machine_kit_row_calls _ (Kit.mk (Machine.mk t1684.m.States t1684.m.Symbols p0.Actions) t1684.set t1684.does t1684.base) (Runner.mk (Machine.mk x2433 x2434 p0.Actions) (Config.mk x2435 x2436 l2439)) g1689 A_p0_Actions c_p0_Actions A1690 c1691 A1692 c1693 g2432 A_p0_Actions c_p0_Actions A2437 c2438 t2499 _ (hS2498.ow 4) (hS2498.rd 0) (hS2498.ow 5).ofO (hS2498.ow 6).ofO (hS2498.ow 7) (hS2498.rd 0) (hS2498.ow 8).ofO ht2500) (fun v w2501 hR2502 => ?_)
        obtain ⟨A2504, c2505, rfl, hk_⟩ := hR2502
        have hS2503 : St NoS w w2501 [rowR enc_Action A_p0_Actions c_p0_Actions p0.Actions, rowR encInt A_p1_Cells c_p1_Cells p1.Cells] [rowO 3 encInt A2504 c2505 t2499, blk g2469 (.cells #[(.int .i64 t2472.2.m.States), (.int .i64 t2472.2.m.Symbols), (.slice A_p0_Actions p0.Actions.length c_p0_Actions), (.int .i64 t2472.2.Config.State), (.int .i64 t2472.2.Config.At), (.slice A2477 t2472.2.Config.Cells.length c2478)] 82 (0, 0)), rowO 3 encInt A2477 c2478 t2472.2.Config.Cells, blk g1601 (.cells #[(.int .i64 p0.States), (.int .i64 p0.Symbols), (.slice A_p0_Actions p0.Actions.length c_p0_Actions)] 24 (0, 0)), blk g1609 (.cells #[(.int .i64 0), (.int .i64 0), (.slice none 0 0)] 31 (0, 0)), blk g1689 (.cells #[(.int .i64 t1684.m.States), (.int .i64 t1684.m.Symbols), (.slice A_p0_Actions p0.Actions.length c_p0_Actions), (.slice A1690 t1684.set.length c1691), (.slice A1692 t1684.does.length c1693), (.int .i64 t1684.base)] 96 (0, 0)), rowO 65 enc_Tile A1690 c1691 t1684.set, rowO 3 encInt A1692 c1693 t1684.does, blk g2432 (.cells #[(.int .i64 x2433), (.int .i64 x2434), (.slice A_p0_Actions p0.Actions.length c_p0_Actions), (.int .i64 x2435), (.int .i64 x2436), (.slice A2437 l2439.length c2438)] 82 (0, 0)), rowO 3 encInt A2437 c2438 l2439, blk g1702 (.cells #[(.int .i64 (p1.Cells.length : Int)), (.int .i64 p2), (.slice A2440 l2442.length c2441)] 31 (0, 0)), rowO 3 encInt A2440 c2441 l2442] := hS2498.call hk_ [] [0, 1, 2, 3, 4, 5, 6, 7, 8, 9, 10] (fun g hg => hg.elim) (by simp) (by decide)
        refine ⟨⟨hS2503.cell 10 rfl 2 rfl, trivial⟩, ?_⟩
        obtain ⟨h2506, hl2452⟩ := as_some hl2452
        refine WL.append hS2503 11 (d := 62) (tS := 25) (z := (.int .i64 0)) (bytes := 8) (c2 := c2505) rfl (fun fb => by kernel_rfl) (rowO.rd (hS2503.own 0).1) (by kernel_rfl) (by kernel_rfl) rfl (by decide) h2506 (by decide) [0, 1, 2, 3, 4, 5, 6, 7, 8, 9, 10] (by decide) (by decide) (fun A2507 c2508 w2509 hS2510 => ?_)
        refine ⟨trivial, ?_⟩
        refine seg 7 [] [3, 6, 8, 10, 11, 44, 45, 62, 63] [(3, (.pointer (some ⟨g1601, 0, none⟩))), (6, (.pointer (some ⟨g1609, 0, none⟩))), (8, (.pointer (some ⟨g1689, 0, none⟩))), (10, (.pointer (some ⟨g1702, 0, none⟩))), (11, (.pointer (some ⟨g2469, 0, none⟩))), (44, (.int .i64 p2)), (45, (.int .i64 x2443)), (62, (.slice A2507 (l2442 ++ t2499).length c2508)), (63, (.pointer (some ⟨g1702, 2, none⟩)))] [] (fun fb => by kernel_rfl) rfl trivial ?_
        refine WL.store hS2510 11 rfl [(2, (.slice A2507 (l2442 ++ t2499).length c2508))] #[(.int .i64 (p1.Cells.length : Int)), (.int .i64 p2), (.slice A2507 (l2442 ++ t2499).length c2508)] (fun fb => by kernel_rfl) (by kernel_rfl) rfl [0, 1, 2, 3, 4, 5, 6, 7, 8, 9, 10] (by decide) (by decide) (fun w2511 hS2512 => ?_)
        refine ⟨trivial, ?_⟩
        refine WL.done rfl ?_
        refine WX.next ?_
        refine WC.region ?_
        refine seg 2 [] [3, 6, 8, 9, 10, 44, 45] [(3, (.pointer (some ⟨g1601, 0, none⟩))), (6, (.pointer (some ⟨g1609, 0, none⟩))), (8, (.pointer (some ⟨g1689, 0, none⟩))), (9, (.pointer (some ⟨g2469, 0, none⟩))), (10, (.pointer (some ⟨g1702, 0, none⟩))), (44, (.int .i64 p2)), (45, (.int .i64 x2443))] [] (fun fb => by kernel_rfl) rfl trivial ?_
        refine WL.done rfl ?_
        refine WX.blockN (WX.next ?_)
        refine WC.region ?_
        refine seg 2 [] [3, 6, 8, 9, 10, 44, 45] [(3, (.pointer (some ⟨g1601, 0, none⟩))), (6, (.pointer (some ⟨g1609, 0, none⟩))), (8, (.pointer (some ⟨g1689, 0, none⟩))), (9, (.pointer (some ⟨g2469, 0, none⟩))), (10, (.pointer (some ⟨g1702, 0, none⟩))), (44, (.int .i64 p2)), (45, (.int .i64 (w64 (x2443 + 1))))] [] (fun fb => by kernel_rfl) rfl trivial ?_
        refine WL.done rfl ?_
        exact WX.again k2449 (Nat.lt_succ_self _) ((t2472.2.m.States, t2472.2.m.Symbols, t2472.2.Config.State, t2472.2.Config.At, t2472.2.Config.Cells, l2442 ++ t2499, w64 (x2443 + 1)), g2469, A2477, c2478, A2507, c2508) [3, 6, 8, 9, 10, 44, 45] rfl ⟨(hS2512.subR [0, 1]).sub [5, 6, 7, 8, 9, 3, 4, 0, 1] (by decide), hl2452⟩
      refine WC.condF2 (fun fb => by kernel_rfl) h2453 ?_
      refine WC.exit ?_
      injection hl2452 with hl2452
      exact WX.thenX (WX.thenX (WX.blockHere (WX.to Kx2447 (l2442, A2440, c2441) [6, 10] rfl ⟨(hS2451.subR [0, 1]).sub [1, 7, 8] (by decide), hl2452.symm⟩)))
  rintro ⟨y2516, A2444, c2445⟩ w2513 ⟨hS2514, hq2515⟩
  subst hq2515
  have hf := sum_inr hf
  refine WX.next ?_
  refine WC.seq ?_
  refine WC.region ?_
  refine seg 1 [.v (.int .i64 (p1.Cells.length : Int)), .v (.int .i64 p2), .v (.slice A2444 y2516.length c2445)] [6, 66] [(6, (.pointer (some ⟨g1609, 0, none⟩))), (66, (.agg #[(.int .i64 (p1.Cells.length : Int)), (.int .i64 p2), (.slice A2444 y2516.length c2445)]))] [.cell ⟨g1702, 0, none⟩ (.int .i64 (p1.Cells.length : Int)), .cell ⟨g1702, 1, none⟩ (.int .i64 p2), .cell ⟨g1702, 2, none⟩ (.slice A2444 y2516.length c2445)] (fun fb => by kernel_rfl) rfl ⟨hS2514.cell 1 rfl 0 rfl, hS2514.cell 1 rfl 1 rfl, hS2514.cell 1 rfl 2 rfl, trivial⟩ ?_
  refine WL.store hS2514 0 rfl [(0, (.int .i64 (p1.Cells.length : Int))), (1, (.int .i64 p2)), (2, (.slice A2444 y2516.length c2445))] #[(.int .i64 (p1.Cells.length : Int)), (.int .i64 p2), (.slice A2444 y2516.length c2445)] (fun fb => by kernel_rfl) (by kernel_rfl) rfl [1, 2] (by decide) (by decide) (fun w2518 hS2519 => ?_)
  refine ⟨trivial, ?_⟩
  refine seg 3 [] [6, 7] [(6, (.pointer (some ⟨g1609, 0, none⟩))), (7, (.int .i64 0))] [] (fun fb => by kernel_rfl) rfl trivial ?_
  refine WL.done rfl ?_
  refine WX.next ?_
  refine WC.ret ?_
  injection hf with hf
  subst hf
  exact WX.ret_ [.v (.int .i64 (p1.Cells.length : Int)), .v (.int .i64 p2), .v (.slice A2444 y2516.length c2445)] (.tuple #[(.agg #[(.int .i64 (p1.Cells.length : Int)), (.int .i64 p2), (.slice A2444 y2516.length c2445)]), (.int .i64 0)]) [.cell ⟨g1609, 0, none⟩ (.int .i64 (p1.Cells.length : Int)), .cell ⟨g1609, 1, none⟩ (.int .i64 p2), .cell ⟨g1609, 2, none⟩ (.slice A2444 y2516.length c2445)] (fun fb => by kernel_rfl) ⟨hS2519.cell 0 rfl 0 rfl, hS2519.cell 0 rfl 1 rfl, hS2519.cell 0 rfl 2 rfl, trivial⟩ ⟨_, rfl, A2444, c2445, rfl, (hS2519.sub [2] (by decide)).noR⟩
theorem tile_Form_calls (p0 : Pattern) (A_p0_Cells : Option Addr) (c_p0_Cells : Nat) (r : Bool) (w : World) (hR0 : RO NoS w (rowR encInt A_p0_Cells c_p0_Cells p0.Cells)) (hf : tile_Form p0 = some r) :
    CallsR Try.prog 52 #[(.agg #[(.int .i64 p0.Width), (.int .i64 p0.Height), (.slice A_p0_Cells p0.Cells.length c_p0_Cells)])] w (fun v w' => v = (.bool r) ∧ Keeps NoS w w') := by
  have hS : St NoS w w [rowR encInt A_p0_Cells c_p0_Cells p0.Cells] [] := St.init (ro_cons hR0 (ro_nil _ _))
  refine enter 40 Try.func52 rfl Try.ntmps52 rfl ?_
  unfold tile_Form at hf
  refine WC.seq ?_
  refine WC.region ?_
  refine WL.new hS 1 [] (fun g => (.pointer (some ⟨g, 0, none⟩))) (.cells #[(.int .i64 p0.Width), (.int .i64 p0.Height), (.slice A_p0_Cells p0.Cells.length c_p0_Cells)] 31 (0, 0)) [] (fun fb g => by kernel_rfl) trivial (fun g2585 w2586 hS2587 => ?_)
  refine ⟨trivial, ?_⟩
  refine seg 2 [] [1] [(1, (.pointer (some ⟨g2585, 0, none⟩)))] [] (fun fb => by kernel_rfl) rfl trivial ?_
  refine WL.done rfl ?_
  refine WX.next ?_
  refine WC.seq ?_
  refine WC.region ?_
  refine seg 4 [.v (.int .i64 p0.Width)] [1, 6] [(1, (.pointer (some ⟨g2585, 0, none⟩))), (6, (.bool (decide (p0.Width ≥ 1))))] [.cell ⟨g2585, 0, none⟩ (.int .i64 p0.Width)] (fun fb => by kernel_rfl) rfl ⟨hS2587.cell 0 rfl 0 rfl, trivial⟩ ?_
  refine WL.cutV (T := Bool) 8 (fun t => [(10, (.bool t)), (1, (.pointer (some ⟨g2585, 0, none⟩)))]) (fun t => t = ((decide (p0.Width ≥ 1)) && (decide (p0.Height ≥ 1)))) (fun K => ?_) ?_
  ·
    rcases Bool.eq_false_or_eq_true (decide (p0.Width ≥ 1)) with h2589 | h2589
    ·
      refine WL.setB 6 h2589 rfl ?_
      refine seg 8 [.v (.int .i64 p0.Height)] [1, 10] [(1, (.pointer (some ⟨g2585, 0, none⟩))), (10, (.bool (decide (p0.Height ≥ 1))))] [.cell ⟨g2585, 1, none⟩ (.int .i64 p0.Height)] (fun fb => by kernel_rfl) rfl ⟨hS2587.cell 0 rfl 1 rfl, trivial⟩ ?_
      exact WL.toV K (decide (p0.Height ≥ 1)) [10, 1] rfl (by rw [h2589]; rfl)
    refine WL.setB 6 h2589 rfl ?_
    refine seg 8 [] [1, 10] [(1, (.pointer (some ⟨g2585, 0, none⟩))), (10, (.bool false))] [] (fun fb => by kernel_rfl) rfl trivial ?_
    exact WL.toV K false [10, 1] rfl (by rw [h2589]; rfl)
  rintro b2590 rfl
  refine seg 9 [] [1, 11] [(1, (.pointer (some ⟨g2585, 0, none⟩))), (11, (.bool ((decide (p0.Width ≥ 1)) && (decide (p0.Height ≥ 1)))))] [] (fun fb => by kernel_rfl) rfl trivial ?_
  refine WL.cutV (T := Bool) 13 (fun t => [(15, (.bool t)), (1, (.pointer (some ⟨g2585, 0, none⟩)))]) (fun t => t = (((decide (p0.Width ≥ 1)) && (decide (p0.Height ≥ 1))) && (decide (p0.Width ≤ 40000)))) (fun K => ?_) ?_
  ·
    rcases Bool.eq_false_or_eq_true ((decide (p0.Width ≥ 1)) && (decide (p0.Height ≥ 1))) with h2591 | h2591
    ·
      refine WL.setB 11 h2591 rfl ?_
      refine seg 13 [.v (.int .i64 p0.Width)] [1, 15] [(1, (.pointer (some ⟨g2585, 0, none⟩))), (15, (.bool (decide (p0.Width ≤ 40000))))] [.cell ⟨g2585, 0, none⟩ (.int .i64 p0.Width)] (fun fb => by kernel_rfl) rfl ⟨hS2587.cell 0 rfl 0 rfl, trivial⟩ ?_
      exact WL.toV K (decide (p0.Width ≤ 40000)) [15, 1] rfl (by rw [h2591]; rfl)
    refine WL.setB 11 h2591 rfl ?_
    refine seg 13 [] [1, 15] [(1, (.pointer (some ⟨g2585, 0, none⟩))), (15, (.bool false))] [] (fun fb => by kernel_rfl) rfl trivial ?_
    exact WL.toV K false [15, 1] rfl (by rw [h2591]; rfl)
  rintro b2592 rfl
  refine seg 14 [] [1, 16] [(1, (.pointer (some ⟨g2585, 0, none⟩))), (16, (.bool (((decide (p0.Width ≥ 1)) && (decide (p0.Height ≥ 1))) && (decide (p0.Width ≤ 40000)))))] [] (fun fb => by kernel_rfl) rfl trivial ?_
  refine WL.cutV (T := Bool) 18 (fun t => [(20, (.bool t)), (1, (.pointer (some ⟨g2585, 0, none⟩)))]) (fun t => t = ((((decide (p0.Width ≥ 1)) && (decide (p0.Height ≥ 1))) && (decide (p0.Width ≤ 40000))) && (decide (p0.Height ≤ 40000)))) (fun K => ?_) ?_
  ·
    rcases Bool.eq_false_or_eq_true (((decide (p0.Width ≥ 1)) && (decide (p0.Height ≥ 1))) && (decide (p0.Width ≤ 40000))) with h2593 | h2593
    ·
      refine WL.setB 16 h2593 rfl ?_
      refine seg 18 [.v (.int .i64 p0.Height)] [1, 20] [(1, (.pointer (some ⟨g2585, 0, none⟩))), (20, (.bool (decide (p0.Height ≤ 40000))))] [.cell ⟨g2585, 1, none⟩ (.int .i64 p0.Height)] (fun fb => by kernel_rfl) rfl ⟨hS2587.cell 0 rfl 1 rfl, trivial⟩ ?_
      exact WL.toV K (decide (p0.Height ≤ 40000)) [20, 1] rfl (by rw [h2593]; rfl)
    refine WL.setB 16 h2593 rfl ?_
    refine seg 18 [] [1, 20] [(1, (.pointer (some ⟨g2585, 0, none⟩))), (20, (.bool false))] [] (fun fb => by kernel_rfl) rfl trivial ?_
    exact WL.toV K false [20, 1] rfl (by rw [h2593]; rfl)
  rintro b2594 rfl
  refine seg 19 [] [1, 21] [(1, (.pointer (some ⟨g2585, 0, none⟩))), (21, (.bool ((((decide (p0.Width ≥ 1)) && (decide (p0.Height ≥ 1))) && (decide (p0.Width ≤ 40000))) && (decide (p0.Height ≤ 40000)))))] [] (fun fb => by kernel_rfl) rfl trivial ?_
  refine WL.cutV (T := Bool) 26 (fun t => [(28, (.bool t)), (1, (.pointer (some ⟨g2585, 0, none⟩)))]) (fun t => t = (((((decide (p0.Width ≥ 1)) && (decide (p0.Height ≥ 1))) && (decide (p0.Width ≤ 40000))) && (decide (p0.Height ≤ 40000))) && (decide (w64 (p0.Width * p0.Height) ≤ 40000)))) (fun K => ?_) ?_
  ·
    rcases Bool.eq_false_or_eq_true ((((decide (p0.Width ≥ 1)) && (decide (p0.Height ≥ 1))) && (decide (p0.Width ≤ 40000))) && (decide (p0.Height ≤ 40000))) with h2595 | h2595
    ·
      refine WL.setB 21 h2595 rfl ?_
      refine seg 26 [.v (.int .i64 p0.Width), .v (.int .i64 p0.Height)] [1, 28] [(1, (.pointer (some ⟨g2585, 0, none⟩))), (28, (.bool (decide (w64 (p0.Width * p0.Height) ≤ 40000))))] [.cell ⟨g2585, 0, none⟩ (.int .i64 p0.Width), .cell ⟨g2585, 1, none⟩ (.int .i64 p0.Height)] (fun fb => by kernel_rfl) rfl ⟨hS2587.cell 0 rfl 0 rfl, hS2587.cell 0 rfl 1 rfl, trivial⟩ ?_
      exact WL.toV K (decide (w64 (p0.Width * p0.Height) ≤ 40000)) [28, 1] rfl (by rw [h2595]; rfl)
    refine WL.setB 21 h2595 rfl ?_
    refine seg 26 [] [1, 28] [(1, (.pointer (some ⟨g2585, 0, none⟩))), (28, (.bool false))] [] (fun fb => by kernel_rfl) rfl trivial ?_
    exact WL.toV K false [28, 1] rfl (by rw [h2595]; rfl)
  rintro b2596 rfl
  refine seg 27 [] [1, 29] [(1, (.pointer (some ⟨g2585, 0, none⟩))), (29, (.bool (((((decide (p0.Width ≥ 1)) && (decide (p0.Height ≥ 1))) && (decide (p0.Width ≤ 40000))) && (decide (p0.Height ≤ 40000))) && (decide (w64 (p0.Width * p0.Height) ≤ 40000)))))] [] (fun fb => by kernel_rfl) rfl trivial ?_
  refine WL.cutV (T := Bool) 37 (fun t => [(39, (.bool t))]) (fun t => t = ((((((decide (p0.Width ≥ 1)) && (decide (p0.Height ≥ 1))) && (decide (p0.Width ≤ 40000))) && (decide (p0.Height ≤ 40000))) && (decide (w64 (p0.Width * p0.Height) ≤ 40000))) && ((p0.Cells.length : Int) == (w64 (p0.Width * p0.Height))))) (fun K => ?_) ?_
  ·
    rcases Bool.eq_false_or_eq_true (((((decide (p0.Width ≥ 1)) && (decide (p0.Height ≥ 1))) && (decide (p0.Width ≤ 40000))) && (decide (p0.Height ≤ 40000))) && (decide (w64 (p0.Width * p0.Height) ≤ 40000))) with h2597 | h2597
    ·
      refine WL.setB 29 h2597 rfl ?_
      refine seg 37 [.v (.slice A_p0_Cells p0.Cells.length c_p0_Cells), .v (.int .i64 p0.Width), .v (.int .i64 p0.Height)] [39] [(39, (.bool ((p0.Cells.length : Int) == (w64 (p0.Width * p0.Height)))))] [.cell ⟨g2585, 2, none⟩ (.slice A_p0_Cells p0.Cells.length c_p0_Cells), .cell ⟨g2585, 0, none⟩ (.int .i64 p0.Width), .cell ⟨g2585, 1, none⟩ (.int .i64 p0.Height)] (fun fb => by kernel_rfl) rfl ⟨hS2587.cell 0 rfl 2 rfl, hS2587.cell 0 rfl 0 rfl, hS2587.cell 0 rfl 1 rfl, trivial⟩ ?_
      exact WL.toV K ((p0.Cells.length : Int) == (w64 (p0.Width * p0.Height))) [39] rfl (by rw [h2597]; rfl)
    refine WL.setB 29 h2597 rfl ?_
    refine seg 37 [] [39] [(39, (.bool false))] [] (fun fb => by kernel_rfl) rfl trivial ?_
    exact WL.toV K false [39] rfl (by rw [h2597]; rfl)
  rintro b2598 rfl
  refine seg 38 [] [2] [(2, (.bool ((((((decide (p0.Width ≥ 1)) && (decide (p0.Height ≥ 1))) && (decide (p0.Width ≤ 40000))) && (decide (p0.Height ≤ 40000))) && (decide (w64 (p0.Width * p0.Height) ≤ 40000))) && ((p0.Cells.length : Int) == (w64 (p0.Width * p0.Height))))))] [] (fun fb => by kernel_rfl) rfl trivial ?_
  refine WL.done rfl ?_
  refine WX.next ?_
  refine WC.ret ?_
  injection hf with hf
  subst hf
  exact WX.ret_ [] (.bool ((((((decide (p0.Width ≥ 1)) && (decide (p0.Height ≥ 1))) && (decide (p0.Width ≤ 40000))) && (decide (p0.Height ≤ 40000))) && (decide (w64 (p0.Width * p0.Height) ≤ 40000))) && ((p0.Cells.length : Int) == (w64 (p0.Width * p0.Height))))) [] (fun fb => by kernel_rfl) trivial ⟨_, rfl, rfl, hS2587.keep⟩
theorem tile_Repeat_calls (k : Nat) (p0 : Pattern) (p1 : Int) (p2 : Int) (A_p0_Cells : Option Addr) (c_p0_Cells : Nat) (r : Pattern × Int) (w : World) (hR0 : RO NoS w (rowR encInt A_p0_Cells c_p0_Cells p0.Cells)) (hf : tile_Repeat k p0 p1 p2 = some r) :
    CallsR Try.prog 68 #[(.agg #[(.int .i64 p0.Width), (.int .i64 p0.Height), (.slice A_p0_Cells p0.Cells.length c_p0_Cells)]), (.int .i64 p1), (.int .i64 p2)] w (fun v w' => ∃ (A1_ : Option Addr), ∃ (c1_ : Nat), v = (.tuple #[(.agg #[(.int .i64 r.1.Width), (.int .i64 r.1.Height), (.slice A1_ r.1.Cells.length c1_)]), (.int .i64 r.2)]) ∧ St NoS w w' [] [rowO 3 encInt A1_ c1_ r.1.Cells]) := by
  have hS : St NoS w w [rowR encInt A_p0_Cells c_p0_Cells p0.Cells] [] := St.init (ro_cons hR0 (ro_nil _ _))
  refine enter 70 Try.func68 rfl Try.ntmps68 rfl ?_
  unfold tile_Repeat at hf
  refine WC.seq ?_
  refine WC.region ?_
  refine WL.new hS 3 [] (fun g => (.pointer (some ⟨g, 0, none⟩))) (.cells #[(.int .i64 p0.Width), (.int .i64 p0.Height), (.slice A_p0_Cells p0.Cells.length c_p0_Cells)] 31 (0, 0)) [] (fun fb g => by kernel_rfl) trivial (fun g2577 w2578 hS2579 => ?_)
  refine ⟨trivial, ?_⟩
  refine WL.new hS2579 6 [] (fun g => (.pointer (some ⟨g, 0, none⟩))) (.cells #[(.int .i64 0), (.int .i64 0), (.slice none 0 0)] 31 (0, 0)) [] (fun fb g => by kernel_rfl) trivial (fun g2581 w2582 hS2583 => ?_)
  refine ⟨trivial, ?_⟩
  refine seg 3 [] [1, 2, 3, 6] [(1, (.int .i64 p1)), (2, (.int .i64 p2)), (3, (.pointer (some ⟨g2577, 0, none⟩))), (6, (.pointer (some ⟨g2581, 0, none⟩)))] [] (fun fb => by kernel_rfl) rfl trivial ?_
  refine WL.done rfl ?_
  refine WX.next ?_
  refine WC.seq ?_
  refine WC.seq ?_
  refine WC.region ?_
  refine seg 1 [.v (.int .i64 p0.Width), .v (.int .i64 p0.Height), .v (.slice A_p0_Cells p0.Cells.length c_p0_Cells)] [1, 2, 3, 6, 11] [(1, (.int .i64 p1)), (2, (.int .i64 p2)), (3, (.pointer (some ⟨g2577, 0, none⟩))), (6, (.pointer (some ⟨g2581, 0, none⟩))), (11, (.agg #[(.int .i64 p0.Width), (.int .i64 p0.Height), (.slice A_p0_Cells p0.Cells.length c_p0_Cells)]))] [.cell ⟨g2577, 0, none⟩ (.int .i64 p0.Width), .cell ⟨g2577, 1, none⟩ (.int .i64 p0.Height), .cell ⟨g2577, 2, none⟩ (.slice A_p0_Cells p0.Cells.length c_p0_Cells)] (fun fb => by kernel_rfl) rfl ⟨hS2583.cell 1 rfl 0 rfl, hS2583.cell 1 rfl 1 rfl, hS2583.cell 1 rfl 2 rfl, trivial⟩ ?_
  obtain ⟨t2599, ht2600, hf⟩ := bind_some hf
  refine WL.call (some 12) 52 #[(.agg #[(.int .i64 p0.Width), (.int .i64 p0.Height), (.slice A_p0_Cells p0.Cells.length c_p0_Cells)])] (fun fb => by kernel_rfl) (tile_Form_calls p0 A_p0_Cells c_p0_Cells t2599 _ (hS2583.rd 0) ht2600) (fun v w2601 hR2602 => ?_)
  obtain ⟨rfl, hk_⟩ := hR2602
  have hS2603 := hS2583.keepN hk_
  refine ⟨trivial, ?_⟩
  refine seg 3 [] [1, 2, 3, 6, 13] [(1, (.int .i64 p1)), (2, (.int .i64 p2)), (3, (.pointer (some ⟨g2577, 0, none⟩))), (6, (.pointer (some ⟨g2581, 0, none⟩))), (13, (.bool (!t2599)))] [] (fun fb => by kernel_rfl) rfl trivial ?_
  refine WL.done rfl ?_
  refine WX.next ?_
  rcases br_some hf with ⟨h2604, hf⟩ | ⟨h2604, hf⟩
  · refine WC.condT2 (fun fb => by kernel_rfl) h2604 ?_
    refine WC.seq ?_
    refine WC.region ?_
    refine seg 1 [] [6, 14] [(6, (.pointer (some ⟨g2581, 0, none⟩))), (14, (.agg #[(.int .i64 0), (.int .i64 0), (.slice none 0 0)]))] [] (fun fb => by kernel_rfl) rfl trivial ?_
    refine WL.store hS2603 0 rfl [(0, (.int .i64 0)), (1, (.int .i64 0)), (2, (.slice none 0 0))] #[(.int .i64 0), (.int .i64 0), (.slice none 0 0)] (fun fb => by kernel_rfl) (by kernel_rfl) rfl [1] (by decide) (by decide) (fun w2605 hS2606 => ?_)
    refine ⟨trivial, ?_⟩
    refine seg 3 [] [6, 7] [(6, (.pointer (some ⟨g2581, 0, none⟩))), (7, (.int .i64 1))] [] (fun fb => by kernel_rfl) rfl trivial ?_
    refine WL.done rfl ?_
    refine WX.next ?_
    refine WC.ret ?_
    have hS2607 := hS2606.nilrow 3 encInt
    injection hf with hf
    subst hf
    exact WX.thenR (WX.ret_ [.v (.int .i64 0), .v (.int .i64 0), .v (.slice none 0 0)] (.tuple #[(.agg #[(.int .i64 0), (.int .i64 0), (.slice none ([] : List Int).length 0)]), (.int .i64 1)]) [.cell ⟨g2581, 0, none⟩ (.int .i64 0), .cell ⟨g2581, 1, none⟩ (.int .i64 0), .cell ⟨g2581, 2, none⟩ (.slice none 0 0)] (fun fb => by kernel_rfl) ⟨hS2606.cell 0 rfl 0 rfl, hS2606.cell 0 rfl 1 rfl, hS2606.cell 0 rfl 2 rfl, trivial⟩ ⟨_, rfl, none, 0, rfl, (hS2607.sub [0] (by decide)).noR⟩)
  refine WC.condF2 (fun fb => by kernel_rfl) h2604 ?_
  refine WC.skip ?_
  refine WX.next ?_
  refine WC.seq ?_
  refine WC.seq ?_
  refine WC.region ?_
  refine seg 3 [] [1, 2, 3, 6, 17] [(1, (.int .i64 p1)), (2, (.int .i64 p2)), (3, (.pointer (some ⟨g2577, 0, none⟩))), (6, (.pointer (some ⟨g2581, 0, none⟩))), (17, (.bool (decide (p1 < 1))))] [] (fun fb => by kernel_rfl) rfl trivial ?_
  refine WL.cutV (T := Bool) 6 (fun t => [(20, (.bool t)), (1, (.int .i64 p1)), (2, (.int .i64 p2)), (3, (.pointer (some ⟨g2577, 0, none⟩))), (6, (.pointer (some ⟨g2581, 0, none⟩)))]) (fun t => t = ((decide (p1 < 1)) || (decide (p2 < 1)))) (fun K => ?_) ?_
  ·
    rcases Bool.eq_false_or_eq_true (decide (p1 < 1)) with h2608 | h2608
    ·
      refine WL.setB 17 h2608 rfl ?_
      refine seg 6 [] [1, 2, 3, 6, 20] [(1, (.int .i64 p1)), (2, (.int .i64 p2)), (3, (.pointer (some ⟨g2577, 0, none⟩))), (6, (.pointer (some ⟨g2581, 0, none⟩))), (20, (.bool true))] [] (fun fb => by kernel_rfl) rfl trivial ?_
      exact WL.toV K true [20, 1, 2, 3, 6] rfl (by rw [h2608]; rfl)
    refine WL.setB 17 h2608 rfl ?_
    refine seg 6 [] [1, 2, 3, 6, 20] [(1, (.int .i64 p1)), (2, (.int .i64 p2)), (3, (.pointer (some ⟨g2577, 0, none⟩))), (6, (.pointer (some ⟨g2581, 0, none⟩))), (20, (.bool (decide (p2 < 1))))] [] (fun fb => by kernel_rfl) rfl trivial ?_
    exact WL.toV K (decide (p2 < 1)) [20, 1, 2, 3, 6] rfl (by rw [h2608]; rfl)
  rintro b2609 rfl
  refine WL.done rfl ?_
  refine WX.next ?_
  rcases br_some hf with ⟨h2610, hf⟩ | ⟨h2610, hf⟩
  · refine WC.condT2 (fun fb => by kernel_rfl) h2610 ?_
    refine WC.seq ?_
    refine WC.region ?_
    refine seg 1 [] [6, 21] [(6, (.pointer (some ⟨g2581, 0, none⟩))), (21, (.agg #[(.int .i64 0), (.int .i64 0), (.slice none 0 0)]))] [] (fun fb => by kernel_rfl) rfl trivial ?_
    refine WL.store hS2603 0 rfl [(0, (.int .i64 0)), (1, (.int .i64 0)), (2, (.slice none 0 0))] #[(.int .i64 0), (.int .i64 0), (.slice none 0 0)] (fun fb => by kernel_rfl) (by kernel_rfl) rfl [1] (by decide) (by decide) (fun w2611 hS2612 => ?_)
    refine ⟨trivial, ?_⟩
    refine seg 3 [] [6, 7] [(6, (.pointer (some ⟨g2581, 0, none⟩))), (7, (.int .i64 2))] [] (fun fb => by kernel_rfl) rfl trivial ?_
    refine WL.done rfl ?_
    refine WX.next ?_
    refine WC.ret ?_
    have hS2613 := hS2612.nilrow 3 encInt
    injection hf with hf
    subst hf
    exact WX.thenR (WX.ret_ [.v (.int .i64 0), .v (.int .i64 0), .v (.slice none 0 0)] (.tuple #[(.agg #[(.int .i64 0), (.int .i64 0), (.slice none ([] : List Int).length 0)]), (.int .i64 2)]) [.cell ⟨g2581, 0, none⟩ (.int .i64 0), .cell ⟨g2581, 1, none⟩ (.int .i64 0), .cell ⟨g2581, 2, none⟩ (.slice none 0 0)] (fun fb => by kernel_rfl) ⟨hS2612.cell 0 rfl 0 rfl, hS2612.cell 0 rfl 1 rfl, hS2612.cell 0 rfl 2 rfl, trivial⟩ ⟨_, rfl, none, 0, rfl, (hS2613.sub [0] (by decide)).noR⟩)
  refine WC.condF2 (fun fb => by kernel_rfl) h2610 ?_
  refine WC.skip ?_
  refine WX.next ?_
  refine WC.seq ?_
  refine WC.seq ?_
  refine WC.region ?_
  refine seg 3 [] [1, 2, 3, 6, 24] [(1, (.int .i64 p1)), (2, (.int .i64 p2)), (3, (.pointer (some ⟨g2577, 0, none⟩))), (6, (.pointer (some ⟨g2581, 0, none⟩))), (24, (.bool (decide (p1 > 40000))))] [] (fun fb => by kernel_rfl) rfl trivial ?_
  refine WL.cutV (T := Bool) 6 (fun t => [(27, (.bool t)), (1, (.int .i64 p1)), (2, (.int .i64 p2)), (3, (.pointer (some ⟨g2577, 0, none⟩))), (6, (.pointer (some ⟨g2581, 0, none⟩)))]) (fun t => t = ((decide (p1 > 40000)) || (decide (p2 > 40000)))) (fun K => ?_) ?_
  ·
    rcases Bool.eq_false_or_eq_true (decide (p1 > 40000)) with h2614 | h2614
    ·
      refine WL.setB 24 h2614 rfl ?_
      refine seg 6 [] [1, 2, 3, 6, 27] [(1, (.int .i64 p1)), (2, (.int .i64 p2)), (3, (.pointer (some ⟨g2577, 0, none⟩))), (6, (.pointer (some ⟨g2581, 0, none⟩))), (27, (.bool true))] [] (fun fb => by kernel_rfl) rfl trivial ?_
      exact WL.toV K true [27, 1, 2, 3, 6] rfl (by rw [h2614]; rfl)
    refine WL.setB 24 h2614 rfl ?_
    refine seg 6 [] [1, 2, 3, 6, 27] [(1, (.int .i64 p1)), (2, (.int .i64 p2)), (3, (.pointer (some ⟨g2577, 0, none⟩))), (6, (.pointer (some ⟨g2581, 0, none⟩))), (27, (.bool (decide (p2 > 40000))))] [] (fun fb => by kernel_rfl) rfl trivial ?_
    exact WL.toV K (decide (p2 > 40000)) [27, 1, 2, 3, 6] rfl (by rw [h2614]; rfl)
  rintro b2615 rfl
  refine seg 7 [] [1, 2, 3, 6, 28] [(1, (.int .i64 p1)), (2, (.int .i64 p2)), (3, (.pointer (some ⟨g2577, 0, none⟩))), (6, (.pointer (some ⟨g2581, 0, none⟩))), (28, (.bool ((decide (p1 > 40000)) || (decide (p2 > 40000)))))] [] (fun fb => by kernel_rfl) rfl trivial ?_
  refine WL.cutV (T := Bool) 12 (fun t => [(33, (.bool t)), (1, (.int .i64 p1)), (2, (.int .i64 p2)), (3, (.pointer (some ⟨g2577, 0, none⟩))), (6, (.pointer (some ⟨g2581, 0, none⟩)))]) (fun t => t = (((decide (p1 > 40000)) || (decide (p2 > 40000))) || (decide (w64 (p1 * p2) > 40000)))) (fun K => ?_) ?_
  ·
    rcases Bool.eq_false_or_eq_true ((decide (p1 > 40000)) || (decide (p2 > 40000))) with h2616 | h2616
    ·
      refine WL.setB 28 h2616 rfl ?_
      refine seg 12 [] [1, 2, 3, 6, 33] [(1, (.int .i64 p1)), (2, (.int .i64 p2)), (3, (.pointer (some ⟨g2577, 0, none⟩))), (6, (.pointer (some ⟨g2581, 0, none⟩))), (33, (.bool true))] [] (fun fb => by kernel_rfl) rfl trivial ?_
      exact WL.toV K true [33, 1, 2, 3, 6] rfl (by rw [h2616]; rfl)
    refine WL.setB 28 h2616 rfl ?_
    refine seg 12 [] [1, 2, 3, 6, 33] [(1, (.int .i64 p1)), (2, (.int .i64 p2)), (3, (.pointer (some ⟨g2577, 0, none⟩))), (6, (.pointer (some ⟨g2581, 0, none⟩))), (33, (.bool (decide (w64 (p1 * p2) > 40000))))] [] (fun fb => by kernel_rfl) rfl trivial ?_
    exact WL.toV K (decide (w64 (p1 * p2) > 40000)) [33, 1, 2, 3, 6] rfl (by rw [h2616]; rfl)
  rintro b2617 rfl
  refine WL.done rfl ?_
  refine WX.next ?_
  rcases br_some hf with ⟨h2618, hf⟩ | ⟨h2618, hf⟩
  · refine WC.condT2 (fun fb => by kernel_rfl) h2618 ?_
    refine WC.seq ?_
    refine WC.region ?_
    refine seg 1 [] [6, 34] [(6, (.pointer (some ⟨g2581, 0, none⟩))), (34, (.agg #[(.int .i64 0), (.int .i64 0), (.slice none 0 0)]))] [] (fun fb => by kernel_rfl) rfl trivial ?_
    refine WL.store hS2603 0 rfl [(0, (.int .i64 0)), (1, (.int .i64 0)), (2, (.slice none 0 0))] #[(.int .i64 0), (.int .i64 0), (.slice none 0 0)] (fun fb => by kernel_rfl) (by kernel_rfl) rfl [1] (by decide) (by decide) (fun w2619 hS2620 => ?_)
    refine ⟨trivial, ?_⟩
    refine seg 3 [] [6, 7] [(6, (.pointer (some ⟨g2581, 0, none⟩))), (7, (.int .i64 4))] [] (fun fb => by kernel_rfl) rfl trivial ?_
    refine WL.done rfl ?_
    refine WX.next ?_
    refine WC.ret ?_
    have hS2621 := hS2620.nilrow 3 encInt
    injection hf with hf
    subst hf
    exact WX.thenR (WX.ret_ [.v (.int .i64 0), .v (.int .i64 0), .v (.slice none 0 0)] (.tuple #[(.agg #[(.int .i64 0), (.int .i64 0), (.slice none ([] : List Int).length 0)]), (.int .i64 4)]) [.cell ⟨g2581, 0, none⟩ (.int .i64 0), .cell ⟨g2581, 1, none⟩ (.int .i64 0), .cell ⟨g2581, 2, none⟩ (.slice none 0 0)] (fun fb => by kernel_rfl) ⟨hS2620.cell 0 rfl 0 rfl, hS2620.cell 0 rfl 1 rfl, hS2620.cell 0 rfl 2 rfl, trivial⟩ ⟨_, rfl, none, 0, rfl, (hS2621.sub [0] (by decide)).noR⟩)
  refine WC.condF2 (fun fb => by kernel_rfl) h2618 ?_
  refine WC.skip ?_
  refine WX.next ?_
  refine WC.seq ?_
  refine WC.region ?_
  refine seg 3 [] [1, 2, 3, 6, 37] [(1, (.int .i64 p1)), (2, (.int .i64 p2)), (3, (.pointer (some ⟨g2577, 0, none⟩))), (6, (.pointer (some ⟨g2581, 0, none⟩))), (37, (.agg #[(.int .i64 p1), (.int .i64 p2), (.slice none 0 0)]))] [] (fun fb => by kernel_rfl) rfl trivial ?_
  refine WL.new hS2603 8 [] (fun g => (.pointer (some ⟨g, 0, none⟩))) (.cells #[(.int .i64 0), (.int .i64 0), (.slice none 0 0)] 31 (0, 0)) [] (fun fb g => by kernel_rfl) trivial (fun g2622 w2623 hS2624 => ?_)
  refine ⟨trivial, ?_⟩
  refine WL.store hS2624 0 rfl [(0, (.int .i64 p1)), (1, (.int .i64 p2)), (2, (.slice none 0 0))] #[(.int .i64 p1), (.int .i64 p2), (.slice none 0 0)] (fun fb => by kernel_rfl) (by kernel_rfl) rfl [1, 2] (by decide) (by decide) (fun w2626 hS2627 => ?_)
  refine ⟨trivial, ?_⟩
  refine WL.done rfl ?_
  refine WX.next ?_
  refine WC.seq ?_
  refine WC.seq ?_
  refine WC.region ?_
  refine seg 2 [] [1, 3, 6, 8, 38, 39] [(1, (.int .i64 p1)), (3, (.pointer (some ⟨g2577, 0, none⟩))), (6, (.pointer (some ⟨g2581, 0, none⟩))), (8, (.pointer (some ⟨g2622, 0, none⟩))), (38, (.int .i64 p2)), (39, (.int .i64 0))] [] (fun fb => by kernel_rfl) rfl trivial ?_
  refine WL.done rfl ?_
  refine WX.next ?_
  have hS2897 := hS2627.nilrow 3 encInt
  obtain ⟨x2905, hx2906, hf⟩ := bind_some hf
  refine WC.cutN (T := (List Int) × (Option Addr) × Nat) (fun t => [(6, (.pointer (some ⟨g2581, 0, none⟩))), (8, (.pointer (some ⟨g2622, 0, none⟩)))]) (fun t w1 => St NoS w w1 [rowR encInt A_p0_Cells c_p0_Cells p0.Cells] [blk g2581 (.cells #[(.int .i64 0), (.int .i64 0), (.slice none 0 0)] 31 (0, 0)), blk g2622 (.cells #[(.int .i64 p1), (.int .i64 p2), (.slice t.2.1 t.1.length t.2.2)] 31 (0, 0)), rowO 3 encInt t.2.1 t.2.2 t.1] ∧ x2905 = t.1) (fun Kx2905 => ?_) ?_
  ·
    refine WC.block ?_
    refine WC.loop (T := ((List Int) × Int) × (Option Addr) × Nat) (fun t => [(1, (.int .i64 p1)), (3, (.pointer (some ⟨g2577, 0, none⟩))), (6, (.pointer (some ⟨g2581, 0, none⟩))), (8, (.pointer (some ⟨g2622, 0, none⟩))), (38, (.int .i64 p2)), (39, (.int .i64 t.1.2))]) (fun n t w1 => St NoS w w1 [rowR encInt A_p0_Cells c_p0_Cells p0.Cells] [blk g2577 (.cells #[(.int .i64 p0.Width), (.int .i64 p0.Height), (.slice A_p0_Cells p0.Cells.length c_p0_Cells)] 31 (0, 0)), blk g2581 (.cells #[(.int .i64 0), (.int .i64 0), (.slice none 0 0)] 31 (0, 0)), blk g2622 (.cells #[(.int .i64 p1), (.int .i64 p2), (.slice t.2.1 t.1.1.length t.2.2)] 31 (0, 0)), rowO 3 encInt t.2.1 t.2.2 t.1.1] ∧ tile_Repeat.l0 n t.1.1 t.1.2 p0 p1 p2 = some x2905) k ((([] : List Int), 0), none, 0) [1, 3, 6, 8, 38, 39] rfl ⟨(hS2897.subR [0]).sub [3, 2, 1, 0] (by decide), hx2906⟩ ?_
    rintro k2907 ⟨⟨l2900, x2901⟩, A2898, c2899⟩ w2908 ⟨hS2909, hl2910⟩
    cases k2907 with
    | zero => rw [tile_Repeat.l0] at hl2910; cases hl2910
    | succ k2907 =>
      rw [tile_Repeat.l0] at hl2910
      refine WC.seq ?_
      refine WC.region ?_
      refine seg 1 [] [1, 3, 6, 8, 38, 39, 40] [(1, (.int .i64 p1)), (3, (.pointer (some ⟨g2577, 0, none⟩))), (6, (.pointer (some ⟨g2581, 0, none⟩))), (8, (.pointer (some ⟨g2622, 0, none⟩))), (38, (.int .i64 p2)), (39, (.int .i64 x2901)), (40, (.bool (decide (x2901 < p2))))] [] (fun fb => by kernel_rfl) rfl trivial ?_
      refine WL.done rfl ?_
      refine WX.next ?_
      refine WC.seq ?_
      rcases br_some hl2910 with ⟨h2911, hl2910⟩ | ⟨h2911, hl2910⟩
      · refine WC.condT2 (fun fb => by kernel_rfl) h2911 ?_
        refine WC.skip ?_
        refine WX.next ?_
        refine WC.seq ?_
        refine WC.block ?_
        refine WC.seq ?_
        refine WC.region ?_
        refine seg 2 [] [1, 3, 6, 8, 9, 38, 39] [(1, (.int .i64 p1)), (3, (.pointer (some ⟨g2577, 0, none⟩))), (6, (.pointer (some ⟨g2581, 0, none⟩))), (8, (.pointer (some ⟨g2622, 0, none⟩))), (9, (.int .i64 x2901)), (38, (.int .i64 p2)), (39, (.int .i64 x2901))] [] (fun fb => by kernel_rfl) rfl trivial ?_
        refine WL.done rfl ?_
        refine WX.next ?_
        refine WC.seq ?_
        refine WC.region ?_
        refine seg 2 [] [1, 3, 6, 8, 9, 38, 39, 42, 43] [(1, (.int .i64 p1)), (3, (.pointer (some ⟨g2577, 0, none⟩))), (6, (.pointer (some ⟨g2581, 0, none⟩))), (8, (.pointer (some ⟨g2622, 0, none⟩))), (9, (.int .i64 x2901)), (38, (.int .i64 p2)), (39, (.int .i64 x2901)), (42, (.int .i64 p1)), (43, (.int .i64 0))] [] (fun fb => by kernel_rfl) rfl trivial ?_
        refine WL.done rfl ?_
        refine WX.next ?_
        obtain ⟨x2995, hx2996, hl2910⟩ := bind_some hl2910
        refine WC.cutN (T := (List Int) × (Option Addr) × Nat) (fun t => [(1, (.int .i64 p1)), (3, (.pointer (some ⟨g2577, 0, none⟩))), (6, (.pointer (some ⟨g2581, 0, none⟩))), (8, (.pointer (some ⟨g2622, 0, none⟩))), (38, (.int .i64 p2)), (39, (.int .i64 x2901))]) (fun t w1 => St NoS w w1 [rowR encInt A_p0_Cells c_p0_Cells p0.Cells] [blk g2577 (.cells #[(.int .i64 p0.Width), (.int .i64 p0.Height), (.slice A_p0_Cells p0.Cells.length c_p0_Cells)] 31 (0, 0)), blk g2581 (.cells #[(.int .i64 0), (.int .i64 0), (.slice none 0 0)] 31 (0, 0)), blk g2622 (.cells #[(.int .i64 p1), (.int .i64 p2), (.slice t.2.1 t.1.length t.2.2)] 31 (0, 0)), rowO 3 encInt t.2.1 t.2.2 t.1] ∧ x2995 = t.1) (fun Kx2995 => ?_) ?_
        ·
          refine WC.block ?_
          refine WC.loop (T := ((List Int) × Int) × (Option Addr) × Nat) (fun t => [(1, (.int .i64 p1)), (3, (.pointer (some ⟨g2577, 0, none⟩))), (6, (.pointer (some ⟨g2581, 0, none⟩))), (8, (.pointer (some ⟨g2622, 0, none⟩))), (9, (.int .i64 x2901)), (38, (.int .i64 p2)), (39, (.int .i64 x2901)), (42, (.int .i64 p1)), (43, (.int .i64 t.1.2))]) (fun n t w1 => St NoS w w1 [rowR encInt A_p0_Cells c_p0_Cells p0.Cells] [blk g2577 (.cells #[(.int .i64 p0.Width), (.int .i64 p0.Height), (.slice A_p0_Cells p0.Cells.length c_p0_Cells)] 31 (0, 0)), blk g2581 (.cells #[(.int .i64 0), (.int .i64 0), (.slice none 0 0)] 31 (0, 0)), blk g2622 (.cells #[(.int .i64 p1), (.int .i64 p2), (.slice t.2.1 t.1.1.length t.2.2)] 31 (0, 0)), rowO 3 encInt t.2.1 t.2.2 t.1.1] ∧ tile_Repeat.l1 n t.1.1 t.1.2 p0 p1 x2901 = some x2995) k2907 ((l2900, 0), A2898, c2899) [1, 3, 6, 8, 9, 38, 39, 42, 43] rfl ⟨(hS2909.subR [0]).sub [0, 1, 2, 3] (by decide), hx2996⟩ ?_
          rintro k2997 ⟨⟨l2990, x2991⟩, A2988, c2989⟩ w2998 ⟨hS2999, hl3000⟩
          cases k2997 with
          | zero => rw [tile_Repeat.l1] at hl3000; cases hl3000
          | succ k2997 =>
            rw [tile_Repeat.l1] at hl3000
            refine WC.seq ?_
            refine WC.region ?_
            refine seg 1 [] [1, 3, 6, 8, 9, 38, 39, 42, 43, 44] [(1, (.int .i64 p1)), (3, (.pointer (some ⟨g2577, 0, none⟩))), (6, (.pointer (some ⟨g2581, 0, none⟩))), (8, (.pointer (some ⟨g2622, 0, none⟩))), (9, (.int .i64 x2901)), (38, (.int .i64 p2)), (39, (.int .i64 x2901)), (42, (.int .i64 p1)), (43, (.int .i64 x2991)), (44, (.bool (decide (x2991 < p1))))] [] (fun fb => by kernel_rfl) rfl trivial ?_
            refine WL.done rfl ?_
            refine WX.next ?_
            refine WC.seq ?_
            rcases br_some hl3000 with ⟨h3001, hl3000⟩ | ⟨h3001, hl3000⟩
            · refine WC.condT2 (fun fb => by kernel_rfl) h3001 ?_
              refine WC.skip ?_
              refine WX.next ?_
              refine WC.seq ?_
              refine WC.block ?_
              refine WC.seq ?_
              refine WC.region ?_
              refine seg 2 [] [1, 3, 6, 8, 9, 10, 38, 39, 42, 43] [(1, (.int .i64 p1)), (3, (.pointer (some ⟨g2577, 0, none⟩))), (6, (.pointer (some ⟨g2581, 0, none⟩))), (8, (.pointer (some ⟨g2622, 0, none⟩))), (9, (.int .i64 x2901)), (10, (.int .i64 x2991)), (38, (.int .i64 p2)), (39, (.int .i64 x2901)), (42, (.int .i64 p1)), (43, (.int .i64 x2991))] [] (fun fb => by kernel_rfl) rfl trivial ?_
              refine WL.done rfl ?_
              refine WX.next ?_
              obtain ⟨h3022, hl3000⟩ := as_some hl3000
              obtain ⟨h3023, hl3000⟩ := as_some hl3000
              obtain ⟨h3024, hl3000⟩ := as_some hl3000
              refine WC.regionD ([(1, ⟨g2622, 2, none⟩, (.slice A2988 l2990.length c2989)), (3, ⟨g2577, 2, none⟩, (.slice A_p0_Cells p0.Cells.length c_p0_Cells)), (6, ⟨g2577, 1, none⟩, (.int .i64 p0.Height)), (9, ⟨g2577, 0, none⟩, (.int .i64 p0.Width)), (13, ⟨g2577, 0, none⟩, (.int .i64 p0.Width)), (17, ((adr A_p0_Cells).add ((w64 ((w64 ((Int.tmod x2901 p0.Height) * p0.Width)) + (Int.tmod x2991 p0.Width))).toNat * 1)), (.int .i64 (rdD p0.Cells (w64 ((w64 ((Int.tmod x2901 p0.Height) * p0.Width)) + (Int.tmod x2991 p0.Width))) 0)))], [0, 1, 2, 3, 4, 5, 6, 7, 8, 9, 10, 11, 12, 13, 14, 15, 16, 17, 20], [[], [0], [], [2], [], [], [5], [4, 5, 6], [], [8], [4, 5, 6, 7, 8, 9], [], [], [12], [11, 12, 13], [4, 5, 6, 7, 8, 9, 10, 11, 12, 13, 14], [2, 3, 4, 5, 6, 7, 8, 9, 10, 11, 12, 13, 14, 15], [2, 3, 4, 5, 6, 7, 8, 9, 10, 11, 12, 13, 14, 15, 16], [2, 3, 4, 5, 6, 7, 8, 9, 10, 11, 12, 13, 14, 15, 16, 17], [0, 1, 2, 3, 4, 5, 6, 7, 8, 9, 10, 11, 12, 13, 14, 15, 16, 17, 18], [0, 1, 2, 3, 4, 5, 6, 7, 8, 9, 10, 11, 12, 13, 14, 15, 16, 17, 18, 19], [0, 1, 2, 3, 4, 5, 6, 7, 8, 9, 10, 11, 12, 13, 14, 15, 16, 17, 18, 19, 20]]) [[0, 1, 2, 3, 4, 5, 6, 7, 8, 9, 10, 11, 12, 13, 14, 15, 16, 17, 18, 19, 20, 21]] (by kernel_rfl) (by kernel_rfl) (NoPanic.block (NoPanic.seq (NoPanic.seq (NoPanic.block (NoPanic.block (NoPanic.seq (NoPanic.seq (NoPanic.block (NoPanic.seq (NoPanic.body)))))))))) ?_
              have hS3018 := hS2999.drew
              revert hS3018
              generalize World.drew w2998 = w3017
              intro hS3018
              refine ⟨⟨hS3018.cell 2 rfl 2 rfl, hS3018.cell 0 rfl 2 rfl, hS3018.cell 0 rfl 1 rfl, hS3018.cell 0 rfl 0 rfl, hS3018.cell 0 rfl 0 rfl, rowR.cell (hS3018.rd 0).1 0 h3024.1 h3024.2 0 rfl, trivial⟩, forallC ?_ (forallN)⟩
              refine segF 18 [.v (.slice A2988 l2990.length c2989), .v (.slice A_p0_Cells p0.Cells.length c_p0_Cells), .v (.int .i64 p0.Height), .v (.int .i64 p0.Width), .v (.int .i64 p0.Width), .v (.int .i64 (rdD p0.Cells (w64 ((w64 ((Int.tmod x2901 p0.Height) * p0.Width)) + (Int.tmod x2991 p0.Width))) 0))] [1, 3, 6, 8, 9, 38, 39, 42, 43, 47, 63] [(1, (.int .i64 p1)), (3, (.pointer (some ⟨g2577, 0, none⟩))), (6, (.pointer (some ⟨g2581, 0, none⟩))), (8, (.pointer (some ⟨g2622, 0, none⟩))), (9, (.int .i64 x2901)), (38, (.int .i64 p2)), (39, (.int .i64 x2901)), (42, (.int .i64 p1)), (43, (.int .i64 x2991)), (47, (.slice A2988 l2990.length c2989)), (63, (.int .i64 (rdD p0.Cells (w64 ((w64 ((Int.tmod x2901 p0.Height) * p0.Width)) + (Int.tmod x2991 p0.Width))) 0)))] [.ne p0.Height, .ne p0.Width, .idx A_p0_Cells (w64 ((w64 ((Int.tmod x2901 p0.Height) * p0.Width)) + (Int.tmod x2991 p0.Width))) p0.Cells.length] [0, 1, 2, 3, 4, 5] [(1, ⟨g2622, 2, none⟩, (.slice A2988 l2990.length c2989)), (3, ⟨g2577, 2, none⟩, (.slice A_p0_Cells p0.Cells.length c_p0_Cells)), (6, ⟨g2577, 1, none⟩, (.int .i64 p0.Height)), (9, ⟨g2577, 0, none⟩, (.int .i64 p0.Width)), (13, ⟨g2577, 0, none⟩, (.int .i64 p0.Width)), (17, ((adr A_p0_Cells).add ((w64 ((w64 ((Int.tmod x2901 p0.Height) * p0.Width)) + (Int.tmod x2991 p0.Width))).toNat * 1)), (.int .i64 (rdD p0.Cells (w64 ((w64 ((Int.tmod x2901 p0.Height) * p0.Width)) + (Int.tmod x2991 p0.Width))) 0)))] (fun fb => by kernel_rfl) rfl ⟨h3022, h3023, rowR.adr (hS3018.rd 0).1 h3024.1 h3024.2, trivial⟩ rfl ?_
              refine WL.new hS3018 64 [] (fun g => (.slice (some ⟨g, 0, none⟩) 1 1)) (.cells #[(.int .i64 (rdD p0.Cells (w64 ((w64 ((Int.tmod x2901 p0.Height) * p0.Width)) + (Int.tmod x2991 p0.Width))) 0))] 3 (0, 0)) [] (fun fb g => by kernel_rfl) trivial (fun g3025 w3026 hS3027 => ?_)
              refine ⟨⟨hS3027.cell 3 rfl 2 rfl, trivial⟩, ?_⟩
              have hS3029 : St NoS w w3026 [rowR encInt A_p0_Cells c_p0_Cells p0.Cells] [rowO 3 encInt (some ⟨g3025, 0, none⟩) 1 [(rdD p0.Cells (w64 ((w64 ((Int.tmod x2901 p0.Height) * p0.Width)) + (Int.tmod x2991 p0.Width))) 0)], blk g2577 (.cells #[(.int .i64 p0.Width), (.int .i64 p0.Height), (.slice A_p0_Cells p0.Cells.length c_p0_Cells)] 31 (0, 0)), blk g2581 (.cells #[(.int .i64 0), (.int .i64 0), (.slice none 0 0)] 31 (0, 0)), blk g2622 (.cells #[(.int .i64 p1), (.int .i64 p2), (.slice A2988 l2990.length c2989)] 31 (0, 0)), rowO 3 encInt A2988 c2989 l2990] := hS3027.map1 0 _ (fun h => rowO.ofBlk h rfl (Nat.le_of_ble_eq_true (by kernel_rfl))) (fun _ h => by obtain ⟨_, h1, h2⟩ := h; injection h1 with h1; subst h1; exact h2) [1, 2, 3, 4] (by decide) (by decide)
              obtain ⟨h3030, hl3000⟩ := as_some hl3000
              refine WL.append hS3029 4 (d := 65) (tS := 25) (z := (.int .i64 0)) (bytes := 8) (c2 := 1) rfl (fun fb => by kernel_rfl) (rowO.rd (hS3029.own 0).1) (by kernel_rfl) (by kernel_rfl) rfl (by decide) h3030 (by decide) [0, 1, 2, 3] (by decide) (by decide) (fun A3031 c3032 w3033 hS3034 => ?_)
              refine ⟨trivial, ?_⟩
              refine seg 21 [] [1, 3, 6, 8, 9, 38, 39, 42, 43, 65, 66] [(1, (.int .i64 p1)), (3, (.pointer (some ⟨g2577, 0, none⟩))), (6, (.pointer (some ⟨g2581, 0, none⟩))), (8, (.pointer (some ⟨g2622, 0, none⟩))), (9, (.int .i64 x2901)), (38, (.int .i64 p2)), (39, (.int .i64 x2901)), (42, (.int .i64 p1)), (43, (.int .i64 x2991)), (65, (.slice A3031 (l2990 ++ [(rdD p0.Cells (w64 ((w64 ((Int.tmod x2901 p0.Height) * p0.Width)) + (Int.tmod x2991 p0.Width))) 0)]).length c3032)), (66, (.pointer (some ⟨g2622, 2, none⟩)))] [] (fun fb => by kernel_rfl) rfl trivial ?_
              refine WL.store hS3034 4 rfl [(2, (.slice A3031 (l2990 ++ [(rdD p0.Cells (w64 ((w64 ((Int.tmod x2901 p0.Height) * p0.Width)) + (Int.tmod x2991 p0.Width))) 0)]).length c3032))] #[(.int .i64 p1), (.int .i64 p2), (.slice A3031 (l2990 ++ [(rdD p0.Cells (w64 ((w64 ((Int.tmod x2901 p0.Height) * p0.Width)) + (Int.tmod x2991 p0.Width))) 0)]).length c3032)] (fun fb => by kernel_rfl) (by kernel_rfl) rfl [0, 1, 2, 3] (by decide) (by decide) (fun w3035 hS3036 => ?_)
              refine ⟨trivial, ?_⟩
              refine WL.done rfl ?_
              refine WX.blockN (WX.next ?_)
              refine WC.region ?_
              refine seg 2 [] [1, 3, 6, 8, 9, 38, 39, 42, 43] [(1, (.int .i64 p1)), (3, (.pointer (some ⟨g2577, 0, none⟩))), (6, (.pointer (some ⟨g2581, 0, none⟩))), (8, (.pointer (some ⟨g2622, 0, none⟩))), (9, (.int .i64 x2901)), (38, (.int .i64 p2)), (39, (.int .i64 x2901)), (42, (.int .i64 p1)), (43, (.int .i64 (w64 (x2991 + 1))))] [] (fun fb => by kernel_rfl) rfl trivial ?_
              refine WL.done rfl ?_
              exact WX.again k2997 (Nat.lt_succ_self _) ((l2990 ++ [(rdD p0.Cells (w64 ((w64 ((Int.tmod x2901 p0.Height) * p0.Width)) + (Int.tmod x2991 p0.Width))) 0)], w64 (x2991 + 1)), A3031, c3032) [1, 3, 6, 8, 9, 38, 39, 42, 43] rfl ⟨(hS3036.subR [0]).sub [3, 4, 0, 1] (by decide), hl3000⟩
            refine WC.condF2 (fun fb => by kernel_rfl) h3001 ?_
            refine WC.exit ?_
            injection hl3000 with hl3000
            exact WX.thenX (WX.thenX (WX.blockHere (WX.to Kx2995 (l2990, A2988, c2989) [1, 3, 6, 8, 38, 39] rfl ⟨(hS2999.subR [0]).sub [0, 1, 2, 3] (by decide), hl3000.symm⟩)))
        rintro ⟨y3040, A2992, c2993⟩ w3037 ⟨hS3038, hq3039⟩
        subst hq3039
        refine WX.blockN (WX.next ?_)
        refine WC.region ?_
        refine seg 2 [] [1, 3, 6, 8, 38, 39] [(1, (.int .i64 p1)), (3, (.pointer (some ⟨g2577, 0, none⟩))), (6, (.pointer (some ⟨g2581, 0, none⟩))), (8, (.pointer (some ⟨g2622, 0, none⟩))), (38, (.int .i64 p2)), (39, (.int .i64 (w64 (x2901 + 1))))] [] (fun fb => by kernel_rfl) rfl trivial ?_
        refine WL.done rfl ?_
        exact WX.again k2907 (Nat.lt_succ_self _) ((x2995, w64 (x2901 + 1)), A2992, c2993) [1, 3, 6, 8, 38, 39] rfl ⟨(hS3038.subR [0]).sub [0, 1, 2, 3] (by decide), hl2910⟩
      refine WC.condF2 (fun fb => by kernel_rfl) h2911 ?_
      refine WC.exit ?_
      injection hl2910 with hl2910
      exact WX.thenX (WX.thenX (WX.blockHere (WX.to Kx2905 (l2900, A2898, c2899) [6, 8] rfl ⟨(hS2909.subR [0]).sub [1, 2, 3] (by decide), hl2910.symm⟩)))
  rintro ⟨y3044, A2902, c2903⟩ w3041 ⟨hS3042, hq3043⟩
  subst hq3043
  refine WX.next ?_
  refine WC.seq ?_
  refine WC.region ?_
  refine seg 1 [.v (.int .i64 p1), .v (.int .i64 p2), .v (.slice A2902 x2905.length c2903)] [6, 69] [(6, (.pointer (some ⟨g2581, 0, none⟩))), (69, (.agg #[(.int .i64 p1), (.int .i64 p2), (.slice A2902 x2905.length c2903)]))] [.cell ⟨g2622, 0, none⟩ (.int .i64 p1), .cell ⟨g2622, 1, none⟩ (.int .i64 p2), .cell ⟨g2622, 2, none⟩ (.slice A2902 x2905.length c2903)] (fun fb => by kernel_rfl) rfl ⟨hS3042.cell 1 rfl 0 rfl, hS3042.cell 1 rfl 1 rfl, hS3042.cell 1 rfl 2 rfl, trivial⟩ ?_
  refine WL.store hS3042 0 rfl [(0, (.int .i64 p1)), (1, (.int .i64 p2)), (2, (.slice A2902 x2905.length c2903))] #[(.int .i64 p1), (.int .i64 p2), (.slice A2902 x2905.length c2903)] (fun fb => by kernel_rfl) (by kernel_rfl) rfl [1, 2] (by decide) (by decide) (fun w3045 hS3046 => ?_)
  refine ⟨trivial, ?_⟩
  refine seg 3 [] [6, 7] [(6, (.pointer (some ⟨g2581, 0, none⟩))), (7, (.int .i64 0))] [] (fun fb => by kernel_rfl) rfl trivial ?_
  refine WL.done rfl ?_
  refine WX.next ?_
  refine WC.ret ?_
  injection hf with hf
  subst hf
  exact WX.ret_ [.v (.int .i64 p1), .v (.int .i64 p2), .v (.slice A2902 x2905.length c2903)] (.tuple #[(.agg #[(.int .i64 p1), (.int .i64 p2), (.slice A2902 x2905.length c2903)]), (.int .i64 0)]) [.cell ⟨g2581, 0, none⟩ (.int .i64 p1), .cell ⟨g2581, 1, none⟩ (.int .i64 p2), .cell ⟨g2581, 2, none⟩ (.slice A2902 x2905.length c2903)] (fun fb => by kernel_rfl) ⟨hS3046.cell 0 rfl 0 rfl, hS3046.cell 0 rfl 1 rfl, hS3046.cell 0 rfl 2 rfl, trivial⟩ ⟨_, rfl, A2902, c2903, rfl, (hS3046.sub [2] (by decide)).noR⟩
theorem top_chess_calls   (r : (List Tile)) (w : World)  (hf : top_chess = some r) :
    CallsR Try.prog 70 #[] w (fun v w' => ∃ (A1_ : Option Addr), ∃ (c1_ : Nat), v = (.slice A1_ r.length c1_) ∧ St NoS w w' [] [rowO 65 enc_Tile A1_ c1_ r]) := by
  have hS : St NoS w w [] [] := St.init (ro_nil _ _)
  refine enter 4 Try.func70 rfl Try.ntmps70 rfl ?_
  unfold top_chess at hf
  refine WC.seq ?_
  refine WC.region ?_
  refine seg 1 [] [] [] [] (fun fb => by kernel_rfl) rfl trivial ?_
  refine WL.done rfl ?_
  refine WX.next ?_
  refine WC.seq ?_
  refine WC.region ?_
  refine seg 2 [] [1, 2] [(1, (.agg #[(.int .i64 0), (.int .i64 1), (.int .i64 1), (.int .i64 0)])), (2, (.agg #[(.int .i64 1), (.int .i64 0), (.int .i64 0), (.int .i64 1)]))] [] (fun fb => by kernel_rfl) rfl trivial ?_
  refine WL.new hS 3 [] (fun g => (.slice (some ⟨g, 0, none⟩) 2 2)) (.cells #[(.int .i64 0), (.int .i64 1), (.int .i64 1), (.int .i64 0), (.int .i64 1), (.int .i64 0), (.int .i64 0), (.int .i64 1)] 65 (0, 0)) [] (fun fb g => by kernel_rfl) trivial (fun g3060 w3061 hS3062 => ?_)
  refine ⟨trivial, ?_⟩
  have hS3064 : St NoS w w3061 [] [rowO 65 enc_Tile (some ⟨g3060, 0, none⟩) 2 [(Tile.mk 0 1 1 0), (Tile.mk 1 0 0 1)]] := hS3062.map1 0 _ (fun h => rowO.ofBlk h rfl (Nat.le_of_ble_eq_true (by kernel_rfl))) (fun _ h => by obtain ⟨_, h1, h2⟩ := h; injection h1 with h1; subst h1; exact h2) [] (by decide) (by decide)
  refine seg 4 [] [0] [(0, (.slice (some ⟨g3060, 0, none⟩) [(Tile.mk 0 1 1 0), (Tile.mk 1 0 0 1)].length 2))] [] (fun fb => by kernel_rfl) rfl trivial ?_
  refine WL.done rfl ?_
  refine WX.next ?_
  refine WC.ret ?_
  injection hf with hf
  subst hf
  exact WX.ret_ [] (.slice (some ⟨g3060, 0, none⟩) [(Tile.mk 0 1 1 0), (Tile.mk 1 0 0 1)].length 2) [] (fun fb => by kernel_rfl) trivial ⟨_, rfl, (some ⟨g3060, 0, none⟩), 2, rfl, (hS3064.sub [0] (by decide)).noR⟩
theorem tile_colour_1_calls (p0 : Int)  (r : Bool) (w : World)  (hf : tile_colour_1 p0 = some r) :
    CallsR Try.prog 73 #[(.int .i64 p0)] w (fun v w' => v = (.bool r) ∧ Keeps NoS w w') := by
  have hS : St NoS w w [] [] := St.init (ro_nil _ _)
  refine enter 9 Try.func73 rfl Try.ntmps73 rfl ?_
  unfold tile_colour_1 at hf
  refine WC.seq ?_
  refine WC.region ?_
  refine seg 1 [] [0] [(0, (.int .i64 p0))] [] (fun fb => by kernel_rfl) rfl trivial ?_
  refine WL.done rfl ?_
  refine WX.next ?_
  refine WC.seq ?_
  refine WC.region ?_
  refine seg 3 [] [0, 5] [(0, (.int .i64 p0)), (5, (.bool (decide (p0 < 0))))] [] (fun fb => by kernel_rfl) rfl trivial ?_
  refine WL.cutV (T := Bool) 6 (fun t => [(8, (.bool t))]) (fun t => t = ((decide (p0 < 0)) || (decide (p0 ≥ 1000)))) (fun K => ?_) ?_
  ·
    rcases Bool.eq_false_or_eq_true (decide (p0 < 0)) with h3103 | h3103
    ·
      refine WL.setB 5 h3103 rfl ?_
      refine seg 6 [] [8] [(8, (.bool true))] [] (fun fb => by kernel_rfl) rfl trivial ?_
      exact WL.toV K true [8] rfl (by rw [h3103]; rfl)
    refine WL.setB 5 h3103 rfl ?_
    refine seg 6 [] [8] [(8, (.bool (decide (p0 ≥ 1000))))] [] (fun fb => by kernel_rfl) rfl trivial ?_
    exact WL.toV K (decide (p0 ≥ 1000)) [8] rfl (by rw [h3103]; rfl)
  rintro b3104 rfl
  refine seg 7 [] [2] [(2, (.bool ((decide (p0 < 0)) || (decide (p0 ≥ 1000)))))] [] (fun fb => by kernel_rfl) rfl trivial ?_
  refine WL.done rfl ?_
  refine WX.next ?_
  refine WC.ret ?_
  injection hf with hf
  subst hf
  exact WX.ret_ [] (.bool ((decide (p0 < 0)) || (decide (p0 ≥ 1000)))) [] (fun fb => by kernel_rfl) trivial ⟨_, rfl, rfl, hS.keep⟩
theorem slices_IndexFunc_int_int_with_tile_colour_1_calls (k : Nat) (p0 : List Int) (A_p0 : Option Addr) (c_p0 : Nat) (r : Int) (w : World) (hR0 : RO NoS w (rowR encInt A_p0 c_p0 p0)) (hf : slices_IndexFunc_int_int_with_tile_colour_1 k p0 = some r) :
    CallsR Try.prog 65 #[(.slice A_p0 p0.length c_p0), (.func (.func 73) #[] #[])] w (fun v w' => v = (.int .i64 r) ∧ Keeps NoS w w') := by
  have hS : St NoS w w [rowR encInt A_p0 c_p0 p0] [] := St.init (ro_cons hR0 (ro_nil _ _))
  refine enter 19 Try.func65 rfl Try.ntmps65 rfl ?_
  unfold slices_IndexFunc_int_int_with_tile_colour_1 at hf
  refine WC.seq ?_
  refine WC.region ?_
  refine seg 1 [] [0, 1] [(0, (.slice A_p0 p0.length c_p0)), (1, (.func (.func 73) #[] #[]))] [] (fun fb => by kernel_rfl) rfl trivial ?_
  refine WL.done rfl ?_
  refine WX.next ?_
  refine WC.seq ?_
  refine WC.seq ?_
  refine WC.region ?_
  refine seg 3 [] [0, 1, 7, 8] [(0, (.slice A_p0 p0.length c_p0)), (1, (.func (.func 73) #[] #[])), (7, (.int .i64 (p0.length : Int))), (8, (.int .i64 0))] [] (fun fb => by kernel_rfl) rfl trivial ?_
  refine WL.done rfl ?_
  refine WX.next ?_
  obtain ⟨x3121, hx3122, hf⟩ := bind_some hf
  refine WC.cutN (T := Unit) (fun t => []) (fun t w1 => St NoS w w1 [rowR encInt A_p0 c_p0 p0] [] ∧ x3121 = .inr t) (fun Kx3121 => ?_) ?_
  ·
    refine WC.block ?_
    refine WC.loop (T := Int) (fun t => [(0, (.slice A_p0 p0.length c_p0)), (1, (.func (.func 73) #[] #[])), (7, (.int .i64 (p0.length : Int))), (8, (.int .i64 t))]) (fun n t w1 => St NoS w w1 [rowR encInt A_p0 c_p0 p0] [] ∧ slices_IndexFunc_int_int_with_tile_colour_1.l0 n t p0 = some x3121) k 0 [0, 1, 7, 8] rfl ⟨(hS.subR [0]).sub [] (by decide), hx3122⟩ ?_
    rintro k3123 x3120 w3124 ⟨hS3125, hl3126⟩
    cases k3123 with
    | zero => rw [slices_IndexFunc_int_int_with_tile_colour_1.l0] at hl3126; cases hl3126
    | succ k3123 =>
      rw [slices_IndexFunc_int_int_with_tile_colour_1.l0] at hl3126
      refine WC.seq ?_
      refine WC.region ?_
      refine seg 1 [] [0, 1, 7, 8, 9] [(0, (.slice A_p0 p0.length c_p0)), (1, (.func (.func 73) #[] #[])), (7, (.int .i64 (p0.length : Int))), (8, (.int .i64 x3120)), (9, (.bool (decide (x3120 < (p0.length : Int)))))] [] (fun fb => by kernel_rfl) rfl trivial ?_
      refine WL.done rfl ?_
      refine WX.next ?_
      refine WC.seq ?_
      rcases br_some hl3126 with ⟨h3127, hl3126⟩ | ⟨h3127, hl3126⟩
      · refine WC.condT2 (fun fb => by kernel_rfl) h3127 ?_
        refine WC.skip ?_
        refine WX.next ?_
        refine WC.seq ?_
        refine WC.block ?_
        refine WC.seq ?_
        refine WC.region ?_
        refine seg 2 [] [0, 1, 5, 7, 8] [(0, (.slice A_p0 p0.length c_p0)), (1, (.func (.func 73) #[] #[])), (5, (.int .i64 x3120)), (7, (.int .i64 (p0.length : Int))), (8, (.int .i64 x3120))] [] (fun fb => by kernel_rfl) rfl trivial ?_
        refine WL.done rfl ?_
        refine WX.next ?_
        refine WC.seq ?_
        refine WC.region ?_
        refine seg 3 [] [0, 1, 5, 7, 8, 11, 12, 13] [(0, (.slice A_p0 p0.length c_p0)), (1, (.func (.func 73) #[] #[])), (5, (.int .i64 x3120)), (7, (.int .i64 (p0.length : Int))), (8, (.int .i64 x3120)), (11, (.func (.func 73) #[] #[])), (12, (.slice A_p0 p0.length c_p0)), (13, (.int .i64 x3120))] [] (fun fb => by kernel_rfl) rfl trivial ?_
        obtain ⟨h3128, hl3126⟩ := as_some hl3126
        refine seg 5 [.v (.int .i64 (rdD p0 x3120 0))] [0, 1, 5, 7, 8, 11, 15] [(0, (.slice A_p0 p0.length c_p0)), (1, (.func (.func 73) #[] #[])), (5, (.int .i64 x3120)), (7, (.int .i64 (p0.length : Int))), (8, (.int .i64 x3120)), (11, (.func (.func 73) #[] #[])), (15, (.int .i64 (rdD p0 x3120 0)))] [.idx A_p0 x3120 p0.length, .cell ((adr A_p0).add ((x3120).toNat * 1)) (.int .i64 (rdD p0 x3120 0))] (fun fb => by kernel_rfl) rfl ⟨rowR.adr (hS3125.rd 0).1 h3128.1 h3128.2, rowR.cell (hS3125.rd 0).1 0 h3128.1 h3128.2 0 rfl, trivial⟩ ?_
        obtain ⟨t3129, ht3130, hl3126⟩ := bind_some hl3126
        refine WL.call (some 16) 73 #[(.int .i64 (rdD p0 x3120 0))] (fun fb => by kernel_rfl) (tile_colour_1_calls (rdD p0 x3120 0) t3129 _ ht3130) (fun v w3131 hR3132 => ?_)
        obtain ⟨rfl, hk_⟩ := hR3132
        have hS3133 := hS3125.keepN hk_
        refine ⟨trivial, ?_⟩
        refine WL.done rfl ?_
        refine WX.next ?_
        rcases br_some hl3126 with ⟨h3134, hl3126⟩ | ⟨h3134, hl3126⟩
        · refine WC.condT2 (fun fb => by kernel_rfl) h3134 ?_
          refine WC.seq ?_
          refine WC.region ?_
          refine seg 2 [] [4] [(4, (.int .i64 x3120))] [] (fun fb => by kernel_rfl) rfl trivial ?_
          refine WL.done rfl ?_
          refine WX.next ?_
          refine WC.ret ?_
          injection hl3126 with hl3126
          subst hl3126
          injection hf with hf
          subst hf
          exact WX.blockR (WX.thenR (WX.thenR (WX.blockR (WX.thenR (WX.ret_ [] (.int .i64 x3120) [] (fun fb => by kernel_rfl) trivial ⟨_, rfl, rfl, hS3133.keep⟩)))))
        refine WC.condF2 (fun fb => by kernel_rfl) h3134 ?_
        refine WC.skip ?_
        refine WX.blockN (WX.next ?_)
        refine WC.region ?_
        refine seg 2 [] [0, 1, 7, 8] [(0, (.slice A_p0 p0.length c_p0)), (1, (.func (.func 73) #[] #[])), (7, (.int .i64 (p0.length : Int))), (8, (.int .i64 (w64 (x3120 + 1))))] [] (fun fb => by kernel_rfl) rfl trivial ?_
        refine WL.done rfl ?_
        exact WX.again k3123 (Nat.lt_succ_self _) (w64 (x3120 + 1)) [0, 1, 7, 8] rfl ⟨(hS3133.subR [0]).sub [] (by decide), hl3126⟩
      refine WC.condF2 (fun fb => by kernel_rfl) h3127 ?_
      refine WC.exit ?_
      injection hl3126 with hl3126
      exact WX.thenX (WX.thenX (WX.blockHere (WX.to Kx3121 () [] rfl ⟨(hS3125.subR [0]).sub [] (by decide), hl3126.symm⟩)))
  rintro y3138 w3135 ⟨hS3136, hq3137⟩
  subst hq3137
  have hf := sum_inr hf
  refine WX.next ?_
  refine WC.seq ?_
  refine WC.region ?_
  refine seg 1 [] [4] [(4, (.int .i64 (-1)))] [] (fun fb => by kernel_rfl) rfl trivial ?_
  refine WL.done rfl ?_
  refine WX.next ?_
  refine WC.ret ?_
  injection hf with hf
  subst hf
  exact WX.ret_ [] (.int .i64 (-1)) [] (fun fb => by kernel_rfl) trivial ⟨_, rfl, rfl, hS3136.keep⟩
theorem slices_ContainsFunc_int_int_with_tile_colour_1_calls (k : Nat) (p0 : List Int) (A_p0 : Option Addr) (c_p0 : Nat) (r : Bool) (w : World) (hR0 : RO NoS w (rowR encInt A_p0 c_p0 p0)) (hf : slices_ContainsFunc_int_int_with_tile_colour_1 k p0 = some r) :
    CallsR Try.prog 49 #[(.slice A_p0 p0.length c_p0), (.func (.func 73) #[] #[])] w (fun v w' => v = (.bool r) ∧ Keeps NoS w w') := by
  have hS : St NoS w w [rowR encInt A_p0 c_p0 p0] [] := St.init (ro_cons hR0 (ro_nil _ _))
  refine enter 9 Try.func49 rfl Try.ntmps49 rfl ?_
  unfold slices_ContainsFunc_int_int_with_tile_colour_1 at hf
  refine WC.seq ?_
  refine WC.region ?_
  refine seg 1 [] [0, 1] [(0, (.slice A_p0 p0.length c_p0)), (1, (.func (.func 73) #[] #[]))] [] (fun fb => by kernel_rfl) rfl trivial ?_
  refine WL.done rfl ?_
  refine WX.next ?_
  refine WC.seq ?_
  refine WC.region ?_
  refine seg 2 [] [5, 6] [(5, (.slice A_p0 p0.length c_p0)), (6, (.func (.func 73) #[] #[]))] [] (fun fb => by kernel_rfl) rfl trivial ?_
  obtain ⟨t3140, ht3141, hf⟩ := bind_some hf
  refine WL.call (some 7) 65 #[(.slice A_p0 p0.length c_p0), (.func (.func 73) #[] #[])] (fun fb => by kernel_rfl) (slices_IndexFunc_int_int_with_tile_colour_1_calls _ p0 A_p0 c_p0 t3140 _ (hS.rd 0) ht3141) (fun v w3142 hR3143 => ?_)
  obtain ⟨rfl, hk_⟩ := hR3143
  have hS3144 := hS.keepN hk_
  refine ⟨trivial, ?_⟩
  refine seg 5 [] [4] [(4, (.bool (decide (t3140 ≥ 0))))] [] (fun fb => by kernel_rfl) rfl trivial ?_
  refine WL.done rfl ?_
  refine WX.next ?_
  refine WC.ret ?_
  injection hf with hf
  subst hf
  exact WX.ret_ [] (.bool (decide (t3140 ≥ 0))) [] (fun fb => by kernel_rfl) trivial ⟨_, rfl, rfl, hS3144.keep⟩
theorem tile_colour_calls (k : Nat) (p0 : List Int) (A_p0 : Option Addr) (c_p0 : Nat) (r : Bool) (w : World) (hR0 : RO NoS w (rowR encInt A_p0 c_p0 p0)) (hf : tile_colour k p0 = some r) :
    CallsR Try.prog 72 #[(.slice A_p0 p0.length c_p0)] w (fun v w' => v = (.bool r) ∧ Keeps NoS w w') := by
  have hS : St NoS w w [rowR encInt A_p0 c_p0 p0] [] := St.init (ro_cons hR0 (ro_nil _ _))
  refine enter 6 Try.func72 rfl Try.ntmps72 rfl ?_
  unfold tile_colour at hf
  refine WC.seq ?_
  refine WC.region ?_
  refine seg 1 [] [0] [(0, (.slice A_p0 p0.length c_p0))] [] (fun fb => by kernel_rfl) rfl trivial ?_
  refine WL.done rfl ?_
  refine WX.next ?_
  refine WC.seq ?_
  refine WC.region ?_
  refine seg 1 [] [3] [(3, (.slice A_p0 p0.length c_p0))] [] (fun fb => by kernel_rfl) rfl trivial ?_
  obtain ⟨t3145, ht3146, hf⟩ := bind_some hf
  refine WL.call (some 4) 49 #[(.slice A_p0 p0.length c_p0), (.func (.func 73) #[] #[])] (fun fb => by kernel_rfl) (slices_ContainsFunc_int_int_with_tile_colour_1_calls _ p0 A_p0 c_p0 t3145 _ (hS.rd 0) ht3146) (fun v w3147 hR3148 => ?_)
  obtain ⟨rfl, hk_⟩ := hR3148
  have hS3149 := hS.keepN hk_
  refine ⟨trivial, ?_⟩
  refine seg 4 [] [2] [(2, (.bool (!t3145)))] [] (fun fb => by kernel_rfl) rfl trivial ?_
  refine WL.done rfl ?_
  refine WX.next ?_
  refine WC.ret ?_
  injection hf with hf
  subst hf
  exact WX.ret_ [] (.bool (!t3145)) [] (fun fb => by kernel_rfl) trivial ⟨_, rfl, rfl, hS3149.keep⟩
theorem tile_Valid_key65 : KeyK Try.prog 65 (aggI ints_Tile) := KeyK.struct (n := 4) (by kernel_rfl) ints_Tile (fun _ => rfl) (fun x y h => by cases x; cases y; simp only [ints_Tile, List.cons.injEq, and_true] at h; obtain ⟨rfl, rfl, rfl, rfl⟩ := h; rfl)
theorem tile_Valid_calls (k : Nat) (p0 : List Tile) (A_p0 : Option Addr) (c_p0 : Nat) (r : Bool) (w : World) (hR0 : RO NoS w (rowR enc_Tile A_p0 c_p0 p0)) (hf : tile_Valid k p0 = some r) :
    CallsR Try.prog 66 #[(.slice A_p0 p0.length c_p0)] w (fun v w' => v = (.bool r) ∧ Keeps NoS w w') := by
  have hS : St NoS w w [rowR enc_Tile A_p0 c_p0 p0] [] := St.init (ro_cons hR0 (ro_nil _ _))
  refine enter 35 Try.func66 rfl Try.ntmps66 rfl ?_
  unfold tile_Valid at hf
  refine WC.seq ?_
  refine WC.region ?_
  refine seg 1 [] [0] [(0, (.slice A_p0 p0.length c_p0))] [] (fun fb => by kernel_rfl) rfl trivial ?_
  refine WL.done rfl ?_
  refine WX.next ?_
  refine WC.seq ?_
  refine WC.seq ?_
  refine WC.region ?_
  refine seg 3 [] [0, 8] [(0, (.slice A_p0 p0.length c_p0)), (8, (.bool (decide ((p0.length : Int) > 1000))))] [] (fun fb => by kernel_rfl) rfl trivial ?_
  refine WL.done rfl ?_
  refine WX.next ?_
  rcases br_some hf with ⟨h3084, hf⟩ | ⟨h3084, hf⟩
  · refine WC.condT2 (fun fb => by kernel_rfl) h3084 ?_
    refine WC.seq ?_
    refine WC.region ?_
    refine seg 1 [] [2] [(2, (.bool false))] [] (fun fb => by kernel_rfl) rfl trivial ?_
    refine WL.done rfl ?_
    refine WX.next ?_
    refine WC.ret ?_
    injection hf with hf
    subst hf
    exact WX.thenR (WX.ret_ [] (.bool false) [] (fun fb => by kernel_rfl) trivial ⟨_, rfl, rfl, hS.keep⟩)
  refine WC.condF2 (fun fb => by kernel_rfl) h3084 ?_
  refine WC.skip ?_
  refine WX.next ?_
  refine WC.seq ?_
  refine WC.region ?_
  refine WL.new hS 9 [] (fun g => (.map (some g))) (mapObj (aggI ints_Tile) vB ([] : List (Tile × Bool))) [] (fun fb g => by kernel_rfl) trivial (fun g3085 w3086 hS3087 => ?_)
  refine ⟨trivial, ?_⟩
  refine seg 2 [] [0, 3] [(0, (.slice A_p0 p0.length c_p0)), (3, (.map (some g3085)))] [] (fun fb => by kernel_rfl) rfl trivial ?_
  refine WL.done rfl ?_
  refine WX.next ?_
  refine WC.seq ?_
  refine WC.seq ?_
  refine WC.region ?_
  refine seg 3 [] [3, 10, 11, 12] [(3, (.map (some g3085))), (10, (.slice A_p0 p0.length c_p0)), (11, (.int .i64 (p0.length : Int))), (12, (.int .i64 0))] [] (fun fb => by kernel_rfl) rfl trivial ?_
  refine WL.done rfl ?_
  refine WX.next ?_
  obtain ⟨x3221, hx3222, hf⟩ := bind_some hf
  refine WC.cutN (T := Unit) (fun t => []) (fun t w1 => St NoS w w1 [rowR enc_Tile A_p0 c_p0 p0] [] ∧ x3221 = .inr t) (fun Kx3221 => ?_) ?_
  ·
    refine WC.block ?_
    refine WC.loop (T := (List (Tile × Bool)) × Int) (fun t => [(3, (.map (some g3085))), (10, (.slice A_p0 p0.length c_p0)), (11, (.int .i64 (p0.length : Int))), (12, (.int .i64 t.2))]) (fun n t w1 => St NoS w w1 [rowR enc_Tile A_p0 c_p0 p0] [blk g3085 (mapObj (aggI ints_Tile) vB t.1)] ∧ tile_Valid.l0 n t.1 t.2 p0 = some x3221) k (([] : List (Tile × Bool)), 0) [3, 10, 11, 12] rfl ⟨(hS3087.subR [0]).sub [0] (by decide), hx3222⟩ ?_
    rintro k3223 ⟨l3219, x3220⟩ w3224 ⟨hS3225, hl3226⟩
    cases k3223 with
    | zero => rw [tile_Valid.l0] at hl3226; cases hl3226
    | succ k3223 =>
      rw [tile_Valid.l0] at hl3226
      refine WC.seq ?_
      refine WC.region ?_
      refine seg 1 [] [3, 10, 11, 12, 13] [(3, (.map (some g3085))), (10, (.slice A_p0 p0.length c_p0)), (11, (.int .i64 (p0.length : Int))), (12, (.int .i64 x3220)), (13, (.bool (decide (x3220 < (p0.length : Int)))))] [] (fun fb => by kernel_rfl) rfl trivial ?_
      refine WL.done rfl ?_
      refine WX.next ?_
      refine WC.seq ?_
      rcases br_some hl3226 with ⟨h3227, hl3226⟩ | ⟨h3227, hl3226⟩
      · refine WC.condT2 (fun fb => by kernel_rfl) h3227 ?_
        refine WC.skip ?_
        refine WX.next ?_
        refine WC.seq ?_
        refine WC.block ?_
        refine WC.seq ?_
        refine WC.region ?_
        obtain ⟨h3228, hl3226⟩ := as_some hl3226
        refine seg 2 [.v (.int .i64 ((rdD p0 x3220 z_Tile).N)), .v (.int .i64 ((rdD p0 x3220 z_Tile).E)), .v (.int .i64 ((rdD p0 x3220 z_Tile).S)), .v (.int .i64 ((rdD p0 x3220 z_Tile).W))] [3, 10, 11, 12, 15] [(3, (.map (some g3085))), (10, (.slice A_p0 p0.length c_p0)), (11, (.int .i64 (p0.length : Int))), (12, (.int .i64 x3220)), (15, (.agg #[(.int .i64 ((rdD p0 x3220 z_Tile).N)), (.int .i64 ((rdD p0 x3220 z_Tile).E)), (.int .i64 ((rdD p0 x3220 z_Tile).S)), (.int .i64 ((rdD p0 x3220 z_Tile).W))]))] [.idx A_p0 x3220 p0.length, .cell ((adr A_p0).add ((x3220).toNat * 4)) (.int .i64 ((rdD p0 x3220 z_Tile).N)), .cell (((adr A_p0).add ((x3220).toNat * 4)).add 1) (.int .i64 ((rdD p0 x3220 z_Tile).E)), .cell (((adr A_p0).add ((x3220).toNat * 4)).add 2) (.int .i64 ((rdD p0 x3220 z_Tile).S)), .cell (((adr A_p0).add ((x3220).toNat * 4)).add 3) (.int .i64 ((rdD p0 x3220 z_Tile).W))] (fun fb => by kernel_rfl) rfl ⟨rowR.adr (hS3225.rd 0).1 h3228.1 h3228.2, rowR.cell (hS3225.rd 0).1 z_Tile h3228.1 h3228.2 0 rfl, rowR.cell (hS3225.rd 0).1 z_Tile h3228.1 h3228.2 1 rfl, rowR.cell (hS3225.rd 0).1 z_Tile h3228.1 h3228.2 2 rfl, rowR.cell (hS3225.rd 0).1 z_Tile h3228.1 h3228.2 3 rfl, trivial⟩ ?_
        refine WL.new hS3225 5 [] (fun g => (.pointer (some ⟨g, 0, none⟩))) (.cells #[(.int .i64 0), (.int .i64 0), (.int .i64 0), (.int .i64 0)] 65 (0, 0)) [] (fun fb g => by kernel_rfl) trivial (fun g3229 w3230 hS3231 => ?_)
        refine ⟨trivial, ?_⟩
        refine WL.store hS3231 0 rfl [(0, (.int .i64 ((rdD p0 x3220 z_Tile).N))), (1, (.int .i64 ((rdD p0 x3220 z_Tile).E))), (2, (.int .i64 ((rdD p0 x3220 z_Tile).S))), (3, (.int .i64 ((rdD p0 x3220 z_Tile).W)))] #[(.int .i64 ((rdD p0 x3220 z_Tile).N)), (.int .i64 ((rdD p0 x3220 z_Tile).E)), (.int .i64 ((rdD p0 x3220 z_Tile).S)), (.int .i64 ((rdD p0 x3220 z_Tile).W))] (fun fb => by kernel_rfl) (by kernel_rfl) rfl [1] (by decide) (by decide) (fun w3233 hS3234 => ?_)
        refine ⟨trivial, ?_⟩
        refine WL.done rfl ?_
        refine WX.next ?_
        refine WC.seq ?_
        refine WC.seq ?_
        refine WC.region ?_
        refine seg 2 [.v (.int .i64 ((rdD p0 x3220 z_Tile).N)), .v (.int .i64 ((rdD p0 x3220 z_Tile).E)), .v (.int .i64 ((rdD p0 x3220 z_Tile).S)), .v (.int .i64 ((rdD p0 x3220 z_Tile).W))] [3, 5, 10, 11, 12, 16, 17] [(3, (.map (some g3085))), (5, (.pointer (some ⟨g3229, 0, none⟩))), (10, (.slice A_p0 p0.length c_p0)), (11, (.int .i64 (p0.length : Int))), (12, (.int .i64 x3220)), (16, (.map (some g3085))), (17, (.agg #[(.int .i64 ((rdD p0 x3220 z_Tile).N)), (.int .i64 ((rdD p0 x3220 z_Tile).E)), (.int .i64 ((rdD p0 x3220 z_Tile).S)), (.int .i64 ((rdD p0 x3220 z_Tile).W))]))] [.cell ⟨g3229, 0, none⟩ (.int .i64 ((rdD p0 x3220 z_Tile).N)), .cell ⟨g3229, 1, none⟩ (.int .i64 ((rdD p0 x3220 z_Tile).E)), .cell ⟨g3229, 2, none⟩ (.int .i64 ((rdD p0 x3220 z_Tile).S)), .cell ⟨g3229, 3, none⟩ (.int .i64 ((rdD p0 x3220 z_Tile).W))] (fun fb => by kernel_rfl) rfl ⟨hS3234.cell 0 rfl 0 rfl, hS3234.cell 0 rfl 1 rfl, hS3234.cell 0 rfl 2 rfl, hS3234.cell 0 rfl 3 rfl, trivial⟩ ?_
        refine WL.lookup (hS3234.own 1).1 (rdD p0 x3220 z_Tile) (d := 18) (c := false) (t := 108) (kT := 65) (eT := 4) (z := false) (kE := (aggI ints_Tile)) (vE := vB) (l := l3219) (.bool (mget (rdD p0 x3220 z_Tile) false l3219)) (fun fb => by kernel_rfl) tile_Valid_key65 (by kernel_rfl) (fun _ => by kernel_rfl) rfl ?_
        refine ⟨trivial, ?_⟩
        refine seg 4 [] [3, 5, 10, 11, 12, 19] [(3, (.map (some g3085))), (5, (.pointer (some ⟨g3229, 0, none⟩))), (10, (.slice A_p0 p0.length c_p0)), (11, (.int .i64 (p0.length : Int))), (12, (.int .i64 x3220)), (19, (.bool (mget (rdD p0 x3220 z_Tile) false l3219)))] [] (fun fb => by kernel_rfl) rfl trivial ?_
        obtain ⟨x3246, hx3247, hl3226⟩ := bind_some hl3226
        refine WL.cutW (T := Bool) 16 (fun t => [(3, (.map (some g3085))), (5, (.pointer (some ⟨g3229, 0, none⟩))), (10, (.slice A_p0 p0.length c_p0)), (11, (.int .i64 (p0.length : Int))), (12, (.int .i64 x3220)), (31, (.bool t))]) (fun t w1 => (St NoS w w1 [rowR enc_Tile A_p0 c_p0 p0] [blk g3085 (mapObj (aggI ints_Tile) vB l3219), blk g3229 (.cells #[(.int .i64 ((rdD p0 x3220 z_Tile).N)), (.int .i64 ((rdD p0 x3220 z_Tile).E)), (.int .i64 ((rdD p0 x3220 z_Tile).S)), (.int .i64 ((rdD p0 x3220 z_Tile).W))] 65 (0, 0))] ∧ x3246 = t) ∧ CellsOK [] w1) (fun K => ?_) ?_
        ·
          rcases br_some hx3247 with ⟨h3248, hx3247⟩ | ⟨h3248, hx3247⟩
          ·
            refine WL.setB 19 h3248 rfl ?_
            refine seg 16 [] [3, 5, 10, 11, 12, 31] [(3, (.map (some g3085))), (5, (.pointer (some ⟨g3229, 0, none⟩))), (10, (.slice A_p0 p0.length c_p0)), (11, (.int .i64 (p0.length : Int))), (12, (.int .i64 x3220)), (31, (.bool true))] [] (fun fb => by kernel_rfl) rfl trivial ?_
            injection hx3247 with hx3247
            exact WL.to K true [3, 5, 10, 11, 12, 31] rfl ⟨⟨(hS3234.subR [0]).sub [1, 0] (by decide), hx3247.symm⟩, trivial⟩
          refine WL.setB 19 h3248 rfl ?_
          refine seg 12 [.v (.int .i64 ((rdD p0 x3220 z_Tile).N)), .v (.int .i64 ((rdD p0 x3220 z_Tile).E)), .v (.int .i64 ((rdD p0 x3220 z_Tile).S)), .v (.int .i64 ((rdD p0 x3220 z_Tile).W))] [3, 5, 10, 11, 12, 19, 21, 23, 25, 27] [(3, (.map (some g3085))), (5, (.pointer (some ⟨g3229, 0, none⟩))), (10, (.slice A_p0 p0.length c_p0)), (11, (.int .i64 (p0.length : Int))), (12, (.int .i64 x3220)), (19, (.bool false)), (21, (.int .i64 ((rdD p0 x3220 z_Tile).N))), (23, (.int .i64 ((rdD p0 x3220 z_Tile).E))), (25, (.int .i64 ((rdD p0 x3220 z_Tile).S))), (27, (.int .i64 ((rdD p0 x3220 z_Tile).W)))] [.cell ⟨g3229, 0, none⟩ (.int .i64 ((rdD p0 x3220 z_Tile).N)), .cell ⟨g3229, 1, none⟩ (.int .i64 ((rdD p0 x3220 z_Tile).E)), .cell ⟨g3229, 2, none⟩ (.int .i64 ((rdD p0 x3220 z_Tile).S)), .cell ⟨g3229, 3, none⟩ (.int .i64 ((rdD p0 x3220 z_Tile).W))] (fun fb => by kernel_rfl) rfl ⟨hS3234.cell 0 rfl 0 rfl, hS3234.cell 0 rfl 1 rfl, hS3234.cell 0 rfl 2 rfl, hS3234.cell 0 rfl 3 rfl, trivial⟩ ?_
          refine WL.new hS3234 28 [] (fun g => (.slice (some ⟨g, 0, none⟩) 4 4)) (.cells #[(.int .i64 ((rdD p0 x3220 z_Tile).N)), (.int .i64 ((rdD p0 x3220 z_Tile).E)), (.int .i64 ((rdD p0 x3220 z_Tile).S)), (.int .i64 ((rdD p0 x3220 z_Tile).W))] 3 (0, 0)) [] (fun fb g => by kernel_rfl) trivial (fun g3249 w3250 hS3251 => ?_)
          refine ⟨trivial, ?_⟩
          have hS3253 : St NoS w w3250 [rowR enc_Tile A_p0 c_p0 p0] [rowO 3 encInt (some ⟨g3249, 0, none⟩) 4 [(rdD p0 x3220 z_Tile).N, (rdD p0 x3220 z_Tile).E, (rdD p0 x3220 z_Tile).S, (rdD p0 x3220 z_Tile).W], blk g3229 (.cells #[(.int .i64 ((rdD p0 x3220 z_Tile).N)), (.int .i64 ((rdD p0 x3220 z_Tile).E)), (.int .i64 ((rdD p0 x3220 z_Tile).S)), (.int .i64 ((rdD p0 x3220 z_Tile).W))] 65 (0, 0)), blk g3085 (mapObj (aggI ints_Tile) vB l3219)] := hS3251.map1 0 _ (fun h => rowO.ofBlk h rfl (Nat.le_of_ble_eq_true (by kernel_rfl))) (fun _ h => by obtain ⟨_, h1, h2⟩ := h; injection h1 with h1; subst h1; exact h2) [1, 2] (by decide) (by decide)
          obtain ⟨t3254, ht3255, hx3247⟩ := bind_some hx3247
          refine WL.call (some 29) 72 #[(.slice (some ⟨g3249, 0, none⟩) [(rdD p0 x3220 z_Tile).N, (rdD p0 x3220 z_Tile).E, (rdD p0 x3220 z_Tile).S, (rdD p0 x3220 z_Tile).W].length 4)] (fun fb => by kernel_rfl) (tile_colour_calls _ [(rdD p0 x3220 z_Tile).N, (rdD p0 x3220 z_Tile).E, (rdD p0 x3220 z_Tile).S, (rdD p0 x3220 z_Tile).W] (some ⟨g3249, 0, none⟩) 4 t3254 _ (hS3253.ow 0).ofO ht3255) (fun v w3256 hR3257 => ?_)
          obtain ⟨rfl, hk_⟩ := hR3257
          have hS3258 := hS3253.keepN hk_
          refine ⟨trivial, ?_⟩
          refine seg 16 [] [3, 5, 10, 11, 12, 31] [(3, (.map (some g3085))), (5, (.pointer (some ⟨g3229, 0, none⟩))), (10, (.slice A_p0 p0.length c_p0)), (11, (.int .i64 (p0.length : Int))), (12, (.int .i64 x3220)), (31, (.bool (!t3254)))] [] (fun fb => by kernel_rfl) rfl trivial ?_
          injection hx3247 with hx3247
          exact WL.to K (!t3254) [3, 5, 10, 11, 12, 31] rfl ⟨⟨(hS3258.subR [0]).sub [2, 1] (by decide), hx3247.symm⟩, trivial⟩
        rintro y3259 w3261 ⟨⟨hS3262, hq3260⟩, hF3263⟩
        subst hq3260
        refine WL.done rfl ?_
        refine WX.next ?_
        rcases br_some hl3226 with ⟨h3264, hl3226⟩ | ⟨h3264, hl3226⟩
        · refine WC.condT2 (fun fb => by kernel_rfl) h3264 ?_
          refine WC.seq ?_
          refine WC.region ?_
          refine seg 1 [] [2] [(2, (.bool false))] [] (fun fb => by kernel_rfl) rfl trivial ?_
          refine WL.done rfl ?_
          refine WX.next ?_
          refine WC.ret ?_
          injection hl3226 with hl3226
          subst hl3226
          injection hf with hf
          subst hf
          exact WX.thenR (WX.blockR (WX.thenR (WX.thenR (WX.blockR (WX.thenR (WX.ret_ [] (.bool false) [] (fun fb => by kernel_rfl) trivial ⟨_, rfl, rfl, hS3262.keep⟩))))))
        refine WC.condF2 (fun fb => by kernel_rfl) h3264 ?_
        refine WC.skip ?_
        refine WX.next ?_
        refine WC.region ?_
        refine seg 2 [.v (.int .i64 ((rdD p0 x3220 z_Tile).N)), .v (.int .i64 ((rdD p0 x3220 z_Tile).E)), .v (.int .i64 ((rdD p0 x3220 z_Tile).S)), .v (.int .i64 ((rdD p0 x3220 z_Tile).W))] [3, 10, 11, 12, 32, 33] [(3, (.map (some g3085))), (10, (.slice A_p0 p0.length c_p0)), (11, (.int .i64 (p0.length : Int))), (12, (.int .i64 x3220)), (32, (.map (some g3085))), (33, (.agg #[(.int .i64 ((rdD p0 x3220 z_Tile).N)), (.int .i64 ((rdD p0 x3220 z_Tile).E)), (.int .i64 ((rdD p0 x3220 z_Tile).S)), (.int .i64 ((rdD p0 x3220 z_Tile).W))]))] [.cell ⟨g3229, 0, none⟩ (.int .i64 ((rdD p0 x3220 z_Tile).N)), .cell ⟨g3229, 1, none⟩ (.int .i64 ((rdD p0 x3220 z_Tile).E)), .cell ⟨g3229, 2, none⟩ (.int .i64 ((rdD p0 x3220 z_Tile).S)), .cell ⟨g3229, 3, none⟩ (.int .i64 ((rdD p0 x3220 z_Tile).W))] (fun fb => by kernel_rfl) rfl ⟨hS3262.cell 1 rfl 0 rfl, hS3262.cell 1 rfl 1 rfl, hS3262.cell 1 rfl 2 rfl, hS3262.cell 1 rfl 3 rfl, trivial⟩ ?_
        refine WL.mapput hS3262 0 (t := 108) (kT := 65) (eT := 4) (kE := (aggI ints_Tile)) (vE := vB) (l := l3219) rfl (rdD p0 x3220 z_Tile) true (fun fb => by kernel_rfl) tile_Valid_key65 (by kernel_rfl) [1] (by decide) (by decide) (fun w3265 hS3266 => ?_)
        refine ⟨trivial, ?_⟩
        refine WL.done rfl ?_
        refine WX.blockN (WX.next ?_)
        refine WC.region ?_
        refine seg 2 [] [3, 10, 11, 12] [(3, (.map (some g3085))), (10, (.slice A_p0 p0.length c_p0)), (11, (.int .i64 (p0.length : Int))), (12, (.int .i64 (w64 (x3220 + 1))))] [] (fun fb => by kernel_rfl) rfl trivial ?_
        refine WL.done rfl ?_
        exact WX.again k3223 (Nat.lt_succ_self _) (mput (rdD p0 x3220 z_Tile) true l3219, w64 (x3220 + 1)) [3, 10, 11, 12] rfl ⟨(hS3266.subR [0]).sub [0] (by decide), hl3226⟩
      refine WC.condF2 (fun fb => by kernel_rfl) h3227 ?_
      refine WC.exit ?_
      injection hl3226 with hl3226
      exact WX.thenX (WX.thenX (WX.blockHere (WX.to Kx3221 () [] rfl ⟨(hS3225.subR [0]).sub [] (by decide), hl3226.symm⟩)))
  rintro y3270 w3267 ⟨hS3268, hq3269⟩
  subst hq3269
  have hf := sum_inr hf
  refine WX.next ?_
  refine WC.seq ?_
  refine WC.region ?_
  refine seg 1 [] [2] [(2, (.bool true))] [] (fun fb => by kernel_rfl) rfl trivial ?_
  refine WL.done rfl ?_
  refine WX.next ?_
  refine WC.ret ?_
  injection hf with hf
  subst hf
  exact WX.ret_ [] (.bool true) [] (fun fb => by kernel_rfl) trivial ⟨_, rfl, rfl, hS3268.keep⟩
theorem tile_of_1_calls (p0 : Int) (f0 : List Tile) (g_f0 : Nat) (A_f0 : Option Addr) (c_f0 : Nat) (r : Bool) (w : World) (hR0 : RO NoS w (blk g_f0 (.cells #[(.slice A_f0 f0.length c_f0)] 50 (0, 0)))) (hR1 : RO NoS w (rowR enc_Tile A_f0 c_f0 f0)) (hf : tile_of_1 p0 f0 = some r) :
    CallsR Try.prog 67 #[(.int .i64 p0), (.pointer (some ⟨g_f0, 0, none⟩))] w (fun v w' => v = (.bool r) ∧ Keeps NoS w w') := by
  have hS : St NoS w w [blk g_f0 (.cells #[(.slice A_f0 f0.length c_f0)] 50 (0, 0)), rowR enc_Tile A_f0 c_f0 f0] [] := St.init (ro_cons hR0 (ro_cons hR1 (ro_nil _ _)))
  refine enter 12 Try.func67 rfl Try.ntmps67 rfl ?_
  unfold tile_of_1 at hf
  refine WC.seq ?_
  refine WC.region ?_
  refine seg 1 [] [0, 1] [(0, (.int .i64 p0)), (1, (.pointer (some ⟨g_f0, 0, none⟩)))] [] (fun fb => by kernel_rfl) rfl trivial ?_
  refine WL.done rfl ?_
  refine WX.next ?_
  refine WC.seq ?_
  refine WC.region ?_
  refine seg 3 [] [0, 1, 6] [(0, (.int .i64 p0)), (1, (.pointer (some ⟨g_f0, 0, none⟩))), (6, (.bool (decide (p0 < 0))))] [] (fun fb => by kernel_rfl) rfl trivial ?_
  refine WL.cutV (T := Bool) 8 (fun t => [(11, (.bool t))]) (fun t => t = ((decide (p0 < 0)) || (decide (p0 ≥ (f0.length : Int))))) (fun K => ?_) ?_
  ·
    rcases Bool.eq_false_or_eq_true (decide (p0 < 0)) with h3298 | h3298
    ·
      refine WL.setB 6 h3298 rfl ?_
      refine seg 8 [] [11] [(11, (.bool true))] [] (fun fb => by kernel_rfl) rfl trivial ?_
      exact WL.toV K true [11] rfl (by rw [h3298]; rfl)
    refine WL.setB 6 h3298 rfl ?_
    refine seg 8 [.v (.slice A_f0 f0.length c_f0)] [11] [(11, (.bool (decide (p0 ≥ (f0.length : Int)))))] [.cell ⟨g_f0, 0, none⟩ (.slice A_f0 f0.length c_f0)] (fun fb => by kernel_rfl) rfl ⟨blk_cell (hS.rd 0).1 0 rfl, trivial⟩ ?_
    exact WL.toV K (decide (p0 ≥ (f0.length : Int))) [11] rfl (by rw [h3298]; rfl)
  rintro b3299 rfl
  refine seg 9 [] [3] [(3, (.bool ((decide (p0 < 0)) || (decide (p0 ≥ (f0.length : Int))))))] [] (fun fb => by kernel_rfl) rfl trivial ?_
  refine WL.done rfl ?_
  refine WX.next ?_
  refine WC.ret ?_
  injection hf with hf
  subst hf
  exact WX.ret_ [] (.bool ((decide (p0 < 0)) || (decide (p0 ≥ (f0.length : Int))))) [] (fun fb => by kernel_rfl) trivial ⟨_, rfl, rfl, hS.keep⟩
theorem slices_IndexFunc_int_int_with_tile_of_1_calls (k : Nat) (p0 : List Int) (p1_0 : List Tile) (A_p0 : Option Addr) (c_p0 : Nat) (g_p1_0 : Nat) (A_p1_0 : Option Addr) (c_p1_0 : Nat) (r : Int) (w : World) (hR0 : RO NoS w (rowR encInt A_p0 c_p0 p0)) (hR1 : RO NoS w (blk g_p1_0 (.cells #[(.slice A_p1_0 p1_0.length c_p1_0)] 50 (0, 0)))) (hR2 : RO NoS w (rowR enc_Tile A_p1_0 c_p1_0 p1_0)) (hf : slices_IndexFunc_int_int_with_tile_of_1 k p0 p1_0 = some r) :
    CallsR Try.prog 65 #[(.slice A_p0 p0.length c_p0), (.func (.func 67) #[] #[(.pointer (some ⟨g_p1_0, 0, none⟩))])] w (fun v w' => v = (.int .i64 r) ∧ Keeps NoS w w') := by
  have hS : St NoS w w [rowR encInt A_p0 c_p0 p0, blk g_p1_0 (.cells #[(.slice A_p1_0 p1_0.length c_p1_0)] 50 (0, 0)), rowR enc_Tile A_p1_0 c_p1_0 p1_0] [] := St.init (ro_cons hR0 (ro_cons hR1 (ro_cons hR2 (ro_nil _ _))))
  refine enter 19 Try.func65 rfl Try.ntmps65 rfl ?_
  unfold slices_IndexFunc_int_int_with_tile_of_1 at hf
  refine WC.seq ?_
  refine WC.region ?_
  refine seg 1 [] [0, 1] [(0, (.slice A_p0 p0.length c_p0)), (1, (.func (.func 67) #[] #[(.pointer (some ⟨g_p1_0, 0, none⟩))]))] [] (fun fb => by kernel_rfl) rfl trivial ?_
  refine WL.done rfl ?_
  refine WX.next ?_
  refine WC.seq ?_
  refine WC.seq ?_
  refine WC.region ?_
  refine seg 3 [] [0, 1, 7, 8] [(0, (.slice A_p0 p0.length c_p0)), (1, (.func (.func 67) #[] #[(.pointer (some ⟨g_p1_0, 0, none⟩))])), (7, (.int .i64 (p0.length : Int))), (8, (.int .i64 0))] [] (fun fb => by kernel_rfl) rfl trivial ?_
  refine WL.done rfl ?_
  refine WX.next ?_
  obtain ⟨x3316, hx3317, hf⟩ := bind_some hf
  refine WC.cutN (T := Unit) (fun t => []) (fun t w1 => St NoS w w1 [rowR encInt A_p0 c_p0 p0, blk g_p1_0 (.cells #[(.slice A_p1_0 p1_0.length c_p1_0)] 50 (0, 0)), rowR enc_Tile A_p1_0 c_p1_0 p1_0] [] ∧ x3316 = .inr t) (fun Kx3316 => ?_) ?_
  ·
    refine WC.block ?_
    refine WC.loop (T := Int) (fun t => [(0, (.slice A_p0 p0.length c_p0)), (1, (.func (.func 67) #[] #[(.pointer (some ⟨g_p1_0, 0, none⟩))])), (7, (.int .i64 (p0.length : Int))), (8, (.int .i64 t))]) (fun n t w1 => St NoS w w1 [rowR encInt A_p0 c_p0 p0, blk g_p1_0 (.cells #[(.slice A_p1_0 p1_0.length c_p1_0)] 50 (0, 0)), rowR enc_Tile A_p1_0 c_p1_0 p1_0] [] ∧ slices_IndexFunc_int_int_with_tile_of_1.l0 n t p0 p1_0 = some x3316) k 0 [0, 1, 7, 8] rfl ⟨(hS.subR [0, 1, 2]).sub [] (by decide), hx3317⟩ ?_
    rintro k3318 x3315 w3319 ⟨hS3320, hl3321⟩
    cases k3318 with
    | zero => rw [slices_IndexFunc_int_int_with_tile_of_1.l0] at hl3321; cases hl3321
    | succ k3318 =>
      rw [slices_IndexFunc_int_int_with_tile_of_1.l0] at hl3321
      refine WC.seq ?_
      refine WC.region ?_
      refine seg 1 [] [0, 1, 7, 8, 9] [(0, (.slice A_p0 p0.length c_p0)), (1, (.func (.func 67) #[] #[(.pointer (some ⟨g_p1_0, 0, none⟩))])), (7, (.int .i64 (p0.length : Int))), (8, (.int .i64 x3315)), (9, (.bool (decide (x3315 < (p0.length : Int)))))] [] (fun fb => by kernel_rfl) rfl trivial ?_
      refine WL.done rfl ?_
      refine WX.next ?_
      refine WC.seq ?_
      rcases br_some hl3321 with ⟨h3322, hl3321⟩ | ⟨h3322, hl3321⟩
      · refine WC.condT2 (fun fb => by kernel_rfl) h3322 ?_
        refine WC.skip ?_
        refine WX.next ?_
        refine WC.seq ?_
        refine WC.block ?_
        refine WC.seq ?_
        refine WC.region ?_
        refine seg 2 [] [0, 1, 5, 7, 8] [(0, (.slice A_p0 p0.length c_p0)), (1, (.func (.func 67) #[] #[(.pointer (some ⟨g_p1_0, 0, none⟩))])), (5, (.int .i64 x3315)), (7, (.int .i64 (p0.length : Int))), (8, (.int .i64 x3315))] [] (fun fb => by kernel_rfl) rfl trivial ?_
        refine WL.done rfl ?_
        refine WX.next ?_
        refine WC.seq ?_
        refine WC.region ?_
        refine seg 3 [] [0, 1, 5, 7, 8, 11, 12, 13] [(0, (.slice A_p0 p0.length c_p0)), (1, (.func (.func 67) #[] #[(.pointer (some ⟨g_p1_0, 0, none⟩))])), (5, (.int .i64 x3315)), (7, (.int .i64 (p0.length : Int))), (8, (.int .i64 x3315)), (11, (.func (.func 67) #[] #[(.pointer (some ⟨g_p1_0, 0, none⟩))])), (12, (.slice A_p0 p0.length c_p0)), (13, (.int .i64 x3315))] [] (fun fb => by kernel_rfl) rfl trivial ?_
        obtain ⟨h3323, hl3321⟩ := as_some hl3321
        refine seg 5 [.v (.int .i64 (rdD p0 x3315 0))] [0, 1, 5, 7, 8, 11, 15] [(0, (.slice A_p0 p0.length c_p0)), (1, (.func (.func 67) #[] #[(.pointer (some ⟨g_p1_0, 0, none⟩))])), (5, (.int .i64 x3315)), (7, (.int .i64 (p0.length : Int))), (8, (.int .i64 x3315)), (11, (.func (.func 67) #[] #[(.pointer (some ⟨g_p1_0, 0, none⟩))])), (15, (.int .i64 (rdD p0 x3315 0)))] [.idx A_p0 x3315 p0.length, .cell ((adr A_p0).add ((x3315).toNat * 1)) (.int .i64 (rdD p0 x3315 0))] (fun fb => by kernel_rfl) rfl ⟨rowR.adr (hS3320.rd 0).1 h3323.1 h3323.2, rowR.cell (hS3320.rd 0).1 0 h3323.1 h3323.2 0 rfl, trivial⟩ ?_
        obtain ⟨t3324, ht3325, hl3321⟩ := bind_some hl3321
        refine WL.call (some 16) 67 #[(.int .i64 (rdD p0 x3315 0)), (.pointer (some ⟨g_p1_0, 0, none⟩))] (fun fb => by kernel_rfl) (tile_of_1_calls (rdD p0 x3315 0) p1_0 g_p1_0 A_p1_0 c_p1_0 t3324 _ (hS3320.rd 1) (hS3320.rd 2) ht3325) (fun v w3326 hR3327 => ?_)
        obtain ⟨rfl, hk_⟩ := hR3327
        have hS3328 := hS3320.keepN hk_
        refine ⟨trivial, ?_⟩
        refine WL.done rfl ?_
        refine WX.next ?_
        rcases br_some hl3321 with ⟨h3329, hl3321⟩ | ⟨h3329, hl3321⟩
        · refine WC.condT2 (fun fb => by kernel_rfl) h3329 ?_
          refine WC.seq ?_
          refine WC.region ?_
          refine seg 2 [] [4] [(4, (.int .i64 x3315))] [] (fun fb => by kernel_rfl) rfl trivial ?_
          refine WL.done rfl ?_
          refine WX.next ?_
          refine WC.ret ?_
          injection hl3321 with hl3321
          subst hl3321
          injection hf with hf
          subst hf
          exact WX.blockR (WX.thenR (WX.thenR (WX.blockR (WX.thenR (WX.ret_ [] (.int .i64 x3315) [] (fun fb => by kernel_rfl) trivial ⟨_, rfl, rfl, hS3328.keep⟩)))))
        refine WC.condF2 (fun fb => by kernel_rfl) h3329 ?_
        refine WC.skip ?_
        refine WX.blockN (WX.next ?_)
        refine WC.region ?_
        refine seg 2 [] [0, 1, 7, 8] [(0, (.slice A_p0 p0.length c_p0)), (1, (.func (.func 67) #[] #[(.pointer (some ⟨g_p1_0, 0, none⟩))])), (7, (.int .i64 (p0.length : Int))), (8, (.int .i64 (w64 (x3315 + 1))))] [] (fun fb => by kernel_rfl) rfl trivial ?_
        refine WL.done rfl ?_
        exact WX.again k3318 (Nat.lt_succ_self _) (w64 (x3315 + 1)) [0, 1, 7, 8] rfl ⟨(hS3328.subR [0, 1, 2]).sub [] (by decide), hl3321⟩
      refine WC.condF2 (fun fb => by kernel_rfl) h3322 ?_
      refine WC.exit ?_
      injection hl3321 with hl3321
      exact WX.thenX (WX.thenX (WX.blockHere (WX.to Kx3316 () [] rfl ⟨(hS3320.subR [0, 1, 2]).sub [] (by decide), hl3321.symm⟩)))
  rintro y3333 w3330 ⟨hS3331, hq3332⟩
  subst hq3332
  have hf := sum_inr hf
  refine WX.next ?_
  refine WC.seq ?_
  refine WC.region ?_
  refine seg 1 [] [4] [(4, (.int .i64 (-1)))] [] (fun fb => by kernel_rfl) rfl trivial ?_
  refine WL.done rfl ?_
  refine WX.next ?_
  refine WC.ret ?_
  injection hf with hf
  subst hf
  exact WX.ret_ [] (.int .i64 (-1)) [] (fun fb => by kernel_rfl) trivial ⟨_, rfl, rfl, hS3331.keep⟩
theorem slices_ContainsFunc_int_int_with_tile_of_1_calls (k : Nat) (p0 : List Int) (p1_0 : List Tile) (A_p0 : Option Addr) (c_p0 : Nat) (g_p1_0 : Nat) (A_p1_0 : Option Addr) (c_p1_0 : Nat) (r : Bool) (w : World) (hR0 : RO NoS w (rowR encInt A_p0 c_p0 p0)) (hR1 : RO NoS w (blk g_p1_0 (.cells #[(.slice A_p1_0 p1_0.length c_p1_0)] 50 (0, 0)))) (hR2 : RO NoS w (rowR enc_Tile A_p1_0 c_p1_0 p1_0)) (hf : slices_ContainsFunc_int_int_with_tile_of_1 k p0 p1_0 = some r) :
    CallsR Try.prog 49 #[(.slice A_p0 p0.length c_p0), (.func (.func 67) #[] #[(.pointer (some ⟨g_p1_0, 0, none⟩))])] w (fun v w' => v = (.bool r) ∧ Keeps NoS w w') := by
  have hS : St NoS w w [rowR encInt A_p0 c_p0 p0, blk g_p1_0 (.cells #[(.slice A_p1_0 p1_0.length c_p1_0)] 50 (0, 0)), rowR enc_Tile A_p1_0 c_p1_0 p1_0] [] := St.init (ro_cons hR0 (ro_cons hR1 (ro_cons hR2 (ro_nil _ _))))
  refine enter 9 Try.func49 rfl Try.ntmps49 rfl ?_
  unfold slices_ContainsFunc_int_int_with_tile_of_1 at hf
  refine WC.seq ?_
  refine WC.region ?_
  refine seg 1 [] [0, 1] [(0, (.slice A_p0 p0.length c_p0)), (1, (.func (.func 67) #[] #[(.pointer (some ⟨g_p1_0, 0, none⟩))]))] [] (fun fb => by kernel_rfl) rfl trivial ?_
  refine WL.done rfl ?_
  refine WX.next ?_
  refine WC.seq ?_
  refine WC.region ?_
  refine seg 2 [] [5, 6] [(5, (.slice A_p0 p0.length c_p0)), (6, (.func (.func 67) #[] #[(.pointer (some ⟨g_p1_0, 0, none⟩))]))] [] (fun fb => by kernel_rfl) rfl trivial ?_
  obtain ⟨t3335, ht3336, hf⟩ := bind_some hf
  refine WL.call (some 7) 65 #[(.slice A_p0 p0.length c_p0), (.func (.func 67) #[] #[(.pointer (some ⟨g_p1_0, 0, none⟩))])] (fun fb => by kernel_rfl) (slices_IndexFunc_int_int_with_tile_of_1_calls _ p0 p1_0 A_p0 c_p0 g_p1_0 A_p1_0 c_p1_0 t3335 _ (hS.rd 0) (hS.rd 1) (hS.rd 2) ht3336) (fun v w3337 hR3338 => ?_)
  obtain ⟨rfl, hk_⟩ := hR3338
  have hS3339 := hS.keepN hk_
  refine ⟨trivial, ?_⟩
  refine seg 5 [] [4] [(4, (.bool (decide (t3335 ≥ 0))))] [] (fun fb => by kernel_rfl) rfl trivial ?_
  refine WL.done rfl ?_
  refine WX.next ?_
  refine WC.ret ?_
  injection hf with hf
  subst hf
  exact WX.ret_ [] (.bool (decide (t3335 ≥ 0))) [] (fun fb => by kernel_rfl) trivial ⟨_, rfl, rfl, hS3339.keep⟩
theorem tile_of_calls (k : Nat) (p0 : List Tile) (p1 : Pattern) (A_p0 : Option Addr) (c_p0 : Nat) (A_p1_Cells : Option Addr) (c_p1_Cells : Nat) (r : Bool) (w : World) (hR0 : RO NoS w (rowR enc_Tile A_p0 c_p0 p0)) (hR1 : RO NoS w (rowR encInt A_p1_Cells c_p1_Cells p1.Cells)) (hf : tile_of k p0 p1 = some r) :
    CallsR Try.prog 56 #[(.slice A_p0 p0.length c_p0), (.agg #[(.int .i64 p1.Width), (.int .i64 p1.Height), (.slice A_p1_Cells p1.Cells.length c_p1_Cells)])] w (fun v w' => v = (.bool r) ∧ Keeps NoS w w') := by
  have hS : St NoS w w [rowR enc_Tile A_p0 c_p0 p0, rowR encInt A_p1_Cells c_p1_Cells p1.Cells] [] := St.init (ro_cons hR0 (ro_cons hR1 (ro_nil _ _)))
  refine enter 18 Try.func56 rfl Try.ntmps56 rfl ?_
  unfold tile_of at hf
  refine WC.seq ?_
  refine WC.region ?_
  refine WL.new hS 2 [] (fun g => (.pointer (some ⟨g, 0, none⟩))) (.cells #[(.slice A_p0 p0.length c_p0)] 50 (0, 0)) [] (fun fb g => by kernel_rfl) trivial (fun g3076 w3077 hS3078 => ?_)
  refine ⟨trivial, ?_⟩
  refine WL.new hS3078 3 [] (fun g => (.pointer (some ⟨g, 0, none⟩))) (.cells #[(.int .i64 p1.Width), (.int .i64 p1.Height), (.slice A_p1_Cells p1.Cells.length c_p1_Cells)] 31 (0, 0)) [] (fun fb g => by kernel_rfl) trivial (fun g3080 w3081 hS3082 => ?_)
  refine ⟨trivial, ?_⟩
  refine seg 3 [] [2, 3] [(2, (.pointer (some ⟨g3076, 0, none⟩))), (3, (.pointer (some ⟨g3080, 0, none⟩)))] [] (fun fb => by kernel_rfl) rfl trivial ?_
  refine WL.done rfl ?_
  refine WX.next ?_
  refine WC.seq ?_
  refine WC.region ?_
  refine seg 1 [.v (.slice A_p0 p0.length c_p0)] [2, 3, 5] [(2, (.pointer (some ⟨g3076, 0, none⟩))), (3, (.pointer (some ⟨g3080, 0, none⟩))), (5, (.slice A_p0 p0.length c_p0))] [.cell ⟨g3076, 0, none⟩ (.slice A_p0 p0.length c_p0)] (fun fb => by kernel_rfl) rfl ⟨hS3082.cell 1 rfl 0 rfl, trivial⟩ ?_
  obtain ⟨t3272, ht3273, hf⟩ := bind_some hf
  refine WL.call (some 6) 66 #[(.slice A_p0 p0.length c_p0)] (fun fb => by kernel_rfl) (tile_Valid_calls _ p0 A_p0 c_p0 t3272 _ (hS3082.rd 0) ht3273) (fun v w3274 hR3275 => ?_)
  obtain ⟨rfl, hk_⟩ := hR3275
  have hS3276 := hS3082.keepN hk_
  refine ⟨trivial, ?_⟩
  refine seg 3 [] [2, 3, 7] [(2, (.pointer (some ⟨g3076, 0, none⟩))), (3, (.pointer (some ⟨g3080, 0, none⟩))), (7, (.bool t3272))] [] (fun fb => by kernel_rfl) rfl trivial ?_
  obtain ⟨x3283, hx3284, hf⟩ := bind_some hf
  refine WL.cutW (T := Bool) 6 (fun t => [(2, (.pointer (some ⟨g3076, 0, none⟩))), (3, (.pointer (some ⟨g3080, 0, none⟩))), (10, (.bool t))]) (fun t w1 => (St NoS w w1 [rowR enc_Tile A_p0 c_p0 p0, rowR encInt A_p1_Cells c_p1_Cells p1.Cells] [blk g3076 (.cells #[(.slice A_p0 p0.length c_p0)] 50 (0, 0)), blk g3080 (.cells #[(.int .i64 p1.Width), (.int .i64 p1.Height), (.slice A_p1_Cells p1.Cells.length c_p1_Cells)] 31 (0, 0))] ∧ x3283 = t) ∧ CellsOK [] w1) (fun K => ?_) ?_
  ·
    rcases br_some hx3284 with ⟨h3285, hx3284⟩ | ⟨h3285, hx3284⟩
    ·
      refine WL.setB 7 h3285 rfl ?_
      refine seg 4 [.v (.int .i64 p1.Width), .v (.int .i64 p1.Height), .v (.slice A_p1_Cells p1.Cells.length c_p1_Cells)] [2, 3, 7, 8] [(2, (.pointer (some ⟨g3076, 0, none⟩))), (3, (.pointer (some ⟨g3080, 0, none⟩))), (7, (.bool true)), (8, (.agg #[(.int .i64 p1.Width), (.int .i64 p1.Height), (.slice A_p1_Cells p1.Cells.length c_p1_Cells)]))] [.cell ⟨g3080, 0, none⟩ (.int .i64 p1.Width), .cell ⟨g3080, 1, none⟩ (.int .i64 p1.Height), .cell ⟨g3080, 2, none⟩ (.slice A_p1_Cells p1.Cells.length c_p1_Cells)] (fun fb => by kernel_rfl) rfl ⟨hS3276.cell 0 rfl 0 rfl, hS3276.cell 0 rfl 1 rfl, hS3276.cell 0 rfl 2 rfl, trivial⟩ ?_
      obtain ⟨t3286, ht3287, hx3284⟩ := bind_some hx3284
      refine WL.call (some 9) 52 #[(.agg #[(.int .i64 p1.Width), (.int .i64 p1.Height), (.slice A_p1_Cells p1.Cells.length c_p1_Cells)])] (fun fb => by kernel_rfl) (tile_Form_calls p1 A_p1_Cells c_p1_Cells t3286 _ (hS3276.rd 1) ht3287) (fun v w3288 hR3289 => ?_)
      obtain ⟨rfl, hk_⟩ := hR3289
      have hS3290 := hS3276.keepN hk_
      refine ⟨trivial, ?_⟩
      refine seg 6 [] [2, 3, 10] [(2, (.pointer (some ⟨g3076, 0, none⟩))), (3, (.pointer (some ⟨g3080, 0, none⟩))), (10, (.bool t3286))] [] (fun fb => by kernel_rfl) rfl trivial ?_
      injection hx3284 with hx3284
      exact WL.to K t3286 [2, 3, 10] rfl ⟨⟨(hS3290.subR [0, 1]).sub [1, 0] (by decide), hx3284.symm⟩, trivial⟩
    refine WL.setB 7 h3285 rfl ?_
    refine seg 6 [] [2, 3, 10] [(2, (.pointer (some ⟨g3076, 0, none⟩))), (3, (.pointer (some ⟨g3080, 0, none⟩))), (10, (.bool false))] [] (fun fb => by kernel_rfl) rfl trivial ?_
    injection hx3284 with hx3284
    exact WL.to K false [2, 3, 10] rfl ⟨⟨(hS3276.subR [0, 1]).sub [1, 0] (by decide), hx3284.symm⟩, trivial⟩
  rintro y3291 w3293 ⟨⟨hS3294, hq3292⟩, hF3295⟩
  subst hq3292
  refine seg 7 [] [2, 3, 11] [(2, (.pointer (some ⟨g3076, 0, none⟩))), (3, (.pointer (some ⟨g3080, 0, none⟩))), (11, (.bool x3283))] [] (fun fb => by kernel_rfl) rfl trivial ?_
  obtain ⟨x3346, hx3347, hf⟩ := bind_some hf
  refine WL.cutW (T := Bool) 13 (fun t => [(17, (.bool t))]) (fun t w1 => (St NoS w w1 [rowR enc_Tile A_p0 c_p0 p0, rowR encInt A_p1_Cells c_p1_Cells p1.Cells] [] ∧ x3346 = t) ∧ CellsOK [] w1) (fun K => ?_) ?_
  ·
    rcases br_some hx3347 with ⟨h3348, hx3347⟩ | ⟨h3348, hx3347⟩
    ·
      refine WL.setB 11 h3348 rfl ?_
      refine seg 10 [.v (.slice A_p1_Cells p1.Cells.length c_p1_Cells)] [11, 13, 14] [(11, (.bool true)), (13, (.slice A_p1_Cells p1.Cells.length c_p1_Cells)), (14, (.func (.func 67) #[] #[(.pointer (some ⟨g3076, 0, none⟩))]))] [.cell ⟨g3080, 2, none⟩ (.slice A_p1_Cells p1.Cells.length c_p1_Cells)] (fun fb => by kernel_rfl) rfl ⟨hS3294.cell 1 rfl 2 rfl, trivial⟩ ?_
      obtain ⟨t3349, ht3350, hx3347⟩ := bind_some hx3347
      refine WL.call (some 15) 49 #[(.slice A_p1_Cells p1.Cells.length c_p1_Cells), (.func (.func 67) #[] #[(.pointer (some ⟨g3076, 0, none⟩))])] (fun fb => by kernel_rfl) (slices_ContainsFunc_int_int_with_tile_of_1_calls _ p1.Cells p0 A_p1_Cells c_p1_Cells g3076 A_p0 c_p0 t3349 _ (hS3294.rd 1) (hS3294.ow 0) (hS3294.rd 0) ht3350) (fun v w3351 hR3352 => ?_)
      obtain ⟨rfl, hk_⟩ := hR3352
      have hS3353 := hS3294.keepN hk_
      refine ⟨trivial, ?_⟩
      refine seg 13 [] [17] [(17, (.bool (!t3349)))] [] (fun fb => by kernel_rfl) rfl trivial ?_
      injection hx3347 with hx3347
      exact WL.to K (!t3349) [17] rfl ⟨⟨(hS3353.subR [0, 1]).sub [] (by decide), hx3347.symm⟩, trivial⟩
    refine WL.setB 11 h3348 rfl ?_
    refine seg 13 [] [17] [(17, (.bool false))] [] (fun fb => by kernel_rfl) rfl trivial ?_
    injection hx3347 with hx3347
    exact WL.to K false [17] rfl ⟨⟨(hS3294.subR [0, 1]).sub [] (by decide), hx3347.symm⟩, trivial⟩
  rintro y3354 w3356 ⟨⟨hS3357, hq3355⟩, hF3358⟩
  subst hq3355
  refine seg 14 [] [4] [(4, (.bool x3346))] [] (fun fb => by kernel_rfl) rfl trivial ?_
  refine WL.done rfl ?_
  refine WX.next ?_
  refine WC.ret ?_
  injection hf with hf
  subst hf
  exact WX.ret_ [] (.bool x3346) [] (fun fb => by kernel_rfl) trivial ⟨_, rfl, rfl, hS3357.keep⟩
theorem tile_joins_calls (k : Nat) (p0 : List Tile) (p1 : Pattern) (p2 : Bool) (A_p0 : Option Addr) (c_p0 : Nat) (A_p1_Cells : Option Addr) (c_p1_Cells : Nat) (r : Bool) (w : World) (hR0 : RO NoS w (rowR enc_Tile A_p0 c_p0 p0)) (hR1 : RO NoS w (rowR encInt A_p1_Cells c_p1_Cells p1.Cells)) (hf : tile_joins k p0 p1 p2 = some r) :
    CallsR Try.prog 57 #[(.slice A_p0 p0.length c_p0), (.agg #[(.int .i64 p1.Width), (.int .i64 p1.Height), (.slice A_p1_Cells p1.Cells.length c_p1_Cells)]), (.bool p2)] w (fun v w' => v = (.bool r) ∧ Keeps NoS w w') := by
  have hS : St NoS w w [rowR enc_Tile A_p0 c_p0 p0, rowR encInt A_p1_Cells c_p1_Cells p1.Cells] [] := St.init (ro_cons hR0 (ro_cons hR1 (ro_nil _ _)))
  refine enter 92 Try.func57 rfl Try.ntmps57 rfl ?_
  unfold tile_joins at hf
  refine WC.seq ?_
  refine WC.region ?_
  refine WL.new hS 4 [] (fun g => (.pointer (some ⟨g, 0, none⟩))) (.cells #[(.int .i64 p1.Width), (.int .i64 p1.Height), (.slice A_p1_Cells p1.Cells.length c_p1_Cells)] 31 (0, 0)) [] (fun fb g => by kernel_rfl) trivial (fun g3364 w3365 hS3366 => ?_)
  refine ⟨trivial, ?_⟩
  refine seg 2 [] [0, 2, 4] [(0, (.slice A_p0 p0.length c_p0)), (2, (.bool p2)), (4, (.pointer (some ⟨g3364, 0, none⟩)))] [] (fun fb => by kernel_rfl) rfl trivial ?_
  refine WL.done rfl ?_
  refine WX.next ?_
  refine WC.seq ?_
  refine WC.seq ?_
  refine WC.region ?_
  refine seg 4 [.v (.slice A_p1_Cells p1.Cells.length c_p1_Cells)] [0, 2, 4, 12, 13, 14] [(0, (.slice A_p0 p0.length c_p0)), (2, (.bool p2)), (4, (.pointer (some ⟨g3364, 0, none⟩))), (12, (.slice A_p1_Cells p1.Cells.length c_p1_Cells)), (13, (.int .i64 (p1.Cells.length : Int))), (14, (.int .i64 0))] [.cell ⟨g3364, 2, none⟩ (.slice A_p1_Cells p1.Cells.length c_p1_Cells)] (fun fb => by kernel_rfl) rfl ⟨hS3366.cell 0 rfl 2 rfl, trivial⟩ ?_
  refine WL.done rfl ?_
  refine WX.next ?_
  obtain ⟨x3536, hx3537, hf⟩ := bind_some hf
  refine WC.cutN (T := Unit) (fun t => []) (fun t w1 => St NoS w w1 [rowR enc_Tile A_p0 c_p0 p0, rowR encInt A_p1_Cells c_p1_Cells p1.Cells] [] ∧ x3536 = .inr t) (fun Kx3536 => ?_) ?_
  ·
    refine WC.block ?_
    refine WC.loop (T := Int) (fun t => [(0, (.slice A_p0 p0.length c_p0)), (2, (.bool p2)), (4, (.pointer (some ⟨g3364, 0, none⟩))), (12, (.slice A_p1_Cells p1.Cells.length c_p1_Cells)), (13, (.int .i64 (p1.Cells.length : Int))), (14, (.int .i64 t))]) (fun n t w1 => St NoS w w1 [rowR enc_Tile A_p0 c_p0 p0, rowR encInt A_p1_Cells c_p1_Cells p1.Cells] [blk g3364 (.cells #[(.int .i64 p1.Width), (.int .i64 p1.Height), (.slice A_p1_Cells p1.Cells.length c_p1_Cells)] 31 (0, 0))] ∧ tile_joins.l0 n t p0 p1 p2 = some x3536) k 0 [0, 2, 4, 12, 13, 14] rfl ⟨(hS3366.subR [0, 1]).sub [0] (by decide), hx3537⟩ ?_
    rintro k3538 x3535 w3539 ⟨hS3540, hl3541⟩
    cases k3538 with
    | zero => rw [tile_joins.l0] at hl3541; cases hl3541
    | succ k3538 =>
      rw [tile_joins.l0] at hl3541
      refine WC.seq ?_
      refine WC.region ?_
      refine seg 1 [] [0, 2, 4, 12, 13, 14, 15] [(0, (.slice A_p0 p0.length c_p0)), (2, (.bool p2)), (4, (.pointer (some ⟨g3364, 0, none⟩))), (12, (.slice A_p1_Cells p1.Cells.length c_p1_Cells)), (13, (.int .i64 (p1.Cells.length : Int))), (14, (.int .i64 x3535)), (15, (.bool (decide (x3535 < (p1.Cells.length : Int)))))] [] (fun fb => by kernel_rfl) rfl trivial ?_
      refine WL.done rfl ?_
      refine WX.next ?_
      refine WC.seq ?_
      rcases br_some hl3541 with ⟨h3542, hl3541⟩ | ⟨h3542, hl3541⟩
      · refine WC.condT2 (fun fb => by kernel_rfl) h3542 ?_
        refine WC.skip ?_
        refine WX.next ?_
        refine WC.seq ?_
        refine WC.block ?_
        refine WC.seq ?_
        refine WC.region ?_
        refine seg 1 [] [0, 2, 4, 12, 13, 14, 16] [(0, (.slice A_p0 p0.length c_p0)), (2, (.bool p2)), (4, (.pointer (some ⟨g3364, 0, none⟩))), (12, (.slice A_p1_Cells p1.Cells.length c_p1_Cells)), (13, (.int .i64 (p1.Cells.length : Int))), (14, (.int .i64 x3535)), (16, (.int .i64 x3535))] [] (fun fb => by kernel_rfl) rfl trivial ?_
        obtain ⟨h3543, hl3541⟩ := as_some hl3541
        refine seg 5 [.v (.int .i64 (rdD p1.Cells x3535 0))] [0, 2, 4, 7, 8, 12, 13, 14] [(0, (.slice A_p0 p0.length c_p0)), (2, (.bool p2)), (4, (.pointer (some ⟨g3364, 0, none⟩))), (7, (.int .i64 x3535)), (8, (.int .i64 (rdD p1.Cells x3535 0))), (12, (.slice A_p1_Cells p1.Cells.length c_p1_Cells)), (13, (.int .i64 (p1.Cells.length : Int))), (14, (.int .i64 x3535))] [.idx A_p1_Cells x3535 p1.Cells.length, .cell ((adr A_p1_Cells).add ((x3535).toNat * 1)) (.int .i64 (rdD p1.Cells x3535 0))] (fun fb => by kernel_rfl) rfl ⟨rowR.adr (hS3540.rd 1).1 h3543.1 h3543.2, rowR.cell (hS3540.rd 1).1 0 h3543.1 h3543.2 0 rfl, trivial⟩ ?_
        refine WL.done rfl ?_
        refine WX.next ?_
        refine WC.seq ?_
        obtain ⟨h3548, hl3541⟩ := as_some hl3541
        refine WC.regionD ([(2, ⟨g3364, 0, none⟩, (.int .i64 p1.Width)), (6, ⟨g3364, 0, none⟩, (.int .i64 p1.Width))], [0, 1, 2, 3, 4, 5, 6, 7, 8, 9], [[], [], [1], [0, 1, 2], [], [], [5], [4, 5, 6], [0, 1, 2, 3], [0, 1, 2, 3, 4, 5, 6, 7, 8]]) [[0, 1, 2, 3, 4, 5, 6, 7, 8, 9]] (by kernel_rfl) (by kernel_rfl) (NoPanic.seq (NoPanic.block (NoPanic.seq (NoPanic.seq (NoPanic.block (NoPanic.seq (NoPanic.body))))))) ?_
        have hS3546 := hS3540.drew
        revert hS3546
        generalize World.drew w3539 = w3545
        intro hS3546
        refine ⟨⟨hS3546.cell 0 rfl 0 rfl, hS3546.cell 0 rfl 0 rfl, trivial⟩, forallC ?_ (forallN)⟩
        refine segF 10 [.v (.int .i64 p1.Width), .v (.int .i64 p1.Width)] [0, 2, 4, 8, 9, 10, 12, 13, 14] [(0, (.slice A_p0 p0.length c_p0)), (2, (.bool p2)), (4, (.pointer (some ⟨g3364, 0, none⟩))), (8, (.int .i64 (rdD p1.Cells x3535 0))), (9, (.int .i64 (Int.tmod x3535 p1.Width))), (10, (.int .i64 (w64 (Int.tdiv x3535 p1.Width)))), (12, (.slice A_p1_Cells p1.Cells.length c_p1_Cells)), (13, (.int .i64 (p1.Cells.length : Int))), (14, (.int .i64 x3535))] [.ne p1.Width, .ne p1.Width] [0, 1] [(2, ⟨g3364, 0, none⟩, (.int .i64 p1.Width)), (6, ⟨g3364, 0, none⟩, (.int .i64 p1.Width))] (fun fb => by kernel_rfl) rfl ⟨h3548, h3548, trivial⟩ rfl ?_
        refine WL.done rfl ?_
        refine WX.next ?_
        refine WC.seq ?_
        refine WC.seq ?_
        refine WC.region ?_
        refine seg 6 [.v (.int .i64 p1.Width)] [0, 2, 4, 8, 9, 10, 12, 13, 14, 32] [(0, (.slice A_p0 p0.length c_p0)), (2, (.bool p2)), (4, (.pointer (some ⟨g3364, 0, none⟩))), (8, (.int .i64 (rdD p1.Cells x3535 0))), (9, (.int .i64 (Int.tmod x3535 p1.Width))), (10, (.int .i64 (w64 (Int.tdiv x3535 p1.Width)))), (12, (.slice A_p1_Cells p1.Cells.length c_p1_Cells)), (13, (.int .i64 (p1.Cells.length : Int))), (14, (.int .i64 x3535)), (32, (.bool (decide (w64 ((Int.tmod x3535 p1.Width) + 1) < p1.Width))))] [.cell ⟨g3364, 0, none⟩ (.int .i64 p1.Width)] (fun fb => by kernel_rfl) rfl ⟨hS3546.cell 0 rfl 0 rfl, trivial⟩ ?_
        refine WL.cutV (T := Bool) 8 (fun t => [(34, (.bool t)), (0, (.slice A_p0 p0.length c_p0)), (2, (.bool p2)), (4, (.pointer (some ⟨g3364, 0, none⟩))), (8, (.int .i64 (rdD p1.Cells x3535 0))), (9, (.int .i64 (Int.tmod x3535 p1.Width))), (10, (.int .i64 (w64 (Int.tdiv x3535 p1.Width)))), (12, (.slice A_p1_Cells p1.Cells.length c_p1_Cells)), (13, (.int .i64 (p1.Cells.length : Int))), (14, (.int .i64 x3535))]) (fun t => t = ((decide (w64 ((Int.tmod x3535 p1.Width) + 1) < p1.Width)) || p2)) (fun K => ?_) ?_
        ·
          rcases Bool.eq_false_or_eq_true (decide (w64 ((Int.tmod x3535 p1.Width) + 1) < p1.Width)) with h3549 | h3549
          ·
            refine WL.setB 32 h3549 rfl ?_
            refine seg 8 [] [0, 2, 4, 8, 9, 10, 12, 13, 14, 34] [(0, (.slice A_p0 p0.length c_p0)), (2, (.bool p2)), (4, (.pointer (some ⟨g3364, 0, none⟩))), (8, (.int .i64 (rdD p1.Cells x3535 0))), (9, (.int .i64 (Int.tmod x3535 p1.Width))), (10, (.int .i64 (w64 (Int.tdiv x3535 p1.Width)))), (12, (.slice A_p1_Cells p1.Cells.length c_p1_Cells)), (13, (.int .i64 (p1.Cells.length : Int))), (14, (.int .i64 x3535)), (34, (.bool true))] [] (fun fb => by kernel_rfl) rfl trivial ?_
            exact WL.toV K true [34, 0, 2, 4, 8, 9, 10, 12, 13, 14] rfl (by rw [h3549]; rfl)
          refine WL.setB 32 h3549 rfl ?_
          refine seg 8 [] [0, 2, 4, 8, 9, 10, 12, 13, 14, 34] [(0, (.slice A_p0 p0.length c_p0)), (2, (.bool p2)), (4, (.pointer (some ⟨g3364, 0, none⟩))), (8, (.int .i64 (rdD p1.Cells x3535 0))), (9, (.int .i64 (Int.tmod x3535 p1.Width))), (10, (.int .i64 (w64 (Int.tdiv x3535 p1.Width)))), (12, (.slice A_p1_Cells p1.Cells.length c_p1_Cells)), (13, (.int .i64 (p1.Cells.length : Int))), (14, (.int .i64 x3535)), (34, (.bool p2))] [] (fun fb => by kernel_rfl) rfl trivial ?_
          exact WL.toV K p2 [34, 0, 2, 4, 8, 9, 10, 12, 13, 14] rfl (by rw [h3549]; rfl)
        rintro b3550 rfl
        refine WL.done rfl ?_
        refine WX.next ?_
        obtain ⟨x3564, hx3565, hl3541⟩ := bind_some hl3541
        refine WC.cutN (T := Unit) (fun t => [(0, (.slice A_p0 p0.length c_p0)), (2, (.bool p2)), (4, (.pointer (some ⟨g3364, 0, none⟩))), (8, (.int .i64 (rdD p1.Cells x3535 0))), (9, (.int .i64 (Int.tmod x3535 p1.Width))), (10, (.int .i64 (w64 (Int.tdiv x3535 p1.Width)))), (12, (.slice A_p1_Cells p1.Cells.length c_p1_Cells)), (13, (.int .i64 (p1.Cells.length : Int))), (14, (.int .i64 x3535))]) (fun t w1 => St NoS w w1 [rowR enc_Tile A_p0 c_p0 p0, rowR encInt A_p1_Cells c_p1_Cells p1.Cells] [blk g3364 (.cells #[(.int .i64 p1.Width), (.int .i64 p1.Height), (.slice A_p1_Cells p1.Cells.length c_p1_Cells)] 31 (0, 0))] ∧ x3564 = .inr t) (fun Kx3564 => ?_) ?_
        ·
          rcases br_some hx3565 with ⟨h3566, hx3565⟩ | ⟨h3566, hx3565⟩
          · refine WC.condT2 (fun fb => by kernel_rfl) h3566 ?_
            refine WC.seq ?_
            obtain ⟨h3575, hx3565⟩ := as_some hx3565
            obtain ⟨h3576, hx3565⟩ := as_some hx3565
            obtain ⟨h3577, hx3565⟩ := as_some hx3565
            refine WC.regionD ([(4, (((adr A_p0).add (((rdD p1.Cells x3535 0)).toNat * 4)).add 1), (.int .i64 ((rdD p0 (rdD p1.Cells x3535 0) z_Tile).E))), (7, ⟨g3364, 2, none⟩, (.slice A_p1_Cells p1.Cells.length c_p1_Cells)), (10, ⟨g3364, 0, none⟩, (.int .i64 p1.Width)), (15, ⟨g3364, 0, none⟩, (.int .i64 p1.Width)), (19, ((adr A_p1_Cells).add ((w64 ((w64 ((w64 (Int.tdiv x3535 p1.Width)) * p1.Width)) + (Int.tmod (w64 ((Int.tmod x3535 p1.Width) + 1)) p1.Width))).toNat * 1)), (.int .i64 (rdD p1.Cells (w64 ((w64 ((w64 (Int.tdiv x3535 p1.Width)) * p1.Width)) + (Int.tmod (w64 ((Int.tmod x3535 p1.Width) + 1)) p1.Width))) 0))), (22, (((adr A_p0).add (((rdD p1.Cells (w64 ((w64 ((w64 (Int.tdiv x3535 p1.Width)) * p1.Width)) + (Int.tmod (w64 ((Int.tmod x3535 p1.Width) + 1)) p1.Width))) 0)).toNat * 4)).add 3), (.int .i64 ((rdD p0 (rdD p1.Cells (w64 ((w64 ((w64 (Int.tdiv x3535 p1.Width)) * p1.Width)) + (Int.tmod (w64 ((Int.tmod x3535 p1.Width) + 1)) p1.Width))) 0) z_Tile).W)))], [0, 1, 2, 3, 4, 5, 6, 7, 8, 9, 10, 11, 12, 13, 14, 15, 16, 17, 18, 19, 20, 21, 22, 23], [[], [], [0, 1], [0, 1, 2], [0, 1, 2, 3], [], [], [6], [], [], [9], [8, 9, 10], [], [12], [], [14], [12, 13, 14, 15], [8, 9, 10, 11, 12, 13, 14, 15, 16], [6, 7, 8, 9, 10, 11, 12, 13, 14, 15, 16, 17], [6, 7, 8, 9, 10, 11, 12, 13, 14, 15, 16, 17, 18], [5, 6, 7, 8, 9, 10, 11, 12, 13, 14, 15, 16, 17, 18, 19], [5, 6, 7, 8, 9, 10, 11, 12, 13, 14, 15, 16, 17, 18, 19, 20], [5, 6, 7, 8, 9, 10, 11, 12, 13, 14, 15, 16, 17, 18, 19, 20, 21], [0, 1, 2, 3, 4, 5, 6, 7, 8, 9, 10, 11, 12, 13, 14, 15, 16, 17, 18, 19, 20, 21, 22]]) [[0, 1, 2, 3, 4, 5, 6, 7, 8, 9, 10, 11, 12, 13, 14, 15, 16, 17, 18, 19, 20, 21, 22, 23]] (by kernel_rfl) (by kernel_rfl) (NoPanic.seq (NoPanic.seq (NoPanic.block (NoPanic.seq (NoPanic.seq (NoPanic.block (NoPanic.seq (NoPanic.body)))))))) ?_
            have hS3571 := hS3546.drew
            revert hS3571
            generalize World.drew w3545 = w3570
            intro hS3571
            refine ⟨⟨rowR.cell (hS3571.rd 0).1 z_Tile h3575.1 h3575.2 1 rfl, hS3571.cell 0 rfl 2 rfl, hS3571.cell 0 rfl 0 rfl, hS3571.cell 0 rfl 0 rfl, rowR.cell (hS3571.rd 1).1 0 h3576.1 h3576.2 0 rfl, rowR.cell (hS3571.rd 0).1 z_Tile h3577.1 h3577.2 3 rfl, trivial⟩, forallC ?_ (forallN)⟩
            refine segF 24 [.v (.int .i64 ((rdD p0 (rdD p1.Cells x3535 0) z_Tile).E)), .v (.slice A_p1_Cells p1.Cells.length c_p1_Cells), .v (.int .i64 p1.Width), .v (.int .i64 p1.Width), .v (.int .i64 (rdD p1.Cells (w64 ((w64 ((w64 (Int.tdiv x3535 p1.Width)) * p1.Width)) + (Int.tmod (w64 ((Int.tmod x3535 p1.Width) + 1)) p1.Width))) 0)), .v (.int .i64 ((rdD p0 (rdD p1.Cells (w64 ((w64 ((w64 (Int.tdiv x3535 p1.Width)) * p1.Width)) + (Int.tmod (w64 ((Int.tmod x3535 p1.Width) + 1)) p1.Width))) 0) z_Tile).W))] [0, 2, 4, 8, 9, 10, 12, 13, 14, 58] [(0, (.slice A_p0 p0.length c_p0)), (2, (.bool p2)), (4, (.pointer (some ⟨g3364, 0, none⟩))), (8, (.int .i64 (rdD p1.Cells x3535 0))), (9, (.int .i64 (Int.tmod x3535 p1.Width))), (10, (.int .i64 (w64 (Int.tdiv x3535 p1.Width)))), (12, (.slice A_p1_Cells p1.Cells.length c_p1_Cells)), (13, (.int .i64 (p1.Cells.length : Int))), (14, (.int .i64 x3535)), (58, (.bool (((rdD p0 (rdD p1.Cells x3535 0) z_Tile).E) != ((rdD p0 (rdD p1.Cells (w64 ((w64 ((w64 (Int.tdiv x3535 p1.Width)) * p1.Width)) + (Int.tmod (w64 ((Int.tmod x3535 p1.Width) + 1)) p1.Width))) 0) z_Tile).W))))] [.idx A_p0 (rdD p1.Cells x3535 0) p0.length, .ne p1.Width, .idx A_p1_Cells (w64 ((w64 ((w64 (Int.tdiv x3535 p1.Width)) * p1.Width)) + (Int.tmod (w64 ((Int.tmod x3535 p1.Width) + 1)) p1.Width))) p1.Cells.length, .idx A_p0 (rdD p1.Cells (w64 ((w64 ((w64 (Int.tdiv x3535 p1.Width)) * p1.Width)) + (Int.tmod (w64 ((Int.tmod x3535 p1.Width) + 1)) p1.Width))) 0) p0.length] [0, 1, 2, 3, 4, 5] [(4, (((adr A_p0).add (((rdD p1.Cells x3535 0)).toNat * 4)).add 1), (.int .i64 ((rdD p0 (rdD p1.Cells x3535 0) z_Tile).E))), (7, ⟨g3364, 2, none⟩, (.slice A_p1_Cells p1.Cells.length c_p1_Cells)), (10, ⟨g3364, 0, none⟩, (.int .i64 p1.Width)), (15, ⟨g3364, 0, none⟩, (.int .i64 p1.Width)), (19, ((adr A_p1_Cells).add ((w64 ((w64 ((w64 (Int.tdiv x3535 p1.Width)) * p1.Width)) + (Int.tmod (w64 ((Int.tmod x3535 p1.Width) + 1)) p1.Width))).toNat * 1)), (.int .i64 (rdD p1.Cells (w64 ((w64 ((w64 (Int.tdiv x3535 p1.Width)) * p1.Width)) + (Int.tmod (w64 ((Int.tmod x3535 p1.Width) + 1)) p1.Width))) 0))), (22, (((adr A_p0).add (((rdD p1.Cells (w64 ((w64 ((w64 (Int.tdiv x3535 p1.Width)) * p1.Width)) + (Int.tmod (w64 ((Int.tmod x3535 p1.Width) + 1)) p1.Width))) 0)).toNat * 4)).add 3), (.int .i64 ((rdD p0 (rdD p1.Cells (w64 ((w64 ((w64 (Int.tdiv x3535 p1.Width)) * p1.Width)) + (Int.tmod (w64 ((Int.tmod x3535 p1.Width) + 1)) p1.Width))) 0) z_Tile).W)))] (fun fb => by kernel_rfl) rfl ⟨rowR.adr (hS3571.rd 0).1 h3575.1 h3575.2, h3548, rowR.adr (hS3571.rd 1).1 h3576.1 h3576.2, rowR.adr (hS3571.rd 0).1 h3577.1 h3577.2, trivial⟩ rfl ?_
            refine WL.done rfl ?_
            refine WX.next ?_
            rcases br_some hx3565 with ⟨h3578, hx3565⟩ | ⟨h3578, hx3565⟩
            · refine WC.condT2 (fun fb => by kernel_rfl) h3578 ?_
              refine WC.seq ?_
              refine WC.region ?_
              refine seg 1 [] [6] [(6, (.bool false))] [] (fun fb => by kernel_rfl) rfl trivial ?_
              refine WL.done rfl ?_
              refine WX.next ?_
              refine WC.ret ?_
              injection hx3565 with hx3565
              subst hx3565
              injection hl3541 with hl3541
              subst hl3541
              injection hf with hf
              subst hf
              exact WX.thenR (WX.blockR (WX.thenR (WX.thenR (WX.blockR (WX.thenR (WX.ret_ [] (.bool false) [] (fun fb => by kernel_rfl) trivial ⟨_, rfl, rfl, hS3571.keep⟩))))))
            refine WC.condF2 (fun fb => by kernel_rfl) h3578 ?_
            refine WC.skip ?_
            injection hx3565 with hx3565
            exact WX.to Kx3564 () [0, 2, 4, 8, 9, 10, 12, 13, 14] rfl ⟨(hS3571.subR [0, 1]).sub [0] (by decide), hx3565.symm⟩
          refine WC.condF2 (fun fb => by kernel_rfl) h3566 ?_
          refine WC.skip ?_
          injection hx3565 with hx3565
          exact WX.to Kx3564 () [0, 2, 4, 8, 9, 10, 12, 13, 14] rfl ⟨(hS3546.subR [0, 1]).sub [0] (by decide), hx3565.symm⟩
        rintro y3582 w3579 ⟨hS3580, hq3581⟩
        subst hq3581
        have hl3541 := sum_inr hl3541
        refine WX.next ?_
        refine WC.seq ?_
        refine WC.region ?_
        refine seg 6 [.v (.int .i64 p1.Height)] [0, 2, 4, 8, 9, 10, 12, 13, 14, 64] [(0, (.slice A_p0 p0.length c_p0)), (2, (.bool p2)), (4, (.pointer (some ⟨g3364, 0, none⟩))), (8, (.int .i64 (rdD p1.Cells x3535 0))), (9, (.int .i64 (Int.tmod x3535 p1.Width))), (10, (.int .i64 (w64 (Int.tdiv x3535 p1.Width)))), (12, (.slice A_p1_Cells p1.Cells.length c_p1_Cells)), (13, (.int .i64 (p1.Cells.length : Int))), (14, (.int .i64 x3535)), (64, (.bool (decide (w64 ((w64 (Int.tdiv x3535 p1.Width)) + 1) < p1.Height))))] [.cell ⟨g3364, 1, none⟩ (.int .i64 p1.Height)] (fun fb => by kernel_rfl) rfl ⟨hS3580.cell 0 rfl 1 rfl, trivial⟩ ?_
        refine WL.cutV (T := Bool) 8 (fun t => [(66, (.bool t)), (0, (.slice A_p0 p0.length c_p0)), (2, (.bool p2)), (4, (.pointer (some ⟨g3364, 0, none⟩))), (8, (.int .i64 (rdD p1.Cells x3535 0))), (9, (.int .i64 (Int.tmod x3535 p1.Width))), (10, (.int .i64 (w64 (Int.tdiv x3535 p1.Width)))), (12, (.slice A_p1_Cells p1.Cells.length c_p1_Cells)), (13, (.int .i64 (p1.Cells.length : Int))), (14, (.int .i64 x3535))]) (fun t => t = ((decide (w64 ((w64 (Int.tdiv x3535 p1.Width)) + 1) < p1.Height)) || p2)) (fun K => ?_) ?_
        ·
          rcases Bool.eq_false_or_eq_true (decide (w64 ((w64 (Int.tdiv x3535 p1.Width)) + 1) < p1.Height)) with h3584 | h3584
          ·
            refine WL.setB 64 h3584 rfl ?_
            refine seg 8 [] [0, 2, 4, 8, 9, 10, 12, 13, 14, 66] [(0, (.slice A_p0 p0.length c_p0)), (2, (.bool p2)), (4, (.pointer (some ⟨g3364, 0, none⟩))), (8, (.int .i64 (rdD p1.Cells x3535 0))), (9, (.int .i64 (Int.tmod x3535 p1.Width))), (10, (.int .i64 (w64 (Int.tdiv x3535 p1.Width)))), (12, (.slice A_p1_Cells p1.Cells.length c_p1_Cells)), (13, (.int .i64 (p1.Cells.length : Int))), (14, (.int .i64 x3535)), (66, (.bool true))] [] (fun fb => by kernel_rfl) rfl trivial ?_
            exact WL.toV K true [66, 0, 2, 4, 8, 9, 10, 12, 13, 14] rfl (by rw [h3584]; rfl)
          refine WL.setB 64 h3584 rfl ?_
          refine seg 8 [] [0, 2, 4, 8, 9, 10, 12, 13, 14, 66] [(0, (.slice A_p0 p0.length c_p0)), (2, (.bool p2)), (4, (.pointer (some ⟨g3364, 0, none⟩))), (8, (.int .i64 (rdD p1.Cells x3535 0))), (9, (.int .i64 (Int.tmod x3535 p1.Width))), (10, (.int .i64 (w64 (Int.tdiv x3535 p1.Width)))), (12, (.slice A_p1_Cells p1.Cells.length c_p1_Cells)), (13, (.int .i64 (p1.Cells.length : Int))), (14, (.int .i64 x3535)), (66, (.bool p2))] [] (fun fb => by kernel_rfl) rfl trivial ?_
          exact WL.toV K p2 [66, 0, 2, 4, 8, 9, 10, 12, 13, 14] rfl (by rw [h3584]; rfl)
        rintro b3585 rfl
        refine WL.done rfl ?_
        refine WX.next ?_
        obtain ⟨x3602, hx3603, hl3541⟩ := bind_some hl3541
        refine WC.cutN (T := Unit) (fun t => [(0, (.slice A_p0 p0.length c_p0)), (2, (.bool p2)), (4, (.pointer (some ⟨g3364, 0, none⟩))), (12, (.slice A_p1_Cells p1.Cells.length c_p1_Cells)), (13, (.int .i64 (p1.Cells.length : Int))), (14, (.int .i64 x3535))]) (fun t w1 => St NoS w w1 [rowR enc_Tile A_p0 c_p0 p0, rowR encInt A_p1_Cells c_p1_Cells p1.Cells] [blk g3364 (.cells #[(.int .i64 p1.Width), (.int .i64 p1.Height), (.slice A_p1_Cells p1.Cells.length c_p1_Cells)] 31 (0, 0))] ∧ x3602 = .inr t) (fun Kx3602 => ?_) ?_
        ·
          rcases br_some hx3603 with ⟨h3604, hx3603⟩ | ⟨h3604, hx3603⟩
          · refine WC.condT2 (fun fb => by kernel_rfl) h3604 ?_
            refine WC.seq ?_
            obtain ⟨h3615, hx3603⟩ := as_some hx3603
            obtain ⟨h3616, hx3603⟩ := as_some hx3603
            obtain ⟨h3617, hx3603⟩ := as_some hx3603
            obtain ⟨h3618, hx3603⟩ := as_some hx3603
            refine WC.regionD ([(4, ((adr A_p0).add (((rdD p1.Cells x3535 0)).toNat * 4)), (.int .i64 ((rdD p0 (rdD p1.Cells x3535 0) z_Tile).N))), (7, ⟨g3364, 2, none⟩, (.slice A_p1_Cells p1.Cells.length c_p1_Cells)), (11, ⟨g3364, 1, none⟩, (.int .i64 p1.Height)), (14, ⟨g3364, 0, none⟩, (.int .i64 p1.Width)), (19, ((adr A_p1_Cells).add ((w64 ((w64 ((Int.tmod (w64 ((w64 (Int.tdiv x3535 p1.Width)) + 1)) p1.Height) * p1.Width)) + (Int.tmod x3535 p1.Width))).toNat * 1)), (.int .i64 (rdD p1.Cells (w64 ((w64 ((Int.tmod (w64 ((w64 (Int.tdiv x3535 p1.Width)) + 1)) p1.Height) * p1.Width)) + (Int.tmod x3535 p1.Width))) 0))), (22, (((adr A_p0).add (((rdD p1.Cells (w64 ((w64 ((Int.tmod (w64 ((w64 (Int.tdiv x3535 p1.Width)) + 1)) p1.Height) * p1.Width)) + (Int.tmod x3535 p1.Width))) 0)).toNat * 4)).add 2), (.int .i64 ((rdD p0 (rdD p1.Cells (w64 ((w64 ((Int.tmod (w64 ((w64 (Int.tdiv x3535 p1.Width)) + 1)) p1.Height) * p1.Width)) + (Int.tmod x3535 p1.Width))) 0) z_Tile).S)))], [0, 1, 2, 3, 4, 5, 6, 7, 8, 9, 10, 11, 12, 13, 14, 15, 16, 17, 18, 19, 20, 21, 22, 23], [[], [], [0, 1], [0, 1, 2], [0, 1, 2, 3], [], [], [6], [], [8], [], [10], [8, 9, 10, 11], [], [13], [8, 9, 10, 11, 12, 13, 14], [], [8, 9, 10, 11, 12, 13, 14, 15, 16], [6, 7, 8, 9, 10, 11, 12, 13, 14, 15, 16, 17], [6, 7, 8, 9, 10, 11, 12, 13, 14, 15, 16, 17, 18], [5, 6, 7, 8, 9, 10, 11, 12, 13, 14, 15, 16, 17, 18, 19], [5, 6, 7, 8, 9, 10, 11, 12, 13, 14, 15, 16, 17, 18, 19, 20], [5, 6, 7, 8, 9, 10, 11, 12, 13, 14, 15, 16, 17, 18, 19, 20, 21], [0, 1, 2, 3, 4, 5, 6, 7, 8, 9, 10, 11, 12, 13, 14, 15, 16, 17, 18, 19, 20, 21, 22]]) [[0, 1, 2, 3, 4, 5, 6, 7, 8, 9, 10, 11, 12, 13, 14, 15, 16, 17, 18, 19, 20, 21, 22, 23]] (by kernel_rfl) (by kernel_rfl) (NoPanic.seq (NoPanic.block (NoPanic.seq (NoPanic.seq (NoPanic.block (NoPanic.seq (NoPanic.body))))))) ?_
            have hS3610 := hS3580.drew
            revert hS3610
            generalize World.drew w3579 = w3609
            intro hS3610
            refine ⟨⟨rowR.cell (hS3610.rd 0).1 z_Tile h3615.1 h3615.2 0 rfl, hS3610.cell 0 rfl 2 rfl, hS3610.cell 0 rfl 1 rfl, hS3610.cell 0 rfl 0 rfl, rowR.cell (hS3610.rd 1).1 0 h3617.1 h3617.2 0 rfl, rowR.cell (hS3610.rd 0).1 z_Tile h3618.1 h3618.2 2 rfl, trivial⟩, forallC ?_ (forallN)⟩
            refine segF 24 [.v (.int .i64 ((rdD p0 (rdD p1.Cells x3535 0) z_Tile).N)), .v (.slice A_p1_Cells p1.Cells.length c_p1_Cells), .v (.int .i64 p1.Height), .v (.int .i64 p1.Width), .v (.int .i64 (rdD p1.Cells (w64 ((w64 ((Int.tmod (w64 ((w64 (Int.tdiv x3535 p1.Width)) + 1)) p1.Height) * p1.Width)) + (Int.tmod x3535 p1.Width))) 0)), .v (.int .i64 ((rdD p0 (rdD p1.Cells (w64 ((w64 ((Int.tmod (w64 ((w64 (Int.tdiv x3535 p1.Width)) + 1)) p1.Height) * p1.Width)) + (Int.tmod x3535 p1.Width))) 0) z_Tile).S))] [0, 2, 4, 12, 13, 14, 90] [(0, (.slice A_p0 p0.length c_p0)), (2, (.bool p2)), (4, (.pointer (some ⟨g3364, 0, none⟩))), (12, (.slice A_p1_Cells p1.Cells.length c_p1_Cells)), (13, (.int .i64 (p1.Cells.length : Int))), (14, (.int .i64 x3535)), (90, (.bool (((rdD p0 (rdD p1.Cells x3535 0) z_Tile).N) != ((rdD p0 (rdD p1.Cells (w64 ((w64 ((Int.tmod (w64 ((w64 (Int.tdiv x3535 p1.Width)) + 1)) p1.Height) * p1.Width)) + (Int.tmod x3535 p1.Width))) 0) z_Tile).S))))] [.idx A_p0 (rdD p1.Cells x3535 0) p0.length, .ne p1.Height, .idx A_p1_Cells (w64 ((w64 ((Int.tmod (w64 ((w64 (Int.tdiv x3535 p1.Width)) + 1)) p1.Height) * p1.Width)) + (Int.tmod x3535 p1.Width))) p1.Cells.length, .idx A_p0 (rdD p1.Cells (w64 ((w64 ((Int.tmod (w64 ((w64 (Int.tdiv x3535 p1.Width)) + 1)) p1.Height) * p1.Width)) + (Int.tmod x3535 p1.Width))) 0) p0.length] [0, 1, 2, 3, 4, 5] [(4, ((adr A_p0).add (((rdD p1.Cells x3535 0)).toNat * 4)), (.int .i64 ((rdD p0 (rdD p1.Cells x3535 0) z_Tile).N))), (7, ⟨g3364, 2, none⟩, (.slice A_p1_Cells p1.Cells.length c_p1_Cells)), (11, ⟨g3364, 1, none⟩, (.int .i64 p1.Height)), (14, ⟨g3364, 0, none⟩, (.int .i64 p1.Width)), (19, ((adr A_p1_Cells).add ((w64 ((w64 ((Int.tmod (w64 ((w64 (Int.tdiv x3535 p1.Width)) + 1)) p1.Height) * p1.Width)) + (Int.tmod x3535 p1.Width))).toNat * 1)), (.int .i64 (rdD p1.Cells (w64 ((w64 ((Int.tmod (w64 ((w64 (Int.tdiv x3535 p1.Width)) + 1)) p1.Height) * p1.Width)) + (Int.tmod x3535 p1.Width))) 0))), (22, (((adr A_p0).add (((rdD p1.Cells (w64 ((w64 ((Int.tmod (w64 ((w64 (Int.tdiv x3535 p1.Width)) + 1)) p1.Height) * p1.Width)) + (Int.tmod x3535 p1.Width))) 0)).toNat * 4)).add 2), (.int .i64 ((rdD p0 (rdD p1.Cells (w64 ((w64 ((Int.tmod (w64 ((w64 (Int.tdiv x3535 p1.Width)) + 1)) p1.Height) * p1.Width)) + (Int.tmod x3535 p1.Width))) 0) z_Tile).S)))] (fun fb => by kernel_rfl) rfl ⟨rowR.adr (hS3610.rd 0).1 h3615.1 h3615.2, h3616, rowR.adr (hS3610.rd 1).1 h3617.1 h3617.2, rowR.adr (hS3610.rd 0).1 h3618.1 h3618.2, trivial⟩ rfl ?_
            refine WL.done rfl ?_
            refine WX.next ?_
            rcases br_some hx3603 with ⟨h3619, hx3603⟩ | ⟨h3619, hx3603⟩
            · refine WC.condT2 (fun fb => by kernel_rfl) h3619 ?_
              refine WC.seq ?_
              refine WC.region ?_
              refine seg 1 [] [6] [(6, (.bool false))] [] (fun fb => by kernel_rfl) rfl trivial ?_
              refine WL.done rfl ?_
              refine WX.next ?_
              refine WC.ret ?_
              injection hx3603 with hx3603
              subst hx3603
              injection hl3541 with hl3541
              subst hl3541
              injection hf with hf
              subst hf
              exact WX.blockR (WX.thenR (WX.thenR (WX.blockR (WX.thenR (WX.ret_ [] (.bool false) [] (fun fb => by kernel_rfl) trivial ⟨_, rfl, rfl, hS3610.keep⟩)))))
            refine WC.condF2 (fun fb => by kernel_rfl) h3619 ?_
            refine WC.skip ?_
            injection hx3603 with hx3603
            exact WX.to Kx3602 () [0, 2, 4, 12, 13, 14] rfl ⟨(hS3610.subR [0, 1]).sub [0] (by decide), hx3603.symm⟩
          refine WC.condF2 (fun fb => by kernel_rfl) h3604 ?_
          refine WC.skip ?_
          injection hx3603 with hx3603
          exact WX.to Kx3602 () [0, 2, 4, 12, 13, 14] rfl ⟨(hS3580.subR [0, 1]).sub [0] (by decide), hx3603.symm⟩
        rintro y3623 w3620 ⟨hS3621, hq3622⟩
        subst hq3622
        have hl3541 := sum_inr hl3541
        refine WX.blockN (WX.next ?_)
        refine WC.region ?_
        refine seg 2 [] [0, 2, 4, 12, 13, 14] [(0, (.slice A_p0 p0.length c_p0)), (2, (.bool p2)), (4, (.pointer (some ⟨g3364, 0, none⟩))), (12, (.slice A_p1_Cells p1.Cells.length c_p1_Cells)), (13, (.int .i64 (p1.Cells.length : Int))), (14, (.int .i64 (w64 (x3535 + 1))))] [] (fun fb => by kernel_rfl) rfl trivial ?_
        refine WL.done rfl ?_
        exact WX.again k3538 (Nat.lt_succ_self _) (w64 (x3535 + 1)) [0, 2, 4, 12, 13, 14] rfl ⟨(hS3621.subR [0, 1]).sub [0] (by decide), hl3541⟩
      refine WC.condF2 (fun fb => by kernel_rfl) h3542 ?_
      refine WC.exit ?_
      injection hl3541 with hl3541
      exact WX.thenX (WX.thenX (WX.blockHere (WX.to Kx3536 () [] rfl ⟨(hS3540.subR [0, 1]).sub [] (by decide), hl3541.symm⟩)))
  rintro y3628 w3625 ⟨hS3626, hq3627⟩
  subst hq3627
  have hf := sum_inr hf
  refine WX.next ?_
  refine WC.seq ?_
  refine WC.region ?_
  refine seg 1 [] [6] [(6, (.bool true))] [] (fun fb => by kernel_rfl) rfl trivial ?_
  refine WL.done rfl ?_
  refine WX.next ?_
  refine WC.ret ?_
  injection hf with hf
  subst hf
  exact WX.ret_ [] (.bool true) [] (fun fb => by kernel_rfl) trivial ⟨_, rfl, rfl, hS3626.keep⟩
theorem tile_Repeats_calls (k : Nat) (p0 : List Tile) (p1 : Pattern) (A_p0 : Option Addr) (c_p0 : Nat) (A_p1_Cells : Option Addr) (c_p1_Cells : Nat) (r : Bool) (w : World) (hR0 : RO NoS w (rowR enc_Tile A_p0 c_p0 p0)) (hR1 : RO NoS w (rowR encInt A_p1_Cells c_p1_Cells p1.Cells)) (hf : tile_Repeats k p0 p1 = some r) :
    CallsR Try.prog 69 #[(.slice A_p0 p0.length c_p0), (.agg #[(.int .i64 p1.Width), (.int .i64 p1.Height), (.slice A_p1_Cells p1.Cells.length c_p1_Cells)])] w (fun v w' => v = (.bool r) ∧ Keeps NoS w w') := by
  have hS : St NoS w w [rowR enc_Tile A_p0 c_p0 p0, rowR encInt A_p1_Cells c_p1_Cells p1.Cells] [] := St.init (ro_cons hR0 (ro_cons hR1 (ro_nil _ _)))
  refine enter 13 Try.func69 rfl Try.ntmps69 rfl ?_
  unfold tile_Repeats at hf
  refine WC.seq ?_
  refine WC.region ?_
  refine WL.new hS 3 [] (fun g => (.pointer (some ⟨g, 0, none⟩))) (.cells #[(.int .i64 p1.Width), (.int .i64 p1.Height), (.slice A_p1_Cells p1.Cells.length c_p1_Cells)] 31 (0, 0)) [] (fun fb g => by kernel_rfl) trivial (fun g3072 w3073 hS3074 => ?_)
  refine ⟨trivial, ?_⟩
  refine seg 2 [] [0, 3] [(0, (.slice A_p0 p0.length c_p0)), (3, (.pointer (some ⟨g3072, 0, none⟩)))] [] (fun fb => by kernel_rfl) rfl trivial ?_
  refine WL.done rfl ?_
  refine WX.next ?_
  refine WC.seq ?_
  refine WC.region ?_
  refine seg 2 [.v (.int .i64 p1.Width), .v (.int .i64 p1.Height), .v (.slice A_p1_Cells p1.Cells.length c_p1_Cells)] [0, 3, 5, 6] [(0, (.slice A_p0 p0.length c_p0)), (3, (.pointer (some ⟨g3072, 0, none⟩))), (5, (.slice A_p0 p0.length c_p0)), (6, (.agg #[(.int .i64 p1.Width), (.int .i64 p1.Height), (.slice A_p1_Cells p1.Cells.length c_p1_Cells)]))] [.cell ⟨g3072, 0, none⟩ (.int .i64 p1.Width), .cell ⟨g3072, 1, none⟩ (.int .i64 p1.Height), .cell ⟨g3072, 2, none⟩ (.slice A_p1_Cells p1.Cells.length c_p1_Cells)] (fun fb => by kernel_rfl) rfl ⟨hS3074.cell 0 rfl 0 rfl, hS3074.cell 0 rfl 1 rfl, hS3074.cell 0 rfl 2 rfl, trivial⟩ ?_
  obtain ⟨t3359, ht3360, hf⟩ := bind_some hf
  refine WL.call (some 7) 56 #[(.slice A_p0 p0.length c_p0), (.agg #[(.int .i64 p1.Width), (.int .i64 p1.Height), (.slice A_p1_Cells p1.Cells.length c_p1_Cells)])] (fun fb => by kernel_rfl) (tile_of_calls _ p0 p1 A_p0 c_p0 A_p1_Cells c_p1_Cells t3359 _ (hS3074.rd 0) (hS3074.rd 1) ht3360) (fun v w3361 hR3362 => ?_)
  obtain ⟨rfl, hk_⟩ := hR3362
  have hS3363 := hS3074.keepN hk_
  refine ⟨trivial, ?_⟩
  refine seg 4 [] [0, 3, 8] [(0, (.slice A_p0 p0.length c_p0)), (3, (.pointer (some ⟨g3072, 0, none⟩))), (8, (.bool t3359))] [] (fun fb => by kernel_rfl) rfl trivial ?_
  obtain ⟨x3636, hx3637, hf⟩ := bind_some hf
  refine WL.cutW (T := Bool) 8 (fun t => [(12, (.bool t))]) (fun t w1 => (St NoS w w1 [rowR enc_Tile A_p0 c_p0 p0, rowR encInt A_p1_Cells c_p1_Cells p1.Cells] [] ∧ x3636 = t) ∧ CellsOK [] w1) (fun K => ?_) ?_
  ·
    rcases br_some hx3637 with ⟨h3638, hx3637⟩ | ⟨h3638, hx3637⟩
    ·
      refine WL.setB 8 h3638 rfl ?_
      refine seg 6 [.v (.int .i64 p1.Width), .v (.int .i64 p1.Height), .v (.slice A_p1_Cells p1.Cells.length c_p1_Cells)] [8, 9, 10] [(8, (.bool true)), (9, (.slice A_p0 p0.length c_p0)), (10, (.agg #[(.int .i64 p1.Width), (.int .i64 p1.Height), (.slice A_p1_Cells p1.Cells.length c_p1_Cells)]))] [.cell ⟨g3072, 0, none⟩ (.int .i64 p1.Width), .cell ⟨g3072, 1, none⟩ (.int .i64 p1.Height), .cell ⟨g3072, 2, none⟩ (.slice A_p1_Cells p1.Cells.length c_p1_Cells)] (fun fb => by kernel_rfl) rfl ⟨hS3363.cell 0 rfl 0 rfl, hS3363.cell 0 rfl 1 rfl, hS3363.cell 0 rfl 2 rfl, trivial⟩ ?_
      obtain ⟨t3639, ht3640, hx3637⟩ := bind_some hx3637
      refine WL.call (some 11) 57 #[(.slice A_p0 p0.length c_p0), (.agg #[(.int .i64 p1.Width), (.int .i64 p1.Height), (.slice A_p1_Cells p1.Cells.length c_p1_Cells)]), (.bool true)] (fun fb => by kernel_rfl) (tile_joins_calls _ p0 p1 true A_p0 c_p0 A_p1_Cells c_p1_Cells t3639 _ (hS3363.rd 0) (hS3363.rd 1) ht3640) (fun v w3641 hR3642 => ?_)
      obtain ⟨rfl, hk_⟩ := hR3642
      have hS3643 := hS3363.keepN hk_
      refine ⟨trivial, ?_⟩
      refine seg 8 [] [12] [(12, (.bool t3639))] [] (fun fb => by kernel_rfl) rfl trivial ?_
      injection hx3637 with hx3637
      exact WL.to K t3639 [12] rfl ⟨⟨(hS3643.subR [0, 1]).sub [] (by decide), hx3637.symm⟩, trivial⟩
    refine WL.setB 8 h3638 rfl ?_
    refine seg 8 [] [12] [(12, (.bool false))] [] (fun fb => by kernel_rfl) rfl trivial ?_
    injection hx3637 with hx3637
    exact WL.to K false [12] rfl ⟨⟨(hS3363.subR [0, 1]).sub [] (by decide), hx3637.symm⟩, trivial⟩
  rintro y3644 w3646 ⟨⟨hS3647, hq3645⟩, hF3648⟩
  subst hq3645
  refine seg 9 [] [4] [(4, (.bool x3636))] [] (fun fb => by kernel_rfl) rfl trivial ?_
  refine WL.done rfl ?_
  refine WX.next ?_
  refine WC.ret ?_
  injection hf with hf
  subst hf
  exact WX.ret_ [] (.bool x3636) [] (fun fb => by kernel_rfl) trivial ⟨_, rfl, rfl, hS3647.keep⟩
theorem top_sameInts_calls (k : Nat) (p0 : List Int) (p1 : List Int) (A_p0 : Option Addr) (c_p0 : Nat) (A_p1 : Option Addr) (c_p1 : Nat) (r : Bool) (w : World) (hR0 : RO NoS w (rowR encInt A_p0 c_p0 p0)) (hR1 : RO NoS w (rowR encInt A_p1 c_p1 p1)) (hf : top_sameInts k p0 p1 = some r) :
    CallsR Try.prog 71 #[(.slice A_p0 p0.length c_p0), (.slice A_p1 p1.length c_p1)] w (fun v w' => v = (.bool r) ∧ Keeps NoS w w') := by
  have hS : St NoS w w [rowR encInt A_p0 c_p0 p0, rowR encInt A_p1 c_p1 p1] [] := St.init (ro_cons hR0 (ro_cons hR1 (ro_nil _ _)))
  refine enter 26 Try.func71 rfl Try.ntmps71 rfl ?_
  unfold top_sameInts at hf
  refine WC.seq ?_
  refine WC.region ?_
  refine seg 1 [] [0, 1] [(0, (.slice A_p0 p0.length c_p0)), (1, (.slice A_p1 p1.length c_p1))] [] (fun fb => by kernel_rfl) rfl trivial ?_
  refine WL.done rfl ?_
  refine WX.next ?_
  refine WC.seq ?_
  refine WC.seq ?_
  refine WC.region ?_
  refine seg 5 [] [0, 1, 10] [(0, (.slice A_p0 p0.length c_p0)), (1, (.slice A_p1 p1.length c_p1)), (10, (.bool ((p0.length : Int) != (p1.length : Int))))] [] (fun fb => by kernel_rfl) rfl trivial ?_
  refine WL.done rfl ?_
  refine WX.next ?_
  rcases br_some hf with ⟨h3704, hf⟩ | ⟨h3704, hf⟩
  · refine WC.condT2 (fun fb => by kernel_rfl) h3704 ?_
    refine WC.seq ?_
    refine WC.region ?_
    refine seg 1 [] [4] [(4, (.bool false))] [] (fun fb => by kernel_rfl) rfl trivial ?_
    refine WL.done rfl ?_
    refine WX.next ?_
    refine WC.ret ?_
    injection hf with hf
    subst hf
    exact WX.thenR (WX.ret_ [] (.bool false) [] (fun fb => by kernel_rfl) trivial ⟨_, rfl, rfl, hS.keep⟩)
  refine WC.condF2 (fun fb => by kernel_rfl) h3704 ?_
  refine WC.skip ?_
  refine WX.next ?_
  refine WC.seq ?_
  refine WC.seq ?_
  refine WC.region ?_
  refine seg 1 [] [0, 1, 5] [(0, (.slice A_p0 p0.length c_p0)), (1, (.slice A_p1 p1.length c_p1)), (5, (.int .i64 0))] [] (fun fb => by kernel_rfl) rfl trivial ?_
  refine WL.done rfl ?_
  refine WX.next ?_
  obtain ⟨x3727, hx3728, hf⟩ := bind_some hf
  refine WC.cutN (T := Unit) (fun t => []) (fun t w1 => St NoS w w1 [rowR encInt A_p0 c_p0 p0, rowR encInt A_p1 c_p1 p1] [] ∧ x3727 = .inr t) (fun Kx3727 => ?_) ?_
  ·
    refine WC.block ?_
    refine WC.loop (T := Int) (fun t => [(0, (.slice A_p0 p0.length c_p0)), (1, (.slice A_p1 p1.length c_p1)), (5, (.int .i64 t))]) (fun n t w1 => St NoS w w1 [rowR encInt A_p0 c_p0 p0, rowR encInt A_p1 c_p1 p1] [] ∧ top_sameInts.l0 n t p0 p1 = some x3727) k 0 [0, 1, 5] rfl ⟨(hS.subR [0, 1]).sub [] (by decide), hx3728⟩ ?_
    rintro k3729 x3726 w3730 ⟨hS3731, hl3732⟩
    cases k3729 with
    | zero => rw [top_sameInts.l0] at hl3732; cases hl3732
    | succ k3729 =>
      rw [top_sameInts.l0] at hl3732
      refine WC.seq ?_
      refine WC.seq ?_
      refine WC.region ?_
      refine seg 4 [] [0, 1, 5, 14] [(0, (.slice A_p0 p0.length c_p0)), (1, (.slice A_p1 p1.length c_p1)), (5, (.int .i64 x3726)), (14, (.bool (decide (x3726 < (p0.length : Int)))))] [] (fun fb => by kernel_rfl) rfl trivial ?_
      refine WL.done rfl ?_
      refine WX.next ?_
      rcases br_some hl3732 with ⟨h3733, hl3732⟩ | ⟨h3733, hl3732⟩
      · refine WC.condT2 (fun fb => by kernel_rfl) h3733 ?_
        refine WC.skip ?_
        refine WX.next ?_
        refine WC.seq ?_
        refine WC.block ?_
        refine WC.seq ?_
        obtain ⟨h3740, hl3732⟩ := as_some hl3732
        obtain ⟨h3741, hl3732⟩ := as_some hl3732
        refine WC.regionD ([(3, ((adr A_p0).add ((x3726).toNat * 1)), (.int .i64 (rdD p0 x3726 0))), (7, ((adr A_p1).add ((x3726).toNat * 1)), (.int .i64 (rdD p1 x3726 0)))], [0, 1, 2, 3, 4, 5, 6, 7, 8], [[], [], [0, 1], [0, 1, 2], [], [], [4, 5], [4, 5, 6], [0, 1, 2, 3, 4, 5, 6, 7]]) [[0, 1, 2, 3, 4, 5, 6, 7, 8]] (by kernel_rfl) (by kernel_rfl) (NoPanic.seq (NoPanic.block (NoPanic.seq (NoPanic.seq (NoPanic.block (NoPanic.seq (NoPanic.body))))))) ?_
        have hS3737 := hS3731.drew
        revert hS3737
        generalize World.drew w3730 = w3736
        intro hS3737
        refine ⟨⟨rowR.cell (hS3737.rd 0).1 0 h3740.1 h3740.2 0 rfl, rowR.cell (hS3737.rd 1).1 0 h3741.1 h3741.2 0 rfl, trivial⟩, forallC ?_ (forallN)⟩
        refine segF 9 [.v (.int .i64 (rdD p0 x3726 0)), .v (.int .i64 (rdD p1 x3726 0))] [0, 1, 5, 25] [(0, (.slice A_p0 p0.length c_p0)), (1, (.slice A_p1 p1.length c_p1)), (5, (.int .i64 x3726)), (25, (.bool ((rdD p0 x3726 0) != (rdD p1 x3726 0))))] [.idx A_p0 x3726 p0.length, .idx A_p1 x3726 p1.length] [0, 1] [(3, ((adr A_p0).add ((x3726).toNat * 1)), (.int .i64 (rdD p0 x3726 0))), (7, ((adr A_p1).add ((x3726).toNat * 1)), (.int .i64 (rdD p1 x3726 0)))] (fun fb => by kernel_rfl) rfl ⟨rowR.adr (hS3737.rd 0).1 h3740.1 h3740.2, rowR.adr (hS3737.rd 1).1 h3741.1 h3741.2, trivial⟩ rfl ?_
        refine WL.done rfl ?_
        refine WX.next ?_
        rcases br_some hl3732 with ⟨h3742, hl3732⟩ | ⟨h3742, hl3732⟩
        · refine WC.condT2 (fun fb => by kernel_rfl) h3742 ?_
          refine WC.seq ?_
          refine WC.region ?_
          refine seg 1 [] [4] [(4, (.bool false))] [] (fun fb => by kernel_rfl) rfl trivial ?_
          refine WL.done rfl ?_
          refine WX.next ?_
          refine WC.ret ?_
          injection hl3732 with hl3732
          subst hl3732
          injection hf with hf
          subst hf
          exact WX.blockR (WX.thenR (WX.thenR (WX.blockR (WX.thenR (WX.ret_ [] (.bool false) [] (fun fb => by kernel_rfl) trivial ⟨_, rfl, rfl, hS3737.keep⟩)))))
        refine WC.condF2 (fun fb => by kernel_rfl) h3742 ?_
        refine WC.skip ?_
        refine WX.blockN (WX.next ?_)
        refine WC.region ?_
        refine seg 3 [] [0, 1, 5] [(0, (.slice A_p0 p0.length c_p0)), (1, (.slice A_p1 p1.length c_p1)), (5, (.int .i64 (w64 (x3726 + 1))))] [] (fun fb => by kernel_rfl) rfl trivial ?_
        refine WL.done rfl ?_
        exact WX.again k3729 (Nat.lt_succ_self _) (w64 (x3726 + 1)) [0, 1, 5] rfl ⟨(hS3737.subR [0, 1]).sub [] (by decide), hl3732⟩
      refine WC.condF2 (fun fb => by kernel_rfl) h3733 ?_
      refine WC.exit ?_
      injection hl3732 with hl3732
      exact WX.thenX (WX.thenX (WX.blockHere (WX.to Kx3727 () [] rfl ⟨(hS3731.subR [0, 1]).sub [] (by decide), hl3732.symm⟩)))
  rintro y3746 w3743 ⟨hS3744, hq3745⟩
  subst hq3745
  have hf := sum_inr hf
  refine WX.next ?_
  refine WC.seq ?_
  refine WC.region ?_
  refine seg 1 [] [4] [(4, (.bool true))] [] (fun fb => by kernel_rfl) rfl trivial ?_
  refine WL.done rfl ?_
  refine WX.next ?_
  refine WC.ret ?_
  injection hf with hf
  subst hf
  exact WX.ret_ [] (.bool true) [] (fun fb => by kernel_rfl) trivial ⟨_, rfl, rfl, hS3744.keep⟩
theorem tile_Fits_calls (k : Nat) (p0 : List Tile) (p1 : Pattern) (A_p0 : Option Addr) (c_p0 : Nat) (A_p1_Cells : Option Addr) (c_p1_Cells : Nat) (r : Bool) (w : World) (hR0 : RO NoS w (rowR enc_Tile A_p0 c_p0 p0)) (hR1 : RO NoS w (rowR encInt A_p1_Cells c_p1_Cells p1.Cells)) (hf : tile_Fits k p0 p1 = some r) :
    CallsR Try.prog 33 #[(.slice A_p0 p0.length c_p0), (.agg #[(.int .i64 p1.Width), (.int .i64 p1.Height), (.slice A_p1_Cells p1.Cells.length c_p1_Cells)])] w (fun v w' => v = (.bool r) ∧ Keeps NoS w w') := by
  have hS : St NoS w w [rowR enc_Tile A_p0 c_p0 p0, rowR encInt A_p1_Cells c_p1_Cells p1.Cells] [] := St.init (ro_cons hR0 (ro_cons hR1 (ro_nil _ _)))
  refine enter 13 Try.func33 rfl Try.ntmps33 rfl ?_
  unfold tile_Fits at hf
  refine WC.seq ?_
  refine WC.region ?_
  refine WL.new hS 3 [] (fun g => (.pointer (some ⟨g, 0, none⟩))) (.cells #[(.int .i64 p1.Width), (.int .i64 p1.Height), (.slice A_p1_Cells p1.Cells.length c_p1_Cells)] 31 (0, 0)) [] (fun fb g => by kernel_rfl) trivial (fun g3779 w3780 hS3781 => ?_)
  refine ⟨trivial, ?_⟩
  refine seg 2 [] [0, 3] [(0, (.slice A_p0 p0.length c_p0)), (3, (.pointer (some ⟨g3779, 0, none⟩)))] [] (fun fb => by kernel_rfl) rfl trivial ?_
  refine WL.done rfl ?_
  refine WX.next ?_
  refine WC.seq ?_
  refine WC.region ?_
  refine seg 2 [.v (.int .i64 p1.Width), .v (.int .i64 p1.Height), .v (.slice A_p1_Cells p1.Cells.length c_p1_Cells)] [0, 3, 5, 6] [(0, (.slice A_p0 p0.length c_p0)), (3, (.pointer (some ⟨g3779, 0, none⟩))), (5, (.slice A_p0 p0.length c_p0)), (6, (.agg #[(.int .i64 p1.Width), (.int .i64 p1.Height), (.slice A_p1_Cells p1.Cells.length c_p1_Cells)]))] [.cell ⟨g3779, 0, none⟩ (.int .i64 p1.Width), .cell ⟨g3779, 1, none⟩ (.int .i64 p1.Height), .cell ⟨g3779, 2, none⟩ (.slice A_p1_Cells p1.Cells.length c_p1_Cells)] (fun fb => by kernel_rfl) rfl ⟨hS3781.cell 0 rfl 0 rfl, hS3781.cell 0 rfl 1 rfl, hS3781.cell 0 rfl 2 rfl, trivial⟩ ?_
  obtain ⟨t3783, ht3784, hf⟩ := bind_some hf
  refine WL.call (some 7) 56 #[(.slice A_p0 p0.length c_p0), (.agg #[(.int .i64 p1.Width), (.int .i64 p1.Height), (.slice A_p1_Cells p1.Cells.length c_p1_Cells)])] (fun fb => by kernel_rfl) (tile_of_calls _ p0 p1 A_p0 c_p0 A_p1_Cells c_p1_Cells t3783 _ (hS3781.rd 0) (hS3781.rd 1) ht3784) (fun v w3785 hR3786 => ?_)
  obtain ⟨rfl, hk_⟩ := hR3786
  have hS3787 := hS3781.keepN hk_
  refine ⟨trivial, ?_⟩
  refine seg 4 [] [0, 3, 8] [(0, (.slice A_p0 p0.length c_p0)), (3, (.pointer (some ⟨g3779, 0, none⟩))), (8, (.bool t3783))] [] (fun fb => by kernel_rfl) rfl trivial ?_
  obtain ⟨x3794, hx3795, hf⟩ := bind_some hf
  refine WL.cutW (T := Bool) 8 (fun t => [(12, (.bool t))]) (fun t w1 => (St NoS w w1 [rowR enc_Tile A_p0 c_p0 p0, rowR encInt A_p1_Cells c_p1_Cells p1.Cells] [] ∧ x3794 = t) ∧ CellsOK [] w1) (fun K => ?_) ?_
  ·
    rcases br_some hx3795 with ⟨h3796, hx3795⟩ | ⟨h3796, hx3795⟩
    ·
      refine WL.setB 8 h3796 rfl ?_
      refine seg 6 [.v (.int .i64 p1.Width), .v (.int .i64 p1.Height), .v (.slice A_p1_Cells p1.Cells.length c_p1_Cells)] [8, 9, 10] [(8, (.bool true)), (9, (.slice A_p0 p0.length c_p0)), (10, (.agg #[(.int .i64 p1.Width), (.int .i64 p1.Height), (.slice A_p1_Cells p1.Cells.length c_p1_Cells)]))] [.cell ⟨g3779, 0, none⟩ (.int .i64 p1.Width), .cell ⟨g3779, 1, none⟩ (.int .i64 p1.Height), .cell ⟨g3779, 2, none⟩ (.slice A_p1_Cells p1.Cells.length c_p1_Cells)] (fun fb => by kernel_rfl) rfl ⟨hS3787.cell 0 rfl 0 rfl, hS3787.cell 0 rfl 1 rfl, hS3787.cell 0 rfl 2 rfl, trivial⟩ ?_
      obtain ⟨t3797, ht3798, hx3795⟩ := bind_some hx3795
      refine WL.call (some 11) 57 #[(.slice A_p0 p0.length c_p0), (.agg #[(.int .i64 p1.Width), (.int .i64 p1.Height), (.slice A_p1_Cells p1.Cells.length c_p1_Cells)]), (.bool false)] (fun fb => by kernel_rfl) (tile_joins_calls _ p0 p1 false A_p0 c_p0 A_p1_Cells c_p1_Cells t3797 _ (hS3787.rd 0) (hS3787.rd 1) ht3798) (fun v w3799 hR3800 => ?_)
      obtain ⟨rfl, hk_⟩ := hR3800
      have hS3801 := hS3787.keepN hk_
      refine ⟨trivial, ?_⟩
      refine seg 8 [] [12] [(12, (.bool t3797))] [] (fun fb => by kernel_rfl) rfl trivial ?_
      injection hx3795 with hx3795
      exact WL.to K t3797 [12] rfl ⟨⟨(hS3801.subR [0, 1]).sub [] (by decide), hx3795.symm⟩, trivial⟩
    refine WL.setB 8 h3796 rfl ?_
    refine seg 8 [] [12] [(12, (.bool false))] [] (fun fb => by kernel_rfl) rfl trivial ?_
    injection hx3795 with hx3795
    exact WL.to K false [12] rfl ⟨⟨(hS3787.subR [0, 1]).sub [] (by decide), hx3795.symm⟩, trivial⟩
  rintro y3802 w3804 ⟨⟨hS3805, hq3803⟩, hF3806⟩
  subst hq3803
  refine seg 9 [] [4] [(4, (.bool x3794))] [] (fun fb => by kernel_rfl) rfl trivial ?_
  refine WL.done rfl ?_
  refine WX.next ?_
  refine WC.ret ?_
  injection hf with hf
  subst hf
  exact WX.ret_ [] (.bool x3794) [] (fun fb => by kernel_rfl) trivial ⟨_, rfl, rfl, hS3805.keep⟩
theorem top_lives_calls (k : Nat)   (r : Bool) (w : World)  (hf : top_lives k = some r) :
    CallsR Try.prog 59 #[] w (fun v w' => v = (.bool r) ∧ Keeps NoS w w') := by
  have hS : St NoS w w [] [] := St.init (ro_nil _ _)
  refine enter 36 Try.func59 rfl Try.ntmps59 rfl ?_
  unfold top_lives at hf
  refine WC.seq ?_
  refine WC.region ?_
  refine seg 1 [] [] [] [] (fun fb => by kernel_rfl) rfl trivial ?_
  refine WL.done rfl ?_
  refine WX.next ?_
  refine WC.seq ?_
  refine WC.region ?_
  refine WL.new hS 4 [] (fun g => (.slice (some ⟨g, 0, none⟩) 4 4)) (.cells #[(.int .i64 0), (.int .i64 1), (.int .i64 1), (.int .i64 0)] 3 (0, 0)) [] (fun fb g => by kernel_rfl) trivial (fun g2566 w2567 hS2568 => ?_)
  refine ⟨trivial, ?_⟩
  have hS2570 : St NoS w w2567 [] [rowO 3 encInt (some ⟨g2566, 0, none⟩) 4 [0, 1, 1, 0]] := hS2568.map1 0 _ (fun h => rowO.ofBlk h rfl (Nat.le_of_ble_eq_true (by kernel_rfl))) (fun _ h => by obtain ⟨_, h1, h2⟩ := h; injection h1 with h1; subst h1; exact h2) [] (by decide) (by decide)
  refine seg 2 [] [5] [(5, (.agg #[(.int .i64 2), (.int .i64 2), (.slice (some ⟨g2566, 0, none⟩) [0, 1, 1, 0].length 4)]))] [] (fun fb => by kernel_rfl) rfl trivial ?_
  refine WL.new hS2570 1 [] (fun g => (.pointer (some ⟨g, 0, none⟩))) (.cells #[(.int .i64 0), (.int .i64 0), (.slice none 0 0)] 31 (0, 0)) [] (fun fb g => by kernel_rfl) trivial (fun g2571 w2572 hS2573 => ?_)
  refine ⟨trivial, ?_⟩
  refine WL.store hS2573 0 rfl [(0, (.int .i64 2)), (1, (.int .i64 2)), (2, (.slice (some ⟨g2566, 0, none⟩) [0, 1, 1, 0].length 4))] #[(.int .i64 2), (.int .i64 2), (.slice (some ⟨g2566, 0, none⟩) [0, 1, 1, 0].length 4)] (fun fb => by kernel_rfl) (by kernel_rfl) rfl [1] (by decide) (by decide) (fun w2575 hS2576 => ?_)
  refine ⟨trivial, ?_⟩
  refine WL.done rfl ?_
  refine WX.next ?_
  refine WC.seq ?_
  refine WC.region ?_
  refine seg 1 [.v (.int .i64 2), .v (.int .i64 2), .v (.slice (some ⟨g2566, 0, none⟩) [0, 1, 1, 0].length 4)] [1, 7] [(1, (.pointer (some ⟨g2571, 0, none⟩))), (7, (.agg #[(.int .i64 2), (.int .i64 2), (.slice (some ⟨g2566, 0, none⟩) [0, 1, 1, 0].length 4)]))] [.cell ⟨g2571, 0, none⟩ (.int .i64 2), .cell ⟨g2571, 1, none⟩ (.int .i64 2), .cell ⟨g2571, 2, none⟩ (.slice (some ⟨g2566, 0, none⟩) [0, 1, 1, 0].length 4)] (fun fb => by kernel_rfl) rfl ⟨hS2576.cell 0 rfl 0 rfl, hS2576.cell 0 rfl 1 rfl, hS2576.cell 0 rfl 2 rfl, trivial⟩ ?_
  obtain ⟨t3047, ht3048, hf⟩ := bind_some hf
  refine WL.call (some 8) 68 #[(.agg #[(.int .i64 2), (.int .i64 2), (.slice (some ⟨g2566, 0, none⟩) [0, 1, 1, 0].length 4)]), (.int .i64 3), (.int .i64 1)] (fun fb => by kernel_rfl) (tile_Repeat_calls _ (Pattern.mk 2 2 [0, 1, 1, 0]) 3 1 (some ⟨g2566, 0, none⟩) 4 t3047 _ (hS2576.ow 1).ofO ht3048) (fun v w3049 hR3050 => ?_)
  obtain ⟨A3052, c3053, rfl, hk_⟩ := hR3050
  have hS3051 : St NoS w w3049 [] [rowO 3 encInt A3052 c3053 t3047.1.Cells, blk g2571 (.cells #[(.int .i64 2), (.int .i64 2), (.slice (some ⟨g2566, 0, none⟩) [0, 1, 1, 0].length 4)] 31 (0, 0)), rowO 3 encInt (some ⟨g2566, 0, none⟩) 4 [0, 1, 1, 0]] := hS2576.call hk_ [] [0, 1] (fun g hg => hg.elim) (by simp) (by decide)
  refine ⟨trivial, ?_⟩
  refine seg 5 [] [1, 9, 10] [(1, (.pointer (some ⟨g2571, 0, none⟩))), (9, (.agg #[(.int .i64 t3047.1.Width), (.int .i64 t3047.1.Height), (.slice A3052 t3047.1.Cells.length c3053)])), (10, (.int .i64 t3047.2))] [] (fun fb => by kernel_rfl) rfl trivial ?_
  refine WL.new hS3051 2 [] (fun g => (.pointer (some ⟨g, 0, none⟩))) (.cells #[(.int .i64 0), (.int .i64 0), (.slice none 0 0)] 31 (0, 0)) [] (fun fb g => by kernel_rfl) trivial (fun g3054 w3055 hS3056 => ?_)
  refine ⟨trivial, ?_⟩
  refine WL.store hS3056 0 rfl [(0, (.int .i64 t3047.1.Width)), (1, (.int .i64 t3047.1.Height)), (2, (.slice A3052 t3047.1.Cells.length c3053))] #[(.int .i64 t3047.1.Width), (.int .i64 t3047.1.Height), (.slice A3052 t3047.1.Cells.length c3053)] (fun fb => by kernel_rfl) (by kernel_rfl) rfl [1, 2, 3] (by decide) (by decide) (fun w3058 hS3059 => ?_)
  refine ⟨trivial, ?_⟩
  refine seg 8 [] [1, 2, 3] [(1, (.pointer (some ⟨g2571, 0, none⟩))), (2, (.pointer (some ⟨g3054, 0, none⟩))), (3, (.int .i64 t3047.2))] [] (fun fb => by kernel_rfl) rfl trivial ?_
  refine WL.done rfl ?_
  refine WX.next ?_
  refine WC.seq ?_
  obtain ⟨x4074, hx4075, hf⟩ := bind_some hf
  refine WC.cutN (T := Bool) (fun t => [(0, (.bool t))]) (fun t w1 => St NoS w w1 [] [] ∧ x4074 = t) (fun Kx4074 => ?_) ?_
  ·
    refine WC.regionD ([(1, ⟨g2571, 0, none⟩, (.int .i64 2)), (1, ⟨g2571, 1, none⟩, (.int .i64 2)), (1, ⟨g2571, 2, none⟩, (.slice (some ⟨g2566, 0, none⟩) [0, 1, 1, 0].length 4)), (16, ⟨g3054, 2, none⟩, (.slice A3052 t3047.1.Cells.length c3053)), (22, ⟨g3054, 0, none⟩, (.int .i64 t3047.1.Width)), (22, ⟨g3054, 1, none⟩, (.int .i64 t3047.1.Height)), (22, ⟨g3054, 2, none⟩, (.slice A3052 t3047.1.Cells.length c3053))], [1, 3, 6, 8, 9, 10, 11, 12, 13, 14, 15, 16, 19, 20, 22, 24, 25], [[], [], [0, 1], [0, 1, 2], [0, 1, 2, 3], [0, 1, 2, 3], [0, 1, 2, 3, 5], [0, 1, 2, 3, 4, 5, 6], [0, 1, 2, 3, 4, 5, 6, 7], [0, 1, 2, 3, 4, 5, 6, 7, 8], [0, 1, 2, 3, 4, 5, 6, 7, 8, 9], [0, 1, 2, 3, 4, 5, 6, 7, 8, 9, 10], [0, 1, 2, 3, 4, 5, 6, 7, 8, 9, 10, 11], [0, 1, 2, 3, 4, 5, 6, 7, 8, 9, 10, 11, 12], [0, 1, 2, 3, 4, 5, 6, 7, 8, 9, 10, 11, 12, 13], [0, 1, 2, 3, 4, 5, 6, 7, 8, 9, 10, 11, 12, 13, 14], [0, 1, 2, 3, 4, 5, 6, 7, 8, 9, 10, 11, 12, 13, 14, 15], [0, 1, 2, 3, 4, 5, 6, 7, 8, 9, 10, 11, 12, 13, 14], [0, 1, 2, 3, 4, 5, 6, 7, 8, 9, 10, 11, 12, 13, 14, 15, 16, 17], [0, 1, 2, 3, 4, 5, 6, 7, 8, 9, 10, 11, 12, 13, 14, 15, 16, 17, 18], [0, 1, 2, 3, 4, 5, 6, 7, 8, 9, 10, 11, 12, 13, 14, 15, 16, 17, 18, 19], [0, 1, 2, 3, 4, 5, 6, 7, 8, 9, 10, 11, 12, 13, 14, 15, 16, 17, 18, 19, 20], [0, 1, 2, 3, 4, 5, 6, 7, 8, 9, 10, 11, 12, 13, 14, 15, 16, 17, 18, 19, 20], [0, 1, 2, 3, 4, 5, 6, 7, 8, 9, 10, 11, 12, 13, 14, 15, 16, 17, 18, 19, 20, 21, 22], [0, 1, 2, 3, 4, 5, 6, 7, 8, 9, 10, 11, 12, 13, 14, 15, 16, 17, 18, 19, 20, 21, 22, 23], [0, 1, 2, 3, 4, 5, 6, 7, 8, 9, 10, 11, 12, 13, 14, 15, 16, 17, 18, 19, 20, 21, 22, 23, 24]]) [[1, 0, 2, 3, 4, 5, 6, 7, 8, 9, 10, 11, 12, 13, 14, 15, 16, 17, 18, 19, 20, 22, 21, 23, 24, 25], [1, 0, 2, 3, 5, 6, 4, 7, 8, 9, 10, 11, 12, 13, 14, 15, 16, 17, 18, 19, 20, 22, 21, 23, 24, 25]] (by kernel_rfl) (by kernel_rfl) (NoPanic.seq (NoPanic.body)) ?_
    have hS4077 := hS3059.drew
    revert hS4077
    generalize World.drew w3058 = w4076
    intro hS4077
    refine ⟨⟨hS4077.cell 2 rfl 0 rfl, hS4077.cell 2 rfl 1 rfl, hS4077.cell 2 rfl 2 rfl, hS4077.cell 0 rfl 2 rfl, hS4077.cell 0 rfl 0 rfl, hS4077.cell 0 rfl 1 rfl, hS4077.cell 0 rfl 2 rfl, trivial⟩, forallC ?_ (forallC ?_ (forallN))⟩
    ·
      refine segF 1 [.v (.int .i64 2), .v (.int .i64 2), .v (.slice (some ⟨g2566, 0, none⟩) [0, 1, 1, 0].length 4)] [2, 3, 12] [(2, (.pointer (some ⟨g3054, 0, none⟩))), (3, (.int .i64 t3047.2)), (12, (.agg #[(.int .i64 2), (.int .i64 2), (.slice (some ⟨g2566, 0, none⟩) [0, 1, 1, 0].length 4)]))] [] [0, 1, 2] [(1, ⟨g2571, 0, none⟩, (.int .i64 2)), (1, ⟨g2571, 1, none⟩, (.int .i64 2)), (1, ⟨g2571, 2, none⟩, (.slice (some ⟨g2566, 0, none⟩) [0, 1, 1, 0].length 4))] (fun fb => by kernel_rfl) rfl trivial rfl ?_
      obtain ⟨t4078, ht4079, hx4075⟩ := bind_some hx4075
      refine WL.call (some 11) 70 #[] (fun fb => by kernel_rfl) (top_chess_calls t4078 _ ht4079) (fun v w4080 hR4081 => ?_)
      obtain ⟨A4083, c4084, rfl, hk_⟩ := hR4081
      have hS4082 : St NoS w w4080 [] [rowO 65 enc_Tile A4083 c4084 t4078, blk g3054 (.cells #[(.int .i64 t3047.1.Width), (.int .i64 t3047.1.Height), (.slice A3052 t3047.1.Cells.length c3053)] 31 (0, 0)), rowO 3 encInt A3052 c3053 t3047.1.Cells, blk g2571 (.cells #[(.int .i64 2), (.int .i64 2), (.slice (some ⟨g2566, 0, none⟩) [0, 1, 1, 0].length 4)] 31 (0, 0)), rowO 3 encInt (some ⟨g2566, 0, none⟩) 4 [0, 1, 1, 0]] := hS4077.call hk_ [] [0, 1, 2, 3] (fun g hg => hg.elim) (by simp) (by decide)
      refine ⟨⟨hS4082.cell 3 rfl 0 rfl, hS4082.cell 3 rfl 1 rfl, hS4082.cell 3 rfl 2 rfl, hS4082.cell 1 rfl 2 rfl, hS4082.cell 1 rfl 0 rfl, hS4082.cell 1 rfl 1 rfl, hS4082.cell 1 rfl 2 rfl, trivial⟩, ?_⟩
      obtain ⟨t4085, ht4086, hx4075⟩ := bind_some hx4075
      refine WL.call (some 13) 69 #[(.slice A4083 t4078.length c4084), (.agg #[(.int .i64 2), (.int .i64 2), (.slice (some ⟨g2566, 0, none⟩) [0, 1, 1, 0].length 4)])] (fun fb => by kernel_rfl) (tile_Repeats_calls _ t4078 (Pattern.mk 2 2 [0, 1, 1, 0]) A4083 c4084 (some ⟨g2566, 0, none⟩) 4 t4085 _ (hS4082.ow 0).ofO (hS4082.ow 4).ofO ht4086) (fun v w4087 hR4088 => ?_)
      obtain ⟨rfl, hk_⟩ := hR4088
      have hS4089 := hS4082.keepN hk_
      refine ⟨⟨hS4089.cell 1 rfl 2 rfl, hS4089.cell 1 rfl 0 rfl, hS4089.cell 1 rfl 1 rfl, hS4089.cell 1 rfl 2 rfl, trivial⟩, ?_⟩
      refine seg 4 [] [2, 3, 14] [(2, (.pointer (some ⟨g3054, 0, none⟩))), (3, (.int .i64 t3047.2)), (14, (.bool t4085))] [] (fun fb => by kernel_rfl) rfl trivial ?_
      obtain ⟨x4108, hx4109, hx4075⟩ := bind_some hx4075
      refine WL.cutW (T := Bool) 10 (fun t => [(2, (.pointer (some ⟨g3054, 0, none⟩))), (3, (.int .i64 t3047.2)), (20, (.bool t))]) (fun t w1 => (St NoS w w1 [] [blk g3054 (.cells #[(.int .i64 t3047.1.Width), (.int .i64 t3047.1.Height), (.slice A3052 t3047.1.Cells.length c3053)] 31 (0, 0)), rowO 3 encInt A3052 c3053 t3047.1.Cells] ∧ x4108 = t) ∧ CellsOK [] w1) (fun K => ?_) ?_
      ·
        rcases br_some hx4109 with ⟨h4110, hx4109⟩ | ⟨h4110, hx4109⟩
        ·
          refine WL.setB 14 h4110 rfl ?_
          obtain ⟨t4111, ht4112, hx4109⟩ := bind_some hx4109
          refine WL.call (some 15) 70 #[] (fun fb => by kernel_rfl) (top_chess_calls t4111 _ ht4112) (fun v w4113 hR4114 => ?_)
          obtain ⟨A4116, c4117, rfl, hk_⟩ := hR4114
          have hS4115 : St NoS w w4113 [] [rowO 65 enc_Tile A4116 c4117 t4111, rowO 65 enc_Tile A4083 c4084 t4078, blk g3054 (.cells #[(.int .i64 t3047.1.Width), (.int .i64 t3047.1.Height), (.slice A3052 t3047.1.Cells.length c3053)] 31 (0, 0)), rowO 3 encInt A3052 c3053 t3047.1.Cells, blk g2571 (.cells #[(.int .i64 2), (.int .i64 2), (.slice (some ⟨g2566, 0, none⟩) [0, 1, 1, 0].length 4)] 31 (0, 0)), rowO 3 encInt (some ⟨g2566, 0, none⟩) 4 [0, 1, 1, 0]] := hS4089.call hk_ [] [0, 1, 2, 3, 4] (fun g hg => hg.elim) (by simp) (by decide)
          refine ⟨⟨hS4115.cell 2 rfl 2 rfl, hS4115.cell 2 rfl 0 rfl, hS4115.cell 2 rfl 1 rfl, hS4115.cell 2 rfl 2 rfl, trivial⟩, ?_⟩
          refine WL.new hS4115 16 [] (fun g => (.slice (some ⟨g, 0, none⟩) 1 1)) (.cells #[(.int .i64 0)] 3 (0, 0)) [] (fun fb g => by kernel_rfl) trivial (fun g4118 w4119 hS4120 => ?_)
          refine ⟨⟨hS4120.cell 3 rfl 2 rfl, hS4120.cell 3 rfl 0 rfl, hS4120.cell 3 rfl 1 rfl, hS4120.cell 3 rfl 2 rfl, trivial⟩, ?_⟩
          have hS4122 : St NoS w w4119 [] [rowO 3 encInt (some ⟨g4118, 0, none⟩) 1 [0], rowO 65 enc_Tile A4116 c4117 t4111, rowO 65 enc_Tile A4083 c4084 t4078, blk g3054 (.cells #[(.int .i64 t3047.1.Width), (.int .i64 t3047.1.Height), (.slice A3052 t3047.1.Cells.length c3053)] 31 (0, 0)), rowO 3 encInt A3052 c3053 t3047.1.Cells, blk g2571 (.cells #[(.int .i64 2), (.int .i64 2), (.slice (some ⟨g2566, 0, none⟩) [0, 1, 1, 0].length 4)] 31 (0, 0)), rowO 3 encInt (some ⟨g2566, 0, none⟩) 4 [0, 1, 1, 0]] := hS4120.map1 0 _ (fun h => rowO.ofBlk h rfl (Nat.le_of_ble_eq_true (by kernel_rfl))) (fun _ h => by obtain ⟨_, h1, h2⟩ := h; injection h1 with h1; subst h1; exact h2) [1, 2, 3, 4, 5, 6] (by decide) (by decide)
          refine seg 7 [] [2, 3, 14, 15, 17] [(2, (.pointer (some ⟨g3054, 0, none⟩))), (3, (.int .i64 t3047.2)), (14, (.bool true)), (15, (.slice A4116 t4111.length c4117)), (17, (.agg #[(.int .i64 1), (.int .i64 1), (.slice (some ⟨g4118, 0, none⟩) [0].length 1)]))] [] (fun fb => by kernel_rfl) rfl trivial ?_
          obtain ⟨t4123, ht4124, hx4109⟩ := bind_some hx4109
          refine WL.call (some 18) 69 #[(.slice A4116 t4111.length c4117), (.agg #[(.int .i64 1), (.int .i64 1), (.slice (some ⟨g4118, 0, none⟩) [0].length 1)])] (fun fb => by kernel_rfl) (tile_Repeats_calls _ t4111 (Pattern.mk 1 1 [0]) A4116 c4117 (some ⟨g4118, 0, none⟩) 1 t4123 _ (hS4122.ow 1).ofO (hS4122.ow 0).ofO ht4124) (fun v w4125 hR4126 => ?_)
          obtain ⟨rfl, hk_⟩ := hR4126
          have hS4127 := hS4122.keepN hk_
          refine ⟨⟨hS4127.cell 3 rfl 2 rfl, hS4127.cell 3 rfl 0 rfl, hS4127.cell 3 rfl 1 rfl, hS4127.cell 3 rfl 2 rfl, trivial⟩, ?_⟩
          refine seg 10 [] [2, 3, 20] [(2, (.pointer (some ⟨g3054, 0, none⟩))), (3, (.int .i64 t3047.2)), (20, (.bool (!t4123)))] [] (fun fb => by kernel_rfl) rfl trivial ?_
          injection hx4109 with hx4109
          exact WL.to K (!t4123) [2, 3, 20] rfl ⟨⟨(hS4127.subR []).sub [3, 4] (by decide), hx4109.symm⟩, trivial⟩
        refine WL.setB 14 h4110 rfl ?_
        refine seg 10 [] [2, 3, 20] [(2, (.pointer (some ⟨g3054, 0, none⟩))), (3, (.int .i64 t3047.2)), (20, (.bool false))] [] (fun fb => by kernel_rfl) rfl trivial ?_
        injection hx4109 with hx4109
        exact WL.to K false [2, 3, 20] rfl ⟨⟨(hS4089.subR []).sub [1, 2] (by decide), hx4109.symm⟩, trivial⟩
      rintro y4128 w4130 ⟨⟨hS4131, hq4129⟩, hF4132⟩
      subst hq4129
      refine seg 11 [] [2, 3, 21] [(2, (.pointer (some ⟨g3054, 0, none⟩))), (3, (.int .i64 t3047.2)), (21, (.bool x4108))] [] (fun fb => by kernel_rfl) rfl trivial ?_
      refine WL.cutV (T := Bool) 14 (fun t => [(24, (.bool t)), (2, (.pointer (some ⟨g3054, 0, none⟩)))]) (fun t => t = (x4108 && (t3047.2 == 0))) (fun K => ?_) ?_
      ·
        rcases Bool.eq_false_or_eq_true x4108 with h4133 | h4133
        ·
          refine WL.setB 21 h4133 rfl ?_
          refine seg 14 [] [2, 24] [(2, (.pointer (some ⟨g3054, 0, none⟩))), (24, (.bool (t3047.2 == 0)))] [] (fun fb => by kernel_rfl) rfl trivial ?_
          exact WL.toV K (t3047.2 == 0) [24, 2] rfl (by rw [h4133]; rfl)
        refine WL.setB 21 h4133 rfl ?_
        refine seg 14 [] [2, 24] [(2, (.pointer (some ⟨g3054, 0, none⟩))), (24, (.bool false))] [] (fun fb => by kernel_rfl) rfl trivial ?_
        exact WL.toV K false [24, 2] rfl (by rw [h4133]; rfl)
      rintro b4134 rfl
      refine seg 15 [] [2, 25] [(2, (.pointer (some ⟨g3054, 0, none⟩))), (25, (.bool (x4108 && (t3047.2 == 0))))] [] (fun fb => by kernel_rfl) rfl trivial ?_
      obtain ⟨x4146, hx4147, hx4075⟩ := bind_some hx4075
      refine WL.cutW (T := Bool) 20 (fun t => [(2, (.pointer (some ⟨g3054, 0, none⟩))), (30, (.bool t))]) (fun t w1 => (St NoS w w1 [] [blk g3054 (.cells #[(.int .i64 t3047.1.Width), (.int .i64 t3047.1.Height), (.slice A3052 t3047.1.Cells.length c3053)] 31 (0, 0)), rowO 3 encInt A3052 c3053 t3047.1.Cells] ∧ x4146 = t) ∧ CellsOK [] w1) (fun K => ?_) ?_
      ·
        rcases br_some hx4147 with ⟨h4148, hx4147⟩ | ⟨h4148, hx4147⟩
        ·
          refine WL.setB 25 h4148 rfl ?_
          refine segF 17 [.v (.slice A3052 t3047.1.Cells.length c3053)] [2, 25, 27] [(2, (.pointer (some ⟨g3054, 0, none⟩))), (25, (.bool true)), (27, (.slice A3052 t3047.1.Cells.length c3053))] [] [3] [(16, ⟨g3054, 2, none⟩, (.slice A3052 t3047.1.Cells.length c3053))] (fun fb => by kernel_rfl) rfl trivial rfl ?_
          refine WL.new hS4131 28 [] (fun g => (.slice (some ⟨g, 0, none⟩) 3 3)) (.cells #[(.int .i64 0), (.int .i64 1), (.int .i64 0)] 3 (0, 0)) [] (fun fb g => by kernel_rfl) trivial (fun g4149 w4150 hS4151 => ?_)
          refine ⟨⟨hS4151.cell 1 rfl 2 rfl, hS4151.cell 1 rfl 0 rfl, hS4151.cell 1 rfl 1 rfl, hS4151.cell 1 rfl 2 rfl, trivial⟩, ?_⟩
          have hS4153 : St NoS w w4150 [] [rowO 3 encInt (some ⟨g4149, 0, none⟩) 3 [0, 1, 0], blk g3054 (.cells #[(.int .i64 t3047.1.Width), (.int .i64 t3047.1.Height), (.slice A3052 t3047.1.Cells.length c3053)] 31 (0, 0)), rowO 3 encInt A3052 c3053 t3047.1.Cells] := hS4151.map1 0 _ (fun h => rowO.ofBlk h rfl (Nat.le_of_ble_eq_true (by kernel_rfl))) (fun _ h => by obtain ⟨_, h1, h2⟩ := h; injection h1 with h1; subst h1; exact h2) [1, 2] (by decide) (by decide)
          obtain ⟨t4154, ht4155, hx4147⟩ := bind_some hx4147
          refine WL.call (some 29) 71 #[(.slice A3052 t3047.1.Cells.length c3053), (.slice (some ⟨g4149, 0, none⟩) [0, 1, 0].length 3)] (fun fb => by kernel_rfl) (top_sameInts_calls _ t3047.1.Cells [0, 1, 0] A3052 c3053 (some ⟨g4149, 0, none⟩) 3 t4154 _ (hS4153.ow 2).ofO (hS4153.ow 0).ofO ht4155) (fun v w4156 hR4157 => ?_)
          obtain ⟨rfl, hk_⟩ := hR4157
          have hS4158 := hS4153.keepN hk_
          refine ⟨⟨hS4158.cell 1 rfl 0 rfl, hS4158.cell 1 rfl 1 rfl, hS4158.cell 1 rfl 2 rfl, trivial⟩, ?_⟩
          refine seg 20 [] [2, 30] [(2, (.pointer (some ⟨g3054, 0, none⟩))), (30, (.bool t4154))] [] (fun fb => by kernel_rfl) rfl trivial ?_
          injection hx4147 with hx4147
          exact WL.to K t4154 [2, 30] rfl ⟨⟨(hS4158.subR []).sub [1, 2] (by decide), hx4147.symm⟩, trivial⟩
        refine WL.setB 25 h4148 rfl ?_
        refine seg 20 [] [2, 30] [(2, (.pointer (some ⟨g3054, 0, none⟩))), (30, (.bool false))] [] (fun fb => by kernel_rfl) rfl trivial ?_
        injection hx4147 with hx4147
        exact WL.to K false [2, 30] rfl ⟨⟨(hS4131.subR []).sub [0, 1] (by decide), hx4147.symm⟩, trivial⟩
      rintro y4159 w4161 ⟨⟨hS4162, hq4160⟩, hF4163⟩
      subst hq4160
      refine seg 21 [] [2, 31] [(2, (.pointer (some ⟨g3054, 0, none⟩))), (31, (.bool x4146))] [] (fun fb => by kernel_rfl) rfl trivial ?_
      obtain ⟨x4177, hx4178, hx4075⟩ := bind_some hx4075
      refine WL.cutW (T := Bool) 25 (fun t => [(35, (.bool t))]) (fun t w1 => (St NoS w w1 [] [] ∧ x4177 = t) ∧ CellsOK [] w1) (fun K => ?_) ?_
      ·
        rcases br_some hx4178 with ⟨h4179, hx4178⟩ | ⟨h4179, hx4178⟩
        ·
          refine WL.setB 31 h4179 rfl ?_
          refine segF 22 [.v (.int .i64 t3047.1.Width), .v (.int .i64 t3047.1.Height), .v (.slice A3052 t3047.1.Cells.length c3053)] [31, 33] [(31, (.bool true)), (33, (.agg #[(.int .i64 t3047.1.Width), (.int .i64 t3047.1.Height), (.slice A3052 t3047.1.Cells.length c3053)]))] [] [4, 5, 6] [(22, ⟨g3054, 0, none⟩, (.int .i64 t3047.1.Width)), (22, ⟨g3054, 1, none⟩, (.int .i64 t3047.1.Height)), (22, ⟨g3054, 2, none⟩, (.slice A3052 t3047.1.Cells.length c3053))] (fun fb => by kernel_rfl) rfl trivial rfl ?_
          obtain ⟨t4180, ht4181, hx4178⟩ := bind_some hx4178
          refine WL.call (some 32) 70 #[] (fun fb => by kernel_rfl) (top_chess_calls t4180 _ ht4181) (fun v w4182 hR4183 => ?_)
          obtain ⟨A4185, c4186, rfl, hk_⟩ := hR4183
          have hS4184 : St NoS w w4182 [] [rowO 65 enc_Tile A4185 c4186 t4180, blk g3054 (.cells #[(.int .i64 t3047.1.Width), (.int .i64 t3047.1.Height), (.slice A3052 t3047.1.Cells.length c3053)] 31 (0, 0)), rowO 3 encInt A3052 c3053 t3047.1.Cells] := hS4162.call hk_ [] [0, 1] (fun g hg => hg.elim) (by simp) (by decide)
          refine ⟨⟨hS4184.cell 1 rfl 0 rfl, hS4184.cell 1 rfl 1 rfl, hS4184.cell 1 rfl 2 rfl, trivial⟩, ?_⟩
          obtain ⟨t4187, ht4188, hx4178⟩ := bind_some hx4178
          refine WL.call (some 34) 33 #[(.slice A4185 t4180.length c4186), (.agg #[(.int .i64 t3047.1.Width), (.int .i64 t3047.1.Height), (.slice A3052 t3047.1.Cells.length c3053)])] (fun fb => by kernel_rfl) (tile_Fits_calls _ t4180 t3047.1 A4185 c4186 A3052 c3053 t4187 _ (hS4184.ow 0).ofO (hS4184.ow 2).ofO ht4188) (fun v w4189 hR4190 => ?_)
          obtain ⟨rfl, hk_⟩ := hR4190
          have hS4191 := hS4184.keepN hk_
          refine ⟨trivial, ?_⟩
          refine seg 25 [] [35] [(35, (.bool t4187))] [] (fun fb => by kernel_rfl) rfl trivial ?_
          injection hx4178 with hx4178
          exact WL.to K t4187 [35] rfl ⟨⟨(hS4191.subR []).sub [] (by decide), hx4178.symm⟩, trivial⟩
        refine WL.setB 31 h4179 rfl ?_
        refine seg 25 [] [35] [(35, (.bool false))] [] (fun fb => by kernel_rfl) rfl trivial ?_
        injection hx4178 with hx4178
        exact WL.to K false [35] rfl ⟨⟨(hS4162.subR []).sub [] (by decide), hx4178.symm⟩, trivial⟩
      rintro y4192 w4194 ⟨⟨hS4195, hq4193⟩, hF4196⟩
      subst hq4193
      refine seg 26 [] [0] [(0, (.bool x4177))] [] (fun fb => by kernel_rfl) rfl trivial ?_
      refine WL.done rfl ?_
      injection hx4075 with hx4075
      exact WX.to Kx4074 x4177 [0] rfl ⟨(hS4195.subR []).sub [] (by decide), hx4075.symm⟩
    refine segF 1 [.v (.int .i64 2), .v (.int .i64 2), .v (.slice (some ⟨g2566, 0, none⟩) [0, 1, 1, 0].length 4)] [2, 3, 12] [(2, (.pointer (some ⟨g3054, 0, none⟩))), (3, (.int .i64 t3047.2)), (12, (.agg #[(.int .i64 2), (.int .i64 2), (.slice (some ⟨g2566, 0, none⟩) [0, 1, 1, 0].length 4)]))] [] [0, 1, 2] [(1, ⟨g2571, 0, none⟩, (.int .i64 2)), (1, ⟨g2571, 1, none⟩, (.int .i64 2)), (1, ⟨g2571, 2, none⟩, (.slice (some ⟨g2566, 0, none⟩) [0, 1, 1, 0].length 4))] (fun fb => by kernel_rfl) rfl trivial rfl ?_
    obtain ⟨t4197, ht4198, hx4075⟩ := bind_some hx4075
    refine WL.call (some 11) 70 #[] (fun fb => by kernel_rfl) (top_chess_calls t4197 _ ht4198) (fun v w4199 hR4200 => ?_)
    obtain ⟨A4202, c4203, rfl, hk_⟩ := hR4200
    have hS4201 : St NoS w w4199 [] [rowO 65 enc_Tile A4202 c4203 t4197, blk g3054 (.cells #[(.int .i64 t3047.1.Width), (.int .i64 t3047.1.Height), (.slice A3052 t3047.1.Cells.length c3053)] 31 (0, 0)), rowO 3 encInt A3052 c3053 t3047.1.Cells, blk g2571 (.cells #[(.int .i64 2), (.int .i64 2), (.slice (some ⟨g2566, 0, none⟩) [0, 1, 1, 0].length 4)] 31 (0, 0)), rowO 3 encInt (some ⟨g2566, 0, none⟩) 4 [0, 1, 1, 0]] := hS4077.call hk_ [] [0, 1, 2, 3] (fun g hg => hg.elim) (by simp) (by decide)
    refine ⟨⟨hS4201.cell 3 rfl 0 rfl, hS4201.cell 3 rfl 1 rfl, hS4201.cell 3 rfl 2 rfl, hS4201.cell 1 rfl 2 rfl, hS4201.cell 1 rfl 0 rfl, hS4201.cell 1 rfl 1 rfl, hS4201.cell 1 rfl 2 rfl, trivial⟩, ?_⟩
    obtain ⟨t4204, ht4205, hx4075⟩ := bind_some hx4075
    refine WL.call (some 13) 69 #[(.slice A4202 t4197.length c4203), (.agg #[(.int .i64 2), (.int .i64 2), (.slice (some ⟨g2566, 0, none⟩) [0, 1, 1, 0].length 4)])] (fun fb => by kernel_rfl) (tile_Repeats_calls _ t4197 (Pattern.mk 2 2 [0, 1, 1, 0]) A4202 c4203 (some ⟨g2566, 0, none⟩) 4 t4204 _ (hS4201.ow 0).ofO (hS4201.ow 4).ofO ht4205) (fun v w4206 hR4207 => ?_)
    obtain ⟨rfl, hk_⟩ := hR4207
    have hS4208 := hS4201.keepN hk_
    refine ⟨⟨hS4208.cell 1 rfl 2 rfl, hS4208.cell 1 rfl 0 rfl, hS4208.cell 1 rfl 1 rfl, hS4208.cell 1 rfl 2 rfl, trivial⟩, ?_⟩
    refine seg 4 [] [2, 3, 14] [(2, (.pointer (some ⟨g3054, 0, none⟩))), (3, (.int .i64 t3047.2)), (14, (.bool t4204))] [] (fun fb => by kernel_rfl) rfl trivial ?_
    obtain ⟨x4227, hx4228, hx4075⟩ := bind_some hx4075
    refine WL.cutW (T := Bool) 10 (fun t => [(2, (.pointer (some ⟨g3054, 0, none⟩))), (3, (.int .i64 t3047.2)), (20, (.bool t))]) (fun t w1 => (St NoS w w1 [] [blk g3054 (.cells #[(.int .i64 t3047.1.Width), (.int .i64 t3047.1.Height), (.slice A3052 t3047.1.Cells.length c3053)] 31 (0, 0)), rowO 3 encInt A3052 c3053 t3047.1.Cells] ∧ x4227 = t) ∧ CellsOK [] w1) (fun K => ?_) ?_
    ·
      rcases br_some hx4228 with ⟨h4229, hx4228⟩ | ⟨h4229, hx4228⟩
      ·
        refine WL.setB 14 h4229 rfl ?_
        refine WL.new hS4208 16 [] (fun g => (.slice (some ⟨g, 0, none⟩) 1 1)) (.cells #[(.int .i64 0)] 3 (0, 0)) [] (fun fb g => by kernel_rfl) trivial (fun g4230 w4231 hS4232 => ?_)
        refine ⟨⟨hS4232.cell 2 rfl 2 rfl, hS4232.cell 2 rfl 0 rfl, hS4232.cell 2 rfl 1 rfl, hS4232.cell 2 rfl 2 rfl, trivial⟩, ?_⟩
        have hS4234 : St NoS w w4231 [] [rowO 3 encInt (some ⟨g4230, 0, none⟩) 1 [0], rowO 65 enc_Tile A4202 c4203 t4197, blk g3054 (.cells #[(.int .i64 t3047.1.Width), (.int .i64 t3047.1.Height), (.slice A3052 t3047.1.Cells.length c3053)] 31 (0, 0)), rowO 3 encInt A3052 c3053 t3047.1.Cells, blk g2571 (.cells #[(.int .i64 2), (.int .i64 2), (.slice (some ⟨g2566, 0, none⟩) [0, 1, 1, 0].length 4)] 31 (0, 0)), rowO 3 encInt (some ⟨g2566, 0, none⟩) 4 [0, 1, 1, 0]] := hS4232.map1 0 _ (fun h => rowO.ofBlk h rfl (Nat.le_of_ble_eq_true (by kernel_rfl))) (fun _ h => by obtain ⟨_, h1, h2⟩ := h; injection h1 with h1; subst h1; exact h2) [1, 2, 3, 4, 5] (by decide) (by decide)
        refine seg 6 [] [2, 3, 14, 17] [(2, (.pointer (some ⟨g3054, 0, none⟩))), (3, (.int .i64 t3047.2)), (14, (.bool true)), (17, (.agg #[(.int .i64 1), (.int .i64 1), (.slice (some ⟨g4230, 0, none⟩) [0].length 1)]))] [] (fun fb => by kernel_rfl) rfl trivial ?_
        obtain ⟨t4235, ht4236, hx4228⟩ := bind_some hx4228
        refine WL.call (some 15) 70 #[] (fun fb => by kernel_rfl) (top_chess_calls t4235 _ ht4236) (fun v w4237 hR4238 => ?_)
        obtain ⟨A4240, c4241, rfl, hk_⟩ := hR4238
        have hS4239 : St NoS w w4237 [] [rowO 65 enc_Tile A4240 c4241 t4235, rowO 3 encInt (some ⟨g4230, 0, none⟩) 1 [0], rowO 65 enc_Tile A4202 c4203 t4197, blk g3054 (.cells #[(.int .i64 t3047.1.Width), (.int .i64 t3047.1.Height), (.slice A3052 t3047.1.Cells.length c3053)] 31 (0, 0)), rowO 3 encInt A3052 c3053 t3047.1.Cells, blk g2571 (.cells #[(.int .i64 2), (.int .i64 2), (.slice (some ⟨g2566, 0, none⟩) [0, 1, 1, 0].length 4)] 31 (0, 0)), rowO 3 encInt (some ⟨g2566, 0, none⟩) 4 [0, 1, 1, 0]] := hS4234.call hk_ [] [0, 1, 2, 3, 4, 5] (fun g hg => hg.elim) (by simp) (by decide)
        refine ⟨⟨hS4239.cell 3 rfl 2 rfl, hS4239.cell 3 rfl 0 rfl, hS4239.cell 3 rfl 1 rfl, hS4239.cell 3 rfl 2 rfl, trivial⟩, ?_⟩
        obtain ⟨t4242, ht4243, hx4228⟩ := bind_some hx4228
        refine WL.call (some 18) 69 #[(.slice A4240 t4235.length c4241), (.agg #[(.int .i64 1), (.int .i64 1), (.slice (some ⟨g4230, 0, none⟩) [0].length 1)])] (fun fb => by kernel_rfl) (tile_Repeats_calls _ t4235 (Pattern.mk 1 1 [0]) A4240 c4241 (some ⟨g4230, 0, none⟩) 1 t4242 _ (hS4239.ow 0).ofO (hS4239.ow 1).ofO ht4243) (fun v w4244 hR4245 => ?_)
        obtain ⟨rfl, hk_⟩ := hR4245
        have hS4246 := hS4239.keepN hk_
        refine ⟨⟨hS4246.cell 3 rfl 2 rfl, hS4246.cell 3 rfl 0 rfl, hS4246.cell 3 rfl 1 rfl, hS4246.cell 3 rfl 2 rfl, trivial⟩, ?_⟩
        refine seg 10 [] [2, 3, 20] [(2, (.pointer (some ⟨g3054, 0, none⟩))), (3, (.int .i64 t3047.2)), (20, (.bool (!t4242)))] [] (fun fb => by kernel_rfl) rfl trivial ?_
        injection hx4228 with hx4228
        exact WL.to K (!t4242) [2, 3, 20] rfl ⟨⟨(hS4246.subR []).sub [3, 4] (by decide), hx4228.symm⟩, trivial⟩
      refine WL.setB 14 h4229 rfl ?_
      refine seg 10 [] [2, 3, 20] [(2, (.pointer (some ⟨g3054, 0, none⟩))), (3, (.int .i64 t3047.2)), (20, (.bool false))] [] (fun fb => by kernel_rfl) rfl trivial ?_
      injection hx4228 with hx4228
      exact WL.to K false [2, 3, 20] rfl ⟨⟨(hS4208.subR []).sub [1, 2] (by decide), hx4228.symm⟩, trivial⟩
    rintro y4247 w4249 ⟨⟨hS4250, hq4248⟩, hF4251⟩
    subst hq4248
    refine seg 11 [] [2, 3, 21] [(2, (.pointer (some ⟨g3054, 0, none⟩))), (3, (.int .i64 t3047.2)), (21, (.bool x4227))] [] (fun fb => by kernel_rfl) rfl trivial ?_
    refine WL.cutV (T := Bool) 14 (fun t => [(24, (.bool t)), (2, (.pointer (some ⟨g3054, 0, none⟩)))]) (fun t => t = (x4227 && (t3047.2 == 0))) (fun K => ?_) ?_
    ·
      rcases Bool.eq_false_or_eq_true x4227 with h4252 | h4252
      ·
        refine WL.setB 21 h4252 rfl ?_
        refine seg 14 [] [2, 24] [(2, (.pointer (some ⟨g3054, 0, none⟩))), (24, (.bool (t3047.2 == 0)))] [] (fun fb => by kernel_rfl) rfl trivial ?_
        exact WL.toV K (t3047.2 == 0) [24, 2] rfl (by rw [h4252]; rfl)
      refine WL.setB 21 h4252 rfl ?_
      refine seg 14 [] [2, 24] [(2, (.pointer (some ⟨g3054, 0, none⟩))), (24, (.bool false))] [] (fun fb => by kernel_rfl) rfl trivial ?_
      exact WL.toV K false [24, 2] rfl (by rw [h4252]; rfl)
    rintro b4253 rfl
    refine seg 15 [] [2, 25] [(2, (.pointer (some ⟨g3054, 0, none⟩))), (25, (.bool (x4227 && (t3047.2 == 0))))] [] (fun fb => by kernel_rfl) rfl trivial ?_
    obtain ⟨x4265, hx4266, hx4075⟩ := bind_some hx4075
    refine WL.cutW (T := Bool) 20 (fun t => [(2, (.pointer (some ⟨g3054, 0, none⟩))), (30, (.bool t))]) (fun t w1 => (St NoS w w1 [] [blk g3054 (.cells #[(.int .i64 t3047.1.Width), (.int .i64 t3047.1.Height), (.slice A3052 t3047.1.Cells.length c3053)] 31 (0, 0)), rowO 3 encInt A3052 c3053 t3047.1.Cells] ∧ x4265 = t) ∧ CellsOK [] w1) (fun K => ?_) ?_
    ·
      rcases br_some hx4266 with ⟨h4267, hx4266⟩ | ⟨h4267, hx4266⟩
      ·
        refine WL.setB 25 h4267 rfl ?_
        refine segF 17 [.v (.slice A3052 t3047.1.Cells.length c3053)] [2, 25, 27] [(2, (.pointer (some ⟨g3054, 0, none⟩))), (25, (.bool true)), (27, (.slice A3052 t3047.1.Cells.length c3053))] [] [3] [(16, ⟨g3054, 2, none⟩, (.slice A3052 t3047.1.Cells.length c3053))] (fun fb => by kernel_rfl) rfl trivial rfl ?_
        refine WL.new hS4250 28 [] (fun g => (.slice (some ⟨g, 0, none⟩) 3 3)) (.cells #[(.int .i64 0), (.int .i64 1), (.int .i64 0)] 3 (0, 0)) [] (fun fb g => by kernel_rfl) trivial (fun g4268 w4269 hS4270 => ?_)
        refine ⟨⟨hS4270.cell 1 rfl 2 rfl, hS4270.cell 1 rfl 0 rfl, hS4270.cell 1 rfl 1 rfl, hS4270.cell 1 rfl 2 rfl, trivial⟩, ?_⟩
        have hS4272 : St NoS w w4269 [] [rowO 3 encInt (some ⟨g4268, 0, none⟩) 3 [0, 1, 0], blk g3054 (.cells #[(.int .i64 t3047.1.Width), (.int .i64 t3047.1.Height), (.slice A3052 t3047.1.Cells.length c3053)] 31 (0, 0)), rowO 3 encInt A3052 c3053 t3047.1.Cells] := hS4270.map1 0 _ (fun h => rowO.ofBlk h rfl (Nat.le_of_ble_eq_true (by kernel_rfl))) (fun _ h => by obtain ⟨_, h1, h2⟩ := h; injection h1 with h1; subst h1; exact h2) [1, 2] (by decide) (by decide)
        obtain ⟨t4273, ht4274, hx4266⟩ := bind_some hx4266
        refine WL.call (some 29) 71 #[(.slice A3052 t3047.1.Cells.length c3053), (.slice (some ⟨g4268, 0, none⟩) [0, 1, 0].length 3)] (fun fb => by kernel_rfl) (top_sameInts_calls _ t3047.1.Cells [0, 1, 0] A3052 c3053 (some ⟨g4268, 0, none⟩) 3 t4273 _ (hS4272.ow 2).ofO (hS4272.ow 0).ofO ht4274) (fun v w4275 hR4276 => ?_)
        obtain ⟨rfl, hk_⟩ := hR4276
        have hS4277 := hS4272.keepN hk_
        refine ⟨⟨hS4277.cell 1 rfl 0 rfl, hS4277.cell 1 rfl 1 rfl, hS4277.cell 1 rfl 2 rfl, trivial⟩, ?_⟩
        refine seg 20 [] [2, 30] [(2, (.pointer (some ⟨g3054, 0, none⟩))), (30, (.bool t4273))] [] (fun fb => by kernel_rfl) rfl trivial ?_
        injection hx4266 with hx4266
        exact WL.to K t4273 [2, 30] rfl ⟨⟨(hS4277.subR []).sub [1, 2] (by decide), hx4266.symm⟩, trivial⟩
      refine WL.setB 25 h4267 rfl ?_
      refine seg 20 [] [2, 30] [(2, (.pointer (some ⟨g3054, 0, none⟩))), (30, (.bool false))] [] (fun fb => by kernel_rfl) rfl trivial ?_
      injection hx4266 with hx4266
      exact WL.to K false [2, 30] rfl ⟨⟨(hS4250.subR []).sub [0, 1] (by decide), hx4266.symm⟩, trivial⟩
    rintro y4278 w4280 ⟨⟨hS4281, hq4279⟩, hF4282⟩
    subst hq4279
    refine seg 21 [] [2, 31] [(2, (.pointer (some ⟨g3054, 0, none⟩))), (31, (.bool x4265))] [] (fun fb => by kernel_rfl) rfl trivial ?_
    obtain ⟨x4296, hx4297, hx4075⟩ := bind_some hx4075
    refine WL.cutW (T := Bool) 25 (fun t => [(35, (.bool t))]) (fun t w1 => (St NoS w w1 [] [] ∧ x4296 = t) ∧ CellsOK [] w1) (fun K => ?_) ?_
    ·
      rcases br_some hx4297 with ⟨h4298, hx4297⟩ | ⟨h4298, hx4297⟩
      ·
        refine WL.setB 31 h4298 rfl ?_
        refine segF 22 [.v (.int .i64 t3047.1.Width), .v (.int .i64 t3047.1.Height), .v (.slice A3052 t3047.1.Cells.length c3053)] [31, 33] [(31, (.bool true)), (33, (.agg #[(.int .i64 t3047.1.Width), (.int .i64 t3047.1.Height), (.slice A3052 t3047.1.Cells.length c3053)]))] [] [4, 5, 6] [(22, ⟨g3054, 0, none⟩, (.int .i64 t3047.1.Width)), (22, ⟨g3054, 1, none⟩, (.int .i64 t3047.1.Height)), (22, ⟨g3054, 2, none⟩, (.slice A3052 t3047.1.Cells.length c3053))] (fun fb => by kernel_rfl) rfl trivial rfl ?_
        obtain ⟨t4299, ht4300, hx4297⟩ := bind_some hx4297
        refine WL.call (some 32) 70 #[] (fun fb => by kernel_rfl) (top_chess_calls t4299 _ ht4300) (fun v w4301 hR4302 => ?_)
        obtain ⟨A4304, c4305, rfl, hk_⟩ := hR4302
        have hS4303 : St NoS w w4301 [] [rowO 65 enc_Tile A4304 c4305 t4299, blk g3054 (.cells #[(.int .i64 t3047.1.Width), (.int .i64 t3047.1.Height), (.slice A3052 t3047.1.Cells.length c3053)] 31 (0, 0)), rowO 3 encInt A3052 c3053 t3047.1.Cells] := hS4281.call hk_ [] [0, 1] (fun g hg => hg.elim) (by simp) (by decide)
        refine ⟨⟨hS4303.cell 1 rfl 0 rfl, hS4303.cell 1 rfl 1 rfl, hS4303.cell 1 rfl 2 rfl, trivial⟩, ?_⟩
        obtain ⟨t4306, ht4307, hx4297⟩ := bind_some hx4297
        refine WL.call (some 34) 33 #[(.slice A4304 t4299.length c4305), (.agg #[(.int .i64 t3047.1.Width), (.int .i64 t3047.1.Height), (.slice A3052 t3047.1.Cells.length c3053)])] (fun fb => by kernel_rfl) (tile_Fits_calls _ t4299 t3047.1 A4304 c4305 A3052 c3053 t4306 _ (hS4303.ow 0).ofO (hS4303.ow 2).ofO ht4307) (fun v w4308 hR4309 => ?_)
        obtain ⟨rfl, hk_⟩ := hR4309
        have hS4310 := hS4303.keepN hk_
        refine ⟨trivial, ?_⟩
        refine seg 25 [] [35] [(35, (.bool t4306))] [] (fun fb => by kernel_rfl) rfl trivial ?_
        injection hx4297 with hx4297
        exact WL.to K t4306 [35] rfl ⟨⟨(hS4310.subR []).sub [] (by decide), hx4297.symm⟩, trivial⟩
      refine WL.setB 31 h4298 rfl ?_
      refine seg 25 [] [35] [(35, (.bool false))] [] (fun fb => by kernel_rfl) rfl trivial ?_
      injection hx4297 with hx4297
      exact WL.to K false [35] rfl ⟨⟨(hS4281.subR []).sub [] (by decide), hx4297.symm⟩, trivial⟩
    rintro y4311 w4313 ⟨⟨hS4314, hq4312⟩, hF4315⟩
    subst hq4312
    refine seg 26 [] [0] [(0, (.bool x4296))] [] (fun fb => by kernel_rfl) rfl trivial ?_
    refine WL.done rfl ?_
    injection hx4075 with hx4075
    exact WX.to Kx4074 x4296 [0] rfl ⟨(hS4314.subR []).sub [] (by decide), hx4075.symm⟩
  rintro y4319 w4316 ⟨hS4317, hq4318⟩
  subst hq4318
  refine WX.next ?_
  refine WC.ret ?_
  injection hf with hf
  subst hf
  exact WX.ret_ [] (.bool x4074) [] (fun fb => by kernel_rfl) trivial ⟨_, rfl, rfl, hS4317.keep⟩
theorem top_steps_calls (k : Nat)   (r : Bool) (w : World)  (hf : top_steps k = some r) :
    CallsR Try.prog 34 #[] w (fun v w' => v = (.bool r) ∧ Keeps NoS w w') := by
  have hS : St NoS w w [] [] := St.init (ro_nil _ _)
  refine enter 44 Try.func34 rfl Try.ntmps34 rfl ?_
  unfold top_steps at hf
  refine WC.seq ?_
  refine WC.region ?_
  refine seg 1 [] [] [] [] (fun fb => by kernel_rfl) rfl trivial ?_
  refine WL.done rfl ?_
  refine WX.next ?_
  refine WC.seq ?_
  refine WC.region ?_
  obtain ⟨t1589, ht1590, hf⟩ := bind_some hf
  refine WL.call (some 6) 58 #[] (fun fb => by kernel_rfl) (top_runner_calls t1589 _ ht1590) (fun v w1591 hR1592 => ?_)
  obtain ⟨A1594, c1595, rfl, hk_⟩ := hR1592
  have hS1593 : St NoS w w1591 [] [rowO 88 enc_Action A1594 c1595 t1589.Actions] := hS.call hk_ [] [] (fun g hg => hg.elim) (by simp) (by decide)
  refine ⟨trivial, ?_⟩
  refine WL.new hS1593 7 [] (fun g => (.slice (some ⟨g, 0, none⟩) 3 3)) (.cells #[(.int .i64 0), (.int .i64 0), (.int .i64 0)] 3 (0, 0)) [] (fun fb g => by kernel_rfl) trivial (fun g1596 w1597 hS1598 => ?_)
  refine ⟨trivial, ?_⟩
  have hS1600 : St NoS w w1597 [] [rowO 3 encInt (some ⟨g1596, 0, none⟩) 3 [0, 0, 0], rowO 88 enc_Action A1594 c1595 t1589.Actions] := hS1598.map1 0 _ (fun h => rowO.ofBlk h rfl (Nat.le_of_ble_eq_true (by kernel_rfl))) (fun _ h => by obtain ⟨_, h1, h2⟩ := h; injection h1 with h1; subst h1; exact h2) [1] (by decide) (by decide)
  refine seg 3 [] [6, 8] [(6, (.agg #[(.int .i64 t1589.States), (.int .i64 t1589.Symbols), (.slice A1594 t1589.Actions.length c1595)])), (8, (.agg #[(.int .i64 0), (.int .i64 0), (.slice (some ⟨g1596, 0, none⟩) [0, 0, 0].length 3)]))] [] (fun fb => by kernel_rfl) rfl trivial ?_
  obtain ⟨t2520, ht2521, hf⟩ := bind_some hf
  refine WL.call (some 9) 12 #[(.agg #[(.int .i64 t1589.States), (.int .i64 t1589.Symbols), (.slice A1594 t1589.Actions.length c1595)]), (.agg #[(.int .i64 0), (.int .i64 0), (.slice (some ⟨g1596, 0, none⟩) [0, 0, 0].length 3)]), (.int .i64 2)] (fun fb => by kernel_rfl) (machine_Picture_calls _ t1589 (Config.mk 0 0 [0, 0, 0]) 2 A1594 c1595 (some ⟨g1596, 0, none⟩) 3 t2520 _ (hS1600.ow 1).ofO (hS1600.ow 0).ofO ht2521) (fun v w2522 hR2523 => ?_)
  obtain ⟨A2525, c2526, rfl, hk_⟩ := hR2523
  have hS2524 : St NoS w w2522 [] [rowO 3 encInt A2525 c2526 t2520.1.Cells, rowO 3 encInt (some ⟨g1596, 0, none⟩) 3 [0, 0, 0], rowO 88 enc_Action A1594 c1595 t1589.Actions] := hS1600.call hk_ [] [0, 1] (fun g hg => hg.elim) (by simp) (by decide)
  refine ⟨trivial, ?_⟩
  refine seg 7 [] [10, 11] [(10, (.agg #[(.int .i64 t2520.1.Width), (.int .i64 t2520.1.Height), (.slice A2525 t2520.1.Cells.length c2526)])), (11, (.int .i64 t2520.2))] [] (fun fb => by kernel_rfl) rfl trivial ?_
  refine WL.new hS2524 1 [] (fun g => (.pointer (some ⟨g, 0, none⟩))) (.cells #[(.int .i64 0), (.int .i64 0), (.slice none 0 0)] 31 (0, 0)) [] (fun fb g => by kernel_rfl) trivial (fun g2527 w2528 hS2529 => ?_)
  refine ⟨trivial, ?_⟩
  refine WL.store hS2529 0 rfl [(0, (.int .i64 t2520.1.Width)), (1, (.int .i64 t2520.1.Height)), (2, (.slice A2525 t2520.1.Cells.length c2526))] #[(.int .i64 t2520.1.Width), (.int .i64 t2520.1.Height), (.slice A2525 t2520.1.Cells.length c2526)] (fun fb => by kernel_rfl) (by kernel_rfl) rfl [1, 2, 3] (by decide) (by decide) (fun w2531 hS2532 => ?_)
  refine ⟨trivial, ?_⟩
  refine seg 10 [] [1, 2] [(1, (.pointer (some ⟨g2527, 0, none⟩))), (2, (.int .i64 t2520.2))] [] (fun fb => by kernel_rfl) rfl trivial ?_
  refine WL.done rfl ?_
  refine WX.next ?_
  refine WC.seq ?_
  refine WC.region ?_
  obtain ⟨t2533, ht2534, hf⟩ := bind_some hf
  refine WL.call (some 13) 58 #[] (fun fb => by kernel_rfl) (top_runner_calls t2533 _ ht2534) (fun v w2535 hR2536 => ?_)
  obtain ⟨A2538, c2539, rfl, hk_⟩ := hR2536
  have hS2537 : St NoS w w2535 [] [rowO 88 enc_Action A2538 c2539 t2533.Actions, blk g2527 (.cells #[(.int .i64 t2520.1.Width), (.int .i64 t2520.1.Height), (.slice A2525 t2520.1.Cells.length c2526)] 31 (0, 0)), rowO 3 encInt A2525 c2526 t2520.1.Cells, rowO 3 encInt (some ⟨g1596, 0, none⟩) 3 [0, 0, 0], rowO 88 enc_Action A1594 c1595 t1589.Actions] := hS2532.call hk_ [] [0, 1, 2, 3] (fun g hg => hg.elim) (by simp) (by decide)
  refine ⟨trivial, ?_⟩
  refine WL.new hS2537 14 [] (fun g => (.slice (some ⟨g, 0, none⟩) 3 3)) (.cells #[(.int .i64 0), (.int .i64 0), (.int .i64 0)] 3 (0, 0)) [] (fun fb g => by kernel_rfl) trivial (fun g2540 w2541 hS2542 => ?_)
  refine ⟨trivial, ?_⟩
  have hS2544 : St NoS w w2541 [] [rowO 3 encInt (some ⟨g2540, 0, none⟩) 3 [0, 0, 0], rowO 88 enc_Action A2538 c2539 t2533.Actions, blk g2527 (.cells #[(.int .i64 t2520.1.Width), (.int .i64 t2520.1.Height), (.slice A2525 t2520.1.Cells.length c2526)] 31 (0, 0)), rowO 3 encInt A2525 c2526 t2520.1.Cells, rowO 3 encInt (some ⟨g1596, 0, none⟩) 3 [0, 0, 0], rowO 88 enc_Action A1594 c1595 t1589.Actions] := hS2542.map1 0 _ (fun h => rowO.ofBlk h rfl (Nat.le_of_ble_eq_true (by kernel_rfl))) (fun _ h => by obtain ⟨_, h1, h2⟩ := h; injection h1 with h1; subst h1; exact h2) [1, 2, 3, 4, 5] (by decide) (by decide)
  refine seg 3 [] [1, 2, 13, 15] [(1, (.pointer (some ⟨g2527, 0, none⟩))), (2, (.int .i64 t2520.2)), (13, (.agg #[(.int .i64 t2533.States), (.int .i64 t2533.Symbols), (.slice A2538 t2533.Actions.length c2539)])), (15, (.agg #[(.int .i64 0), (.int .i64 0), (.slice (some ⟨g2540, 0, none⟩) [0, 0, 0].length 3)]))] [] (fun fb => by kernel_rfl) rfl trivial ?_
  obtain ⟨t2545, ht2546, hf⟩ := bind_some hf
  refine WL.call (some 16) 12 #[(.agg #[(.int .i64 t2533.States), (.int .i64 t2533.Symbols), (.slice A2538 t2533.Actions.length c2539)]), (.agg #[(.int .i64 0), (.int .i64 0), (.slice (some ⟨g2540, 0, none⟩) [0, 0, 0].length 3)]), (.int .i64 3)] (fun fb => by kernel_rfl) (machine_Picture_calls _ t2533 (Config.mk 0 0 [0, 0, 0]) 3 A2538 c2539 (some ⟨g2540, 0, none⟩) 3 t2545 _ (hS2544.ow 1).ofO (hS2544.ow 0).ofO ht2546) (fun v w2547 hR2548 => ?_)
  obtain ⟨A2550, c2551, rfl, hk_⟩ := hR2548
  have hS2549 : St NoS w w2547 [] [rowO 3 encInt A2550 c2551 t2545.1.Cells, rowO 3 encInt (some ⟨g2540, 0, none⟩) 3 [0, 0, 0], rowO 88 enc_Action A2538 c2539 t2533.Actions, blk g2527 (.cells #[(.int .i64 t2520.1.Width), (.int .i64 t2520.1.Height), (.slice A2525 t2520.1.Cells.length c2526)] 31 (0, 0)), rowO 3 encInt A2525 c2526 t2520.1.Cells, rowO 3 encInt (some ⟨g1596, 0, none⟩) 3 [0, 0, 0], rowO 88 enc_Action A1594 c1595 t1589.Actions] := hS2544.call hk_ [] [0, 1, 2, 3, 4, 5] (fun g hg => hg.elim) (by simp) (by decide)
  refine ⟨trivial, ?_⟩
  refine seg 7 [] [1, 2, 17, 18] [(1, (.pointer (some ⟨g2527, 0, none⟩))), (2, (.int .i64 t2520.2)), (17, (.agg #[(.int .i64 t2545.1.Width), (.int .i64 t2545.1.Height), (.slice A2550 t2545.1.Cells.length c2551)])), (18, (.int .i64 t2545.2))] [] (fun fb => by kernel_rfl) rfl trivial ?_
  refine WL.new hS2549 3 [] (fun g => (.pointer (some ⟨g, 0, none⟩))) (.cells #[(.int .i64 0), (.int .i64 0), (.slice none 0 0)] 31 (0, 0)) [] (fun fb g => by kernel_rfl) trivial (fun g2552 w2553 hS2554 => ?_)
  refine ⟨trivial, ?_⟩
  refine WL.store hS2554 0 rfl [(0, (.int .i64 t2545.1.Width)), (1, (.int .i64 t2545.1.Height)), (2, (.slice A2550 t2545.1.Cells.length c2551))] #[(.int .i64 t2545.1.Width), (.int .i64 t2545.1.Height), (.slice A2550 t2545.1.Cells.length c2551)] (fun fb => by kernel_rfl) (by kernel_rfl) rfl [1, 2, 3, 4, 5, 6, 7] (by decide) (by decide) (fun w2556 hS2557 => ?_)
  refine ⟨trivial, ?_⟩
  refine seg 10 [] [1, 2, 4] [(1, (.pointer (some ⟨g2527, 0, none⟩))), (2, (.int .i64 t2520.2)), (4, (.int .i64 t2545.2))] [] (fun fb => by kernel_rfl) rfl trivial ?_
  refine WL.done rfl ?_
  refine WX.next ?_
  refine WC.seq ?_
  refine WC.region ?_
  refine seg 3 [] [1, 4, 21] [(1, (.pointer (some ⟨g2527, 0, none⟩))), (4, (.int .i64 t2545.2)), (21, (.bool (t2520.2 == 0)))] [] (fun fb => by kernel_rfl) rfl trivial ?_
  refine WL.cutV (T := Bool) 6 (fun t => [(24, (.bool t)), (1, (.pointer (some ⟨g2527, 0, none⟩)))]) (fun t => t = ((t2520.2 == 0) && (t2545.2 == 6))) (fun K => ?_) ?_
  ·
    rcases Bool.eq_false_or_eq_true (t2520.2 == 0) with h2558 | h2558
    ·
      refine WL.setB 21 h2558 rfl ?_
      refine seg 6 [] [1, 24] [(1, (.pointer (some ⟨g2527, 0, none⟩))), (24, (.bool (t2545.2 == 6)))] [] (fun fb => by kernel_rfl) rfl trivial ?_
      exact WL.toV K (t2545.2 == 6) [24, 1] rfl (by rw [h2558]; rfl)
    refine WL.setB 21 h2558 rfl ?_
    refine seg 6 [] [1, 24] [(1, (.pointer (some ⟨g2527, 0, none⟩))), (24, (.bool false))] [] (fun fb => by kernel_rfl) rfl trivial ?_
    exact WL.toV K false [24, 1] rfl (by rw [h2558]; rfl)
  rintro b2559 rfl
  refine seg 7 [] [1, 25] [(1, (.pointer (some ⟨g2527, 0, none⟩))), (25, (.bool ((t2520.2 == 0) && (t2545.2 == 6))))] [] (fun fb => by kernel_rfl) rfl trivial ?_
  refine WL.cutV (T := Bool) 11 (fun t => [(29, (.bool t)), (1, (.pointer (some ⟨g2527, 0, none⟩)))]) (fun t => t = (((t2520.2 == 0) && (t2545.2 == 6)) && (t2520.1.Width == 3))) (fun K => ?_) ?_
  ·
    rcases Bool.eq_false_or_eq_true ((t2520.2 == 0) && (t2545.2 == 6)) with h2560 | h2560
    ·
      refine WL.setB 25 h2560 rfl ?_
      refine seg 11 [.v (.int .i64 t2520.1.Width)] [1, 29] [(1, (.pointer (some ⟨g2527, 0, none⟩))), (29, (.bool (t2520.1.Width == 3)))] [.cell ⟨g2527, 0, none⟩ (.int .i64 t2520.1.Width)] (fun fb => by kernel_rfl) rfl ⟨hS2557.cell 4 rfl 0 rfl, trivial⟩ ?_
      exact WL.toV K (t2520.1.Width == 3) [29, 1] rfl (by rw [h2560]; rfl)
    refine WL.setB 25 h2560 rfl ?_
    refine seg 11 [] [1, 29] [(1, (.pointer (some ⟨g2527, 0, none⟩))), (29, (.bool false))] [] (fun fb => by kernel_rfl) rfl trivial ?_
    exact WL.toV K false [29, 1] rfl (by rw [h2560]; rfl)
  rintro b2561 rfl
  refine seg 12 [] [1, 30] [(1, (.pointer (some ⟨g2527, 0, none⟩))), (30, (.bool (((t2520.2 == 0) && (t2545.2 == 6)) && (t2520.1.Width == 3))))] [] (fun fb => by kernel_rfl) rfl trivial ?_
  refine WL.cutV (T := Bool) 16 (fun t => [(34, (.bool t)), (1, (.pointer (some ⟨g2527, 0, none⟩)))]) (fun t => t = ((((t2520.2 == 0) && (t2545.2 == 6)) && (t2520.1.Width == 3)) && (t2520.1.Height == 2))) (fun K => ?_) ?_
  ·
    rcases Bool.eq_false_or_eq_true (((t2520.2 == 0) && (t2545.2 == 6)) && (t2520.1.Width == 3)) with h2562 | h2562
    ·
      refine WL.setB 30 h2562 rfl ?_
      refine seg 16 [.v (.int .i64 t2520.1.Height)] [1, 34] [(1, (.pointer (some ⟨g2527, 0, none⟩))), (34, (.bool (t2520.1.Height == 2)))] [.cell ⟨g2527, 1, none⟩ (.int .i64 t2520.1.Height)] (fun fb => by kernel_rfl) rfl ⟨hS2557.cell 4 rfl 1 rfl, trivial⟩ ?_
      exact WL.toV K (t2520.1.Height == 2) [34, 1] rfl (by rw [h2562]; rfl)
    refine WL.setB 30 h2562 rfl ?_
    refine seg 16 [] [1, 34] [(1, (.pointer (some ⟨g2527, 0, none⟩))), (34, (.bool false))] [] (fun fb => by kernel_rfl) rfl trivial ?_
    exact WL.toV K false [34, 1] rfl (by rw [h2562]; rfl)
  rintro b2563 rfl
  refine seg 17 [] [1, 35] [(1, (.pointer (some ⟨g2527, 0, none⟩))), (35, (.bool ((((t2520.2 == 0) && (t2545.2 == 6)) && (t2520.1.Width == 3)) && (t2520.1.Height == 2))))] [] (fun fb => by kernel_rfl) rfl trivial ?_
  refine WL.cutV (T := Bool) 22 (fun t => [(40, (.bool t))]) (fun t => t = (((((t2520.2 == 0) && (t2545.2 == 6)) && (t2520.1.Width == 3)) && (t2520.1.Height == 2)) && ((t2520.1.Cells.length : Int) == 6))) (fun K => ?_) ?_
  ·
    rcases Bool.eq_false_or_eq_true ((((t2520.2 == 0) && (t2545.2 == 6)) && (t2520.1.Width == 3)) && (t2520.1.Height == 2)) with h2564 | h2564
    ·
      refine WL.setB 35 h2564 rfl ?_
      refine seg 22 [.v (.slice A2525 t2520.1.Cells.length c2526)] [40] [(40, (.bool ((t2520.1.Cells.length : Int) == 6)))] [.cell ⟨g2527, 2, none⟩ (.slice A2525 t2520.1.Cells.length c2526)] (fun fb => by kernel_rfl) rfl ⟨hS2557.cell 4 rfl 2 rfl, trivial⟩ ?_
      exact WL.toV K ((t2520.1.Cells.length : Int) == 6) [40] rfl (by rw [h2564]; rfl)
    refine WL.setB 35 h2564 rfl ?_
    refine seg 22 [] [40] [(40, (.bool false))] [] (fun fb => by kernel_rfl) rfl trivial ?_
    exact WL.toV K false [40] rfl (by rw [h2564]; rfl)
  rintro b2565 rfl
  refine seg 23 [] [41] [(41, (.bool (((((t2520.2 == 0) && (t2545.2 == 6)) && (t2520.1.Width == 3)) && (t2520.1.Height == 2)) && ((t2520.1.Cells.length : Int) == 6))))] [] (fun fb => by kernel_rfl) rfl trivial ?_
  obtain ⟨x4326, hx4327, hf⟩ := bind_some hf
  refine WL.cutW (T := Bool) 25 (fun t => [(43, (.bool t))]) (fun t w1 => (St NoS w w1 [] [] ∧ x4326 = t) ∧ CellsOK [] w1) (fun K => ?_) ?_
  ·
    rcases br_some hx4327 with ⟨h4328, hx4327⟩ | ⟨h4328, hx4327⟩
    ·
      refine WL.setB 41 h4328 rfl ?_
      obtain ⟨t4329, ht4330, hx4327⟩ := bind_some hx4327
      refine WL.call (some 42) 59 #[] (fun fb => by kernel_rfl) (top_lives_calls _ t4329 _ ht4330) (fun v w4331 hR4332 => ?_)
      obtain ⟨rfl, hk_⟩ := hR4332
      have hS4333 := hS2557.keepN hk_
      refine ⟨trivial, ?_⟩
      refine seg 25 [] [43] [(43, (.bool t4329))] [] (fun fb => by kernel_rfl) rfl trivial ?_
      injection hx4327 with hx4327
      exact WL.to K t4329 [43] rfl ⟨⟨(hS4333.subR []).sub [] (by decide), hx4327.symm⟩, trivial⟩
    refine WL.setB 41 h4328 rfl ?_
    refine seg 25 [] [43] [(43, (.bool false))] [] (fun fb => by kernel_rfl) rfl trivial ?_
    injection hx4327 with hx4327
    exact WL.to K false [43] rfl ⟨⟨(hS2557.subR []).sub [] (by decide), hx4327.symm⟩, trivial⟩
  rintro y4334 w4336 ⟨⟨hS4337, hq4335⟩, hF4338⟩
  subst hq4335
  refine seg 26 [] [0] [(0, (.bool x4326))] [] (fun fb => by kernel_rfl) rfl trivial ?_
  refine WL.done rfl ?_
  refine WX.next ?_
  refine WC.ret ?_
  injection hf with hf
  subst hf
  exact WX.ret_ [] (.bool x4326) [] (fun fb => by kernel_rfl) trivial ⟨_, rfl, rfl, hS4337.keep⟩
theorem top_cycle_calls (p0 : Int) (p1 : Int)  (r : Int) (w : World)  (hf : top_cycle p0 p1 = some r) :
    CallsR Try.prog 35 #[(.int .i64 p0), (.int .i64 p1)] w (fun v w' => v = (.int .i64 r) ∧ Keeps NoS w w') := by
  have hS : St NoS w w [] [] := St.init (ro_nil _ _)
  refine enter 12 Try.func35 rfl Try.ntmps35 rfl ?_
  unfold top_cycle at hf
  refine WC.seq ?_
  refine WC.region ?_
  refine seg 1 [] [0, 1] [(0, (.int .i64 p0)), (1, (.int .i64 p1))] [] (fun fb => by kernel_rfl) rfl trivial ?_
  refine WL.done rfl ?_
  refine WX.next ?_
  refine WC.seq ?_
  refine WC.region ?_
  refine seg 2 [] [1, 5, 6] [(1, (.int .i64 p1)), (5, (.int .i64 p0)), (6, (.int .i64 p1))] [] (fun fb => by kernel_rfl) rfl trivial ?_
  obtain ⟨h4344, hf⟩ := as_some hf
  refine seg 8 [] [4] [(4, (.int .i64 (Int.tmod (w64 ((Int.tmod p0 p1) + p1)) p1)))] [.ne p1, .ne p1] (fun fb => by kernel_rfl) rfl ⟨h4344, h4344, trivial⟩ ?_
  refine WL.done rfl ?_
  refine WX.next ?_
  refine WC.ret ?_
  injection hf with hf
  subst hf
  exact WX.ret_ [] (.int .i64 (Int.tmod (w64 ((Int.tmod p0 p1) + p1)) p1)) [] (fun fb => by kernel_rfl) trivial ⟨_, rfl, rfl, hS.keep⟩
end Gp
