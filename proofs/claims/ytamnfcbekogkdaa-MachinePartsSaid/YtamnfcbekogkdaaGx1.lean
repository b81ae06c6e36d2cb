/- Walks: each function of the program computes its plain function. -/
import Derived.Test.YtamnfcbekogkdaaGx0
set_option linter.unusedVariables false
set_option linter.unusedSimpArgs false
namespace Gp
open Go Gw Go.Proofs
theorem machine_Run_calls (k : Nat) (p0 : Machine) (p1 : Config) (p2 : Int) (A_p0_Actions : Option Addr) (c_p0_Actions : Nat) (A_p1_Cells : Option Addr) (c_p1_Cells : Nat) (r : Config × Int × Int) (w : World) (hR0 : RO NoS w (rowR enc_Action A_p0_Actions c_p0_Actions p0.Actions)) (hR1 : RO NoS w (rowR encInt A_p1_Cells c_p1_Cells p1.Cells)) (hf : machine_Run k p0 p1 p2 = some r) :
    CallsR Try.prog 20 #[(.agg #[(.int .i64 p0.States), (.int .i64 p0.Symbols), (.slice A_p0_Actions p0.Actions.length c_p0_Actions)]), (.agg #[(.int .i64 p1.State), (.int .i64 p1.At), (.slice A_p1_Cells p1.Cells.length c_p1_Cells)]), (.int .i64 p2)] w (fun v w' => ∃ (A1_ : Option Addr), ∃ (c1_ : Nat), v = (.tuple #[(.agg #[(.int .i64 r.1.State), (.int .i64 r.1.At), (.slice A1_ r.1.Cells.length c1_)]), (.int .i64 r.2.1), (.int .i64 r.2.2)]) ∧ St NoS w w' [] [rowO 3 encInt A1_ c1_ r.1.Cells]) := by
  have hS : St NoS w w [rowR enc_Action A_p0_Actions c_p0_Actions p0.Actions, rowR encInt A_p1_Cells c_p1_Cells p1.Cells] [] := St.init (ro_cons hR0 (ro_cons hR1 (ro_nil _ _)))
  refine enter 41 Try.func20 rfl Try.ntmps20 rfl ?_
  unfold machine_Run at hf
  refine WC.seq ?_
  refine WC.region ?_
  refine WL.new hS 3 [] (fun g => (.pointer (some ⟨g, 0, none⟩))) (.cells #[(.int .i64 p0.States), (.int .i64 p0.Symbols), (.slice A_p0_Actions p0.Actions.length c_p0_Actions)] 24 (0, 0)) [] (fun fb g => by kernel_rfl) trivial (fun g1776 w1777 hS1778 => ?_)
  refine ⟨trivial, ?_⟩
  refine WL.new hS1778 4 [] (fun g => (.pointer (some ⟨g, 0, none⟩))) (.cells #[(.int .i64 p1.State), (.int .i64 p1.At), (.slice A_p1_Cells p1.Cells.length c_p1_Cells)] 27 (0, 0)) [] (fun fb g => by kernel_rfl) trivial (fun g1780 w1781 hS1782 => ?_)
  refine ⟨trivial, ?_⟩
  refine WL.new hS1782 6 [] (fun g => (.pointer (some ⟨g, 0, none⟩))) (.cells #[(.int .i64 0), (.int .i64 0), (.slice none 0 0)] 27 (0, 0)) [] (fun fb g => by kernel_rfl) trivial (fun g1784 w1785 hS1786 => ?_)
  refine ⟨trivial, ?_⟩
  refine seg 5 [] [2, 3, 4, 6] [(2, (.int .i64 p2)), (3, (.pointer (some ⟨g1776, 0, none⟩))), (4, (.pointer (some ⟨g1780, 0, none⟩))), (6, (.pointer (some ⟨g1784, 0, none⟩)))] [] (fun fb => by kernel_rfl) rfl trivial ?_
  refine WL.done rfl ?_
  refine WX.next ?_
  refine WC.seq ?_
  refine WC.seq ?_
  refine WC.region ?_
  refine seg 2 [.v (.int .i64 p0.States), .v (.int .i64 p0.Symbols), .v (.slice A_p0_Actions p0.Actions.length c_p0_Actions), .v (.int .i64 p1.State), .v (.int .i64 p1.At), .v (.slice A_p1_Cells p1.Cells.length c_p1_Cells)] [2, 3, 4, 6, 11, 12] [(2, (.int .i64 p2)), (3, (.pointer (some ⟨g1776, 0, none⟩))), (4, (.pointer (some ⟨g1780, 0, none⟩))), (6, (.pointer (some ⟨g1784, 0, none⟩))), (11, (.agg #[(.int .i64 p0.States), (.int .i64 p0.Symbols), (.slice A_p0_Actions p0.Actions.length c_p0_Actions)])), (12, (.agg #[(.int .i64 p1.State), (.int .i64 p1.At), (.slice A_p1_Cells p1.Cells.length c_p1_Cells)]))] [.cell ⟨g1776, 0, none⟩ (.int .i64 p0.States), .cell ⟨g1776, 1, none⟩ (.int .i64 p0.Symbols), .cell ⟨g1776, 2, none⟩ (.slice A_p0_Actions p0.Actions.length c_p0_Actions), .cell ⟨g1780, 0, none⟩ (.int .i64 p1.State), .cell ⟨g1780, 1, none⟩ (.int .i64 p1.At), .cell ⟨g1780, 2, none⟩ (.slice A_p1_Cells p1.Cells.length c_p1_Cells)] (fun fb => by kernel_rfl) rfl ⟨hS1786.cell 2 rfl 0 rfl, hS1786.cell 2 rfl 1 rfl, hS1786.cell 2 rfl 2 rfl, hS1786.cell 1 rfl 0 rfl, hS1786.cell 1 rfl 1 rfl, hS1786.cell 1 rfl 2 rfl, trivial⟩ ?_
  obtain ⟨t1876, ht1877, hf⟩ := bind_some hf
  refine WL.call (some 13) 18 #[(.agg #[(.int .i64 p0.States), (.int .i64 p0.Symbols), (.slice A_p0_Actions p0.Actions.length c_p0_Actions)]), (.agg #[(.int .i64 p1.State), (.int .i64 p1.At), (.slice A_p1_Cells p1.Cells.length c_p1_Cells)])] (fun fb => by kernel_rfl) (machine_Fits_calls _ p0 p1 A_p0_Actions c_p0_Actions A_p1_Cells c_p1_Cells t1876 _ (hS1786.rd 0) (hS1786.rd 1) ht1877) (fun v w1878 hR1879 => ?_)
  obtain ⟨rfl, hk_⟩ := hR1879
  have hS1880 := hS1786.keepN hk_
  refine ⟨trivial, ?_⟩
  refine seg 4 [] [2, 3, 4, 6, 14] [(2, (.int .i64 p2)), (3, (.pointer (some ⟨g1776, 0, none⟩))), (4, (.pointer (some ⟨g1780, 0, none⟩))), (6, (.pointer (some ⟨g1784, 0, none⟩))), (14, (.bool (!t1876)))] [] (fun fb => by kernel_rfl) rfl trivial ?_
  refine WL.done rfl ?_
  refine WX.next ?_
  rcases br_some hf with ⟨h1881, hf⟩ | ⟨h1881, hf⟩
  · refine WC.condT2 (fun fb => by kernel_rfl) h1881 ?_
    refine WC.seq ?_
    refine WC.region ?_
    refine seg 1 [] [6, 15] [(6, (.pointer (some ⟨g1784, 0, none⟩))), (15, (.agg #[(.int .i64 0), (.int .i64 0), (.slice none 0 0)]))] [] (fun fb => by kernel_rfl) rfl trivial ?_
    refine WL.store hS1880 0 rfl [(0, (.int .i64 0)), (1, (.int .i64 0)), (2, (.slice none 0 0))] #[(.int .i64 0), (.int .i64 0), (.slice none 0 0)] (fun fb => by kernel_rfl) (by kernel_rfl) rfl [1, 2] (by decide) (by decide) (fun w1882 hS1883 => ?_)
    refine ⟨trivial, ?_⟩
    refine seg 4 [] [6, 7, 8] [(6, (.pointer (some ⟨g1784, 0, none⟩))), (7, (.int .i64 0)), (8, (.int .i64 1))] [] (fun fb => by kernel_rfl) rfl trivial ?_
    refine WL.done rfl ?_
    refine WX.next ?_
    refine WC.ret ?_
    have hS1884 := hS1883.nilrow 3 encInt
    injection hf with hf
    subst hf
    exact WX.thenR (WX.ret_ [.v (.int .i64 0), .v (.int .i64 0), .v (.slice none 0 0)] (.tuple #[(.agg #[(.int .i64 0), (.int .i64 0), (.slice none ([] : List Int).length 0)]), (.int .i64 0), (.int .i64 1)]) [.cell ⟨g1784, 0, none⟩ (.int .i64 0), .cell ⟨g1784, 1, none⟩ (.int .i64 0), .cell ⟨g1784, 2, none⟩ (.slice none 0 0)] (fun fb => by kernel_rfl) ⟨hS1883.cell 0 rfl 0 rfl, hS1883.cell 0 rfl 1 rfl, hS1883.cell 0 rfl 2 rfl, trivial⟩ ⟨_, rfl, none, 0, rfl, (hS1884.sub [0] (by decide)).noR⟩)
  refine WC.condF2 (fun fb => by kernel_rfl) h1881 ?_
  refine WC.skip ?_
  refine WX.next ?_
  refine WC.seq ?_
  refine WC.seq ?_
  refine WC.region ?_
  refine seg 3 [] [2, 3, 4, 6, 18] [(2, (.int .i64 p2)), (3, (.pointer (some ⟨g1776, 0, none⟩))), (4, (.pointer (some ⟨g1780, 0, none⟩))), (6, (.pointer (some ⟨g1784, 0, none⟩))), (18, (.bool (decide (p2 < 0))))] [] (fun fb => by kernel_rfl) rfl trivial ?_
  refine WL.cutV (T := Bool) 6 (fun t => [(21, (.bool t)), (2, (.int .i64 p2)), (3, (.pointer (some ⟨g1776, 0, none⟩))), (4, (.pointer (some ⟨g1780, 0, none⟩))), (6, (.pointer (some ⟨g1784, 0, none⟩)))]) (fun t => t = ((decide (p2 < 0)) || (decide (p2 > 100000)))) (fun K => ?_) ?_
  ·
    rcases Bool.eq_false_or_eq_true (decide (p2 < 0)) with h1885 | h1885
    ·
      refine WL.setB 18 h1885 rfl ?_
      refine seg 6 [] [2, 3, 4, 6, 21] [(2, (.int .i64 p2)), (3, (.pointer (some ⟨g1776, 0, none⟩))), (4, (.pointer (some ⟨g1780, 0, none⟩))), (6, (.pointer (some ⟨g1784, 0, none⟩))), (21, (.bool true))] [] (fun fb => by kernel_rfl) rfl trivial ?_
      exact WL.toV K true [21, 2, 3, 4, 6] rfl (by rw [h1885]; rfl)
    refine WL.setB 18 h1885 rfl ?_
    refine seg 6 [] [2, 3, 4, 6, 21] [(2, (.int .i64 p2)), (3, (.pointer (some ⟨g1776, 0, none⟩))), (4, (.pointer (some ⟨g1780, 0, none⟩))), (6, (.pointer (some ⟨g1784, 0, none⟩))), (21, (.bool (decide (p2 > 100000))))] [] (fun fb => by kernel_rfl) rfl trivial ?_
    exact WL.toV K (decide (p2 > 100000)) [21, 2, 3, 4, 6] rfl (by rw [h1885]; rfl)
  rintro b1886 rfl
  refine WL.done rfl ?_
  refine WX.next ?_
  rcases br_some hf with ⟨h1887, hf⟩ | ⟨h1887, hf⟩
  · refine WC.condT2 (fun fb => by kernel_rfl) h1887 ?_
    refine WC.seq ?_
    refine WC.region ?_
    refine seg 1 [] [6, 22] [(6, (.pointer (some ⟨g1784, 0, none⟩))), (22, (.agg #[(.int .i64 0), (.int .i64 0), (.slice none 0 0)]))] [] (fun fb => by kernel_rfl) rfl trivial ?_
    refine WL.store hS1880 0 rfl [(0, (.int .i64 0)), (1, (.int .i64 0)), (2, (.slice none 0 0))] #[(.int .i64 0), (.int .i64 0), (.slice none 0 0)] (fun fb => by kernel_rfl) (by kernel_rfl) rfl [1, 2] (by decide) (by decide) (fun w1888 hS1889 => ?_)
    refine ⟨trivial, ?_⟩
    refine seg 4 [] [6, 7, 8] [(6, (.pointer (some ⟨g1784, 0, none⟩))), (7, (.int .i64 0)), (8, (.int .i64 2))] [] (fun fb => by kernel_rfl) rfl trivial ?_
    refine WL.done rfl ?_
    refine WX.next ?_
    refine WC.ret ?_
    have hS1890 := hS1889.nilrow 3 encInt
    injection hf with hf
    subst hf
    exact WX.thenR (WX.ret_ [.v (.int .i64 0), .v (.int .i64 0), .v (.slice none 0 0)] (.tuple #[(.agg #[(.int .i64 0), (.int .i64 0), (.slice none ([] : List Int).length 0)]), (.int .i64 0), (.int .i64 2)]) [.cell ⟨g1784, 0, none⟩ (.int .i64 0), .cell ⟨g1784, 1, none⟩ (.int .i64 0), .cell ⟨g1784, 2, none⟩ (.slice none 0 0)] (fun fb => by kernel_rfl) ⟨hS1889.cell 0 rfl 0 rfl, hS1889.cell 0 rfl 1 rfl, hS1889.cell 0 rfl 2 rfl, trivial⟩ ⟨_, rfl, none, 0, rfl, (hS1890.sub [0] (by decide)).noR⟩)
  refine WC.condF2 (fun fb => by kernel_rfl) h1887 ?_
  refine WC.skip ?_
  refine WX.next ?_
  refine WC.seq ?_
  refine WC.region ?_
  refine seg 2 [.v (.int .i64 p0.States), .v (.int .i64 p0.Symbols), .v (.slice A_p0_Actions p0.Actions.length c_p0_Actions), .v (.int .i64 p1.State), .v (.int .i64 p1.At), .v (.slice A_p1_Cells p1.Cells.length c_p1_Cells)] [2, 6, 23, 24] [(2, (.int .i64 p2)), (6, (.pointer (some ⟨g1784, 0, none⟩))), (23, (.agg #[(.int .i64 p0.States), (.int .i64 p0.Symbols), (.slice A_p0_Actions p0.Actions.length c_p0_Actions)])), (24, (.agg #[(.int .i64 p1.State), (.int .i64 p1.At), (.slice A_p1_Cells p1.Cells.length c_p1_Cells)]))] [.cell ⟨g1776, 0, none⟩ (.int .i64 p0.States), .cell ⟨g1776, 1, none⟩ (.int .i64 p0.Symbols), .cell ⟨g1776, 2, none⟩ (.slice A_p0_Actions p0.Actions.length c_p0_Actions), .cell ⟨g1780, 0, none⟩ (.int .i64 p1.State), .cell ⟨g1780, 1, none⟩ (.int .i64 p1.At), .cell ⟨g1780, 2, none⟩ (.slice A_p1_Cells p1.Cells.length c_p1_Cells)] (fun fb => by kernel_rfl) rfl ⟨hS1880.cell 2 rfl 0 rfl, hS1880.cell 2 rfl 1 rfl, hS1880.cell 2 rfl 2 rfl, hS1880.cell 1 rfl 0 rfl, hS1880.cell 1 rfl 1 rfl, hS1880.cell 1 rfl 2 rfl, trivial⟩ ?_
  obtain ⟨t1923, ht1924, hf⟩ := bind_some hf
  refine WL.call (some 25) 42 #[(.agg #[(.int .i64 p0.States), (.int .i64 p0.Symbols), (.slice A_p0_Actions p0.Actions.length c_p0_Actions)]), (.agg #[(.int .i64 p1.State), (.int .i64 p1.At), (.slice A_p1_Cells p1.Cells.length c_p1_Cells)])] (fun fb => by kernel_rfl) (machine_begin_calls p0 p1 A_p0_Actions c_p0_Actions A_p1_Cells c_p1_Cells t1923 _ (hS1880.rd 0) (hS1880.rd 1) ht1924) (fun v w1925 hR1926 => ?_)
  obtain ⟨g1928, A1929, c1930, rfl, hk_⟩ := hR1926
  have hS1927 : St NoS w w1925 [rowR enc_Action A_p0_Actions c_p0_Actions p0.Actions, rowR encInt A_p1_Cells c_p1_Cells p1.Cells] [blk g1928 (.cells #[(.int .i64 t1923.m.States), (.int .i64 t1923.m.Symbols), (.slice A_p0_Actions p0.Actions.length c_p0_Actions), (.int .i64 t1923.Config.State), (.int .i64 t1923.Config.At), (.slice A1929 t1923.Config.Cells.length c1930)] 82 (0, 0)), rowO 3 encInt A1929 c1930 t1923.Config.Cells, blk g1784 (.cells #[(.int .i64 0), (.int .i64 0), (.slice none 0 0)] 27 (0, 0)), blk g1780 (.cells #[(.int .i64 p1.State), (.int .i64 p1.At), (.slice A_p1_Cells p1.Cells.length c_p1_Cells)] 27 (0, 0)), blk g1776 (.cells #[(.int .i64 p0.States), (.int .i64 p0.Symbols), (.slice A_p0_Actions p0.Actions.length c_p0_Actions)] 24 (0, 0))] := hS1880.call hk_ [] [0, 1, 2] (fun g hg => hg.elim) (by simp) (by decide)
  refine ⟨trivial, ?_⟩
  refine seg 4 [] [2, 6, 9] [(2, (.int .i64 p2)), (6, (.pointer (some ⟨g1784, 0, none⟩))), (9, (.pointer (some ⟨g1928, 0, none⟩)))] [] (fun fb => by kernel_rfl) rfl trivial ?_
  refine WL.done rfl ?_
  refine WX.next ?_
  refine WC.seq ?_
  refine WC.region ?_
  refine seg 1 [] [2, 6, 9, 10] [(2, (.int .i64 p2)), (6, (.pointer (some ⟨g1784, 0, none⟩))), (9, (.pointer (some ⟨g1928, 0, none⟩))), (10, (.int .i64 0))] [] (fun fb => by kernel_rfl) rfl trivial ?_
  refine WL.done rfl ?_
  refine WX.next ?_
  refine WC.seq ?_
  obtain ⟨x2256, hx2257, hf⟩ := bind_some hf
  refine WC.cutN (T := (Int × Int × Int × Int × (List Int) × Int) × (Option Addr) × Nat) (fun t => [(6, (.pointer (some ⟨g1784, 0, none⟩))), (9, (.pointer (some ⟨g1928, 0, none⟩))), (10, (.int .i64 t.1.2.2.2.2.2))]) (fun t w1 => St NoS w w1 [rowR enc_Action A_p0_Actions c_p0_Actions p0.Actions, rowR encInt A_p1_Cells c_p1_Cells p1.Cells] [blk g1784 (.cells #[(.int .i64 0), (.int .i64 0), (.slice none 0 0)] 27 (0, 0)), blk g1928 (.cells #[(.int .i64 t.1.1), (.int .i64 t.1.2.1), (.slice A_p0_Actions p0.Actions.length c_p0_Actions), (.int .i64 t.1.2.2.1), (.int .i64 t.1.2.2.2.1), (.slice t.2.1 t.1.2.2.2.2.1.length t.2.2)] 82 (0, 0)), rowO 3 encInt t.2.1 t.2.2 t.1.2.2.2.2.1] ∧ x2256 = t.1) (fun Kx2256 => ?_) ?_
  ·
    refine WC.block ?_
    refine WC.loop (T := (Int × Int × Int × Int × (List Int) × Int) × (Option Addr) × Nat) (fun t => [(2, (.int .i64 p2)), (6, (.pointer (some ⟨g1784, 0, none⟩))), (9, (.pointer (some ⟨g1928, 0, none⟩))), (10, (.int .i64 t.1.2.2.2.2.2))]) (fun n t w1 => St NoS w w1 [rowR enc_Action A_p0_Actions c_p0_Actions p0.Actions, rowR encInt A_p1_Cells c_p1_Cells p1.Cells] [blk g1784 (.cells #[(.int .i64 0), (.int .i64 0), (.slice none 0 0)] 27 (0, 0)), blk g1928 (.cells #[(.int .i64 t.1.1), (.int .i64 t.1.2.1), (.slice A_p0_Actions p0.Actions.length c_p0_Actions), (.int .i64 t.1.2.2.1), (.int .i64 t.1.2.2.2.1), (.slice t.2.1 t.1.2.2.2.2.1.length t.2.2)] 82 (0, 0)), rowO 3 encInt t.2.1 t.2.2 t.1.2.2.2.2.1] ∧ machine_Run.l0 n t.1.1 t.1.2.1 t.1.2.2.1 t.1.2.2.2.1 t.1.2.2.2.2.1 t.1.2.2.2.2.2 p0 p2 = some x2256) k ((t1923.m.States, t1923.m.Symbols, t1923.Config.State, t1923.Config.At, t1923.Config.Cells, 0), A1929, c1930) [2, 6, 9, 10] rfl ⟨(hS1927.subR [0, 1]).sub [2, 0, 1] (by decide), hx2257⟩ ?_
    rintro k2258 ⟨⟨x2240, x2241, x2242, x2243, l2246, x2247⟩, A2244, c2245⟩ w2259 ⟨hS2260, hl2261⟩
    cases k2258 with
    | zero => rw [machine_Run.l0] at hl2261; cases hl2261
    | succ k2258 =>
      rw [machine_Run.l0] at hl2261
      refine WC.seq ?_
      refine WC.seq ?_
      refine WC.region ?_
      refine seg 4 [] [2, 6, 9, 10, 29] [(2, (.int .i64 p2)), (6, (.pointer (some ⟨g1784, 0, none⟩))), (9, (.pointer (some ⟨g1928, 0, none⟩))), (10, (.int .i64 x2247)), (29, (.bool (decide (x2247 < p2))))] [] (fun fb => by kernel_rfl) rfl trivial ?_
      obtain ⟨x2277, hx2278, hl2261⟩ := bind_some hl2261
      refine WL.cutW (T := (Int × Int × Int × Int × (List Int) × Bool) × (Option Addr) × Nat) 8 (fun t => [(2, (.int .i64 p2)), (6, (.pointer (some ⟨g1784, 0, none⟩))), (9, (.pointer (some ⟨g1928, 0, none⟩))), (10, (.int .i64 x2247)), (33, (.bool t.1.2.2.2.2.2))]) (fun t w1 => (St NoS w w1 [rowR enc_Action A_p0_Actions c_p0_Actions p0.Actions, rowR encInt A_p1_Cells c_p1_Cells p1.Cells] [blk g1784 (.cells #[(.int .i64 0), (.int .i64 0), (.slice none 0 0)] 27 (0, 0)), blk g1928 (.cells #[(.int .i64 t.1.1), (.int .i64 t.1.2.1), (.slice A_p0_Actions p0.Actions.length c_p0_Actions), (.int .i64 t.1.2.2.1), (.int .i64 t.1.2.2.2.1), (.slice t.2.1 t.1.2.2.2.2.1.length t.2.2)] 82 (0, 0)), rowO 3 encInt t.2.1 t.2.2 t.1.2.2.2.2.1] ∧ x2277 = t.1) ∧ CellsOK [] w1) (fun K => ?_) ?_
      ·
        rcases br_some hx2278 with ⟨h2279, hx2278⟩ | ⟨h2279, hx2278⟩
        ·
          refine WL.setB 29 h2279 rfl ?_
          refine seg 5 [] [2, 6, 9, 10, 29, 30] [(2, (.int .i64 p2)), (6, (.pointer (some ⟨g1784, 0, none⟩))), (9, (.pointer (some ⟨g1928, 0, none⟩))), (10, (.int .i64 x2247)), (29, (.bool true)), (30, (.pointer (some ⟨g1928, 0, none⟩)))] [] (fun fb => by kernel_rfl) rfl trivial ?_
          obtain ⟨t2280, ht2281, hx2278⟩ := bind_some hx2278
          refine WL.call (some 31) 43 #[(.pointer (some ⟨g1928, 0, none⟩))] (fun fb => by kernel_rfl) (machine_runner_step_calls (Runner.mk (Machine.mk x2240 x2241 p0.Actions) (Config.mk x2242 x2243 l2246)) g1928 A_p0_Actions c_p0_Actions A2244 c2245 t2280 _ (hS2260.rdT [1, 2] 0) (hS2260.io [1, 2] (by decide)) ht2281) (fun v w2282 hR2283 => ?_)
          obtain ⟨A2285, c2286, rfl, hk_⟩ := hR2283
          have hS2284 : St NoS w w2282 [rowR enc_Action A_p0_Actions c_p0_Actions p0.Actions, rowR encInt A_p1_Cells c_p1_Cells p1.Cells] [blk g1928 (.cells #[(.int .i64 t2280.2.m.States), (.int .i64 t2280.2.m.Symbols), (.slice A_p0_Actions p0.Actions.length c_p0_Actions), (.int .i64 t2280.2.Config.State), (.int .i64 t2280.2.Config.At), (.slice A2285 t2280.2.Config.Cells.length c2286)] 82 (0, 0)), rowO 3 encInt A2285 c2286 t2280.2.Config.Cells, blk g1784 (.cells #[(.int .i64 0), (.int .i64 0), (.slice none 0 0)] 27 (0, 0))] := hS2260.call hk_ [1, 2] [0] (fun g hg => fpL_sel g hg) (by decide) (by decide)
          refine ⟨trivial, ?_⟩
          refine seg 8 [] [2, 6, 9, 10, 33] [(2, (.int .i64 p2)), (6, (.pointer (some ⟨g1784, 0, none⟩))), (9, (.pointer (some ⟨g1928, 0, none⟩))), (10, (.int .i64 x2247)), (33, (.bool (t2280.1 == 0)))] [] (fun fb => by kernel_rfl) rfl trivial ?_
          injection hx2278 with hx2278
          exact WL.to K ((t2280.2.m.States, t2280.2.m.Symbols, t2280.2.Config.State, t2280.2.Config.At, t2280.2.Config.Cells, t2280.1 == 0), A2285, c2286) [2, 6, 9, 10, 33] rfl ⟨⟨(hS2284.subR [0, 1]).sub [2, 0, 1] (by decide), hx2278.symm⟩, trivial⟩
        refine WL.setB 29 h2279 rfl ?_
        refine seg 8 [] [2, 6, 9, 10, 33] [(2, (.int .i64 p2)), (6, (.pointer (some ⟨g1784, 0, none⟩))), (9, (.pointer (some ⟨g1928, 0, none⟩))), (10, (.int .i64 x2247)), (33, (.bool false))] [] (fun fb => by kernel_rfl) rfl trivial ?_
        injection hx2278 with hx2278
        exact WL.to K ((x2240, x2241, x2242, x2243, l2246, false), A2244, c2245) [2, 6, 9, 10, 33] rfl ⟨⟨(hS2260.subR [0, 1]).sub [0, 1, 2] (by decide), hx2278.symm⟩, trivial⟩
      rintro ⟨y2287, A2273, c2274⟩ w2289 ⟨⟨hS2290, hq2288⟩, hF2291⟩
      subst hq2288
      refine WL.done rfl ?_
      refine WX.next ?_
      rcases br_some hl2261 with ⟨h2292, hl2261⟩ | ⟨h2292, hl2261⟩
      · refine WC.condT2 (fun fb => by kernel_rfl) h2292 ?_
        refine WC.skip ?_
        refine WX.next ?_
        refine WC.block ?_
        refine WC.region ?_
        refine seg 3 [] [2, 6, 9, 10] [(2, (.int .i64 p2)), (6, (.pointer (some ⟨g1784, 0, none⟩))), (9, (.pointer (some ⟨g1928, 0, none⟩))), (10, (.int .i64 (w64 (x2247 + 1))))] [] (fun fb => by kernel_rfl) rfl trivial ?_
        refine WL.done rfl ?_
        exact WX.blockN (WX.again k2258 (Nat.lt_succ_self _) ((x2277.1, x2277.2.1, x2277.2.2.1, x2277.2.2.2.1, x2277.2.2.2.2.1, w64 (x2247 + 1)), A2273, c2274) [2, 6, 9, 10] rfl ⟨(hS2290.subR [0, 1]).sub [0, 1, 2] (by decide), hl2261⟩)
      refine WC.condF2 (fun fb => by kernel_rfl) h2292 ?_
      refine WC.exit ?_
      injection hl2261 with hl2261
      exact WX.thenX (WX.thenX (WX.blockHere (WX.to Kx2256 ((x2277.1, x2277.2.1, x2277.2.2.1, x2277.2.2.2.1, x2277.2.2.2.2.1, x2247), A2273, c2274) [6, 9, 10] rfl ⟨(hS2290.subR [0, 1]).sub [0, 1, 2] (by decide), hl2261.symm⟩)))
  rintro ⟨y2296, A2252, c2253⟩ w2293 ⟨hS2294, hq2295⟩
  subst hq2295
  refine WX.next ?_
  refine WC.seq ?_
  refine WC.region ?_
  refine seg 5 [.v (.int .i64 x2256.2.2.1), .v (.int .i64 x2256.2.2.2.1), .v (.slice A2252 x2256.2.2.2.2.1.length c2253)] [6, 39, 40] [(6, (.pointer (some ⟨g1784, 0, none⟩))), (39, (.agg #[(.int .i64 x2256.2.2.1), (.int .i64 x2256.2.2.2.1), (.slice A2252 x2256.2.2.2.2.1.length c2253)])), (40, (.int .i64 x2256.2.2.2.2.2))] [.cell ⟨g1928, 3, none⟩ (.int .i64 x2256.2.2.1), .cell ⟨g1928, 4, none⟩ (.int .i64 x2256.2.2.2.1), .cell ⟨g1928, 5, none⟩ (.slice A2252 x2256.2.2.2.2.1.length c2253)] (fun fb => by kernel_rfl) rfl ⟨hS2294.cell 1 rfl 3 rfl, hS2294.cell 1 rfl 4 rfl, hS2294.cell 1 rfl 5 rfl, trivial⟩ ?_
  refine WL.store hS2294 0 rfl [(0, (.int .i64 x2256.2.2.1)), (1, (.int .i64 x2256.2.2.2.1)), (2, (.slice A2252 x2256.2.2.2.2.1.length c2253))] #[(.int .i64 x2256.2.2.1), (.int .i64 x2256.2.2.2.1), (.slice A2252 x2256.2.2.2.2.1.length c2253)] (fun fb => by kernel_rfl) (by kernel_rfl) rfl [1, 2] (by decide) (by decide) (fun w2297 hS2298 => ?_)
  refine ⟨trivial, ?_⟩
  refine seg 8 [] [6, 7, 8] [(6, (.pointer (some ⟨g1784, 0, none⟩))), (7, (.int .i64 x2256.2.2.2.2.2)), (8, (.int .i64 0))] [] (fun fb => by kernel_rfl) rfl trivial ?_
  refine WL.done rfl ?_
  refine WX.next ?_
  refine WC.ret ?_
  injection hf with hf
  subst hf
  exact WX.ret_ [.v (.int .i64 x2256.2.2.1), .v (.int .i64 x2256.2.2.2.1), .v (.slice A2252 x2256.2.2.2.2.1.length c2253)] (.tuple #[(.agg #[(.int .i64 x2256.2.2.1), (.int .i64 x2256.2.2.2.1), (.slice A2252 x2256.2.2.2.2.1.length c2253)]), (.int .i64 x2256.2.2.2.2.2), (.int .i64 0)]) [.cell ⟨g1784, 0, none⟩ (.int .i64 x2256.2.2.1), .cell ⟨g1784, 1, none⟩ (.int .i64 x2256.2.2.2.1), .cell ⟨g1784, 2, none⟩ (.slice A2252 x2256.2.2.2.2.1.length c2253)] (fun fb => by kernel_rfl) ⟨hS2298.cell 0 rfl 0 rfl, hS2298.cell 0 rfl 1 rfl, hS2298.cell 0 rfl 2 rfl, trivial⟩ ⟨_, rfl, A2252, c2253, rfl, (hS2298.sub [2] (by decide)).noR⟩
theorem machine_kit_row_calls (k : Nat) (p0 : Kit) (p1 : Runner) (g_p0 : Nat) (A_p0_m_Actions : Option Addr) (c_p0_m_Actions : Nat) (A_p0_set : Option Addr) (c_p0_set : Nat) (A_p0_does : Option Addr) (c_p0_does : Nat) (g_p1 : Nat) (A_p1_m_Actions : Option Addr) (c_p1_m_Actions : Nat) (A_p1_Config_Cells : Option Addr) (c_p1_Config_Cells : Nat) (r : (List Int)) (w : World) (hR0 : RO NoS w (blk g_p0 (.cells #[(.int .i64 p0.m.States), (.int .i64 p0.m.Symbols), (.slice A_p0_m_Actions p0.m.Actions.length c_p0_m_Actions), (.slice A_p0_set p0.set.length c_p0_set), (.slice A_p0_does p0.does.length c_p0_does), (.int .i64 p0.base)] 96 (0, 0)))) (hR1 : RO NoS w (rowR enc_Action A_p0_m_Actions c_p0_m_Actions p0.m.Actions)) (hR2 : RO NoS w (rowR enc_Tile A_p0_set c_p0_set p0.set)) (hR3 : RO NoS w (rowR encInt A_p0_does c_p0_does p0.does)) (hR4 : RO NoS w (blk g_p1 (.cells #[(.int .i64 p1.m.States), (.int .i64 p1.m.Symbols), (.slice A_p1_m_Actions p1.m.Actions.length c_p1_m_Actions), (.int .i64 p1.Config.State), (.int .i64 p1.Config.At), (.slice A_p1_Config_Cells p1.Config.Cells.length c_p1_Config_Cells)] 82 (0, 0)))) (hR5 : RO NoS w (rowR enc_Action A_p1_m_Actions c_p1_m_Actions p1.m.Actions)) (hR6 : RO NoS w (rowR encInt A_p1_Config_Cells c_p1_Config_Cells p1.Config.Cells)) (hf : machine_kit_row k p0 p1 = some r) :
    CallsR Try.prog 44 #[(.pointer (some ⟨g_p0, 0, none⟩)), (.pointer (some ⟨g_p1, 0, none⟩))] w (fun v w' => ∃ (A1_ : Option Addr), ∃ (c1_ : Nat), v = (.slice A1_ r.length c1_) ∧ St NoS w w' [] [rowO 3 encInt A1_ c1_ r]) := by
  have hS : St NoS w w [blk g_p0 (.cells #[(.int .i64 p0.m.States), (.int .i64 p0.m.Symbols), (.slice A_p0_m_Actions p0.m.Actions.length c_p0_m_Actions), (.slice A_p0_set p0.set.length c_p0_set), (.slice A_p0_does p0.does.length c_p0_does), (.int .i64 p0.base)] 96 (0, 0)), rowR enc_Action A_p0_m_Actions c_p0_m_Actions p0.m.Actions, rowR enc_Tile A_p0_set c_p0_set p0.set, rowR encInt A_p0_does c_p0_does p0.does, blk g_p1 (.cells #[(.int .i64 p1.m.States), (.int .i64 p1.m.Symbols), (.slice A_p1_m_Actions p1.m.Actions.length c_p1_m_Actions), (.int .i64 p1.Config.State), (.int .i64 p1.Config.At), (.slice A_p1_Config_Cells p1.Config.Cells.length c_p1_Config_Cells)] 82 (0, 0)), rowR enc_Action A_p1_m_Actions c_p1_m_Actions p1.m.Actions, rowR encInt A_p1_Config_Cells c_p1_Config_Cells p1.Config.Cells] [] := St.init (ro_cons hR0 (ro_cons hR1 (ro_cons hR2 (ro_cons hR3 (ro_cons hR4 (ro_cons hR5 (ro_cons hR6 (ro_nil _ _))))))))
  refine enter 87 Try.func44 rfl Try.ntmps44 rfl ?_
  unfold machine_kit_row at hf
  refine WC.seq ?_
  refine WC.region ?_
  refine seg 1 [] [0, 1] [(0, (.pointer (some ⟨g_p0, 0, none⟩))), (1, (.pointer (some ⟨g_p1, 0, none⟩)))] [] (fun fb => by kernel_rfl) rfl trivial ?_
  refine WL.done rfl ?_
  refine WX.next ?_
  refine WC.seq ?_
  refine WC.region ?_
  refine seg 1 [] [0, 1, 5] [(0, (.pointer (some ⟨g_p0, 0, none⟩))), (1, (.pointer (some ⟨g_p1, 0, none⟩))), (5, (.slice none 0 0))] [] (fun fb => by kernel_rfl) rfl trivial ?_
  refine WL.done rfl ?_
  refine WX.next ?_
  refine WC.seq ?_
  obtain ⟨x2483, hx2484, hf⟩ := bind_some hf
  refine WC.cutN (T := (Int × Int × Int) × Nat) (fun t => [(0, (.pointer (some ⟨g_p0, 0, none⟩))), (1, (.pointer (some ⟨g_p1, 0, none⟩))), (5, (.slice none 0 0)), (6, (.pointer (some ⟨t.2, 0, none⟩)))]) (fun t w1 => St NoS w w1 [blk g_p0 (.cells #[(.int .i64 p0.m.States), (.int .i64 p0.m.Symbols), (.slice A_p0_m_Actions p0.m.Actions.length c_p0_m_Actions), (.slice A_p0_set p0.set.length c_p0_set), (.slice A_p0_does p0.does.length c_p0_does), (.int .i64 p0.base)] 96 (0, 0)), rowR enc_Action A_p0_m_Actions c_p0_m_Actions p0.m.Actions, rowR enc_Tile A_p0_set c_p0_set p0.set, rowR encInt A_p0_does c_p0_does p0.does, blk g_p1 (.cells #[(.int .i64 p1.m.States), (.int .i64 p1.m.Symbols), (.slice A_p1_m_Actions p1.m.Actions.length c_p1_m_Actions), (.int .i64 p1.Config.State), (.int .i64 p1.Config.At), (.slice A_p1_Config_Cells p1.Config.Cells.length c_p1_Config_Cells)] 82 (0, 0)), rowR enc_Action A_p1_m_Actions c_p1_m_Actions p1.m.Actions, rowR encInt A_p1_Config_Cells c_p1_Config_Cells p1.Config.Cells] [blk t.2 (.cells #[(.int .i64 t.1.1), (.int .i64 t.1.2.1), (.int .i64 t.1.2.2)] 88 (0, 0))] ∧ x2483 = t.1) (fun Kx2483 => ?_) ?_
  ·
    refine WC.regionD ([(4, ⟨g_p1, 2, none⟩, (.slice A_p1_m_Actions p1.m.Actions.length c_p1_m_Actions))], [0, 1, 2, 3, 4, 5, 7], [[], [0], [0, 1], [0, 1, 2], [0, 1, 2, 3], [], [5], [0, 1, 2, 3, 4, 5, 6], [0, 1, 2, 3, 4, 5, 6, 7], [], [0, 1, 2, 3, 4, 5, 6, 7, 8, 9]]) [[0, 1, 2, 3, 4, 5, 6, 7, 8, 9, 10], [0, 1, 2, 3, 4, 5, 6, 7, 9, 8, 10], [0, 1, 2, 3, 4, 5, 9, 6, 7, 8, 10]] (by kernel_rfl) (by kernel_rfl) (NoPanic.seq (NoPanic.body)) ?_
    have hS2486 := hS.drew
    revert hS2486
    generalize World.drew w = w2485
    intro hS2486
    refine ⟨⟨blk_cell (hS2486.rd 4).1 2 rfl, trivial⟩, forallC ?_ (forallC ?_ (forallC ?_ (forallN)))⟩
    ·
      refine segF 6 [.v (.slice A_p1_m_Actions p1.m.Actions.length c_p1_m_Actions)] [0, 1, 5, 15, 16] [(0, (.pointer (some ⟨g_p0, 0, none⟩))), (1, (.pointer (some ⟨g_p1, 0, none⟩))), (5, (.slice none 0 0)), (15, (.slice A_p1_m_Actions p1.m.Actions.length c_p1_m_Actions)), (16, (.pointer (some ⟨g_p1, 0, none⟩)))] [] [0] [(4, ⟨g_p1, 2, none⟩, (.slice A_p1_m_Actions p1.m.Actions.length c_p1_m_Actions))] (fun fb => by kernel_rfl) rfl trivial rfl ?_
      obtain ⟨t2487, ht2488, hx2484⟩ := bind_some hx2484
      refine WL.call (some 17) 63 #[(.pointer (some ⟨g_p1, 0, none⟩))] (fun fb => by kernel_rfl) (machine_runner_does_calls p1 g_p1 A_p1_m_Actions c_p1_m_Actions A_p1_Config_Cells c_p1_Config_Cells t2487 _ (hS2486.rd 4) (hS2486.rd 5) (hS2486.rd 6) ht2488) (fun v w2489 hR2490 => ?_)
      obtain ⟨rfl, hk_⟩ := hR2490
      have hS2491 := hS2486.keepN hk_
      refine ⟨⟨blk_cell (hS2491.rd 4).1 2 rfl, trivial⟩, ?_⟩
      obtain ⟨h2492, hx2484⟩ := as_some hx2484
      refine seg 9 [.v (.int .i64 ((rdD p1.m.Actions t2487 z_Action).Write)), .v (.int .i64 ((rdD p1.m.Actions t2487 z_Action).Move)), .v (.int .i64 ((rdD p1.m.Actions t2487 z_Action).Next))] [0, 1, 5, 19] [(0, (.pointer (some ⟨g_p0, 0, none⟩))), (1, (.pointer (some ⟨g_p1, 0, none⟩))), (5, (.slice none 0 0)), (19, (.agg #[(.int .i64 ((rdD p1.m.Actions t2487 z_Action).Write)), (.int .i64 ((rdD p1.m.Actions t2487 z_Action).Move)), (.int .i64 ((rdD p1.m.Actions t2487 z_Action).Next))]))] [.idx A_p1_m_Actions t2487 p1.m.Actions.length, .cell ((adr A_p1_m_Actions).add ((t2487).toNat * 3)) (.int .i64 ((rdD p1.m.Actions t2487 z_Action).Write)), .cell (((adr A_p1_m_Actions).add ((t2487).toNat * 3)).add 1) (.int .i64 ((rdD p1.m.Actions t2487 z_Action).Move)), .cell (((adr A_p1_m_Actions).add ((t2487).toNat * 3)).add 2) (.int .i64 ((rdD p1.m.Actions t2487 z_Action).Next))] (fun fb => by kernel_rfl) rfl ⟨rowR.adr (hS2491.rd 5).1 h2492.1 h2492.2, rowR.cell (hS2491.rd 5).1 z_Action h2492.1 h2492.2 0 rfl, rowR.cell (hS2491.rd 5).1 z_Action h2492.1 h2492.2 1 rfl, rowR.cell (hS2491.rd 5).1 z_Action h2492.1 h2492.2 2 rfl, trivial⟩ ?_
      refine WL.new hS2491 6 [] (fun g => (.pointer (some ⟨g, 0, none⟩))) (.cells #[(.int .i64 0), (.int .i64 0), (.int .i64 0)] 88 (0, 0)) [] (fun fb g => by kernel_rfl) trivial (fun g2493 w2494 hS2495 => ?_)
      refine ⟨⟨blk_cell (hS2495.rd 4).1 2 rfl, trivial⟩, ?_⟩
      refine WL.store hS2495 0 rfl [(0, (.int .i64 ((rdD p1.m.Actions t2487 z_Action).Write))), (1, (.int .i64 ((rdD p1.m.Actions t2487 z_Action).Move))), (2, (.int .i64 ((rdD p1.m.Actions t2487 z_Action).Next)))] #[(.int .i64 ((rdD p1.m.Actions t2487 z_Action).Write)), (.int .i64 ((rdD p1.m.Actions t2487 z_Action).Move)), (.int .i64 ((rdD p1.m.Actions t2487 z_Action).Next))] (fun fb => by kernel_rfl) (by kernel_rfl) rfl [] (by decide) (by decide) (fun w2497 hS2498 => ?_)
      refine ⟨trivial, ?_⟩
      refine WL.done rfl ?_
      injection hx2484 with hx2484
      exact WX.to Kx2483 (((rdD p1.m.Actions t2487 z_Action).Write, (rdD p1.m.Actions t2487 z_Action).Move, (rdD p1.m.Actions t2487 z_Action).Next), g2493) [0, 1, 5, 6] rfl ⟨(hS2498.subR [0, 1, 2, 3, 4, 5, 6]).sub [0] (by decide), hx2484.symm⟩
    ·
      refine segF 6 [.v (.slice A_p1_m_Actions p1.m.Actions.length c_p1_m_Actions)] [0, 1, 5, 15, 16] [(0, (.pointer (some ⟨g_p0, 0, none⟩))), (1, (.pointer (some ⟨g_p1, 0, none⟩))), (5, (.slice none 0 0)), (15, (.slice A_p1_m_Actions p1.m.Actions.length c_p1_m_Actions)), (16, (.pointer (some ⟨g_p1, 0, none⟩)))] [] [0] [(4, ⟨g_p1, 2, none⟩, (.slice A_p1_m_Actions p1.m.Actions.length c_p1_m_Actions))] (fun fb => by kernel_rfl) rfl trivial rfl ?_
      obtain ⟨t2499, ht2500, hx2484⟩ := bind_some hx2484
      refine WL.call (some 17) 63 #[(.pointer (some ⟨g_p1, 0, none⟩))] (fun fb => by kernel_rfl) (machine_runner_does_calls p1 g_p1 A_p1_m_Actions c_p1_m_Actions A_p1_Config_Cells c_p1_Config_Cells t2499 _ (hS2486.rd 4) (hS2486.rd 5) (hS2486.rd 6) ht2500) (fun v w2501 hR2502 => ?_)
      obtain ⟨rfl, hk_⟩ := hR2502
      have hS2503 := hS2486.keepN hk_
      refine ⟨⟨blk_cell (hS2503.rd 4).1 2 rfl, trivial⟩, ?_⟩
      obtain ⟨h2504, hx2484⟩ := as_some hx2484
      refine seg 8 [] [0, 1, 5, 18] [(0, (.pointer (some ⟨g_p0, 0, none⟩))), (1, (.pointer (some ⟨g_p1, 0, none⟩))), (5, (.slice none 0 0)), (18, (.pointer (some ((adr A_p1_m_Actions).add ((t2499).toNat * 3)))))] [.idx A_p1_m_Actions t2499 p1.m.Actions.length] (fun fb => by kernel_rfl) rfl ⟨rowR.adr (hS2503.rd 5).1 h2504.1 h2504.2, trivial⟩ ?_
      refine WL.new hS2503 6 [] (fun g => (.pointer (some ⟨g, 0, none⟩))) (.cells #[(.int .i64 0), (.int .i64 0), (.int .i64 0)] 88 (0, 0)) [] (fun fb g => by kernel_rfl) trivial (fun g2505 w2506 hS2507 => ?_)
      refine ⟨⟨blk_cell (hS2507.rd 4).1 2 rfl, trivial⟩, ?_⟩
      refine seg 10 [.v (.int .i64 ((rdD p1.m.Actions t2499 z_Action).Write)), .v (.int .i64 ((rdD p1.m.Actions t2499 z_Action).Move)), .v (.int .i64 ((rdD p1.m.Actions t2499 z_Action).Next))] [0, 1, 5, 6, 19] [(0, (.pointer (some ⟨g_p0, 0, none⟩))), (1, (.pointer (some ⟨g_p1, 0, none⟩))), (5, (.slice none 0 0)), (6, (.pointer (some ⟨g2505, 0, none⟩))), (19, (.agg #[(.int .i64 ((rdD p1.m.Actions t2499 z_Action).Write)), (.int .i64 ((rdD p1.m.Actions t2499 z_Action).Move)), (.int .i64 ((rdD p1.m.Actions t2499 z_Action).Next))]))] [.cell ((adr A_p1_m_Actions).add ((t2499).toNat * 3)) (.int .i64 ((rdD p1.m.Actions t2499 z_Action).Write)), .cell (((adr A_p1_m_Actions).add ((t2499).toNat * 3)).add 1) (.int .i64 ((rdD p1.m.Actions t2499 z_Action).Move)), .cell (((adr A_p1_m_Actions).add ((t2499).toNat * 3)).add 2) (.int .i64 ((rdD p1.m.Actions t2499 z_Action).Next))] (fun fb => by kernel_rfl) rfl ⟨rowR.cell (hS2507.rd 5).1 z_Action h2504.1 h2504.2 0 rfl, rowR.cell (hS2507.rd 5).1 z_Action h2504.1 h2504.2 1 rfl, rowR.cell (hS2507.rd 5).1 z_Action h2504.1 h2504.2 2 rfl, trivial⟩ ?_
      refine WL.store hS2507 0 rfl [(0, (.int .i64 ((rdD p1.m.Actions t2499 z_Action).Write))), (1, (.int .i64 ((rdD p1.m.Actions t2499 z_Action).Move))), (2, (.int .i64 ((rdD p1.m.Actions t2499 z_Action).Next)))] #[(.int .i64 ((rdD p1.m.Actions t2499 z_Action).Write)), (.int .i64 ((rdD p1.m.Actions t2499 z_Action).Move)), (.int .i64 ((rdD p1.m.Actions t2499 z_Action).Next))] (fun fb => by kernel_rfl) (by kernel_rfl) rfl [] (by decide) (by decide) (fun w2509 hS2510 => ?_)
      refine ⟨trivial, ?_⟩
      refine WL.done rfl ?_
      injection hx2484 with hx2484
      exact WX.to Kx2483 (((rdD p1.m.Actions t2499 z_Action).Write, (rdD p1.m.Actions t2499 z_Action).Move, (rdD p1.m.Actions t2499 z_Action).Next), g2505) [0, 1, 5, 6] rfl ⟨(hS2510.subR [0, 1, 2, 3, 4, 5, 6]).sub [0] (by decide), hx2484.symm⟩
    refine segF 6 [.v (.slice A_p1_m_Actions p1.m.Actions.length c_p1_m_Actions)] [0, 1, 5, 15, 16] [(0, (.pointer (some ⟨g_p0, 0, none⟩))), (1, (.pointer (some ⟨g_p1, 0, none⟩))), (5, (.slice none 0 0)), (15, (.slice A_p1_m_Actions p1.m.Actions.length c_p1_m_Actions)), (16, (.pointer (some ⟨g_p1, 0, none⟩)))] [] [0] [(4, ⟨g_p1, 2, none⟩, (.slice A_p1_m_Actions p1.m.Actions.length c_p1_m_Actions))] (fun fb => by kernel_rfl) rfl trivial rfl ?_
    refine WL.new hS2486 6 [] (fun g => (.pointer (some ⟨g, 0, none⟩))) (.cells #[(.int .i64 0), (.int .i64 0), (.int .i64 0)] 88 (0, 0)) [] (fun fb g => by kernel_rfl) trivial (fun g2511 w2512 hS2513 => ?_)
    refine ⟨⟨blk_cell (hS2513.rd 4).1 2 rfl, trivial⟩, ?_⟩
    obtain ⟨t2515, ht2516, hx2484⟩ := bind_some hx2484
    refine WL.call (some 17) 63 #[(.pointer (some ⟨g_p1, 0, none⟩))] (fun fb => by kernel_rfl) (machine_runner_does_calls p1 g_p1 A_p1_m_Actions c_p1_m_Actions A_p1_Config_Cells c_p1_Config_Cells t2515 _ (hS2513.rd 4) (hS2513.rd 5) (hS2513.rd 6) ht2516) (fun v w2517 hR2518 => ?_)
    obtain ⟨rfl, hk_⟩ := hR2518
    have hS2519 := hS2513.keepN hk_
    refine ⟨⟨blk_cell (hS2519.rd 4).1 2 rfl, trivial⟩, ?_⟩
    obtain ⟨h2520, hx2484⟩ := as_some hx2484
    refine seg 10 [.v (.int .i64 ((rdD p1.m.Actions t2515 z_Action).Write)), .v (.int .i64 ((rdD p1.m.Actions t2515 z_Action).Move)), .v (.int .i64 ((rdD p1.m.Actions t2515 z_Action).Next))] [0, 1, 5, 6, 19] [(0, (.pointer (some ⟨g_p0, 0, none⟩))), (1, (.pointer (some ⟨g_p1, 0, none⟩))), (5, (.slice none 0 0)), (6, (.pointer (some ⟨g2511, 0, none⟩))), (19, (.agg #[(.int .i64 ((rdD p1.m.Actions t2515 z_Action).Write)), (.int .i64 ((rdD p1.m.Actions t2515 z_Action).Move)), (.int .i64 ((rdD p1.m.Actions t2515 z_Action).Next))]))] [.idx A_p1_m_Actions t2515 p1.m.Actions.length, .cell ((adr A_p1_m_Actions).add ((t2515).toNat * 3)) (.int .i64 ((rdD p1.m.Actions t2515 z_Action).Write)), .cell (((adr A_p1_m_Actions).add ((t2515).toNat * 3)).add 1) (.int .i64 ((rdD p1.m.Actions t2515 z_Action).Move)), .cell (((adr A_p1_m_Actions).add ((t2515).toNat * 3)).add 2) (.int .i64 ((rdD p1.m.Actions t2515 z_Action).Next))] (fun fb => by kernel_rfl) rfl ⟨rowR.adr (hS2519.rd 5).1 h2520.1 h2520.2, rowR.cell (hS2519.rd 5).1 z_Action h2520.1 h2520.2 0 rfl, rowR.cell (hS2519.rd 5).1 z_Action h2520.1 h2520.2 1 rfl, rowR.cell (hS2519.rd 5).1 z_Action h2520.1 h2520.2 2 rfl, trivial⟩ ?_
    refine WL.store hS2519 0 rfl [(0, (.int .i64 ((rdD p1.m.Actions t2515 z_Action).Write))), (1, (.int .i64 ((rdD p1.m.Actions t2515 z_Action).Move))), (2, (.int .i64 ((rdD p1.m.Actions t2515 z_Action).Next)))] #[(.int .i64 ((rdD p1.m.Actions t2515 z_Action).Write)), (.int .i64 ((rdD p1.m.Actions t2515 z_Action).Move)), (.int .i64 ((rdD p1.m.Actions t2515 z_Action).Next))] (fun fb => by kernel_rfl) (by kernel_rfl) rfl [] (by decide) (by decide) (fun w2521 hS2522 => ?_)
    refine ⟨trivial, ?_⟩
    refine WL.done rfl ?_
    injection hx2484 with hx2484
    exact WX.to Kx2483 (((rdD p1.m.Actions t2515 z_Action).Write, (rdD p1.m.Actions t2515 z_Action).Move, (rdD p1.m.Actions t2515 z_Action).Next), g2511) [0, 1, 5, 6] rfl ⟨(hS2522.subR [0, 1, 2, 3, 4, 5, 6]).sub [0] (by decide), hx2484.symm⟩
  rintro ⟨y2526, g2479⟩ w2523 ⟨hS2524, hq2525⟩
  subst hq2525
  refine WX.next ?_
  refine WC.seq ?_
  refine WC.regionD ([(4, ⟨g_p1, 4, none⟩, (.int .i64 p1.Config.At)), (6, ⟨g2479, 1, none⟩, (.int .i64 x2483.2.1))], [0, 1, 2, 3, 4, 5, 6, 7, 8, 9, 10], [[], [0], [0, 1], [0, 1, 2], [0, 1, 2, 3], [], [5], [5, 6], [0, 1, 2, 3, 4, 5, 6, 7], [0, 1, 2, 3, 4, 5, 6, 7, 8], [0, 1, 2, 3, 4, 5, 6, 7, 8, 9]]) [[0, 1, 2, 3, 4, 5, 6, 7, 8, 9, 10]] (by kernel_rfl) (by kernel_rfl) (NoPanic.seq (NoPanic.body)) ?_
  have hS2528 := hS2524.drew
  revert hS2528
  generalize World.drew w2523 = w2527
  intro hS2528
  refine ⟨⟨blk_cell (hS2528.rd 4).1 4 rfl, hS2528.cell 0 rfl 1 rfl, trivial⟩, forallC ?_ (forallN)⟩
  refine segF 11 [.v (.int .i64 p1.Config.At), .v (.int .i64 x2483.2.1)] [0, 1, 5, 6, 7] [(0, (.pointer (some ⟨g_p0, 0, none⟩))), (1, (.pointer (some ⟨g_p1, 0, none⟩))), (5, (.slice none 0 0)), (6, (.pointer (some ⟨g2479, 0, none⟩))), (7, (.int .i64 (w64 ((w64 (p1.Config.At + (w64 (2 * x2483.2.1)))) - 1))))] [] [0, 1] [(4, ⟨g_p1, 4, none⟩, (.int .i64 p1.Config.At)), (6, ⟨g2479, 1, none⟩, (.int .i64 x2483.2.1))] (fun fb => by kernel_rfl) rfl trivial rfl ?_
  refine WL.done rfl ?_
  refine WX.next ?_
  refine WC.seq ?_
  refine WC.seq ?_
  refine WC.region ?_
  refine seg 7 [.v (.slice A_p1_Config_Cells p1.Config.Cells.length c_p1_Config_Cells)] [0, 1, 5, 6, 7, 34, 35, 36] [(0, (.pointer (some ⟨g_p0, 0, none⟩))), (1, (.pointer (some ⟨g_p1, 0, none⟩))), (5, (.slice none 0 0)), (6, (.pointer (some ⟨g2479, 0, none⟩))), (7, (.int .i64 (w64 ((w64 (p1.Config.At + (w64 (2 * x2483.2.1)))) - 1)))), (34, (.slice A_p1_Config_Cells p1.Config.Cells.length c_p1_Config_Cells)), (35, (.int .i64 (p1.Config.Cells.length : Int))), (36, (.int .i64 0))] [.cell ⟨g_p1, 5, none⟩ (.slice A_p1_Config_Cells p1.Config.Cells.length c_p1_Config_Cells)] (fun fb => by kernel_rfl) rfl ⟨blk_cell (hS2528.rd 4).1 5 rfl, trivial⟩ ?_
  refine WL.done rfl ?_
  refine WX.next ?_
  have hS2685 := hS2528.nilrow 3 encInt
  obtain ⟨x2693, hx2694, hf⟩ := bind_some hf
  refine WC.cutN (T := (List Int) × (Option Addr) × Nat) (fun t => [(5, (.slice t.2.1 t.1.length t.2.2))]) (fun t w1 => St NoS w w1 [blk g_p0 (.cells #[(.int .i64 p0.m.States), (.int .i64 p0.m.Symbols), (.slice A_p0_m_Actions p0.m.Actions.length c_p0_m_Actions), (.slice A_p0_set p0.set.length c_p0_set), (.slice A_p0_does p0.does.length c_p0_does), (.int .i64 p0.base)] 96 (0, 0)), rowR enc_Action A_p0_m_Actions c_p0_m_Actions p0.m.Actions, rowR enc_Tile A_p0_set c_p0_set p0.set, rowR encInt A_p0_does c_p0_does p0.does, blk g_p1 (.cells #[(.int .i64 p1.m.States), (.int .i64 p1.m.Symbols), (.slice A_p1_m_Actions p1.m.Actions.length c_p1_m_Actions), (.int .i64 p1.Config.State), (.int .i64 p1.Config.At), (.slice A_p1_Config_Cells p1.Config.Cells.length c_p1_Config_Cells)] 82 (0, 0)), rowR enc_Action A_p1_m_Actions c_p1_m_Actions p1.m.Actions, rowR encInt A_p1_Config_Cells c_p1_Config_Cells p1.Config.Cells] [rowO 3 encInt t.2.1 t.2.2 t.1] ∧ x2693 = t.1) (fun Kx2693 => ?_) ?_
  ·
    refine WC.block ?_
    refine WC.loop (T := ((List Int) × Int) × (Option Addr) × Nat) (fun t => [(0, (.pointer (some ⟨g_p0, 0, none⟩))), (1, (.pointer (some ⟨g_p1, 0, none⟩))), (5, (.slice t.2.1 t.1.1.length t.2.2)), (6, (.pointer (some ⟨g2479, 0, none⟩))), (7, (.int .i64 (w64 ((w64 (p1.Config.At + (w64 (2 * x2483.2.1)))) - 1)))), (34, (.slice A_p1_Config_Cells p1.Config.Cells.length c_p1_Config_Cells)), (35, (.int .i64 (p1.Config.Cells.length : Int))), (36, (.int .i64 t.1.2))]) (fun n t w1 => St NoS w w1 [blk g_p0 (.cells #[(.int .i64 p0.m.States), (.int .i64 p0.m.Symbols), (.slice A_p0_m_Actions p0.m.Actions.length c_p0_m_Actions), (.slice A_p0_set p0.set.length c_p0_set), (.slice A_p0_does p0.does.length c_p0_does), (.int .i64 p0.base)] 96 (0, 0)), rowR enc_Action A_p0_m_Actions c_p0_m_Actions p0.m.Actions, rowR enc_Tile A_p0_set c_p0_set p0.set, rowR encInt A_p0_does c_p0_does p0.does, blk g_p1 (.cells #[(.int .i64 p1.m.States), (.int .i64 p1.m.Symbols), (.slice A_p1_m_Actions p1.m.Actions.length c_p1_m_Actions), (.int .i64 p1.Config.State), (.int .i64 p1.Config.At), (.slice A_p1_Config_Cells p1.Config.Cells.length c_p1_Config_Cells)] 82 (0, 0)), rowR enc_Action A_p1_m_Actions c_p1_m_Actions p1.m.Actions, rowR encInt A_p1_Config_Cells c_p1_Config_Cells p1.Config.Cells] [rowO 3 encInt t.2.1 t.2.2 t.1.1, blk g2479 (.cells #[(.int .i64 x2483.1), (.int .i64 x2483.2.1), (.int .i64 x2483.2.2)] 88 (0, 0))] ∧ machine_kit_row.l0 n t.1.1 t.1.2 p0 p1 x2483 = some x2693) k ((([] : List Int), 0), none, 0) [0, 1, 5, 6, 7, 34, 35, 36] rfl ⟨(hS2685.subR [0, 1, 2, 3, 4, 5, 6]).sub [0, 1] (by decide), hx2694⟩ ?_
    rintro k2695 ⟨⟨l2688, x2689⟩, A2686, c2687⟩ w2696 ⟨hS2697, hl2698⟩
    cases k2695 with
    | zero => rw [machine_kit_row.l0] at hl2698; cases hl2698
    | succ k2695 =>
      rw [machine_kit_row.l0] at hl2698
      refine WC.seq ?_
      refine WC.region ?_
      refine seg 1 [] [0, 1, 5, 6, 7, 34, 35, 36, 37] [(0, (.pointer (some ⟨g_p0, 0, none⟩))), (1, (.pointer (some ⟨g_p1, 0, none⟩))), (5, (.slice A2686 l2688.length c2687)), (6, (.pointer (some ⟨g2479, 0, none⟩))), (7, (.int .i64 (w64 ((w64 (p1.Config.At + (w64 (2 * x2483.2.1)))) - 1)))), (34, (.slice A_p1_Config_Cells p1.Config.Cells.length c_p1_Config_Cells)), (35, (.int .i64 (p1.Config.Cells.length : Int))), (36, (.int .i64 x2689)), (37, (.bool (decide (x2689 < (p1.Config.Cells.length : Int)))))] [] (fun fb => by kernel_rfl) rfl trivial ?_
      refine WL.done rfl ?_
      refine WX.next ?_
      refine WC.seq ?_
      rcases br_some hl2698 with ⟨h2699, hl2698⟩ | ⟨h2699, hl2698⟩
      · refine WC.condT2 (fun fb => by kernel_rfl) h2699 ?_
        refine WC.skip ?_
        refine WX.next ?_
        refine WC.seq ?_
        refine WC.block ?_
        refine WC.seq ?_
        refine WC.region ?_
        refine seg 1 [] [0, 1, 5, 6, 7, 34, 35, 36, 38] [(0, (.pointer (some ⟨g_p0, 0, none⟩))), (1, (.pointer (some ⟨g_p1, 0, none⟩))), (5, (.slice A2686 l2688.length c2687)), (6, (.pointer (some ⟨g2479, 0, none⟩))), (7, (.int .i64 (w64 ((w64 (p1.Config.At + (w64 (2 * x2483.2.1)))) - 1)))), (34, (.slice A_p1_Config_Cells p1.Config.Cells.length c_p1_Config_Cells)), (35, (.int .i64 (p1.Config.Cells.length : Int))), (36, (.int .i64 x2689)), (38, (.int .i64 x2689))] [] (fun fb => by kernel_rfl) rfl trivial ?_
        obtain ⟨h2700, hl2698⟩ := as_some hl2698
        refine seg 5 [.v (.int .i64 (rdD p1.Config.Cells x2689 0))] [0, 1, 5, 6, 7, 8, 9, 34, 35, 36] [(0, (.pointer (some ⟨g_p0, 0, none⟩))), (1, (.pointer (some ⟨g_p1, 0, none⟩))), (5, (.slice A2686 l2688.length c2687)), (6, (.pointer (some ⟨g2479, 0, none⟩))), (7, (.int .i64 (w64 ((w64 (p1.Config.At + (w64 (2 * x2483.2.1)))) - 1)))), (8, (.int .i64 x2689)), (9, (.int .i64 (rdD p1.Config.Cells x2689 0))), (34, (.slice A_p1_Config_Cells p1.Config.Cells.length c_p1_Config_Cells)), (35, (.int .i64 (p1.Config.Cells.length : Int))), (36, (.int .i64 x2689))] [.idx A_p1_Config_Cells x2689 p1.Config.Cells.length, .cell ((adr A_p1_Config_Cells).add ((x2689).toNat * 1)) (.int .i64 (rdD p1.Config.Cells x2689 0))] (fun fb => by kernel_rfl) rfl ⟨rowR.adr (hS2697.rd 6).1 h2700.1 h2700.2, rowR.cell (hS2697.rd 6).1 0 h2700.1 h2700.2 0 rfl, trivial⟩ ?_
        refine WL.done rfl ?_
        refine WX.next ?_
        refine WC.seq ?_
        refine WC.region ?_
        refine seg 2 [] [0, 1, 5, 6, 7, 8, 9, 10, 34, 35, 36] [(0, (.pointer (some ⟨g_p0, 0, none⟩))), (1, (.pointer (some ⟨g_p1, 0, none⟩))), (5, (.slice A2686 l2688.length c2687)), (6, (.pointer (some ⟨g2479, 0, none⟩))), (7, (.int .i64 (w64 ((w64 (p1.Config.At + (w64 (2 * x2483.2.1)))) - 1)))), (8, (.int .i64 x2689)), (9, (.int .i64 (rdD p1.Config.Cells x2689 0))), (10, (.int .i64 (rdD p1.Config.Cells x2689 0))), (34, (.slice A_p1_Config_Cells p1.Config.Cells.length c_p1_Config_Cells)), (35, (.int .i64 (p1.Config.Cells.length : Int))), (36, (.int .i64 x2689))] [] (fun fb => by kernel_rfl) rfl trivial ?_
        refine WL.done rfl ?_
        refine WX.next ?_
        refine WC.seq ?_
        refine WC.seq ?_
        refine WC.region ?_
        refine seg 1 [] [0, 1, 5, 6, 7, 9, 10, 34, 35, 36, 42] [(0, (.pointer (some ⟨g_p0, 0, none⟩))), (1, (.pointer (some ⟨g_p1, 0, none⟩))), (5, (.slice A2686 l2688.length c2687)), (6, (.pointer (some ⟨g2479, 0, none⟩))), (7, (.int .i64 (w64 ((w64 (p1.Config.At + (w64 (2 * x2483.2.1)))) - 1)))), (9, (.int .i64 (rdD p1.Config.Cells x2689 0))), (10, (.int .i64 (rdD p1.Config.Cells x2689 0))), (34, (.slice A_p1_Config_Cells p1.Config.Cells.length c_p1_Config_Cells)), (35, (.int .i64 (p1.Config.Cells.length : Int))), (36, (.int .i64 x2689)), (42, (.int .i64 x2689))] [] (fun fb => by kernel_rfl) rfl trivial ?_
        refine WL.done rfl ?_
        refine WX.next ?_
        refine WC.block ?_
        refine WC.seq ?_
        refine WC.region ?_
        refine seg 7 [.v (.int .i64 p1.Config.At)] [0, 1, 5, 6, 7, 9, 10, 34, 35, 36, 42, 43] [(0, (.pointer (some ⟨g_p0, 0, none⟩))), (1, (.pointer (some ⟨g_p1, 0, none⟩))), (5, (.slice A2686 l2688.length c2687)), (6, (.pointer (some ⟨g2479, 0, none⟩))), (7, (.int .i64 (w64 ((w64 (p1.Config.At + (w64 (2 * x2483.2.1)))) - 1)))), (9, (.int .i64 (rdD p1.Config.Cells x2689 0))), (10, (.int .i64 (rdD p1.Config.Cells x2689 0))), (34, (.slice A_p1_Config_Cells p1.Config.Cells.length c_p1_Config_Cells)), (35, (.int .i64 (p1.Config.Cells.length : Int))), (36, (.int .i64 x2689)), (42, (.int .i64 x2689)), (43, (.bool (x2689 == p1.Config.At)))] [.cell ⟨g_p1, 4, none⟩ (.int .i64 p1.Config.At)] (fun fb => by kernel_rfl) rfl ⟨blk_cell (hS2697.rd 4).1 4 rfl, trivial⟩ ?_
        refine WL.done rfl ?_
        refine WX.next ?_
        obtain ⟨x2730, hx2731, hl2698⟩ := bind_some hl2698
        refine WC.cutN (T := Int) (fun t => [(0, (.pointer (some ⟨g_p0, 0, none⟩))), (1, (.pointer (some ⟨g_p1, 0, none⟩))), (5, (.slice A2686 l2688.length c2687)), (6, (.pointer (some ⟨g2479, 0, none⟩))), (7, (.int .i64 (w64 ((w64 (p1.Config.At + (w64 (2 * x2483.2.1)))) - 1)))), (10, (.int .i64 t)), (34, (.slice A_p1_Config_Cells p1.Config.Cells.length c_p1_Config_Cells)), (35, (.int .i64 (p1.Config.Cells.length : Int))), (36, (.int .i64 x2689))]) (fun t w1 => St NoS w w1 [blk g_p0 (.cells #[(.int .i64 p0.m.States), (.int .i64 p0.m.Symbols), (.slice A_p0_m_Actions p0.m.Actions.length c_p0_m_Actions), (.slice A_p0_set p0.set.length c_p0_set), (.slice A_p0_does p0.does.length c_p0_does), (.int .i64 p0.base)] 96 (0, 0)), rowR enc_Action A_p0_m_Actions c_p0_m_Actions p0.m.Actions, rowR enc_Tile A_p0_set c_p0_set p0.set, rowR encInt A_p0_does c_p0_does p0.does, blk g_p1 (.cells #[(.int .i64 p1.m.States), (.int .i64 p1.m.Symbols), (.slice A_p1_m_Actions p1.m.Actions.length c_p1_m_Actions), (.int .i64 p1.Config.State), (.int .i64 p1.Config.At), (.slice A_p1_Config_Cells p1.Config.Cells.length c_p1_Config_Cells)] 82 (0, 0)), rowR enc_Action A_p1_m_Actions c_p1_m_Actions p1.m.Actions, rowR encInt A_p1_Config_Cells c_p1_Config_Cells p1.Config.Cells] [rowO 3 encInt A2686 c2687 l2688, blk g2479 (.cells #[(.int .i64 x2483.1), (.int .i64 x2483.2.1), (.int .i64 x2483.2.2)] 88 (0, 0))] ∧ x2730 = t) (fun Kx2730 => ?_) ?_
        ·
          rcases br_some hx2731 with ⟨h2732, hx2731⟩ | ⟨h2732, hx2731⟩
          · refine WC.condT2 (fun fb => by kernel_rfl) h2732 ?_
            refine WC.regionD ([(3, ⟨g_p0, 4, none⟩, (.slice A_p0_does p0.does.length c_p0_does))], [0, 1, 2, 3, 4, 6, 8], [[], [0], [0, 1], [0, 1, 2], [], [4], [0, 1, 2, 3, 4, 5], [0, 1, 2, 3, 4, 5, 6], [0, 1, 2, 3, 4, 5, 6, 7]]) [[0, 1, 2, 3, 4, 5, 6, 7, 8]] (by kernel_rfl) (by kernel_rfl) (NoPanic.block (NoPanic.seq (NoPanic.block (NoPanic.seq (NoPanic.seq (NoPanic.block (NoPanic.seq (NoPanic.body)))))))) ?_
            have hS2740 := hS2697.drew
            revert hS2740
            generalize World.drew w2696 = w2739
            intro hS2740
            refine ⟨⟨blk_cell (hS2740.rd 0).1 4 rfl, trivial⟩, forallC ?_ (forallN)⟩
            refine segF 5 [.v (.slice A_p0_does p0.does.length c_p0_does)] [0, 1, 5, 6, 7, 34, 35, 36, 53, 54] [(0, (.pointer (some ⟨g_p0, 0, none⟩))), (1, (.pointer (some ⟨g_p1, 0, none⟩))), (5, (.slice A2686 l2688.length c2687)), (6, (.pointer (some ⟨g2479, 0, none⟩))), (7, (.int .i64 (w64 ((w64 (p1.Config.At + (w64 (2 * x2483.2.1)))) - 1)))), (34, (.slice A_p1_Config_Cells p1.Config.Cells.length c_p1_Config_Cells)), (35, (.int .i64 (p1.Config.Cells.length : Int))), (36, (.int .i64 x2689)), (53, (.slice A_p0_does p0.does.length c_p0_does)), (54, (.pointer (some ⟨g_p1, 0, none⟩)))] [] [0] [(3, ⟨g_p0, 4, none⟩, (.slice A_p0_does p0.does.length c_p0_does))] (fun fb => by kernel_rfl) rfl trivial rfl ?_
            obtain ⟨t2741, ht2742, hx2731⟩ := bind_some hx2731
            refine WL.call (some 55) 63 #[(.pointer (some ⟨g_p1, 0, none⟩))] (fun fb => by kernel_rfl) (machine_runner_does_calls p1 g_p1 A_p1_m_Actions c_p1_m_Actions A_p1_Config_Cells c_p1_Config_Cells t2741 _ (hS2740.rd 4) (hS2740.rd 5) (hS2740.rd 6) ht2742) (fun v w2743 hR2744 => ?_)
            obtain ⟨rfl, hk_⟩ := hR2744
            have hS2745 := hS2740.keepN hk_
            refine ⟨⟨blk_cell (hS2745.rd 0).1 4 rfl, trivial⟩, ?_⟩
            obtain ⟨h2746, hx2731⟩ := as_some hx2731
            refine seg 9 [.v (.int .i64 (rdD p0.does t2741 0))] [0, 1, 5, 6, 7, 10, 34, 35, 36] [(0, (.pointer (some ⟨g_p0, 0, none⟩))), (1, (.pointer (some ⟨g_p1, 0, none⟩))), (5, (.slice A2686 l2688.length c2687)), (6, (.pointer (some ⟨g2479, 0, none⟩))), (7, (.int .i64 (w64 ((w64 (p1.Config.At + (w64 (2 * x2483.2.1)))) - 1)))), (10, (.int .i64 (rdD p0.does t2741 0))), (34, (.slice A_p1_Config_Cells p1.Config.Cells.length c_p1_Config_Cells)), (35, (.int .i64 (p1.Config.Cells.length : Int))), (36, (.int .i64 x2689))] [.idx A_p0_does t2741 p0.does.length, .cell ((adr A_p0_does).add ((t2741).toNat * 1)) (.int .i64 (rdD p0.does t2741 0))] (fun fb => by kernel_rfl) rfl ⟨rowR.adr (hS2745.rd 3).1 h2746.1 h2746.2, rowR.cell (hS2745.rd 3).1 0 h2746.1 h2746.2 0 rfl, trivial⟩ ?_
            refine WL.done rfl ?_
            injection hx2731 with hx2731
            exact WX.to Kx2730 (rdD p0.does t2741 0) [0, 1, 5, 6, 7, 10, 34, 35, 36] rfl ⟨(hS2745.subR [0, 1, 2, 3, 4, 5, 6]).sub [0, 1] (by decide), hx2731.symm⟩
          refine WC.condF2 (fun fb => by kernel_rfl) h2732 ?_
          refine WC.seq ?_
          refine WC.region ?_
          refine seg 3 [] [0, 1, 5, 6, 7, 9, 10, 34, 35, 36, 58] [(0, (.pointer (some ⟨g_p0, 0, none⟩))), (1, (.pointer (some ⟨g_p1, 0, none⟩))), (5, (.slice A2686 l2688.length c2687)), (6, (.pointer (some ⟨g2479, 0, none⟩))), (7, (.int .i64 (w64 ((w64 (p1.Config.At + (w64 (2 * x2483.2.1)))) - 1)))), (9, (.int .i64 (rdD p1.Config.Cells x2689 0))), (10, (.int .i64 (rdD p1.Config.Cells x2689 0))), (34, (.slice A_p1_Config_Cells p1.Config.Cells.length c_p1_Config_Cells)), (35, (.int .i64 (p1.Config.Cells.length : Int))), (36, (.int .i64 x2689)), (58, (.bool (x2689 == (w64 ((w64 (p1.Config.At + (w64 (2 * x2483.2.1)))) - 1)))))] [] (fun fb => by kernel_rfl) rfl trivial ?_
          refine WL.done rfl ?_
          refine WX.next ?_
          obtain ⟨x2751, hx2752, hx2731⟩ := bind_some hx2731
          refine WC.cutN (T := Int) (fun t => [(0, (.pointer (some ⟨g_p0, 0, none⟩))), (1, (.pointer (some ⟨g_p1, 0, none⟩))), (5, (.slice A2686 l2688.length c2687)), (6, (.pointer (some ⟨g2479, 0, none⟩))), (7, (.int .i64 (w64 ((w64 (p1.Config.At + (w64 (2 * x2483.2.1)))) - 1)))), (10, (.int .i64 t)), (34, (.slice A_p1_Config_Cells p1.Config.Cells.length c_p1_Config_Cells)), (35, (.int .i64 (p1.Config.Cells.length : Int))), (36, (.int .i64 x2689))]) (fun t w1 => St NoS w w1 [blk g_p0 (.cells #[(.int .i64 p0.m.States), (.int .i64 p0.m.Symbols), (.slice A_p0_m_Actions p0.m.Actions.length c_p0_m_Actions), (.slice A_p0_set p0.set.length c_p0_set), (.slice A_p0_does p0.does.length c_p0_does), (.int .i64 p0.base)] 96 (0, 0)), rowR enc_Action A_p0_m_Actions c_p0_m_Actions p0.m.Actions, rowR enc_Tile A_p0_set c_p0_set p0.set, rowR encInt A_p0_does c_p0_does p0.does, blk g_p1 (.cells #[(.int .i64 p1.m.States), (.int .i64 p1.m.Symbols), (.slice A_p1_m_Actions p1.m.Actions.length c_p1_m_Actions), (.int .i64 p1.Config.State), (.int .i64 p1.Config.At), (.slice A_p1_Config_Cells p1.Config.Cells.length c_p1_Config_Cells)] 82 (0, 0)), rowR enc_Action A_p1_m_Actions c_p1_m_Actions p1.m.Actions, rowR encInt A_p1_Config_Cells c_p1_Config_Cells p1.Config.Cells] [rowO 3 encInt A2686 c2687 l2688, blk g2479 (.cells #[(.int .i64 x2483.1), (.int .i64 x2483.2.1), (.int .i64 x2483.2.2)] 88 (0, 0))] ∧ x2751 = t) (fun Kx2751 => ?_) ?_
          ·
            rcases br_some hx2752 with ⟨h2753, hx2752⟩ | ⟨h2753, hx2752⟩
            · refine WC.condT2 (fun fb => by kernel_rfl) h2753 ?_
              refine WC.regionD ([(3, ⟨g_p0, 5, none⟩, (.int .i64 p0.base)), (5, ⟨g2479, 2, none⟩, (.int .i64 x2483.2.2)), (10, ⟨g_p1, 1, none⟩, (.int .i64 p1.m.Symbols)), (18, ⟨g2479, 1, none⟩, (.int .i64 x2483.2.1))], [0, 1, 2, 3, 4, 5, 6, 7, 8, 9, 10, 11, 12, 13, 14, 15, 16, 17, 18, 19, 20], [[], [0], [0, 1], [0, 1, 2], [], [4], [], [6], [6, 7], [6, 7, 8], [6, 7, 8, 9], [4, 5, 6, 7, 8, 9, 10], [], [4, 5, 6, 7, 8, 9, 10, 11, 12], [4, 5, 6, 7, 8, 9, 10, 11, 12, 13], [0, 1, 2, 3, 4, 5, 6, 7, 8, 9, 10, 11, 12, 13, 14], [0, 1, 2, 3, 4, 5, 6, 7, 8, 9, 10, 11, 12, 13, 14, 15], [], [17], [0, 1, 2, 3, 4, 5, 6, 7, 8, 9, 10, 11, 12, 13, 14, 15, 16, 17, 18], [0, 1, 2, 3, 4, 5, 6, 7, 8, 9, 10, 11, 12, 13, 14, 15, 16, 17, 18, 19]]) [[0, 1, 2, 3, 4, 5, 6, 7, 8, 9, 10, 11, 12, 13, 14, 15, 16, 17, 18, 19, 20]] (by kernel_rfl) (by kernel_rfl) (NoPanic.block (NoPanic.seq (NoPanic.block (NoPanic.seq (NoPanic.seq (NoPanic.block (NoPanic.seq (NoPanic.body)))))))) ?_
              have hS2755 := hS2697.drew
              revert hS2755
              generalize World.drew w2696 = w2754
              intro hS2755
              refine ⟨⟨blk_cell (hS2755.rd 0).1 5 rfl, hS2755.cell 1 rfl 2 rfl, blk_cell (hS2755.rd 4).1 1 rfl, hS2755.cell 1 rfl 1 rfl, trivial⟩, forallC ?_ (forallN)⟩
              refine segF 21 [.v (.int .i64 p0.base), .v (.int .i64 x2483.2.2), .v (.int .i64 p1.m.Symbols), .v (.int .i64 x2483.2.1)] [0, 1, 5, 6, 7, 10, 34, 35, 36] [(0, (.pointer (some ⟨g_p0, 0, none⟩))), (1, (.pointer (some ⟨g_p1, 0, none⟩))), (5, (.slice A2686 l2688.length c2687)), (6, (.pointer (some ⟨g2479, 0, none⟩))), (7, (.int .i64 (w64 ((w64 (p1.Config.At + (w64 (2 * x2483.2.1)))) - 1)))), (10, (.int .i64 (w64 ((w64 ((w64 (p0.base + (w64 (2 * (w64 ((w64 (x2483.2.2 * p1.m.Symbols)) + (rdD p1.Config.Cells x2689 0))))))) + 1)) - x2483.2.1)))), (34, (.slice A_p1_Config_Cells p1.Config.Cells.length c_p1_Config_Cells)), (35, (.int .i64 (p1.Config.Cells.length : Int))), (36, (.int .i64 x2689))] [] [0, 1, 2, 3] [(3, ⟨g_p0, 5, none⟩, (.int .i64 p0.base)), (5, ⟨g2479, 2, none⟩, (.int .i64 x2483.2.2)), (10, ⟨g_p1, 1, none⟩, (.int .i64 p1.m.Symbols)), (18, ⟨g2479, 1, none⟩, (.int .i64 x2483.2.1))] (fun fb => by kernel_rfl) rfl trivial rfl ?_
              refine WL.done rfl ?_
              injection hx2752 with hx2752
              exact WX.to Kx2751 (w64 ((w64 ((w64 (p0.base + (w64 (2 * (w64 ((w64 (x2483.2.2 * p1.m.Symbols)) + (rdD p1.Config.Cells x2689 0))))))) + 1)) - x2483.2.1)) [0, 1, 5, 6, 7, 10, 34, 35, 36] rfl ⟨(hS2755.subR [0, 1, 2, 3, 4, 5, 6]).sub [0, 1] (by decide), hx2752.symm⟩
            refine WC.condF2 (fun fb => by kernel_rfl) h2753 ?_
            refine WC.skip ?_
            injection hx2752 with hx2752
            exact WX.to Kx2751 (rdD p1.Config.Cells x2689 0) [0, 1, 5, 6, 7, 10, 34, 35, 36] rfl ⟨(hS2697.subR [0, 1, 2, 3, 4, 5, 6]).sub [0, 1] (by decide), hx2752.symm⟩
          rintro y2759 w2756 ⟨hS2757, hq2758⟩
          subst hq2758
          injection hx2731 with hx2731
          exact WX.to Kx2730 x2751 [0, 1, 5, 6, 7, 10, 34, 35, 36] rfl ⟨(hS2757.subR [0, 1, 2, 3, 4, 5, 6]).sub [0, 1] (by decide), hx2731.symm⟩
        rintro y2763 w2760 ⟨hS2761, hq2762⟩
        subst hq2762
        refine WX.blockN (WX.next ?_)
        refine WC.region ?_
        refine seg 2 [] [0, 1, 6, 7, 34, 35, 36, 81, 82] [(0, (.pointer (some ⟨g_p0, 0, none⟩))), (1, (.pointer (some ⟨g_p1, 0, none⟩))), (6, (.pointer (some ⟨g2479, 0, none⟩))), (7, (.int .i64 (w64 ((w64 (p1.Config.At + (w64 (2 * x2483.2.1)))) - 1)))), (34, (.slice A_p1_Config_Cells p1.Config.Cells.length c_p1_Config_Cells)), (35, (.int .i64 (p1.Config.Cells.length : Int))), (36, (.int .i64 x2689)), (81, (.slice A2686 l2688.length c2687)), (82, (.int .i64 x2730))] [] (fun fb => by kernel_rfl) rfl trivial ?_
        refine WL.new hS2761 83 [] (fun g => (.slice (some ⟨g, 0, none⟩) 1 1)) (.cells #[(.int .i64 x2730)] 3 (0, 0)) [] (fun fb g => by kernel_rfl) trivial (fun g2764 w2765 hS2766 => ?_)
        refine ⟨trivial, ?_⟩
        have hS2768 : St NoS w w2765 [blk g_p0 (.cells #[(.int .i64 p0.m.States), (.int .i64 p0.m.Symbols), (.slice A_p0_m_Actions p0.m.Actions.length c_p0_m_Actions), (.slice A_p0_set p0.set.length c_p0_set), (.slice A_p0_does p0.does.length c_p0_does), (.int .i64 p0.base)] 96 (0, 0)), rowR enc_Action A_p0_m_Actions c_p0_m_Actions p0.m.Actions, rowR enc_Tile A_p0_set c_p0_set p0.set, rowR encInt A_p0_does c_p0_does p0.does, blk g_p1 (.cells #[(.int .i64 p1.m.States), (.int .i64 p1.m.Symbols), (.slice A_p1_m_Actions p1.m.Actions.length c_p1_m_Actions), (.int .i64 p1.Config.State), (.int .i64 p1.Config.At), (.slice A_p1_Config_Cells p1.Config.Cells.length c_p1_Config_Cells)] 82 (0, 0)), rowR enc_Action A_p1_m_Actions c_p1_m_Actions p1.m.Actions, rowR encInt A_p1_Config_Cells c_p1_Config_Cells p1.Config.Cells] [rowO 3 encInt (some ⟨g2764, 0, none⟩) 1 [x2730], rowO 3 encInt A2686 c2687 l2688, blk g2479 (.cells #[(.int .i64 x2483.1), (.int .i64 x2483.2.1), (.int .i64 x2483.2.2)] 88 (0, 0))] := hS2766.map1 0 _ (fun h => rowO.ofBlk h rfl (Nat.le_of_ble_eq_true (by kernel_rfl))) (fun _ h => by obtain ⟨_, h1, h2⟩ := h; injection h1 with h1; subst h1; exact h2) [1, 2] (by decide) (by decide)
        obtain ⟨h2769, hl2698⟩ := as_some hl2698
        refine WL.append hS2768 1 (d := 84) (tS := 25) (z := (.int .i64 0)) (bytes := 8) (c2 := 1) rfl (fun fb => by kernel_rfl) (rowO.rd (hS2768.own 0).1) (by kernel_rfl) (by kernel_rfl) rfl (by decide) h2769 (by decide) [0, 2] (by decide) (by decide) (fun A2770 c2771 w2772 hS2773 => ?_)
        refine ⟨trivial, ?_⟩
        refine seg 5 [] [0, 1, 5, 6, 7, 34, 35, 36] [(0, (.pointer (some ⟨g_p0, 0, none⟩))), (1, (.pointer (some ⟨g_p1, 0, none⟩))), (5, (.slice A2770 (l2688 ++ [x2730]).length c2771)), (6, (.pointer (some ⟨g2479, 0, none⟩))), (7, (.int .i64 (w64 ((w64 (p1.Config.At + (w64 (2 * x2483.2.1)))) - 1)))), (34, (.slice A_p1_Config_Cells p1.Config.Cells.length c_p1_Config_Cells)), (35, (.int .i64 (p1.Config.Cells.length : Int))), (36, (.int .i64 x2689))] [] (fun fb => by kernel_rfl) rfl trivial ?_
        refine WL.done rfl ?_
        refine WX.blockN (WX.next ?_)
        refine WC.region ?_
        refine seg 2 [] [0, 1, 5, 6, 7, 34, 35, 36] [(0, (.pointer (some ⟨g_p0, 0, none⟩))), (1, (.pointer (some ⟨g_p1, 0, none⟩))), (5, (.slice A2770 (l2688 ++ [x2730]).length c2771)), (6, (.pointer (some ⟨g2479, 0, none⟩))), (7, (.int .i64 (w64 ((w64 (p1.Config.At + (w64 (2 * x2483.2.1)))) - 1)))), (34, (.slice A_p1_Config_Cells p1.Config.Cells.length c_p1_Config_Cells)), (35, (.int .i64 (p1.Config.Cells.length : Int))), (36, (.int .i64 (w64 (x2689 + 1))))] [] (fun fb => by kernel_rfl) rfl trivial ?_
        refine WL.done rfl ?_
        exact WX.again k2695 (Nat.lt_succ_self _) ((l2688 ++ [x2730], w64 (x2689 + 1)), A2770, c2771) [0, 1, 5, 6, 7, 34, 35, 36] rfl ⟨(hS2773.subR [0, 1, 2, 3, 4, 5, 6]).sub [0, 2] (by decide), hl2698⟩
      refine WC.condF2 (fun fb => by kernel_rfl) h2699 ?_
      refine WC.exit ?_
      injection hl2698 with hl2698
      exact WX.thenX (WX.thenX (WX.blockHere (WX.to Kx2693 (l2688, A2686, c2687) [5] rfl ⟨(hS2697.subR [0, 1, 2, 3, 4, 5, 6]).sub [0] (by decide), hl2698.symm⟩)))
  rintro ⟨y2777, A2690, c2691⟩ w2774 ⟨hS2775, hq2776⟩
  subst hq2776
  refine WX.next ?_
  refine WC.seq ?_
  refine WC.region ?_
  refine seg 2 [] [4] [(4, (.slice A2690 x2693.length c2691))] [] (fun fb => by kernel_rfl) rfl trivial ?_
  refine WL.done rfl ?_
  refine WX.next ?_
  refine WC.ret ?_
  injection hf with hf
  subst hf
  exact WX.ret_ [] (.slice A2690 x2693.length c2691) [] (fun fb => by kernel_rfl) trivial ⟨_, rfl, A2690, c2691, rfl, (hS2775.sub [0] (by decide)).noR⟩
theorem machine_Picture_calls (k : Nat) (p0 : Machine) (p1 : Config) (p2 : Int) (A_p0_Actions : Option Addr) (c_p0_Actions : Nat) (A_p1_Cells : Option Addr) (c_p1_Cells : Nat) (r : Pattern × Int) (w : World) (hR0 : RO NoS w (rowR enc_Action A_p0_Actions c_p0_Actions p0.Actions)) (hR1 : RO NoS w (rowR encInt A_p1_Cells c_p1_Cells p1.Cells)) (hf : machine_Picture k p0 p1 p2 = some r) :
    CallsR Try.prog 12 #[(.agg #[(.int .i64 p0.States), (.int .i64 p0.Symbols), (.slice A_p0_Actions p0.Actions.length c_p0_Actions)]), (.agg #[(.int .i64 p1.State), (.int .i64 p1.At), (.slice A_p1_Cells p1.Cells.length c_p1_Cells)]), (.int .i64 p2)] w (fun v w' => ∃ (A1_ : Option Addr), ∃ (c1_ : Nat), v = (.tuple #[(.agg #[(.int .i64 r.1.Width), (.int .i64 r.1.Height), (.slice A1_ r.1.Cells.length c1_)]), (.int .i64 r.2)]) ∧ St NoS w w' [] [rowO 3 encInt A1_ c1_ r.1.Cells]) := by
  have hS : St NoS w w [rowR enc_Action A_p0_Actions c_p0_Actions p0.Actions, rowR encInt A_p1_Cells c_p1_Cells p1.Cells] [] := St.init (ro_cons hR0 (ro_cons hR1 (ro_nil _ _)))
  refine enter 67 Try.func12 rfl Try.ntmps12 rfl ?_
  unfold machine_Picture at hf
  refine WC.seq ?_
  refine WC.region ?_
  refine WL.new hS 3 [] (fun g => (.pointer (some ⟨g, 0, none⟩))) (.cells #[(.int .i64 p0.States), (.int .i64 p0.Symbols), (.slice A_p0_Actions p0.Actions.length c_p0_Actions)] 24 (0, 0)) [] (fun fb g => by kernel_rfl) trivial (fun g2324 w2325 hS2326 => ?_)
  refine ⟨trivial, ?_⟩
  refine WL.new hS2326 4 [] (fun g => (.pointer (some ⟨g, 0, none⟩))) (.cells #[(.int .i64 p1.State), (.int .i64 p1.At), (.slice A_p1_Cells p1.Cells.length c_p1_Cells)] 27 (0, 0)) [] (fun fb g => by kernel_rfl) trivial (fun g2328 w2329 hS2330 => ?_)
  refine ⟨trivial, ?_⟩
  refine WL.new hS2330 6 [] (fun g => (.pointer (some ⟨g, 0, none⟩))) (.cells #[(.int .i64 0), (.int .i64 0), (.slice none 0 0)] 31 (0, 0)) [] (fun fb g => by kernel_rfl) trivial (fun g2332 w2333 hS2334 => ?_)
  refine ⟨trivial, ?_⟩
  refine seg 4 [] [2, 3, 4, 6] [(2, (.int .i64 p2)), (3, (.pointer (some ⟨g2324, 0, none⟩))), (4, (.pointer (some ⟨g2328, 0, none⟩))), (6, (.pointer (some ⟨g2332, 0, none⟩)))] [] (fun fb => by kernel_rfl) rfl trivial ?_
  refine WL.done rfl ?_
  refine WX.next ?_
  refine WC.seq ?_
  refine WC.block ?_
  refine WC.seq ?_
  refine WC.region ?_
  refine seg 2 [.v (.int .i64 p0.States), .v (.int .i64 p0.Symbols), .v (.slice A_p0_Actions p0.Actions.length c_p0_Actions), .v (.int .i64 p1.State), .v (.int .i64 p1.At), .v (.slice A_p1_Cells p1.Cells.length c_p1_Cells)] [2, 3, 4, 6, 13, 14] [(2, (.int .i64 p2)), (3, (.pointer (some ⟨g2324, 0, none⟩))), (4, (.pointer (some ⟨g2328, 0, none⟩))), (6, (.pointer (some ⟨g2332, 0, none⟩))), (13, (.agg #[(.int .i64 p0.States), (.int .i64 p0.Symbols), (.slice A_p0_Actions p0.Actions.length c_p0_Actions)])), (14, (.agg #[(.int .i64 p1.State), (.int .i64 p1.At), (.slice A_p1_Cells p1.Cells.length c_p1_Cells)]))] [.cell ⟨g2324, 0, none⟩ (.int .i64 p0.States), .cell ⟨g2324, 1, none⟩ (.int .i64 p0.Symbols), .cell ⟨g2324, 2, none⟩ (.slice A_p0_Actions p0.Actions.length c_p0_Actions), .cell ⟨g2328, 0, none⟩ (.int .i64 p1.State), .cell ⟨g2328, 1, none⟩ (.int .i64 p1.At), .cell ⟨g2328, 2, none⟩ (.slice A_p1_Cells p1.Cells.length c_p1_Cells)] (fun fb => by kernel_rfl) rfl ⟨hS2334.cell 2 rfl 0 rfl, hS2334.cell 2 rfl 1 rfl, hS2334.cell 2 rfl 2 rfl, hS2334.cell 1 rfl 0 rfl, hS2334.cell 1 rfl 1 rfl, hS2334.cell 1 rfl 2 rfl, trivial⟩ ?_
  obtain ⟨t2336, ht2337, hf⟩ := bind_some hf
  refine WL.call (some 15) 18 #[(.agg #[(.int .i64 p0.States), (.int .i64 p0.Symbols), (.slice A_p0_Actions p0.Actions.length c_p0_Actions)]), (.agg #[(.int .i64 p1.State), (.int .i64 p1.At), (.slice A_p1_Cells p1.Cells.length c_p1_Cells)])] (fun fb => by kernel_rfl) (machine_Fits_calls _ p0 p1 A_p0_Actions c_p0_Actions A_p1_Cells c_p1_Cells t2336 _ (hS2334.rd 0) (hS2334.rd 1) ht2337) (fun v w2338 hR2339 => ?_)
  obtain ⟨rfl, hk_⟩ := hR2339
  have hS2340 := hS2334.keepN hk_
  refine ⟨trivial, ?_⟩
  refine seg 5 [] [2, 3, 4, 6, 12] [(2, (.int .i64 p2)), (3, (.pointer (some ⟨g2324, 0, none⟩))), (4, (.pointer (some ⟨g2328, 0, none⟩))), (6, (.pointer (some ⟨g2332, 0, none⟩))), (12, (.bool (!t2336)))] [] (fun fb => by kernel_rfl) rfl trivial ?_
  refine WL.done rfl ?_
  refine WX.next ?_
  rcases br_some hf with ⟨h2341, hf⟩ | ⟨h2341, hf⟩
  · refine WC.condT2 (fun fb => by kernel_rfl) h2341 ?_
    refine WC.seq ?_
    refine WC.region ?_
    refine seg 1 [] [6, 17] [(6, (.pointer (some ⟨g2332, 0, none⟩))), (17, (.agg #[(.int .i64 0), (.int .i64 0), (.slice none 0 0)]))] [] (fun fb => by kernel_rfl) rfl trivial ?_
    refine WL.store hS2340 0 rfl [(0, (.int .i64 0)), (1, (.int .i64 0)), (2, (.slice none 0 0))] #[(.int .i64 0), (.int .i64 0), (.slice none 0 0)] (fun fb => by kernel_rfl) (by kernel_rfl) rfl [1, 2] (by decide) (by decide) (fun w2342 hS2343 => ?_)
    refine ⟨trivial, ?_⟩
    refine seg 3 [] [6, 7] [(6, (.pointer (some ⟨g2332, 0, none⟩))), (7, (.int .i64 1))] [] (fun fb => by kernel_rfl) rfl trivial ?_
    refine WL.done rfl ?_
    refine WX.next ?_
    refine WC.ret ?_
    have hS2344 := hS2343.nilrow 3 encInt
    injection hf with hf
    subst hf
    exact WX.blockR (WX.thenR (WX.ret_ [.v (.int .i64 0), .v (.int .i64 0), .v (.slice none 0 0)] (.tuple #[(.agg #[(.int .i64 0), (.int .i64 0), (.slice none ([] : List Int).length 0)]), (.int .i64 1)]) [.cell ⟨g2332, 0, none⟩ (.int .i64 0), .cell ⟨g2332, 1, none⟩ (.int .i64 0), .cell ⟨g2332, 2, none⟩ (.slice none 0 0)] (fun fb => by kernel_rfl) ⟨hS2343.cell 0 rfl 0 rfl, hS2343.cell 0 rfl 1 rfl, hS2343.cell 0 rfl 2 rfl, trivial⟩ ⟨_, rfl, none, 0, rfl, (hS2344.sub [0] (by decide)).noR⟩))
  refine WC.condF2 (fun fb => by kernel_rfl) h2341 ?_
  refine WC.seq ?_
  refine WC.region ?_
  refine seg 3 [] [2, 3, 4, 6, 18] [(2, (.int .i64 p2)), (3, (.pointer (some ⟨g2324, 0, none⟩))), (4, (.pointer (some ⟨g2328, 0, none⟩))), (6, (.pointer (some ⟨g2332, 0, none⟩))), (18, (.bool (decide (p2 < 1))))] [] (fun fb => by kernel_rfl) rfl trivial ?_
  refine WL.done rfl ?_
  refine WX.next ?_
  rcases br_some hf with ⟨h2345, hf⟩ | ⟨h2345, hf⟩
  · refine WC.condT2 (fun fb => by kernel_rfl) h2345 ?_
    refine WC.seq ?_
    refine WC.region ?_
    refine seg 1 [] [6, 21] [(6, (.pointer (some ⟨g2332, 0, none⟩))), (21, (.agg #[(.int .i64 0), (.int .i64 0), (.slice none 0 0)]))] [] (fun fb => by kernel_rfl) rfl trivial ?_
    refine WL.store hS2340 0 rfl [(0, (.int .i64 0)), (1, (.int .i64 0)), (2, (.slice none 0 0))] #[(.int .i64 0), (.int .i64 0), (.slice none 0 0)] (fun fb => by kernel_rfl) (by kernel_rfl) rfl [1, 2] (by decide) (by decide) (fun w2346 hS2347 => ?_)
    refine ⟨trivial, ?_⟩
    refine seg 3 [] [6, 7] [(6, (.pointer (some ⟨g2332, 0, none⟩))), (7, (.int .i64 2))] [] (fun fb => by kernel_rfl) rfl trivial ?_
    refine WL.done rfl ?_
    refine WX.next ?_
    refine WC.ret ?_
    have hS2348 := hS2347.nilrow 3 encInt
    injection hf with hf
    subst hf
    exact WX.blockR (WX.thenR (WX.ret_ [.v (.int .i64 0), .v (.int .i64 0), .v (.slice none 0 0)] (.tuple #[(.agg #[(.int .i64 0), (.int .i64 0), (.slice none ([] : List Int).length 0)]), (.int .i64 2)]) [.cell ⟨g2332, 0, none⟩ (.int .i64 0), .cell ⟨g2332, 1, none⟩ (.int .i64 0), .cell ⟨g2332, 2, none⟩ (.slice none 0 0)] (fun fb => by kernel_rfl) ⟨hS2347.cell 0 rfl 0 rfl, hS2347.cell 0 rfl 1 rfl, hS2347.cell 0 rfl 2 rfl, trivial⟩ ⟨_, rfl, none, 0, rfl, (hS2348.sub [0] (by decide)).noR⟩))
  refine WC.condF2 (fun fb => by kernel_rfl) h2345 ?_
  refine WC.seq ?_
  refine WC.region ?_
  refine seg 3 [] [2, 3, 4, 6, 25] [(2, (.int .i64 p2)), (3, (.pointer (some ⟨g2324, 0, none⟩))), (4, (.pointer (some ⟨g2328, 0, none⟩))), (6, (.pointer (some ⟨g2332, 0, none⟩))), (25, (.bool (decide (p2 > 40000))))] [] (fun fb => by kernel_rfl) rfl trivial ?_
  refine WL.cutV (T := Bool) 10 (fun t => [(32, (.bool t)), (2, (.int .i64 p2)), (3, (.pointer (some ⟨g2324, 0, none⟩))), (4, (.pointer (some ⟨g2328, 0, none⟩))), (6, (.pointer (some ⟨g2332, 0, none⟩)))]) (fun t => t = ((decide (p2 > 40000)) || (decide (w64 ((p1.Cells.length : Int) * p2) > 40000)))) (fun K => ?_) ?_
  ·
    rcases Bool.eq_false_or_eq_true (decide (p2 > 40000)) with h2349 | h2349
    ·
      refine WL.setB 25 h2349 rfl ?_
      refine seg 10 [] [2, 3, 4, 6, 32] [(2, (.int .i64 p2)), (3, (.pointer (some ⟨g2324, 0, none⟩))), (4, (.pointer (some ⟨g2328, 0, none⟩))), (6, (.pointer (some ⟨g2332, 0, none⟩))), (32, (.bool true))] [] (fun fb => by kernel_rfl) rfl trivial ?_
      exact WL.toV K true [32, 2, 3, 4, 6] rfl (by rw [h2349]; rfl)
    refine WL.setB 25 h2349 rfl ?_
    refine seg 10 [.v (.slice A_p1_Cells p1.Cells.length c_p1_Cells)] [2, 3, 4, 6, 32] [(2, (.int .i64 p2)), (3, (.pointer (some ⟨g2324, 0, none⟩))), (4, (.pointer (some ⟨g2328, 0, none⟩))), (6, (.pointer (some ⟨g2332, 0, none⟩))), (32, (.bool (decide (w64 ((p1.Cells.length : Int) * p2) > 40000))))] [.cell ⟨g2328, 2, none⟩ (.slice A_p1_Cells p1.Cells.length c_p1_Cells)] (fun fb => by kernel_rfl) rfl ⟨hS2340.cell 1 rfl 2 rfl, trivial⟩ ?_
    exact WL.toV K (decide (w64 ((p1.Cells.length : Int) * p2) > 40000)) [32, 2, 3, 4, 6] rfl (by rw [h2349]; rfl)
  rintro b2350 rfl
  refine seg 11 [] [2, 3, 4, 6, 22] [(2, (.int .i64 p2)), (3, (.pointer (some ⟨g2324, 0, none⟩))), (4, (.pointer (some ⟨g2328, 0, none⟩))), (6, (.pointer (some ⟨g2332, 0, none⟩))), (22, (.bool ((decide (p2 > 40000)) || (decide (w64 ((p1.Cells.length : Int) * p2) > 40000)))))] [] (fun fb => by kernel_rfl) rfl trivial ?_
  refine WL.done rfl ?_
  refine WX.next ?_
  rcases br_some hf with ⟨h2351, hf⟩ | ⟨h2351, hf⟩
  · refine WC.condT2 (fun fb => by kernel_rfl) h2351 ?_
    refine WC.seq ?_
    refine WC.region ?_
    refine seg 1 [] [6, 33] [(6, (.pointer (some ⟨g2332, 0, none⟩))), (33, (.agg #[(.int .i64 0), (.int .i64 0), (.slice none 0 0)]))] [] (fun fb => by kernel_rfl) rfl trivial ?_
    refine WL.store hS2340 0 rfl [(0, (.int .i64 0)), (1, (.int .i64 0)), (2, (.slice none 0 0))] #[(.int .i64 0), (.int .i64 0), (.slice none 0 0)] (fun fb => by kernel_rfl) (by kernel_rfl) rfl [1, 2] (by decide) (by decide) (fun w2352 hS2353 => ?_)
    refine ⟨trivial, ?_⟩
    refine seg 3 [] [6, 7] [(6, (.pointer (some ⟨g2332, 0, none⟩))), (7, (.int .i64 4))] [] (fun fb => by kernel_rfl) rfl trivial ?_
    refine WL.done rfl ?_
    refine WX.next ?_
    refine WC.ret ?_
    have hS2354 := hS2353.nilrow 3 encInt
    injection hf with hf
    subst hf
    exact WX.blockR (WX.thenR (WX.ret_ [.v (.int .i64 0), .v (.int .i64 0), .v (.slice none 0 0)] (.tuple #[(.agg #[(.int .i64 0), (.int .i64 0), (.slice none ([] : List Int).length 0)]), (.int .i64 4)]) [.cell ⟨g2332, 0, none⟩ (.int .i64 0), .cell ⟨g2332, 1, none⟩ (.int .i64 0), .cell ⟨g2332, 2, none⟩ (.slice none 0 0)] (fun fb => by kernel_rfl) ⟨hS2353.cell 0 rfl 0 rfl, hS2353.cell 0 rfl 1 rfl, hS2353.cell 0 rfl 2 rfl, trivial⟩ ⟨_, rfl, none, 0, rfl, (hS2354.sub [0] (by decide)).noR⟩))
  refine WC.condF2 (fun fb => by kernel_rfl) h2351 ?_
  refine WC.skip ?_
  refine WX.blockN (WX.next ?_)
  refine WC.seq ?_
  refine WC.regionD ([(0, ⟨g2324, 0, none⟩, (.int .i64 p0.States)), (0, ⟨g2324, 1, none⟩, (.int .i64 p0.Symbols)), (0, ⟨g2324, 2, none⟩, (.slice A_p0_Actions p0.Actions.length c_p0_Actions)), (2, ⟨g2324, 0, none⟩, (.int .i64 p0.States)), (2, ⟨g2324, 1, none⟩, (.int .i64 p0.Symbols)), (2, ⟨g2324, 2, none⟩, (.slice A_p0_Actions p0.Actions.length c_p0_Actions)), (3, ⟨g2328, 0, none⟩, (.int .i64 p1.State)), (3, ⟨g2328, 1, none⟩, (.int .i64 p1.At)), (3, ⟨g2328, 2, none⟩, (.slice A_p1_Cells p1.Cells.length c_p1_Cells))], [0, 2, 3, 5, 6], [[], [0], [], [], [0, 1, 2, 3], [0, 1, 2, 3, 4], [0, 1, 2, 3, 4, 5]]) [[0, 2, 3, 1, 4, 5, 6]] (by kernel_rfl) (by kernel_rfl) (NoPanic.seq (NoPanic.body)) ?_
  have hS2374 := hS2340.drew
  revert hS2374
  generalize World.drew w2338 = w2373
  intro hS2374
  refine ⟨⟨hS2374.cell 2 rfl 0 rfl, hS2374.cell 2 rfl 1 rfl, hS2374.cell 2 rfl 2 rfl, hS2374.cell 2 rfl 0 rfl, hS2374.cell 2 rfl 1 rfl, hS2374.cell 2 rfl 2 rfl, hS2374.cell 1 rfl 0 rfl, hS2374.cell 1 rfl 1 rfl, hS2374.cell 1 rfl 2 rfl, trivial⟩, forallC ?_ (forallN)⟩
  refine segF 3 [.v (.int .i64 p0.States), .v (.int .i64 p0.Symbols), .v (.slice A_p0_Actions p0.Actions.length c_p0_Actions), .v (.int .i64 p0.States), .v (.int .i64 p0.Symbols), .v (.slice A_p0_Actions p0.Actions.length c_p0_Actions), .v (.int .i64 p1.State), .v (.int .i64 p1.At), .v (.slice A_p1_Cells p1.Cells.length c_p1_Cells)] [2, 3, 4, 6, 34, 36, 37] [(2, (.int .i64 p2)), (3, (.pointer (some ⟨g2324, 0, none⟩))), (4, (.pointer (some ⟨g2328, 0, none⟩))), (6, (.pointer (some ⟨g2332, 0, none⟩))), (34, (.agg #[(.int .i64 p0.States), (.int .i64 p0.Symbols), (.slice A_p0_Actions p0.Actions.length c_p0_Actions)])), (36, (.agg #[(.int .i64 p0.States), (.int .i64 p0.Symbols), (.slice A_p0_Actions p0.Actions.length c_p0_Actions)])), (37, (.agg #[(.int .i64 p1.State), (.int .i64 p1.At), (.slice A_p1_Cells p1.Cells.length c_p1_Cells)]))] [] [0, 1, 2, 3, 4, 5, 6, 7, 8] [(0, ⟨g2324, 0, none⟩, (.int .i64 p0.States)), (0, ⟨g2324, 1, none⟩, (.int .i64 p0.Symbols)), (0, ⟨g2324, 2, none⟩, (.slice A_p0_Actions p0.Actions.length c_p0_Actions)), (2, ⟨g2324, 0, none⟩, (.int .i64 p0.States)), (2, ⟨g2324, 1, none⟩, (.int .i64 p0.Symbols)), (2, ⟨g2324, 2, none⟩, (.slice A_p0_Actions p0.Actions.length c_p0_Actions)), (3, ⟨g2328, 0, none⟩, (.int .i64 p1.State)), (3, ⟨g2328, 1, none⟩, (.int .i64 p1.At)), (3, ⟨g2328, 2, none⟩, (.slice A_p1_Cells p1.Cells.length c_p1_Cells))] (fun fb => by kernel_rfl) rfl trivial rfl ?_
  obtain ⟨t2375, ht2376, hf⟩ := bind_some hf
  refine WL.call (some 35) 41 #[(.agg #[(.int .i64 p0.States), (.int .i64 p0.Symbols), (.slice A_p0_Actions p0.Actions.length c_p0_Actions)])] (fun fb => by kernel_rfl) (machine_kitOf_calls _ p0 A_p0_Actions c_p0_Actions t2375 _ (hS2374.rd 0) ht2376) (fun v w2377 hR2378 => ?_)
  obtain ⟨g2380, A2381, c2382, A2383, c2384, rfl, hk_⟩ := hR2378
  have hS2379 : St NoS w w2377 [rowR enc_Action A_p0_Actions c_p0_Actions p0.Actions, rowR encInt A_p1_Cells c_p1_Cells p1.Cells] [blk g2380 (.cells #[(.int .i64 t2375.m.States), (.int .i64 t2375.m.Symbols), (.slice A_p0_Actions p0.Actions.length c_p0_Actions), (.slice A2381 t2375.set.length c2382), (.slice A2383 t2375.does.length c2384), (.int .i64 t2375.base)] 96 (0, 0)), rowO 65 enc_Tile A2381 c2382 t2375.set, rowO 3 encInt A2383 c2384 t2375.does, blk g2332 (.cells #[(.int .i64 0), (.int .i64 0), (.slice none 0 0)] 31 (0, 0)), blk g2328 (.cells #[(.int .i64 p1.State), (.int .i64 p1.At), (.slice A_p1_Cells p1.Cells.length c_p1_Cells)] 27 (0, 0)), blk g2324 (.cells #[(.int .i64 p0.States), (.int .i64 p0.Symbols), (.slice A_p0_Actions p0.Actions.length c_p0_Actions)] 24 (0, 0))] := hS2374.call hk_ [] [0, 1, 2] (fun g hg => hg.elim) (by simp) (by decide)
  refine ⟨⟨hS2379.cell 5 rfl 0 rfl, hS2379.cell 5 rfl 1 rfl, hS2379.cell 5 rfl 2 rfl, hS2379.cell 4 rfl 0 rfl, hS2379.cell 4 rfl 1 rfl, hS2379.cell 4 rfl 2 rfl, trivial⟩, ?_⟩
  obtain ⟨t2385, ht2386, hf⟩ := bind_some hf
  refine WL.call (some 38) 42 #[(.agg #[(.int .i64 p0.States), (.int .i64 p0.Symbols), (.slice A_p0_Actions p0.Actions.length c_p0_Actions)]), (.agg #[(.int .i64 p1.State), (.int .i64 p1.At), (.slice A_p1_Cells p1.Cells.length c_p1_Cells)])] (fun fb => by kernel_rfl) (machine_begin_calls p0 p1 A_p0_Actions c_p0_Actions A_p1_Cells c_p1_Cells t2385 _ (hS2379.rd 0) (hS2379.rd 1) ht2386) (fun v w2387 hR2388 => ?_)
  obtain ⟨g2390, A2391, c2392, rfl, hk_⟩ := hR2388
  have hS2389 : St NoS w w2387 [rowR enc_Action A_p0_Actions c_p0_Actions p0.Actions, rowR encInt A_p1_Cells c_p1_Cells p1.Cells] [blk g2390 (.cells #[(.int .i64 t2385.m.States), (.int .i64 t2385.m.Symbols), (.slice A_p0_Actions p0.Actions.length c_p0_Actions), (.int .i64 t2385.Config.State), (.int .i64 t2385.Config.At), (.slice A2391 t2385.Config.Cells.length c2392)] 82 (0, 0)), rowO 3 encInt A2391 c2392 t2385.Config.Cells, blk g2380 (.cells #[(.int .i64 t2375.m.States), (.int .i64 t2375.m.Symbols), (.slice A_p0_Actions p0.Actions.length c_p0_Actions), (.slice A2381 t2375.set.length c2382), (.slice A2383 t2375.does.length c2384), (.int .i64 t2375.base)] 96 (0, 0)), rowO 65 enc_Tile A2381 c2382 t2375.set, rowO 3 encInt A2383 c2384 t2375.does, blk g2332 (.cells #[(.int .i64 0), (.int .i64 0), (.slice none 0 0)] 31 (0, 0)), blk g2328 (.cells #[(.int .i64 p1.State), (.int .i64 p1.At), (.slice A_p1_Cells p1.Cells.length c_p1_Cells)] 27 (0, 0)), blk g2324 (.cells #[(.int .i64 p0.States), (.int .i64 p0.Symbols), (.slice A_p0_Actions p0.Actions.length c_p0_Actions)] 24 (0, 0))] := hS2379.call hk_ [] [0, 1, 2, 3, 4, 5] (fun g hg => hg.elim) (by simp) (by decide)
  refine ⟨trivial, ?_⟩
  refine seg 7 [] [2, 3, 4, 6, 8, 9] [(2, (.int .i64 p2)), (3, (.pointer (some ⟨g2324, 0, none⟩))), (4, (.pointer (some ⟨g2328, 0, none⟩))), (6, (.pointer (some ⟨g2332, 0, none⟩))), (8, (.pointer (some ⟨g2380, 0, none⟩))), (9, (.pointer (some ⟨g2390, 0, none⟩)))] [] (fun fb => by kernel_rfl) rfl trivial ?_
  refine WL.done rfl ?_
  refine WX.next ?_
  refine WC.seq ?_
  refine WC.region ?_
  refine seg 5 [.v (.slice A_p1_Cells p1.Cells.length c_p1_Cells)] [2, 3, 6, 8, 9, 43] [(2, (.int .i64 p2)), (3, (.pointer (some ⟨g2324, 0, none⟩))), (6, (.pointer (some ⟨g2332, 0, none⟩))), (8, (.pointer (some ⟨g2380, 0, none⟩))), (9, (.pointer (some ⟨g2390, 0, none⟩))), (43, (.agg #[(.int .i64 (p1.Cells.length : Int)), (.int .i64 p2), (.slice none 0 0)]))] [.cell ⟨g2328, 2, none⟩ (.slice A_p1_Cells p1.Cells.length c_p1_Cells)] (fun fb => by kernel_rfl) rfl ⟨hS2389.cell 6 rfl 2 rfl, trivial⟩ ?_
  refine WL.new hS2389 10 [] (fun g => (.pointer (some ⟨g, 0, none⟩))) (.cells #[(.int .i64 0), (.int .i64 0), (.slice none 0 0)] 31 (0, 0)) [] (fun fb g => by kernel_rfl) trivial (fun g2393 w2394 hS2395 => ?_)
  refine ⟨trivial, ?_⟩
  refine WL.store hS2395 0 rfl [(0, (.int .i64 (p1.Cells.length : Int))), (1, (.int .i64 p2)), (2, (.slice none 0 0))] #[(.int .i64 (p1.Cells.length : Int)), (.int .i64 p2), (.slice none 0 0)] (fun fb => by kernel_rfl) (by kernel_rfl) rfl [1, 2, 3, 4, 5, 6, 7, 8] (by decide) (by decide) (fun w2397 hS2398 => ?_)
  refine ⟨trivial, ?_⟩
  refine WL.done rfl ?_
  refine WX.next ?_
  refine WC.seq ?_
  refine WC.seq ?_
  refine WC.region ?_
  refine seg 2 [] [3, 6, 8, 9, 10, 44, 45] [(3, (.pointer (some ⟨g2324, 0, none⟩))), (6, (.pointer (some ⟨g2332, 0, none⟩))), (8, (.pointer (some ⟨g2380, 0, none⟩))), (9, (.pointer (some ⟨g2390, 0, none⟩))), (10, (.pointer (some ⟨g2393, 0, none⟩))), (44, (.int .i64 p2)), (45, (.int .i64 0))] [] (fun fb => by kernel_rfl) rfl trivial ?_
  refine WL.done rfl ?_
  refine WX.next ?_
  have hS2883 := hS2398.nilrow 3 encInt
  obtain ⟨x2899, hx2900, hf⟩ := bind_some hf
  refine WC.cutN (T := (List Int) × (Option Addr) × Nat) (fun t => [(6, (.pointer (some ⟨g2332, 0, none⟩))), (10, (.pointer (some ⟨g2393, 0, none⟩)))]) (fun t w1 => St NoS w w1 [rowR enc_Action A_p0_Actions c_p0_Actions p0.Actions, rowR encInt A_p1_Cells c_p1_Cells p1.Cells] [blk g2332 (.cells #[(.int .i64 0), (.int .i64 0), (.slice none 0 0)] 31 (0, 0)), blk g2393 (.cells #[(.int .i64 (p1.Cells.length : Int)), (.int .i64 p2), (.slice t.2.1 t.1.length t.2.2)] 31 (0, 0)), rowO 3 encInt t.2.1 t.2.2 t.1] ∧ x2899 = .inr t.1) (fun Kx2899 => ?_) ?_
  ·
    refine WC.block ?_
    refine WC.loop (T := (Int × Int × Int × Int × (List Int) × (List Int) × Int) × Nat × (Option Addr) × Nat × (Option Addr) × Nat) (fun t => [(3, (.pointer (some ⟨g2324, 0, none⟩))), (6, (.pointer (some ⟨g2332, 0, none⟩))), (8, (.pointer (some ⟨g2380, 0, none⟩))), (9, (.pointer (some ⟨t.2.1, 0, none⟩))), (10, (.pointer (some ⟨g2393, 0, none⟩))), (44, (.int .i64 p2)), (45, (.int .i64 t.1.2.2.2.2.2.2))]) (fun n t w1 => St NoS w w1 [rowR enc_Action A_p0_Actions c_p0_Actions p0.Actions, rowR encInt A_p1_Cells c_p1_Cells p1.Cells] [blk g2324 (.cells #[(.int .i64 p0.States), (.int .i64 p0.Symbols), (.slice A_p0_Actions p0.Actions.length c_p0_Actions)] 24 (0, 0)), blk g2332 (.cells #[(.int .i64 0), (.int .i64 0), (.slice none 0 0)] 31 (0, 0)), blk g2380 (.cells #[(.int .i64 t2375.m.States), (.int .i64 t2375.m.Symbols), (.slice A_p0_Actions p0.Actions.length c_p0_Actions), (.slice A2381 t2375.set.length c2382), (.slice A2383 t2375.does.length c2384), (.int .i64 t2375.base)] 96 (0, 0)), rowO 65 enc_Tile A2381 c2382 t2375.set, rowO 3 encInt A2383 c2384 t2375.does, blk t.2.1 (.cells #[(.int .i64 t.1.1), (.int .i64 t.1.2.1), (.slice A_p0_Actions p0.Actions.length c_p0_Actions), (.int .i64 t.1.2.2.1), (.int .i64 t.1.2.2.2.1), (.slice t.2.2.1 t.1.2.2.2.2.1.length t.2.2.2.1)] 82 (0, 0)), rowO 3 encInt t.2.2.1 t.2.2.2.1 t.1.2.2.2.2.1, blk g2393 (.cells #[(.int .i64 (p1.Cells.length : Int)), (.int .i64 p2), (.slice t.2.2.2.2.1 t.1.2.2.2.2.2.1.length t.2.2.2.2.2)] 31 (0, 0)), rowO 3 encInt t.2.2.2.2.1 t.2.2.2.2.2 t.1.2.2.2.2.2.1] ∧ machine_Picture.l0 n t.1.1 t.1.2.1 t.1.2.2.1 t.1.2.2.2.1 t.1.2.2.2.2.1 t.1.2.2.2.2.2.1 t.1.2.2.2.2.2.2 p0 p2 t2375 = some x2899) k ((t2385.m.States, t2385.m.Symbols, t2385.Config.State, t2385.Config.At, t2385.Config.Cells, ([] : List Int), 0), g2390, A2391, c2392, none, 0) [3, 6, 8, 9, 10, 44, 45] rfl ⟨(hS2883.subR [0, 1]).sub [9, 7, 4, 5, 6, 2, 3, 1, 0] (by decide), hx2900⟩ ?_
    rintro k2901 ⟨⟨x2885, x2886, x2887, x2888, l2891, l2894, x2895⟩, g2884, A2889, c2890, A2892, c2893⟩ w2902 ⟨hS2903, hl2904⟩
    cases k2901 with
    | zero => rw [machine_Picture.l0] at hl2904; cases hl2904
    | succ k2901 =>
      rw [machine_Picture.l0] at hl2904
      refine WC.seq ?_
      refine WC.region ?_
      refine seg 1 [] [3, 6, 8, 9, 10, 44, 45, 46] [(3, (.pointer (some ⟨g2324, 0, none⟩))), (6, (.pointer (some ⟨g2332, 0, none⟩))), (8, (.pointer (some ⟨g2380, 0, none⟩))), (9, (.pointer (some ⟨g2884, 0, none⟩))), (10, (.pointer (some ⟨g2393, 0, none⟩))), (44, (.int .i64 p2)), (45, (.int .i64 x2895)), (46, (.bool (decide (x2895 < p2))))] [] (fun fb => by kernel_rfl) rfl trivial ?_
      refine WL.done rfl ?_
      refine WX.next ?_
      refine WC.seq ?_
      rcases br_some hl2904 with ⟨h2905, hl2904⟩ | ⟨h2905, hl2904⟩
      · refine WC.condT2 (fun fb => by kernel_rfl) h2905 ?_
        refine WC.skip ?_
        refine WX.next ?_
        refine WC.seq ?_
        refine WC.block ?_
        refine WC.seq ?_
        refine WC.regionD ([(0, ⟨g2324, 0, none⟩, (.int .i64 p0.States)), (0, ⟨g2324, 1, none⟩, (.int .i64 p0.Symbols)), (0, ⟨g2324, 2, none⟩, (.slice A_p0_Actions p0.Actions.length c_p0_Actions)), (4, ⟨g2884, 3, none⟩, (.int .i64 x2887)), (4, ⟨g2884, 4, none⟩, (.int .i64 x2888)), (4, ⟨g2884, 5, none⟩, (.slice A2889 l2891.length c2890))], [0, 1, 2, 3, 4, 6], [[], [], [1], [1, 2], [1, 2, 3], [0, 1, 2, 3, 4], [0, 1, 2, 3, 4, 5]]) [[0, 1, 2, 3, 4, 5, 6]] (by kernel_rfl) (by kernel_rfl) (NoPanic.seq (NoPanic.block (NoPanic.seq (NoPanic.seq (NoPanic.block (NoPanic.seq (NoPanic.body))))))) ?_
        have hS2915 := hS2903.drew
        revert hS2915
        generalize World.drew w2902 = w2914
        intro hS2915
        refine ⟨⟨hS2915.cell 0 rfl 0 rfl, hS2915.cell 0 rfl 1 rfl, hS2915.cell 0 rfl 2 rfl, hS2915.cell 5 rfl 3 rfl, hS2915.cell 5 rfl 4 rfl, hS2915.cell 5 rfl 5 rfl, trivial⟩, forallC ?_ (forallN)⟩
        refine segF 5 [.v (.int .i64 p0.States), .v (.int .i64 p0.Symbols), .v (.slice A_p0_Actions p0.Actions.length c_p0_Actions), .v (.int .i64 x2887), .v (.int .i64 x2888), .v (.slice A2889 l2891.length c2890)] [3, 6, 8, 9, 10, 44, 45, 47, 51] [(3, (.pointer (some ⟨g2324, 0, none⟩))), (6, (.pointer (some ⟨g2332, 0, none⟩))), (8, (.pointer (some ⟨g2380, 0, none⟩))), (9, (.pointer (some ⟨g2884, 0, none⟩))), (10, (.pointer (some ⟨g2393, 0, none⟩))), (44, (.int .i64 p2)), (45, (.int .i64 x2895)), (47, (.agg #[(.int .i64 p0.States), (.int .i64 p0.Symbols), (.slice A_p0_Actions p0.Actions.length c_p0_Actions)])), (51, (.agg #[(.int .i64 x2887), (.int .i64 x2888), (.slice A2889 l2891.length c2890)]))] [] [0, 1, 2, 3, 4, 5] [(0, ⟨g2324, 0, none⟩, (.int .i64 p0.States)), (0, ⟨g2324, 1, none⟩, (.int .i64 p0.Symbols)), (0, ⟨g2324, 2, none⟩, (.slice A_p0_Actions p0.Actions.length c_p0_Actions)), (4, ⟨g2884, 3, none⟩, (.int .i64 x2887)), (4, ⟨g2884, 4, none⟩, (.int .i64 x2888)), (4, ⟨g2884, 5, none⟩, (.slice A2889 l2891.length c2890))] (fun fb => by kernel_rfl) rfl trivial rfl ?_
        obtain ⟨t2916, ht2917, hl2904⟩ := bind_some hl2904
        refine WL.call (some 52) 42 #[(.agg #[(.int .i64 p0.States), (.int .i64 p0.Symbols), (.slice A_p0_Actions p0.Actions.length c_p0_Actions)]), (.agg #[(.int .i64 x2887), (.int .i64 x2888), (.slice A2889 l2891.length c2890)])] (fun fb => by kernel_rfl) (machine_begin_calls p0 (Config.mk x2887 x2888 l2891) A_p0_Actions c_p0_Actions A2889 c2890 t2916 _ (hS2915.rd 0) (hS2915.ow 6).ofO ht2917) (fun v w2918 hR2919 => ?_)
        obtain ⟨g2921, A2922, c2923, rfl, hk_⟩ := hR2919
        have hS2920 : St NoS w w2918 [rowR enc_Action A_p0_Actions c_p0_Actions p0.Actions, rowR encInt A_p1_Cells c_p1_Cells p1.Cells] [blk g2921 (.cells #[(.int .i64 t2916.m.States), (.int .i64 t2916.m.Symbols), (.slice A_p0_Actions p0.Actions.length c_p0_Actions), (.int .i64 t2916.Config.State), (.int .i64 t2916.Config.At), (.slice A2922 t2916.Config.Cells.length c2923)] 82 (0, 0)), rowO 3 encInt A2922 c2923 t2916.Config.Cells, blk g2324 (.cells #[(.int .i64 p0.States), (.int .i64 p0.Symbols), (.slice A_p0_Actions p0.Actions.length c_p0_Actions)] 24 (0, 0)), blk g2332 (.cells #[(.int .i64 0), (.int .i64 0), (.slice none 0 0)] 31 (0, 0)), blk g2380 (.cells #[(.int .i64 t2375.m.States), (.int .i64 t2375.m.Symbols), (.slice A_p0_Actions p0.Actions.length c_p0_Actions), (.slice A2381 t2375.set.length c2382), (.slice A2383 t2375.does.length c2384), (.int .i64 t2375.base)] 96 (0, 0)), rowO 65 enc_Tile A2381 c2382 t2375.set, rowO 3 encInt A2383 c2384 t2375.does, blk g2884 (.cells #[(.int .i64 x2885), (.int .i64 x2886), (.slice A_p0_Actions p0.Actions.length c_p0_Actions), (.int .i64 x2887), (.int .i64 x2888), (.slice A2889 l2891.length c2890)] 82 (0, 0)), rowO 3 encInt A2889 c2890 l2891, blk g2393 (.cells #[(.int .i64 (p1.Cells.length : Int)), (.int .i64 p2), (.slice A2892 l2894.length c2893)] 31 (0, 0)), rowO 3 encInt A2892 c2893 l2894] := hS2915.call hk_ [] [0, 1, 2, 3, 4, 5, 6, 7, 8] (fun g hg => hg.elim) (by simp) (by decide)
        refine ⟨trivial, ?_⟩
        refine seg 7 [] [3, 6, 8, 9, 10, 11, 44, 45] [(3, (.pointer (some ⟨g2324, 0, none⟩))), (6, (.pointer (some ⟨g2332, 0, none⟩))), (8, (.pointer (some ⟨g2380, 0, none⟩))), (9, (.pointer (some ⟨g2884, 0, none⟩))), (10, (.pointer (some ⟨g2393, 0, none⟩))), (11, (.pointer (some ⟨g2921, 0, none⟩))), (44, (.int .i64 p2)), (45, (.int .i64 x2895))] [] (fun fb => by kernel_rfl) rfl trivial ?_
        refine WL.done rfl ?_
        refine WX.next ?_
        refine WC.seq ?_
        refine WC.seq ?_
        refine WC.region ?_
        refine seg 1 [] [3, 6, 8, 9, 10, 11, 44, 45, 53] [(3, (.pointer (some ⟨g2324, 0, none⟩))), (6, (.pointer (some ⟨g2332, 0, none⟩))), (8, (.pointer (some ⟨g2380, 0, none⟩))), (9, (.pointer (some ⟨g2884, 0, none⟩))), (10, (.pointer (some ⟨g2393, 0, none⟩))), (11, (.pointer (some ⟨g2921, 0, none⟩))), (44, (.int .i64 p2)), (45, (.int .i64 x2895)), (53, (.pointer (some ⟨g2921, 0, none⟩)))] [] (fun fb => by kernel_rfl) rfl trivial ?_
        obtain ⟨t2924, ht2925, hl2904⟩ := bind_some hl2904
        refine WL.call (some 54) 43 #[(.pointer (some ⟨g2921, 0, none⟩))] (fun fb => by kernel_rfl) (machine_runner_step_calls (Runner.mk (Machine.mk t2916.m.States t2916.m.Symbols p0.Actions) t2916.Config) g2921 A_p0_Actions c_p0_Actions A2922 c2923 t2924 _ (hS2920.rdT [0, 1] 0) (hS2920.io [0, 1] (by decide)) ht2925) (fun v w2926 hR2927 => ?_)
        obtain ⟨A2929, c2930, rfl, hk_⟩ := hR2927
        have hS2928 : St NoS w w2926 [rowR enc_Action A_p0_Actions c_p0_Actions p0.Actions, rowR encInt A_p1_Cells c_p1_Cells p1.Cells] [blk g2921 (.cells #[(.int .i64 t2924.2.m.States), (.int .i64 t2924.2.m.Symbols), (.slice A_p0_Actions p0.Actions.length c_p0_Actions), (.int .i64 t2924.2.Config.State), (.int .i64 t2924.2.Config.At), (.slice A2929 t2924.2.Config.Cells.length c2930)] 82 (0, 0)), rowO 3 encInt A2929 c2930 t2924.2.Config.Cells, blk g2324 (.cells #[(.int .i64 p0.States), (.int .i64 p0.Symbols), (.slice A_p0_Actions p0.Actions.length c_p0_Actions)] 24 (0, 0)), blk g2332 (.cells #[(.int .i64 0), (.int .i64 0), (.slice none 0 0)] 31 (0, 0)), blk g2380 (.cells #[(.int .i64 t2375.m.States), (.int .i64 t2375.m.Symbols), (.slice A_p0_Actions p0.Actions.length c_p0_Actions), (.slice A2381 t2375.set.length c2382), (.slice A2383 t2375.does.length c2384), (.int .i64 t2375.base)] 96 (0, 0)), rowO 65 enc_Tile A2381 c2382 t2375.set, rowO 3 encInt A2383 c2384 t2375.does, blk g2884 (.cells #[(.int .i64 x2885), (.int .i64 x2886), (.slice A_p0_Actions p0.Actions.length c_p0_Actions), (.int .i64 x2887), (.int .i64 x2888), (.slice A2889 l2891.length c2890)] 82 (0, 0)), rowO 3 encInt A2889 c2890 l2891, blk g2393 (.cells #[(.int .i64 (p1.Cells.length : Int)), (.int .i64 p2), (.slice A2892 l2894.length c2893)] 31 (0, 0)), rowO 3 encInt A2892 c2893 l2894] := hS2920.call hk_ [0, 1] [2, 3, 4, 5, 6, 7, 8, 9, 10] (fun g hg => fpL_sel g hg) (by decide) (by decide)
        refine ⟨trivial, ?_⟩
        refine seg 3 [] [3, 6, 8, 9, 10, 11, 44, 45, 55] [(3, (.pointer (some ⟨g2324, 0, none⟩))), (6, (.pointer (some ⟨g2332, 0, none⟩))), (8, (.pointer (some ⟨g2380, 0, none⟩))), (9, (.pointer (some ⟨g2884, 0, none⟩))), (10, (.pointer (some ⟨g2393, 0, none⟩))), (11, (.pointer (some ⟨g2921, 0, none⟩))), (44, (.int .i64 p2)), (45, (.int .i64 x2895)), (55, (.bool (t2924.1 != 0)))] [] (fun fb => by kernel_rfl) rfl trivial ?_
        refine WL.done rfl ?_
        refine WX.next ?_
        rcases br_some hl2904 with ⟨h2931, hl2904⟩ | ⟨h2931, hl2904⟩
        · refine WC.condT2 (fun fb => by kernel_rfl) h2931 ?_
          refine WC.seq ?_
          refine WC.region ?_
          refine seg 1 [] [6, 56] [(6, (.pointer (some ⟨g2332, 0, none⟩))), (56, (.agg #[(.int .i64 0), (.int .i64 0), (.slice none 0 0)]))] [] (fun fb => by kernel_rfl) rfl trivial ?_
          refine WL.store hS2928 3 rfl [(0, (.int .i64 0)), (1, (.int .i64 0)), (2, (.slice none 0 0))] #[(.int .i64 0), (.int .i64 0), (.slice none 0 0)] (fun fb => by kernel_rfl) (by kernel_rfl) rfl [0, 1, 2, 4, 5, 6, 7, 8, 9, 10] (by decide) (by decide) (fun w2932 hS2933 => ?_)
          refine ⟨trivial, ?_⟩
          refine seg 3 [] [6, 7] [(6, (.pointer (some ⟨g2332, 0, none⟩))), (7, (.int .i64 6))] [] (fun fb => by kernel_rfl) rfl trivial ?_
          refine WL.done rfl ?_
          refine WX.next ?_
          refine WC.ret ?_
          have hS2934 := hS2933.nilrow 3 encInt
          injection hl2904 with hl2904
          subst hl2904
          injection hf with hf
          subst hf
          exact WX.thenR (WX.blockR (WX.thenR (WX.thenR (WX.blockR (WX.thenR (WX.ret_ [.v (.int .i64 0), .v (.int .i64 0), .v (.slice none 0 0)] (.tuple #[(.agg #[(.int .i64 0), (.int .i64 0), (.slice none ([] : List Int).length 0)]), (.int .i64 6)]) [.cell ⟨g2332, 0, none⟩ (.int .i64 0), .cell ⟨g2332, 1, none⟩ (.int .i64 0), .cell ⟨g2332, 2, none⟩ (.slice none 0 0)] (fun fb => by kernel_rfl) ⟨hS2933.cell 0 rfl 0 rfl, hS2933.cell 0 rfl 1 rfl, hS2933.cell 0 rfl 2 rfl, trivial⟩ ⟨_, rfl, none, 0, rfl, (hS2934.sub [0] (by decide)).noR⟩))))))
        refine WC.condF2 (fun fb => by kernel_rfl) h2931 ?_
        refine WC.skip ?_
        refine WX.next ?_
        refine WC.seq ?_
        refine WC.regionD ([(1, ⟨g2393, 2, none⟩, (.slice A2892 l2894.length c2893))], [0, 1, 2, 3, 6], [[], [0], [], [], [2, 3], [0, 1, 2, 3, 4], [0, 1, 2, 3, 4, 5], [0, 1, 2, 3, 4, 5, 6]]) [[0, 1, 2, 3, 4, 5, 6, 7]] (by kernel_rfl) (by kernel_rfl) (NoPanic.seq (NoPanic.block (NoPanic.seq (NoPanic.seq (NoPanic.block (NoPanic.seq (NoPanic.body))))))) ?_
        have hS2950 := hS2928.drew
        revert hS2950
        generalize World.drew w2926 = w2949
        intro hS2950
        refine ⟨⟨hS2950.cell 9 rfl 2 rfl, trivial⟩, forallC ?_ (forallN)⟩
        refine segF 4 [.v (.slice A2892 l2894.length c2893)] [3, 6, 8, 10, 11, 44, 45, 58, 59, 60] [(3, (.pointer (some ⟨g2324, 0, none⟩))), (6, (.pointer (some ⟨g2332, 0, none⟩))), (8, (.pointer (some ⟨g2380, 0, none⟩))), (10, (.pointer (some ⟨g2393, 0, none⟩))), (11, (.pointer (some ⟨g2921, 0, none⟩))), (44, (.int .i64 p2)), (45, (.int .i64 x2895)), (58, (.slice A2892 l2894.length c2893)), (59, (.pointer (some ⟨g2380, 0, none⟩))), (60, (.pointer (some ⟨g2884, 0, none⟩)))] [] [0] [(1, ⟨g2393, 2, none⟩, (.slice A2892 l2894.length c2893))] (fun fb => by kernel_rfl) rfl trivial rfl ?_
        obtain ⟨t2951, ht2952, hl2904⟩ := bind_some hl2904
        refine WL.call (some 61) 44 #[(.pointer (some ⟨g2380, 0, none⟩)), (.pointer (some ⟨g2884, 0, none⟩))] (fun fb => by kernel_rfl) (machine_kit_row_calls _ (Kit.mk (Machine.mk t2375.m.States t2375.m.Symbols p0.Actions) t2375.set t2375.does t2375.base) (Runner.mk (Machine.mk x2885 x2886 p0.Actions) (Config.mk x2887 x2888 l2891)) g2380 A_p0_Actions c_p0_Actions A2381 c2382 A2383 c2384 g2884 A_p0_Actions c_p0_Actions A2889 c2890 t2951 _ (hS2950.ow 4) (hS2950.rd 0) (hS2950.ow 5).ofO (hS2950.ow 6).ofO (hS2950.ow 7) (hS2950.rd 0) (hS2950.ow 8).ofO ht2952) (fun v w2953 hR2954 => ?_)
        obtain ⟨A2956, c2957, rfl, hk_⟩ := hR2954
        have hS2955 : St NoS w w2953 [rowR enc_Action A_p0_Actions c_p0_Actions p0.Actions, rowR encInt A_p1_Cells c_p1_Cells p1.Cells] [rowO 3 encInt A2956 c2957 t2951, blk g2921 (.cells #[(.int .i64 t2924.2.m.States), (.int .i64 t2924.2.m.Symbols), (.slice A_p0_Actions p0.Actions.length c_p0_Actions), (.int .i64 t2924.2.Config.State), (.int .i64 t2924.2.Config.At), (.slice A2929 t2924.2.Config.Cells.length c2930)] 82 (0, 0)), rowO 3 encInt A2929 c2930 t2924.2.Config.Cells, blk g2324 (.cells #[(.int .i64 p0.States), (.int .i64 p0.Symbols), (.slice A_p0_Actions p0.Actions.length c_p0_Actions)] 24 (0, 0)), blk g2332 (.cells #[(.int .i64 0), (.int .i64 0), (.slice none 0 0)] 31 (0, 0)), blk g2380 (.cells #[(.int .i64 t2375.m.States), (.int .i64 t2375.m.Symbols), (.slice A_p0_Actions p0.Actions.length c_p0_Actions), (.slice A2381 t2375.set.length c2382), (.slice A2383 t2375.does.length c2384), (.int .i64 t2375.base)] 96 (0, 0)), rowO 65 enc_Tile A2381 c2382 t2375.set, rowO 3 encInt A2383 c2384 t2375.does, blk g2884 (.cells #[(.int .i64 x2885), (.int .i64 x2886), (.slice A_p0_Actions p0.Actions.length c_p0_Actions), (.int .i64 x2887), (.int .i64 x2888), (.slice A2889 l2891.length c2890)] 82 (0, 0)), rowO 3 encInt A2889 c2890 l2891, blk g2393 (.cells #[(.int .i64 (p1.Cells.length : Int)), (.int .i64 p2), (.slice A2892 l2894.length c2893)] 31 (0, 0)), rowO 3 encInt A2892 c2893 l2894] := hS2950.call hk_ [] [0, 1, 2, 3, 4, 5, 6, 7, 8, 9, 10] (fun g hg => hg.elim) (by simp) (by decide)
        refine ⟨⟨hS2955.cell 10 rfl 2 rfl, trivial⟩, ?_⟩
        obtain ⟨h2958, hl2904⟩ := as_some hl2904
        refine WL.append hS2955 11 (d := 62) (tS := 25) (z := (.int .i64 0)) (bytes := 8) (c2 := c2957) rfl (fun fb => by kernel_rfl) (rowO.rd (hS2955.own 0).1) (by kernel_rfl) (by kernel_rfl) rfl (by decide) h2958 (by decide) [0, 1, 2, 3, 4, 5, 6, 7, 8, 9, 10] (by decide) (by decide) (fun A2959 c2960 w2961 hS2962 => ?_)
        refine ⟨trivial, ?_⟩
        refine seg 7 [] [3, 6, 8, 10, 11, 44, 45, 62, 63] [(3, (.pointer (some ⟨g2324, 0, none⟩))), (6, (.pointer (some ⟨g2332, 0, none⟩))), (8, (.pointer (some ⟨g2380, 0, none⟩))), (10, (.pointer (some ⟨g2393, 0, none⟩))), (11, (.pointer (some ⟨g2921, 0, none⟩))), (44, (.int .i64 p2)), (45, (.int .i64 x2895)), (62, (.slice A2959 (l2894 ++ t2951).length c2960)), (63, (.pointer (some ⟨g2393, 2, none⟩)))] [] (fun fb => by kernel_rfl) rfl trivial ?_
        refine WL.store hS2962 11 rfl [(2, (.slice A2959 (l2894 ++ t2951).length c2960))] #[(.int .i64 (p1.Cells.length : Int)), (.int .i64 p2), (.slice A2959 (l2894 ++ t2951).length c2960)] (fun fb => by kernel_rfl) (by kernel_rfl) rfl [0, 1, 2, 3, 4, 5, 6, 7, 8, 9, 10] (by decide) (by decide) (fun w2963 hS2964 => ?_)
        refine ⟨trivial, ?_⟩
        refine WL.done rfl ?_
        refine WX.next ?_
        refine WC.region ?_
        refine seg 2 [] [3, 6, 8, 9, 10, 44, 45] [(3, (.pointer (some ⟨g2324, 0, none⟩))), (6, (.pointer (some ⟨g2332, 0, none⟩))), (8, (.pointer (some ⟨g2380, 0, none⟩))), (9, (.pointer (some ⟨g2921, 0, none⟩))), (10, (.pointer (some ⟨g2393, 0, none⟩))), (44, (.int .i64 p2)), (45, (.int .i64 x2895))] [] (fun fb => by kernel_rfl) rfl trivial ?_
        refine WL.done rfl ?_
        refine WX.blockN (WX.next ?_)
        refine WC.region ?_
        refine seg 2 [] [3, 6, 8, 9, 10, 44, 45] [(3, (.pointer (some ⟨g2324, 0, none⟩))), (6, (.pointer (some ⟨g2332, 0, none⟩))), (8, (.pointer (some ⟨g2380, 0, none⟩))), (9, (.pointer (some ⟨g2921, 0, none⟩))), (10, (.pointer (some ⟨g2393, 0, none⟩))), (44, (.int .i64 p2)), (45, (.int .i64 (w64 (x2895 + 1))))] [] (fun fb => by kernel_rfl) rfl trivial ?_
        refine WL.done rfl ?_
        exact WX.again k2901 (Nat.lt_succ_self _) ((t2924.2.m.States, t2924.2.m.Symbols, t2924.2.Config.State, t2924.2.Config.At, t2924.2.Config.Cells, l2894 ++ t2951, w64 (x2895 + 1)), g2921, A2929, c2930, A2959, c2960) [3, 6, 8, 9, 10, 44, 45] rfl ⟨(hS2964.subR [0, 1]).sub [5, 6, 7, 8, 9, 3, 4, 0, 1] (by decide), hl2904⟩
      refine WC.condF2 (fun fb => by kernel_rfl) h2905 ?_
      refine WC.exit ?_
      injection hl2904 with hl2904
      exact WX.thenX (WX.thenX (WX.blockHere (WX.to Kx2899 (l2894, A2892, c2893) [6, 10] rfl ⟨(hS2903.subR [0, 1]).sub [1, 7, 8] (by decide), hl2904.symm⟩)))
  rintro ⟨y2968, A2896, c2897⟩ w2965 ⟨hS2966, hq2967⟩
  subst hq2967
  have hf := sum_inr hf
  refine WX.next ?_
  refine WC.seq ?_
  refine WC.region ?_
  refine seg 1 [.v (.int .i64 (p1.Cells.length : Int)), .v (.int .i64 p2), .v (.slice A2896 y2968.length c2897)] [6, 66] [(6, (.pointer (some ⟨g2332, 0, none⟩))), (66, (.agg #[(.int .i64 (p1.Cells.length : Int)), (.int .i64 p2), (.slice A2896 y2968.length c2897)]))] [.cell ⟨g2393, 0, none⟩ (.int .i64 (p1.Cells.length : Int)), .cell ⟨g2393, 1, none⟩ (.int .i64 p2), .cell ⟨g2393, 2, none⟩ (.slice A2896 y2968.length c2897)] (fun fb => by kernel_rfl) rfl ⟨hS2966.cell 1 rfl 0 rfl, hS2966.cell 1 rfl 1 rfl, hS2966.cell 1 rfl 2 rfl, trivial⟩ ?_
  refine WL.store hS2966 0 rfl [(0, (.int .i64 (p1.Cells.length : Int))), (1, (.int .i64 p2)), (2, (.slice A2896 y2968.length c2897))] #[(.int .i64 (p1.Cells.length : Int)), (.int .i64 p2), (.slice A2896 y2968.length c2897)] (fun fb => by kernel_rfl) (by kernel_rfl) rfl [1, 2] (by decide) (by decide) (fun w2970 hS2971 => ?_)
  refine ⟨trivial, ?_⟩
  refine seg 3 [] [6, 7] [(6, (.pointer (some ⟨g2332, 0, none⟩))), (7, (.int .i64 0))] [] (fun fb => by kernel_rfl) rfl trivial ?_
  refine WL.done rfl ?_
  refine WX.next ?_
  refine WC.ret ?_
  injection hf with hf
  subst hf
  exact WX.ret_ [.v (.int .i64 (p1.Cells.length : Int)), .v (.int .i64 p2), .v (.slice A2896 y2968.length c2897)] (.tuple #[(.agg #[(.int .i64 (p1.Cells.length : Int)), (.int .i64 p2), (.slice A2896 y2968.length c2897)]), (.int .i64 0)]) [.cell ⟨g2332, 0, none⟩ (.int .i64 (p1.Cells.length : Int)), .cell ⟨g2332, 1, none⟩ (.int .i64 p2), .cell ⟨g2332, 2, none⟩ (.slice A2896 y2968.length c2897)] (fun fb => by kernel_rfl) ⟨hS2971.cell 0 rfl 0 rfl, hS2971.cell 0 rfl 1 rfl, hS2971.cell 0 rfl 2 rfl, trivial⟩ ⟨_, rfl, A2896, c2897, rfl, (hS2971.sub [2] (by decide)).noR⟩
theorem law08_awake_calls (k : Nat)   (r : Bool) (w : World)  (hf : law08_awake k = some r) :
    CallsR Try.prog 11 #[] w (fun v w' => v = (.bool r) ∧ Keeps NoS w w') := by
  have hS : St NoS w w [] [] := St.init (ro_nil _ _)
  refine enter 52 Try.func11 rfl Try.ntmps11 rfl ?_
  unfold law08_awake at hf
  refine WC.seq ?_
  refine WC.region ?_
  refine seg 1 [] [] [] [] (fun fb => by kernel_rfl) rfl trivial ?_
  refine WL.done rfl ?_
  refine WX.next ?_
  refine WC.seq ?_
  refine WC.region ?_
  obtain ⟨t308, ht309, hf⟩ := bind_some hf
  refine WL.call (some 9) 40 #[] (fun fb => by kernel_rfl) (law08_goes_calls t308 _ ht309) (fun v w310 hR311 => ?_)
  obtain ⟨A313, c314, rfl, hk_⟩ := hR311
  have hS312 : St NoS w w310 [] [rowO 88 enc_Action A313 c314 t308.Actions] := hS.call hk_ [] [] (fun g hg => hg.elim) (by simp) (by decide)
  refine ⟨trivial, ?_⟩
  obtain ⟨t1757, ht1758, hf⟩ := bind_some hf
  refine WL.call (some 10) 25 #[(.agg #[(.int .i64 t308.States), (.int .i64 t308.Symbols), (.slice A313 t308.Actions.length c314)])] (fun fb => by kernel_rfl) (machine_Tiles_calls _ t308 A313 c314 t1757 _ (hS312.ow 0).ofO ht1758) (fun v w1759 hR1760 => ?_)
  obtain ⟨A1762, c1763, rfl, hk_⟩ := hR1760
  have hS1761 : St NoS w w1759 [] [rowO 65 enc_Tile A1762 c1763 t1757.1, rowO 88 enc_Action A313 c314 t308.Actions] := hS312.call hk_ [] [0] (fun g hg => hg.elim) (by simp) (by decide)
  refine ⟨trivial, ?_⟩
  refine seg 7 [] [1, 2] [(1, (.slice A1762 t1757.1.length c1763)), (2, (.int .i64 t1757.2))] [] (fun fb => by kernel_rfl) rfl trivial ?_
  refine WL.done rfl ?_
  refine WX.next ?_
  refine WC.seq ?_
  refine WC.region ?_
  obtain ⟨t1764, ht1765, hf⟩ := bind_some hf
  refine WL.call (some 14) 40 #[] (fun fb => by kernel_rfl) (law08_goes_calls t1764 _ ht1765) (fun v w1766 hR1767 => ?_)
  obtain ⟨A1769, c1770, rfl, hk_⟩ := hR1767
  have hS1768 : St NoS w w1766 [] [rowO 88 enc_Action A1769 c1770 t1764.Actions, rowO 65 enc_Tile A1762 c1763 t1757.1, rowO 88 enc_Action A313 c314 t308.Actions] := hS1761.call hk_ [] [0, 1] (fun g hg => hg.elim) (by simp) (by decide)
  refine ⟨trivial, ?_⟩
  refine WL.new hS1768 15 [] (fun g => (.slice (some ⟨g, 0, none⟩) 3 3)) (.cells #[(.int .i64 0), (.int .i64 0), (.int .i64 0)] 3 (0, 0)) [] (fun fb g => by kernel_rfl) trivial (fun g1771 w1772 hS1773 => ?_)
  refine ⟨trivial, ?_⟩
  have hS1775 : St NoS w w1772 [] [rowO 3 encInt (some ⟨g1771, 0, none⟩) 3 [0, 0, 0], rowO 88 enc_Action A1769 c1770 t1764.Actions, rowO 65 enc_Tile A1762 c1763 t1757.1, rowO 88 enc_Action A313 c314 t308.Actions] := hS1773.map1 0 _ (fun h => rowO.ofBlk h rfl (Nat.le_of_ble_eq_true (by kernel_rfl))) (fun _ h => by obtain ⟨_, h1, h2⟩ := h; injection h1 with h1; subst h1; exact h2) [1, 2, 3] (by decide) (by decide)
  refine seg 3 [] [1, 2, 14, 16] [(1, (.slice A1762 t1757.1.length c1763)), (2, (.int .i64 t1757.2)), (14, (.agg #[(.int .i64 t1764.States), (.int .i64 t1764.Symbols), (.slice A1769 t1764.Actions.length c1770)])), (16, (.agg #[(.int .i64 0), (.int .i64 0), (.slice (some ⟨g1771, 0, none⟩) [0, 0, 0].length 3)]))] [] (fun fb => by kernel_rfl) rfl trivial ?_
  obtain ⟨t2299, ht2300, hf⟩ := bind_some hf
  refine WL.call (some 17) 20 #[(.agg #[(.int .i64 t1764.States), (.int .i64 t1764.Symbols), (.slice A1769 t1764.Actions.length c1770)]), (.agg #[(.int .i64 0), (.int .i64 0), (.slice (some ⟨g1771, 0, none⟩) [0, 0, 0].length 3)]), (.int .i64 9)] (fun fb => by kernel_rfl) (machine_Run_calls _ t1764 (Config.mk 0 0 [0, 0, 0]) 9 A1769 c1770 (some ⟨g1771, 0, none⟩) 3 t2299 _ (hS1775.ow 1).ofO (hS1775.ow 0).ofO ht2300) (fun v w2301 hR2302 => ?_)
  obtain ⟨A2304, c2305, rfl, hk_⟩ := hR2302
  have hS2303 : St NoS w w2301 [] [rowO 3 encInt A2304 c2305 t2299.1.Cells, rowO 3 encInt (some ⟨g1771, 0, none⟩) 3 [0, 0, 0], rowO 88 enc_Action A1769 c1770 t1764.Actions, rowO 65 enc_Tile A1762 c1763 t1757.1, rowO 88 enc_Action A313 c314 t308.Actions] := hS1775.call hk_ [] [0, 1, 2, 3] (fun g hg => hg.elim) (by simp) (by decide)
  refine ⟨trivial, ?_⟩
  refine seg 8 [] [1, 2, 18, 19, 20] [(1, (.slice A1762 t1757.1.length c1763)), (2, (.int .i64 t1757.2)), (18, (.agg #[(.int .i64 t2299.1.State), (.int .i64 t2299.1.At), (.slice A2304 t2299.1.Cells.length c2305)])), (19, (.int .i64 t2299.2.1)), (20, (.int .i64 t2299.2.2))] [] (fun fb => by kernel_rfl) rfl trivial ?_
  refine WL.new hS2303 3 [] (fun g => (.pointer (some ⟨g, 0, none⟩))) (.cells #[(.int .i64 0), (.int .i64 0), (.slice none 0 0)] 27 (0, 0)) [] (fun fb g => by kernel_rfl) trivial (fun g2306 w2307 hS2308 => ?_)
  refine ⟨trivial, ?_⟩
  refine WL.store hS2308 0 rfl [(0, (.int .i64 t2299.1.State)), (1, (.int .i64 t2299.1.At)), (2, (.slice A2304 t2299.1.Cells.length c2305))] #[(.int .i64 t2299.1.State), (.int .i64 t2299.1.At), (.slice A2304 t2299.1.Cells.length c2305)] (fun fb => by kernel_rfl) (by kernel_rfl) rfl [1, 2, 3, 4, 5] (by decide) (by decide) (fun w2310 hS2311 => ?_)
  refine ⟨trivial, ?_⟩
  refine seg 12 [] [1, 2, 3, 4, 5] [(1, (.slice A1762 t1757.1.length c1763)), (2, (.int .i64 t1757.2)), (3, (.pointer (some ⟨g2306, 0, none⟩))), (4, (.int .i64 t2299.2.1)), (5, (.int .i64 t2299.2.2))] [] (fun fb => by kernel_rfl) rfl trivial ?_
  refine WL.done rfl ?_
  refine WX.next ?_
  refine WC.seq ?_
  refine WC.region ?_
  obtain ⟨t2312, ht2313, hf⟩ := bind_some hf
  refine WL.call (some 22) 40 #[] (fun fb => by kernel_rfl) (law08_goes_calls t2312 _ ht2313) (fun v w2314 hR2315 => ?_)
  obtain ⟨A2317, c2318, rfl, hk_⟩ := hR2315
  have hS2316 : St NoS w w2314 [] [rowO 88 enc_Action A2317 c2318 t2312.Actions, blk g2306 (.cells #[(.int .i64 t2299.1.State), (.int .i64 t2299.1.At), (.slice A2304 t2299.1.Cells.length c2305)] 27 (0, 0)), rowO 3 encInt A2304 c2305 t2299.1.Cells, rowO 3 encInt (some ⟨g1771, 0, none⟩) 3 [0, 0, 0], rowO 88 enc_Action A1769 c1770 t1764.Actions, rowO 65 enc_Tile A1762 c1763 t1757.1, rowO 88 enc_Action A313 c314 t308.Actions] := hS2311.call hk_ [] [0, 1, 2, 3, 4, 5] (fun g hg => hg.elim) (by simp) (by decide)
  refine ⟨trivial, ?_⟩
  refine WL.new hS2316 23 [] (fun g => (.slice (some ⟨g, 0, none⟩) 3 3)) (.cells #[(.int .i64 0), (.int .i64 0), (.int .i64 0)] 3 (0, 0)) [] (fun fb g => by kernel_rfl) trivial (fun g2319 w2320 hS2321 => ?_)
  refine ⟨trivial, ?_⟩
  have hS2323 : St NoS w w2320 [] [rowO 3 encInt (some ⟨g2319, 0, none⟩) 3 [0, 0, 0], rowO 88 enc_Action A2317 c2318 t2312.Actions, blk g2306 (.cells #[(.int .i64 t2299.1.State), (.int .i64 t2299.1.At), (.slice A2304 t2299.1.Cells.length c2305)] 27 (0, 0)), rowO 3 encInt A2304 c2305 t2299.1.Cells, rowO 3 encInt (some ⟨g1771, 0, none⟩) 3 [0, 0, 0], rowO 88 enc_Action A1769 c1770 t1764.Actions, rowO 65 enc_Tile A1762 c1763 t1757.1, rowO 88 enc_Action A313 c314 t308.Actions] := hS2321.map1 0 _ (fun h => rowO.ofBlk h rfl (Nat.le_of_ble_eq_true (by kernel_rfl))) (fun _ h => by obtain ⟨_, h1, h2⟩ := h; injection h1 with h1; subst h1; exact h2) [1, 2, 3, 4, 5, 6, 7] (by decide) (by decide)
  refine seg 3 [] [1, 2, 3, 4, 5, 22, 24] [(1, (.slice A1762 t1757.1.length c1763)), (2, (.int .i64 t1757.2)), (3, (.pointer (some ⟨g2306, 0, none⟩))), (4, (.int .i64 t2299.2.1)), (5, (.int .i64 t2299.2.2)), (22, (.agg #[(.int .i64 t2312.States), (.int .i64 t2312.Symbols), (.slice A2317 t2312.Actions.length c2318)])), (24, (.agg #[(.int .i64 0), (.int .i64 0), (.slice (some ⟨g2319, 0, none⟩) [0, 0, 0].length 3)]))] [] (fun fb => by kernel_rfl) rfl trivial ?_
  obtain ⟨t2972, ht2973, hf⟩ := bind_some hf
  refine WL.call (some 25) 12 #[(.agg #[(.int .i64 t2312.States), (.int .i64 t2312.Symbols), (.slice A2317 t2312.Actions.length c2318)]), (.agg #[(.int .i64 0), (.int .i64 0), (.slice (some ⟨g2319, 0, none⟩) [0, 0, 0].length 3)]), (.int .i64 3)] (fun fb => by kernel_rfl) (machine_Picture_calls _ t2312 (Config.mk 0 0 [0, 0, 0]) 3 A2317 c2318 (some ⟨g2319, 0, none⟩) 3 t2972 _ (hS2323.ow 1).ofO (hS2323.ow 0).ofO ht2973) (fun v w2974 hR2975 => ?_)
  obtain ⟨A2977, c2978, rfl, hk_⟩ := hR2975
  have hS2976 : St NoS w w2974 [] [rowO 3 encInt A2977 c2978 t2972.1.Cells, rowO 3 encInt (some ⟨g2319, 0, none⟩) 3 [0, 0, 0], rowO 88 enc_Action A2317 c2318 t2312.Actions, blk g2306 (.cells #[(.int .i64 t2299.1.State), (.int .i64 t2299.1.At), (.slice A2304 t2299.1.Cells.length c2305)] 27 (0, 0)), rowO 3 encInt A2304 c2305 t2299.1.Cells, rowO 3 encInt (some ⟨g1771, 0, none⟩) 3 [0, 0, 0], rowO 88 enc_Action A1769 c1770 t1764.Actions, rowO 65 enc_Tile A1762 c1763 t1757.1, rowO 88 enc_Action A313 c314 t308.Actions] := hS2323.call hk_ [] [0, 1, 2, 3, 4, 5, 6, 7] (fun g hg => hg.elim) (by simp) (by decide)
  refine ⟨trivial, ?_⟩
  refine seg 7 [] [1, 2, 3, 4, 5, 26, 27] [(1, (.slice A1762 t1757.1.length c1763)), (2, (.int .i64 t1757.2)), (3, (.pointer (some ⟨g2306, 0, none⟩))), (4, (.int .i64 t2299.2.1)), (5, (.int .i64 t2299.2.2)), (26, (.agg #[(.int .i64 t2972.1.Width), (.int .i64 t2972.1.Height), (.slice A2977 t2972.1.Cells.length c2978)])), (27, (.int .i64 t2972.2))] [] (fun fb => by kernel_rfl) rfl trivial ?_
  refine WL.new hS2976 6 [] (fun g => (.pointer (some ⟨g, 0, none⟩))) (.cells #[(.int .i64 0), (.int .i64 0), (.slice none 0 0)] 31 (0, 0)) [] (fun fb g => by kernel_rfl) trivial (fun g2979 w2980 hS2981 => ?_)
  refine ⟨trivial, ?_⟩
  refine WL.store hS2981 0 rfl [(0, (.int .i64 t2972.1.Width)), (1, (.int .i64 t2972.1.Height)), (2, (.slice A2977 t2972.1.Cells.length c2978))] #[(.int .i64 t2972.1.Width), (.int .i64 t2972.1.Height), (.slice A2977 t2972.1.Cells.length c2978)] (fun fb => by kernel_rfl) (by kernel_rfl) rfl [1, 2, 3, 4, 5, 6, 7, 8, 9] (by decide) (by decide) (fun w2983 hS2984 => ?_)
  refine ⟨trivial, ?_⟩
  refine seg 10 [] [1, 2, 3, 4, 5, 7] [(1, (.slice A1762 t1757.1.length c1763)), (2, (.int .i64 t1757.2)), (3, (.pointer (some ⟨g2306, 0, none⟩))), (4, (.int .i64 t2299.2.1)), (5, (.int .i64 t2299.2.2)), (7, (.int .i64 t2972.2))] [] (fun fb => by kernel_rfl) rfl trivial ?_
  refine WL.done rfl ?_
  refine WX.next ?_
  refine WC.seq ?_
  refine WC.region ?_
  refine seg 3 [] [1, 3, 4, 5, 7, 30] [(1, (.slice A1762 t1757.1.length c1763)), (3, (.pointer (some ⟨g2306, 0, none⟩))), (4, (.int .i64 t2299.2.1)), (5, (.int .i64 t2299.2.2)), (7, (.int .i64 t2972.2)), (30, (.bool (t1757.2 == 0)))] [] (fun fb => by kernel_rfl) rfl trivial ?_
  refine WL.cutV (T := Bool) 7 (fun t => [(34, (.bool t)), (3, (.pointer (some ⟨g2306, 0, none⟩))), (4, (.int .i64 t2299.2.1)), (5, (.int .i64 t2299.2.2)), (7, (.int .i64 t2972.2))]) (fun t => t = ((t1757.2 == 0) && ((t1757.1.length : Int) == 8))) (fun K => ?_) ?_
  ·
    rcases Bool.eq_false_or_eq_true (t1757.2 == 0) with h2985 | h2985
    ·
      refine WL.setB 30 h2985 rfl ?_
      refine seg 7 [] [3, 4, 5, 7, 34] [(3, (.pointer (some ⟨g2306, 0, none⟩))), (4, (.int .i64 t2299.2.1)), (5, (.int .i64 t2299.2.2)), (7, (.int .i64 t2972.2)), (34, (.bool ((t1757.1.length : Int) == 8)))] [] (fun fb => by kernel_rfl) rfl trivial ?_
      exact WL.toV K ((t1757.1.length : Int) == 8) [34, 3, 4, 5, 7] rfl (by rw [h2985]; rfl)
    refine WL.setB 30 h2985 rfl ?_
    refine seg 7 [] [3, 4, 5, 7, 34] [(3, (.pointer (some ⟨g2306, 0, none⟩))), (4, (.int .i64 t2299.2.1)), (5, (.int .i64 t2299.2.2)), (7, (.int .i64 t2972.2)), (34, (.bool false))] [] (fun fb => by kernel_rfl) rfl trivial ?_
    exact WL.toV K false [34, 3, 4, 5, 7] rfl (by rw [h2985]; rfl)
  rintro b2986 rfl
  refine seg 8 [] [3, 4, 5, 7, 35] [(3, (.pointer (some ⟨g2306, 0, none⟩))), (4, (.int .i64 t2299.2.1)), (5, (.int .i64 t2299.2.2)), (7, (.int .i64 t2972.2)), (35, (.bool ((t1757.2 == 0) && ((t1757.1.length : Int) == 8))))] [] (fun fb => by kernel_rfl) rfl trivial ?_
  refine WL.cutV (T := Bool) 11 (fun t => [(38, (.bool t)), (3, (.pointer (some ⟨g2306, 0, none⟩))), (4, (.int .i64 t2299.2.1)), (7, (.int .i64 t2972.2))]) (fun t => t = (((t1757.2 == 0) && ((t1757.1.length : Int) == 8)) && (t2299.2.2 == 0))) (fun K => ?_) ?_
  ·
    rcases Bool.eq_false_or_eq_true ((t1757.2 == 0) && ((t1757.1.length : Int) == 8)) with h2987 | h2987
    ·
      refine WL.setB 35 h2987 rfl ?_
      refine seg 11 [] [3, 4, 7, 38] [(3, (.pointer (some ⟨g2306, 0, none⟩))), (4, (.int .i64 t2299.2.1)), (7, (.int .i64 t2972.2)), (38, (.bool (t2299.2.2 == 0)))] [] (fun fb => by kernel_rfl) rfl trivial ?_
      exact WL.toV K (t2299.2.2 == 0) [38, 3, 4, 7] rfl (by rw [h2987]; rfl)
    refine WL.setB 35 h2987 rfl ?_
    refine seg 11 [] [3, 4, 7, 38] [(3, (.pointer (some ⟨g2306, 0, none⟩))), (4, (.int .i64 t2299.2.1)), (7, (.int .i64 t2972.2)), (38, (.bool false))] [] (fun fb => by kernel_rfl) rfl trivial ?_
    exact WL.toV K false [38, 3, 4, 7] rfl (by rw [h2987]; rfl)
  rintro b2988 rfl
  refine seg 12 [] [3, 4, 7, 39] [(3, (.pointer (some ⟨g2306, 0, none⟩))), (4, (.int .i64 t2299.2.1)), (7, (.int .i64 t2972.2)), (39, (.bool (((t1757.2 == 0) && ((t1757.1.length : Int) == 8)) && (t2299.2.2 == 0))))] [] (fun fb => by kernel_rfl) rfl trivial ?_
  refine WL.cutV (T := Bool) 15 (fun t => [(42, (.bool t)), (3, (.pointer (some ⟨g2306, 0, none⟩))), (7, (.int .i64 t2972.2))]) (fun t => t = ((((t1757.2 == 0) && ((t1757.1.length : Int) == 8)) && (t2299.2.2 == 0)) && (t2299.2.1 == 2))) (fun K => ?_) ?_
  ·
    rcases Bool.eq_false_or_eq_true (((t1757.2 == 0) && ((t1757.1.length : Int) == 8)) && (t2299.2.2 == 0)) with h2989 | h2989
    ·
      refine WL.setB 39 h2989 rfl ?_
      refine seg 15 [] [3, 7, 42] [(3, (.pointer (some ⟨g2306, 0, none⟩))), (7, (.int .i64 t2972.2)), (42, (.bool (t2299.2.1 == 2)))] [] (fun fb => by kernel_rfl) rfl trivial ?_
      exact WL.toV K (t2299.2.1 == 2) [42, 3, 7] rfl (by rw [h2989]; rfl)
    refine WL.setB 39 h2989 rfl ?_
    refine seg 15 [] [3, 7, 42] [(3, (.pointer (some ⟨g2306, 0, none⟩))), (7, (.int .i64 t2972.2)), (42, (.bool false))] [] (fun fb => by kernel_rfl) rfl trivial ?_
    exact WL.toV K false [42, 3, 7] rfl (by rw [h2989]; rfl)
  rintro b2990 rfl
  refine seg 16 [] [3, 7, 43] [(3, (.pointer (some ⟨g2306, 0, none⟩))), (7, (.int .i64 t2972.2)), (43, (.bool ((((t1757.2 == 0) && ((t1757.1.length : Int) == 8)) && (t2299.2.2 == 0)) && (t2299.2.1 == 2))))] [] (fun fb => by kernel_rfl) rfl trivial ?_
  refine WL.cutV (T := Bool) 20 (fun t => [(47, (.bool t)), (7, (.int .i64 t2972.2))]) (fun t => t = (((((t1757.2 == 0) && ((t1757.1.length : Int) == 8)) && (t2299.2.2 == 0)) && (t2299.2.1 == 2)) && (t2299.1.At == 2))) (fun K => ?_) ?_
  ·
    rcases Bool.eq_false_or_eq_true ((((t1757.2 == 0) && ((t1757.1.length : Int) == 8)) && (t2299.2.2 == 0)) && (t2299.2.1 == 2)) with h2991 | h2991
    ·
      refine WL.setB 43 h2991 rfl ?_
      refine seg 20 [.v (.int .i64 t2299.1.At)] [7, 47] [(7, (.int .i64 t2972.2)), (47, (.bool (t2299.1.At == 2)))] [.cell ⟨g2306, 1, none⟩ (.int .i64 t2299.1.At)] (fun fb => by kernel_rfl) rfl ⟨hS2984.cell 4 rfl 1 rfl, trivial⟩ ?_
      exact WL.toV K (t2299.1.At == 2) [47, 7] rfl (by rw [h2991]; rfl)
    refine WL.setB 43 h2991 rfl ?_
    refine seg 20 [] [7, 47] [(7, (.int .i64 t2972.2)), (47, (.bool false))] [] (fun fb => by kernel_rfl) rfl trivial ?_
    exact WL.toV K false [47, 7] rfl (by rw [h2991]; rfl)
  rintro b2992 rfl
  refine seg 21 [] [7, 48] [(7, (.int .i64 t2972.2)), (48, (.bool (((((t1757.2 == 0) && ((t1757.1.length : Int) == 8)) && (t2299.2.2 == 0)) && (t2299.2.1 == 2)) && (t2299.1.At == 2))))] [] (fun fb => by kernel_rfl) rfl trivial ?_
  refine WL.cutV (T := Bool) 24 (fun t => [(51, (.bool t))]) (fun t => t = ((((((t1757.2 == 0) && ((t1757.1.length : Int) == 8)) && (t2299.2.2 == 0)) && (t2299.2.1 == 2)) && (t2299.1.At == 2)) && (t2972.2 == 6))) (fun K => ?_) ?_
  ·
    rcases Bool.eq_false_or_eq_true (((((t1757.2 == 0) && ((t1757.1.length : Int) == 8)) && (t2299.2.2 == 0)) && (t2299.2.1 == 2)) && (t2299.1.At == 2)) with h2993 | h2993
    ·
      refine WL.setB 48 h2993 rfl ?_
      refine seg 24 [] [51] [(51, (.bool (t2972.2 == 6)))] [] (fun fb => by kernel_rfl) rfl trivial ?_
      exact WL.toV K (t2972.2 == 6) [51] rfl (by rw [h2993]; rfl)
    refine WL.setB 48 h2993 rfl ?_
    refine seg 24 [] [51] [(51, (.bool false))] [] (fun fb => by kernel_rfl) rfl trivial ?_
    exact WL.toV K false [51] rfl (by rw [h2993]; rfl)
  rintro b2994 rfl
  refine seg 25 [] [0] [(0, (.bool ((((((t1757.2 == 0) && ((t1757.1.length : Int) == 8)) && (t2299.2.2 == 0)) && (t2299.2.1 == 2)) && (t2299.1.At == 2)) && (t2972.2 == 6))))] [] (fun fb => by kernel_rfl) rfl trivial ?_
  refine WL.done rfl ?_
  refine WX.next ?_
  refine WC.ret ?_
  injection hf with hf
  subst hf
  exact WX.ret_ [] (.bool ((((((t1757.2 == 0) && ((t1757.1.length : Int) == 8)) && (t2299.2.2 == 0)) && (t2299.2.1 == 2)) && (t2299.1.At == 2)) && (t2972.2 == 6))) [] (fun fb => by kernel_rfl) trivial ⟨_, rfl, rfl, hS2984.keep⟩
theorem ref08_SameConfig_calls (k : Nat) (p0 : Config) (p1 : Config) (A_p0_Cells : Option Addr) (c_p0_Cells : Nat) (A_p1_Cells : Option Addr) (c_p1_Cells : Nat) (r : Bool) (w : World) (hR0 : RO NoS w (rowR encInt A_p0_Cells c_p0_Cells p0.Cells)) (hR1 : RO NoS w (rowR encInt A_p1_Cells c_p1_Cells p1.Cells)) (hf : ref08_SameConfig k p0 p1 = some r) :
    CallsR Try.prog 21 #[(.agg #[(.int .i64 p0.State), (.int .i64 p0.At), (.slice A_p0_Cells p0.Cells.length c_p0_Cells)]), (.agg #[(.int .i64 p1.State), (.int .i64 p1.At), (.slice A_p1_Cells p1.Cells.length c_p1_Cells)])] w (fun v w' => v = (.bool r) ∧ Keeps NoS w w') := by
  have hS : St NoS w w [rowR encInt A_p0_Cells c_p0_Cells p0.Cells, rowR encInt A_p1_Cells c_p1_Cells p1.Cells] [] := St.init (ro_cons hR0 (ro_cons hR1 (ro_nil _ _)))
  refine enter 45 Try.func21 rfl Try.ntmps21 rfl ?_
  unfold ref08_SameConfig at hf
  refine WC.seq ?_
  refine WC.region ?_
  refine WL.new hS 2 [] (fun g => (.pointer (some ⟨g, 0, none⟩))) (.cells #[(.int .i64 p0.State), (.int .i64 p0.At), (.slice A_p0_Cells p0.Cells.length c_p0_Cells)] 27 (0, 0)) [] (fun fb g => by kernel_rfl) trivial (fun g3061 w3062 hS3063 => ?_)
  refine ⟨trivial, ?_⟩
  refine WL.new hS3063 3 [] (fun g => (.pointer (some ⟨g, 0, none⟩))) (.cells #[(.int .i64 p1.State), (.int .i64 p1.At), (.slice A_p1_Cells p1.Cells.length c_p1_Cells)] 27 (0, 0)) [] (fun fb g => by kernel_rfl) trivial (fun g3065 w3066 hS3067 => ?_)
  refine ⟨trivial, ?_⟩
  refine seg 3 [] [2, 3] [(2, (.pointer (some ⟨g3061, 0, none⟩))), (3, (.pointer (some ⟨g3065, 0, none⟩)))] [] (fun fb => by kernel_rfl) rfl trivial ?_
  refine WL.done rfl ?_
  refine WX.next ?_
  refine WC.seq ?_
  refine WC.seq ?_
  refine WC.region ?_
  refine seg 6 [.v (.int .i64 p0.State), .v (.int .i64 p1.State)] [2, 3, 11] [(2, (.pointer (some ⟨g3061, 0, none⟩))), (3, (.pointer (some ⟨g3065, 0, none⟩))), (11, (.bool (p0.State != p1.State)))] [.cell ⟨g3061, 0, none⟩ (.int .i64 p0.State), .cell ⟨g3065, 0, none⟩ (.int .i64 p1.State)] (fun fb => by kernel_rfl) rfl ⟨hS3067.cell 1 rfl 0 rfl, hS3067.cell 0 rfl 0 rfl, trivial⟩ ?_
  refine WL.cutV (T := Bool) 12 (fun t => [(17, (.bool t)), (2, (.pointer (some ⟨g3061, 0, none⟩))), (3, (.pointer (some ⟨g3065, 0, none⟩)))]) (fun t => t = ((p0.State != p1.State) || (p0.At != p1.At))) (fun K => ?_) ?_
  ·
    rcases Bool.eq_false_or_eq_true (p0.State != p1.State) with h3069 | h3069
    ·
      refine WL.setB 11 h3069 rfl ?_
      refine seg 12 [] [2, 3, 17] [(2, (.pointer (some ⟨g3061, 0, none⟩))), (3, (.pointer (some ⟨g3065, 0, none⟩))), (17, (.bool true))] [] (fun fb => by kernel_rfl) rfl trivial ?_
      exact WL.toV K true [17, 2, 3] rfl (by rw [h3069]; rfl)
    refine WL.setB 11 h3069 rfl ?_
    refine seg 12 [.v (.int .i64 p0.At), .v (.int .i64 p1.At)] [2, 3, 17] [(2, (.pointer (some ⟨g3061, 0, none⟩))), (3, (.pointer (some ⟨g3065, 0, none⟩))), (17, (.bool (p0.At != p1.At)))] [.cell ⟨g3061, 1, none⟩ (.int .i64 p0.At), .cell ⟨g3065, 1, none⟩ (.int .i64 p1.At)] (fun fb => by kernel_rfl) rfl ⟨hS3067.cell 1 rfl 1 rfl, hS3067.cell 0 rfl 1 rfl, trivial⟩ ?_
    exact WL.toV K (p0.At != p1.At) [17, 2, 3] rfl (by rw [h3069]; rfl)
  rintro b3070 rfl
  refine seg 13 [] [2, 3, 18] [(2, (.pointer (some ⟨g3061, 0, none⟩))), (3, (.pointer (some ⟨g3065, 0, none⟩))), (18, (.bool ((p0.State != p1.State) || (p0.At != p1.At))))] [] (fun fb => by kernel_rfl) rfl trivial ?_
  refine WL.cutV (T := Bool) 21 (fun t => [(26, (.bool t)), (2, (.pointer (some ⟨g3061, 0, none⟩))), (3, (.pointer (some ⟨g3065, 0, none⟩)))]) (fun t => t = (((p0.State != p1.State) || (p0.At != p1.At)) || ((p0.Cells.length : Int) != (p1.Cells.length : Int)))) (fun K => ?_) ?_
  ·
    rcases Bool.eq_false_or_eq_true ((p0.State != p1.State) || (p0.At != p1.At)) with h3071 | h3071
    ·
      refine WL.setB 18 h3071 rfl ?_
      refine seg 21 [] [2, 3, 26] [(2, (.pointer (some ⟨g3061, 0, none⟩))), (3, (.pointer (some ⟨g3065, 0, none⟩))), (26, (.bool true))] [] (fun fb => by kernel_rfl) rfl trivial ?_
      exact WL.toV K true [26, 2, 3] rfl (by rw [h3071]; rfl)
    refine WL.setB 18 h3071 rfl ?_
    refine seg 21 [.v (.slice A_p0_Cells p0.Cells.length c_p0_Cells), .v (.slice A_p1_Cells p1.Cells.length c_p1_Cells)] [2, 3, 26] [(2, (.pointer (some ⟨g3061, 0, none⟩))), (3, (.pointer (some ⟨g3065, 0, none⟩))), (26, (.bool ((p0.Cells.length : Int) != (p1.Cells.length : Int))))] [.cell ⟨g3061, 2, none⟩ (.slice A_p0_Cells p0.Cells.length c_p0_Cells), .cell ⟨g3065, 2, none⟩ (.slice A_p1_Cells p1.Cells.length c_p1_Cells)] (fun fb => by kernel_rfl) rfl ⟨hS3067.cell 1 rfl 2 rfl, hS3067.cell 0 rfl 2 rfl, trivial⟩ ?_
    exact WL.toV K ((p0.Cells.length : Int) != (p1.Cells.length : Int)) [26, 2, 3] rfl (by rw [h3071]; rfl)
  rintro b3072 rfl
  refine WL.done rfl ?_
  refine WX.next ?_
  rcases br_some hf with ⟨h3073, hf⟩ | ⟨h3073, hf⟩
  · refine WC.condT2 (fun fb => by kernel_rfl) h3073 ?_
    refine WC.seq ?_
    refine WC.region ?_
    refine seg 1 [] [4] [(4, (.bool false))] [] (fun fb => by kernel_rfl) rfl trivial ?_
    refine WL.done rfl ?_
    refine WX.next ?_
    refine WC.ret ?_
    injection hf with hf
    subst hf
    exact WX.thenR (WX.ret_ [] (.bool false) [] (fun fb => by kernel_rfl) trivial ⟨_, rfl, rfl, hS3067.keep⟩)
  refine WC.condF2 (fun fb => by kernel_rfl) h3073 ?_
  refine WC.skip ?_
  refine WX.next ?_
  refine WC.seq ?_
  refine WC.seq ?_
  refine WC.region ?_
  refine seg 1 [] [2, 3, 5] [(2, (.pointer (some ⟨g3061, 0, none⟩))), (3, (.pointer (some ⟨g3065, 0, none⟩))), (5, (.int .i64 0))] [] (fun fb => by kernel_rfl) rfl trivial ?_
  refine WL.done rfl ?_
  refine WX.next ?_
  obtain ⟨x3096, hx3097, hf⟩ := bind_some hf
  refine WC.cutN (T := Unit) (fun t => []) (fun t w1 => St NoS w w1 [rowR encInt A_p0_Cells c_p0_Cells p0.Cells, rowR encInt A_p1_Cells c_p1_Cells p1.Cells] [] ∧ x3096 = .inr t) (fun Kx3096 => ?_) ?_
  ·
    refine WC.block ?_
    refine WC.loop (T := Int) (fun t => [(2, (.pointer (some ⟨g3061, 0, none⟩))), (3, (.pointer (some ⟨g3065, 0, none⟩))), (5, (.int .i64 t))]) (fun n t w1 => St NoS w w1 [rowR encInt A_p0_Cells c_p0_Cells p0.Cells, rowR encInt A_p1_Cells c_p1_Cells p1.Cells] [blk g3061 (.cells #[(.int .i64 p0.State), (.int .i64 p0.At), (.slice A_p0_Cells p0.Cells.length c_p0_Cells)] 27 (0, 0)), blk g3065 (.cells #[(.int .i64 p1.State), (.int .i64 p1.At), (.slice A_p1_Cells p1.Cells.length c_p1_Cells)] 27 (0, 0))] ∧ ref08_SameConfig.l0 n t p0 p1 = some x3096) k 0 [2, 3, 5] rfl ⟨(hS3067.subR [0, 1]).sub [1, 0] (by decide), hx3097⟩ ?_
    rintro k3098 x3095 w3099 ⟨hS3100, hl3101⟩
    cases k3098 with
    | zero => rw [ref08_SameConfig.l0] at hl3101; cases hl3101
    | succ k3098 =>
      rw [ref08_SameConfig.l0] at hl3101
      refine WC.seq ?_
      refine WC.seq ?_
      refine WC.region ?_
      refine seg 5 [.v (.slice A_p0_Cells p0.Cells.length c_p0_Cells)] [2, 3, 5, 31] [(2, (.pointer (some ⟨g3061, 0, none⟩))), (3, (.pointer (some ⟨g3065, 0, none⟩))), (5, (.int .i64 x3095)), (31, (.bool (decide (x3095 < (p0.Cells.length : Int)))))] [.cell ⟨g3061, 2, none⟩ (.slice A_p0_Cells p0.Cells.length c_p0_Cells)] (fun fb => by kernel_rfl) rfl ⟨hS3100.cell 0 rfl 2 rfl, trivial⟩ ?_
      refine WL.done rfl ?_
      refine WX.next ?_
      rcases br_some hl3101 with ⟨h3102, hl3101⟩ | ⟨h3102, hl3101⟩
      · refine WC.condT2 (fun fb => by kernel_rfl) h3102 ?_
        refine WC.skip ?_
        refine WX.next ?_
        refine WC.seq ?_
        refine WC.block ?_
        refine WC.seq ?_
        obtain ⟨h3109, hl3101⟩ := as_some hl3101
        obtain ⟨h3110, hl3101⟩ := as_some hl3101
        refine WC.regionD ([(1, ⟨g3061, 2, none⟩, (.slice A_p0_Cells p0.Cells.length c_p0_Cells)), (4, ((adr A_p0_Cells).add ((x3095).toNat * 1)), (.int .i64 (rdD p0.Cells x3095 0))), (6, ⟨g3065, 2, none⟩, (.slice A_p1_Cells p1.Cells.length c_p1_Cells)), (9, ((adr A_p1_Cells).add ((x3095).toNat * 1)), (.int .i64 (rdD p1.Cells x3095 0)))], [0, 1, 2, 3, 4, 5, 6, 7, 8, 9, 10], [[], [0], [], [0, 1, 2], [0, 1, 2, 3], [], [5], [], [5, 6, 7], [5, 6, 7, 8], [0, 1, 2, 3, 4, 5, 6, 7, 8, 9]]) [[0, 1, 2, 3, 4, 5, 6, 7, 8, 9, 10]] (by kernel_rfl) (by kernel_rfl) (NoPanic.seq (NoPanic.block (NoPanic.seq (NoPanic.seq (NoPanic.block (NoPanic.seq (NoPanic.body))))))) ?_
        have hS3106 := hS3100.drew
        revert hS3106
        generalize World.drew w3099 = w3105
        intro hS3106
        refine ⟨⟨hS3106.cell 0 rfl 2 rfl, rowR.cell (hS3106.rd 0).1 0 h3109.1 h3109.2 0 rfl, hS3106.cell 1 rfl 2 rfl, rowR.cell (hS3106.rd 1).1 0 h3110.1 h3110.2 0 rfl, trivial⟩, forallC ?_ (forallN)⟩
        refine segF 11 [.v (.slice A_p0_Cells p0.Cells.length c_p0_Cells), .v (.int .i64 (rdD p0.Cells x3095 0)), .v (.slice A_p1_Cells p1.Cells.length c_p1_Cells), .v (.int .i64 (rdD p1.Cells x3095 0))] [2, 3, 5, 44] [(2, (.pointer (some ⟨g3061, 0, none⟩))), (3, (.pointer (some ⟨g3065, 0, none⟩))), (5, (.int .i64 x3095)), (44, (.bool ((rdD p0.Cells x3095 0) != (rdD p1.Cells x3095 0))))] [.idx A_p0_Cells x3095 p0.Cells.length, .idx A_p1_Cells x3095 p1.Cells.length] [0, 1, 2, 3] [(1, ⟨g3061, 2, none⟩, (.slice A_p0_Cells p0.Cells.length c_p0_Cells)), (4, ((adr A_p0_Cells).add ((x3095).toNat * 1)), (.int .i64 (rdD p0.Cells x3095 0))), (6, ⟨g3065, 2, none⟩, (.slice A_p1_Cells p1.Cells.length c_p1_Cells)), (9, ((adr A_p1_Cells).add ((x3095).toNat * 1)), (.int .i64 (rdD p1.Cells x3095 0)))] (fun fb => by kernel_rfl) rfl ⟨rowR.adr (hS3106.rd 0).1 h3109.1 h3109.2, rowR.adr (hS3106.rd 1).1 h3110.1 h3110.2, trivial⟩ rfl ?_
        refine WL.done rfl ?_
        refine WX.next ?_
        rcases br_some hl3101 with ⟨h3111, hl3101⟩ | ⟨h3111, hl3101⟩
        · refine WC.condT2 (fun fb => by kernel_rfl) h3111 ?_
          refine WC.seq ?_
          refine WC.region ?_
          refine seg 1 [] [4] [(4, (.bool false))] [] (fun fb => by kernel_rfl) rfl trivial ?_
          refine WL.done rfl ?_
          refine WX.next ?_
          refine WC.ret ?_
          injection hl3101 with hl3101
          subst hl3101
          injection hf with hf
          subst hf
          exact WX.blockR (WX.thenR (WX.thenR (WX.blockR (WX.thenR (WX.ret_ [] (.bool false) [] (fun fb => by kernel_rfl) trivial ⟨_, rfl, rfl, hS3106.keep⟩)))))
        refine WC.condF2 (fun fb => by kernel_rfl) h3111 ?_
        refine WC.skip ?_
        refine WX.blockN (WX.next ?_)
        refine WC.region ?_
        refine seg 3 [] [2, 3, 5] [(2, (.pointer (some ⟨g3061, 0, none⟩))), (3, (.pointer (some ⟨g3065, 0, none⟩))), (5, (.int .i64 (w64 (x3095 + 1))))] [] (fun fb => by kernel_rfl) rfl trivial ?_
        refine WL.done rfl ?_
        exact WX.again k3098 (Nat.lt_succ_self _) (w64 (x3095 + 1)) [2, 3, 5] rfl ⟨(hS3106.subR [0, 1]).sub [0, 1] (by decide), hl3101⟩
      refine WC.condF2 (fun fb => by kernel_rfl) h3102 ?_
      refine WC.exit ?_
      injection hl3101 with hl3101
      exact WX.thenX (WX.thenX (WX.blockHere (WX.to Kx3096 () [] rfl ⟨(hS3100.subR [0, 1]).sub [] (by decide), hl3101.symm⟩)))
  rintro y3115 w3112 ⟨hS3113, hq3114⟩
  subst hq3114
  have hf := sum_inr hf
  refine WX.next ?_
  refine WC.seq ?_
  refine WC.region ?_
  refine seg 1 [] [4] [(4, (.bool true))] [] (fun fb => by kernel_rfl) rfl trivial ?_
  refine WL.done rfl ?_
  refine WX.next ?_
  refine WC.ret ?_
  injection hf with hf
  subst hf
  exact WX.ret_ [] (.bool true) [] (fun fb => by kernel_rfl) trivial ⟨_, rfl, rfl, hS3113.keep⟩
theorem machine_Step_calls (k : Nat) (p0 : Machine) (p1 : Config) (A_p0_Actions : Option Addr) (c_p0_Actions : Nat) (A_p1_Cells : Option Addr) (c_p1_Cells : Nat) (r : Config × Int) (w : World) (hR0 : RO NoS w (rowR enc_Action A_p0_Actions c_p0_Actions p0.Actions)) (hR1 : RO NoS w (rowR encInt A_p1_Cells c_p1_Cells p1.Cells)) (hf : machine_Step k p0 p1 = some r) :
    CallsR Try.prog 19 #[(.agg #[(.int .i64 p0.States), (.int .i64 p0.Symbols), (.slice A_p0_Actions p0.Actions.length c_p0_Actions)]), (.agg #[(.int .i64 p1.State), (.int .i64 p1.At), (.slice A_p1_Cells p1.Cells.length c_p1_Cells)])] w (fun v w' => ∃ (A1_ : Option Addr), ∃ (c1_ : Nat), v = (.tuple #[(.agg #[(.int .i64 r.1.State), (.int .i64 r.1.At), (.slice A1_ r.1.Cells.length c1_)]), (.int .i64 r.2)]) ∧ St NoS w w' [] [rowO 3 encInt A1_ c1_ r.1.Cells]) := by
  have hS : St NoS w w [rowR enc_Action A_p0_Actions c_p0_Actions p0.Actions, rowR encInt A_p1_Cells c_p1_Cells p1.Cells] [] := St.init (ro_cons hR0 (ro_cons hR1 (ro_nil _ _)))
  refine enter 26 Try.func19 rfl Try.ntmps19 rfl ?_
  unfold machine_Step at hf
  refine WC.seq ?_
  refine WC.region ?_
  refine WL.new hS 2 [] (fun g => (.pointer (some ⟨g, 0, none⟩))) (.cells #[(.int .i64 p0.States), (.int .i64 p0.Symbols), (.slice A_p0_Actions p0.Actions.length c_p0_Actions)] 24 (0, 0)) [] (fun fb g => by kernel_rfl) trivial (fun g3154 w3155 hS3156 => ?_)
  refine ⟨trivial, ?_⟩
  refine WL.new hS3156 3 [] (fun g => (.pointer (some ⟨g, 0, none⟩))) (.cells #[(.int .i64 p1.State), (.int .i64 p1.At), (.slice A_p1_Cells p1.Cells.length c_p1_Cells)] 27 (0, 0)) [] (fun fb g => by kernel_rfl) trivial (fun g3158 w3159 hS3160 => ?_)
  refine ⟨trivial, ?_⟩
  refine WL.new hS3160 4 [] (fun g => (.pointer (some ⟨g, 0, none⟩))) (.cells #[(.int .i64 0), (.int .i64 0), (.slice none 0 0)] 27 (0, 0)) [] (fun fb g => by kernel_rfl) trivial (fun g3162 w3163 hS3164 => ?_)
  refine ⟨trivial, ?_⟩
  refine seg 4 [] [2, 3, 4] [(2, (.pointer (some ⟨g3154, 0, none⟩))), (3, (.pointer (some ⟨g3158, 0, none⟩))), (4, (.pointer (some ⟨g3162, 0, none⟩)))] [] (fun fb => by kernel_rfl) rfl trivial ?_
  refine WL.done rfl ?_
  refine WX.next ?_
  refine WC.seq ?_
  refine WC.seq ?_
  refine WC.region ?_
  refine seg 2 [.v (.int .i64 p0.States), .v (.int .i64 p0.Symbols), .v (.slice A_p0_Actions p0.Actions.length c_p0_Actions), .v (.int .i64 p1.State), .v (.int .i64 p1.At), .v (.slice A_p1_Cells p1.Cells.length c_p1_Cells)] [2, 3, 4, 8, 9] [(2, (.pointer (some ⟨g3154, 0, none⟩))), (3, (.pointer (some ⟨g3158, 0, none⟩))), (4, (.pointer (some ⟨g3162, 0, none⟩))), (8, (.agg #[(.int .i64 p0.States), (.int .i64 p0.Symbols), (.slice A_p0_Actions p0.Actions.length c_p0_Actions)])), (9, (.agg #[(.int .i64 p1.State), (.int .i64 p1.At), (.slice A_p1_Cells p1.Cells.length c_p1_Cells)]))] [.cell ⟨g3154, 0, none⟩ (.int .i64 p0.States), .cell ⟨g3154, 1, none⟩ (.int .i64 p0.Symbols), .cell ⟨g3154, 2, none⟩ (.slice A_p0_Actions p0.Actions.length c_p0_Actions), .cell ⟨g3158, 0, none⟩ (.int .i64 p1.State), .cell ⟨g3158, 1, none⟩ (.int .i64 p1.At), .cell ⟨g3158, 2, none⟩ (.slice A_p1_Cells p1.Cells.length c_p1_Cells)] (fun fb => by kernel_rfl) rfl ⟨hS3164.cell 2 rfl 0 rfl, hS3164.cell 2 rfl 1 rfl, hS3164.cell 2 rfl 2 rfl, hS3164.cell 1 rfl 0 rfl, hS3164.cell 1 rfl 1 rfl, hS3164.cell 1 rfl 2 rfl, trivial⟩ ?_
  obtain ⟨t3166, ht3167, hf⟩ := bind_some hf
  refine WL.call (some 10) 18 #[(.agg #[(.int .i64 p0.States), (.int .i64 p0.Symbols), (.slice A_p0_Actions p0.Actions.length c_p0_Actions)]), (.agg #[(.int .i64 p1.State), (.int .i64 p1.At), (.slice A_p1_Cells p1.Cells.length c_p1_Cells)])] (fun fb => by kernel_rfl) (machine_Fits_calls _ p0 p1 A_p0_Actions c_p0_Actions A_p1_Cells c_p1_Cells t3166 _ (hS3164.rd 0) (hS3164.rd 1) ht3167) (fun v w3168 hR3169 => ?_)
  obtain ⟨rfl, hk_⟩ := hR3169
  have hS3170 := hS3164.keepN hk_
  refine ⟨trivial, ?_⟩
  refine seg 4 [] [2, 3, 4, 11] [(2, (.pointer (some ⟨g3154, 0, none⟩))), (3, (.pointer (some ⟨g3158, 0, none⟩))), (4, (.pointer (some ⟨g3162, 0, none⟩))), (11, (.bool (!t3166)))] [] (fun fb => by kernel_rfl) rfl trivial ?_
  refine WL.done rfl ?_
  refine WX.next ?_
  rcases br_some hf with ⟨h3171, hf⟩ | ⟨h3171, hf⟩
  · refine WC.condT2 (fun fb => by kernel_rfl) h3171 ?_
    refine WC.seq ?_
    refine WC.region ?_
    refine seg 1 [] [4, 12] [(4, (.pointer (some ⟨g3162, 0, none⟩))), (12, (.agg #[(.int .i64 0), (.int .i64 0), (.slice none 0 0)]))] [] (fun fb => by kernel_rfl) rfl trivial ?_
    refine WL.store hS3170 0 rfl [(0, (.int .i64 0)), (1, (.int .i64 0)), (2, (.slice none 0 0))] #[(.int .i64 0), (.int .i64 0), (.slice none 0 0)] (fun fb => by kernel_rfl) (by kernel_rfl) rfl [1, 2] (by decide) (by decide) (fun w3172 hS3173 => ?_)
    refine ⟨trivial, ?_⟩
    refine seg 3 [] [4, 5] [(4, (.pointer (some ⟨g3162, 0, none⟩))), (5, (.int .i64 1))] [] (fun fb => by kernel_rfl) rfl trivial ?_
    refine WL.done rfl ?_
    refine WX.next ?_
    refine WC.ret ?_
    have hS3174 := hS3173.nilrow 3 encInt
    injection hf with hf
    subst hf
    exact WX.thenR (WX.ret_ [.v (.int .i64 0), .v (.int .i64 0), .v (.slice none 0 0)] (.tuple #[(.agg #[(.int .i64 0), (.int .i64 0), (.slice none ([] : List Int).length 0)]), (.int .i64 1)]) [.cell ⟨g3162, 0, none⟩ (.int .i64 0), .cell ⟨g3162, 1, none⟩ (.int .i64 0), .cell ⟨g3162, 2, none⟩ (.slice none 0 0)] (fun fb => by kernel_rfl) ⟨hS3173.cell 0 rfl 0 rfl, hS3173.cell 0 rfl 1 rfl, hS3173.cell 0 rfl 2 rfl, trivial⟩ ⟨_, rfl, none, 0, rfl, (hS3174.sub [0] (by decide)).noR⟩)
  refine WC.condF2 (fun fb => by kernel_rfl) h3171 ?_
  refine WC.skip ?_
  refine WX.next ?_
  refine WC.seq ?_
  refine WC.region ?_
  refine seg 2 [.v (.int .i64 p0.States), .v (.int .i64 p0.Symbols), .v (.slice A_p0_Actions p0.Actions.length c_p0_Actions), .v (.int .i64 p1.State), .v (.int .i64 p1.At), .v (.slice A_p1_Cells p1.Cells.length c_p1_Cells)] [4, 13, 14] [(4, (.pointer (some ⟨g3162, 0, none⟩))), (13, (.agg #[(.int .i64 p0.States), (.int .i64 p0.Symbols), (.slice A_p0_Actions p0.Actions.length c_p0_Actions)])), (14, (.agg #[(.int .i64 p1.State), (.int .i64 p1.At), (.slice A_p1_Cells p1.Cells.length c_p1_Cells)]))] [.cell ⟨g3154, 0, none⟩ (.int .i64 p0.States), .cell ⟨g3154, 1, none⟩ (.int .i64 p0.Symbols), .cell ⟨g3154, 2, none⟩ (.slice A_p0_Actions p0.Actions.length c_p0_Actions), .cell ⟨g3158, 0, none⟩ (.int .i64 p1.State), .cell ⟨g3158, 1, none⟩ (.int .i64 p1.At), .cell ⟨g3158, 2, none⟩ (.slice A_p1_Cells p1.Cells.length c_p1_Cells)] (fun fb => by kernel_rfl) rfl ⟨hS3170.cell 2 rfl 0 rfl, hS3170.cell 2 rfl 1 rfl, hS3170.cell 2 rfl 2 rfl, hS3170.cell 1 rfl 0 rfl, hS3170.cell 1 rfl 1 rfl, hS3170.cell 1 rfl 2 rfl, trivial⟩ ?_
  obtain ⟨t3175, ht3176, hf⟩ := bind_some hf
  refine WL.call (some 15) 42 #[(.agg #[(.int .i64 p0.States), (.int .i64 p0.Symbols), (.slice A_p0_Actions p0.Actions.length c_p0_Actions)]), (.agg #[(.int .i64 p1.State), (.int .i64 p1.At), (.slice A_p1_Cells p1.Cells.length c_p1_Cells)])] (fun fb => by kernel_rfl) (machine_begin_calls p0 p1 A_p0_Actions c_p0_Actions A_p1_Cells c_p1_Cells t3175 _ (hS3170.rd 0) (hS3170.rd 1) ht3176) (fun v w3177 hR3178 => ?_)
  obtain ⟨g3180, A3181, c3182, rfl, hk_⟩ := hR3178
  have hS3179 : St NoS w w3177 [rowR enc_Action A_p0_Actions c_p0_Actions p0.Actions, rowR encInt A_p1_Cells c_p1_Cells p1.Cells] [blk g3180 (.cells #[(.int .i64 t3175.m.States), (.int .i64 t3175.m.Symbols), (.slice A_p0_Actions p0.Actions.length c_p0_Actions), (.int .i64 t3175.Config.State), (.int .i64 t3175.Config.At), (.slice A3181 t3175.Config.Cells.length c3182)] 82 (0, 0)), rowO 3 encInt A3181 c3182 t3175.Config.Cells, blk g3162 (.cells #[(.int .i64 0), (.int .i64 0), (.slice none 0 0)] 27 (0, 0)), blk g3158 (.cells #[(.int .i64 p1.State), (.int .i64 p1.At), (.slice A_p1_Cells p1.Cells.length c_p1_Cells)] 27 (0, 0)), blk g3154 (.cells #[(.int .i64 p0.States), (.int .i64 p0.Symbols), (.slice A_p0_Actions p0.Actions.length c_p0_Actions)] 24 (0, 0))] := hS3170.call hk_ [] [0, 1, 2] (fun g hg => hg.elim) (by simp) (by decide)
  refine ⟨trivial, ?_⟩
  refine seg 4 [] [4, 6] [(4, (.pointer (some ⟨g3162, 0, none⟩))), (6, (.pointer (some ⟨g3180, 0, none⟩)))] [] (fun fb => by kernel_rfl) rfl trivial ?_
  refine WL.done rfl ?_
  refine WX.next ?_
  refine WC.seq ?_
  refine WC.seq ?_
  refine WC.region ?_
  refine seg 1 [] [4, 6, 16] [(4, (.pointer (some ⟨g3162, 0, none⟩))), (6, (.pointer (some ⟨g3180, 0, none⟩))), (16, (.pointer (some ⟨g3180, 0, none⟩)))] [] (fun fb => by kernel_rfl) rfl trivial ?_
  obtain ⟨t3183, ht3184, hf⟩ := bind_some hf
  refine WL.call (some 17) 43 #[(.pointer (some ⟨g3180, 0, none⟩))] (fun fb => by kernel_rfl) (machine_runner_step_calls (Runner.mk (Machine.mk t3175.m.States t3175.m.Symbols p0.Actions) t3175.Config) g3180 A_p0_Actions c_p0_Actions A3181 c3182 t3183 _ (hS3179.rdT [0, 1] 0) (hS3179.io [0, 1] (by decide)) ht3184) (fun v w3185 hR3186 => ?_)
  obtain ⟨A3188, c3189, rfl, hk_⟩ := hR3186
  have hS3187 : St NoS w w3185 [rowR enc_Action A_p0_Actions c_p0_Actions p0.Actions, rowR encInt A_p1_Cells c_p1_Cells p1.Cells] [blk g3180 (.cells #[(.int .i64 t3183.2.m.States), (.int .i64 t3183.2.m.Symbols), (.slice A_p0_Actions p0.Actions.length c_p0_Actions), (.int .i64 t3183.2.Config.State), (.int .i64 t3183.2.Config.At), (.slice A3188 t3183.2.Config.Cells.length c3189)] 82 (0, 0)), rowO 3 encInt A3188 c3189 t3183.2.Config.Cells, blk g3162 (.cells #[(.int .i64 0), (.int .i64 0), (.slice none 0 0)] 27 (0, 0)), blk g3158 (.cells #[(.int .i64 p1.State), (.int .i64 p1.At), (.slice A_p1_Cells p1.Cells.length c_p1_Cells)] 27 (0, 0)), blk g3154 (.cells #[(.int .i64 p0.States), (.int .i64 p0.Symbols), (.slice A_p0_Actions p0.Actions.length c_p0_Actions)] 24 (0, 0))] := hS3179.call hk_ [0, 1] [2, 3, 4] (fun g hg => fpL_sel g hg) (by decide) (by decide)
  refine ⟨trivial, ?_⟩
  refine seg 3 [] [4, 6, 7] [(4, (.pointer (some ⟨g3162, 0, none⟩))), (6, (.pointer (some ⟨g3180, 0, none⟩))), (7, (.int .i64 t3183.1))] [] (fun fb => by kernel_rfl) rfl trivial ?_
  refine WL.done rfl ?_
  refine WX.next ?_
  refine WC.seq ?_
  refine WC.region ?_
  refine seg 2 [] [4, 6, 7, 19] [(4, (.pointer (some ⟨g3162, 0, none⟩))), (6, (.pointer (some ⟨g3180, 0, none⟩))), (7, (.int .i64 t3183.1)), (19, (.bool (t3183.1 != 0)))] [] (fun fb => by kernel_rfl) rfl trivial ?_
  refine WL.done rfl ?_
  refine WX.next ?_
  rcases br_some hf with ⟨h3190, hf⟩ | ⟨h3190, hf⟩
  · refine WC.condT2 (fun fb => by kernel_rfl) h3190 ?_
    refine WC.seq ?_
    refine WC.region ?_
    refine seg 2 [] [4, 20, 21] [(4, (.pointer (some ⟨g3162, 0, none⟩))), (20, (.agg #[(.int .i64 0), (.int .i64 0), (.slice none 0 0)])), (21, (.int .i64 t3183.1))] [] (fun fb => by kernel_rfl) rfl trivial ?_
    refine WL.store hS3187 2 rfl [(0, (.int .i64 0)), (1, (.int .i64 0)), (2, (.slice none 0 0))] #[(.int .i64 0), (.int .i64 0), (.slice none 0 0)] (fun fb => by kernel_rfl) (by kernel_rfl) rfl [0, 1, 3, 4] (by decide) (by decide) (fun w3191 hS3192 => ?_)
    refine ⟨trivial, ?_⟩
    refine seg 4 [] [4, 5] [(4, (.pointer (some ⟨g3162, 0, none⟩))), (5, (.int .i64 t3183.1))] [] (fun fb => by kernel_rfl) rfl trivial ?_
    refine WL.done rfl ?_
    refine WX.next ?_
    refine WC.ret ?_
    have hS3193 := hS3192.nilrow 3 encInt
    injection hf with hf
    subst hf
    exact WX.thenR (WX.ret_ [.v (.int .i64 0), .v (.int .i64 0), .v (.slice none 0 0)] (.tuple #[(.agg #[(.int .i64 0), (.int .i64 0), (.slice none ([] : List Int).length 0)]), (.int .i64 t3183.1)]) [.cell ⟨g3162, 0, none⟩ (.int .i64 0), .cell ⟨g3162, 1, none⟩ (.int .i64 0), .cell ⟨g3162, 2, none⟩ (.slice none 0 0)] (fun fb => by kernel_rfl) ⟨hS3192.cell 0 rfl 0 rfl, hS3192.cell 0 rfl 1 rfl, hS3192.cell 0 rfl 2 rfl, trivial⟩ ⟨_, rfl, none, 0, rfl, (hS3193.sub [0] (by decide)).noR⟩)
  refine WC.condF2 (fun fb => by kernel_rfl) h3190 ?_
  refine WC.skip ?_
  refine WX.next ?_
  refine WC.seq ?_
  refine WC.region ?_
  refine seg 4 [.v (.int .i64 t3183.2.Config.State), .v (.int .i64 t3183.2.Config.At), .v (.slice A3188 t3183.2.Config.Cells.length c3189)] [4, 25] [(4, (.pointer (some ⟨g3162, 0, none⟩))), (25, (.agg #[(.int .i64 t3183.2.Config.State), (.int .i64 t3183.2.Config.At), (.slice A3188 t3183.2.Config.Cells.length c3189)]))] [.cell ⟨g3180, 3, none⟩ (.int .i64 t3183.2.Config.State), .cell ⟨g3180, 4, none⟩ (.int .i64 t3183.2.Config.At), .cell ⟨g3180, 5, none⟩ (.slice A3188 t3183.2.Config.Cells.length c3189)] (fun fb => by kernel_rfl) rfl ⟨hS3187.cell 0 rfl 3 rfl, hS3187.cell 0 rfl 4 rfl, hS3187.cell 0 rfl 5 rfl, trivial⟩ ?_
  refine WL.store hS3187 2 rfl [(0, (.int .i64 t3183.2.Config.State)), (1, (.int .i64 t3183.2.Config.At)), (2, (.slice A3188 t3183.2.Config.Cells.length c3189))] #[(.int .i64 t3183.2.Config.State), (.int .i64 t3183.2.Config.At), (.slice A3188 t3183.2.Config.Cells.length c3189)] (fun fb => by kernel_rfl) (by kernel_rfl) rfl [0, 1, 3, 4] (by decide) (by decide) (fun w3194 hS3195 => ?_)
  refine ⟨trivial, ?_⟩
  refine seg 6 [] [4, 5] [(4, (.pointer (some ⟨g3162, 0, none⟩))), (5, (.int .i64 0))] [] (fun fb => by kernel_rfl) rfl trivial ?_
  refine WL.done rfl ?_
  refine WX.next ?_
  refine WC.ret ?_
  injection hf with hf
  subst hf
  exact WX.ret_ [.v (.int .i64 t3183.2.Config.State), .v (.int .i64 t3183.2.Config.At), .v (.slice A3188 t3183.2.Config.Cells.length c3189)] (.tuple #[(.agg #[(.int .i64 t3183.2.Config.State), (.int .i64 t3183.2.Config.At), (.slice A3188 t3183.2.Config.Cells.length c3189)]), (.int .i64 0)]) [.cell ⟨g3162, 0, none⟩ (.int .i64 t3183.2.Config.State), .cell ⟨g3162, 1, none⟩ (.int .i64 t3183.2.Config.At), .cell ⟨g3162, 2, none⟩ (.slice A3188 t3183.2.Config.Cells.length c3189)] (fun fb => by kernel_rfl) ⟨hS3195.cell 0 rfl 0 rfl, hS3195.cell 0 rfl 1 rfl, hS3195.cell 0 rfl 2 rfl, trivial⟩ ⟨_, rfl, A3188, c3189, rfl, (hS3195.sub [2] (by decide)).noR⟩
theorem tile_Form_calls (p0 : Pattern) (A_p0_Cells : Option Addr) (c_p0_Cells : Nat) (r : Bool) (w : World) (hR0 : RO NoS w (rowR encInt A_p0_Cells c_p0_Cells p0.Cells)) (hf : tile_Form p0 = some r) :
    CallsR Try.prog 52 #[(.agg #[(.int .i64 p0.Width), (.int .i64 p0.Height), (.slice A_p0_Cells p0.Cells.length c_p0_Cells)])] w (fun v w' => v = (.bool r) ∧ Keeps NoS w w') := by
  have hS : St NoS w w [rowR encInt A_p0_Cells c_p0_Cells p0.Cells] [] := St.init (ro_cons hR0 (ro_nil _ _))
  refine enter 40 Try.func52 rfl Try.ntmps52 rfl ?_
  unfold tile_Form at hf
  refine WC.seq ?_
  refine WC.region ?_
  refine WL.new hS 1 [] (fun g => (.pointer (some ⟨g, 0, none⟩))) (.cells #[(.int .i64 p0.Width), (.int .i64 p0.Height), (.slice A_p0_Cells p0.Cells.length c_p0_Cells)] 31 (0, 0)) [] (fun fb g => by kernel_rfl) trivial (fun g3240 w3241 hS3242 => ?_)
  refine ⟨trivial, ?_⟩
  refine seg 2 [] [1] [(1, (.pointer (some ⟨g3240, 0, none⟩)))] [] (fun fb => by kernel_rfl) rfl trivial ?_
  refine WL.done rfl ?_
  refine WX.next ?_
  refine WC.seq ?_
  refine WC.region ?_
  refine seg 4 [.v (.int .i64 p0.Width)] [1, 6] [(1, (.pointer (some ⟨g3240, 0, none⟩))), (6, (.bool (decide (p0.Width ≥ 1))))] [.cell ⟨g3240, 0, none⟩ (.int .i64 p0.Width)] (fun fb => by kernel_rfl) rfl ⟨hS3242.cell 0 rfl 0 rfl, trivial⟩ ?_
  refine WL.cutV (T := Bool) 8 (fun t => [(10, (.bool t)), (1, (.pointer (some ⟨g3240, 0, none⟩)))]) (fun t => t = ((decide (p0.Width ≥ 1)) && (decide (p0.Height ≥ 1)))) (fun K => ?_) ?_
  ·
    rcases Bool.eq_false_or_eq_true (decide (p0.Width ≥ 1)) with h3244 | h3244
    ·
      refine WL.setB 6 h3244 rfl ?_
      refine seg 8 [.v (.int .i64 p0.Height)] [1, 10] [(1, (.pointer (some ⟨g3240, 0, none⟩))), (10, (.bool (decide (p0.Height ≥ 1))))] [.cell ⟨g3240, 1, none⟩ (.int .i64 p0.Height)] (fun fb => by kernel_rfl) rfl ⟨hS3242.cell 0 rfl 1 rfl, trivial⟩ ?_
      exact WL.toV K (decide (p0.Height ≥ 1)) [10, 1] rfl (by rw [h3244]; rfl)
    refine WL.setB 6 h3244 rfl ?_
    refine seg 8 [] [1, 10] [(1, (.pointer (some ⟨g3240, 0, none⟩))), (10, (.bool false))] [] (fun fb => by kernel_rfl) rfl trivial ?_
    exact WL.toV K false [10, 1] rfl (by rw [h3244]; rfl)
  rintro b3245 rfl
  refine seg 9 [] [1, 11] [(1, (.pointer (some ⟨g3240, 0, none⟩))), (11, (.bool ((decide (p0.Width ≥ 1)) && (decide (p0.Height ≥ 1)))))] [] (fun fb => by kernel_rfl) rfl trivial ?_
  refine WL.cutV (T := Bool) 13 (fun t => [(15, (.bool t)), (1, (.pointer (some ⟨g3240, 0, none⟩)))]) (fun t => t = (((decide (p0.Width ≥ 1)) && (decide (p0.Height ≥ 1))) && (decide (p0.Width ≤ 40000)))) (fun K => ?_) ?_
  ·
    rcases Bool.eq_false_or_eq_true ((decide (p0.Width ≥ 1)) && (decide (p0.Height ≥ 1))) with h3246 | h3246
    ·
      refine WL.setB 11 h3246 rfl ?_
      refine seg 13 [.v (.int .i64 p0.Width)] [1, 15] [(1, (.pointer (some ⟨g3240, 0, none⟩))), (15, (.bool (decide (p0.Width ≤ 40000))))] [.cell ⟨g3240, 0, none⟩ (.int .i64 p0.Width)] (fun fb => by kernel_rfl) rfl ⟨hS3242.cell 0 rfl 0 rfl, trivial⟩ ?_
      exact WL.toV K (decide (p0.Width ≤ 40000)) [15, 1] rfl (by rw [h3246]; rfl)
    refine WL.setB 11 h3246 rfl ?_
    refine seg 13 [] [1, 15] [(1, (.pointer (some ⟨g3240, 0, none⟩))), (15, (.bool false))] [] (fun fb => by kernel_rfl) rfl trivial ?_
    exact WL.toV K false [15, 1] rfl (by rw [h3246]; rfl)
  rintro b3247 rfl
  refine seg 14 [] [1, 16] [(1, (.pointer (some ⟨g3240, 0, none⟩))), (16, (.bool (((decide (p0.Width ≥ 1)) && (decide (p0.Height ≥ 1))) && (decide (p0.Width ≤ 40000)))))] [] (fun fb => by kernel_rfl) rfl trivial ?_
  refine WL.cutV (T := Bool) 18 (fun t => [(20, (.bool t)), (1, (.pointer (some ⟨g3240, 0, none⟩)))]) (fun t => t = ((((decide (p0.Width ≥ 1)) && (decide (p0.Height ≥ 1))) && (decide (p0.Width ≤ 40000))) && (decide (p0.Height ≤ 40000)))) (fun K => ?_) ?_
  ·
    rcases Bool.eq_false_or_eq_true (((decide (p0.Width ≥ 1)) && (decide (p0.Height ≥ 1))) && (decide (p0.Width ≤ 40000))) with h3248 | h3248
    ·
      refine WL.setB 16 h3248 rfl ?_
      refine seg 18 [.v (.int .i64 p0.Height)] [1, 20] [(1, (.pointer (some ⟨g3240, 0, none⟩))), (20, (.bool (decide (p0.Height ≤ 40000))))] [.cell ⟨g3240, 1, none⟩ (.int .i64 p0.Height)] (fun fb => by kernel_rfl) rfl ⟨hS3242.cell 0 rfl 1 rfl, trivial⟩ ?_
      exact WL.toV K (decide (p0.Height ≤ 40000)) [20, 1] rfl (by rw [h3248]; rfl)
    refine WL.setB 16 h3248 rfl ?_
    refine seg 18 [] [1, 20] [(1, (.pointer (some ⟨g3240, 0, none⟩))), (20, (.bool false))] [] (fun fb => by kernel_rfl) rfl trivial ?_
    exact WL.toV K false [20, 1] rfl (by rw [h3248]; rfl)
  rintro b3249 rfl
  refine seg 19 [] [1, 21] [(1, (.pointer (some ⟨g3240, 0, none⟩))), (21, (.bool ((((decide (p0.Width ≥ 1)) && (decide (p0.Height ≥ 1))) && (decide (p0.Width ≤ 40000))) && (decide (p0.Height ≤ 40000)))))] [] (fun fb => by kernel_rfl) rfl trivial ?_
  refine WL.cutV (T := Bool) 26 (fun t => [(28, (.bool t)), (1, (.pointer (some ⟨g3240, 0, none⟩)))]) (fun t => t = (((((decide (p0.Width ≥ 1)) && (decide (p0.Height ≥ 1))) && (decide (p0.Width ≤ 40000))) && (decide (p0.Height ≤ 40000))) && (decide (w64 (p0.Width * p0.Height) ≤ 40000)))) (fun K => ?_) ?_
  ·
    rcases Bool.eq_false_or_eq_true ((((decide (p0.Width ≥ 1)) && (decide (p0.Height ≥ 1))) && (decide (p0.Width ≤ 40000))) && (decide (p0.Height ≤ 40000))) with h3250 | h3250
    ·
      refine WL.setB 21 h3250 rfl ?_
      refine seg 26 [.v (.int .i64 p0.Width), .v (.int .i64 p0.Height)] [1, 28] [(1, (.pointer (some ⟨g3240, 0, none⟩))), (28, (.bool (decide (w64 (p0.Width * p0.Height) ≤ 40000))))] [.cell ⟨g3240, 0, none⟩ (.int .i64 p0.Width), .cell ⟨g3240, 1, none⟩ (.int .i64 p0.Height)] (fun fb => by kernel_rfl) rfl ⟨hS3242.cell 0 rfl 0 rfl, hS3242.cell 0 rfl 1 rfl, trivial⟩ ?_
      exact WL.toV K (decide (w64 (p0.Width * p0.Height) ≤ 40000)) [28, 1] rfl (by rw [h3250]; rfl)
    refine WL.setB 21 h3250 rfl ?_
    refine seg 26 [] [1, 28] [(1, (.pointer (some ⟨g3240, 0, none⟩))), (28, (.bool false))] [] (fun fb => by kernel_rfl) rfl trivial ?_
    exact WL.toV K false [28, 1] rfl (by rw [h3250]; rfl)
  rintro b3251 rfl
  refine seg 27 [] [1, 29] [(1, (.pointer (some ⟨g3240, 0, none⟩))), (29, (.bool (((((decide (p0.Width ≥ 1)) && (decide (p0.Height ≥ 1))) && (decide (p0.Width ≤ 40000))) && (decide (p0.Height ≤ 40000))) && (decide (w64 (p0.Width * p0.Height) ≤ 40000)))))] [] (fun fb => by kernel_rfl) rfl trivial ?_
  refine WL.cutV (T := Bool) 37 (fun t => [(39, (.bool t))]) (fun t => t = ((((((decide (p0.Width ≥ 1)) && (decide (p0.Height ≥ 1))) && (decide (p0.Width ≤ 40000))) && (decide (p0.Height ≤ 40000))) && (decide (w64 (p0.Width * p0.Height) ≤ 40000))) && ((p0.Cells.length : Int) == (w64 (p0.Width * p0.Height))))) (fun K => ?_) ?_
  ·
    rcases Bool.eq_false_or_eq_true (((((decide (p0.Width ≥ 1)) && (decide (p0.Height ≥ 1))) && (decide (p0.Width ≤ 40000))) && (decide (p0.Height ≤ 40000))) && (decide (w64 (p0.Width * p0.Height) ≤ 40000))) with h3252 | h3252
    ·
      refine WL.setB 29 h3252 rfl ?_
      refine seg 37 [.v (.slice A_p0_Cells p0.Cells.length c_p0_Cells), .v (.int .i64 p0.Width), .v (.int .i64 p0.Height)] [39] [(39, (.bool ((p0.Cells.length : Int) == (w64 (p0.Width * p0.Height)))))] [.cell ⟨g3240, 2, none⟩ (.slice A_p0_Cells p0.Cells.length c_p0_Cells), .cell ⟨g3240, 0, none⟩ (.int .i64 p0.Width), .cell ⟨g3240, 1, none⟩ (.int .i64 p0.Height)] (fun fb => by kernel_rfl) rfl ⟨hS3242.cell 0 rfl 2 rfl, hS3242.cell 0 rfl 0 rfl, hS3242.cell 0 rfl 1 rfl, trivial⟩ ?_
      exact WL.toV K ((p0.Cells.length : Int) == (w64 (p0.Width * p0.Height))) [39] rfl (by rw [h3252]; rfl)
    refine WL.setB 29 h3252 rfl ?_
    refine seg 37 [] [39] [(39, (.bool false))] [] (fun fb => by kernel_rfl) rfl trivial ?_
    exact WL.toV K false [39] rfl (by rw [h3252]; rfl)
  rintro b3253 rfl
  refine seg 38 [] [2] [(2, (.bool ((((((decide (p0.Width ≥ 1)) && (decide (p0.Height ≥ 1))) && (decide (p0.Width ≤ 40000))) && (decide (p0.Height ≤ 40000))) && (decide (w64 (p0.Width * p0.Height) ≤ 40000))) && ((p0.Cells.length : Int) == (w64 (p0.Width * p0.Height))))))] [] (fun fb => by kernel_rfl) rfl trivial ?_
  refine WL.done rfl ?_
  refine WX.next ?_
  refine WC.ret ?_
  injection hf with hf
  subst hf
  exact WX.ret_ [] (.bool ((((((decide (p0.Width ≥ 1)) && (decide (p0.Height ≥ 1))) && (decide (p0.Width ≤ 40000))) && (decide (p0.Height ≤ 40000))) && (decide (w64 (p0.Width * p0.Height) ≤ 40000))) && ((p0.Cells.length : Int) == (w64 (p0.Width * p0.Height))))) [] (fun fb => by kernel_rfl) trivial ⟨_, rfl, rfl, hS3242.keep⟩
theorem tile_Cut_calls (k : Nat) (p0 : Pattern) (p1 : Int) (p2 : Int) (p3 : Int) (p4 : Int) (A_p0_Cells : Option Addr) (c_p0_Cells : Nat) (r : Pattern × Int) (w : World) (hR0 : RO NoS w (rowR encInt A_p0_Cells c_p0_Cells p0.Cells)) (hf : tile_Cut k p0 p1 p2 p3 p4 = some r) :
    CallsR Try.prog 24 #[(.agg #[(.int .i64 p0.Width), (.int .i64 p0.Height), (.slice A_p0_Cells p0.Cells.length c_p0_Cells)]), (.int .i64 p1), (.int .i64 p2), (.int .i64 p3), (.int .i64 p4)] w (fun v w' => ∃ (A1_ : Option Addr), ∃ (c1_ : Nat), v = (.tuple #[(.agg #[(.int .i64 r.1.Width), (.int .i64 r.1.Height), (.slice A1_ r.1.Cells.length c1_)]), (.int .i64 r.2)]) ∧ St NoS w w' [] [rowO 3 encInt A1_ c1_ r.1.Cells]) := by
  have hS : St NoS w w [rowR encInt A_p0_Cells c_p0_Cells p0.Cells] [] := St.init (ro_cons hR0 (ro_nil _ _))
  refine enter 90 Try.func24 rfl Try.ntmps24 rfl ?_
  unfold tile_Cut at hf
  refine WC.seq ?_
  refine WC.region ?_
  refine WL.new hS 5 [] (fun g => (.pointer (some ⟨g, 0, none⟩))) (.cells #[(.int .i64 p0.Width), (.int .i64 p0.Height), (.slice A_p0_Cells p0.Cells.length c_p0_Cells)] 31 (0, 0)) [] (fun fb g => by kernel_rfl) trivial (fun g3232 w3233 hS3234 => ?_)
  refine ⟨trivial, ?_⟩
  refine WL.new hS3234 10 [] (fun g => (.pointer (some ⟨g, 0, none⟩))) (.cells #[(.int .i64 0), (.int .i64 0), (.slice none 0 0)] 31 (0, 0)) [] (fun fb g => by kernel_rfl) trivial (fun g3236 w3237 hS3238 => ?_)
  refine ⟨trivial, ?_⟩
  refine seg 3 [] [1, 2, 3, 4, 5, 10] [(1, (.int .i64 p1)), (2, (.int .i64 p2)), (3, (.int .i64 p3)), (4, (.int .i64 p4)), (5, (.pointer (some ⟨g3232, 0, none⟩))), (10, (.pointer (some ⟨g3236, 0, none⟩)))] [] (fun fb => by kernel_rfl) rfl trivial ?_
  refine WL.done rfl ?_
  refine WX.next ?_
  refine WC.seq ?_
  refine WC.seq ?_
  refine WC.region ?_
  refine seg 1 [.v (.int .i64 p0.Width), .v (.int .i64 p0.Height), .v (.slice A_p0_Cells p0.Cells.length c_p0_Cells)] [1, 2, 3, 4, 5, 10, 15] [(1, (.int .i64 p1)), (2, (.int .i64 p2)), (3, (.int .i64 p3)), (4, (.int .i64 p4)), (5, (.pointer (some ⟨g3232, 0, none⟩))), (10, (.pointer (some ⟨g3236, 0, none⟩))), (15, (.agg #[(.int .i64 p0.Width), (.int .i64 p0.Height), (.slice A_p0_Cells p0.Cells.length c_p0_Cells)]))] [.cell ⟨g3232, 0, none⟩ (.int .i64 p0.Width), .cell ⟨g3232, 1, none⟩ (.int .i64 p0.Height), .cell ⟨g3232, 2, none⟩ (.slice A_p0_Cells p0.Cells.length c_p0_Cells)] (fun fb => by kernel_rfl) rfl ⟨hS3238.cell 1 rfl 0 rfl, hS3238.cell 1 rfl 1 rfl, hS3238.cell 1 rfl 2 rfl, trivial⟩ ?_
  obtain ⟨t3254, ht3255, hf⟩ := bind_some hf
  refine WL.call (some 16) 52 #[(.agg #[(.int .i64 p0.Width), (.int .i64 p0.Height), (.slice A_p0_Cells p0.Cells.length c_p0_Cells)])] (fun fb => by kernel_rfl) (tile_Form_calls p0 A_p0_Cells c_p0_Cells t3254 _ (hS3238.rd 0) ht3255) (fun v w3256 hR3257 => ?_)
  obtain ⟨rfl, hk_⟩ := hR3257
  have hS3258 := hS3238.keepN hk_
  refine ⟨trivial, ?_⟩
  refine seg 3 [] [1, 2, 3, 4, 5, 10, 17] [(1, (.int .i64 p1)), (2, (.int .i64 p2)), (3, (.int .i64 p3)), (4, (.int .i64 p4)), (5, (.pointer (some ⟨g3232, 0, none⟩))), (10, (.pointer (some ⟨g3236, 0, none⟩))), (17, (.bool (!t3254)))] [] (fun fb => by kernel_rfl) rfl trivial ?_
  refine WL.done rfl ?_
  refine WX.next ?_
  rcases br_some hf with ⟨h3259, hf⟩ | ⟨h3259, hf⟩
  · refine WC.condT2 (fun fb => by kernel_rfl) h3259 ?_
    refine WC.seq ?_
    refine WC.region ?_
    refine seg 1 [] [10, 18] [(10, (.pointer (some ⟨g3236, 0, none⟩))), (18, (.agg #[(.int .i64 0), (.int .i64 0), (.slice none 0 0)]))] [] (fun fb => by kernel_rfl) rfl trivial ?_
    refine WL.store hS3258 0 rfl [(0, (.int .i64 0)), (1, (.int .i64 0)), (2, (.slice none 0 0))] #[(.int .i64 0), (.int .i64 0), (.slice none 0 0)] (fun fb => by kernel_rfl) (by kernel_rfl) rfl [1] (by decide) (by decide) (fun w3260 hS3261 => ?_)
    refine ⟨trivial, ?_⟩
    refine seg 3 [] [10, 11] [(10, (.pointer (some ⟨g3236, 0, none⟩))), (11, (.int .i64 1))] [] (fun fb => by kernel_rfl) rfl trivial ?_
    refine WL.done rfl ?_
    refine WX.next ?_
    refine WC.ret ?_
    have hS3262 := hS3261.nilrow 3 encInt
    injection hf with hf
    subst hf
    exact WX.thenR (WX.ret_ [.v (.int .i64 0), .v (.int .i64 0), .v (.slice none 0 0)] (.tuple #[(.agg #[(.int .i64 0), (.int .i64 0), (.slice none ([] : List Int).length 0)]), (.int .i64 1)]) [.cell ⟨g3236, 0, none⟩ (.int .i64 0), .cell ⟨g3236, 1, none⟩ (.int .i64 0), .cell ⟨g3236, 2, none⟩ (.slice none 0 0)] (fun fb => by kernel_rfl) ⟨hS3261.cell 0 rfl 0 rfl, hS3261.cell 0 rfl 1 rfl, hS3261.cell 0 rfl 2 rfl, trivial⟩ ⟨_, rfl, none, 0, rfl, (hS3262.sub [0] (by decide)).noR⟩)
  refine WC.condF2 (fun fb => by kernel_rfl) h3259 ?_
  refine WC.skip ?_
  refine WX.next ?_
  refine WC.seq ?_
  refine WC.seq ?_
  refine WC.region ?_
  refine seg 3 [] [1, 2, 3, 4, 5, 10, 21] [(1, (.int .i64 p1)), (2, (.int .i64 p2)), (3, (.int .i64 p3)), (4, (.int .i64 p4)), (5, (.pointer (some ⟨g3232, 0, none⟩))), (10, (.pointer (some ⟨g3236, 0, none⟩))), (21, (.bool (decide (p3 < 1))))] [] (fun fb => by kernel_rfl) rfl trivial ?_
  refine WL.cutV (T := Bool) 6 (fun t => [(24, (.bool t)), (1, (.int .i64 p1)), (2, (.int .i64 p2)), (3, (.int .i64 p3)), (4, (.int .i64 p4)), (5, (.pointer (some ⟨g3232, 0, none⟩))), (10, (.pointer (some ⟨g3236, 0, none⟩)))]) (fun t => t = ((decide (p3 < 1)) || (decide (p4 < 1)))) (fun K => ?_) ?_
  ·
    rcases Bool.eq_false_or_eq_true (decide (p3 < 1)) with h3263 | h3263
    ·
      refine WL.setB 21 h3263 rfl ?_
      refine seg 6 [] [1, 2, 3, 4, 5, 10, 24] [(1, (.int .i64 p1)), (2, (.int .i64 p2)), (3, (.int .i64 p3)), (4, (.int .i64 p4)), (5, (.pointer (some ⟨g3232, 0, none⟩))), (10, (.pointer (some ⟨g3236, 0, none⟩))), (24, (.bool true))] [] (fun fb => by kernel_rfl) rfl trivial ?_
      exact WL.toV K true [24, 1, 2, 3, 4, 5, 10] rfl (by rw [h3263]; rfl)
    refine WL.setB 21 h3263 rfl ?_
    refine seg 6 [] [1, 2, 3, 4, 5, 10, 24] [(1, (.int .i64 p1)), (2, (.int .i64 p2)), (3, (.int .i64 p3)), (4, (.int .i64 p4)), (5, (.pointer (some ⟨g3232, 0, none⟩))), (10, (.pointer (some ⟨g3236, 0, none⟩))), (24, (.bool (decide (p4 < 1))))] [] (fun fb => by kernel_rfl) rfl trivial ?_
    exact WL.toV K (decide (p4 < 1)) [24, 1, 2, 3, 4, 5, 10] rfl (by rw [h3263]; rfl)
  rintro b3264 rfl
  refine seg 7 [] [1, 2, 3, 4, 5, 10, 25] [(1, (.int .i64 p1)), (2, (.int .i64 p2)), (3, (.int .i64 p3)), (4, (.int .i64 p4)), (5, (.pointer (some ⟨g3232, 0, none⟩))), (10, (.pointer (some ⟨g3236, 0, none⟩))), (25, (.bool ((decide (p3 < 1)) || (decide (p4 < 1)))))] [] (fun fb => by kernel_rfl) rfl trivial ?_
  refine WL.cutV (T := Bool) 10 (fun t => [(28, (.bool t)), (1, (.int .i64 p1)), (2, (.int .i64 p2)), (3, (.int .i64 p3)), (4, (.int .i64 p4)), (5, (.pointer (some ⟨g3232, 0, none⟩))), (10, (.pointer (some ⟨g3236, 0, none⟩)))]) (fun t => t = (((decide (p3 < 1)) || (decide (p4 < 1))) || (decide (p1 < 0)))) (fun K => ?_) ?_
  ·
    rcases Bool.eq_false_or_eq_true ((decide (p3 < 1)) || (decide (p4 < 1))) with h3265 | h3265
    ·
      refine WL.setB 25 h3265 rfl ?_
      refine seg 10 [] [1, 2, 3, 4, 5, 10, 28] [(1, (.int .i64 p1)), (2, (.int .i64 p2)), (3, (.int .i64 p3)), (4, (.int .i64 p4)), (5, (.pointer (some ⟨g3232, 0, none⟩))), (10, (.pointer (some ⟨g3236, 0, none⟩))), (28, (.bool true))] [] (fun fb => by kernel_rfl) rfl trivial ?_
      exact WL.toV K true [28, 1, 2, 3, 4, 5, 10] rfl (by rw [h3265]; rfl)
    refine WL.setB 25 h3265 rfl ?_
    refine seg 10 [] [1, 2, 3, 4, 5, 10, 28] [(1, (.int .i64 p1)), (2, (.int .i64 p2)), (3, (.int .i64 p3)), (4, (.int .i64 p4)), (5, (.pointer (some ⟨g3232, 0, none⟩))), (10, (.pointer (some ⟨g3236, 0, none⟩))), (28, (.bool (decide (p1 < 0))))] [] (fun fb => by kernel_rfl) rfl trivial ?_
    exact WL.toV K (decide (p1 < 0)) [28, 1, 2, 3, 4, 5, 10] rfl (by rw [h3265]; rfl)
  rintro b3266 rfl
  refine seg 11 [] [1, 2, 3, 4, 5, 10, 29] [(1, (.int .i64 p1)), (2, (.int .i64 p2)), (3, (.int .i64 p3)), (4, (.int .i64 p4)), (5, (.pointer (some ⟨g3232, 0, none⟩))), (10, (.pointer (some ⟨g3236, 0, none⟩))), (29, (.bool (((decide (p3 < 1)) || (decide (p4 < 1))) || (decide (p1 < 0)))))] [] (fun fb => by kernel_rfl) rfl trivial ?_
  refine WL.cutV (T := Bool) 14 (fun t => [(32, (.bool t)), (1, (.int .i64 p1)), (2, (.int .i64 p2)), (3, (.int .i64 p3)), (4, (.int .i64 p4)), (5, (.pointer (some ⟨g3232, 0, none⟩))), (10, (.pointer (some ⟨g3236, 0, none⟩)))]) (fun t => t = ((((decide (p3 < 1)) || (decide (p4 < 1))) || (decide (p1 < 0))) || (decide (p2 < 0)))) (fun K => ?_) ?_
  ·
    rcases Bool.eq_false_or_eq_true (((decide (p3 < 1)) || (decide (p4 < 1))) || (decide (p1 < 0))) with h3267 | h3267
    ·
      refine WL.setB 29 h3267 rfl ?_
      refine seg 14 [] [1, 2, 3, 4, 5, 10, 32] [(1, (.int .i64 p1)), (2, (.int .i64 p2)), (3, (.int .i64 p3)), (4, (.int .i64 p4)), (5, (.pointer (some ⟨g3232, 0, none⟩))), (10, (.pointer (some ⟨g3236, 0, none⟩))), (32, (.bool true))] [] (fun fb => by kernel_rfl) rfl trivial ?_
      exact WL.toV K true [32, 1, 2, 3, 4, 5, 10] rfl (by rw [h3267]; rfl)
    refine WL.setB 29 h3267 rfl ?_
    refine seg 14 [] [1, 2, 3, 4, 5, 10, 32] [(1, (.int .i64 p1)), (2, (.int .i64 p2)), (3, (.int .i64 p3)), (4, (.int .i64 p4)), (5, (.pointer (some ⟨g3232, 0, none⟩))), (10, (.pointer (some ⟨g3236, 0, none⟩))), (32, (.bool (decide (p2 < 0))))] [] (fun fb => by kernel_rfl) rfl trivial ?_
    exact WL.toV K (decide (p2 < 0)) [32, 1, 2, 3, 4, 5, 10] rfl (by rw [h3267]; rfl)
  rintro b3268 rfl
  refine seg 15 [] [1, 2, 3, 4, 5, 10, 33] [(1, (.int .i64 p1)), (2, (.int .i64 p2)), (3, (.int .i64 p3)), (4, (.int .i64 p4)), (5, (.pointer (some ⟨g3232, 0, none⟩))), (10, (.pointer (some ⟨g3236, 0, none⟩))), (33, (.bool ((((decide (p3 < 1)) || (decide (p4 < 1))) || (decide (p1 < 0))) || (decide (p2 < 0)))))] [] (fun fb => by kernel_rfl) rfl trivial ?_
  refine WL.cutV (T := Bool) 20 (fun t => [(38, (.bool t)), (1, (.int .i64 p1)), (2, (.int .i64 p2)), (3, (.int .i64 p3)), (4, (.int .i64 p4)), (5, (.pointer (some ⟨g3232, 0, none⟩))), (10, (.pointer (some ⟨g3236, 0, none⟩)))]) (fun t => t = (((((decide (p3 < 1)) || (decide (p4 < 1))) || (decide (p1 < 0))) || (decide (p2 < 0))) || (decide (p3 > p0.Width)))) (fun K => ?_) ?_
  ·
    rcases Bool.eq_false_or_eq_true ((((decide (p3 < 1)) || (decide (p4 < 1))) || (decide (p1 < 0))) || (decide (p2 < 0))) with h3269 | h3269
    ·
      refine WL.setB 33 h3269 rfl ?_
      refine seg 20 [] [1, 2, 3, 4, 5, 10, 38] [(1, (.int .i64 p1)), (2, (.int .i64 p2)), (3, (.int .i64 p3)), (4, (.int .i64 p4)), (5, (.pointer (some ⟨g3232, 0, none⟩))), (10, (.pointer (some ⟨g3236, 0, none⟩))), (38, (.bool true))] [] (fun fb => by kernel_rfl) rfl trivial ?_
      exact WL.toV K true [38, 1, 2, 3, 4, 5, 10] rfl (by rw [h3269]; rfl)
    refine WL.setB 33 h3269 rfl ?_
    refine seg 20 [.v (.int .i64 p0.Width)] [1, 2, 3, 4, 5, 10, 38] [(1, (.int .i64 p1)), (2, (.int .i64 p2)), (3, (.int .i64 p3)), (4, (.int .i64 p4)), (5, (.pointer (some ⟨g3232, 0, none⟩))), (10, (.pointer (some ⟨g3236, 0, none⟩))), (38, (.bool (decide (p3 > p0.Width))))] [.cell ⟨g3232, 0, none⟩ (.int .i64 p0.Width)] (fun fb => by kernel_rfl) rfl ⟨hS3258.cell 1 rfl 0 rfl, trivial⟩ ?_
    exact WL.toV K (decide (p3 > p0.Width)) [38, 1, 2, 3, 4, 5, 10] rfl (by rw [h3269]; rfl)
  rintro b3270 rfl
  refine seg 21 [] [1, 2, 3, 4, 5, 10, 39] [(1, (.int .i64 p1)), (2, (.int .i64 p2)), (3, (.int .i64 p3)), (4, (.int .i64 p4)), (5, (.pointer (some ⟨g3232, 0, none⟩))), (10, (.pointer (some ⟨g3236, 0, none⟩))), (39, (.bool (((((decide (p3 < 1)) || (decide (p4 < 1))) || (decide (p1 < 0))) || (decide (p2 < 0))) || (decide (p3 > p0.Width)))))] [] (fun fb => by kernel_rfl) rfl trivial ?_
  refine WL.cutV (T := Bool) 26 (fun t => [(44, (.bool t)), (1, (.int .i64 p1)), (2, (.int .i64 p2)), (3, (.int .i64 p3)), (4, (.int .i64 p4)), (5, (.pointer (some ⟨g3232, 0, none⟩))), (10, (.pointer (some ⟨g3236, 0, none⟩)))]) (fun t => t = ((((((decide (p3 < 1)) || (decide (p4 < 1))) || (decide (p1 < 0))) || (decide (p2 < 0))) || (decide (p3 > p0.Width))) || (decide (p4 > p0.Height)))) (fun K => ?_) ?_
  ·
    rcases Bool.eq_false_or_eq_true (((((decide (p3 < 1)) || (decide (p4 < 1))) || (decide (p1 < 0))) || (decide (p2 < 0))) || (decide (p3 > p0.Width))) with h3271 | h3271
    ·
      refine WL.setB 39 h3271 rfl ?_
      refine seg 26 [] [1, 2, 3, 4, 5, 10, 44] [(1, (.int .i64 p1)), (2, (.int .i64 p2)), (3, (.int .i64 p3)), (4, (.int .i64 p4)), (5, (.pointer (some ⟨g3232, 0, none⟩))), (10, (.pointer (some ⟨g3236, 0, none⟩))), (44, (.bool true))] [] (fun fb => by kernel_rfl) rfl trivial ?_
      exact WL.toV K true [44, 1, 2, 3, 4, 5, 10] rfl (by rw [h3271]; rfl)
    refine WL.setB 39 h3271 rfl ?_
    refine seg 26 [.v (.int .i64 p0.Height)] [1, 2, 3, 4, 5, 10, 44] [(1, (.int .i64 p1)), (2, (.int .i64 p2)), (3, (.int .i64 p3)), (4, (.int .i64 p4)), (5, (.pointer (some ⟨g3232, 0, none⟩))), (10, (.pointer (some ⟨g3236, 0, none⟩))), (44, (.bool (decide (p4 > p0.Height))))] [.cell ⟨g3232, 1, none⟩ (.int .i64 p0.Height)] (fun fb => by kernel_rfl) rfl ⟨hS3258.cell 1 rfl 1 rfl, trivial⟩ ?_
    exact WL.toV K (decide (p4 > p0.Height)) [44, 1, 2, 3, 4, 5, 10] rfl (by rw [h3271]; rfl)
  rintro b3272 rfl
  refine seg 27 [] [1, 2, 3, 4, 5, 10, 45] [(1, (.int .i64 p1)), (2, (.int .i64 p2)), (3, (.int .i64 p3)), (4, (.int .i64 p4)), (5, (.pointer (some ⟨g3232, 0, none⟩))), (10, (.pointer (some ⟨g3236, 0, none⟩))), (45, (.bool ((((((decide (p3 < 1)) || (decide (p4 < 1))) || (decide (p1 < 0))) || (decide (p2 < 0))) || (decide (p3 > p0.Width))) || (decide (p4 > p0.Height)))))] [] (fun fb => by kernel_rfl) rfl trivial ?_
  refine WL.cutV (T := Bool) 34 (fun t => [(52, (.bool t)), (1, (.int .i64 p1)), (2, (.int .i64 p2)), (3, (.int .i64 p3)), (4, (.int .i64 p4)), (5, (.pointer (some ⟨g3232, 0, none⟩))), (10, (.pointer (some ⟨g3236, 0, none⟩)))]) (fun t => t = (((((((decide (p3 < 1)) || (decide (p4 < 1))) || (decide (p1 < 0))) || (decide (p2 < 0))) || (decide (p3 > p0.Width))) || (decide (p4 > p0.Height))) || (decide (p1 > w64 (p0.Width - p3))))) (fun K => ?_) ?_
  ·
    rcases Bool.eq_false_or_eq_true ((((((decide (p3 < 1)) || (decide (p4 < 1))) || (decide (p1 < 0))) || (decide (p2 < 0))) || (decide (p3 > p0.Width))) || (decide (p4 > p0.Height))) with h3273 | h3273
    ·
      refine WL.setB 45 h3273 rfl ?_
      refine seg 34 [] [1, 2, 3, 4, 5, 10, 52] [(1, (.int .i64 p1)), (2, (.int .i64 p2)), (3, (.int .i64 p3)), (4, (.int .i64 p4)), (5, (.pointer (some ⟨g3232, 0, none⟩))), (10, (.pointer (some ⟨g3236, 0, none⟩))), (52, (.bool true))] [] (fun fb => by kernel_rfl) rfl trivial ?_
      exact WL.toV K true [52, 1, 2, 3, 4, 5, 10] rfl (by rw [h3273]; rfl)
    refine WL.setB 45 h3273 rfl ?_
    refine seg 34 [.v (.int .i64 p0.Width)] [1, 2, 3, 4, 5, 10, 52] [(1, (.int .i64 p1)), (2, (.int .i64 p2)), (3, (.int .i64 p3)), (4, (.int .i64 p4)), (5, (.pointer (some ⟨g3232, 0, none⟩))), (10, (.pointer (some ⟨g3236, 0, none⟩))), (52, (.bool (decide (p1 > w64 (p0.Width - p3)))))] [.cell ⟨g3232, 0, none⟩ (.int .i64 p0.Width)] (fun fb => by kernel_rfl) rfl ⟨hS3258.cell 1 rfl 0 rfl, trivial⟩ ?_
    exact WL.toV K (decide (p1 > w64 (p0.Width - p3))) [52, 1, 2, 3, 4, 5, 10] rfl (by rw [h3273]; rfl)
  rintro b3274 rfl
  refine seg 35 [] [1, 2, 3, 4, 5, 10, 53] [(1, (.int .i64 p1)), (2, (.int .i64 p2)), (3, (.int .i64 p3)), (4, (.int .i64 p4)), (5, (.pointer (some ⟨g3232, 0, none⟩))), (10, (.pointer (some ⟨g3236, 0, none⟩))), (53, (.bool (((((((decide (p3 < 1)) || (decide (p4 < 1))) || (decide (p1 < 0))) || (decide (p2 < 0))) || (decide (p3 > p0.Width))) || (decide (p4 > p0.Height))) || (decide (p1 > w64 (p0.Width - p3))))))] [] (fun fb => by kernel_rfl) rfl trivial ?_
  refine WL.cutV (T := Bool) 42 (fun t => [(60, (.bool t)), (1, (.int .i64 p1)), (2, (.int .i64 p2)), (3, (.int .i64 p3)), (4, (.int .i64 p4)), (5, (.pointer (some ⟨g3232, 0, none⟩))), (10, (.pointer (some ⟨g3236, 0, none⟩)))]) (fun t => t = ((((((((decide (p3 < 1)) || (decide (p4 < 1))) || (decide (p1 < 0))) || (decide (p2 < 0))) || (decide (p3 > p0.Width))) || (decide (p4 > p0.Height))) || (decide (p1 > w64 (p0.Width - p3)))) || (decide (p2 > w64 (p0.Height - p4))))) (fun K => ?_) ?_
  ·
    rcases Bool.eq_false_or_eq_true (((((((decide (p3 < 1)) || (decide (p4 < 1))) || (decide (p1 < 0))) || (decide (p2 < 0))) || (decide (p3 > p0.Width))) || (decide (p4 > p0.Height))) || (decide (p1 > w64 (p0.Width - p3)))) with h3275 | h3275
    ·
      refine WL.setB 53 h3275 rfl ?_
      refine seg 42 [] [1, 2, 3, 4, 5, 10, 60] [(1, (.int .i64 p1)), (2, (.int .i64 p2)), (3, (.int .i64 p3)), (4, (.int .i64 p4)), (5, (.pointer (some ⟨g3232, 0, none⟩))), (10, (.pointer (some ⟨g3236, 0, none⟩))), (60, (.bool true))] [] (fun fb => by kernel_rfl) rfl trivial ?_
      exact WL.toV K true [60, 1, 2, 3, 4, 5, 10] rfl (by rw [h3275]; rfl)
    refine WL.setB 53 h3275 rfl ?_
    refine seg 42 [.v (.int .i64 p0.Height)] [1, 2, 3, 4, 5, 10, 60] [(1, (.int .i64 p1)), (2, (.int .i64 p2)), (3, (.int .i64 p3)), (4, (.int .i64 p4)), (5, (.pointer (some ⟨g3232, 0, none⟩))), (10, (.pointer (some ⟨g3236, 0, none⟩))), (60, (.bool (decide (p2 > w64 (p0.Height - p4)))))] [.cell ⟨g3232, 1, none⟩ (.int .i64 p0.Height)] (fun fb => by kernel_rfl) rfl ⟨hS3258.cell 1 rfl 1 rfl, trivial⟩ ?_
    exact WL.toV K (decide (p2 > w64 (p0.Height - p4))) [60, 1, 2, 3, 4, 5, 10] rfl (by rw [h3275]; rfl)
  rintro b3276 rfl
  refine WL.done rfl ?_
  refine WX.next ?_
  rcases br_some hf with ⟨h3277, hf⟩ | ⟨h3277, hf⟩
  · refine WC.condT2 (fun fb => by kernel_rfl) h3277 ?_
    refine WC.seq ?_
    refine WC.region ?_
    refine seg 1 [] [10, 61] [(10, (.pointer (some ⟨g3236, 0, none⟩))), (61, (.agg #[(.int .i64 0), (.int .i64 0), (.slice none 0 0)]))] [] (fun fb => by kernel_rfl) rfl trivial ?_
    refine WL.store hS3258 0 rfl [(0, (.int .i64 0)), (1, (.int .i64 0)), (2, (.slice none 0 0))] #[(.int .i64 0), (.int .i64 0), (.slice none 0 0)] (fun fb => by kernel_rfl) (by kernel_rfl) rfl [1] (by decide) (by decide) (fun w3278 hS3279 => ?_)
    refine ⟨trivial, ?_⟩
    refine seg 3 [] [10, 11] [(10, (.pointer (some ⟨g3236, 0, none⟩))), (11, (.int .i64 2))] [] (fun fb => by kernel_rfl) rfl trivial ?_
    refine WL.done rfl ?_
    refine WX.next ?_
    refine WC.ret ?_
    have hS3280 := hS3279.nilrow 3 encInt
    injection hf with hf
    subst hf
    exact WX.thenR (WX.ret_ [.v (.int .i64 0), .v (.int .i64 0), .v (.slice none 0 0)] (.tuple #[(.agg #[(.int .i64 0), (.int .i64 0), (.slice none ([] : List Int).length 0)]), (.int .i64 2)]) [.cell ⟨g3236, 0, none⟩ (.int .i64 0), .cell ⟨g3236, 1, none⟩ (.int .i64 0), .cell ⟨g3236, 2, none⟩ (.slice none 0 0)] (fun fb => by kernel_rfl) ⟨hS3279.cell 0 rfl 0 rfl, hS3279.cell 0 rfl 1 rfl, hS3279.cell 0 rfl 2 rfl, trivial⟩ ⟨_, rfl, none, 0, rfl, (hS3280.sub [0] (by decide)).noR⟩)
  refine WC.condF2 (fun fb => by kernel_rfl) h3277 ?_
  refine WC.skip ?_
  refine WX.next ?_
  refine WC.seq ?_
  refine WC.region ?_
  refine seg 3 [] [1, 2, 3, 4, 5, 10, 64] [(1, (.int .i64 p1)), (2, (.int .i64 p2)), (3, (.int .i64 p3)), (4, (.int .i64 p4)), (5, (.pointer (some ⟨g3232, 0, none⟩))), (10, (.pointer (some ⟨g3236, 0, none⟩))), (64, (.agg #[(.int .i64 p3), (.int .i64 p4), (.slice none 0 0)]))] [] (fun fb => by kernel_rfl) rfl trivial ?_
  refine WL.new hS3258 12 [] (fun g => (.pointer (some ⟨g, 0, none⟩))) (.cells #[(.int .i64 0), (.int .i64 0), (.slice none 0 0)] 31 (0, 0)) [] (fun fb g => by kernel_rfl) trivial (fun g3281 w3282 hS3283 => ?_)
  refine ⟨trivial, ?_⟩
  refine WL.store hS3283 0 rfl [(0, (.int .i64 p3)), (1, (.int .i64 p4)), (2, (.slice none 0 0))] #[(.int .i64 p3), (.int .i64 p4), (.slice none 0 0)] (fun fb => by kernel_rfl) (by kernel_rfl) rfl [1, 2] (by decide) (by decide) (fun w3285 hS3286 => ?_)
  refine ⟨trivial, ?_⟩
  refine WL.done rfl ?_
  refine WX.next ?_
  refine WC.seq ?_
  refine WC.seq ?_
  refine WC.region ?_
  refine seg 2 [] [1, 2, 3, 5, 10, 12, 65, 66] [(1, (.int .i64 p1)), (2, (.int .i64 p2)), (3, (.int .i64 p3)), (5, (.pointer (some ⟨g3232, 0, none⟩))), (10, (.pointer (some ⟨g3236, 0, none⟩))), (12, (.pointer (some ⟨g3281, 0, none⟩))), (65, (.int .i64 p4)), (66, (.int .i64 0))] [] (fun fb => by kernel_rfl) rfl trivial ?_
  refine WL.done rfl ?_
  refine WX.next ?_
  have hS3336 := hS3286.nilrow 3 encInt
  obtain ⟨x3344, hx3345, hf⟩ := bind_some hf
  refine WC.cutN (T := (List Int) × (Option Addr) × Nat) (fun t => [(10, (.pointer (some ⟨g3236, 0, none⟩))), (12, (.pointer (some ⟨g3281, 0, none⟩)))]) (fun t w1 => St NoS w w1 [rowR encInt A_p0_Cells c_p0_Cells p0.Cells] [blk g3236 (.cells #[(.int .i64 0), (.int .i64 0), (.slice none 0 0)] 31 (0, 0)), blk g3281 (.cells #[(.int .i64 p3), (.int .i64 p4), (.slice t.2.1 t.1.length t.2.2)] 31 (0, 0)), rowO 3 encInt t.2.1 t.2.2 t.1] ∧ x3344 = t.1) (fun Kx3344 => ?_) ?_
  ·
    refine WC.block ?_
    refine WC.loop (T := ((List Int) × Int) × (Option Addr) × Nat) (fun t => [(1, (.int .i64 p1)), (2, (.int .i64 p2)), (3, (.int .i64 p3)), (5, (.pointer (some ⟨g3232, 0, none⟩))), (10, (.pointer (some ⟨g3236, 0, none⟩))), (12, (.pointer (some ⟨g3281, 0, none⟩))), (65, (.int .i64 p4)), (66, (.int .i64 t.1.2))]) (fun n t w1 => St NoS w w1 [rowR encInt A_p0_Cells c_p0_Cells p0.Cells] [blk g3232 (.cells #[(.int .i64 p0.Width), (.int .i64 p0.Height), (.slice A_p0_Cells p0.Cells.length c_p0_Cells)] 31 (0, 0)), blk g3236 (.cells #[(.int .i64 0), (.int .i64 0), (.slice none 0 0)] 31 (0, 0)), blk g3281 (.cells #[(.int .i64 p3), (.int .i64 p4), (.slice t.2.1 t.1.1.length t.2.2)] 31 (0, 0)), rowO 3 encInt t.2.1 t.2.2 t.1.1] ∧ tile_Cut.l0 n t.1.1 t.1.2 p0 p1 p2 p3 p4 = some x3344) k ((([] : List Int), 0), none, 0) [1, 2, 3, 5, 10, 12, 65, 66] rfl ⟨(hS3336.subR [0]).sub [3, 2, 1, 0] (by decide), hx3345⟩ ?_
    rintro k3346 ⟨⟨l3339, x3340⟩, A3337, c3338⟩ w3347 ⟨hS3348, hl3349⟩
    cases k3346 with
    | zero => rw [tile_Cut.l0] at hl3349; cases hl3349
    | succ k3346 =>
      rw [tile_Cut.l0] at hl3349
      refine WC.seq ?_
      refine WC.region ?_
      refine seg 1 [] [1, 2, 3, 5, 10, 12, 65, 66, 67] [(1, (.int .i64 p1)), (2, (.int .i64 p2)), (3, (.int .i64 p3)), (5, (.pointer (some ⟨g3232, 0, none⟩))), (10, (.pointer (some ⟨g3236, 0, none⟩))), (12, (.pointer (some ⟨g3281, 0, none⟩))), (65, (.int .i64 p4)), (66, (.int .i64 x3340)), (67, (.bool (decide (x3340 < p4))))] [] (fun fb => by kernel_rfl) rfl trivial ?_
      refine WL.done rfl ?_
      refine WX.next ?_
      refine WC.seq ?_
      rcases br_some hl3349 with ⟨h3350, hl3349⟩ | ⟨h3350, hl3349⟩
      · refine WC.condT2 (fun fb => by kernel_rfl) h3350 ?_
        refine WC.skip ?_
        refine WX.next ?_
        refine WC.seq ?_
        refine WC.block ?_
        refine WC.seq ?_
        refine WC.region ?_
        refine seg 2 [] [1, 2, 3, 5, 10, 12, 13, 65, 66] [(1, (.int .i64 p1)), (2, (.int .i64 p2)), (3, (.int .i64 p3)), (5, (.pointer (some ⟨g3232, 0, none⟩))), (10, (.pointer (some ⟨g3236, 0, none⟩))), (12, (.pointer (some ⟨g3281, 0, none⟩))), (13, (.int .i64 x3340)), (65, (.int .i64 p4)), (66, (.int .i64 x3340))] [] (fun fb => by kernel_rfl) rfl trivial ?_
        refine WL.done rfl ?_
        refine WX.next ?_
        refine WC.seq ?_
        refine WC.region ?_
        refine seg 9 [.v (.int .i64 p0.Width)] [1, 2, 3, 5, 10, 12, 14, 65, 66] [(1, (.int .i64 p1)), (2, (.int .i64 p2)), (3, (.int .i64 p3)), (5, (.pointer (some ⟨g3232, 0, none⟩))), (10, (.pointer (some ⟨g3236, 0, none⟩))), (12, (.pointer (some ⟨g3281, 0, none⟩))), (14, (.int .i64 (w64 ((w64 ((w64 (p2 + x3340)) * p0.Width)) + p1)))), (65, (.int .i64 p4)), (66, (.int .i64 x3340))] [.cell ⟨g3232, 0, none⟩ (.int .i64 p0.Width)] (fun fb => by kernel_rfl) rfl ⟨hS3348.cell 0 rfl 0 rfl, trivial⟩ ?_
        refine WL.done rfl ?_
        refine WX.next ?_
        refine WC.regionD ([(1, ⟨g3281, 2, none⟩, (.slice A3337 l3339.length c3338)), (3, ⟨g3232, 2, none⟩, (.slice A_p0_Cells p0.Cells.length c_p0_Cells))], [0, 1, 2, 3, 4, 5, 6, 7, 10], [[], [0], [], [2], [], [], [], [5, 6], [2, 3, 4, 5, 6, 7], [0, 1, 2, 3, 4, 5, 6, 7, 8], [0, 1, 2, 3, 4, 5, 6, 7, 8, 9], [0, 1, 2, 3, 4, 5, 6, 7, 8, 9, 10]]) [[0, 1, 2, 3, 4, 5, 6, 7, 8, 9, 10, 11]] (by kernel_rfl) (by kernel_rfl) (NoPanic.block (NoPanic.seq (NoPanic.seq (NoPanic.block (NoPanic.seq (NoPanic.body)))))) ?_
        have hS3361 := hS3348.drew
        revert hS3361
        generalize World.drew w3347 = w3360
        intro hS3361
        refine ⟨⟨hS3361.cell 2 rfl 2 rfl, hS3361.cell 0 rfl 2 rfl, trivial⟩, forallC ?_ (forallN)⟩
        refine segF 8 [.v (.slice A3337 l3339.length c3338), .v (.slice A_p0_Cells p0.Cells.length c_p0_Cells)] [1, 2, 3, 5, 10, 12, 65, 66, 78, 80, 81, 84] [(1, (.int .i64 p1)), (2, (.int .i64 p2)), (3, (.int .i64 p3)), (5, (.pointer (some ⟨g3232, 0, none⟩))), (10, (.pointer (some ⟨g3236, 0, none⟩))), (12, (.pointer (some ⟨g3281, 0, none⟩))), (65, (.int .i64 p4)), (66, (.int .i64 x3340)), (78, (.slice A3337 l3339.length c3338)), (80, (.slice A_p0_Cells p0.Cells.length c_p0_Cells)), (81, (.int .i64 (w64 ((w64 ((w64 (p2 + x3340)) * p0.Width)) + p1)))), (84, (.int .i64 (w64 ((w64 ((w64 ((w64 (p2 + x3340)) * p0.Width)) + p1)) + p3))))] [] [0, 1] [(1, ⟨g3281, 2, none⟩, (.slice A3337 l3339.length c3338)), (3, ⟨g3232, 2, none⟩, (.slice A_p0_Cells p0.Cells.length c_p0_Cells))] (fun fb => by kernel_rfl) rfl trivial rfl ?_
        obtain ⟨h3362, hl3349⟩ := as_some hl3349
        refine seg 9 [] [1, 2, 3, 5, 10, 12, 65, 66, 78, 85] [(1, (.int .i64 p1)), (2, (.int .i64 p2)), (3, (.int .i64 p3)), (5, (.pointer (some ⟨g3232, 0, none⟩))), (10, (.pointer (some ⟨g3236, 0, none⟩))), (12, (.pointer (some ⟨g3281, 0, none⟩))), (65, (.int .i64 p4)), (66, (.int .i64 x3340)), (78, (.slice A3337 l3339.length c3338)), (85, (.slice (subA A_p0_Cells c_p0_Cells (w64 ((w64 ((w64 (p2 + x3340)) * p0.Width)) + p1)).toNat 1) ((w64 ((w64 ((w64 ((w64 (p2 + x3340)) * p0.Width)) + p1)) + p3)).toNat - (w64 ((w64 ((w64 (p2 + x3340)) * p0.Width)) + p1)).toNat) (c_p0_Cells - (w64 ((w64 ((w64 (p2 + x3340)) * p0.Width)) + p1)).toNat)))] [.idx (some ⟨0, 0, none⟩) (w64 ((w64 ((w64 (p2 + x3340)) * p0.Width)) + p1)) ((w64 ((w64 ((w64 ((w64 (p2 + x3340)) * p0.Width)) + p1)) + p3)).toNat + 1), .idx (some ⟨0, 0, none⟩) (w64 ((w64 ((w64 ((w64 (p2 + x3340)) * p0.Width)) + p1)) + p3)) (c_p0_Cells + 1)] (fun fb => by kernel_rfl) rfl ⟨cut1 h3362.1 h3362.2.1, cut2 h3362.1 h3362.2.1 h3362.2.2 (hS3361.rd 0).1.2, trivial⟩ ?_
        refine WL.reE [1, 2, 3, 5, 10, 12, 65, 66, 78, 85] [(1, (.int .i64 p1)), (2, (.int .i64 p2)), (3, (.int .i64 p3)), (5, (.pointer (some ⟨g3232, 0, none⟩))), (10, (.pointer (some ⟨g3236, 0, none⟩))), (12, (.pointer (some ⟨g3281, 0, none⟩))), (65, (.int .i64 p4)), (66, (.int .i64 x3340)), (78, (.slice A3337 l3339.length c3338)), (85, (.slice (subA A_p0_Cells c_p0_Cells (w64 ((w64 ((w64 (p2 + x3340)) * p0.Width)) + p1)).toNat 1) ((w64 ((w64 ((w64 ((w64 (p2 + x3340)) * p0.Width)) + p1)) + p3)).toNat - (w64 ((w64 ((w64 (p2 + x3340)) * p0.Width)) + p1)).toNat) (c_p0_Cells - (w64 ((w64 ((w64 (p2 + x3340)) * p0.Width)) + p1)).toNat)))] [(1, (.int .i64 p1)), (2, (.int .i64 p2)), (3, (.int .i64 p3)), (5, (.pointer (some ⟨g3232, 0, none⟩))), (10, (.pointer (some ⟨g3236, 0, none⟩))), (12, (.pointer (some ⟨g3281, 0, none⟩))), (65, (.int .i64 p4)), (66, (.int .i64 x3340)), (78, (.slice A3337 l3339.length c3338)), (85, (.slice (subA A_p0_Cells c_p0_Cells (w64 ((w64 ((w64 (p2 + x3340)) * p0.Width)) + p1)).toNat 1) (cut p0.Cells (w64 ((w64 ((w64 (p2 + x3340)) * p0.Width)) + p1)) (w64 ((w64 ((w64 ((w64 (p2 + x3340)) * p0.Width)) + p1)) + p3))).length (c_p0_Cells - (w64 ((w64 ((w64 (p2 + x3340)) * p0.Width)) + p1)).toNat)))] rfl (by rw [cut_length h3362.1 h3362.2.1 h3362.2.2]) ?_
        have hS3363 := hS3361.cutR 0 rfl h3362.1 h3362.2.1 h3362.2.2
        obtain ⟨h3364, hl3349⟩ := as_some hl3349
        refine WL.append hS3363 3 (d := 86) (tS := 25) (z := (.int .i64 0)) (bytes := 8) (c2 := (c_p0_Cells - (w64 ((w64 ((w64 (p2 + x3340)) * p0.Width)) + p1)).toNat)) rfl (fun fb => by kernel_rfl) (hS3363.rd 0).1 (by kernel_rfl) (by kernel_rfl) rfl (by decide) h3364 (by decide) [0, 1, 2] (by decide) (by decide) (fun A3365 c3366 w3367 hS3368 => ?_)
        refine ⟨trivial, ?_⟩
        refine seg 11 [] [1, 2, 3, 5, 10, 12, 65, 66, 86, 87] [(1, (.int .i64 p1)), (2, (.int .i64 p2)), (3, (.int .i64 p3)), (5, (.pointer (some ⟨g3232, 0, none⟩))), (10, (.pointer (some ⟨g3236, 0, none⟩))), (12, (.pointer (some ⟨g3281, 0, none⟩))), (65, (.int .i64 p4)), (66, (.int .i64 x3340)), (86, (.slice A3365 (l3339 ++ (cut p0.Cells (w64 ((w64 ((w64 (p2 + x3340)) * p0.Width)) + p1)) (w64 ((w64 ((w64 ((w64 (p2 + x3340)) * p0.Width)) + p1)) + p3)))).length c3366)), (87, (.pointer (some ⟨g3281, 2, none⟩)))] [] (fun fb => by kernel_rfl) rfl trivial ?_
        refine WL.store hS3368 3 rfl [(2, (.slice A3365 (l3339 ++ (cut p0.Cells (w64 ((w64 ((w64 (p2 + x3340)) * p0.Width)) + p1)) (w64 ((w64 ((w64 ((w64 (p2 + x3340)) * p0.Width)) + p1)) + p3)))).length c3366))] #[(.int .i64 p3), (.int .i64 p4), (.slice A3365 (l3339 ++ (cut p0.Cells (w64 ((w64 ((w64 (p2 + x3340)) * p0.Width)) + p1)) (w64 ((w64 ((w64 ((w64 (p2 + x3340)) * p0.Width)) + p1)) + p3)))).length c3366)] (fun fb => by kernel_rfl) (by kernel_rfl) rfl [0, 1, 2] (by decide) (by decide) (fun w3369 hS3370 => ?_)
        refine ⟨trivial, ?_⟩
        refine WL.done rfl ?_
        refine WX.blockN (WX.next ?_)
        refine WC.region ?_
        refine seg 2 [] [1, 2, 3, 5, 10, 12, 65, 66] [(1, (.int .i64 p1)), (2, (.int .i64 p2)), (3, (.int .i64 p3)), (5, (.pointer (some ⟨g3232, 0, none⟩))), (10, (.pointer (some ⟨g3236, 0, none⟩))), (12, (.pointer (some ⟨g3281, 0, none⟩))), (65, (.int .i64 p4)), (66, (.int .i64 (w64 (x3340 + 1))))] [] (fun fb => by kernel_rfl) rfl trivial ?_
        refine WL.done rfl ?_
        exact WX.again k3346 (Nat.lt_succ_self _) ((l3339 ++ (cut p0.Cells (w64 ((w64 ((w64 (p2 + x3340)) * p0.Width)) + p1)) (w64 ((w64 ((w64 ((w64 (p2 + x3340)) * p0.Width)) + p1)) + p3))), w64 (x3340 + 1)), A3365, c3366) [1, 2, 3, 5, 10, 12, 65, 66] rfl ⟨(hS3370.subR [1]).sub [2, 3, 0, 1] (by decide), hl3349⟩
      refine WC.condF2 (fun fb => by kernel_rfl) h3350 ?_
      refine WC.exit ?_
      injection hl3349 with hl3349
      exact WX.thenX (WX.thenX (WX.blockHere (WX.to Kx3344 (l3339, A3337, c3338) [10, 12] rfl ⟨(hS3348.subR [0]).sub [1, 2, 3] (by decide), hl3349.symm⟩)))
  rintro ⟨y3374, A3341, c3342⟩ w3371 ⟨hS3372, hq3373⟩
  subst hq3373
  refine WX.next ?_
  refine WC.seq ?_
  refine WC.region ?_
  refine seg 1 [.v (.int .i64 p3), .v (.int .i64 p4), .v (.slice A3341 x3344.length c3342)] [10, 89] [(10, (.pointer (some ⟨g3236, 0, none⟩))), (89, (.agg #[(.int .i64 p3), (.int .i64 p4), (.slice A3341 x3344.length c3342)]))] [.cell ⟨g3281, 0, none⟩ (.int .i64 p3), .cell ⟨g3281, 1, none⟩ (.int .i64 p4), .cell ⟨g3281, 2, none⟩ (.slice A3341 x3344.length c3342)] (fun fb => by kernel_rfl) rfl ⟨hS3372.cell 1 rfl 0 rfl, hS3372.cell 1 rfl 1 rfl, hS3372.cell 1 rfl 2 rfl, trivial⟩ ?_
  refine WL.store hS3372 0 rfl [(0, (.int .i64 p3)), (1, (.int .i64 p4)), (2, (.slice A3341 x3344.length c3342))] #[(.int .i64 p3), (.int .i64 p4), (.slice A3341 x3344.length c3342)] (fun fb => by kernel_rfl) (by kernel_rfl) rfl [1, 2] (by decide) (by decide) (fun w3375 hS3376 => ?_)
  refine ⟨trivial, ?_⟩
  refine seg 3 [] [10, 11] [(10, (.pointer (some ⟨g3236, 0, none⟩))), (11, (.int .i64 0))] [] (fun fb => by kernel_rfl) rfl trivial ?_
  refine WL.done rfl ?_
  refine WX.next ?_
  refine WC.ret ?_
  injection hf with hf
  subst hf
  exact WX.ret_ [.v (.int .i64 p3), .v (.int .i64 p4), .v (.slice A3341 x3344.length c3342)] (.tuple #[(.agg #[(.int .i64 p3), (.int .i64 p4), (.slice A3341 x3344.length c3342)]), (.int .i64 0)]) [.cell ⟨g3236, 0, none⟩ (.int .i64 p3), .cell ⟨g3236, 1, none⟩ (.int .i64 p4), .cell ⟨g3236, 2, none⟩ (.slice A3341 x3344.length c3342)] (fun fb => by kernel_rfl) ⟨hS3376.cell 0 rfl 0 rfl, hS3376.cell 0 rfl 1 rfl, hS3376.cell 0 rfl 2 rfl, trivial⟩ ⟨_, rfl, A3341, c3342, rfl, (hS3376.sub [2] (by decide)).noR⟩
theorem ref01_Same_calls (k : Nat) (p0 : List Int) (p1 : List Int) (A_p0 : Option Addr) (c_p0 : Nat) (A_p1 : Option Addr) (c_p1 : Nat) (r : Bool) (w : World) (hR0 : RO NoS w (rowR encInt A_p0 c_p0 p0)) (hR1 : RO NoS w (rowR encInt A_p1 c_p1 p1)) (hf : ref01_Same k p0 p1 = some r) :
    CallsR Try.prog 31 #[(.slice A_p0 p0.length c_p0), (.slice A_p1 p1.length c_p1)] w (fun v w' => v = (.bool r) ∧ Keeps NoS w w') := by
  have hS : St NoS w w [rowR encInt A_p0 c_p0 p0, rowR encInt A_p1 c_p1 p1] [] := St.init (ro_cons hR0 (ro_cons hR1 (ro_nil _ _)))
  refine enter 26 Try.func31 rfl Try.ntmps31 rfl ?_
  unfold ref01_Same at hf
  refine WC.seq ?_
  refine WC.region ?_
  refine seg 1 [] [0, 1] [(0, (.slice A_p0 p0.length c_p0)), (1, (.slice A_p1 p1.length c_p1))] [] (fun fb => by kernel_rfl) rfl trivial ?_
  refine WL.done rfl ?_
  refine WX.next ?_
  refine WC.seq ?_
  refine WC.seq ?_
  refine WC.region ?_
  refine seg 5 [] [0, 1, 10] [(0, (.slice A_p0 p0.length c_p0)), (1, (.slice A_p1 p1.length c_p1)), (10, (.bool ((p0.length : Int) != (p1.length : Int))))] [] (fun fb => by kernel_rfl) rfl trivial ?_
  refine WL.done rfl ?_
  refine WX.next ?_
  rcases br_some hf with ⟨h3402, hf⟩ | ⟨h3402, hf⟩
  · refine WC.condT2 (fun fb => by kernel_rfl) h3402 ?_
    refine WC.seq ?_
    refine WC.region ?_
    refine seg 1 [] [4] [(4, (.bool false))] [] (fun fb => by kernel_rfl) rfl trivial ?_
    refine WL.done rfl ?_
    refine WX.next ?_
    refine WC.ret ?_
    injection hf with hf
    subst hf
    exact WX.thenR (WX.ret_ [] (.bool false) [] (fun fb => by kernel_rfl) trivial ⟨_, rfl, rfl, hS.keep⟩)
  refine WC.condF2 (fun fb => by kernel_rfl) h3402 ?_
  refine WC.skip ?_
  refine WX.next ?_
  refine WC.seq ?_
  refine WC.seq ?_
  refine WC.region ?_
  refine seg 1 [] [0, 1, 5] [(0, (.slice A_p0 p0.length c_p0)), (1, (.slice A_p1 p1.length c_p1)), (5, (.int .i64 0))] [] (fun fb => by kernel_rfl) rfl trivial ?_
  refine WL.done rfl ?_
  refine WX.next ?_
  obtain ⟨x3425, hx3426, hf⟩ := bind_some hf
  refine WC.cutN (T := Unit) (fun t => []) (fun t w1 => St NoS w w1 [rowR encInt A_p0 c_p0 p0, rowR encInt A_p1 c_p1 p1] [] ∧ x3425 = .inr t) (fun Kx3425 => ?_) ?_
  ·
    refine WC.block ?_
    refine WC.loop (T := Int) (fun t => [(0, (.slice A_p0 p0.length c_p0)), (1, (.slice A_p1 p1.length c_p1)), (5, (.int .i64 t))]) (fun n t w1 => St NoS w w1 [rowR encInt A_p0 c_p0 p0, rowR encInt A_p1 c_p1 p1] [] ∧ ref01_Same.l0 n t p0 p1 = some x3425) k 0 [0, 1, 5] rfl ⟨(hS.subR [0, 1]).sub [] (by decide), hx3426⟩ ?_
    rintro k3427 x3424 w3428 ⟨hS3429, hl3430⟩
    cases k3427 with
    | zero => rw [ref01_Same.l0] at hl3430; cases hl3430
    | succ k3427 =>
      rw [ref01_Same.l0] at hl3430
      refine WC.seq ?_
      refine WC.seq ?_
      refine WC.region ?_
      refine seg 4 [] [0, 1, 5, 14] [(0, (.slice A_p0 p0.length c_p0)), (1, (.slice A_p1 p1.length c_p1)), (5, (.int .i64 x3424)), (14, (.bool (decide (x3424 < (p0.length : Int)))))] [] (fun fb => by kernel_rfl) rfl trivial ?_
      refine WL.done rfl ?_
      refine WX.next ?_
      rcases br_some hl3430 with ⟨h3431, hl3430⟩ | ⟨h3431, hl3430⟩
      · refine WC.condT2 (fun fb => by kernel_rfl) h3431 ?_
        refine WC.skip ?_
        refine WX.next ?_
        refine WC.seq ?_
        refine WC.block ?_
        refine WC.seq ?_
        obtain ⟨h3438, hl3430⟩ := as_some hl3430
        obtain ⟨h3439, hl3430⟩ := as_some hl3430
        refine WC.regionD ([(3, ((adr A_p0).add ((x3424).toNat * 1)), (.int .i64 (rdD p0 x3424 0))), (7, ((adr A_p1).add ((x3424).toNat * 1)), (.int .i64 (rdD p1 x3424 0)))], [0, 1, 2, 3, 4, 5, 6, 7, 8], [[], [], [0, 1], [0, 1, 2], [], [], [4, 5], [4, 5, 6], [0, 1, 2, 3, 4, 5, 6, 7]]) [[0, 1, 2, 3, 4, 5, 6, 7, 8]] (by kernel_rfl) (by kernel_rfl) (NoPanic.seq (NoPanic.block (NoPanic.seq (NoPanic.seq (NoPanic.block (NoPanic.seq (NoPanic.body))))))) ?_
        have hS3435 := hS3429.drew
        revert hS3435
        generalize World.drew w3428 = w3434
        intro hS3435
        refine ⟨⟨rowR.cell (hS3435.rd 0).1 0 h3438.1 h3438.2 0 rfl, rowR.cell (hS3435.rd 1).1 0 h3439.1 h3439.2 0 rfl, trivial⟩, forallC ?_ (forallN)⟩
        refine segF 9 [.v (.int .i64 (rdD p0 x3424 0)), .v (.int .i64 (rdD p1 x3424 0))] [0, 1, 5, 25] [(0, (.slice A_p0 p0.length c_p0)), (1, (.slice A_p1 p1.length c_p1)), (5, (.int .i64 x3424)), (25, (.bool ((rdD p0 x3424 0) != (rdD p1 x3424 0))))] [.idx A_p0 x3424 p0.length, .idx A_p1 x3424 p1.length] [0, 1] [(3, ((adr A_p0).add ((x3424).toNat * 1)), (.int .i64 (rdD p0 x3424 0))), (7, ((adr A_p1).add ((x3424).toNat * 1)), (.int .i64 (rdD p1 x3424 0)))] (fun fb => by kernel_rfl) rfl ⟨rowR.adr (hS3435.rd 0).1 h3438.1 h3438.2, rowR.adr (hS3435.rd 1).1 h3439.1 h3439.2, trivial⟩ rfl ?_
        refine WL.done rfl ?_
        refine WX.next ?_
        rcases br_some hl3430 with ⟨h3440, hl3430⟩ | ⟨h3440, hl3430⟩
        · refine WC.condT2 (fun fb => by kernel_rfl) h3440 ?_
          refine WC.seq ?_
          refine WC.region ?_
          refine seg 1 [] [4] [(4, (.bool false))] [] (fun fb => by kernel_rfl) rfl trivial ?_
          refine WL.done rfl ?_
          refine WX.next ?_
          refine WC.ret ?_
          injection hl3430 with hl3430
          subst hl3430
          injection hf with hf
          subst hf
          exact WX.blockR (WX.thenR (WX.thenR (WX.blockR (WX.thenR (WX.ret_ [] (.bool false) [] (fun fb => by kernel_rfl) trivial ⟨_, rfl, rfl, hS3435.keep⟩)))))
        refine WC.condF2 (fun fb => by kernel_rfl) h3440 ?_
        refine WC.skip ?_
        refine WX.blockN (WX.next ?_)
        refine WC.region ?_
        refine seg 3 [] [0, 1, 5] [(0, (.slice A_p0 p0.length c_p0)), (1, (.slice A_p1 p1.length c_p1)), (5, (.int .i64 (w64 (x3424 + 1))))] [] (fun fb => by kernel_rfl) rfl trivial ?_
        refine WL.done rfl ?_
        exact WX.again k3427 (Nat.lt_succ_self _) (w64 (x3424 + 1)) [0, 1, 5] rfl ⟨(hS3435.subR [0, 1]).sub [] (by decide), hl3430⟩
      refine WC.condF2 (fun fb => by kernel_rfl) h3431 ?_
      refine WC.exit ?_
      injection hl3430 with hl3430
      exact WX.thenX (WX.thenX (WX.blockHere (WX.to Kx3425 () [] rfl ⟨(hS3429.subR [0, 1]).sub [] (by decide), hl3430.symm⟩)))
  rintro y3444 w3441 ⟨hS3442, hq3443⟩
  subst hq3443
  have hf := sum_inr hf
  refine WX.next ?_
  refine WC.seq ?_
  refine WC.region ?_
  refine seg 1 [] [4] [(4, (.bool true))] [] (fun fb => by kernel_rfl) rfl trivial ?_
  refine WL.done rfl ?_
  refine WX.next ?_
  refine WC.ret ?_
  injection hf with hf
  subst hf
  exact WX.ret_ [] (.bool true) [] (fun fb => by kernel_rfl) trivial ⟨_, rfl, rfl, hS3442.keep⟩
theorem ref01_SamePattern_calls (k : Nat) (p0 : Pattern) (p1 : Pattern) (A_p0_Cells : Option Addr) (c_p0_Cells : Nat) (A_p1_Cells : Option Addr) (c_p1_Cells : Nat) (r : Bool) (w : World) (hR0 : RO NoS w (rowR encInt A_p0_Cells c_p0_Cells p0.Cells)) (hR1 : RO NoS w (rowR encInt A_p1_Cells c_p1_Cells p1.Cells)) (hf : ref01_SamePattern k p0 p1 = some r) :
    CallsR Try.prog 14 #[(.agg #[(.int .i64 p0.Width), (.int .i64 p0.Height), (.slice A_p0_Cells p0.Cells.length c_p0_Cells)]), (.agg #[(.int .i64 p1.Width), (.int .i64 p1.Height), (.slice A_p1_Cells p1.Cells.length c_p1_Cells)])] w (fun v w' => v = (.bool r) ∧ Keeps NoS w w') := by
  have hS : St NoS w w [rowR encInt A_p0_Cells c_p0_Cells p0.Cells, rowR encInt A_p1_Cells c_p1_Cells p1.Cells] [] := St.init (ro_cons hR0 (ro_cons hR1 (ro_nil _ _)))
  refine enter 24 Try.func14 rfl Try.ntmps14 rfl ?_
  unfold ref01_SamePattern at hf
  refine WC.seq ?_
  refine WC.region ?_
  refine WL.new hS 2 [] (fun g => (.pointer (some ⟨g, 0, none⟩))) (.cells #[(.int .i64 p0.Width), (.int .i64 p0.Height), (.slice A_p0_Cells p0.Cells.length c_p0_Cells)] 31 (0, 0)) [] (fun fb g => by kernel_rfl) trivial (fun g3392 w3393 hS3394 => ?_)
  refine ⟨trivial, ?_⟩
  refine WL.new hS3394 3 [] (fun g => (.pointer (some ⟨g, 0, none⟩))) (.cells #[(.int .i64 p1.Width), (.int .i64 p1.Height), (.slice A_p1_Cells p1.Cells.length c_p1_Cells)] 31 (0, 0)) [] (fun fb g => by kernel_rfl) trivial (fun g3396 w3397 hS3398 => ?_)
  refine ⟨trivial, ?_⟩
  refine seg 3 [] [2, 3] [(2, (.pointer (some ⟨g3392, 0, none⟩))), (3, (.pointer (some ⟨g3396, 0, none⟩)))] [] (fun fb => by kernel_rfl) rfl trivial ?_
  refine WL.done rfl ?_
  refine WX.next ?_
  refine WC.seq ?_
  refine WC.region ?_
  refine seg 6 [.v (.int .i64 p0.Width), .v (.int .i64 p1.Width)] [2, 3, 10] [(2, (.pointer (some ⟨g3392, 0, none⟩))), (3, (.pointer (some ⟨g3396, 0, none⟩))), (10, (.bool (p0.Width == p1.Width)))] [.cell ⟨g3392, 0, none⟩ (.int .i64 p0.Width), .cell ⟨g3396, 0, none⟩ (.int .i64 p1.Width)] (fun fb => by kernel_rfl) rfl ⟨hS3398.cell 1 rfl 0 rfl, hS3398.cell 0 rfl 0 rfl, trivial⟩ ?_
  refine WL.cutV (T := Bool) 12 (fun t => [(16, (.bool t)), (2, (.pointer (some ⟨g3392, 0, none⟩))), (3, (.pointer (some ⟨g3396, 0, none⟩)))]) (fun t => t = ((p0.Width == p1.Width) && (p0.Height == p1.Height))) (fun K => ?_) ?_
  ·
    rcases Bool.eq_false_or_eq_true (p0.Width == p1.Width) with h3400 | h3400
    ·
      refine WL.setB 10 h3400 rfl ?_
      refine seg 12 [.v (.int .i64 p0.Height), .v (.int .i64 p1.Height)] [2, 3, 16] [(2, (.pointer (some ⟨g3392, 0, none⟩))), (3, (.pointer (some ⟨g3396, 0, none⟩))), (16, (.bool (p0.Height == p1.Height)))] [.cell ⟨g3392, 1, none⟩ (.int .i64 p0.Height), .cell ⟨g3396, 1, none⟩ (.int .i64 p1.Height)] (fun fb => by kernel_rfl) rfl ⟨hS3398.cell 1 rfl 1 rfl, hS3398.cell 0 rfl 1 rfl, trivial⟩ ?_
      exact WL.toV K (p0.Height == p1.Height) [16, 2, 3] rfl (by rw [h3400]; rfl)
    refine WL.setB 10 h3400 rfl ?_
    refine seg 12 [] [2, 3, 16] [(2, (.pointer (some ⟨g3392, 0, none⟩))), (3, (.pointer (some ⟨g3396, 0, none⟩))), (16, (.bool false))] [] (fun fb => by kernel_rfl) rfl trivial ?_
    exact WL.toV K false [16, 2, 3] rfl (by rw [h3400]; rfl)
  rintro b3401 rfl
  refine seg 13 [] [2, 3, 17] [(2, (.pointer (some ⟨g3392, 0, none⟩))), (3, (.pointer (some ⟨g3396, 0, none⟩))), (17, (.bool ((p0.Width == p1.Width) && (p0.Height == p1.Height))))] [] (fun fb => by kernel_rfl) rfl trivial ?_
  obtain ⟨x3452, hx3453, hf⟩ := bind_some hf
  refine WL.cutW (T := Bool) 19 (fun t => [(23, (.bool t))]) (fun t w1 => (St NoS w w1 [rowR encInt A_p0_Cells c_p0_Cells p0.Cells, rowR encInt A_p1_Cells c_p1_Cells p1.Cells] [] ∧ x3452 = t) ∧ CellsOK [] w1) (fun K => ?_) ?_
  ·
    rcases br_some hx3453 with ⟨h3454, hx3453⟩ | ⟨h3454, hx3453⟩
    ·
      refine WL.setB 17 h3454 rfl ?_
      refine seg 17 [.v (.slice A_p0_Cells p0.Cells.length c_p0_Cells), .v (.slice A_p1_Cells p1.Cells.length c_p1_Cells)] [17, 19, 21] [(17, (.bool true)), (19, (.slice A_p0_Cells p0.Cells.length c_p0_Cells)), (21, (.slice A_p1_Cells p1.Cells.length c_p1_Cells))] [.cell ⟨g3392, 2, none⟩ (.slice A_p0_Cells p0.Cells.length c_p0_Cells), .cell ⟨g3396, 2, none⟩ (.slice A_p1_Cells p1.Cells.length c_p1_Cells)] (fun fb => by kernel_rfl) rfl ⟨hS3398.cell 1 rfl 2 rfl, hS3398.cell 0 rfl 2 rfl, trivial⟩ ?_
      obtain ⟨t3455, ht3456, hx3453⟩ := bind_some hx3453
      refine WL.call (some 22) 31 #[(.slice A_p0_Cells p0.Cells.length c_p0_Cells), (.slice A_p1_Cells p1.Cells.length c_p1_Cells)] (fun fb => by kernel_rfl) (ref01_Same_calls _ p0.Cells p1.Cells A_p0_Cells c_p0_Cells A_p1_Cells c_p1_Cells t3455 _ (hS3398.rd 0) (hS3398.rd 1) ht3456) (fun v w3457 hR3458 => ?_)
      obtain ⟨rfl, hk_⟩ := hR3458
      have hS3459 := hS3398.keepN hk_
      refine ⟨trivial, ?_⟩
      refine seg 19 [] [23] [(23, (.bool t3455))] [] (fun fb => by kernel_rfl) rfl trivial ?_
      injection hx3453 with hx3453
      exact WL.to K t3455 [23] rfl ⟨⟨(hS3459.subR [0, 1]).sub [] (by decide), hx3453.symm⟩, trivial⟩
    refine WL.setB 17 h3454 rfl ?_
    refine seg 19 [] [23] [(23, (.bool false))] [] (fun fb => by kernel_rfl) rfl trivial ?_
    injection hx3453 with hx3453
    exact WL.to K false [23] rfl ⟨⟨(hS3398.subR [0, 1]).sub [] (by decide), hx3453.symm⟩, trivial⟩
  rintro y3460 w3462 ⟨⟨hS3463, hq3461⟩, hF3464⟩
  subst hq3461
  refine seg 20 [] [4] [(4, (.bool x3452))] [] (fun fb => by kernel_rfl) rfl trivial ?_
  refine WL.done rfl ?_
  refine WX.next ?_
  refine WC.ret ?_
  injection hf with hf
  subst hf
  exact WX.ret_ [] (.bool x3452) [] (fun fb => by kernel_rfl) trivial ⟨_, rfl, rfl, hS3463.keep⟩
end Gp
