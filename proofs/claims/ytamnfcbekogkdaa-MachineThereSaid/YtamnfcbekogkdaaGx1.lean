/- Walks: each function of the program computes its plain function. -/
import Derived.Test.YtamnfcbekogkdaaGx0
set_option linter.unusedVariables false
set_option linter.unusedSimpArgs false
namespace Gp
open Go Gw Go.Proofs
theorem machine_Run_calls (k : Nat) (p0 : Machine) (p1 : Config) (p2 : Int) (A_p0_Actions : Option Addr) (c_p0_Actions : Nat) (A_p1_Cells : Option Addr) (c_p1_Cells : Nat) (r : Config × Int × Int) (w : World) (hR0 : RO NoS w (rowR enc_Action A_p0_Actions c_p0_Actions p0.Actions)) (hR1 : RO NoS w (rowR encInt A_p1_Cells c_p1_Cells p1.Cells)) (hf : machine_Run k p0 p1 p2 = some r) :
    CallsR Try.prog 20 #[(.agg #[(.int .i64 p0.States), (.int .i64 p0.Symbols), (.slice A_p0_Actions p0.Actions.length c_p0_Actions)]), (.agg #[(.int .i64 p1.State), (.int .i64 p1.At), (.slice A_p1_Cells p1.Cells.length c_p1_Cells)]), (.int .i64 p2)] w (fun v w' => ∃ (A1_ : Option Addr), ∃ (c1_ : Nat), v = (.tuple #[(.agg #[(.int .i64 r.1.State), (.int .i64 r.1.At), (.slice A1_ r.1.Cells.length c1_)]), (.int .i64 r.2.1), (.int .i64 r.2.2)]) ∧ St NoS w w' [] [rowO 3 encInt A1_ c1_ r.1.Cells]) := by
  have hS : St NoS w w [rowR enc_Action A_p0_Actions c_p0_Actions p0.Actions, rowR encInt A_p1_Cells c_p1_Cells p1.Cells] [] := St.init (ro_cons hR0 (ro_cons hR1 (ro_nil _ _)))
  refine enter 41 Try.func20 rfl Try.ntmps20 rfl ?_
  unfold machine_Run at hf
  refine WC.seq ?_
  refine WC.region ?_
  refine WL.new hS 3 [] (fun g => (.pointer (some ⟨g, 0, none⟩))) (.cells #[(.int .i64 p0.States), (.int .i64 p0.Symbols), (.slice A_p0_Actions p0.Actions.length c_p0_Actions)] 24 (0, 0)) [] (fun fb g => by kernel_rfl) trivial (fun g1776 w1777 hS1778 => ?_)
  refine ⟨trivial, ?_⟩
  refine WL.new hS1778 4 [] (fun g => (.pointer (some ⟨g, 0, none⟩))) (.cells #[(.int .i64 p1.State), (.int .i64 p1.At), (.slice A_p1_Cells p1.Cells.length c_p1_Cells)] 27 (0, 0)) [] (fun fb g => by kernel_rfl) trivial (fun g1780 w1781 hS1782 => ?_)
  refine ⟨trivial, ?_⟩
  refine WL.new hS1782 6 [] (fun g => (.pointer (some ⟨g, 0, none⟩))) (.cells #[(.int .i64 0), (.int .i64 0), (.slice none 0 0)] 27 (0, 0)) [] (fun fb g => by kernel_rfl) trivial (fun g1784 w1785 hS1786 => ?_)
  refine ⟨trivial, ?_⟩
  refine seg 5 [] [2, 3, 4, 6] [(2, (.int .i64 p2)), (3, (.pointer (some ⟨g1776, 0, none⟩))), (4, (.pointer (some ⟨g1780, 0, none⟩))), (6, (.pointer (some ⟨g1784, 0, none⟩)))] [] (fun fb => by kernel_rfl) rfl trivial ?_
  refine WL.done rfl ?_
  refine WX.next ?_
  refine WC.seq ?_
  refine WC.seq ?_
  refine WC.region ?_
  refine seg 2 [.v (.int .i64 p0.States), .v (.int .i64 p0.Symbols), .v (.slice A_p0_Actions p0.Actions.length c_p0_Actions), .v (.int .i64 p1.State), .v (.int .i64 p1.At), .v (.slice A_p1_Cells p1.Cells.length c_p1_Cells)] [2, 3, 4, 6, 11, 12] [(2, (.int .i64 p2)), (3, (.pointer (some ⟨g1776, 0, none⟩))), (4, (.pointer (some ⟨g1780, 0, none⟩))), (6, (.pointer (some ⟨g1784, 0, none⟩))), (11, (.agg #[(.int .i64 p0.States), (.int .i64 p0.Symbols), (.slice A_p0_Actions p0.Actions.length c_p0_Actions)])), (12, (.agg #[(.int .i64 p1.State), (.int .i64 p1.At), (.slice A_p1_Cells p1.Cells.length c_p1_Cells)]))] [.cell ⟨g1776, 0, none⟩ (.int .i64 p0.States), .cell ⟨g1776, 1, none⟩ (.int .i64 p0.Symbols), .cell ⟨g1776, 2, none⟩ (.slice A_p0_Actions p0.Actions.length c_p0_Actions), .cell ⟨g1780, 0, none⟩ (.int .i64 p1.State), .cell ⟨g1780, 1, none⟩ (.int .i64 p1.At), .cell ⟨g1780, 2, none⟩ (.slice A_p1_Cells p1.Cells.length c_p1_Cells)] (fun fb => by kernel_rfl) rfl ⟨hS1786.cell 2 rfl 0 rfl, hS1786.cell 2 rfl 1 rfl, hS1786.cell 2 rfl 2 rfl, hS1786.cell 1 rfl 0 rfl, hS1786.cell 1 rfl 1 rfl, hS1786.cell 1 rfl 2 rfl, trivial⟩ ?_
  obtain ⟨t1876, ht1877, hf⟩ := bind_some hf
  refine WL.call (some 13) 18 #[(.agg #[(.int .i64 p0.States), (.int .i64 p0.Symbols), (.slice A_p0_Actions p0.Actions.length c_p0_Actions)]), (.agg #[(.int .i64 p1.State), (.int .i64 p1.At), (.slice A_p1_Cells p1.Cells.length c_p1_Cells)])] (fun fb => by kernel_rfl) (machine_Fits_calls _ p0 p1 A_p0_Actions c_p0_Actions A_p1_Cells c_p1_Cells t1876 _ (hS1786.rd 0) (hS1786.rd 1) ht1877) (fun v w1878 hR1879 => ?_)
  obtain ⟨rfl, hk_⟩ := hR1879
  have hS1880 := hS1786.keepN hk_
  refine ⟨trivial, ?_⟩
  refine seg 4 [] [2, 3, 4, 6, 14] [(2, (.int .i64 p2)), (3, (.pointer (some ⟨g1776, 0, none⟩))), (4, (.pointer (some ⟨g1780, 0, none⟩))), (6, (.pointer (some ⟨g1784, 0, none⟩))), (14, (.bool (!t1876)))] [] (fun fb => by kernel_rfl) rfl trivial ?_
  refine WL.done rfl ?_
  refine WX.next ?_
  rcases br_some hf with ⟨h1881, hf⟩ | ⟨h1881, hf⟩
  · refine WC.condT2 (fun fb => by kernel_rfl) h1881 ?_
    refine WC.seq ?_
    refine WC.region ?_
    refine seg 1 [] [6, 15] [(6, (.pointer (some ⟨g1784, 0, none⟩))), (15, (.agg #[(.int .i64 0), (.int .i64 0), (.slice none 0 0)]))] [] (fun fb => by kernel_rfl) rfl trivial ?_
    refine WL.store hS1880 0 rfl [(0, (.int .i64 0)), (1, (.int .i64 0)), (2, (.slice none 0 0))] #[(.int .i64 0), (.int .i64 0), (.slice none 0 0)] (fun fb => by kernel_rfl) (by kernel_rfl) rfl [1, 2] (by decide) (by decide) (fun w1882 hS1883 => ?_)
    refine ⟨trivial, ?_⟩
    refine seg 4 [] [6, 7, 8] [(6, (.pointer (some ⟨g1784, 0, none⟩))), (7, (.int .i64 0)), (8, (.int .i64 1))] [] (fun fb => by kernel_rfl) rfl trivial ?_
    refine WL.done rfl ?_
    refine WX.next ?_
    refine WC.ret ?_
    have hS1884 := hS1883.nilrow 3 encInt
    injection hf with hf
    subst hf
    exact WX.thenR (WX.ret_ [.v (.int .i64 0), .v (.int .i64 0), .v (.slice none 0 0)] (.tuple #[(.agg #[(.int .i64 0), (.int .i64 0), (.slice none ([] : List Int).length 0)]), (.int .i64 0), (.int .i64 1)]) [.cell ⟨g1784, 0, none⟩ (.int .i64 0), .cell ⟨g1784, 1, none⟩ (.int .i64 0), .cell ⟨g1784, 2, none⟩ (.slice none 0 0)] (fun fb => by kernel_rfl) ⟨hS1883.cell 0 rfl 0 rfl, hS1883.cell 0 rfl 1 rfl, hS1883.cell 0 rfl 2 rfl, trivial⟩ ⟨_, rfl, none, 0, rfl, (hS1884.sub [0] (by decide)).noR⟩)
  refine WC.condF2 (fun fb => by kernel_rfl) h1881 ?_
  refine WC.skip ?_
  refine WX.next ?_
  refine WC.seq ?_
  refine WC.seq ?_
  refine WC.region ?_
  refine seg 3 [] [2, 3, 4, 6, 18] [(2, (.int .i64 p2)), (3, (.pointer (some ⟨g1776, 0, none⟩))), (4, (.pointer (some ⟨g1780, 0, none⟩))), (6, (.pointer (some ⟨g1784, 0, none⟩))), (18, (.bool (decide (p2 < 0))))] [] (fun fb => by kernel_rfl) rfl trivial ?_
  refine WL.cutV (T := Bool) 6 (fun t => [(21, (.bool t)), (2, (.int .i64 p2)), (3, (.pointer (some ⟨g1776, 0, none⟩))), (4, (.pointer (some ⟨g1780, 0, none⟩))), (6, (.pointer (some ⟨g1784, 0, none⟩)))]) (fun t => t = ((decide (p2 < 0)) || (decide (p2 > 100000)))) (fun K => ?_) ?_
  ·
    rcases Bool.eq_false_or_eq_true (decide (p2 < 0)) with h1885 | h1885
    ·
      refine WL.setB 18 h1885 rfl ?_
      refine seg 6 [] [2, 3, 4, 6, 21] [(2, (.int .i64 p2)), (3, (.pointer (some ⟨g1776, 0, none⟩))), (4, (.pointer (some ⟨g1780, 0, none⟩))), (6, (.pointer (some ⟨g1784, 0, none⟩))), (21, (.bool true))] [] (fun fb => by kernel_rfl) rfl trivial ?_
      exact WL.toV K true [21, 2, 3, 4, 6] rfl (by rw [h1885]; rfl)
    refine WL.setB 18 h1885 rfl ?_
    refine seg 6 [] [2, 3, 4, 6, 21] [(2, (.int .i64 p2)), (3, (.pointer (some ⟨g1776, 0, none⟩))), (4, (.pointer (some ⟨g1780, 0, none⟩))), (6, (.pointer (some ⟨g1784, 0, none⟩))), (21, (.bool (decide (p2 > 100000))))] [] (fun fb => by kernel_rfl) rfl trivial ?_
    exact WL.toV K (decide (p2 > 100000)) [21, 2, 3, 4, 6] rfl (by rw [h1885]; rfl)
  rintro b1886 rfl
  refine WL.done rfl ?_
  refine WX.next ?_
  rcases br_some hf with ⟨h1887, hf⟩ | ⟨h1887, hf⟩
  · refine WC.condT2 (fun fb => by kernel_rfl) h1887 ?_
    refine WC.seq ?_
    refine WC.region ?_
    refine seg 1 [] [6, 22] [(6, (.pointer (some ⟨g1784, 0, none⟩))), (22, (.agg #[(.int .i64 0), (.int .i64 0), (.slice none 0 0)]))] [] (fun fb => by kernel_rfl) rfl trivial ?_
    refine WL.store hS1880 0 rfl [(0, (.int .i64 0)), (1, (.int .i64 0)), (2, (.slice none 0 0))] #[(.int .i64 0), (.int .i64 0), (.slice none 0 0)] (fun fb => by kernel_rfl) (by kernel_rfl) rfl [1, 2] (by decide) (by decide) (fun w1888 hS1889 => ?_)
    refine ⟨trivial, ?_⟩
    refine seg 4 [] [6, 7, 8] [(6, (.pointer (some ⟨g1784, 0, none⟩))), (7, (.int .i64 0)), (8, (.int .i64 2))] [] (fun fb => by kernel_rfl) rfl trivial ?_
    refine WL.done rfl ?_
    refine WX.next ?_
    refine WC.ret ?_
    have hS1890 := hS1889.nilrow 3 encInt
    injection hf with hf
    subst hf
    exact WX.thenR (WX.ret_ [.v (.int .i64 0), .v (.int .i64 0), .v (.slice none 0 0)] (.tuple #[(.agg #[(.int .i64 0), (.int .i64 0), (.slice none ([] : List Int).length 0)]), (.int .i64 0), (.int .i64 2)]) [.cell ⟨g1784, 0, none⟩ (.int .i64 0), .cell ⟨g1784, 1, none⟩ (.int .i64 0), .cell ⟨g1784, 2, none⟩ (.slice none 0 0)] (fun fb => by kernel_rfl) ⟨hS1889.cell 0 rfl 0 rfl, hS1889.cell 0 rfl 1 rfl, hS1889.cell 0 rfl 2 rfl, trivial⟩ ⟨_, rfl, none, 0, rfl, (hS1890.sub [0] (by decide)).noR⟩)
  refine WC.condF2 (fun fb => by kernel_rfl) h1887 ?_
  refine WC.skip ?_
  refine WX.next ?_
  refine WC.seq ?_
  refine WC.region ?_
  refine seg 2 [.v (.int .i64 p0.States), .v (.int .i64 p0.Symbols), .v (.slice A_p0_Actions p0.Actions.length c_p0_Actions), .v (.int .i64 p1.State), .v (.int .i64 p1.At), .v (.slice A_p1_Cells p1.Cells.length c_p1_Cells)] [2, 6, 23, 24] [(2, (.int .i64 p2)), (6, (.pointer (some ⟨g1784, 0, none⟩))), (23, (.agg #[(.int .i64 p0.States), (.int .i64 p0.Symbols), (.slice A_p0_Actions p0.Actions.length c_p0_Actions)])), (24, (.agg #[(.int .i64 p1.State), (.int .i64 p1.At), (.slice A_p1_Cells p1.Cells.length c_p1_Cells)]))] [.cell ⟨g1776, 0, none⟩ (.int .i64 p0.States), .cell ⟨g1776, 1, none⟩ (.int .i64 p0.Symbols), .cell ⟨g1776, 2, none⟩ (.slice A_p0_Actions p0.Actions.length c_p0_Actions), .cell ⟨g1780, 0, none⟩ (.int .i64 p1.State), .cell ⟨g1780, 1, none⟩ (.int .i64 p1.At), .cell ⟨g1780, 2, none⟩ (.slice A_p1_Cells p1.Cells.length c_p1_Cells)] (fun fb => by kernel_rfl) rfl ⟨hS1880.cell 2 rfl 0 rfl, hS1880.cell 2 rfl 1 rfl, hS1880.cell 2 rfl 2 rfl, hS1880.cell 1 rfl 0 rfl, hS1880.cell 1 rfl 1 rfl, hS1880.cell 1 rfl 2 rfl, trivial⟩ ?_
  obtain ⟨t1923, ht1924, hf⟩ := bind_some hf
  refine WL.call (some 25) 42 #[(.agg #[(.int .i64 p0.States), (.int .i64 p0.Symbols), (.slice A_p0_Actions p0.Actions.length c_p0_Actions)]), (.agg #[(.int .i64 p1.State), (.int .i64 p1.At), (.slice A_p1_Cells p1.Cells.length c_p1_Cells)])] (fun fb => by kernel_rfl) (machine_begin_calls p0 p1 A_p0_Actions c_p0_Actions A_p1_Cells c_p1_Cells t1923 _ (hS1880.rd 0) (hS1880.rd 1) ht1924) (fun v w1925 hR1926 => ?_)
  obtain ⟨g1928, A1929, c1930, rfl, hk_⟩ := hR1926
  have hS1927 : St NoS w w1925 [rowR enc_Action A_p0_Actions c_p0_Actions p0.Actions, rowR encInt A_p1_Cells c_p1_Cells p1.Cells] [blk g1928 (.cells #[(.int .i64 t1923.m.States), (.int .i64 t1923.m.Symbols), (.slice A_p0_Actions p0.Actions.length c_p0_Actions), (.int .i64 t1923.Config.State), (.int .i64 t1923.Config.At), (.slice A1929 t1923.Config.Cells.length c1930)] 82 (0, 0)), rowO 3 encInt A1929 c1930 t1923.Config.Cells, blk g1784 (.cells #[(.int .i64 0), (.int .i64 0), (.slice none 0 0)] 27 (0, 0)), blk g1780 (.cells #[(.int .i64 p1.State), (.int .i64 p1.At), (.slice A_p1_Cells p1.Cells.length c_p1_Cells)] 27 (0, 0)), blk g1776 (.cells #[(.int .i64 p0.States), (.int .i64 p0.Symbols), (.slice A_p0_Actions p0.Actions.length c_p0_Actions)] 24 (0, 0))] := hS1880.call hk_ [] [0, 1, 2] (fun g hg => hg.elim) (by simp) (by decide)
  refine ⟨trivial, ?_⟩
  refine seg 4 [] [2, 6, 9] [(2, (.int .i64 p2)), (6, (.pointer (some ⟨g1784, 0, none⟩))), (9, (.pointer (some ⟨g1928, 0, none⟩)))] [] (fun fb => by kernel_rfl) rfl trivial ?_
  refine WL.done rfl ?_
  refine WX.next ?_
  refine WC.seq ?_
  refine WC.region ?_
  refine seg 1 [] [2, 6, 9, 10] [(2, (.int .i64 p2)), (6, (.pointer (some ⟨g1784, 0, none⟩))), (9, (.pointer (some ⟨g1928, 0, none⟩))), (10, (.int .i64 0))] [] (fun fb => by kernel_rfl) rfl trivial ?_
  refine WL.done rfl ?_
  refine WX.next ?_
  refine WC.seq ?_
  obtain ⟨x2256, hx2257, hf⟩ := bind_some hf
  refine WC.cutN (T := (Int × Int × Int × Int × (List Int) × Int) × (Option Addr) × Nat) (fun t => [(6, (.pointer (some ⟨g1784, 0, none⟩))), (9, (.pointer (some ⟨g1928, 0, none⟩))), (10, (.int .i64 t.1.2.2.2.2.2))]) (fun t w1 => St NoS w w1 [rowR enc_Action A_p0_Actions c_p0_Actions p0.Actions, rowR encInt A_p1_Cells c_p1_Cells p1.Cells] [blk g1784 (.cells #[(.int .i64 0), (.int .i64 0), (.slice none 0 0)] 27 (0, 0)), blk g1928 (.cells #[(.int .i64 t.1.1), (.int .i64 t.1.2.1), (.slice A_p0_Actions p0.Actions.length c_p0_Actions), (.int .i64 t.1.2.2.1), (.int .i64 t.1.2.2.2.1), (.slice t.2.1 t.1.2.2.2.2.1.length t.2.2)] 82 (0, 0)), rowO 3 encInt t.2.1 t.2.2 t.1.2.2.2.2.1] ∧ x2256 = t.1) (fun Kx2256 => ?_) ?_
  ·
    refine WC.block ?_
    refine WC.loop (T := (Int × Int × Int × Int × (List Int) × Int) × (Option Addr) × Nat) (fun t => [(2, (.int .i64 p2)), (6, (.pointer (some ⟨g1784, 0, none⟩))), (9, (.pointer (some ⟨g1928, 0, none⟩))), (10, (.int .i64 t.1.2.2.2.2.2))]) (fun n t w1 => St NoS w w1 [rowR enc_Action A_p0_Actions c_p0_Actions p0.Actions, rowR encInt A_p1_Cells c_p1_Cells p1.Cells] [blk g1784 (.cells #[(.int .i64 0), (.int .i64 0), (.slice none 0 0)] 27 (0, 0)), blk g1928 (.cells #[(.int .i64 t.1.1), (.int .i64 t.1.2.1), (.slice A_p0_Actions p0.Actions.length c_p0_Actions), (.int .i64 t.1.2.2.1), (.int .i64 t.1.2.2.2.1), (.slice t.2.1 t.1.2.2.2.2.1.length t.2.2)] 82 (0, 0)), rowO 3 encInt t.2.1 t.2.2 t.1.2.2.2.2.1] ∧ machine_Run.l0 n t.1.1 t.1.2.1 t.1.2.2.1 t.1.2.2.2.1 t.1.2.2.2.2.1 t.1.2.2.2.2.2 p0 p2 = some x2256) k ((t1923.m.States, t1923.m.Symbols, t1923.Config.State, t1923.Config.At, t1923.Config.Cells, 0), A1929, c1930) [2, 6, 9, 10] rfl ⟨(hS1927.subR [0, 1]).sub [2, 0, 1] (by decide), hx2257⟩ ?_
    rintro k2258 ⟨⟨x2240, x2241, x2242, x2243, l2246, x2247⟩, A2244, c2245⟩ w2259 ⟨hS2260, hl2261⟩
    cases k2258 with
    | zero => rw [machine_Run.l0] at hl2261; cases hl2261
    | succ k2258 =>
      rw [machine_Run.l0] at hl2261
      refine WC.seq ?_
      refine WC.seq ?_
      refine WC.region ?_
      refine seg 4 [] [2, 6, 9, 10, 29] [(2, (.int .i64 p2)), (6, (.pointer (some ⟨g1784, 0, none⟩))), (9, (.pointer (some ⟨g1928, 0, none⟩))), (10, (.int .i64 x2247)), (29, (.bool (decide (x2247 < p2))))] [] (fun fb => by kernel_rfl) rfl trivial ?_
      obtain ⟨x2277, hx2278, hl2261⟩ := bind_some hl2261
      refine WL.cutW (T := (Int × Int × Int × Int × (List Int) × Bool) × (Option Addr) × Nat) 8 (fun t => [(2, (.int .i64 p2)), (6, (.pointer (some ⟨g1784, 0, none⟩))), (9, (.pointer (some ⟨g1928, 0, none⟩))), (10, (.int .i64 x2247)), (33, (.bool t.1.2.2.2.2.2))]) (fun t w1 => (St NoS w w1 [rowR enc_Action A_p0_Actions c_p0_Actions p0.Actions, rowR encInt A_p1_Cells c_p1_Cells p1.Cells] [blk g1784 (.cells #[(.int .i64 0), (.int .i64 0), (.slice none 0 0)] 27 (0, 0)), blk g1928 (.cells #[(.int .i64 t.1.1), (.int .i64 t.1.2.1), (.slice A_p0_Actions p0.Actions.length c_p0_Actions), (.int .i64 t.1.2.2.1), (.int .i64 t.1.2.2.2.1), (.slice t.2.1 t.1.2.2.2.2.1.length t.2.2)] 82 (0, 0)), rowO 3 encInt t.2.1 t.2.2 t.1.2.2.2.2.1] ∧ x2277 = t.1) ∧ CellsOK [] w1) (fun K => ?_) ?_
      ·
        rcases br_some hx2278 with ⟨h2279, hx2278⟩ | ⟨h2279, hx2278⟩
        ·
          refine WL.setB 29 h2279 rfl ?_
          refine seg 5 [] [2, 6, 9, 10, 29, 30] [(2, (.int .i64 p2)), (6, (.pointer (some ⟨g1784, 0, none⟩))), (9, (.pointer (some ⟨g1928, 0, none⟩))), (10, (.int .i64 x2247)), (29, (.bool true)), (30, (.pointer (some ⟨g1928, 0, none⟩)))] [] (fun fb => by kernel_rfl) rfl trivial ?_
          obtain ⟨t2280, ht2281, hx2278⟩ := bind_some hx2278
          refine WL.call (some 31) 43 #[(.pointer (some ⟨g1928, 0, none⟩))] (fun fb => by kernel_rfl) (machine_runner_step_calls (Runner.mk (Machine.mk x2240 x2241 p0.Actions) (Config.mk x2242 x2243 l2246)) g1928 A_p0_Actions c_p0_Actions A2244 c2245 t2280 _ (hS2260.rdT [1, 2] 0) (hS2260.io [1, 2] (by decide)) ht2281) (fun v w2282 hR2283 => ?_)
          obtain ⟨A2285, c2286, rfl, hk_⟩ := hR2283
          have hS2284 : St NoS w w2282 [rowR enc_Action A_p0_Actions c_p0_Actions p0.Actions, rowR encInt A_p1_Cells c_p1_Cells p1.Cells] [blk g1928 (.cells #[(.int .i64 t2280.2.m.States), (.int .i64 t2280.2.m.Symbols), (.slice A_p0_Actions p0.Actions.length c_p0_Actions), (.int .i64 t2280.2.Config.State), (.int .i64 t2280.2.Config.At), (.slice A2285 t2280.2.Config.Cells.length c2286)] 82 (0, 0)), rowO 3 encInt A2285 c2286 t2280.2.Config.Cells, blk g1784 (.cells #[(.int .i64 0), (.int .i64 0), (.slice none 0 0)] 27 (0, 0))] := hS2260.call hk_ [1, 2] [0] (fun g hg => fpL_sel g hg) (by decide) (by decide)
          refine ⟨trivial, ?_⟩
          refine seg 8 [] [2, 6, 9, 10, 33] [(2, (.int .i64 p2)), (6, (.pointer (some ⟨g1784, 0, none⟩))), (9, (.pointer (some ⟨g1928, 0, none⟩))), (10, (.int .i64 x2247)), (33, (.bool (t2280.1 == 0)))] [] (fun fb => by kernel_rfl) rfl trivial ?_
          injection hx2278 with hx2278
          exact WL.to K ((t2280.2.m.States, t2280.2.m.Symbols, t2280.2.Config.State, t2280.2.Config.At, t2280.2.Config.Cells, t2280.1 == 0), A2285, c2286) [2, 6, 9, 10, 33] rfl ⟨⟨(hS2284.subR [0, 1]).sub [2, 0, 1] (by decide), hx2278.symm⟩, trivial⟩
        refine WL.setB 29 h2279 rfl ?_
        refine seg 8 [] [2, 6, 9, 10, 33] [(2, (.int .i64 p2)), (6, (.pointer (some ⟨g1784, 0, none⟩))), (9, (.pointer (some ⟨g1928, 0, none⟩))), (10, (.int .i64 x2247)), (33, (.bool false))] [] (fun fb => by kernel_rfl) rfl trivial ?_
        injection hx2278 with hx2278
        exact WL.to K ((x2240, x2241, x2242, x2243, l2246, false), A2244, c2245) [2, 6, 9, 10, 33] rfl ⟨⟨(hS2260.subR [0, 1]).sub [0, 1, 2] (by decide), hx2278.symm⟩, trivial⟩
      rintro ⟨y2287, A2273, c2274⟩ w2289 ⟨⟨hS2290, hq2288⟩, hF2291⟩
      subst hq2288
      refine WL.done rfl ?_
      refine WX.next ?_
      rcases br_some hl2261 with ⟨h2292, hl2261⟩ | ⟨h2292, hl2261⟩
      · refine WC.condT2 (fun fb => by kernel_rfl) h2292 ?_
        refine WC.skip ?_
        refine WX.next ?_
        refine WC.block ?_
        refine WC.region ?_
        refine seg 3 [] [2, 6, 9, 10] [(2, (.int .i64 p2)), (6, (.pointer (some ⟨g1784, 0, none⟩))), (9, (.pointer (some ⟨g1928, 0, none⟩))), (10, (.int .i64 (w64 (x2247 + 1))))] [] (fun fb => by kernel_rfl) rfl trivial ?_
        refine WL.done rfl ?_
        exact WX.blockN (WX.again k2258 (Nat.lt_succ_self _) ((x2277.1, x2277.2.1, x2277.2.2.1, x2277.2.2.2.1, x2277.2.2.2.2.1, w64 (x2247 + 1)), A2273, c2274) [2, 6, 9, 10] rfl ⟨(hS2290.subR [0, 1]).sub [0, 1, 2] (by decide), hl2261⟩)
      refine WC.condF2 (fun fb => by kernel_rfl) h2292 ?_
      refine WC.exit ?_
      injection hl2261 with hl2261
      exact WX.thenX (WX.thenX (WX.blockHere (WX.to Kx2256 ((x2277.1, x2277.2.1, x2277.2.2.1, x2277.2.2.2.1, x2277.2.2.2.2.1, x2247), A2273, c2274) [6, 9, 10] rfl ⟨(hS2290.subR [0, 1]).sub [0, 1, 2] (by decide), hl2261.symm⟩)))
  rintro ⟨y2296, A2252, c2253⟩ w2293 ⟨hS2294, hq2295⟩
  subst hq2295
  refine WX.next ?_
  refine WC.seq ?_
  refine WC.region ?_
  refine seg 5 [.v (.int .i64 x2256.2.2.1), .v (.int .i64 x2256.2.2.2.1), .v (.slice A2252 x2256.2.2.2.2.1.length c2253)] [6, 39, 40] [(6, (.pointer (some ⟨g1784, 0, none⟩))), (39, (.agg #[(.int .i64 x2256.2.2.1), (.int .i64 x2256.2.2.2.1), (.slice A2252 x2256.2.2.2.2.1.length c2253)])), (40, (.int .i64 x2256.2.2.2.2.2))] [.cell ⟨g1928, 3, none⟩ (.int .i64 x2256.2.2.1), .cell ⟨g1928, 4, none⟩ (.int .i64 x2256.2.2.2.1), .cell ⟨g1928, 5, none⟩ (.slice A2252 x2256.2.2.2.2.1.length c2253)] (fun fb => by kernel_rfl) rfl ⟨hS2294.cell 1 rfl 3 rfl, hS2294.cell 1 rfl 4 rfl, hS2294.cell 1 rfl 5 rfl, trivial⟩ ?_
  refine WL.store hS2294 0 rfl [(0, (.int .i64 x2256.2.2.1)), (1, (.int .i64 x2256.2.2.2.1)), (2, (.slice A2252 x2256.2.2.2.2.1.length c2253))] #[(.int .i64 x2256.2.2.1), (.int .i64 x2256.2.2.2.1), (.slice A2252 x2256.2.2.2.2.1.length c2253)] (fun fb => by kernel_rfl) (by kernel_rfl) rfl [1, 2] (by decide) (by decide) (fun w2297 hS2298 => ?_)
  refine ⟨trivial, ?_⟩
  refine seg 8 [] [6, 7, 8] [(6, (.pointer (some ⟨g1784, 0, none⟩))), (7, (.int .i64 x2256.2.2.2.2.2)), (8, (.int .i64 0))] [] (fun fb => by kernel_rfl) rfl trivial ?_
  refine WL.done rfl ?_
  refine WX.next ?_
  refine WC.ret ?_
  injection hf with hf
  subst hf
  exact WX.ret_ [.v (.int .i64 x2256.2.2.1), .v (.int .i64 x2256.2.2.2.1), .v (.slice A2252 x2256.2.2.2.2.1.length c2253)] (.tuple #[(.agg #[(.int .i64 x2256.2.2.1), (.int .i64 x2256.2.2.2.1), (.slice A2252 x2256.2.2.2.2.1.length c2253)]), (.int .i64 x2256.2.2.2.2.2), (.int .i64 0)]) [.cell ⟨g1784, 0, none⟩ (.int .i64 x2256.2.2.1), .cell ⟨g1784, 1, none⟩ (.int .i64 x2256.2.2.2.1), .cell ⟨g1784, 2, none⟩ (.slice A2252 x2256.2.2.2.2.1.length c2253)] (fun fb => by kernel_rfl) ⟨hS2298.cell 0 rfl 0 rfl, hS2298.cell 0 rfl 1 rfl, hS2298.cell 0 rfl 2 rfl, trivial⟩ ⟨_, rfl, A2252, c2253, rfl, (hS2298.sub [2] (by decide)).noR⟩
theorem machine_kit_row_calls (k : Nat) (p0 : Kit) (p1 : Runner) (g_p0 : Nat) (A_p0_m_Actions : Option Addr) (c_p0_m_Actions : Nat) (A_p0_set : Option Addr) (c_p0_set : Nat) (A_p0_does : Option Addr) (c_p0_does : Nat) (g_p1 : Nat) (A_p1_m_Actions : Option Addr) (c_p1_m_Actions : Nat) (A_p1_Config_Cells : Option Addr) (c_p1_Config_Cells : Nat) (r : (List Int)) (w : World) (hR0 : RO NoS w (blk g_p0 (.cells #[(.int .i64 p0.m.States), (.int .i64 p0.m.Symbols), (.slice A_p0_m_Actions p0.m.Actions.length c_p0_m_Actions), (.slice A_p0_set p0.set.length c_p0_set), (.slice A_p0_does p0.does.length c_p0_does), (.int .i64 p0.base)] 96 (0, 0)))) (hR1 : RO NoS w (rowR enc_Action A_p0_m_Actions c_p0_m_Actions p0.m.Actions)) (hR2 : RO NoS w (rowR enc_Tile A_p0_set c_p0_set p0.set)) (hR3 : RO NoS w (rowR encInt A_p0_does c_p0_does p0.does)) (hR4 : RO NoS w (blk g_p1 (.cells #[(.int .i64 p1.m.States), (.int .i64 p1.m.Symbols), (.slice A_p1_m_Actions p1.m.Actions.length c_p1_m_Actions), (.int .i64 p1.Config.State), (.int .i64 p1.Config.At), (.slice A_p1_Config_Cells p1.Config.Cells.length c_p1_Config_Cells)] 82 (0, 0)))) (hR5 : RO NoS w (rowR enc_Action A_p1_m_Actions c_p1_m_Actions p1.m.Actions)) (hR6 : RO NoS w (rowR encInt A_p1_Config_Cells c_p1_Config_Cells p1.Config.Cells)) (hf : machine_kit_row k p0 p1 = some r) :
    CallsR Try.prog 44 #[(.pointer (some ⟨g_p0, 0, none⟩)), (.pointer (some ⟨g_p1, 0, none⟩))] w (fun v w' => ∃ (A1_ : Option Addr), ∃ (c1_ : Nat), v = (.slice A1_ r.length c1_) ∧ St NoS w w' [] [rowO 3 encInt A1_ c1_ r]) := by
  have hS : St NoS w w [blk g_p0 (.cells #[(.int .i64 p0.m.States), (.int .i64 p0.m.Symbols), (.slice A_p0_m_Actions p0.m.Actions.length c_p0_m_Actions), (.slice A_p0_set p0.set.length c_p0_set), (.slice A_p0_does p0.does.length c_p0_does), (.int .i64 p0.base)] 96 (0, 0)), rowR enc_Action A_p0_m_Actions c_p0_m_Actions p0.m.Actions, rowR enc_Tile A_p0_set c_p0_set p0.set, rowR encInt A_p0_does c_p0_does p0.does, blk g_p1 (.cells #[(.int .i64 p1.m.States), (.int .i64 p1.m.Symbols), (.slice A_p1_m_Actions p1.m.Actions.length c_p1_m_Actions), (.int .i64 p1.Config.State), (.int .i64 p1.Config.At), (.slice A_p1_Config_Cells p1.Config.Cells.length c_p1_Config_Cells)] 82 (0, 0)), rowR enc_Action A_p1_m_Actions c_p1_m_Actions p1.m.Actions, rowR encInt A_p1_Config_Cells c_p1_Config_Cells p1.Config.Cells] [] := St.init (ro_cons hR0 (ro_cons hR1 (ro_cons hR2 (ro_cons hR3 (ro_cons hR4 (ro_cons hR5 (ro_cons hR6 (ro_nil _ _))))))))
  refine enter 87 Try.func44 rfl Try.ntmps44 rfl ?_
  unfold machine_kit_row at hf
  refine WC.seq ?_
  refine WC.region ?_
  refine seg 1 [] [0, 1] [(0, (.pointer (some ⟨g_p0, 0, none⟩))), (1, (.pointer (some ⟨g_p1, 0, none⟩)))] [] (fun fb => by kernel_rfl) rfl trivial ?_
  refine WL.done rfl ?_
  refine WX.next ?_
  refine WC.seq ?_
  refine WC.region ?_
  refine seg 1 [] [0, 1, 5] [(0, (.pointer (some ⟨g_p0, 0, none⟩))), (1, (.pointer (some ⟨g_p1, 0, none⟩))), (5, (.slice none 0 0))] [] (fun fb => by kernel_rfl) rfl trivial ?_
  refine WL.done rfl ?_
  refine WX.next ?_
  refine WC.seq ?_
  obtain ⟨x2483, hx2484, hf⟩ := bind_some hf
  refine WC.cutN (T := (Int × Int × Int) × Nat) (fun t => [(0, (.pointer (some ⟨g_p0, 0, none⟩))), (1, (.pointer (some ⟨g_p1, 0, none⟩))), (5, (.slice none 0 0)), (6, (.pointer (some ⟨t.2, 0, none⟩)))]) (fun t w1 => St NoS w w1 [blk g_p0 (.cells #[(.int .i64 p0.m.States), (.int .i64 p0.m.Symbols), (.slice A_p0_m_Actions p0.m.Actions.length c_p0_m_Actions), (.slice A_p0_set p0.set.length c_p0_set), (.slice A_p0_does p0.does.length c_p0_does), (.int .i64 p0.base)] 96 (0, 0)), rowR enc_Action A_p0_m_Actions c_p0_m_Actions p0.m.Actions, rowR enc_Tile A_p0_set c_p0_set p0.set, rowR encInt A_p0_does c_p0_does p0.does, blk g_p1 (.cells #[(.int .i64 p1.m.States), (.int .i64 p1.m.Symbols), (.slice A_p1_m_Actions p1.m.Actions.length c_p1_m_Actions), (.int .i64 p1.Config.State), (.int .i64 p1.Config.At), (.slice A_p1_Config_Cells p1.Config.Cells.length c_p1_Config_Cells)] 82 (0, 0)), rowR enc_Action A_p1_m_Actions c_p1_m_Actions p1.m.Actions, rowR encInt A_p1_Config_Cells c_p1_Config_Cells p1.Config.Cells] [blk t.2 (.cells #[(.int .i64 t.1.1), (.int .i64 t.1.2.1), (.int .i64 t.1.2.2)] 88 (0, 0))] ∧ x2483 = t.1) (fun Kx2483 => ?_) ?_
  ·
    refine WC.regionD ([(4, ⟨g_p1, 2, none⟩, (.slice A_p1_m_Actions p1.m.Actions.length c_p1_m_Actions))], [0, 1, 2, 3, 4, 5, 7], [[], [0], [0, 1], [0, 1, 2], [0, 1, 2, 3], [], [5], [0, 1, 2, 3, 4, 5, 6], [0, 1, 2, 3, 4, 5, 6, 7], [], [0, 1, 2, 3, 4, 5, 6, 7, 8, 9]]) [[0, 1, 2, 3, 4, 5, 6, 7, 8, 9, 10], [0, 1, 2, 3, 4, 5, 6, 7, 9, 8, 10], [0, 1, 2, 3, 4, 5, 9, 6, 7, 8, 10]] (by kernel_rfl) (by kernel_rfl) (NoPanic.seq (NoPanic.body)) ?_
    have hS2486 := hS.drew
    revert hS2486
    generalize World.drew w = w2485
    intro hS2486
    refine ⟨⟨blk_cell (hS2486.rd 4).1 2 rfl, trivial⟩, forallC ?_ (forallC ?_ (forallC ?_ (forallN)))⟩
    ·
      refine segF 6 [.v (.slice A_p1_m_Actions p1.m.Actions.length c_p1_m_Actions)] [0, 1, 5, 15, 16] [(0, (.pointer (some ⟨g_p0, 0, none⟩))), (1, (.pointer (some ⟨g_p1, 0, none⟩))), (5, (.slice none 0 0)), (15, (.slice A_p1_m_Actions p1.m.Actions.length c_p1_m_Actions)), (16, (.pointer (some ⟨g_p1, 0, none⟩)))] [] [0] [(4, ⟨g_p1, 2, none⟩, (.slice A_p1_m_Actions p1.m.Actions.length c_p1_m_Actions))] (fun fb => by kernel_rfl) rfl trivial rfl ?_
      obtain ⟨t2487, ht2488, hx2484⟩ := bind_some hx2484
      refine WL.call (some 17) 63 #[(.pointer (some ⟨g_p1, 0, none⟩))] (fun fb => by kernel_rfl) (machine_runner_does_calls p1 g_p1 A_p1_m_Actions c_p1_m_Actions A_p1_Config_Cells c_p1_Config_Cells t2487 _ (hS2486.rd 4) (hS2486.rd 5) (hS2486.rd 6) ht2488) (fun v w2489 hR2490 => ?_)
      obtain ⟨rfl, hk_⟩ := hR2490
      have hS2491 := hS2486.keepN hk_
      refine ⟨⟨blk_cell (hS2491.rd 4).1 2 rfl, trivial⟩, ?_⟩
      obtain ⟨h2492, hx2484⟩ := as_some hx2484
      refine seg 9 [.v (.int .i64 ((rdD p1.m.Actions t2487 z_Action).Write)), .v (.int .i64 ((rdD p1.m.Actions t2487 z_Action).Move)), .v (.int .i64 ((rdD p1.m.Actions t2487 z_Action).Next))] [0, 1, 5, 19] [(0, (.pointer (some ⟨g_p0, 0, none⟩))), (1, (.pointer (some ⟨g_p1, 0, none⟩))), (5, (.slice none 0 0)), (19, (.agg #[(.int .i64 ((rdD p1.m.Actions t2487 z_Action).Write)), (.int .i64 ((rdD p1.m.Actions t2487 z_Action).Move)), (.int .i64 ((rdD p1.m.Actions t2487 z_Action).Next))]))] [.idx A_p1_m_Actions t2487 p1.m.Actions.length, .cell ((adr A_p1_m_Actions).add ((t2487).toNat * 3)) (.int .i64 ((rdD p1.m.Actions t2487 z_Action).Write)), .cell (((adr A_p1_m_Actions).add ((t2487).toNat * 3)).add 1) (.int .i64 ((rdD p1.m.Actions t2487 z_Action).Move)), .cell (((adr A_p1_m_Actions).add ((t2487).toNat * 3)).add 2) (.int .i64 ((rdD p1.m.Actions t2487 z_Action).Next))] (fun fb => by kernel_rfl) rfl ⟨rowR.adr (hS2491.rd 5).1 h2492.1 h2492.2, rowR.cell (hS2491.rd 5).1 z_Action h2492.1 h2492.2 0 rfl, rowR.cell (hS2491.rd 5).1 z_Action h2492.1 h2492.2 1 rfl, rowR.cell (hS2491.rd 5).1 z_Action h2492.1 h2492.2 2 rfl, trivial⟩ ?_
      refine WL.new hS2491 6 [] (fun g => (.pointer (some ⟨g, 0, none⟩))) (.cells #[(.int .i64 0), (.int .i64 0), (.int .i64 0)] 88 (0, 0)) [] (fun fb g => by kernel_rfl) trivial (fun g2493 w2494 hS2495 => ?_)
      refine ⟨⟨blk_cell (hS2495.rd 4).1 2 rfl, trivial⟩, ?_⟩
      refine WL.store hS2495 0 rfl [(0, (.int .i64 ((rdD p1.m.Actions t2487 z_Action).Write))), (1, (.int .i64 ((rdD p1.m.Actions t2487 z_Action).Move))), (2, (.int .i64 ((rdD p1.m.Actions t2487 z_Action).Next)))] #[(.int .i64 ((rdD p1.m.Actions t2487 z_Action).Write)), (.int .i64 ((rdD p1.m.Actions t2487 z_Action).Move)), (.int .i64 ((rdD p1.m.Actions t2487 z_Action).Next))] (fun fb => by kernel_rfl) (by kernel_rfl) rfl [] (by decide) (by decide) (fun w2497 hS2498 => ?_)
      refine ⟨trivial, ?_⟩
      refine WL.done rfl ?_
      injection hx2484 with hx2484
      exact WX.to Kx2483 (((rdD p1.m.Actions t2487 z_Action).Write, (rdD p1.m.Actions t2487 z_Action).Move, (rdD p1.m.Actions t2487 z_Action).Next), g2493) [0, 1, 5, 6] rfl ⟨(hS2498.subR [0, 1, 2, 3, 4, 5, 6]).sub [0] (by decide), hx2484.symm⟩
    ·
      refine segF 6 [.v (.slice A_p1_m_Actions p1.m.Actions.length c_p1_m_Actions)] [0, 1, 5, 15, 16] [(0, (.pointer (some ⟨g_p0, 0, none⟩))), (1, (.pointer (some ⟨g_p1, 0, none⟩))), (5, (.slice none 0 0)), (15, (.slice A_p1_m_Actions p1.m.Actions.length c_p1_m_Actions)), (16, (.pointer (some ⟨g_p1, 0, none⟩)))] [] [0] [(4, ⟨g_p1, 2, none⟩, (.slice A_p1_m_Actions p1.m.Actions.length c_p1_m_Actions))] (fun fb => by kernel_rfl) rfl trivial rfl ?_
      obtain ⟨t2499, ht2500, hx2484⟩ := bind_some hx2484
      refine WL.call (some 17) 63 #[(.pointer (some ⟨g_p1, 0, none⟩))] (fun fb => by kernel_rfl) (machine_runner_does_calls p1 g_p1 A_p1_m_Actions c_p1_m_Actions A_p1_Config_Cells c_p1_Config_Cells t2499 _ (hS2486.rd 4) (hS2486.rd 5) (hS2486.rd 6) ht2500) (fun v w2501 hR2502 => ?_)
      obtain ⟨rfl, hk_⟩ := hR2502
      have hS2503 := hS2486.keepN hk_
      refine ⟨⟨blk_cell (hS2503.rd 4).1 2 rfl, trivial⟩, ?_⟩
      obtain ⟨h2504, hx2484⟩ := as_some hx2484
      refine seg 8 [] [0, 1, 5, 18] [(0, (.pointer (some ⟨g_p0, 0, none⟩))), (1, (.pointer (some ⟨g_p1, 0, none⟩))), (5, (.slice none 0 0)), (18, (.pointer (some ((adr A_p1_m_Actions).add ((t2499).toNat * 3)))))] [.idx A_p1_m_Actions t2499 p1.m.Actions.length] (fun fb => by kernel_rfl) rfl ⟨rowR.adr (hS2503.rd 5).1 h2504.1 h2504.2, trivial⟩ ?_
      refine WL.new hS2503 6 [] (fun g => (.pointer (some ⟨g, 0, none⟩))) (.cells #[(.int .i64 0), (.int .i64 0), (.int .i64 0)] 88 (0, 0)) [] (fun fb g => by kernel_rfl) trivial (fun g2505 w2506 hS2507 => ?_)
      refine ⟨⟨blk_cell (hS2507.rd 4).1 2 rfl, trivial⟩, ?_⟩
      refine seg 10 [.v (.int .i64 ((rdD p1.m.Actions t2499 z_Action).Write)), .v (.int .i64 ((rdD p1.m.Actions t2499 z_Action).Move)), .v (.int .i64 ((rdD p1.m.Actions t2499 z_Action).Next))] [0, 1, 5, 6, 19] [(0, (.pointer (some ⟨g_p0, 0, none⟩))), (1, (.pointer (some ⟨g_p1, 0, none⟩))), (5, (.slice none 0 0)), (6, (.pointer (some ⟨g2505, 0, none⟩))), (19, (.agg #[(.int .i64 ((rdD p1.m.Actions t2499 z_Action).Write)), (.int .i64 ((rdD p1.m.Actions t2499 z_Action).Move)), (.int .i64 ((rdD p1.m.Actions t2499 z_Action).Next))]))] [.cell ((adr A_p1_m_Actions).add ((t2499).toNat * 3)) (.int .i64 ((rdD p1.m.Actions t2499 z_Action).Write)), .cell (((adr A_p1_m_Actions).add ((t2499).toNat * 3)).add 1) (.int .i64 ((rdD p1.m.Actions t2499 z_Action).Move)), .cell (((adr A_p1_m_Actions).add ((t2499).toNat * 3)).add 2) (.int .i64 ((rdD p1.m.Actions t2499 z_Action).Next))] (fun fb => by kernel_rfl) rfl ⟨rowR.cell (hS2507.rd 5).1 z_Action h2504.1 h2504.2 0 rfl, rowR.cell (hS2507.rd 5).1 z_Action h2504.1 h2504.2 1 rfl, rowR.cell (hS2507.rd 5).1 z_Action h2504.1 h2504.2 2 rfl, trivial⟩ ?_
      refine WL.store hS2507 0 rfl [(0, (.int .i64 ((rdD p1.m.Actions t2499 z_Action).Write))), (1, (.int .i64 ((rdD p1.m.Actions t2499 z_Action).Move))), (2, (.int .i64 ((rdD p1.m.Actions t2499 z_Action).Next)))] #[(.int .i64 ((rdD p1.m.Actions t2499 z_Action).Write)), (.int .i64 ((rdD p1.m.Actions t2499 z_Action).Move)), (.int .i64 ((rdD p1.m.Actions t2499 z_Action).Next))] (fun fb => by kernel_rfl) (by kernel_rfl) rfl [] (by decide) (by decide) (fun w2509 hS2510 => ?_)
      refine ⟨trivial, ?_⟩
      refine WL.done rfl ?_
      injection hx2484 with hx2484
      exact WX.to Kx2483 (((rdD p1.m.Actions t2499 z_Action).Write, (rdD p1.m.Actions t2499 z_Action).Move, (rdD p1.m.Actions t2499 z_Action).Next), g2505) [0, 1, 5, 6] rfl ⟨(hS2510.subR [0, 1, 2, 3, 4, 5, 6]).sub [0] (by decide), hx2484.symm⟩
    refine segF 6 [.v (.slice A_p1_m_Actions p1.m.Actions.length c_p1_m_Actions)] [0, 1, 5, 15, 16] [(0, (.pointer (some ⟨g_p0, 0, none⟩))), (1, (.pointer (some ⟨g_p1, 0, none⟩))), (5, (.slice none 0 0)), (15, (.slice A_p1_m_Actions p1.m.Actions.length c_p1_m_Actions)), (16, (.pointer (some ⟨g_p1, 0, none⟩)))] [] [0] [(4, ⟨g_p1, 2, none⟩, (.slice A_p1_m_Actions p1.m.Actions.length c_p1_m_Actions))] (fun fb => by kernel_rfl) rfl trivial rfl ?_
    refine WL.new hS2486 6 [] (fun g => (.pointer (some ⟨g, 0, none⟩))) (.cells #[(.int .i64 0), (.int .i64 0), (.int .i64 0)] 88 (0, 0)) [] (fun fb g => by kernel_rfl) trivial (fun g2511 w2512 hS2513 => ?_)
    refine ⟨⟨blk_cell (hS2513.rd 4).1 2 rfl, trivial⟩, ?_⟩
    obtain ⟨t2515, ht2516, hx2484⟩ := bind_some hx2484
    refine WL.call (some 17) 63 #[(.pointer (some ⟨g_p1, 0, none⟩))] (fun fb => by kernel_rfl) (machine_runner_does_calls p1 g_p1 A_p1_m_Actions c_p1_m_Actions A_p1_Config_Cells c_p1_Config_Cells t2515 _ (hS2513.rd 4) (hS2513.rd 5) (hS2513.rd 6) ht2516) (fun v w2517 hR2518 => ?_)
    obtain ⟨rfl, hk_⟩ := hR2518
    have hS2519 := hS2513.keepN hk_
    refine ⟨⟨blk_cell (hS2519.rd 4).1 2 rfl, trivial⟩, ?_⟩
    obtain ⟨h2520, hx2484⟩ := as_some hx2484
    refine seg 10 [.v (.int .i64 ((rdD p1.m.Actions t2515 z_Action).Write)), .v (.int .i64 ((rdD p1.m.Actions t2515 z_Action).Move)), .v (.int .i64 ((rdD p1.m.Actions t2515 z_Action).Next))] [0, 1, 5, 6, 19] [(0, (.pointer (some ⟨g_p0, 0, none⟩))), (1, (.pointer (some ⟨g_p1, 0, none⟩))), (5, (.slice none 0 0)), (6, (.pointer (some ⟨g2511, 0, none⟩))), (19, (.agg #[(.int .i64 ((rdD p1.m.Actions t2515 z_Action).Write)), (.int .i64 ((rdD p1.m.Actions t2515 z_Action).Move)), (.int .i64 ((rdD p1.m.Actions t2515 z_Action).Next))]))] [.idx A_p1_m_Actions t2515 p1.m.Actions.length, .cell ((adr A_p1_m_Actions).add ((t2515).toNat * 3)) (.int .i64 ((rdD p1.m.Actions t2515 z_Action).Write)), .cell (((adr A_p1_m_Actions).add ((t2515).toNat * 3)).add 1) (.int .i64 ((rdD p1.m.Actions t2515 z_Action).Move)), .cell (((adr A_p1_m_Actions).add ((t2515).toNat * 3)).add 2) (.int .i64 ((rdD p1.m.Actions t2515 z_Action).Next))] (fun fb => by kernel_rfl) rfl ⟨rowR.adr (hS2519.rd 5).1 h2520.1 h2520.2, rowR.cell (hS2519.rd 5).1 z_Action h2520.1 h2520.2 0 rfl, rowR.cell (hS2519.rd 5).1 z_Action h2520.1 h2520.2 1 rfl, rowR.cell (hS2519.rd 5).1 z_Action h2520.1 h2520.2 2 rfl, trivial⟩ ?_
    refine WL.store hS2519 0 rfl [(0, (.int .i64 ((rdD p1.m.Actions t2515 z_Action).Write))), (1, (.int .i64 ((rdD p1.m.Actions t2515 z_Action).Move))), (2, (.int .i64 ((rdD p1.m.Actions t2515 z_Action).Next)))] #[(.int .i64 ((rdD p1.m.Actions t2515 z_Action).Write)), (.int .i64 ((rdD p1.m.Actions t2515 z_Action).Move)), (.int .i64 ((rdD p1.m.Actions t2515 z_Action).Next))] (fun fb => by kernel_rfl) (by kernel_rfl) rfl [] (by decide) (by decide) (fun w2521 hS2522 => ?_)
    refine ⟨trivial, ?_⟩
    refine WL.done rfl ?_
    injection hx2484 with hx2484
    exact WX.to Kx2483 (((rdD p1.m.Actions t2515 z_Action).Write, (rdD p1.m.Actions t2515 z_Action).Move, (rdD p1.m.Actions t2515 z_Action).Next), g2511) [0, 1, 5, 6] rfl ⟨(hS2522.subR [0, 1, 2, 3, 4, 5, 6]).sub [0] (by decide), hx2484.symm⟩
  rintro ⟨y2526, g2479⟩ w2523 ⟨hS2524, hq2525⟩
  subst hq2525
  refine WX.next ?_
  refine WC.seq ?_
  refine WC.regionD ([(4, ⟨g_p1, 4, none⟩, (.int .i64 p1.Config.At)), (6, ⟨g2479, 1, none⟩, (.int .i64 x2483.2.1))], [0, 1, 2, 3, 4, 5, 6, 7, 8, 9, 10], [[], [0], [0, 1], [0, 1, 2], [0, 1, 2, 3], [], [5], [5, 6], [0, 1, 2, 3, 4, 5, 6, 7], [0, 1, 2, 3, 4, 5, 6, 7, 8], [0, 1, 2, 3, 4, 5, 6, 7, 8, 9]]) [[0, 1, 2, 3, 4, 5, 6, 7, 8, 9, 10]] (by kernel_rfl) (by kernel_rfl) (NoPanic.seq (NoPanic.body)) ?_
  have hS2528 := hS2524.drew
  revert hS2528
  generalize World.drew w2523 = w2527
  intro hS2528
  refine ⟨⟨blk_cell (hS2528.rd 4).1 4 rfl, hS2528.cell 0 rfl 1 rfl, trivial⟩, forallC ?_ (forallN)⟩
  refine segF 11 [.v (.int .i64 p1.Config.At), .v (.int .i64 x2483.2.1)] [0, 1, 5, 6, 7] [(0, (.pointer (some ⟨g_p0, 0, none⟩))), (1, (.pointer (some ⟨g_p1, 0, none⟩))), (5, (.slice none 0 0)), (6, (.pointer (some ⟨g2479, 0, none⟩))), (7, (.int .i64 (w64 ((w64 (p1.Config.At + (w64 (2 * x2483.2.1)))) - 1))))] [] [0, 1] [(4, ⟨g_p1, 4, none⟩, (.int .i64 p1.Config.At)), (6, ⟨g2479, 1, none⟩, (.int .i64 x2483.2.1))] (fun fb => by kernel_rfl) rfl trivial rfl ?_
  refine WL.done rfl ?_
  refine WX.next ?_
  refine WC.seq ?_
  refine WC.seq ?_
  refine WC.region ?_
  refine seg 7 [.v (.slice A_p1_Config_Cells p1.Config.Cells.length c_p1_Config_Cells)] [0, 1, 5, 6, 7, 34, 35, 36] [(0, (.pointer (some ⟨g_p0, 0, none⟩))), (1, (.pointer (some ⟨g_p1, 0, none⟩))), (5, (.slice none 0 0)), (6, (.pointer (some ⟨g2479, 0, none⟩))), (7, (.int .i64 (w64 ((w64 (p1.Config.At + (w64 (2 * x2483.2.1)))) - 1)))), (34, (.slice A_p1_Config_Cells p1.Config.Cells.length c_p1_Config_Cells)), (35, (.int .i64 (p1.Config.Cells.length : Int))), (36, (.int .i64 0))] [.cell ⟨g_p1, 5, none⟩ (.slice A_p1_Config_Cells p1.Config.Cells.length c_p1_Config_Cells)] (fun fb => by kernel_rfl) rfl ⟨blk_cell (hS2528.rd 4).1 5 rfl, trivial⟩ ?_
  refine WL.done rfl ?_
  refine WX.next ?_
  have hS2685 := hS2528.nilrow 3 encInt
  obtain ⟨x2693, hx2694, hf⟩ := bind_some hf
  refine WC.cutN (T := (List Int) × (Option Addr) × Nat) (fun t => [(5, (.slice t.2.1 t.1.length t.2.2))]) (fun t w1 => St NoS w w1 [blk g_p0 (.cells #[(.int .i64 p0.m.States), (.int .i64 p0.m.Symbols), (.slice A_p0_m_Actions p0.m.Actions.length c_p0_m_Actions), (.slice A_p0_set p0.set.length c_p0_set), (.slice A_p0_does p0.does.length c_p0_does), (.int .i64 p0.base)] 96 (0, 0)), rowR enc_Action A_p0_m_Actions c_p0_m_Actions p0.m.Actions, rowR enc_Tile A_p0_set c_p0_set p0.set, rowR encInt A_p0_does c_p0_does p0.does, blk g_p1 (.cells #[(.int .i64 p1.m.States), (.int .i64 p1.m.Symbols), (.slice A_p1_m_Actions p1.m.Actions.length c_p1_m_Actions), (.int .i64 p1.Config.State), (.int .i64 p1.Config.At), (.slice A_p1_Config_Cells p1.Config.Cells.length c_p1_Config_Cells)] 82 (0, 0)), rowR enc_Action A_p1_m_Actions c_p1_m_Actions p1.m.Actions, rowR encInt A_p1_Config_Cells c_p1_Config_Cells p1.Config.Cells] [rowO 3 encInt t.2.1 t.2.2 t.1] ∧ x2693 = t.1) (fun Kx2693 => ?_) ?_
  ·
    refine WC.block ?_
    refine WC.loop (T := ((List Int) × Int) × (Option Addr) × Nat) (fun t => [(0, (.pointer (some ⟨g_p0, 0, none⟩))), (1, (.pointer (some ⟨g_p1, 0, none⟩))), (5, (.slice t.2.1 t.1.1.length t.2.2)), (6, (.pointer (some ⟨g2479, 0, none⟩))), (7, (.int .i64 (w64 ((w64 (p1.Config.At + (w64 (2 * x2483.2.1)))) - 1)))), (34, (.slice A_p1_Config_Cells p1.Config.Cells.length c_p1_Config_Cells)), (35, (.int .i64 (p1.Config.Cells.length : Int))), (36, (.int .i64 t.1.2))]) (fun n t w1 => St NoS w w1 [blk g_p0 (.cells #[(.int .i64 p0.m.States), (.int .i64 p0.m.Symbols), (.slice A_p0_m_Actions p0.m.Actions.length c_p0_m_Actions), (.slice A_p0_set p0.set.length c_p0_set), (.slice A_p0_does p0.does.length c_p0_does), (.int .i64 p0.base)] 96 (0, 0)), rowR enc_Action A_p0_m_Actions c_p0_m_Actions p0.m.Actions, rowR enc_Tile A_p0_set c_p0_set p0.set, rowR encInt A_p0_does c_p0_does p0.does, blk g_p1 (.cells #[(.int .i64 p1.m.States), (.int .i64 p1.m.Symbols), (.slice A_p1_m_Actions p1.m.Actions.length c_p1_m_Actions), (.int .i64 p1.Config.State), (.int .i64 p1.Config.At), (.slice A_p1_Config_Cells p1.Config.Cells.length c_p1_Config_Cells)] 82 (0, 0)), rowR enc_Action A_p1_m_Actions c_p1_m_Actions p1.m.Actions, rowR encInt A_p1_Config_Cells c_p1_Config_Cells p1.Config.Cells] [rowO 3 encInt t.2.1 t.2.2 t.1.1, blk g2479 (.cells #[(.int .i64 x2483.1), (.int .i64 x2483.2.1), (.int .i64 x2483.2.2)] 88 (0, 0))] ∧ machine_kit_row.l0 n t.1.1 t.1.2 p0 p1 x2483 = some x2693) k ((([] : List Int), 0), none, 0) [0, 1, 5, 6, 7, 34, 35, 36] rfl ⟨(hS2685.subR [0, 1, 2, 3, 4, 5, 6]).sub [0, 1] (by decide), hx2694⟩ ?_
    rintro k2695 ⟨⟨l2688, x2689⟩, A2686, c2687⟩ w2696 ⟨hS2697, hl2698⟩
    cases k2695 with
    | zero => rw [machine_kit_row.l0] at hl2698; cases hl2698
    | succ k2695 =>
      rw [machine_kit_row.l0] at hl2698
      refine WC.seq ?_
      refine WC.region ?_
      refine seg 1 [] [0, 1, 5, 6, 7, 34, 35, 36, 37] [(0, (.pointer (some ⟨g_p0, 0, none⟩))), (1, (.pointer (some ⟨g_p1, 0, none⟩))), (5, (.slice A2686 l2688.length c2687)), (6, (.pointer (some ⟨g2479, 0, none⟩))), (7, (.int .i64 (w64 ((w64 (p1.Config.At + (w64 (2 * x2483.2.1)))) - 1)))), (34, (.slice A_p1_Config_Cells p1.Config.Cells.length c_p1_Config_Cells)), (35, (.int .i64 (p1.Config.Cells.length : Int))), (36, (.int .i64 x2689)), (37, (.bool (decide (x2689 < (p1.Config.Cells.length : Int)))))] [] (fun fb => by kernel_rfl) rfl trivial ?_
      refine WL.done rfl ?_
      refine WX.next ?_
      refine WC.seq ?_
      rcases br_some hl2698 with ⟨h2699, hl2698⟩ | ⟨h2699, hl2698⟩
      · refine WC.condT2 (fun fb => by kernel_rfl) h2699 ?_
        refine WC.skip ?_
        refine WX.next ?_
        refine WC.seq ?_
        refine WC.block ?_
        refine WC.seq ?_
        refine WC.region ?_
        refine seg 1 [] [0, 1, 5, 6, 7, 34, 35, 36, 38] [(0, (.pointer (some ⟨g_p0, 0, none⟩))), (1, (.pointer (some ⟨g_p1, 0, none⟩))), (5, (.slice A2686 l2688.length c2687)), (6, (.pointer (some ⟨g2479, 0, none⟩))), (7, (.int .i64 (w64 ((w64 (p1.Config.At + (w64 (2 * x2483.2.1)))) - 1)))), (34, (.slice A_p1_Config_Cells p1.Config.Cells.length c_p1_Config_Cells)), (35, (.int .i64 (p1.Config.Cells.length : Int))), (36, (.int .i64 x2689)), (38, (.int .i64 x2689))] [] (fun fb => by kernel_rfl) rfl trivial ?_
        obtain ⟨h2700, hl2698⟩ := as_some hl2698
        refine seg 5 [.v (.int .i64 (rdD p1.Config.Cells x2689 0))] [0, 1, 5, 6, 7, 8, 9, 34, 35, 36] [(0, (.pointer (some ⟨g_p0, 0, none⟩))), (1, (.pointer (some ⟨g_p1, 0, none⟩))), (5, (.slice A2686 l2688.length c2687)), (6, (.pointer (some ⟨g2479, 0, none⟩))), (7, (.int .i64 (w64 ((w64 (p1.Config.At + (w64 (2 * x2483.2.1)))) - 1)))), (8, (.int .i64 x2689)), (9, (.int .i64 (rdD p1.Config.Cells x2689 0))), (34, (.slice A_p1_Config_Cells p1.Config.Cells.length c_p1_Config_Cells)), (35, (.int .i64 (p1.Config.Cells.length : Int))), (36, (.int .i64 x2689))] [.idx A_p1_Config_Cells x2689 p1.Config.Cells.length, .cell ((adr A_p1_Config_Cells).add ((x2689).toNat * 1)) (.int .i64 (rdD p1.Config.Cells x2689 0))] (fun fb => by kernel_rfl) rfl ⟨rowR.adr (hS2697.rd 6).1 h2700.1 h2700.2, rowR.cell (hS2697.rd 6).1 0 h2700.1 h2700.2 0 rfl, trivial⟩ ?_
        refine WL.done rfl ?_
        refine WX.next ?_
        refine WC.seq ?_
        refine WC.region ?_
        refine seg 2 [] [0, 1, 5, 6, 7, 8, 9, 10, 34, 35, 36] [(0, (.pointer (some ⟨g_p0, 0, none⟩))), (1, (.pointer (some ⟨g_p1, 0, none⟩))), (5, (.slice A2686 l2688.length c2687)), (6, (.pointer (some ⟨g2479, 0, none⟩))), (7, (.int .i64 (w64 ((w64 (p1.Config.At + (w64 (2 * x2483.2.1)))) - 1)))), (8, (.int .i64 x2689)), (9, (.int .i64 (rdD p1.Config.Cells x2689 0))), (10, (.int .i64 (rdD p1.Config.Cells x2689 0))), (34, (.slice A_p1_Config_Cells p1.Config.Cells.length c_p1_Config_Cells)), (35, (.int .i64 (p1.Config.Cells.length : Int))), (36, (.int .i64 x2689))] [] (fun fb => by kernel_rfl) rfl trivial ?_
        refine WL.done rfl ?_
        refine WX.next ?_
        refine WC.seq ?_
        refine WC.seq ?_
        refine WC.region ?_
        refine seg 1 [] [0, 1, 5, 6, 7, 9, 10, 34, 35, 36, 42] [(0, (.pointer (some ⟨g_p0, 0, none⟩))), (1, (.pointer (some ⟨g_p1, 0, none⟩))), (5, (.slice A2686 l2688.length c2687)), (6, (.pointer (some ⟨g2479, 0, none⟩))), (7, (.int .i64 (w64 ((w64 (p1.Config.At + (w64 (2 * x2483.2.1)))) - 1)))), (9, (.int .i64 (rdD p1.Config.Cells x2689 0))), (10, (.int .i64 (rdD p1.Config.Cells x2689 0))), (34, (.slice A_p1_Config_Cells p1.Config.Cells.length c_p1_Config_Cells)), (35, (.int .i64 (p1.Config.Cells.length : Int))), (36, (.int .i64 x2689)), (42, (.int .i64 x2689))] [] (fun fb => by kernel_rfl) rfl trivial ?_
        refine WL.done rfl ?_
        refine WX.next ?_
        refine WC.block ?_
        refine WC.seq ?_
        refine WC.region ?_
        refine seg 7 [.v (.int .i64 p1.Config.At)] [0, 1, 5, 6, 7, 9, 10, 34, 35, 36, 42, 43] [(0, (.pointer (some ⟨g_p0, 0, none⟩))), (1, (.pointer (some ⟨g_p1, 0, none⟩))), (5, (.slice A2686 l2688.length c2687)), (6, (.pointer (some ⟨g2479, 0, none⟩))), (7, (.int .i64 (w64 ((w64 (p1.Config.At + (w64 (2 * x2483.2.1)))) - 1)))), (9, (.int .i64 (rdD p1.Config.Cells x2689 0))), (10, (.int .i64 (rdD p1.Config.Cells x2689 0))), (34, (.slice A_p1_Config_Cells p1.Config.Cells.length c_p1_Config_Cells)), (35, (.int .i64 (p1.Config.Cells.length : Int))), (36, (.int .i64 x2689)), (42, (.int .i64 x2689)), (43, (.bool (x2689 == p1.Config.At)))] [.cell ⟨g_p1, 4, none⟩ (.int .i64 p1.Config.At)] (fun fb => by kernel_rfl) rfl ⟨blk_cell (hS2697.rd 4).1 4 rfl, trivial⟩ ?_
        refine WL.done rfl ?_
        refine WX.next ?_
        obtain ⟨x2730, hx2731, hl2698⟩ := bind_some hl2698
        refine WC.cutN (T := Int) (fun t => [(0, (.pointer (some ⟨g_p0, 0, none⟩))), (1, (.pointer (some ⟨g_p1, 0, none⟩))), (5, (.slice A2686 l2688.length c2687)), (6, (.pointer (some ⟨g2479, 0, none⟩))), (7, (.int .i64 (w64 ((w64 (p1.Config.At + (w64 (2 * x2483.2.1)))) - 1)))), (10, (.int .i64 t)), (34, (.slice A_p1_Config_Cells p1.Config.Cells.length c_p1_Config_Cells)), (35, (.int .i64 (p1.Config.Cells.length : Int))), (36, (.int .i64 x2689))]) (fun t w1 => St NoS w w1 [blk g_p0 (.cells #[(.int .i64 p0.m.States), (.int .i64 p0.m.Symbols), (.slice A_p0_m_Actions p0.m.Actions.length c_p0_m_Actions), (.slice A_p0_set p0.set.length c_p0_set), (.slice A_p0_does p0.does.length c_p0_does), (.int .i64 p0.base)] 96 (0, 0)), rowR enc_Action A_p0_m_Actions c_p0_m_Actions p0.m.Actions, rowR enc_Tile A_p0_set c_p0_set p0.set, rowR encInt A_p0_does c_p0_does p0.does, blk g_p1 (.cells #[(.int .i64 p1.m.States), (.int .i64 p1.m.Symbols), (.slice A_p1_m_Actions p1.m.Actions.length c_p1_m_Actions), (.int .i64 p1.Config.State), (.int .i64 p1.Config.At), (.slice A_p1_Config_Cells p1.Config.Cells.length c_p1_Config_Cells)] 82 (0, 0)), rowR enc_Action A_p1_m_Actions c_p1_m_Actions p1.m.Actions, rowR encInt A_p1_Config_Cells c_p1_Config_Cells p1.Config.Cells] [rowO 3 encInt A2686 c2687 l2688, blk g2479 (.cells #[(.int .i64 x2483.1), (.int .i64 x2483.2.1), (.int .i64 x2483.2.2)] 88 (0, 0))] ∧ x2730 = t) (fun Kx2730 => ?_) ?_
        ·
          rcases br_some hx2731 with ⟨h2732, hx2731⟩ | ⟨h2732, hx2731⟩
          · refine WC.condT2 (fun fb => by kernel_rfl) h2732 ?_
            refine WC.regionD ([(3, ⟨g_p0, 4, none⟩, (.slice A_p0_does p0.does.length c_p0_does))], [0, 1, 2, 3, 4, 6, 8], [[], [0], [0, 1], [0, 1, 2], [], [4], [0, 1, 2, 3, 4, 5], [0, 1, 2, 3, 4, 5, 6], [0, 1, 2, 3, 4, 5, 6, 7]]) [[0, 1, 2, 3, 4, 5, 6, 7, 8]] (by kernel_rfl) (by kernel_rfl) (NoPanic.block (NoPanic.seq (NoPanic.block (NoPanic.seq (NoPanic.seq (NoPanic.block (NoPanic.seq (NoPanic.body)))))))) ?_
            have hS2740 := hS2697.drew
            revert hS2740
            generalize World.drew w2696 = w2739
            intro hS2740
            refine ⟨⟨blk_cell (hS2740.rd 0).1 4 rfl, trivial⟩, forallC ?_ (forallN)⟩
            refine segF 5 [.v (.slice A_p0_does p0.does.length c_p0_does)] [0, 1, 5, 6, 7, 34, 35, 36, 53, 54] [(0, (.pointer (some ⟨g_p0, 0, none⟩))), (1, (.pointer (some ⟨g_p1, 0, none⟩))), (5, (.slice A2686 l2688.length c2687)), (6, (.pointer (some ⟨g2479, 0, none⟩))), (7, (.int .i64 (w64 ((w64 (p1.Config.At + (w64 (2 * x2483.2.1)))) - 1)))), (34, (.slice A_p1_Config_Cells p1.Config.Cells.length c_p1_Config_Cells)), (35, (.int .i64 (p1.Config.Cells.length : Int))), (36, (.int .i64 x2689)), (53, (.slice A_p0_does p0.does.length c_p0_does)), (54, (.pointer (some ⟨g_p1, 0, none⟩)))] [] [0] [(3, ⟨g_p0, 4, none⟩, (.slice A_p0_does p0.does.length c_p0_does))] (fun fb => by kernel_rfl) rfl trivial rfl ?_
            obtain ⟨t2741, ht2742, hx2731⟩ := bind_some hx2731
            refine WL.call (some 55) 63 #[(.pointer (some ⟨g_p1, 0, none⟩))] (fun fb => by kernel_rfl) (machine_runner_does_calls p1 g_p1 A_p1_m_Actions c_p1_m_Actions A_p1_Config_Cells c_p1_Config_Cells t2741 _ (hS2740.rd 4) (hS2740.rd 5) (hS2740.rd 6) ht2742) (fun v w2743 hR2744 => ?_)
            obtain ⟨rfl, hk_⟩ := hR2744
            have hS2745 := hS2740.keepN hk_
            refine ⟨⟨blk_cell (hS2745.rd 0).1 4 rfl, trivial⟩, ?_⟩
            obtain ⟨h2746, hx2731⟩ := as_some hx2731
            refine seg 9 [.v (.int .i64 (rdD p0.does t2741 0))] [0, 1, 5, 6, 7, 10, 34, 35, 36] [(0, (.pointer (some ⟨g_p0, 0, none⟩))), (1, (.pointer (some ⟨g_p1, 0, none⟩))), (5, (.slice A2686 l2688.length c2687)), (6, (.pointer (some ⟨g2479, 0, none⟩))), (7, (.int .i64 (w64 ((w64 (p1.Config.At + (w64 (2 * x2483.2.1)))) - 1)))), (10, (.int .i64 (rdD p0.does t2741 0))), (34, (.slice A_p1_Config_Cells p1.Config.Cells.length c_p1_Config_Cells)), (35, (.int .i64 (p1.Config.Cells.length : Int))), (36, (.int .i64 x2689))] [.idx A_p0_does t2741 p0.does.length, .cell ((adr A_p0_does).add ((t2741).toNat * 1)) (.int .i64 (rdD p0.does t2741 0))] (fun fb => by kernel_rfl) rfl ⟨rowR.adr (hS2745.rd 3).1 h2746.1 h2746.2, rowR.cell (hS2745.rd 3).1 0 h2746.1 h2746.2 0 rfl, trivial⟩ ?_
            refine WL.done rfl ?_
            injection hx2731 with hx2731
            exact WX.to Kx2730 (rdD p0.does t2741 0) [0, 1, 5, 6, 7, 10, 34, 35, 36] rfl ⟨(hS2745.subR [0, 1, 2, 3, 4, 5, 6]).sub [0, 1] (by decide), hx2731.symm⟩
          refine WC.condF2 (fun fb => by kernel_rfl) h2732 ?_
          refine WC.seq ?_
          refine WC.region ?_
          refine seg 3 [] [0, 1, 5, 6, 7, 9, 10, 34, 35, 36, 58] [(0, (.pointer (some ⟨g_p0, 0, none⟩))), (1, (.pointer (some ⟨g_p1, 0, none⟩))), (5, (.slice A2686 l2688.length c2687)), (6, (.pointer (some ⟨g2479, 0, none⟩))), (7, (.int .i64 (w64 ((w64 (p1.Config.At + (w64 (2 * x2483.2.1)))) - 1)))), (9, (.int .i64 (rdD p1.Config.Cells x2689 0))), (10, (.int .i64 (rdD p1.Config.Cells x2689 0))), (34, (.slice A_p1_Config_Cells p1.Config.Cells.length c_p1_Config_Cells)), (35, (.int .i64 (p1.Config.Cells.length : Int))), (36, (.int .i64 x2689)), (58, (.bool (x2689 == (w64 ((w64 (p1.Config.At + (w64 (2 * x2483.2.1)))) - 1)))))] [] (fun fb => by kernel_rfl) rfl trivial ?_
          refine WL.done rfl ?_
          refine WX.next ?_
          obtain ⟨x2751, hx2752, hx2731⟩ := bind_some hx2731
          refine WC.cutN (T := Int) (fun t => [(0, (.pointer (some ⟨g_p0, 0, none⟩))), (1, (.pointer (some ⟨g_p1, 0, none⟩))), (5, (.slice A2686 l2688.length c2687)), (6, (.pointer (some ⟨g2479, 0, none⟩))), (7, (.int .i64 (w64 ((w64 (p1.Config.At + (w64 (2 * x2483.2.1)))) - 1)))), (10, (.int .i64 t)), (34, (.slice A_p1_Config_Cells p1.Config.Cells.length c_p1_Config_Cells)), (35, (.int .i64 (p1.Config.Cells.length : Int))), (36, (.int .i64 x2689))]) (fun t w1 => St NoS w w1 [blk g_p0 (.cells #[(.int .i64 p0.m.States), (.int .i64 p0.m.Symbols), (.slice A_p0_m_Actions p0.m.Actions.length c_p0_m_Actions), (.slice A_p0_set p0.set.length c_p0_set), (.slice A_p0_does p0.does.length c_p0_does), (.int .i64 p0.base)] 96 (0, 0)), rowR enc_Action A_p0_m_Actions c_p0_m_Actions p0.m.Actions, rowR enc_Tile A_p0_set c_p0_set p0.set, rowR encInt A_p0_does c_p0_does p0.does, blk g_p1 (.cells #[(.int .i64 p1.m.States), (.int .i64 p1.m.Symbols), (.slice A_p1_m_Actions p1.m.Actions.length c_p1_m_Actions), (.int .i64 p1.Config.State), (.int .i64 p1.Config.At), (.slice A_p1_Config_Cells p1.Config.Cells.length c_p1_Config_Cells)] 82 (0, 0)), rowR enc_Action A_p1_m_Actions c_p1_m_Actions p1.m.Actions, rowR encInt A_p1_Config_Cells c_p1_Config_Cells p1.Config.Cells] [rowO 3 encInt A2686 c2687 l2688, blk g2479 (.cells #[(.int .i64 x2483.1), (.int .i64 x2483.2.1), (.int .i64 x2483.2.2)] 88 (0, 0))] ∧ x2751 = t) (fun Kx2751 => ?_) ?_
          ·
            rcases br_some hx2752 with ⟨h2753, hx2752⟩ | ⟨h2753, hx2752⟩
            · refine WC.condT2 (fun fb => by kernel_rfl) h2753 ?_
              refine WC.regionD ([(3, ⟨g_p0, 5, none⟩, (.int .i64 p0.base)), (5, ⟨g2479, 2, none⟩, (.int .i64 x2483.2.2)), (10, ⟨g_p1, 1, none⟩, (.int .i64 p1.m.Symbols)), (18, ⟨g2479, 1, none⟩, (.int .i64 x2483.2.1))], [0, 1, 2, 3, 4, 5, 6, 7, 8, 9, 10, 11, 12, 13, 14, 15, 16, 17, 18, 19, 20], [[], [0], [0, 1], [0, 1, 2], [], [4], [], [6], [6, 7], [6, 7, 8], [6, 7, 8, 9], [4, 5, 6, 7, 8, 9, 10], [], [4, 5, 6, 7, 8, 9, 10, 11, 12], [4, 5, 6, 7, 8, 9, 10, 11, 12, 13], [0, 1, 2, 3, 4, 5, 6, 7, 8, 9, 10, 11, 12, 13, 14], [0, 1, 2, 3, 4, 5, 6, 7, 8, 9, 10, 11, 12, 13, 14, 15], [], [17], [0, 1, 2, 3, 4, 5, 6, 7, 8, 9, 10, 11, 12, 13, 14, 15, 16, 17, 18], [0, 1, 2, 3, 4, 5, 6, 7, 8, 9, 10, 11, 12, 13, 14, 15, 16, 17, 18, 19]]) [[0, 1, 2, 3, 4, 5, 6, 7, 8, 9, 10, 11, 12, 13, 14, 15, 16, 17, 18, 19, 20]] (by kernel_rfl) (by kernel_rfl) (NoPanic.block (NoPanic.seq (NoPanic.block (NoPanic.seq (NoPanic.seq (NoPanic.block (NoPanic.seq (NoPanic.body)))))))) ?_
              have hS2755 := hS2697.drew
              revert hS2755
              generalize World.drew w2696 = w2754
              intro hS2755
              refine ⟨⟨blk_cell (hS2755.rd 0).1 5 rfl, hS2755.cell 1 rfl 2 rfl, blk_cell (hS2755.rd 4).1 1 rfl, hS2755.cell 1 rfl 1 rfl, trivial⟩, forallC ?_ (forallN)⟩
              refine segF 21 [.v (.int .i64 p0.base), .v (.int .i64 x2483.2.2), .v (.int .i64 p1.m.Symbols), .v (.int .i64 x2483.2.1)] [0, 1, 5, 6, 7, 10, 34, 35, 36] [(0, (.pointer (some ⟨g_p0, 0, none⟩))), (1, (.pointer (some ⟨g_p1, 0, none⟩))), (5, (.slice A2686 l2688.length c2687)), (6, (.pointer (some ⟨g2479, 0, none⟩))), (7, (.int .i64 (w64 ((w64 (p1.Config.At + (w64 (2 * x2483.2.1)))) - 1)))), (10, (.int .i64 (w64 ((w64 ((w64 (p0.base + (w64 (2 * (w64 ((w64 (x2483.2.2 * p1.m.Symbols)) + (rdD p1.Config.Cells x2689 0))))))) + 1)) - x2483.2.1)))), (34, (.slice A_p1_Config_Cells p1.Config.Cells.length c_p1_Config_Cells)), (35, (.int .i64 (p1.Config.Cells.length : Int))), (36, (.int .i64 x2689))] [] [0, 1, 2, 3] [(3, ⟨g_p0, 5, none⟩, (.int .i64 p0.base)), (5, ⟨g2479, 2, none⟩, (.int .i64 x2483.2.2)), (10, ⟨g_p1, 1, none⟩, (.int .i64 p1.m.Symbols)), (18, ⟨g2479, 1, none⟩, (.int .i64 x2483.2.1))] (fun fb => by kernel_rfl) rfl trivial rfl ?_
              refine WL.done rfl ?_
              injection hx2752 with hx2752
              exact WX.to Kx2751 (w64 ((w64 ((w64 (p0.base + (w64 (2 * (w64 ((w64 (x2483.2.2 * p1.m.Symbols)) + (rdD p1.Config.Cells x2689 0))))))) + 1)) - x2483.2.1)) [0, 1, 5, 6, 7, 10, 34, 35, 36] rfl ⟨(hS2755.subR [0, 1, 2, 3, 4, 5, 6]).sub [0, 1] (by decide), hx2752.symm⟩
            refine WC.condF2 (fun fb => by kernel_rfl) h2753 ?_
            refine WC.skip ?_
            injection hx2752 with hx2752
            exact WX.to Kx2751 (rdD p1.Config.Cells x2689 0) [0, 1, 5, 6, 7, 10, 34, 35, 36] rfl ⟨(hS2697.subR [0, 1, 2, 3, 4, 5, 6]).sub [0, 1] (by decide), hx2752.symm⟩
          rintro y2759 w2756 ⟨hS2757, hq2758⟩
          subst hq2758
          injection hx2731 with hx2731
          exact WX.to Kx2730 x2751 [0, 1, 5, 6, 7, 10, 34, 35, 36] rfl ⟨(hS2757.subR [0, 1, 2, 3, 4, 5, 6]).sub [0, 1] (by decide), hx2731.symm⟩
        rintro y2763 w2760 ⟨hS2761, hq2762⟩
        subst hq2762
        refine WX.blockN (WX.next ?_)
        refine WC.region ?_
        refine seg 2 [] [0, 1, 6, 7, 34, 35, 36, 81, 82] [(0, (.pointer (some ⟨g_p0, 0, none⟩))), (1, (.pointer (some ⟨g_p1, 0, none⟩))), (6, (.pointer (some ⟨g2479, 0, none⟩))), (7, (.int .i64 (w64 ((w64 (p1.Config.At + (w64 (2 * x2483.2.1)))) - 1)))), (34, (.slice A_p1_Config_Cells p1.Config.Cells.length c_p1_Config_Cells)), (35, (.int .i64 (p1.Config.Cells.length : Int))), (36, (.int .i64 x2689)), (81, (.slice A2686 l2688.length c2687)), (82, (.int .i64 x2730))] [] (fun fb => by kernel_rfl) rfl trivial ?_
        refine WL.new hS2761 83 [] (fun g => (.slice (some ⟨g, 0, none⟩) 1 1)) (.cells #[(.int .i64 x2730)] 3 (0, 0)) [] (fun fb g => by kernel_rfl) trivial (fun g2764 w2765 hS2766 => ?_)
        refine ⟨trivial, ?_⟩
        have hS2768 : St NoS w w2765 [blk g_p0 (.cells #[(.int .i64 p0.m.States), (.int .i64 p0.m.Symbols), (.slice A_p0_m_Actions p0.m.Actions.length c_p0_m_Actions), (.slice A_p0_set p0.set.length c_p0_set), (.slice A_p0_does p0.does.length c_p0_does), (.int .i64 p0.base)] 96 (0, 0)), rowR enc_Action A_p0_m_Actions c_p0_m_Actions p0.m.Actions, rowR enc_Tile A_p0_set c_p0_set p0.set, rowR encInt A_p0_does c_p0_does p0.does, blk g_p1 (.cells #[(.int .i64 p1.m.States), (.int .i64 p1.m.Symbols), (.slice A_p1_m_Actions p1.m.Actions.length c_p1_m_Actions), (.int .i64 p1.Config.State), (.int .i64 p1.Config.At), (.slice A_p1_Config_Cells p1.Config.Cells.length c_p1_Config_Cells)] 82 (0, 0)), rowR enc_Action A_p1_m_Actions c_p1_m_Actions p1.m.Actions, rowR encInt A_p1_Config_Cells c_p1_Config_Cells p1.Config.Cells] [rowO 3 encInt (some ⟨g2764, 0, none⟩) 1 [x2730], rowO 3 encInt A2686 c2687 l2688, blk g2479 (.cells #[(.int .i64 x2483.1), (.int .i64 x2483.2.1), (.int .i64 x2483.2.2)] 88 (0, 0))] := hS2766.map1 0 _ (fun h => rowO.ofBlk h rfl (Nat.le_of_ble_eq_true (by kernel_rfl))) (fun _ h => by obtain ⟨_, h1, h2⟩ := h; injection h1 with h1; subst h1; exact h2) [1, 2] (by decide) (by decide)
        obtain ⟨h2769, hl2698⟩ := as_some hl2698
        refine WL.append hS2768 1 (d := 84) (tS := 25) (z := (.int .i64 0)) (bytes := 8) (c2 := 1) rfl (fun fb => by kernel_rfl) (rowO.rd (hS2768.own 0).1) (by kernel_rfl) (by kernel_rfl) rfl (by decide) h2769 (by decide) [0, 2] (by decide) (by decide) (fun A2770 c2771 w2772 hS2773 => ?_)
        refine ⟨trivial, ?_⟩
        refine seg 5 [] [0, 1, 5, 6, 7, 34, 35, 36] [(0, (.pointer (some ⟨g_p0, 0, none⟩))), (1, (.pointer (some ⟨g_p1, 0, none⟩))), (5, (.slice A2770 (l2688 ++ [x2730]).length c2771)), (6, (.pointer (some ⟨g2479, 0, none⟩))), (7, (.int .i64 (w64 ((w64 (p1.Config.At + (w64 (2 * x2483.2.1)))) - 1)))), (34, (.slice A_p1_Config_Cells p1.Config.Cells.length c_p1_Config_Cells)), (35, (.int .i64 (p1.Config.Cells.length : Int))), (36, (.int .i64 x2689))] [] (fun fb => by kernel_rfl) rfl trivial ?_
        refine WL.done rfl ?_
        refine WX.blockN (WX.next ?_)
        refine WC.region ?_
        refine seg 2 [] [0, 1, 5, 6, 7, 34, 35, 36] [(0, (.pointer (some ⟨g_p0, 0, none⟩))), (1, (.pointer (some ⟨g_p1, 0, none⟩))), (5, (.slice A2770 (l2688 ++ [x2730]).length c2771)), (6, (.pointer (some ⟨g2479, 0, none⟩))), (7, (.int .i64 (w64 ((w64 (p1.Config.At + (w64 (2 * x2483.2.1)))) - 1)))), (34, (.slice A_p1_Config_Cells p1.Config.Cells.length c_p1_Config_Cells)), (35, (.int .i64 (p1.Config.Cells.length : Int))), (36, (.int .i64 (w64 (x2689 + 1))))] [] (fun fb => by kernel_rfl) rfl trivial ?_
        refine WL.done rfl ?_
        exact WX.again k2695 (Nat.lt_succ_self _) ((l2688 ++ [x2730], w64 (x2689 + 1)), A2770, c2771) [0, 1, 5, 6, 7, 34, 35, 36] rfl ⟨(hS2773.subR [0, 1, 2, 3, 4, 5, 6]).sub [0, 2] (by decide), hl2698⟩
      refine WC.condF2 (fun fb => by kernel_rfl) h2699 ?_
      refine WC.exit ?_
      injection hl2698 with hl2698
      exact WX.thenX (WX.thenX (WX.blockHere (WX.to Kx2693 (l2688, A2686, c2687) [5] rfl ⟨(hS2697.subR [0, 1, 2, 3, 4, 5, 6]).sub [0] (by decide), hl2698.symm⟩)))
  rintro ⟨y2777, A2690, c2691⟩ w2774 ⟨hS2775, hq2776⟩
  subst hq2776
  refine WX.next ?_
  refine WC.seq ?_
  refine WC.region ?_
  refine seg 2 [] [4] [(4, (.slice A2690 x2693.length c2691))] [] (fun fb => by kernel_rfl) rfl trivial ?_
  refine WL.done rfl ?_
  refine WX.next ?_
  refine WC.ret ?_
  injection hf with hf
  subst hf
  exact WX.ret_ [] (.slice A2690 x2693.length c2691) [] (fun fb => by kernel_rfl) trivial ⟨_, rfl, A2690, c2691, rfl, (hS2775.sub [0] (by decide)).noR⟩
theorem machine_Picture_calls (k : Nat) (p0 : Machine) (p1 : Config) (p2 : Int) (A_p0_Actions : Option Addr) (c_p0_Actions : Nat) (A_p1_Cells : Option Addr) (c_p1_Cells : Nat) (r : Pattern × Int) (w : World) (hR0 : RO NoS w (rowR enc_Action A_p0_Actions c_p0_Actions p0.Actions)) (hR1 : RO NoS w (rowR encInt A_p1_Cells c_p1_Cells p1.Cells)) (hf : machine_Picture k p0 p1 p2 = some r) :
    CallsR Try.prog 12 #[(.agg #[(.int .i64 p0.States), (.int .i64 p0.Symbols), (.slice A_p0_Actions p0.Actions.length c_p0_Actions)]), (.agg #[(.int .i64 p1.State), (.int .i64 p1.At), (.slice A_p1_Cells p1.Cells.length c_p1_Cells)]), (.int .i64 p2)] w (fun v w' => ∃ (A1_ : Option Addr), ∃ (c1_ : Nat), v = (.tuple #[(.agg #[(.int .i64 r.1.Width), (.int .i64 r.1.Height), (.slice A1_ r.1.Cells.length c1_)]), (.int .i64 r.2)]) ∧ St NoS w w' [] [rowO 3 encInt A1_ c1_ r.1.Cells]) := by
  have hS : St NoS w w [rowR enc_Action A_p0_Actions c_p0_Actions p0.Actions, rowR encInt A_p1_Cells c_p1_Cells p1.Cells] [] := St.init (ro_cons hR0 (ro_cons hR1 (ro_nil _ _)))
  refine enter 67 Try.func12 rfl Try.ntmps12 rfl ?_
  unfold machine_Picture at hf
  refine WC.seq ?_
  refine WC.region ?_
  refine WL.new hS 3 [] (fun g => (.pointer (some ⟨g, 0, none⟩))) (.cells #[(.int .i64 p0.States), (.int .i64 p0.Symbols), (.slice A_p0_Actions p0.Actions.length c_p0_Actions)] 24 (0, 0)) [] (fun fb g => by kernel_rfl) trivial (fun g2324 w2325 hS2326 => ?_)
  refine ⟨trivial, ?_⟩
  refine WL.new hS2326 4 [] (fun g => (.pointer (some ⟨g, 0, none⟩))) (.cells #[(.int .i64 p1.State), (.int .i64 p1.At), (.slice A_p1_Cells p1.Cells.length c_p1_Cells)] 27 (0, 0)) [] (fun fb g => by kernel_rfl) trivial (fun g2328 w2329 hS2330 => ?_)
  refine ⟨trivial, ?_⟩
  refine WL.new hS2330 6 [] (fun g => (.pointer (some ⟨g, 0, none⟩))) (.cells #[(.int .i64 0), (.int .i64 0), (.slice none 0 0)] 31 (0, 0)) [] (fun fb g => by kernel_rfl) trivial (fun g2332 w2333 hS2334 => ?_)
  refine ⟨trivial, ?_⟩
  refine seg 4 [] [2, 3, 4, 6] [(2, (.int .i64 p2)), (3, (.pointer (some ⟨g2324, 0, none⟩))), (4, (.pointer (some ⟨g2328, 0, none⟩))), (6, (.pointer (some ⟨g2332, 0, none⟩)))] [] (fun fb => by kernel_rfl) rfl trivial ?_
  refine WL.done rfl ?_
  refine WX.next ?_
  refine WC.seq ?_
  refine WC.block ?_
  refine WC.seq ?_
  refine WC.region ?_
  refine seg 2 [.v (.int .i64 p0.States), .v (.int .i64 p0.Symbols), .v (.slice A_p0_Actions p0.Actions.length c_p0_Actions), .v (.int .i64 p1.State), .v (.int .i64 p1.At), .v (.slice A_p1_Cells p1.Cells.length c_p1_Cells)] [2, 3, 4, 6, 13, 14] [(2, (.int .i64 p2)), (3, (.pointer (some ⟨g2324, 0, none⟩))), (4, (.pointer (some ⟨g2328, 0, none⟩))), (6, (.pointer (some ⟨g2332, 0, none⟩))), (13, (.agg #[(.int .i64 p0.States), (.int .i64 p0.Symbols), (.slice A_p0_Actions p0.Actions.length c_p0_Actions)])), (14, (.agg #[(.int .i64 p1.State), (.int .i64 p1.At), (.slice A_p1_Cells p1.Cells.length c_p1_Cells)]))] [.cell ⟨g2324, 0, none⟩ (.int .i64 p0.States), .cell ⟨g2324, 1, none⟩ (.int .i64 p0.Symbols), .cell ⟨g2324, 2, none⟩ (.slice A_p0_Actions p0.Actions.length c_p0_Actions), .cell ⟨g2328, 0, none⟩ (.int .i64 p1.State), .cell ⟨g2328, 1, none⟩ (.int .i64 p1.At), .cell ⟨g2328, 2, none⟩ (.slice A_p1_Cells p1.Cells.length c_p1_Cells)] (fun fb => by kernel_rfl) rfl ⟨hS2334.cell 2 rfl 0 rfl, hS2334.cell 2 rfl 1 rfl, hS2334.cell 2 rfl 2 rfl, hS2334.cell 1 rfl 0 rfl, hS2334.cell 1 rfl 1 rfl, hS2334.cell 1 rfl 2 rfl, trivial⟩ ?_
  obtain ⟨t2336, ht2337, hf⟩ := bind_some hf
  refine WL.call (some 15) 18 #[(.agg #[(.int .i64 p0.States), (.int .i64 p0.Symbols), (.slice A_p0_Actions p0.Actions.length c_p0_Actions)]), (.agg #[(.int .i64 p1.State), (.int .i64 p1.At), (.slice A_p1_Cells p1.Cells.length c_p1_Cells)])] (fun fb => by kernel_rfl) (machine_Fits_calls _ p0 p1 A_p0_Actions c_p0_Actions A_p1_Cells c_p1_Cells t2336 _ (hS2334.rd 0) (hS2334.rd 1) ht2337) (fun v w2338 hR2339 => ?_)
  obtain ⟨rfl, hk_⟩ := hR2339
  have hS2340 := hS2334.keepN hk_
  refine ⟨trivial, ?_⟩
  refine seg 5 [] [2, 3, 4, 6, 12] [(2, (.int .i64 p2)), (3, (.pointer (some ⟨g2324, 0, none⟩))), (4, (.pointer (some ⟨g2328, 0, none⟩))), (6, (.pointer (some ⟨g2332, 0, none⟩))), (12, (.bool (!t2336)))] [] (fun fb => by kernel_rfl) rfl trivial ?_
  refine WL.done rfl ?_
  refine WX.next ?_
  rcases br_some hf with ⟨h2341, hf⟩ | ⟨h2341, hf⟩
  · refine WC.condT2 (fun fb => by kernel_rfl) h2341 ?_
    refine WC.seq ?_
    refine WC.region ?_
    refine seg 1 [] [6, 17] [(6, (.pointer (some ⟨g2332, 0, none⟩))), (17, (.agg #[(.int .i64 0), (.int .i64 0), (.slice none 0 0)]))] [] (fun fb => by kernel_rfl) rfl trivial ?_
    refine WL.store hS2340 0 rfl [(0, (.int .i64 0)), (1, (.int .i64 0)), (2, (.slice none 0 0))] #[(.int .i64 0), (.int .i64 0), (.slice none 0 0)] (fun fb => by kernel_rfl) (by kernel_rfl) rfl [1, 2] (by decide) (by decide) (fun w2342 hS2343 => ?_)
    refine ⟨trivial, ?_⟩
    refine seg 3 [] [6, 7] [(6, (.pointer (some ⟨g2332, 0, none⟩))), (7, (.int .i64 1))] [] (fun fb => by kernel_rfl) rfl trivial ?_
    refine WL.done rfl ?_
    refine WX.next ?_
    refine WC.ret ?_
    have hS2344 := hS2343.nilrow 3 encInt
    injection hf with hf
    subst hf
    exact WX.blockR (WX.thenR (WX.ret_ [.v (.int .i64 0), .v (.int .i64 0), .v (.slice none 0 0)] (.tuple #[(.agg #[(.int .i64 0), (.int .i64 0), (.slice none ([] : List Int).length 0)]), (.int .i64 1)]) [.cell ⟨g2332, 0, none⟩ (.int .i64 0), .cell ⟨g2332, 1, none⟩ (.int .i64 0), .cell ⟨g2332, 2, none⟩ (.slice none 0 0)] (fun fb => by kernel_rfl) ⟨hS2343.cell 0 rfl 0 rfl, hS2343.cell 0 rfl 1 rfl, hS2343.cell 0 rfl 2 rfl, trivial⟩ ⟨_, rfl, none, 0, rfl, (hS2344.sub [0] (by decide)).noR⟩))
  refine WC.condF2 (fun fb => by kernel_rfl) h2341 ?_
  refine WC.seq ?_
  refine WC.region ?_
  refine seg 3 [] [2, 3, 4, 6, 18] [(2, (.int .i64 p2)), (3, (.pointer (some ⟨g2324, 0, none⟩))), (4, (.pointer (some ⟨g2328, 0, none⟩))), (6, (.pointer (some ⟨g2332, 0, none⟩))), (18, (.bool (decide (p2 < 1))))] [] (fun fb => by kernel_rfl) rfl trivial ?_
  refine WL.done rfl ?_
  refine WX.next ?_
  rcases br_some hf with ⟨h2345, hf⟩ | ⟨h2345, hf⟩
  · refine WC.condT2 (fun fb => by kernel_rfl) h2345 ?_
    refine WC.seq ?_
    refine WC.region ?_
    refine seg 1 [] [6, 21] [(6, (.pointer (some ⟨g2332, 0, none⟩))), (21, (.agg #[(.int .i64 0), (.int .i64 0), (.slice none 0 0)]))] [] (fun fb => by kernel_rfl) rfl trivial ?_
    refine WL.store hS2340 0 rfl [(0, (.int .i64 0)), (1, (.int .i64 0)), (2, (.slice none 0 0))] #[(.int .i64 0), (.int .i64 0), (.slice none 0 0)] (fun fb => by kernel_rfl) (by kernel_rfl) rfl [1, 2] (by decide) (by decide) (fun w2346 hS2347 => ?_)
    refine ⟨trivial, ?_⟩
    refine seg 3 [] [6, 7] [(6, (.pointer (some ⟨g2332, 0, none⟩))), (7, (.int .i64 2))] [] (fun fb => by kernel_rfl) rfl trivial ?_
    refine WL.done rfl ?_
    refine WX.next ?_
    refine WC.ret ?_
    have hS2348 := hS2347.nilrow 3 encInt
    injection hf with hf
    subst hf
    exact WX.blockR (WX.thenR (WX.ret_ [.v (.int .i64 0), .v (.int .i64 0), .v (.slice none 0 0)] (.tuple #[(.agg #[(.int .i64 0), (.int .i64 0), (.slice none ([] : List Int).length 0)]), (.int .i64 2)]) [.cell ⟨g2332, 0, none⟩ (.int .i64 0), .cell ⟨g2332, 1, none⟩ (.int .i64 0), .cell ⟨g2332, 2, none⟩ (.slice none 0 0)] (fun fb => by kernel_rfl) ⟨hS2347.cell 0 rfl 0 rfl, hS2347.cell 0 rfl 1 rfl, hS2347.cell 0 rfl 2 rfl, trivial⟩ ⟨_, rfl, none, 0, rfl, (hS2348.sub [0] (by decide)).noR⟩))
  refine WC.condF2 (fun fb => by kernel_rfl) h2345 ?_
  refine WC.seq ?_
  refine WC.region ?_
  refine seg 3 [] [2, 3, 4, 6, 25] [(2, (.int .i64 p2)), (3, (.pointer (some ⟨g2324, 0, none⟩))), (4, (.pointer (some ⟨g2328, 0, none⟩))), (6, (.pointer (some ⟨g2332, 0, none⟩))), (25, (.bool (decide (p2 > 40000))))] [] (fun fb => by kernel_rfl) rfl trivial ?_
  refine WL.cutV (T := Bool) 10 (fun t => [(32, (.bool t)), (2, (.int .i64 p2)), (3, (.pointer (some ⟨g2324, 0, none⟩))), (4, (.pointer (some ⟨g2328, 0, none⟩))), (6, (.pointer (some ⟨g2332, 0, none⟩)))]) (fun t => t = ((decide (p2 > 40000)) || (decide (w64 ((p1.Cells.length : Int) * p2) > 40000)))) (fun K => ?_) ?_
  ·
    rcases Bool.eq_false_or_eq_true (decide (p2 > 40000)) with h2349 | h2349
    ·
      refine WL.setB 25 h2349 rfl ?_
      refine seg 10 [] [2, 3, 4, 6, 32] [(2, (.int .i64 p2)), (3, (.pointer (some ⟨g2324, 0, none⟩))), (4, (.pointer (some ⟨g2328, 0, none⟩))), (6, (.pointer (some ⟨g2332, 0, none⟩))), (32, (.bool true))] [] (fun fb => by kernel_rfl) rfl trivial ?_
      exact WL.toV K true [32, 2, 3, 4, 6] rfl (by rw [h2349]; rfl)
    refine WL.setB 25 h2349 rfl ?_
    refine seg 10 [.v (.slice A_p1_Cells p1.Cells.length c_p1_Cells)] [2, 3, 4, 6, 32] [(2, (.int .i64 p2)), (3, (.pointer (some ⟨g2324, 0, none⟩))), (4, (.pointer (some ⟨g2328, 0, none⟩))), (6, (.pointer (some ⟨g2332, 0, none⟩))), (32, (.bool (decide (w64 ((p1.Cells.length : Int) * p2) > 40000))))] [.cell ⟨g2328, 2, none⟩ (.slice A_p1_Cells p1.Cells.length c_p1_Cells)] (fun fb => by kernel_rfl) rfl ⟨hS2340.cell 1 rfl 2 rfl, trivial⟩ ?_
    exact WL.toV K (decide (w64 ((p1.Cells.length : Int) * p2) > 40000)) [32, 2, 3, 4, 6] rfl (by rw [h2349]; rfl)
  rintro b2350 rfl
  refine seg 11 [] [2, 3, 4, 6, 22] [(2, (.int .i64 p2)), (3, (.pointer (some ⟨g2324, 0, none⟩))), (4, (.pointer (some ⟨g2328, 0, none⟩))), (6, (.pointer (some ⟨g2332, 0, none⟩))), (22, (.bool ((decide (p2 > 40000)) || (decide (w64 ((p1.Cells.length : Int) * p2) > 40000)))))] [] (fun fb => by kernel_rfl) rfl trivial ?_
  refine WL.done rfl ?_
  refine WX.next ?_
  rcases br_some hf with ⟨h2351, hf⟩ | ⟨h2351, hf⟩
  · refine WC.condT2 (fun fb => by kernel_rfl) h2351 ?_
    refine WC.seq ?_
    refine WC.region ?_
    refine seg 1 [] [6, 33] [(6, (.pointer (some ⟨g2332, 0, none⟩))), (33, (.agg #[(.int .i64 0), (.int .i64 0), (.slice none 0 0)]))] [] (fun fb => by kernel_rfl) rfl trivial ?_
    refine WL.store hS2340 0 rfl [(0, (.int .i64 0)), (1, (.int .i64 0)), (2, (.slice none 0 0))] #[(.int .i64 0), (.int .i64 0), (.slice none 0 0)] (fun fb => by kernel_rfl) (by kernel_rfl) rfl [1, 2] (by decide) (by decide) (fun w2352 hS2353 => ?_)
    refine ⟨trivial, ?_⟩
    refine seg 3 [] [6, 7] [(6, (.pointer (some ⟨g2332, 0, none⟩))), (7, (.int .i64 4))] [] (fun fb => by kernel_rfl) rfl trivial ?_
    refine WL.done rfl ?_
    refine WX.next ?_
    refine WC.ret ?_
    have hS2354 := hS2353.nilrow 3 encInt
    injection hf with hf
    subst hf
    exact WX.blockR (WX.thenR (WX.ret_ [.v (.int .i64 0), .v (.int .i64 0), .v (.slice none 0 0)] (.tuple #[(.agg #[(.int .i64 0), (.int .i64 0), (.slice none ([] : List Int).length 0)]), (.int .i64 4)]) [.cell ⟨g2332, 0, none⟩ (.int .i64 0), .cell ⟨g2332, 1, none⟩ (.int .i64 0), .cell ⟨g2332, 2, none⟩ (.slice none 0 0)] (fun fb => by kernel_rfl) ⟨hS2353.cell 0 rfl 0 rfl, hS2353.cell 0 rfl 1 rfl, hS2353.cell 0 rfl 2 rfl, trivial⟩ ⟨_, rfl, none, 0, rfl, (hS2354.sub [0] (by decide)).noR⟩))
  refine WC.condF2 (fun fb => by kernel_rfl) h2351 ?_
  refine WC.skip ?_
  refine WX.blockN (WX.next ?_)
  refine WC.seq ?_
  refine WC.regionD ([(0, ⟨g2324, 0, none⟩, (.int .i64 p0.States)), (0, ⟨g2324, 1, none⟩, (.int .i64 p0.Symbols)), (0, ⟨g2324, 2, none⟩, (.slice A_p0_Actions p0.Actions.length c_p0_Actions)), (2, ⟨g2324, 0, none⟩, (.int .i64 p0.States)), (2, ⟨g2324, 1, none⟩, (.int .i64 p0.Symbols)), (2, ⟨g2324, 2, none⟩, (.slice A_p0_Actions p0.Actions.length c_p0_Actions)), (3, ⟨g2328, 0, none⟩, (.int .i64 p1.State)), (3, ⟨g2328, 1, none⟩, (.int .i64 p1.At)), (3, ⟨g2328, 2, none⟩, (.slice A_p1_Cells p1.Cells.length c_p1_Cells))], [0, 2, 3, 5, 6], [[], [0], [], [], [0, 1, 2, 3], [0, 1, 2, 3, 4], [0, 1, 2, 3, 4, 5]]) [[0, 2, 3, 1, 4, 5, 6]] (by kernel_rfl) (by kernel_rfl) (NoPanic.seq (NoPanic.body)) ?_
  have hS2374 := hS2340.drew
  revert hS2374
  generalize World.drew w2338 = w2373
  intro hS2374
  refine ⟨⟨hS2374.cell 2 rfl 0 rfl, hS2374.cell 2 rfl 1 rfl, hS2374.cell 2 rfl 2 rfl, hS2374.cell 2 rfl 0 rfl, hS2374.cell 2 rfl 1 rfl, hS2374.cell 2 rfl 2 rfl, hS2374.cell 1 rfl 0 rfl, hS2374.cell 1 rfl 1 rfl, hS2374.cell 1 rfl 2 rfl, trivial⟩, forallC ?_ (forallN)⟩
  refine segF 3 [.v (.int .i64 p0.States), .v (.int .i64 p0.Symbols), .v (.slice A_p0_Actions p0.Actions.length c_p0_Actions), .v (.int .i64 p0.States), .v (.int .i64 p0.Symbols), .v (.slice A_p0_Actions p0.Actions.length c_p0_Actions), .v (.int .i64 p1.State), .v (.int .i64 p1.At), .v (.slice A_p1_Cells p1.Cells.length c_p1_Cells)] [2, 3, 4, 6, 34, 36, 37] [(2, (.int .i64 p2)), (3, (.pointer (some ⟨g2324, 0, none⟩))), (4, (.pointer (some ⟨g2328, 0, none⟩))), (6, (.pointer (some ⟨g2332, 0, none⟩))), (34, (.agg #[(.int .i64 p0.States), (.int .i64 p0.Symbols), (.slice A_p0_Actions p0.Actions.length c_p0_Actions)])), (36, (.agg #[(.int .i64 p0.States), (.int .i64 p0.Symbols), (.slice A_p0_Actions p0.Actions.length c_p0_Actions)])), (37, (.agg #[(.int .i64 p1.State), (.int .i64 p1.At), (.slice A_p1_Cells p1.Cells.length c_p1_Cells)]))] [] [0, 1, 2, 3, 4, 5, 6, 7, 8] [(0, ⟨g2324, 0, none⟩, (.int .i64 p0.States)), (0, ⟨g2324, 1, none⟩, (.int .i64 p0.Symbols)), (0, ⟨g2324, 2, none⟩, (.slice A_p0_Actions p0.Actions.length c_p0_Actions)), (2, ⟨g2324, 0, none⟩, (.int .i64 p0.States)), (2, ⟨g2324, 1, none⟩, (.int .i64 p0.Symbols)), (2, ⟨g2324, 2, none⟩, (.slice A_p0_Actions p0.Actions.length c_p0_Actions)), (3, ⟨g2328, 0, none⟩, (.int .i64 p1.State)), (3, ⟨g2328, 1, none⟩, (.int .i64 p1.At)), (3, ⟨g2328, 2, none⟩, (.slice A_p1_Cells p1.Cells.length c_p1_Cells))] (fun fb => by kernel_rfl) rfl trivial rfl ?_
  obtain ⟨t2375, ht2376, hf⟩ := bind_some hf
  refine WL.call (some 35) 41 #[(.agg #[(.int .i64 p0.States), (.int .i64 p0.Symbols), (.slice A_p0_Actions p0.Actions.length c_p0_Actions)])] (fun fb => by kernel_rfl) (machine_kitOf_calls _ p0 A_p0_Actions c_p0_Actions t2375 _ (hS2374.rd 0) ht2376) (fun v w2377 hR2378 => ?_)
  obtain ⟨g2380, A2381, c2382, A2383, c2384, rfl, hk_⟩ := hR2378
  have hS2379 : St NoS w w2377 [rowR enc_Action A_p0_Actions c_p0_Actions p0.Actions, rowR encInt A_p1_Cells c_p1_Cells p1.Cells] [blk g2380 (.cells #[(.int .i64 t2375.m.States), (.int .i64 t2375.m.Symbols), (.slice A_p0_Actions p0.Actions.length c_p0_Actions), (.slice A2381 t2375.set.length c2382), (.slice A2383 t2375.does.length c2384), (.int .i64 t2375.base)] 96 (0, 0)), rowO 65 enc_Tile A2381 c2382 t2375.set, rowO 3 encInt A2383 c2384 t2375.does, blk g2332 (.cells #[(.int .i64 0), (.int .i64 0), (.slice none 0 0)] 31 (0, 0)), blk g2328 (.cells #[(.int .i64 p1.State), (.int .i64 p1.At), (.slice A_p1_Cells p1.Cells.length c_p1_Cells)] 27 (0, 0)), blk g2324 (.cells #[(.int .i64 p0.States), (.int .i64 p0.Symbols), (.slice A_p0_Actions p0.Actions.length c_p0_Actions)] 24 (0, 0))] := hS2374.call hk_ [] [0, 1, 2] (fun g hg => hg.elim) (by simp) (by decide)
  refine ⟨⟨hS2379.cell 5 rfl 0 rfl, hS2379.cell 5 rfl 1 rfl, hS2379.cell 5 rfl 2 rfl, hS2379.cell 4 rfl 0 rfl, hS2379.cell 4 rfl 1 rfl, hS2379.cell 4 rfl 2 rfl, trivial⟩, ?_⟩
  obtain ⟨t2385, ht2386, hf⟩ := bind_some hf
  refine WL.call (some 38) 42 #[(.agg #[(.int .i64 p0.States), (.int .i64 p0.Symbols), (.slice A_p0_Actions p0.Actions.length c_p0_Actions)]), (.agg #[(.int .i64 p1.State), (.int .i64 p1.At), (.slice A_p1_Cells p1.Cells.length c_p1_Cells)])] (fun fb => by kernel_rfl) (machine_begin_calls p0 p1 A_p0_Actions c_p0_Actions A_p1_Cells c_p1_Cells t2385 _ (hS2379.rd 0) (hS2379.rd 1) ht2386) (fun v w2387 hR2388 => ?_)
  obtain ⟨g2390, A2391, c2392, rfl, hk_⟩ := hR2388
  have hS2389 : St NoS w w2387 [rowR enc_Action A_p0_Actions c_p0_Actions p0.Actions, rowR encInt A_p1_Cells c_p1_Cells p1.Cells] [blk g2390 (.cells #[(.int .i64 t2385.m.States), (.int .i64 t2385.m.Symbols), (.slice A_p0_Actions p0.Actions.length c_p0_Actions), (.int .i64 t2385.Config.State), (.int .i64 t2385.Config.At), (.slice A2391 t2385.Config.Cells.length c2392)] 82 (0, 0)), rowO 3 encInt A2391 c2392 t2385.Config.Cells, blk g2380 (.cells #[(.int .i64 t2375.m.States), (.int .i64 t2375.m.Symbols), (.slice A_p0_Actions p0.Actions.length c_p0_Actions), (.slice A2381 t2375.set.length c2382), (.slice A2383 t2375.does.length c2384), (.int .i64 t2375.base)] 96 (0, 0)), rowO 65 enc_Tile A2381 c2382 t2375.set, rowO 3 encInt A2383 c2384 t2375.does, blk g2332 (.cells #[(.int .i64 0), (.int .i64 0), (.slice none 0 0)] 31 (0, 0)), blk g2328 (.cells #[(.int .i64 p1.State), (.int .i64 p1.At), (.slice A_p1_Cells p1.Cells.length c_p1_Cells)] 27 (0, 0)), blk g2324 (.cells #[(.int .i64 p0.States), (.int .i64 p0.Symbols), (.slice A_p0_Actions p0.Actions.length c_p0_Actions)] 24 (0, 0))] := hS2379.call hk_ [] [0, 1, 2, 3, 4, 5] (fun g hg => hg.elim) (by simp) (by decide)
  refine ⟨trivial, ?_⟩
  refine seg 7 [] [2, 3, 4, 6, 8, 9] [(2, (.int .i64 p2)), (3, (.pointer (some ⟨g2324, 0, none⟩))), (4, (.pointer (some ⟨g2328, 0, none⟩))), (6, (.pointer (some ⟨g2332, 0, none⟩))), (8, (.pointer (some ⟨g2380, 0, none⟩))), (9, (.pointer (some ⟨g2390, 0, none⟩)))] [] (fun fb => by kernel_rfl) rfl trivial ?_
  refine WL.done rfl ?_
  refine WX.next ?_
  refine WC.seq ?_
  refine WC.region ?_
  refine seg 5 [.v (.slice A_p1_Cells p1.Cells.length c_p1_Cells)] [2, 3, 6, 8, 9, 43] [(2, (.int .i64 p2)), (3, (.pointer (some ⟨g2324, 0, none⟩))), (6, (.pointer (some ⟨g2332, 0, none⟩))), (8, (.pointer (some ⟨g2380, 0, none⟩))), (9, (.pointer (some ⟨g2390, 0, none⟩))), (43, (.agg #[(.int .i64 (p1.Cells.length : Int)), (.int .i64 p2), (.slice none 0 0)]))] [.cell ⟨g2328, 2, none⟩ (.slice A_p1_Cells p1.Cells.length c_p1_Cells)] (fun fb => by kernel_rfl) rfl ⟨hS2389.cell 6 rfl 2 rfl, trivial⟩ ?_
  refine WL.new hS2389 10 [] (fun g => (.pointer (some ⟨g, 0, none⟩))) (.cells #[(.int .i64 0), (.int .i64 0), (.slice none 0 0)] 31 (0, 0)) [] (fun fb g => by kernel_rfl) trivial (fun g2393 w2394 hS2395 => ?_)
  refine ⟨trivial, ?_⟩
  refine WL.store hS2395 0 rfl [(0, (.int .i64 (p1.Cells.length : Int))), (1, (.int .i64 p2)), (2, (.slice none 0 0))] #[(.int .i64 (p1.Cells.length : Int)), (.int .i64 p2), (.slice none 0 0)] (fun fb => by kernel_rfl) (by kernel_rfl) rfl [1, 2, 3, 4, 5, 6, 7, 8] (by decide) (by decide) (fun w2397 hS2398 => ?_)
  refine ⟨trivial, ?_⟩
  refine WL.done rfl ?_
  refine WX.next ?_
  refine WC.seq ?_
  refine WC.seq ?_
  refine WC.region ?_
  refine seg 2 [] [3, 6, 8, 9, 10, 44, 45] [(3, (.pointer (some ⟨g2324, 0, none⟩))), (6, (.pointer (some ⟨g2332, 0, none⟩))), (8, (.pointer (some ⟨g2380, 0, none⟩))), (9, (.pointer (some ⟨g2390, 0, none⟩))), (10, (.pointer (some ⟨g2393, 0, none⟩))), (44, (.int .i64 p2)), (45, (.int .i64 0))] [] (fun fb => by kernel_rfl) rfl trivial ?_
  refine WL.done rfl ?_
  refine WX.next ?_
  have hS2883 := hS2398.nilrow 3 encInt
  obtain ⟨x2899, hx2900, hf⟩ := bind_some hf
  refine WC.cutN (T := (List Int) × (Option Addr) × Nat) (fun t => [(6, (.pointer (some ⟨g2332, 0, none⟩))), (10, (.pointer (some ⟨g2393, 0, none⟩)))]) (fun t w1 => St NoS w w1 [rowR enc_Action A_p0_Actions c_p0_Actions p0.Actions, rowR encInt A_p1_Cells c_p1_Cells p1.Cells] [blk g2332 (.cells #[(.int .i64 0), (.int .i64 0), (.slice none 0 0)] 31 (0, 0)), blk g2393 (.cells #[(.int .i64 (p1.Cells.length : Int)), (.int .i64 p2), (.slice t.2.1 t.1.length t.2.2)] 31 (0, 0)), rowO 3 encInt t.2.1 t.2.2 t.1] ∧ x2899 = .inr t.1) (fun Kx2899 => ?_) ?_
  ·
    refine WC.block ?_
    refine WC.loop (T := (Int × Int × Int × Int × (List Int) × (List Int) × Int) × Nat × (Option Addr) × Nat × (Option Addr) × Nat) (fun t => [(3, (.pointer (some ⟨g2324, 0, none⟩))), (6, (.pointer (some ⟨g2332, 0, none⟩))), (8, (.pointer (some ⟨g2380, 0, none⟩))), (9, (.pointer (some ⟨t.2.1, 0, none⟩))), (10, (.pointer (some ⟨g2393, 0, none⟩))), (44, (.int .i64 p2)), (45, (.int .i64 t.1.2.2.2.2.2.2))]) (fun n t w1 => St NoS w w1 [rowR enc_Action A_p0_Actions c_p0_Actions p0.Actions, rowR encInt A_p1_Cells c_p1_Cells p1.Cells] [blk g2324 (.cells #[(.int .i64 p0.States), (.int .i64 p0.Symbols), (.slice A_p0_Actions p0.Actions.length c_p0_Actions)] 24 (0, 0)), blk g2332 (.cells #[(.int .i64 0), (.int .i64 0), (.slice none 0 0)] 31 (0, 0)), blk g2380 (.cells #[(.int .i64 t2375.m.States), (.int .i64 t2375.m.Symbols), (.slice A_p0_Actions p0.Actions.length c_p0_Actions), (.slice A2381 t2375.set.length c2382), (.slice A2383 t2375.does.length c2384), (.int .i64 t2375.base)] 96 (0, 0)), rowO 65 enc_Tile A2381 c2382 t2375.set, rowO 3 encInt A2383 c2384 t2375.does, blk t.2.1 (.cells #[(.int .i64 t.1.1), (.int .i64 t.1.2.1), (.slice A_p0_Actions p0.Actions.length c_p0_Actions), (.int .i64 t.1.2.2.1), (.int .i64 t.1.2.2.2.1), (.slice t.2.2.1 t.1.2.2.2.2.1.length t.2.2.2.1)] 82 (0, 0)), rowO 3 encInt t.2.2.1 t.2.2.2.1 t.1.2.2.2.2.1, blk g2393 (.cells #[(.int .i64 (p1.Cells.length : Int)), (.int .i64 p2), (.slice t.2.2.2.2.1 t.1.2.2.2.2.2.1.length t.2.2.2.2.2)] 31 (0, 0)), rowO 3 encInt t.2.2.2.2.1 t.2.2.2.2.2 t.1.2.2.2.2.2.1] ∧ machine_Picture.l0 n t.1.1 t.1.2.1 t.1.2.2.1 t.1.2.2.2.1 t.1.2.2.2.2.1 t.1.2.2.2.2.2.1 t.1.2.2.2.2.2.2 p0 p2 t2375 = some x2899) k ((t2385.m.States, t2385.m.Symbols, t2385.Config.State, t2385.Config.At, t2385.Config.Cells, ([] : List Int), 0), g2390, A2391, c2392, none, 0) [3, 6, 8, 9, 10, 44, 45] rfl ⟨(hS2883.subR [0, 1]).sub [9, 7, 4, 5, 6, 2, 3, 1, 0] (by decide), hx2900⟩ ?_
    rintro k2901 ⟨⟨x2885, x2886, x2887, x2888, l2891, l2894, x2895⟩, g2884, A2889, c2890, A2892, c2893⟩ w2902 ⟨hS2903, hl2904⟩
    cases k2901 with
    | zero => rw [machine_Picture.l0] at hl2904; cases hl2904
    | succ k2901 =>
      rw [machine_Picture.l0] at hl2904
      refine WC.seq ?_
      refine WC.region ?_
      refine seg 1 [] [3, 6, 8, 9, 10, 44, 45, 46] [(3, (.pointer (some ⟨g2324, 0, none⟩))), (6, (.pointer (some ⟨g2332, 0, none⟩))), (8, (.pointer (some ⟨g2380, 0, none⟩))), (9, (.pointer (some ⟨g2884, 0, none⟩))), (10, (.pointer (some ⟨g2393, 0, none⟩))), (44, (.int .i64 p2)), (45, (.int .i64 x2895)), (46, (.bool (decide (x2895 < p2))))] [] (fun fb => by kernel_rfl) rfl trivial ?_
      refine WL.done rfl ?_
      refine WX.next ?_
      refine WC.seq ?_
      rcases br_some hl2904 with ⟨h2905, hl2904⟩ | ⟨h2905, hl2904⟩
      · refine WC.condT2 (fun fb => by kernel_rfl) h2905 ?_
        refine WC.skip ?_
        refine WX.next ?_
        refine WC.seq ?_
        refine WC.block ?_
        refine WC.seq ?_
        refine WC.regionD ([(0, ⟨g2324, 0, none⟩, (.int .i64 p0.States)), (0, ⟨g2324, 1, none⟩, (.int .i64 p0.Symbols)), (0, ⟨g2324, 2, none⟩, (.slice A_p0_Actions p0.Actions.length c_p0_Actions)), (4, ⟨g2884, 3, none⟩, (.int .i64 x2887)), (4, ⟨g2884, 4, none⟩, (.int .i64 x2888)), (4, ⟨g2884, 5, none⟩, (.slice A2889 l2891.length c2890))], [0, 1, 2, 3, 4, 6], [[], [], [1], [1, 2], [1, 2, 3], [0, 1, 2, 3, 4], [0, 1, 2, 3, 4, 5]]) [[0, 1, 2, 3, 4, 5, 6]] (by kernel_rfl) (by kernel_rfl) (NoPanic.seq (NoPanic.block (NoPanic.seq (NoPanic.seq (NoPanic.block (NoPanic.seq (NoPanic.body))))))) ?_
        have hS2915 := hS2903.drew
        revert hS2915
        generalize World.drew w2902 = w2914
        intro hS2915
        refine ⟨⟨hS2915.cell 0 rfl 0 rfl, hS2915.cell 0 rfl 1 rfl, hS2915.cell 0 rfl 2 rfl, hS2915.cell 5 rfl 3 rfl, hS2915.cell 5 rfl 4 rfl, hS2915.cell 5 rfl 5 rfl, trivial⟩, forallC ?_ (forallN)⟩
        refine segF 5 [.v (.int .i64 p0.States), .v (.int .i64 p0.Symbols), .v (.slice A_p0_Actions p0.Actions.length c_p0_Actions), .v (.int .i64 x2887), .v (.int .i64 x2888), .v (.slice A2889 l2891.length c2890)] [3, 6, 8, 9, 10, 44, 45, 47, 51] [(3, (.pointer (some ⟨g2324, 0, none⟩))), (6, (.pointer (some ⟨g2332, 0, none⟩))), (8, (.pointer (some ⟨g2380, 0, none⟩))), (9, (.pointer (some ⟨g2884, 0, none⟩))), (10, (.pointer (some ⟨g2393, 0, none⟩))), (44, (.int .i64 p2)), (45, (.int .i64 x2895)), (47, (.agg #[(.int .i64 p0.States), (.int .i64 p0.Symbols), (.slice A_p0_Actions p0.Actions.length c_p0_Actions)])), (51, (.agg #[(.int .i64 x2887), (.int .i64 x2888), (.slice A2889 l2891.length c2890)]))] [] [0, 1, 2, 3, 4, 5] [(0, ⟨g2324, 0, none⟩, (.int .i64 p0.States)), (0, ⟨g2324, 1, none⟩, (.int .i64 p0.Symbols)), (0, ⟨g2324, 2, none⟩, (.slice A_p0_Actions p0.Actions.length c_p0_Actions)), (4, ⟨g2884, 3, none⟩, (.int .i64 x2887)), (4, ⟨g2884, 4, none⟩, (.int .i64 x2888)), (4, ⟨g2884, 5, none⟩, (.slice A2889 l2891.length c2890))] (fun fb => by kernel_rfl) rfl trivial rfl ?_
        obtain ⟨t2916, ht2917, hl2904⟩ := bind_some hl2904
        refine WL.call (some 52) 42 #[(.agg #[(.int .i64 p0.States), (.int .i64 p0.Symbols), (.slice A_p0_Actions p0.Actions.length c_p0_Actions)]), (.agg #[(.int .i64 x2887), (.int .i64 x2888), (.slice A2889 l2891.length c2890)])] (fun fb => by kernel_rfl) (machine_begin_calls p0 (Config.mk x2887 x2888 l2891) A_p0_Actions c_p0_Actions A2889 c2890 t2916 _ (hS2915.rd 0) (hS2915.ow 6).ofO ht2917) (fun v w2918 hR2919 => ?_)
        obtain ⟨g2921, A2922, c2923, rfl, hk_⟩ := hR2919
        have hS2920 : St NoS w w2918 [rowR enc_Action A_p0_Actions c_p0_Actions p0.Actions, rowR encInt A_p1_Cells c_p1_Cells p1.Cells] [blk g2921 (.cells #[(.int .i64 t2916.m.States), (.int .i64 t2916.m.Symbols), (.slice A_p0_Actions p0.Actions.length c_p0_Actions), (.int .i64 t2916.Config.State), (.int .i64 t2916.Config.At), (.slice A2922 t2916.Config.Cells.length c2923)] 82 (0, 0)), rowO 3 encInt A2922 c2923 t2916.Config.Cells, blk g2324 (.cells #[(.int .i64 p0.States), (.int .i64 p0.Symbols), (.slice A_p0_Actions p0.Actions.length c_p0_Actions)] 24 (0, 0)), blk g2332 (.cells #[(.int .i64 0), (.int .i64 0), (.slice none 0 0)] 31 (0, 0)), blk g2380 (.cells #[(.int .i64 t2375.m.States), (.int .i64 t2375.m.Symbols), (.slice A_p0_Actions p0.Actions.length c_p0_Actions), (.slice A2381 t2375.set.length c2382), (.slice A2383 t2375.does.length c2384), (.int .i64 t2375.base)] 96 (0, 0)), rowO 65 enc_Tile A2381 c2382 t2375.set, rowO 3 encInt A2383 c2384 t2375.does, blk g2884 (.cells #[(.int .i64 x2885), (.int .i64 x2886), (.slice A_p0_Actions p0.Actions.length c_p0_Actions), (.int .i64 x2887), (.int .i64 x2888), (.slice A2889 l2891.length c2890)] 82 (0, 0)), rowO 3 encInt A2889 c2890 l2891, blk g2393 (.cells #[(.int .i64 (p1.Cells.length : Int)), (.int .i64 p2), (.slice A2892 l2894.length c2893)] 31 (0, 0)), rowO 3 encInt A2892 c2893 l2894] := hS2915.call hk_ [] [0, 1, 2, 3, 4, 5, 6, 7, 8] (fun g hg => hg.elim) (by simp) (by decide)
        refine ⟨trivial, ?_⟩
        refine seg 7 [] [3, 6, 8, 9, 10, 11, 44, 45] [(3, (.pointer (some ⟨g2324, 0, none⟩))), (6, (.pointer (some ⟨g2332, 0, none⟩))), (8, (.pointer (some ⟨g2380, 0, none⟩))), (9, (.pointer (some ⟨g2884, 0, none⟩))), (10, (.pointer (some ⟨g2393, 0, none⟩))), (11, (.pointer (some ⟨g2921, 0, none⟩))), (44, (.int .i64 p2)), (45, (.int .i64 x2895))] [] (fun fb => by kernel_rfl) rfl trivial ?_
        refine WL.done rfl ?_
        refine WX.next ?_
        refine WC.seq ?_
        refine WC.seq ?_
        refine WC.region ?_
        refine seg 1 [] [3, 6, 8, 9, 10, 11, 44, 45, 53] [(3, (.pointer (some ⟨g2324, 0, none⟩))), (6, (.pointer (some ⟨g2332, 0, none⟩))), (8, (.pointer (some ⟨g2380, 0, none⟩))), (9, (.pointer (some ⟨g2884, 0, none⟩))), (10, (.pointer (some ⟨g2393, 0, none⟩))), (11, (.pointer (some ⟨g2921, 0, none⟩))), (44, (.int .i64 p2)), (45, (.int .i64 x2895)), (53, (.pointer (some ⟨g2921, 0, none⟩)))] [] (fun fb => by kernel_rfl) rfl trivial ?_
        obtain ⟨t2924, ht2925, hl2904⟩ := bind_some hl2904
        refine WL.call (some 54) 43 #[(.pointer (some ⟨g2921, 0, none⟩))] (fun fb => by kernel_rfl) (machine_runner_step_calls (Runner.mk (Machine.mk t2916.m.States t2916.m.Symbols p0.Actions) t2916.Config) g2921 A_p0_Actions c_p0_Actions A2922 c2923 t2924 _ (hS2920.rdT [0, 1] 0) (hS2920.io [0, 1] (by decide)) ht2925) (fun v w2926 hR2927 => ?_)
        obtain ⟨A2929, c2930, rfl, hk_⟩ := hR2927
        have hS2928 : St NoS w w2926 [rowR enc_Action A_p0_Actions c_p0_Actions p0.Actions, rowR encInt A_p1_Cells c_p1_Cells p1.Cells] [blk g2921 (.cells #[(.int .i64 t2924.2.m.States), (.int .i64 t2924.2.m.Symbols), (.slice A_p0_Actions p0.Actions.length c_p0_Actions), (.int .i64 t2924.2.Config.State), (.int .i64 t2924.2.Config.At), (.slice A2929 t2924.2.Config.Cells.length c2930)] 82 (0, 0)), rowO 3 encInt A2929 c2930 t2924.2.Config.Cells, blk g2324 (.cells #[(.int .i64 p0.States), (.int .i64 p0.Symbols), (.slice A_p0_Actions p0.Actions.length c_p0_Actions)] 24 (0, 0)), blk g2332 (.cells #[(.int .i64 0), (.int .i64 0), (.slice none 0 0)] 31 (0, 0)), blk g2380 (.cells #[(.int .i64 t2375.m.States), (.int .i64 t2375.m.Symbols), (.slice A_p0_Actions p0.Actions.length c_p0_Actions), (.slice A2381 t2375.set.length c2382), (.slice A2383 t2375.does.length c2384), (.int .i64 t2375.base)] 96 (0, 0)), rowO 65 enc_Tile A2381 c2382 t2375.set, rowO 3 encInt A2383 c2384 t2375.does, blk g2884 (.cells #[(.int .i64 x2885), (.int .i64 x2886), (.slice A_p0_Actions p0.Actions.length c_p0_Actions), (.int .i64 x2887), (.int .i64 x2888), (.slice A2889 l2891.length c2890)] 82 (0, 0)), rowO 3 encInt A2889 c2890 l2891, blk g2393 (.cells #[(.int .i64 (p1.Cells.length : Int)), (.int .i64 p2), (.slice A2892 l2894.length c2893)] 31 (0, 0)), rowO 3 encInt A2892 c2893 l2894] := hS2920.call hk_ [0, 1] [2, 3, 4, 5, 6, 7, 8, 9, 10] (fun g hg => fpL_sel g hg) (by decide) (by decide)
        refine ⟨trivial, ?_⟩
        refine seg 3 [] [3, 6, 8, 9, 10, 11, 44, 45, 55] [(3, (.pointer (some ⟨g2324, 0, none⟩))), (6, (.pointer (some ⟨g2332, 0, none⟩))), (8, (.pointer (some ⟨g2380, 0, none⟩))), (9, (.pointer (some ⟨g2884, 0, none⟩))), (10, (.pointer (some ⟨g2393, 0, none⟩))), (11, (.pointer (some ⟨g2921, 0, none⟩))), (44, (.int .i64 p2)), (45, (.int .i64 x2895)), (55, (.bool (t2924.1 != 0)))] [] (fun fb => by kernel_rfl) rfl trivial ?_
        refine WL.done rfl ?_
        refine WX.next ?_
        rcases br_some hl2904 with ⟨h2931, hl2904⟩ | ⟨h2931, hl2904⟩
        · refine WC.condT2 (fun fb => by kernel_rfl) h2931 ?_
          refine WC.seq ?_
          refine WC.region ?_
          refine seg 1 [] [6, 56] [(6, (.pointer (some ⟨g2332, 0, none⟩))), (56, (.agg #[(.int .i64 0), (.int .i64 0), (.slice none 0 0)]))] [] (fun fb => by kernel_rfl) rfl trivial ?_
          refine WL.store hS2928 3 rfl [(0, (.int .i64 0)), (1, (.int .i64 0)), (2, (.slice none 0 0))] #[(.int .i64 0), (.int .i64 0), (.slice none 0 0)] (fun fb => by kernel_rfl) (by kernel_rfl) rfl [0, 1, 2, 4, 5, 6, 7, 8, 9, 10] (by decide) (by decide) (fun w2932 hS2933 => ?_)
          refine ⟨trivial, ?_⟩
          refine seg 3 [] [6, 7] [(6, (.pointer (some ⟨g2332, 0, none⟩))), (7, (.int .i64 6))] [] (fun fb => by kernel_rfl) rfl trivial ?_
          refine WL.done rfl ?_
          refine WX.next ?_
          refine WC.ret ?_
          have hS2934 := hS2933.nilrow 3 encInt
          injection hl2904 with hl2904
          subst hl2904
          injection hf with hf
          subst hf
          exact WX.thenR (WX.blockR (WX.thenR (WX.thenR (WX.blockR (WX.thenR (WX.ret_ [.v (.int .i64 0), .v (.int .i64 0), .v (.slice none 0 0)] (.tuple #[(.agg #[(.int .i64 0), (.int .i64 0), (.slice none ([] : List Int).length 0)]), (.int .i64 6)]) [.cell ⟨g2332, 0, none⟩ (.int .i64 0), .cell ⟨g2332, 1, none⟩ (.int .i64 0), .cell ⟨g2332, 2, none⟩ (.slice none 0 0)] (fun fb => by kernel_rfl) ⟨hS2933.cell 0 rfl 0 rfl, hS2933.cell 0 rfl 1 rfl, hS2933.cell 0 rfl 2 rfl, trivial⟩ ⟨_, rfl, none, 0, rfl, (hS2934.sub [0] (by decide)).noR⟩))))))
        refine WC.condF2 (fun fb => by kernel_rfl) h2931 ?_
        refine WC.skip ?_
        refine WX.next ?_
        refine WC.seq ?_
        refine WC.regionD ([(1, ⟨g2393, 2, none⟩, (.slice A2892 l2894.length c2893))], [0, 1, 2, 3, 6], [[], [0], [], [], [2, 3], [0, 1, 2, 3, 4], [0, 1, 2, 3, 4, 5], [0, 1, 2, 3, 4, 5, 6]]) [[0, 1, 2, 3, 4, 5, 6, 7]] (by kernel_rfl) (by kernel_rfl) (NoPanic.seq (NoPanic.block (NoPanic.seq (NoPanic.seq (NoPanic.block (NoPanic.seq (NoPanic.body))))))) ?_
        have hS2950 := hS2928.drew
        revert hS2950
        generalize World.drew w2926 = w2949
        intro hS2950
        refine ⟨⟨hS2950.cell 9 rfl 2 rfl, trivial⟩, forallC ?_ (forallN)⟩
        refine segF 4 [.v (.slice A2892 l2894.length c2893)] [3, 6, 8, 10, 11, 44, 45, 58, 59, 60] [(3, (.pointer (some ⟨g2324, 0, none⟩))), (6, (.pointer (some ⟨g2332, 0, none⟩))), (8, (.pointer (some ⟨g2380, 0, none⟩))), (10, (.pointer (some ⟨g2393, 0, none⟩))), (11, (.pointer (some ⟨g2921, 0, none⟩))), (44, (.int .i64 p2)), (45, (.int .i64 x2895)), (58, (.slice A2892 l2894.length c2893)), (59, (.pointer (some ⟨g2380, 0, none⟩))), (60, (.pointer (some ⟨g2884, 0, none⟩)))] [] [0] [(1, ⟨g2393, 2, none⟩, (.slice A2892 l2894.length c2893))] (fun fb => by kernel_rfl) rfl trivial rfl ?_
        obtain ⟨t2951, ht2952, hl2904⟩ := bind_some hl2904
        refine WL.call (some 61) 44 #[(.pointer (some ⟨g2380, 0, none⟩)), (.pointer (some ⟨g2884, 0, none⟩))] (fun fb => by kernel_rfl) (machine_kit_row_calls _ (Kit.mk (Machine.mk t2375.m.States t2375.m.Symbols p0.Actions) t2375.set t2375.does t2375.base) (Runner.mk (Machine.mk x2885 x2886 p0.Actions) (Config.mk x2887 x2888 l2891)) g2380 A_p0_Actions c_p0_Actions A2381 c2382 A2383 c2384 g2884 A_p0_Actions c_p0_Actions A2889 c2890 t2951 _ (hS2950.ow 4) (hS2950.rd 0) (hS2950.ow 5).ofO (hS2950.ow 6).ofO (hS2950.ow 7) (hS2950.rd 0) (hS2950.ow 8).ofO ht2952) (fun v w2953 hR2954 => ?_)
        obtain ⟨A2956, c2957, rfl, hk_⟩ := hR2954
        have hS2955 : St NoS w w2953 [rowR enc_Action A_p0_Actions c_p0_Actions p0.Actions, rowR encInt A_p1_Cells c_p1_Cells p1.Cells] [rowO 3 encInt A2956 c2957 t2951, blk g2921 (.cells #[(.int .i64 t2924.2.m.States), (.int .i64 t2924.2.m.Symbols), (.slice A_p0_Actions p0.Actions.length c_p0_Actions), (.int .i64 t2924.2.Config.State), (.int .i64 t2924.2.Config.At), (.slice A2929 t2924.2.Config.Cells.length c2930)] 82 (0, 0)), rowO 3 encInt A2929 c2930 t2924.2.Config.Cells, blk g2324 (.cells #[(.int .i64 p0.States), (.int .i64 p0.Symbols), (.slice A_p0_Actions p0.Actions.length c_p0_Actions)] 24 (0, 0)), blk g2332 (.cells #[(.int .i64 0), (.int .i64 0), (.slice none 0 0)] 31 (0, 0)), blk g2380 (.cells #[(.int .i64 t2375.m.States), (.int .i64 t2375.m.Symbols), (.slice A_p0_Actions p0.Actions.length c_p0_Actions), (.slice A2381 t2375.set.length c2382), (.slice A2383 t2375.does.length c2384), (.int .i64 t2375.base)] 96 (0, 0)), rowO 65 enc_Tile A2381 c2382 t2375.set, rowO 3 encInt A2383 c2384 t2375.does, blk g2884 (.cells #[(.int .i64 x2885), (.int .i64 x2886), (.slice A_p0_Actions p0.Actions.length c_p0_Actions), (.int .i64 x2887), (.int .i64 x2888), (.slice A2889 l2891.length c2890)] 82 (0, 0)), rowO 3 encInt A2889 c2890 l2891, blk g2393 (.cells #[(.int .i64 (p1.Cells.length : Int)), (.int .i64 p2), (.slice A2892 l2894.length c2893)] 31 (0, 0)), rowO 3 encInt A2892 c2893 l2894] := hS2950.call hk_ [] [0, 1, 2, 3, 4, 5, 6, 7, 8, 9, 10] (fun g hg => hg.elim) (by simp) (by decide)
        refine ⟨⟨hS2955.cell 10 rfl 2 rfl, trivial⟩, ?_⟩
        obtain ⟨h2958, hl2904⟩ := as_some hl2904
        refine WL.append hS2955 11 (d := 62) (tS := 25) (z := (.int .i64 0)) (bytes := 8) (c2 := c2957) rfl (fun fb => by kernel_rfl) (rowO.rd (hS2955.own 0).1) (by kernel_rfl) (by kernel_rfl) rfl (by decide) h2958 (by decide) [0, 1, 2, 3, 4, 5, 6, 7, 8, 9, 10] (by decide) (by decide) (fun A2959 c2960 w2961 hS2962 => ?_)
        refine ⟨trivial, ?_⟩
        refine seg 7 [] [3, 6, 8, 10, 11, 44, 45, 62, 63] [(3, (.pointer (some ⟨g2324, 0, none⟩))), (6, (.pointer (some ⟨g2332, 0, none⟩))), (8, (.pointer (some ⟨g2380, 0, none⟩))), (10, (.pointer (some ⟨g2393, 0, none⟩))), (11, (.pointer (some ⟨g2921, 0, none⟩))), (44, (.int .i64 p2)), (45, (.int .i64 x2895)), (62, (.slice A2959 (l2894 ++ t2951).length c2960)), (63, (.pointer (some ⟨g2393, 2, none⟩)))] [] (fun fb => by kernel_rfl) rfl trivial ?_
        refine WL.store hS2962 11 rfl [(2, (.slice A2959 (l2894 ++ t2951).length c2960))] #[(.int .i64 (p1.Cells.length : Int)), (.int .i64 p2), (.slice A2959 (l2894 ++ t2951).length c2960)] (fun fb => by kernel_rfl) (by kernel_rfl) rfl [0, 1, 2, 3, 4, 5, 6, 7, 8, 9, 10] (by decide) (by decide) (fun w2963 hS2964 => ?_)
        refine ⟨trivial, ?_⟩
        refine WL.done rfl ?_
        refine WX.next ?_
        refine WC.region ?_
        refine seg 2 [] [3, 6, 8, 9, 10, 44, 45] [(3, (.pointer (some ⟨g2324, 0, none⟩))), (6, (.pointer (some ⟨g2332, 0, none⟩))), (8, (.pointer (some ⟨g2380, 0, none⟩))), (9, (.pointer (some ⟨g2921, 0, none⟩))), (10, (.pointer (some ⟨g2393, 0, none⟩))), (44, (.int .i64 p2)), (45, (.int .i64 x2895))] [] (fun fb => by kernel_rfl) rfl trivial ?_
        refine WL.done rfl ?_
        refine WX.blockN (WX.next ?_)
        refine WC.region ?_
        refine seg 2 [] [3, 6, 8, 9, 10, 44, 45] [(3, (.pointer (some ⟨g2324, 0, none⟩))), (6, (.pointer (some ⟨g2332, 0, none⟩))), (8, (.pointer (some ⟨g2380, 0, none⟩))), (9, (.pointer (some ⟨g2921, 0, none⟩))), (10, (.pointer (some ⟨g2393, 0, none⟩))), (44, (.int .i64 p2)), (45, (.int .i64 (w64 (x2895 + 1))))] [] (fun fb => by kernel_rfl) rfl trivial ?_
        refine WL.done rfl ?_
        exact WX.again k2901 (Nat.lt_succ_self _) ((t2924.2.m.States, t2924.2.m.Symbols, t2924.2.Config.State, t2924.2.Config.At, t2924.2.Config.Cells, l2894 ++ t2951, w64 (x2895 + 1)), g2921, A2929, c2930, A2959, c2960) [3, 6, 8, 9, 10, 44, 45] rfl ⟨(hS2964.subR [0, 1]).sub [5, 6, 7, 8, 9, 3, 4, 0, 1] (by decide), hl2904⟩
      refine WC.condF2 (fun fb => by kernel_rfl) h2905 ?_
      refine WC.exit ?_
      injection hl2904 with hl2904
      exact WX.thenX (WX.thenX (WX.blockHere (WX.to Kx2899 (l2894, A2892, c2893) [6, 10] rfl ⟨(hS2903.subR [0, 1]).sub [1, 7, 8] (by decide), hl2904.symm⟩)))
  rintro ⟨y2968, A2896, c2897⟩ w2965 ⟨hS2966, hq2967⟩
  subst hq2967
  have hf := sum_inr hf
  refine WX.next ?_
  refine WC.seq ?_
  refine WC.region ?_
  refine seg 1 [.v (.int .i64 (p1.Cells.length : Int)), .v (.int .i64 p2), .v (.slice A2896 y2968.length c2897)] [6, 66] [(6, (.pointer (some ⟨g2332, 0, none⟩))), (66, (.agg #[(.int .i64 (p1.Cells.length : Int)), (.int .i64 p2), (.slice A2896 y2968.length c2897)]))] [.cell ⟨g2393, 0, none⟩ (.int .i64 (p1.Cells.length : Int)), .cell ⟨g2393, 1, none⟩ (.int .i64 p2), .cell ⟨g2393, 2, none⟩ (.slice A2896 y2968.length c2897)] (fun fb => by kernel_rfl) rfl ⟨hS2966.cell 1 rfl 0 rfl, hS2966.cell 1 rfl 1 rfl, hS2966.cell 1 rfl 2 rfl, trivial⟩ ?_
  refine WL.store hS2966 0 rfl [(0, (.int .i64 (p1.Cells.length : Int))), (1, (.int .i64 p2)), (2, (.slice A2896 y2968.length c2897))] #[(.int .i64 (p1.Cells.length : Int)), (.int .i64 p2), (.slice A2896 y2968.length c2897)] (fun fb => by kernel_rfl) (by kernel_rfl) rfl [1, 2] (by decide) (by decide) (fun w2970 hS2971 => ?_)
  refine ⟨trivial, ?_⟩
  refine seg 3 [] [6, 7] [(6, (.pointer (some ⟨g2332, 0, none⟩))), (7, (.int .i64 0))] [] (fun fb => by kernel_rfl) rfl trivial ?_
  refine WL.done rfl ?_
  refine WX.next ?_
  refine WC.ret ?_
  injection hf with hf
  subst hf
  exact WX.ret_ [.v (.int .i64 (p1.Cells.length : Int)), .v (.int .i64 p2), .v (.slice A2896 y2968.length c2897)] (.tuple #[(.agg #[(.int .i64 (p1.Cells.length : Int)), (.int .i64 p2), (.slice A2896 y2968.length c2897)]), (.int .i64 0)]) [.cell ⟨g2332, 0, none⟩ (.int .i64 (p1.Cells.length : Int)), .cell ⟨g2332, 1, none⟩ (.int .i64 p2), .cell ⟨g2332, 2, none⟩ (.slice A2896 y2968.length c2897)] (fun fb => by kernel_rfl) ⟨hS2971.cell 0 rfl 0 rfl, hS2971.cell 0 rfl 1 rfl, hS2971.cell 0 rfl 2 rfl, trivial⟩ ⟨_, rfl, A2896, c2897, rfl, (hS2971.sub [2] (by decide)).noR⟩
theorem law08_awake_calls (k : Nat)   (r : Bool) (w : World)  (hf : law08_awake k = some r) :
    CallsR Try.prog 11 #[] w (fun v w' => v = (.bool r) ∧ Keeps NoS w w') := by
  have hS : St NoS w w [] [] := St.init (ro_nil _ _)
  refine enter 52 Try.func11 rfl Try.ntmps11 rfl ?_
  unfold law08_awake at hf
  refine WC.seq ?_
  refine WC.region ?_
  refine seg 1 [] [] [] [] (fun fb => by kernel_rfl) rfl trivial ?_
  refine WL.done rfl ?_
  refine WX.next ?_
  refine WC.seq ?_
  refine WC.region ?_
  obtain ⟨t308, ht309, hf⟩ := bind_some hf
  refine WL.call (some 9) 40 #[] (fun fb => by kernel_rfl) (law08_goes_calls t308 _ ht309) (fun v w310 hR311 => ?_)
  obtain ⟨A313, c314, rfl, hk_⟩ := hR311
  have hS312 : St NoS w w310 [] [rowO 88 enc_Action A313 c314 t308.Actions] := hS.call hk_ [] [] (fun g hg => hg.elim) (by simp) (by decide)
  refine ⟨trivial, ?_⟩
  obtain ⟨t1757, ht1758, hf⟩ := bind_some hf
  refine WL.call (some 10) 25 #[(.agg #[(.int .i64 t308.States), (.int .i64 t308.Symbols), (.slice A313 t308.Actions.length c314)])] (fun fb => by kernel_rfl) (machine_Tiles_calls _ t308 A313 c314 t1757 _ (hS312.ow 0).ofO ht1758) (fun v w1759 hR1760 => ?_)
  obtain ⟨A1762, c1763, rfl, hk_⟩ := hR1760
  have hS1761 : St NoS w w1759 [] [rowO 65 enc_Tile A1762 c1763 t1757.1, rowO 88 enc_Action A313 c314 t308.Actions] := hS312.call hk_ [] [0] (fun g hg => hg.elim) (by simp) (by decide)
  refine ⟨trivial, ?_⟩
  refine seg 7 [] [1, 2] [(1, (.slice A1762 t1757.1.length c1763)), (2, (.int .i64 t1757.2))] [] (fun fb => by kernel_rfl) rfl trivial ?_
  refine WL.done rfl ?_
  refine WX.next ?_
  refine WC.seq ?_
  refine WC.region ?_
  obtain ⟨t1764, ht1765, hf⟩ := bind_some hf
  refine WL.call (some 14) 40 #[] (fun fb => by kernel_rfl) (law08_goes_calls t1764 _ ht1765) (fun v w1766 hR1767 => ?_)
  obtain ⟨A1769, c1770, rfl, hk_⟩ := hR1767
  have hS1768 : St NoS w w1766 [] [rowO 88 enc_Action A1769 c1770 t1764.Actions, rowO 65 enc_Tile A1762 c1763 t1757.1, rowO 88 enc_Action A313 c314 t308.Actions] := hS1761.call hk_ [] [0, 1] (fun g hg => hg.elim) (by simp) (by decide)
  refine ⟨trivial, ?_⟩
  refine WL.new hS1768 15 [] (fun g => (.slice (some ⟨g, 0, none⟩) 3 3)) (.cells #[(.int .i64 0), (.int .i64 0), (.int .i64 0)] 3 (0, 0)) [] (fun fb g => by kernel_rfl) trivial (fun g1771 w1772 hS1773 => ?_)
  refine ⟨trivial, ?_⟩
  have hS1775 : St NoS w w1772 [] [rowO 3 encInt (some ⟨g1771, 0, none⟩) 3 [0, 0, 0], rowO 88 enc_Action A1769 c1770 t1764.Actions, rowO 65 enc_Tile A1762 c1763 t1757.1, rowO 88 enc_Action A313 c314 t308.Actions] := hS1773.map1 0 _ (fun h => rowO.ofBlk h rfl (Nat.le_of_ble_eq_true (by kernel_rfl))) (fun _ h => by obtain ⟨_, h1, h2⟩ := h; injection h1 with h1; subst h1; exact h2) [1, 2, 3] (by decide) (by decide)
  refine seg 3 [] [1, 2, 14, 16] [(1, (.slice A1762 t1757.1.length c1763)), (2, (.int .i64 t1757.2)), (14, (.agg #[(.int .i64 t1764.States), (.int .i64 t1764.Symbols), (.slice A1769 t1764.Actions.length c1770)])), (16, (.agg #[(.int .i64 0), (.int .i64 0), (.slice (some ⟨g1771, 0, none⟩) [0, 0, 0].length 3)]))] [] (fun fb => by kernel_rfl) rfl trivial ?_
  obtain ⟨t2299, ht2300, hf⟩ := bind_some hf
  refine WL.call (some 17) 20 #[(.agg #[(.int .i64 t1764.States), (.int .i64 t1764.Symbols), (.slice A1769 t1764.Actions.length c1770)]), (.agg #[(.int .i64 0), (.int .i64 0), (.slice (some ⟨g1771, 0, none⟩) [0, 0, 0].length 3)]), (.int .i64 9)] (fun fb => by kernel_rfl) (machine_Run_calls _ t1764 (Config.mk 0 0 [0, 0, 0]) 9 A1769 c1770 (some ⟨g1771, 0, none⟩) 3 t2299 _ (hS1775.ow 1).ofO (hS1775.ow 0).ofO ht2300) (fun v w2301 hR2302 => ?_)
  obtain ⟨A2304, c2305, rfl, hk_⟩ := hR2302
  have hS2303 : St NoS w w2301 [] [rowO 3 encInt A2304 c2305 t2299.1.Cells, rowO 3 encInt (some ⟨g1771, 0, none⟩) 3 [0, 0, 0], rowO 88 enc_Action A1769 c1770 t1764.Actions, rowO 65 enc_Tile A1762 c1763 t1757.1, rowO 88 enc_Action A313 c314 t308.Actions] := hS1775.call hk_ [] [0, 1, 2, 3] (fun g hg => hg.elim) (by simp) (by decide)
  refine ⟨trivial, ?_⟩
  refine seg 8 [] [1, 2, 18, 19, 20] [(1, (.slice A1762 t1757.1.length c1763)), (2, (.int .i64 t1757.2)), (18, (.agg #[(.int .i64 t2299.1.State), (.int .i64 t2299.1.At), (.slice A2304 t2299.1.Cells.length c2305)])), (19, (.int .i64 t2299.2.1)), (20, (.int .i64 t2299.2.2))] [] (fun fb => by kernel_rfl) rfl trivial ?_
  refine WL.new hS2303 3 [] (fun g => (.pointer (some ⟨g, 0, none⟩))) (.cells #[(.int .i64 0), (.int .i64 0), (.slice none 0 0)] 27 (0, 0)) [] (fun fb g => by kernel_rfl) trivial (fun g2306 w2307 hS2308 => ?_)
  refine ⟨trivial, ?_⟩
  refine WL.store hS2308 0 rfl [(0, (.int .i64 t2299.1.State)), (1, (.int .i64 t2299.1.At)), (2, (.slice A2304 t2299.1.Cells.length c2305))] #[(.int .i64 t2299.1.State), (.int .i64 t2299.1.At), (.slice A2304 t2299.1.Cells.length c2305)] (fun fb => by kernel_rfl) (by kernel_rfl) rfl [1, 2, 3, 4, 5] (by decide) (by decide) (fun w2310 hS2311 => ?_)
  refine ⟨trivial, ?_⟩
  refine seg 12 [] [1, 2, 3, 4, 5] [(1, (.slice A1762 t1757.1.length c1763)), (2, (.int .i64 t1757.2)), (3, (.pointer (some ⟨g2306, 0, none⟩))), (4, (.int .i64 t2299.2.1)), (5, (.int .i64 t2299.2.2))] [] (fun fb => by kernel_rfl) rfl trivial ?_
  refine WL.done rfl ?_
  refine WX.next ?_
  refine WC.seq ?_
  refine WC.region ?_
  obtain ⟨t2312, ht2313, hf⟩ := bind_some hf
  refine WL.call (some 22) 40 #[] (fun fb => by kernel_rfl) (law08_goes_calls t2312 _ ht2313) (fun v w2314 hR2315 => ?_)
  obtain ⟨A2317, c2318, rfl, hk_⟩ := hR2315
  have hS2316 : St NoS w w2314 [] [rowO 88 enc_Action A2317 c2318 t2312.Actions, blk g2306 (.cells #[(.int .i64 t2299.1.State), (.int .i64 t2299.1.At), (.slice A2304 t2299.1.Cells.length c2305)] 27 (0, 0)), rowO 3 encInt A2304 c2305 t2299.1.Cells, rowO 3 encInt (some ⟨g1771, 0, none⟩) 3 [0, 0, 0], rowO 88 enc_Action A1769 c1770 t1764.Actions, rowO 65 enc_Tile A1762 c1763 t1757.1, rowO 88 enc_Action A313 c314 t308.Actions] := hS2311.call hk_ [] [0, 1, 2, 3, 4, 5] (fun g hg => hg.elim) (by simp) (by decide)
  refine ⟨trivial, ?_⟩
  refine WL.new hS2316 23 [] (fun g => (.slice (some ⟨g, 0, none⟩) 3 3)) (.cells #[(.int .i64 0), (.int .i64 0), (.int .i64 0)] 3 (0, 0)) [] (fun fb g => by kernel_rfl) trivial (fun g2319 w2320 hS2321 => ?_)
  refine ⟨trivial, ?_⟩
  have hS2323 : St NoS w w2320 [] [rowO 3 encInt (some ⟨g2319, 0, none⟩) 3 [0, 0, 0], rowO 88 enc_Action A2317 c2318 t2312.Actions, blk g2306 (.cells #[(.int .i64 t2299.1.State), (.int .i64 t2299.1.At), (.slice A2304 t2299.1.Cells.length c2305)] 27 (0, 0)), rowO 3 encInt A2304 c2305 t2299.1.Cells, rowO 3 encInt (some ⟨g1771, 0, none⟩) 3 [0, 0, 0], rowO 88 enc_Action A1769 c1770 t1764.Actions, rowO 65 enc_Tile A1762 c1763 t1757.1, rowO 88 enc_Action A313 c314 t308.Actions] := hS2321.map1 0 _ (fun h => rowO.ofBlk h rfl (Nat.le_of_ble_eq_true (by kernel_rfl))) (fun _ h => by obtain ⟨_, h1, h2⟩ := h; injection h1 with h1; subst h1; exact h2) [1, 2, 3, 4, 5, 6, 7] (by decide) (by decide)
  refine seg 3 [] [1, 2, 3, 4, 5, 22, 24] [(1, (.slice A1762 t1757.1.length c1763)), (2, (.int .i64 t1757.2)), (3, (.pointer (some ⟨g2306, 0, none⟩))), (4, (.int .i64 t2299.2.1)), (5, (.int .i64 t2299.2.2)), (22, (.agg #[(.int .i64 t2312.States), (.int .i64 t2312.Symbols), (.slice A2317 t2312.Actions.length c2318)])), (24, (.agg #[(.int .i64 0), (.int .i64 0), (.slice (some ⟨g2319, 0, none⟩) [0, 0, 0].length 3)]))] [] (fun fb => by kernel_rfl) rfl trivial ?_
  obtain ⟨t2972, ht2973, hf⟩ := bind_some hf
  refine WL.call (some 25) 12 #[(.agg #[(.int .i64 t2312.States), (.int .i64 t2312.Symbols), (.slice A2317 t2312.Actions.length c2318)]), (.agg #[(.int .i64 0), (.int .i64 0), (.slice (some ⟨g2319, 0, none⟩) [0, 0, 0].length 3)]), (.int .i64 3)] (fun fb => by kernel_rfl) (machine_Picture_calls _ t2312 (Config.mk 0 0 [0, 0, 0]) 3 A2317 c2318 (some ⟨g2319, 0, none⟩) 3 t2972 _ (hS2323.ow 1).ofO (hS2323.ow 0).ofO ht2973) (fun v w2974 hR2975 => ?_)
  obtain ⟨A2977, c2978, rfl, hk_⟩ := hR2975
  have hS2976 : St NoS w w2974 [] [rowO 3 encInt A2977 c2978 t2972.1.Cells, rowO 3 encInt (some ⟨g2319, 0, none⟩) 3 [0, 0, 0], rowO 88 enc_Action A2317 c2318 t2312.Actions, blk g2306 (.cells #[(.int .i64 t2299.1.State), (.int .i64 t2299.1.At), (.slice A2304 t2299.1.Cells.length c2305)] 27 (0, 0)), rowO 3 encInt A2304 c2305 t2299.1.Cells, rowO 3 encInt (some ⟨g1771, 0, none⟩) 3 [0, 0, 0], rowO 88 enc_Action A1769 c1770 t1764.Actions, rowO 65 enc_Tile A1762 c1763 t1757.1, rowO 88 enc_Action A313 c314 t308.Actions] := hS2323.call hk_ [] [0, 1, 2, 3, 4, 5, 6, 7] (fun g hg => hg.elim) (by simp) (by decide)
  refine ⟨trivial, ?_⟩
  refine seg 7 [] [1, 2, 3, 4, 5, 26, 27] [(1, (.slice A1762 t1757.1.length c1763)), (2, (.int .i64 t1757.2)), (3, (.pointer (some ⟨g2306, 0, none⟩))), (4, (.int .i64 t2299.2.1)), (5, (.int .i64 t2299.2.2)), (26, (.agg #[(.int .i64 t2972.1.Width), (.int .i64 t2972.1.Height), (.slice A2977 t2972.1.Cells.length c2978)])), (27, (.int .i64 t2972.2))] [] (fun fb => by kernel_rfl) rfl trivial ?_
  refine WL.new hS2976 6 [] (fun g => (.pointer (some ⟨g, 0, none⟩))) (.cells #[(.int .i64 0), (.int .i64 0), (.slice none 0 0)] 31 (0, 0)) [] (fun fb g => by kernel_rfl) trivial (fun g2979 w2980 hS2981 => ?_)
  refine ⟨trivial, ?_⟩
  refine WL.store hS2981 0 rfl [(0, (.int .i64 t2972.1.Width)), (1, (.int .i64 t2972.1.Height)), (2, (.slice A2977 t2972.1.Cells.length c2978))] #[(.int .i64 t2972.1.Width), (.int .i64 t2972.1.Height), (.slice A2977 t2972.1.Cells.length c2978)] (fun fb => by kernel_rfl) (by kernel_rfl) rfl [1, 2, 3, 4, 5, 6, 7, 8, 9] (by decide) (by decide) (fun w2983 hS2984 => ?_)
  refine ⟨trivial, ?_⟩
  refine seg 10 [] [1, 2, 3, 4, 5, 7] [(1, (.slice A1762 t1757.1.length c1763)), (2, (.int .i64 t1757.2)), (3, (.pointer (some ⟨g2306, 0, none⟩))), (4, (.int .i64 t2299.2.1)), (5, (.int .i64 t2299.2.2)), (7, (.int .i64 t2972.2))] [] (fun fb => by kernel_rfl) rfl trivial ?_
  refine WL.done rfl ?_
  refine WX.next ?_
  refine WC.seq ?_
  refine WC.region ?_
  refine seg 3 [] [1, 3, 4, 5, 7, 30] [(1, (.slice A1762 t1757.1.length c1763)), (3, (.pointer (some ⟨g2306, 0, none⟩))), (4, (.int .i64 t2299.2.1)), (5, (.int .i64 t2299.2.2)), (7, (.int .i64 t2972.2)), (30, (.bool (t1757.2 == 0)))] [] (fun fb => by kernel_rfl) rfl trivial ?_
  refine WL.cutV (T := Bool) 7 (fun t => [(34, (.bool t)), (3, (.pointer (some ⟨g2306, 0, none⟩))), (4, (.int .i64 t2299.2.1)), (5, (.int .i64 t2299.2.2)), (7, (.int .i64 t2972.2))]) (fun t => t = ((t1757.2 == 0) && ((t1757.1.length : Int) == 8))) (fun K => ?_) ?_
  ·
    rcases Bool.eq_false_or_eq_true (t1757.2 == 0) with h2985 | h2985
    ·
      refine WL.setB 30 h2985 rfl ?_
      refine seg 7 [] [3, 4, 5, 7, 34] [(3, (.pointer (some ⟨g2306, 0, none⟩))), (4, (.int .i64 t2299.2.1)), (5, (.int .i64 t2299.2.2)), (7, (.int .i64 t2972.2)), (34, (.bool ((t1757.1.length : Int) == 8)))] [] (fun fb => by kernel_rfl) rfl trivial ?_
      exact WL.toV K ((t1757.1.length : Int) == 8) [34, 3, 4, 5, 7] rfl (by rw [h2985]; rfl)
    refine WL.setB 30 h2985 rfl ?_
    refine seg 7 [] [3, 4, 5, 7, 34] [(3, (.pointer (some ⟨g2306, 0, none⟩))), (4, (.int .i64 t2299.2.1)), (5, (.int .i64 t2299.2.2)), (7, (.int .i64 t2972.2)), (34, (.bool false))] [] (fun fb => by kernel_rfl) rfl trivial ?_
    exact WL.toV K false [34, 3, 4, 5, 7] rfl (by rw [h2985]; rfl)
  rintro b2986 rfl
  refine seg 8 [] [3, 4, 5, 7, 35] [(3, (.pointer (some ⟨g2306, 0, none⟩))), (4, (.int .i64 t2299.2.1)), (5, (.int .i64 t2299.2.2)), (7, (.int .i64 t2972.2)), (35, (.bool ((t1757.2 == 0) && ((t1757.1.length : Int) == 8))))] [] (fun fb => by kernel_rfl) rfl trivial ?_
  refine WL.cutV (T := Bool) 11 (fun t => [(38, (.bool t)), (3, (.pointer (some ⟨g2306, 0, none⟩))), (4, (.int .i64 t2299.2.1)), (7, (.int .i64 t2972.2))]) (fun t => t = (((t1757.2 == 0) && ((t1757.1.length : Int) == 8)) && (t2299.2.2 == 0))) (fun K => ?_) ?_
  ·
    rcases Bool.eq_false_or_eq_true ((t1757.2 == 0) && ((t1757.1.length : Int) == 8)) with h2987 | h2987
    ·
      refine WL.setB 35 h2987 rfl ?_
      refine seg 11 [] [3, 4, 7, 38] [(3, (.pointer (some ⟨g2306, 0, none⟩))), (4, (.int .i64 t2299.2.1)), (7, (.int .i64 t2972.2)), (38, (.bool (t2299.2.2 == 0)))] [] (fun fb => by kernel_rfl) rfl trivial ?_
      exact WL.toV K (t2299.2.2 == 0) [38, 3, 4, 7] rfl (by rw [h2987]; rfl)
    refine WL.setB 35 h2987 rfl ?_
    refine seg 11 [] [3, 4, 7, 38] [(3, (.pointer (some ⟨g2306, 0, none⟩))), (4, (.int .i64 t2299.2.1)), (7, (.int .i64 t2972.2)), (38, (.bool false))] [] (fun fb => by kernel_rfl) rfl trivial ?_
    exact WL.toV K false [38, 3, 4, 7] rfl (by rw [h2987]; rfl)
  rintro b2988 rfl
  refine seg 12 [] [3, 4, 7, 39] [(3, (.pointer (some ⟨g2306, 0, none⟩))), (4, (.int .i64 t2299.2.1)), (7, (.int .i64 t2972.2)), (39, (.bool (((t1757.2 == 0) && ((t1757.1.length : Int) == 8)) && (t2299.2.2 == 0))))] [] (fun fb => by kernel_rfl) rfl trivial ?_
  refine WL.cutV (T := Bool) 15 (fun t => [(42, (.bool t)), (3, (.pointer (some ⟨g2306, 0, none⟩))), (7, (.int .i64 t2972.2))]) (fun t => t = ((((t1757.2 == 0) && ((t1757.1.length : Int) == 8)) && (t2299.2.2 == 0)) && (t2299.2.1 == 2))) (fun K => ?_) ?_
  ·
    rcases Bool.eq_false_or_eq_true (((t1757.2 == 0) && ((t1757.1.length : Int) == 8)) && (t2299.2.2 == 0)) with h2989 | h2989
    ·
      refine WL.setB 39 h2989 rfl ?_
      refine seg 15 [] [3, 7, 42] [(3, (.pointer (some ⟨g2306, 0, none⟩))), (7, (.int .i64 t2972.2)), (42, (.bool (t2299.2.1 == 2)))] [] (fun fb => by kernel_rfl) rfl trivial ?_
      exact WL.toV K (t2299.2.1 == 2) [42, 3, 7] rfl (by rw [h2989]; rfl)
    refine WL.setB 39 h2989 rfl ?_
    refine seg 15 [] [3, 7, 42] [(3, (.pointer (some ⟨g2306, 0, none⟩))), (7, (.int .i64 t2972.2)), (42, (.bool false))] [] (fun fb => by kernel_rfl) rfl trivial ?_
    exact WL.toV K false [42, 3, 7] rfl (by rw [h2989]; rfl)
  rintro b2990 rfl
  refine seg 16 [] [3, 7, 43] [(3, (.pointer (some ⟨g2306, 0, none⟩))), (7, (.int .i64 t2972.2)), (43, (.bool ((((t1757.2 == 0) && ((t1757.1.length : Int) == 8)) && (t2299.2.2 == 0)) && (t2299.2.1 == 2))))] [] (fun fb => by kernel_rfl) rfl trivial ?_
  refine WL.cutV (T := Bool) 20 (fun t => [(47, (.bool t)), (7, (.int .i64 t2972.2))]) (fun t => t = (((((t1757.2 == 0) && ((t1757.1.length : Int) == 8)) && (t2299.2.2 == 0)) && (t2299.2.1 == 2)) && (t2299.1.At == 2))) (fun K => ?_) ?_
  ·
    rcases Bool.eq_false_or_eq_true ((((t1757.2 == 0) && ((t1757.1.length : Int) == 8)) && (t2299.2.2 == 0)) && (t2299.2.1 == 2)) with h2991 | h2991
    ·
      refine WL.setB 43 h2991 rfl ?_
      refine seg 20 [.v (.int .i64 t2299.1.At)] [7, 47] [(7, (.int .i64 t2972.2)), (47, (.bool (t2299.1.At == 2)))] [.cell ⟨g2306, 1, none⟩ (.int .i64 t2299.1.At)] (fun fb => by kernel_rfl) rfl ⟨hS2984.cell 4 rfl 1 rfl, trivial⟩ ?_
      exact WL.toV K (t2299.1.At == 2) [47, 7] rfl (by rw [h2991]; rfl)
    refine WL.setB 43 h2991 rfl ?_
    refine seg 20 [] [7, 47] [(7, (.int .i64 t2972.2)), (47, (.bool false))] [] (fun fb => by kernel_rfl) rfl trivial ?_
    exact WL.toV K false [47, 7] rfl (by rw [h2991]; rfl)
  rintro b2992 rfl
  refine seg 21 [] [7, 48] [(7, (.int .i64 t2972.2)), (48, (.bool (((((t1757.2 == 0) && ((t1757.1.length : Int) == 8)) && (t2299.2.2 == 0)) && (t2299.2.1 == 2)) && (t2299.1.At == 2))))] [] (fun fb => by kernel_rfl) rfl trivial ?_
  refine WL.cutV (T := Bool) 24 (fun t => [(51, (.bool t))]) (fun t => t = ((((((t1757.2 == 0) && ((t1757.1.length : Int) == 8)) && (t2299.2.2 == 0)) && (t2299.2.1 == 2)) && (t2299.1.At == 2)) && (t2972.2 == 6))) (fun K => ?_) ?_
  ·
    rcases Bool.eq_false_or_eq_true (((((t1757.2 == 0) && ((t1757.1.length : Int) == 8)) && (t2299.2.2 == 0)) && (t2299.2.1 == 2)) && (t2299.1.At == 2)) with h2993 | h2993
    ·
      refine WL.setB 48 h2993 rfl ?_
      refine seg 24 [] [51] [(51, (.bool (t2972.2 == 6)))] [] (fun fb => by kernel_rfl) rfl trivial ?_
      exact WL.toV K (t2972.2 == 6) [51] rfl (by rw [h2993]; rfl)
    refine WL.setB 48 h2993 rfl ?_
    refine seg 24 [] [51] [(51, (.bool false))] [] (fun fb => by kernel_rfl) rfl trivial ?_
    exact WL.toV K false [51] rfl (by rw [h2993]; rfl)
  rintro b2994 rfl
  refine seg 25 [] [0] [(0, (.bool ((((((t1757.2 == 0) && ((t1757.1.length : Int) == 8)) && (t2299.2.2 == 0)) && (t2299.2.1 == 2)) && (t2299.1.At == 2)) && (t2972.2 == 6))))] [] (fun fb => by kernel_rfl) rfl trivial ?_
  refine WL.done rfl ?_
  refine WX.next ?_
  refine WC.ret ?_
  injection hf with hf
  subst hf
  exact WX.ret_ [] (.bool ((((((t1757.2 == 0) && ((t1757.1.length : Int) == 8)) && (t2299.2.2 == 0)) && (t2299.2.1 == 2)) && (t2299.1.At == 2)) && (t2972.2 == 6))) [] (fun fb => by kernel_rfl) trivial ⟨_, rfl, rfl, hS2984.keep⟩
theorem tile_colour_1_calls (p0 : Int)  (r : Bool) (w : World)  (hf : tile_colour_1 p0 = some r) :
    CallsR Try.prog 73 #[(.int .i64 p0)] w (fun v w' => v = (.bool r) ∧ Keeps NoS w w') := by
  have hS : St NoS w w [] [] := St.init (ro_nil _ _)
  refine enter 9 Try.func73 rfl Try.ntmps73 rfl ?_
  unfold tile_colour_1 at hf
  refine WC.seq ?_
  refine WC.region ?_
  refine seg 1 [] [0] [(0, (.int .i64 p0))] [] (fun fb => by kernel_rfl) rfl trivial ?_
  refine WL.done rfl ?_
  refine WX.next ?_
  refine WC.seq ?_
  refine WC.region ?_
  refine seg 3 [] [0, 5] [(0, (.int .i64 p0)), (5, (.bool (decide (p0 < 0))))] [] (fun fb => by kernel_rfl) rfl trivial ?_
  refine WL.cutV (T := Bool) 6 (fun t => [(8, (.bool t))]) (fun t => t = ((decide (p0 < 0)) || (decide (p0 ≥ 1000)))) (fun K => ?_) ?_
  ·
    rcases Bool.eq_false_or_eq_true (decide (p0 < 0)) with h3087 | h3087
    ·
      refine WL.setB 5 h3087 rfl ?_
      refine seg 6 [] [8] [(8, (.bool true))] [] (fun fb => by kernel_rfl) rfl trivial ?_
      exact WL.toV K true [8] rfl (by rw [h3087]; rfl)
    refine WL.setB 5 h3087 rfl ?_
    refine seg 6 [] [8] [(8, (.bool (decide (p0 ≥ 1000))))] [] (fun fb => by kernel_rfl) rfl trivial ?_
    exact WL.toV K (decide (p0 ≥ 1000)) [8] rfl (by rw [h3087]; rfl)
  rintro b3088 rfl
  refine seg 7 [] [2] [(2, (.bool ((decide (p0 < 0)) || (decide (p0 ≥ 1000)))))] [] (fun fb => by kernel_rfl) rfl trivial ?_
  refine WL.done rfl ?_
  refine WX.next ?_
  refine WC.ret ?_
  injection hf with hf
  subst hf
  exact WX.ret_ [] (.bool ((decide (p0 < 0)) || (decide (p0 ≥ 1000)))) [] (fun fb => by kernel_rfl) trivial ⟨_, rfl, rfl, hS.keep⟩
theorem slices_IndexFunc_int_int_with_tile_colour_1_calls (k : Nat) (p0 : List Int) (A_p0 : Option Addr) (c_p0 : Nat) (r : Int) (w : World) (hR0 : RO NoS w (rowR encInt A_p0 c_p0 p0)) (hf : slices_IndexFunc_int_int_with_tile_colour_1 k p0 = some r) :
    CallsR Try.prog 65 #[(.slice A_p0 p0.length c_p0), (.func (.func 73) #[] #[])] w (fun v w' => v = (.int .i64 r) ∧ Keeps NoS w w') := by
  have hS : St NoS w w [rowR encInt A_p0 c_p0 p0] [] := St.init (ro_cons hR0 (ro_nil _ _))
  refine enter 19 Try.func65 rfl Try.ntmps65 rfl ?_
  unfold slices_IndexFunc_int_int_with_tile_colour_1 at hf
  refine WC.seq ?_
  refine WC.region ?_
  refine seg 1 [] [0, 1] [(0, (.slice A_p0 p0.length c_p0)), (1, (.func (.func 73) #[] #[]))] [] (fun fb => by kernel_rfl) rfl trivial ?_
  refine WL.done rfl ?_
  refine WX.next ?_
  refine WC.seq ?_
  refine WC.seq ?_
  refine WC.region ?_
  refine seg 3 [] [0, 1, 7, 8] [(0, (.slice A_p0 p0.length c_p0)), (1, (.func (.func 73) #[] #[])), (7, (.int .i64 (p0.length : Int))), (8, (.int .i64 0))] [] (fun fb => by kernel_rfl) rfl trivial ?_
  refine WL.done rfl ?_
  refine WX.next ?_
  obtain ⟨x3105, hx3106, hf⟩ := bind_some hf
  refine WC.cutN (T := Unit) (fun t => []) (fun t w1 => St NoS w w1 [rowR encInt A_p0 c_p0 p0] [] ∧ x3105 = .inr t) (fun Kx3105 => ?_) ?_
  ·
    refine WC.block ?_
    refine WC.loop (T := Int) (fun t => [(0, (.slice A_p0 p0.length c_p0)), (1, (.func (.func 73) #[] #[])), (7, (.int .i64 (p0.length : Int))), (8, (.int .i64 t))]) (fun n t w1 => St NoS w w1 [rowR encInt A_p0 c_p0 p0] [] ∧ slices_IndexFunc_int_int_with_tile_colour_1.l0 n t p0 = some x3105) k 0 [0, 1, 7, 8] rfl ⟨(hS.subR [0]).sub [] (by decide), hx3106⟩ ?_
    rintro k3107 x3104 w3108 ⟨hS3109, hl3110⟩
    cases k3107 with
    | zero => rw [slices_IndexFunc_int_int_with_tile_colour_1.l0] at hl3110; cases hl3110
    | succ k3107 =>
      rw [slices_IndexFunc_int_int_with_tile_colour_1.l0] at hl3110
      refine WC.seq ?_
      refine WC.region ?_
      refine seg 1 [] [0, 1, 7, 8, 9] [(0, (.slice A_p0 p0.length c_p0)), (1, (.func (.func 73) #[] #[])), (7, (.int .i64 (p0.length : Int))), (8, (.int .i64 x3104)), (9, (.bool (decide (x3104 < (p0.length : Int)))))] [] (fun fb => by kernel_rfl) rfl trivial ?_
      refine WL.done rfl ?_
      refine WX.next ?_
      refine WC.seq ?_
      rcases br_some hl3110 with ⟨h3111, hl3110⟩ | ⟨h3111, hl3110⟩
      · refine WC.condT2 (fun fb => by kernel_rfl) h3111 ?_
        refine WC.skip ?_
        refine WX.next ?_
        refine WC.seq ?_
        refine WC.block ?_
        refine WC.seq ?_
        refine WC.region ?_
        refine seg 2 [] [0, 1, 5, 7, 8] [(0, (.slice A_p0 p0.length c_p0)), (1, (.func (.func 73) #[] #[])), (5, (.int .i64 x3104)), (7, (.int .i64 (p0.length : Int))), (8, (.int .i64 x3104))] [] (fun fb => by kernel_rfl) rfl trivial ?_
        refine WL.done rfl ?_
        refine WX.next ?_
        refine WC.seq ?_
        refine WC.region ?_
        refine seg 3 [] [0, 1, 5, 7, 8, 11, 12, 13] [(0, (.slice A_p0 p0.length c_p0)), (1, (.func (.func 73) #[] #[])), (5, (.int .i64 x3104)), (7, (.int .i64 (p0.length : Int))), (8, (.int .i64 x3104)), (11, (.func (.func 73) #[] #[])), (12, (.slice A_p0 p0.length c_p0)), (13, (.int .i64 x3104))] [] (fun fb => by kernel_rfl) rfl trivial ?_
        obtain ⟨h3112, hl3110⟩ := as_some hl3110
        refine seg 5 [.v (.int .i64 (rdD p0 x3104 0))] [0, 1, 5, 7, 8, 11, 15] [(0, (.slice A_p0 p0.length c_p0)), (1, (.func (.func 73) #[] #[])), (5, (.int .i64 x3104)), (7, (.int .i64 (p0.length : Int))), (8, (.int .i64 x3104)), (11, (.func (.func 73) #[] #[])), (15, (.int .i64 (rdD p0 x3104 0)))] [.idx A_p0 x3104 p0.length, .cell ((adr A_p0).add ((x3104).toNat * 1)) (.int .i64 (rdD p0 x3104 0))] (fun fb => by kernel_rfl) rfl ⟨rowR.adr (hS3109.rd 0).1 h3112.1 h3112.2, rowR.cell (hS3109.rd 0).1 0 h3112.1 h3112.2 0 rfl, trivial⟩ ?_
        obtain ⟨t3113, ht3114, hl3110⟩ := bind_some hl3110
        refine WL.call (some 16) 73 #[(.int .i64 (rdD p0 x3104 0))] (fun fb => by kernel_rfl) (tile_colour_1_calls (rdD p0 x3104 0) t3113 _ ht3114) (fun v w3115 hR3116 => ?_)
        obtain ⟨rfl, hk_⟩ := hR3116
        have hS3117 := hS3109.keepN hk_
        refine ⟨trivial, ?_⟩
        refine WL.done rfl ?_
        refine WX.next ?_
        rcases br_some hl3110 with ⟨h3118, hl3110⟩ | ⟨h3118, hl3110⟩
        · refine WC.condT2 (fun fb => by kernel_rfl) h3118 ?_
          refine WC.seq ?_
          refine WC.region ?_
          refine seg 2 [] [4] [(4, (.int .i64 x3104))] [] (fun fb => by kernel_rfl) rfl trivial ?_
          refine WL.done rfl ?_
          refine WX.next ?_
          refine WC.ret ?_
          injection hl3110 with hl3110
          subst hl3110
          injection hf with hf
          subst hf
          exact WX.blockR (WX.thenR (WX.thenR (WX.blockR (WX.thenR (WX.ret_ [] (.int .i64 x3104) [] (fun fb => by kernel_rfl) trivial ⟨_, rfl, rfl, hS3117.keep⟩)))))
        refine WC.condF2 (fun fb => by kernel_rfl) h3118 ?_
        refine WC.skip ?_
        refine WX.blockN (WX.next ?_)
        refine WC.region ?_
        refine seg 2 [] [0, 1, 7, 8] [(0, (.slice A_p0 p0.length c_p0)), (1, (.func (.func 73) #[] #[])), (7, (.int .i64 (p0.length : Int))), (8, (.int .i64 (w64 (x3104 + 1))))] [] (fun fb => by kernel_rfl) rfl trivial ?_
        refine WL.done rfl ?_
        exact WX.again k3107 (Nat.lt_succ_self _) (w64 (x3104 + 1)) [0, 1, 7, 8] rfl ⟨(hS3117.subR [0]).sub [] (by decide), hl3110⟩
      refine WC.condF2 (fun fb => by kernel_rfl) h3111 ?_
      refine WC.exit ?_
      injection hl3110 with hl3110
      exact WX.thenX (WX.thenX (WX.blockHere (WX.to Kx3105 () [] rfl ⟨(hS3109.subR [0]).sub [] (by decide), hl3110.symm⟩)))
  rintro y3122 w3119 ⟨hS3120, hq3121⟩
  subst hq3121
  have hf := sum_inr hf
  refine WX.next ?_
  refine WC.seq ?_
  refine WC.region ?_
  refine seg 1 [] [4] [(4, (.int .i64 (-1)))] [] (fun fb => by kernel_rfl) rfl trivial ?_
  refine WL.done rfl ?_
  refine WX.next ?_
  refine WC.ret ?_
  injection hf with hf
  subst hf
  exact WX.ret_ [] (.int .i64 (-1)) [] (fun fb => by kernel_rfl) trivial ⟨_, rfl, rfl, hS3120.keep⟩
theorem slices_ContainsFunc_int_int_with_tile_colour_1_calls (k : Nat) (p0 : List Int) (A_p0 : Option Addr) (c_p0 : Nat) (r : Bool) (w : World) (hR0 : RO NoS w (rowR encInt A_p0 c_p0 p0)) (hf : slices_ContainsFunc_int_int_with_tile_colour_1 k p0 = some r) :
    CallsR Try.prog 49 #[(.slice A_p0 p0.length c_p0), (.func (.func 73) #[] #[])] w (fun v w' => v = (.bool r) ∧ Keeps NoS w w') := by
  have hS : St NoS w w [rowR encInt A_p0 c_p0 p0] [] := St.init (ro_cons hR0 (ro_nil _ _))
  refine enter 9 Try.func49 rfl Try.ntmps49 rfl ?_
  unfold slices_ContainsFunc_int_int_with_tile_colour_1 at hf
  refine WC.seq ?_
  refine WC.region ?_
  refine seg 1 [] [0, 1] [(0, (.slice A_p0 p0.length c_p0)), (1, (.func (.func 73) #[] #[]))] [] (fun fb => by kernel_rfl) rfl trivial ?_
  refine WL.done rfl ?_
  refine WX.next ?_
  refine WC.seq ?_
  refine WC.region ?_
  refine seg 2 [] [5, 6] [(5, (.slice A_p0 p0.length c_p0)), (6, (.func (.func 73) #[] #[]))] [] (fun fb => by kernel_rfl) rfl trivial ?_
  obtain ⟨t3124, ht3125, hf⟩ := bind_some hf
  refine WL.call (some 7) 65 #[(.slice A_p0 p0.length c_p0), (.func (.func 73) #[] #[])] (fun fb => by kernel_rfl) (slices_IndexFunc_int_int_with_tile_colour_1_calls _ p0 A_p0 c_p0 t3124 _ (hS.rd 0) ht3125) (fun v w3126 hR3127 => ?_)
  obtain ⟨rfl, hk_⟩ := hR3127
  have hS3128 := hS.keepN hk_
  refine ⟨trivial, ?_⟩
  refine seg 5 [] [4] [(4, (.bool (decide (t3124 ≥ 0))))] [] (fun fb => by kernel_rfl) rfl trivial ?_
  refine WL.done rfl ?_
  refine WX.next ?_
  refine WC.ret ?_
  injection hf with hf
  subst hf
  exact WX.ret_ [] (.bool (decide (t3124 ≥ 0))) [] (fun fb => by kernel_rfl) trivial ⟨_, rfl, rfl, hS3128.keep⟩
theorem tile_colour_calls (k : Nat) (p0 : List Int) (A_p0 : Option Addr) (c_p0 : Nat) (r : Bool) (w : World) (hR0 : RO NoS w (rowR encInt A_p0 c_p0 p0)) (hf : tile_colour k p0 = some r) :
    CallsR Try.prog 72 #[(.slice A_p0 p0.length c_p0)] w (fun v w' => v = (.bool r) ∧ Keeps NoS w w') := by
  have hS : St NoS w w [rowR encInt A_p0 c_p0 p0] [] := St.init (ro_cons hR0 (ro_nil _ _))
  refine enter 6 Try.func72 rfl Try.ntmps72 rfl ?_
  unfold tile_colour at hf
  refine WC.seq ?_
  refine WC.region ?_
  refine seg 1 [] [0] [(0, (.slice A_p0 p0.length c_p0))] [] (fun fb => by kernel_rfl) rfl trivial ?_
  refine WL.done rfl ?_
  refine WX.next ?_
  refine WC.seq ?_
  refine WC.region ?_
  refine seg 1 [] [3] [(3, (.slice A_p0 p0.length c_p0))] [] (fun fb => by kernel_rfl) rfl trivial ?_
  obtain ⟨t3129, ht3130, hf⟩ := bind_some hf
  refine WL.call (some 4) 49 #[(.slice A_p0 p0.length c_p0), (.func (.func 73) #[] #[])] (fun fb => by kernel_rfl) (slices_ContainsFunc_int_int_with_tile_colour_1_calls _ p0 A_p0 c_p0 t3129 _ (hS.rd 0) ht3130) (fun v w3131 hR3132 => ?_)
  obtain ⟨rfl, hk_⟩ := hR3132
  have hS3133 := hS.keepN hk_
  refine ⟨trivial, ?_⟩
  refine seg 4 [] [2] [(2, (.bool (!t3129)))] [] (fun fb => by kernel_rfl) rfl trivial ?_
  refine WL.done rfl ?_
  refine WX.next ?_
  refine WC.ret ?_
  injection hf with hf
  subst hf
  exact WX.ret_ [] (.bool (!t3129)) [] (fun fb => by kernel_rfl) trivial ⟨_, rfl, rfl, hS3133.keep⟩
theorem tile_Valid_key65 : KeyK Try.prog 65 (aggI ints_Tile) := KeyK.struct (n := 4) (by kernel_rfl) ints_Tile (fun _ => rfl) (fun x y h => by cases x; cases y; simp only [ints_Tile, List.cons.injEq, and_true] at h; obtain ⟨rfl, rfl, rfl, rfl⟩ := h; rfl)
theorem tile_Valid_calls (k : Nat) (p0 : List Tile) (A_p0 : Option Addr) (c_p0 : Nat) (r : Bool) (w : World) (hR0 : RO NoS w (rowR enc_Tile A_p0 c_p0 p0)) (hf : tile_Valid k p0 = some r) :
    CallsR Try.prog 66 #[(.slice A_p0 p0.length c_p0)] w (fun v w' => v = (.bool r) ∧ Keeps NoS w w') := by
  have hS : St NoS w w [rowR enc_Tile A_p0 c_p0 p0] [] := St.init (ro_cons hR0 (ro_nil _ _))
  refine enter 35 Try.func66 rfl Try.ntmps66 rfl ?_
  unfold tile_Valid at hf
  refine WC.seq ?_
  refine WC.region ?_
  refine seg 1 [] [0] [(0, (.slice A_p0 p0.length c_p0))] [] (fun fb => by kernel_rfl) rfl trivial ?_
  refine WL.done rfl ?_
  refine WX.next ?_
  refine WC.seq ?_
  refine WC.seq ?_
  refine WC.region ?_
  refine seg 3 [] [0, 8] [(0, (.slice A_p0 p0.length c_p0)), (8, (.bool (decide ((p0.length : Int) > 1000))))] [] (fun fb => by kernel_rfl) rfl trivial ?_
  refine WL.done rfl ?_
  refine WX.next ?_
  rcases br_some hf with ⟨h3068, hf⟩ | ⟨h3068, hf⟩
  · refine WC.condT2 (fun fb => by kernel_rfl) h3068 ?_
    refine WC.seq ?_
    refine WC.region ?_
    refine seg 1 [] [2] [(2, (.bool false))] [] (fun fb => by kernel_rfl) rfl trivial ?_
    refine WL.done rfl ?_
    refine WX.next ?_
    refine WC.ret ?_
    injection hf with hf
    subst hf
    exact WX.thenR (WX.ret_ [] (.bool false) [] (fun fb => by kernel_rfl) trivial ⟨_, rfl, rfl, hS.keep⟩)
  refine WC.condF2 (fun fb => by kernel_rfl) h3068 ?_
  refine WC.skip ?_
  refine WX.next ?_
  refine WC.seq ?_
  refine WC.region ?_
  refine WL.new hS 9 [] (fun g => (.map (some g))) (mapObj (aggI ints_Tile) vB ([] : List (Tile × Bool))) [] (fun fb g => by kernel_rfl) trivial (fun g3069 w3070 hS3071 => ?_)
  refine ⟨trivial, ?_⟩
  refine seg 2 [] [0, 3] [(0, (.slice A_p0 p0.length c_p0)), (3, (.map (some g3069)))] [] (fun fb => by kernel_rfl) rfl trivial ?_
  refine WL.done rfl ?_
  refine WX.next ?_
  refine WC.seq ?_
  refine WC.seq ?_
  refine WC.region ?_
  refine seg 3 [] [3, 10, 11, 12] [(3, (.map (some g3069))), (10, (.slice A_p0 p0.length c_p0)), (11, (.int .i64 (p0.length : Int))), (12, (.int .i64 0))] [] (fun fb => by kernel_rfl) rfl trivial ?_
  refine WL.done rfl ?_
  refine WX.next ?_
  obtain ⟨x3205, hx3206, hf⟩ := bind_some hf
  refine WC.cutN (T := Unit) (fun t => []) (fun t w1 => St NoS w w1 [rowR enc_Tile A_p0 c_p0 p0] [] ∧ x3205 = .inr t) (fun Kx3205 => ?_) ?_
  ·
    refine WC.block ?_
    refine WC.loop (T := (List (Tile × Bool)) × Int) (fun t => [(3, (.map (some g3069))), (10, (.slice A_p0 p0.length c_p0)), (11, (.int .i64 (p0.length : Int))), (12, (.int .i64 t.2))]) (fun n t w1 => St NoS w w1 [rowR enc_Tile A_p0 c_p0 p0] [blk g3069 (mapObj (aggI ints_Tile) vB t.1)] ∧ tile_Valid.l0 n t.1 t.2 p0 = some x3205) k (([] : List (Tile × Bool)), 0) [3, 10, 11, 12] rfl ⟨(hS3071.subR [0]).sub [0] (by decide), hx3206⟩ ?_
    rintro k3207 ⟨l3203, x3204⟩ w3208 ⟨hS3209, hl3210⟩
    cases k3207 with
    | zero => rw [tile_Valid.l0] at hl3210; cases hl3210
    | succ k3207 =>
      rw [tile_Valid.l0] at hl3210
      refine WC.seq ?_
      refine WC.region ?_
      refine seg 1 [] [3, 10, 11, 12, 13] [(3, (.map (some g3069))), (10, (.slice A_p0 p0.length c_p0)), (11, (.int .i64 (p0.length : Int))), (12, (.int .i64 x3204)), (13, (.bool (decide (x3204 < (p0.length : Int)))))] [] (fun fb => by kernel_rfl) rfl trivial ?_
      refine WL.done rfl ?_
      refine WX.next ?_
      refine WC.seq ?_
      rcases br_some hl3210 with ⟨h3211, hl3210⟩ | ⟨h3211, hl3210⟩
      · refine WC.condT2 (fun fb => by kernel_rfl) h3211 ?_
        refine WC.skip ?_
        refine WX.next ?_
        refine WC.seq ?_
        refine WC.block ?_
        refine WC.seq ?_
        refine WC.region ?_
        obtain ⟨h3212, hl3210⟩ := as_some hl3210
        refine seg 2 [.v (.int .i64 ((rdD p0 x3204 z_Tile).N)), .v (.int .i64 ((rdD p0 x3204 z_Tile).E)), .v (.int .i64 ((rdD p0 x3204 z_Tile).S)), .v (.int .i64 ((rdD p0 x3204 z_Tile).W))] [3, 10, 11, 12, 15] [(3, (.map (some g3069))), (10, (.slice A_p0 p0.length c_p0)), (11, (.int .i64 (p0.length : Int))), (12, (.int .i64 x3204)), (15, (.agg #[(.int .i64 ((rdD p0 x3204 z_Tile).N)), (.int .i64 ((rdD p0 x3204 z_Tile).E)), (.int .i64 ((rdD p0 x3204 z_Tile).S)), (.int .i64 ((rdD p0 x3204 z_Tile).W))]))] [.idx A_p0 x3204 p0.length, .cell ((adr A_p0).add ((x3204).toNat * 4)) (.int .i64 ((rdD p0 x3204 z_Tile).N)), .cell (((adr A_p0).add ((x3204).toNat * 4)).add 1) (.int .i64 ((rdD p0 x3204 z_Tile).E)), .cell (((adr A_p0).add ((x3204).toNat * 4)).add 2) (.int .i64 ((rdD p0 x3204 z_Tile).S)), .cell (((adr A_p0).add ((x3204).toNat * 4)).add 3) (.int .i64 ((rdD p0 x3204 z_Tile).W))] (fun fb => by kernel_rfl) rfl ⟨rowR.adr (hS3209.rd 0).1 h3212.1 h3212.2, rowR.cell (hS3209.rd 0).1 z_Tile h3212.1 h3212.2 0 rfl, rowR.cell (hS3209.rd 0).1 z_Tile h3212.1 h3212.2 1 rfl, rowR.cell (hS3209.rd 0).1 z_Tile h3212.1 h3212.2 2 rfl, rowR.cell (hS3209.rd 0).1 z_Tile h3212.1 h3212.2 3 rfl, trivial⟩ ?_
        refine WL.new hS3209 5 [] (fun g => (.pointer (some ⟨g, 0, none⟩))) (.cells #[(.int .i64 0), (.int .i64 0), (.int .i64 0), (.int .i64 0)] 65 (0, 0)) [] (fun fb g => by kernel_rfl) trivial (fun g3213 w3214 hS3215 => ?_)
        refine ⟨trivial, ?_⟩
        refine WL.store hS3215 0 rfl [(0, (.int .i64 ((rdD p0 x3204 z_Tile).N))), (1, (.int .i64 ((rdD p0 x3204 z_Tile).E))), (2, (.int .i64 ((rdD p0 x3204 z_Tile).S))), (3, (.int .i64 ((rdD p0 x3204 z_Tile).W)))] #[(.int .i64 ((rdD p0 x3204 z_Tile).N)), (.int .i64 ((rdD p0 x3204 z_Tile).E)), (.int .i64 ((rdD p0 x3204 z_Tile).S)), (.int .i64 ((rdD p0 x3204 z_Tile).W))] (fun fb => by kernel_rfl) (by kernel_rfl) rfl [1] (by decide) (by decide) (fun w3217 hS3218 => ?_)
        refine ⟨trivial, ?_⟩
        refine WL.done rfl ?_
        refine WX.next ?_
        refine WC.seq ?_
        refine WC.seq ?_
        refine WC.region ?_
        refine seg 2 [.v (.int .i64 ((rdD p0 x3204 z_Tile).N)), .v (.int .i64 ((rdD p0 x3204 z_Tile).E)), .v (.int .i64 ((rdD p0 x3204 z_Tile).S)), .v (.int .i64 ((rdD p0 x3204 z_Tile).W))] [3, 5, 10, 11, 12, 16, 17] [(3, (.map (some g3069))), (5, (.pointer (some ⟨g3213, 0, none⟩))), (10, (.slice A_p0 p0.length c_p0)), (11, (.int .i64 (p0.length : Int))), (12, (.int .i64 x3204)), (16, (.map (some g3069))), (17, (.agg #[(.int .i64 ((rdD p0 x3204 z_Tile).N)), (.int .i64 ((rdD p0 x3204 z_Tile).E)), (.int .i64 ((rdD p0 x3204 z_Tile).S)), (.int .i64 ((rdD p0 x3204 z_Tile).W))]))] [.cell ⟨g3213, 0, none⟩ (.int .i64 ((rdD p0 x3204 z_Tile).N)), .cell ⟨g3213, 1, none⟩ (.int .i64 ((rdD p0 x3204 z_Tile).E)), .cell ⟨g3213, 2, none⟩ (.int .i64 ((rdD p0 x3204 z_Tile).S)), .cell ⟨g3213, 3, none⟩ (.int .i64 ((rdD p0 x3204 z_Tile).W))] (fun fb => by kernel_rfl) rfl ⟨hS3218.cell 0 rfl 0 rfl, hS3218.cell 0 rfl 1 rfl, hS3218.cell 0 rfl 2 rfl, hS3218.cell 0 rfl 3 rfl, trivial⟩ ?_
        refine WL.lookup (hS3218.own 1).1 (rdD p0 x3204 z_Tile) (d := 18) (c := false) (t := 108) (kT := 65) (eT := 4) (z := false) (kE := (aggI ints_Tile)) (vE := vB) (l := l3203) (.bool (mget (rdD p0 x3204 z_Tile) false l3203)) (fun fb => by kernel_rfl) tile_Valid_key65 (by kernel_rfl) (fun _ => by kernel_rfl) rfl ?_
        refine ⟨trivial, ?_⟩
        refine seg 4 [] [3, 5, 10, 11, 12, 19] [(3, (.map (some g3069))), (5, (.pointer (some ⟨g3213, 0, none⟩))), (10, (.slice A_p0 p0.length c_p0)), (11, (.int .i64 (p0.length : Int))), (12, (.int .i64 x3204)), (19, (.bool (mget (rdD p0 x3204 z_Tile) false l3203)))] [] (fun fb => by kernel_rfl) rfl trivial ?_
        obtain ⟨x3230, hx3231, hl3210⟩ := bind_some hl3210
        refine WL.cutW (T := Bool) 16 (fun t => [(3, (.map (some g3069))), (5, (.pointer (some ⟨g3213, 0, none⟩))), (10, (.slice A_p0 p0.length c_p0)), (11, (.int .i64 (p0.length : Int))), (12, (.int .i64 x3204)), (31, (.bool t))]) (fun t w1 => (St NoS w w1 [rowR enc_Tile A_p0 c_p0 p0] [blk g3069 (mapObj (aggI ints_Tile) vB l3203), blk g3213 (.cells #[(.int .i64 ((rdD p0 x3204 z_Tile).N)), (.int .i64 ((rdD p0 x3204 z_Tile).E)), (.int .i64 ((rdD p0 x3204 z_Tile).S)), (.int .i64 ((rdD p0 x3204 z_Tile).W))] 65 (0, 0))] ∧ x3230 = t) ∧ CellsOK [] w1) (fun K => ?_) ?_
        ·
          rcases br_some hx3231 with ⟨h3232, hx3231⟩ | ⟨h3232, hx3231⟩
          ·
            refine WL.setB 19 h3232 rfl ?_
            refine seg 16 [] [3, 5, 10, 11, 12, 31] [(3, (.map (some g3069))), (5, (.pointer (some ⟨g3213, 0, none⟩))), (10, (.slice A_p0 p0.length c_p0)), (11, (.int .i64 (p0.length : Int))), (12, (.int .i64 x3204)), (31, (.bool true))] [] (fun fb => by kernel_rfl) rfl trivial ?_
            injection hx3231 with hx3231
            exact WL.to K true [3, 5, 10, 11, 12, 31] rfl ⟨⟨(hS3218.subR [0]).sub [1, 0] (by decide), hx3231.symm⟩, trivial⟩
          refine WL.setB 19 h3232 rfl ?_
          refine seg 12 [.v (.int .i64 ((rdD p0 x3204 z_Tile).N)), .v (.int .i64 ((rdD p0 x3204 z_Tile).E)), .v (.int .i64 ((rdD p0 x3204 z_Tile).S)), .v (.int .i64 ((rdD p0 x3204 z_Tile).W))] [3, 5, 10, 11, 12, 19, 21, 23, 25, 27] [(3, (.map (some g3069))), (5, (.pointer (some ⟨g3213, 0, none⟩))), (10, (.slice A_p0 p0.length c_p0)), (11, (.int .i64 (p0.length : Int))), (12, (.int .i64 x3204)), (19, (.bool false)), (21, (.int .i64 ((rdD p0 x3204 z_Tile).N))), (23, (.int .i64 ((rdD p0 x3204 z_Tile).E))), (25, (.int .i64 ((rdD p0 x3204 z_Tile).S))), (27, (.int .i64 ((rdD p0 x3204 z_Tile).W)))] [.cell ⟨g3213, 0, none⟩ (.int .i64 ((rdD p0 x3204 z_Tile).N)), .cell ⟨g3213, 1, none⟩ (.int .i64 ((rdD p0 x3204 z_Tile).E)), .cell ⟨g3213, 2, none⟩ (.int .i64 ((rdD p0 x3204 z_Tile).S)), .cell ⟨g3213, 3, none⟩ (.int .i64 ((rdD p0 x3204 z_Tile).W))] (fun fb => by kernel_rfl) rfl ⟨hS3218.cell 0 rfl 0 rfl, hS3218.cell 0 rfl 1 rfl, hS3218.cell 0 rfl 2 rfl, hS3218.cell 0 rfl 3 rfl, trivial⟩ ?_
          refine WL.new hS3218 28 [] (fun g => (.slice (some ⟨g, 0, none⟩) 4 4)) (.cells #[(.int .i64 ((rdD p0 x3204 z_Tile).N)), (.int .i64 ((rdD p0 x3204 z_Tile).E)), (.int .i64 ((rdD p0 x3204 z_Tile).S)), (.int .i64 ((rdD p0 x3204 z_Tile).W))] 3 (0, 0)) [] (fun fb g => by kernel_rfl) trivial (fun g3233 w3234 hS3235 => ?_)
          refine ⟨trivial, ?_⟩
          have hS3237 : St NoS w w3234 [rowR enc_Tile A_p0 c_p0 p0] [rowO 3 encInt (some ⟨g3233, 0, none⟩) 4 [(rdD p0 x3204 z_Tile).N, (rdD p0 x3204 z_Tile).E, (rdD p0 x3204 z_Tile).S, (rdD p0 x3204 z_Tile).W], blk g3213 (.cells #[(.int .i64 ((rdD p0 x3204 z_Tile).N)), (.int .i64 ((rdD p0 x3204 z_Tile).E)), (.int .i64 ((rdD p0 x3204 z_Tile).S)), (.int .i64 ((rdD p0 x3204 z_Tile).W))] 65 (0, 0)), blk g3069 (mapObj (aggI ints_Tile) vB l3203)] := hS3235.map1 0 _ (fun h => rowO.ofBlk h rfl (Nat.le_of_ble_eq_true (by kernel_rfl))) (fun _ h => by obtain ⟨_, h1, h2⟩ := h; injection h1 with h1; subst h1; exact h2) [1, 2] (by decide) (by decide)
          obtain ⟨t3238, ht3239, hx3231⟩ := bind_some hx3231
          refine WL.call (some 29) 72 #[(.slice (some ⟨g3233, 0, none⟩) [(rdD p0 x3204 z_Tile).N, (rdD p0 x3204 z_Tile).E, (rdD p0 x3204 z_Tile).S, (rdD p0 x3204 z_Tile).W].length 4)] (fun fb => by kernel_rfl) (tile_colour_calls _ [(rdD p0 x3204 z_Tile).N, (rdD p0 x3204 z_Tile).E, (rdD p0 x3204 z_Tile).S, (rdD p0 x3204 z_Tile).W] (some ⟨g3233, 0, none⟩) 4 t3238 _ (hS3237.ow 0).ofO ht3239) (fun v w3240 hR3241 => ?_)
          obtain ⟨rfl, hk_⟩ := hR3241
          have hS3242 := hS3237.keepN hk_
          refine ⟨trivial, ?_⟩
          refine seg 16 [] [3, 5, 10, 11, 12, 31] [(3, (.map (some g3069))), (5, (.pointer (some ⟨g3213, 0, none⟩))), (10, (.slice A_p0 p0.length c_p0)), (11, (.int .i64 (p0.length : Int))), (12, (.int .i64 x3204)), (31, (.bool (!t3238)))] [] (fun fb => by kernel_rfl) rfl trivial ?_
          injection hx3231 with hx3231
          exact WL.to K (!t3238) [3, 5, 10, 11, 12, 31] rfl ⟨⟨(hS3242.subR [0]).sub [2, 1] (by decide), hx3231.symm⟩, trivial⟩
        rintro y3243 w3245 ⟨⟨hS3246, hq3244⟩, hF3247⟩
        subst hq3244
        refine WL.done rfl ?_
        refine WX.next ?_
        rcases br_some hl3210 with ⟨h3248, hl3210⟩ | ⟨h3248, hl3210⟩
        · refine WC.condT2 (fun fb => by kernel_rfl) h3248 ?_
          refine WC.seq ?_
          refine WC.region ?_
          refine seg 1 [] [2] [(2, (.bool false))] [] (fun fb => by kernel_rfl) rfl trivial ?_
          refine WL.done rfl ?_
          refine WX.next ?_
          refine WC.ret ?_
          injection hl3210 with hl3210
          subst hl3210
          injection hf with hf
          subst hf
          exact WX.thenR (WX.blockR (WX.thenR (WX.thenR (WX.blockR (WX.thenR (WX.ret_ [] (.bool false) [] (fun fb => by kernel_rfl) trivial ⟨_, rfl, rfl, hS3246.keep⟩))))))
        refine WC.condF2 (fun fb => by kernel_rfl) h3248 ?_
        refine WC.skip ?_
        refine WX.next ?_
        refine WC.region ?_
        refine seg 2 [.v (.int .i64 ((rdD p0 x3204 z_Tile).N)), .v (.int .i64 ((rdD p0 x3204 z_Tile).E)), .v (.int .i64 ((rdD p0 x3204 z_Tile).S)), .v (.int .i64 ((rdD p0 x3204 z_Tile).W))] [3, 10, 11, 12, 32, 33] [(3, (.map (some g3069))), (10, (.slice A_p0 p0.length c_p0)), (11, (.int .i64 (p0.length : Int))), (12, (.int .i64 x3204)), (32, (.map (some g3069))), (33, (.agg #[(.int .i64 ((rdD p0 x3204 z_Tile).N)), (.int .i64 ((rdD p0 x3204 z_Tile).E)), (.int .i64 ((rdD p0 x3204 z_Tile).S)), (.int .i64 ((rdD p0 x3204 z_Tile).W))]))] [.cell ⟨g3213, 0, none⟩ (.int .i64 ((rdD p0 x3204 z_Tile).N)), .cell ⟨g3213, 1, none⟩ (.int .i64 ((rdD p0 x3204 z_Tile).E)), .cell ⟨g3213, 2, none⟩ (.int .i64 ((rdD p0 x3204 z_Tile).S)), .cell ⟨g3213, 3, none⟩ (.int .i64 ((rdD p0 x3204 z_Tile).W))] (fun fb => by kernel_rfl) rfl ⟨hS3246.cell 1 rfl 0 rfl, hS3246.cell 1 rfl 1 rfl, hS3246.cell 1 rfl 2 rfl, hS3246.cell 1 rfl 3 rfl, trivial⟩ ?_
        refine WL.mapput hS3246 0 (t := 108) (kT := 65) (eT := 4) (kE := (aggI ints_Tile)) (vE := vB) (l := l3203) rfl (rdD p0 x3204 z_Tile) true (fun fb => by kernel_rfl) tile_Valid_key65 (by kernel_rfl) [1] (by decide) (by decide) (fun w3249 hS3250 => ?_)
        refine ⟨trivial, ?_⟩
        refine WL.done rfl ?_
        refine WX.blockN (WX.next ?_)
        refine WC.region ?_
        refine seg 2 [] [3, 10, 11, 12] [(3, (.map (some g3069))), (10, (.slice A_p0 p0.length c_p0)), (11, (.int .i64 (p0.length : Int))), (12, (.int .i64 (w64 (x3204 + 1))))] [] (fun fb => by kernel_rfl) rfl trivial ?_
        refine WL.done rfl ?_
        exact WX.again k3207 (Nat.lt_succ_self _) (mput (rdD p0 x3204 z_Tile) true l3203, w64 (x3204 + 1)) [3, 10, 11, 12] rfl ⟨(hS3250.subR [0]).sub [0] (by decide), hl3210⟩
      refine WC.condF2 (fun fb => by kernel_rfl) h3211 ?_
      refine WC.exit ?_
      injection hl3210 with hl3210
      exact WX.thenX (WX.thenX (WX.blockHere (WX.to Kx3205 () [] rfl ⟨(hS3209.subR [0]).sub [] (by decide), hl3210.symm⟩)))
  rintro y3254 w3251 ⟨hS3252, hq3253⟩
  subst hq3253
  have hf := sum_inr hf
  refine WX.next ?_
  refine WC.seq ?_
  refine WC.region ?_
  refine seg 1 [] [2] [(2, (.bool true))] [] (fun fb => by kernel_rfl) rfl trivial ?_
  refine WL.done rfl ?_
  refine WX.next ?_
  refine WC.ret ?_
  injection hf with hf
  subst hf
  exact WX.ret_ [] (.bool true) [] (fun fb => by kernel_rfl) trivial ⟨_, rfl, rfl, hS3252.keep⟩
theorem tile_Form_calls (p0 : Pattern) (A_p0_Cells : Option Addr) (c_p0_Cells : Nat) (r : Bool) (w : World) (hR0 : RO NoS w (rowR encInt A_p0_Cells c_p0_Cells p0.Cells)) (hf : tile_Form p0 = some r) :
    CallsR Try.prog 52 #[(.agg #[(.int .i64 p0.Width), (.int .i64 p0.Height), (.slice A_p0_Cells p0.Cells.length c_p0_Cells)])] w (fun v w' => v = (.bool r) ∧ Keeps NoS w w') := by
  have hS : St NoS w w [rowR encInt A_p0_Cells c_p0_Cells p0.Cells] [] := St.init (ro_cons hR0 (ro_nil _ _))
  refine enter 40 Try.func52 rfl Try.ntmps52 rfl ?_
  unfold tile_Form at hf
  refine WC.seq ?_
  refine WC.region ?_
  refine WL.new hS 1 [] (fun g => (.pointer (some ⟨g, 0, none⟩))) (.cells #[(.int .i64 p0.Width), (.int .i64 p0.Height), (.slice A_p0_Cells p0.Cells.length c_p0_Cells)] 31 (0, 0)) [] (fun fb g => by kernel_rfl) trivial (fun g3261 w3262 hS3263 => ?_)
  refine ⟨trivial, ?_⟩
  refine seg 2 [] [1] [(1, (.pointer (some ⟨g3261, 0, none⟩)))] [] (fun fb => by kernel_rfl) rfl trivial ?_
  refine WL.done rfl ?_
  refine WX.next ?_
  refine WC.seq ?_
  refine WC.region ?_
  refine seg 4 [.v (.int .i64 p0.Width)] [1, 6] [(1, (.pointer (some ⟨g3261, 0, none⟩))), (6, (.bool (decide (p0.Width ≥ 1))))] [.cell ⟨g3261, 0, none⟩ (.int .i64 p0.Width)] (fun fb => by kernel_rfl) rfl ⟨hS3263.cell 0 rfl 0 rfl, trivial⟩ ?_
  refine WL.cutV (T := Bool) 8 (fun t => [(10, (.bool t)), (1, (.pointer (some ⟨g3261, 0, none⟩)))]) (fun t => t = ((decide (p0.Width ≥ 1)) && (decide (p0.Height ≥ 1)))) (fun K => ?_) ?_
  ·
    rcases Bool.eq_false_or_eq_true (decide (p0.Width ≥ 1)) with h3265 | h3265
    ·
      refine WL.setB 6 h3265 rfl ?_
      refine seg 8 [.v (.int .i64 p0.Height)] [1, 10] [(1, (.pointer (some ⟨g3261, 0, none⟩))), (10, (.bool (decide (p0.Height ≥ 1))))] [.cell ⟨g3261, 1, none⟩ (.int .i64 p0.Height)] (fun fb => by kernel_rfl) rfl ⟨hS3263.cell 0 rfl 1 rfl, trivial⟩ ?_
      exact WL.toV K (decide (p0.Height ≥ 1)) [10, 1] rfl (by rw [h3265]; rfl)
    refine WL.setB 6 h3265 rfl ?_
    refine seg 8 [] [1, 10] [(1, (.pointer (some ⟨g3261, 0, none⟩))), (10, (.bool false))] [] (fun fb => by kernel_rfl) rfl trivial ?_
    exact WL.toV K false [10, 1] rfl (by rw [h3265]; rfl)
  rintro b3266 rfl
  refine seg 9 [] [1, 11] [(1, (.pointer (some ⟨g3261, 0, none⟩))), (11, (.bool ((decide (p0.Width ≥ 1)) && (decide (p0.Height ≥ 1)))))] [] (fun fb => by kernel_rfl) rfl trivial ?_
  refine WL.cutV (T := Bool) 13 (fun t => [(15, (.bool t)), (1, (.pointer (some ⟨g3261, 0, none⟩)))]) (fun t => t = (((decide (p0.Width ≥ 1)) && (decide (p0.Height ≥ 1))) && (decide (p0.Width ≤ 40000)))) (fun K => ?_) ?_
  ·
    rcases Bool.eq_false_or_eq_true ((decide (p0.Width ≥ 1)) && (decide (p0.Height ≥ 1))) with h3267 | h3267
    ·
      refine WL.setB 11 h3267 rfl ?_
      refine seg 13 [.v (.int .i64 p0.Width)] [1, 15] [(1, (.pointer (some ⟨g3261, 0, none⟩))), (15, (.bool (decide (p0.Width ≤ 40000))))] [.cell ⟨g3261, 0, none⟩ (.int .i64 p0.Width)] (fun fb => by kernel_rfl) rfl ⟨hS3263.cell 0 rfl 0 rfl, trivial⟩ ?_
      exact WL.toV K (decide (p0.Width ≤ 40000)) [15, 1] rfl (by rw [h3267]; rfl)
    refine WL.setB 11 h3267 rfl ?_
    refine seg 13 [] [1, 15] [(1, (.pointer (some ⟨g3261, 0, none⟩))), (15, (.bool false))] [] (fun fb => by kernel_rfl) rfl trivial ?_
    exact WL.toV K false [15, 1] rfl (by rw [h3267]; rfl)
  rintro b3268 rfl
  refine seg 14 [] [1, 16] [(1, (.pointer (some ⟨g3261, 0, none⟩))), (16, (.bool (((decide (p0.Width ≥ 1)) && (decide (p0.Height ≥ 1))) && (decide (p0.Width ≤ 40000)))))] [] (fun fb => by kernel_rfl) rfl trivial ?_
  refine WL.cutV (T := Bool) 18 (fun t => [(20, (.bool t)), (1, (.pointer (some ⟨g3261, 0, none⟩)))]) (fun t => t = ((((decide (p0.Width ≥ 1)) && (decide (p0.Height ≥ 1))) && (decide (p0.Width ≤ 40000))) && (decide (p0.Height ≤ 40000)))) (fun K => ?_) ?_
  ·
    rcases Bool.eq_false_or_eq_true (((decide (p0.Width ≥ 1)) && (decide (p0.Height ≥ 1))) && (decide (p0.Width ≤ 40000))) with h3269 | h3269
    ·
      refine WL.setB 16 h3269 rfl ?_
      refine seg 18 [.v (.int .i64 p0.Height)] [1, 20] [(1, (.pointer (some ⟨g3261, 0, none⟩))), (20, (.bool (decide (p0.Height ≤ 40000))))] [.cell ⟨g3261, 1, none⟩ (.int .i64 p0.Height)] (fun fb => by kernel_rfl) rfl ⟨hS3263.cell 0 rfl 1 rfl, trivial⟩ ?_
      exact WL.toV K (decide (p0.Height ≤ 40000)) [20, 1] rfl (by rw [h3269]; rfl)
    refine WL.setB 16 h3269 rfl ?_
    refine seg 18 [] [1, 20] [(1, (.pointer (some ⟨g3261, 0, none⟩))), (20, (.bool false))] [] (fun fb => by kernel_rfl) rfl trivial ?_
    exact WL.toV K false [20, 1] rfl (by rw [h3269]; rfl)
  rintro b3270 rfl
  refine seg 19 [] [1, 21] [(1, (.pointer (some ⟨g3261, 0, none⟩))), (21, (.bool ((((decide (p0.Width ≥ 1)) && (decide (p0.Height ≥ 1))) && (decide (p0.Width ≤ 40000))) && (decide (p0.Height ≤ 40000)))))] [] (fun fb => by kernel_rfl) rfl trivial ?_
  refine WL.cutV (T := Bool) 26 (fun t => [(28, (.bool t)), (1, (.pointer (some ⟨g3261, 0, none⟩)))]) (fun t => t = (((((decide (p0.Width ≥ 1)) && (decide (p0.Height ≥ 1))) && (decide (p0.Width ≤ 40000))) && (decide (p0.Height ≤ 40000))) && (decide (w64 (p0.Width * p0.Height) ≤ 40000)))) (fun K => ?_) ?_
  ·
    rcases Bool.eq_false_or_eq_true ((((decide (p0.Width ≥ 1)) && (decide (p0.Height ≥ 1))) && (decide (p0.Width ≤ 40000))) && (decide (p0.Height ≤ 40000))) with h3271 | h3271
    ·
      refine WL.setB 21 h3271 rfl ?_
      refine seg 26 [.v (.int .i64 p0.Width), .v (.int .i64 p0.Height)] [1, 28] [(1, (.pointer (some ⟨g3261, 0, none⟩))), (28, (.bool (decide (w64 (p0.Width * p0.Height) ≤ 40000))))] [.cell ⟨g3261, 0, none⟩ (.int .i64 p0.Width), .cell ⟨g3261, 1, none⟩ (.int .i64 p0.Height)] (fun fb => by kernel_rfl) rfl ⟨hS3263.cell 0 rfl 0 rfl, hS3263.cell 0 rfl 1 rfl, trivial⟩ ?_
      exact WL.toV K (decide (w64 (p0.Width * p0.Height) ≤ 40000)) [28, 1] rfl (by rw [h3271]; rfl)
    refine WL.setB 21 h3271 rfl ?_
    refine seg 26 [] [1, 28] [(1, (.pointer (some ⟨g3261, 0, none⟩))), (28, (.bool false))] [] (fun fb => by kernel_rfl) rfl trivial ?_
    exact WL.toV K false [28, 1] rfl (by rw [h3271]; rfl)
  rintro b3272 rfl
  refine seg 27 [] [1, 29] [(1, (.pointer (some ⟨g3261, 0, none⟩))), (29, (.bool (((((decide (p0.Width ≥ 1)) && (decide (p0.Height ≥ 1))) && (decide (p0.Width ≤ 40000))) && (decide (p0.Height ≤ 40000))) && (decide (w64 (p0.Width * p0.Height) ≤ 40000)))))] [] (fun fb => by kernel_rfl) rfl trivial ?_
  refine WL.cutV (T := Bool) 37 (fun t => [(39, (.bool t))]) (fun t => t = ((((((decide (p0.Width ≥ 1)) && (decide (p0.Height ≥ 1))) && (decide (p0.Width ≤ 40000))) && (decide (p0.Height ≤ 40000))) && (decide (w64 (p0.Width * p0.Height) ≤ 40000))) && ((p0.Cells.length : Int) == (w64 (p0.Width * p0.Height))))) (fun K => ?_) ?_
  ·
    rcases Bool.eq_false_or_eq_true (((((decide (p0.Width ≥ 1)) && (decide (p0.Height ≥ 1))) && (decide (p0.Width ≤ 40000))) && (decide (p0.Height ≤ 40000))) && (decide (w64 (p0.Width * p0.Height) ≤ 40000))) with h3273 | h3273
    ·
      refine WL.setB 29 h3273 rfl ?_
      refine seg 37 [.v (.slice A_p0_Cells p0.Cells.length c_p0_Cells), .v (.int .i64 p0.Width), .v (.int .i64 p0.Height)] [39] [(39, (.bool ((p0.Cells.length : Int) == (w64 (p0.Width * p0.Height)))))] [.cell ⟨g3261, 2, none⟩ (.slice A_p0_Cells p0.Cells.length c_p0_Cells), .cell ⟨g3261, 0, none⟩ (.int .i64 p0.Width), .cell ⟨g3261, 1, none⟩ (.int .i64 p0.Height)] (fun fb => by kernel_rfl) rfl ⟨hS3263.cell 0 rfl 2 rfl, hS3263.cell 0 rfl 0 rfl, hS3263.cell 0 rfl 1 rfl, trivial⟩ ?_
      exact WL.toV K ((p0.Cells.length : Int) == (w64 (p0.Width * p0.Height))) [39] rfl (by rw [h3273]; rfl)
    refine WL.setB 29 h3273 rfl ?_
    refine seg 37 [] [39] [(39, (.bool false))] [] (fun fb => by kernel_rfl) rfl trivial ?_
    exact WL.toV K false [39] rfl (by rw [h3273]; rfl)
  rintro b3274 rfl
  refine seg 38 [] [2] [(2, (.bool ((((((decide (p0.Width ≥ 1)) && (decide (p0.Height ≥ 1))) && (decide (p0.Width ≤ 40000))) && (decide (p0.Height ≤ 40000))) && (decide (w64 (p0.Width * p0.Height) ≤ 40000))) && ((p0.Cells.length : Int) == (w64 (p0.Width * p0.Height))))))] [] (fun fb => by kernel_rfl) rfl trivial ?_
  refine WL.done rfl ?_
  refine WX.next ?_
  refine WC.ret ?_
  injection hf with hf
  subst hf
  exact WX.ret_ [] (.bool ((((((decide (p0.Width ≥ 1)) && (decide (p0.Height ≥ 1))) && (decide (p0.Width ≤ 40000))) && (decide (p0.Height ≤ 40000))) && (decide (w64 (p0.Width * p0.Height) ≤ 40000))) && ((p0.Cells.length : Int) == (w64 (p0.Width * p0.Height))))) [] (fun fb => by kernel_rfl) trivial ⟨_, rfl, rfl, hS3263.keep⟩
theorem tile_of_1_calls (p0 : Int) (f0 : List Tile) (g_f0 : Nat) (A_f0 : Option Addr) (c_f0 : Nat) (r : Bool) (w : World) (hR0 : RO NoS w (blk g_f0 (.cells #[(.slice A_f0 f0.length c_f0)] 50 (0, 0)))) (hR1 : RO NoS w (rowR enc_Tile A_f0 c_f0 f0)) (hf : tile_of_1 p0 f0 = some r) :
    CallsR Try.prog 67 #[(.int .i64 p0), (.pointer (some ⟨g_f0, 0, none⟩))] w (fun v w' => v = (.bool r) ∧ Keeps NoS w w') := by
  have hS : St NoS w w [blk g_f0 (.cells #[(.slice A_f0 f0.length c_f0)] 50 (0, 0)), rowR enc_Tile A_f0 c_f0 f0] [] := St.init (ro_cons hR0 (ro_cons hR1 (ro_nil _ _)))
  refine enter 12 Try.func67 rfl Try.ntmps67 rfl ?_
  unfold tile_of_1 at hf
  refine WC.seq ?_
  refine WC.region ?_
  refine seg 1 [] [0, 1] [(0, (.int .i64 p0)), (1, (.pointer (some ⟨g_f0, 0, none⟩)))] [] (fun fb => by kernel_rfl) rfl trivial ?_
  refine WL.done rfl ?_
  refine WX.next ?_
  refine WC.seq ?_
  refine WC.region ?_
  refine seg 3 [] [0, 1, 6] [(0, (.int .i64 p0)), (1, (.pointer (some ⟨g_f0, 0, none⟩))), (6, (.bool (decide (p0 < 0))))] [] (fun fb => by kernel_rfl) rfl trivial ?_
  refine WL.cutV (T := Bool) 8 (fun t => [(11, (.bool t))]) (fun t => t = ((decide (p0 < 0)) || (decide (p0 ≥ (f0.length : Int))))) (fun K => ?_) ?_
  ·
    rcases Bool.eq_false_or_eq_true (decide (p0 < 0)) with h3296 | h3296
    ·
      refine WL.setB 6 h3296 rfl ?_
      refine seg 8 [] [11] [(11, (.bool true))] [] (fun fb => by kernel_rfl) rfl trivial ?_
      exact WL.toV K true [11] rfl (by rw [h3296]; rfl)
    refine WL.setB 6 h3296 rfl ?_
    refine seg 8 [.v (.slice A_f0 f0.length c_f0)] [11] [(11, (.bool (decide (p0 ≥ (f0.length : Int)))))] [.cell ⟨g_f0, 0, none⟩ (.slice A_f0 f0.length c_f0)] (fun fb => by kernel_rfl) rfl ⟨blk_cell (hS.rd 0).1 0 rfl, trivial⟩ ?_
    exact WL.toV K (decide (p0 ≥ (f0.length : Int))) [11] rfl (by rw [h3296]; rfl)
  rintro b3297 rfl
  refine seg 9 [] [3] [(3, (.bool ((decide (p0 < 0)) || (decide (p0 ≥ (f0.length : Int))))))] [] (fun fb => by kernel_rfl) rfl trivial ?_
  refine WL.done rfl ?_
  refine WX.next ?_
  refine WC.ret ?_
  injection hf with hf
  subst hf
  exact WX.ret_ [] (.bool ((decide (p0 < 0)) || (decide (p0 ≥ (f0.length : Int))))) [] (fun fb => by kernel_rfl) trivial ⟨_, rfl, rfl, hS.keep⟩
theorem slices_IndexFunc_int_int_with_tile_of_1_calls (k : Nat) (p0 : List Int) (p1_0 : List Tile) (A_p0 : Option Addr) (c_p0 : Nat) (g_p1_0 : Nat) (A_p1_0 : Option Addr) (c_p1_0 : Nat) (r : Int) (w : World) (hR0 : RO NoS w (rowR encInt A_p0 c_p0 p0)) (hR1 : RO NoS w (blk g_p1_0 (.cells #[(.slice A_p1_0 p1_0.length c_p1_0)] 50 (0, 0)))) (hR2 : RO NoS w (rowR enc_Tile A_p1_0 c_p1_0 p1_0)) (hf : slices_IndexFunc_int_int_with_tile_of_1 k p0 p1_0 = some r) :
    CallsR Try.prog 65 #[(.slice A_p0 p0.length c_p0), (.func (.func 67) #[] #[(.pointer (some ⟨g_p1_0, 0, none⟩))])] w (fun v w' => v = (.int .i64 r) ∧ Keeps NoS w w') := by
  have hS : St NoS w w [rowR encInt A_p0 c_p0 p0, blk g_p1_0 (.cells #[(.slice A_p1_0 p1_0.length c_p1_0)] 50 (0, 0)), rowR enc_Tile A_p1_0 c_p1_0 p1_0] [] := St.init (ro_cons hR0 (ro_cons hR1 (ro_cons hR2 (ro_nil _ _))))
  refine enter 19 Try.func65 rfl Try.ntmps65 rfl ?_
  unfold slices_IndexFunc_int_int_with_tile_of_1 at hf
  refine WC.seq ?_
  refine WC.region ?_
  refine seg 1 [] [0, 1] [(0, (.slice A_p0 p0.length c_p0)), (1, (.func (.func 67) #[] #[(.pointer (some ⟨g_p1_0, 0, none⟩))]))] [] (fun fb => by kernel_rfl) rfl trivial ?_
  refine WL.done rfl ?_
  refine WX.next ?_
  refine WC.seq ?_
  refine WC.seq ?_
  refine WC.region ?_
  refine seg 3 [] [0, 1, 7, 8] [(0, (.slice A_p0 p0.length c_p0)), (1, (.func (.func 67) #[] #[(.pointer (some ⟨g_p1_0, 0, none⟩))])), (7, (.int .i64 (p0.length : Int))), (8, (.int .i64 0))] [] (fun fb => by kernel_rfl) rfl trivial ?_
  refine WL.done rfl ?_
  refine WX.next ?_
  obtain ⟨x3314, hx3315, hf⟩ := bind_some hf
  refine WC.cutN (T := Unit) (fun t => []) (fun t w1 => St NoS w w1 [rowR encInt A_p0 c_p0 p0, blk g_p1_0 (.cells #[(.slice A_p1_0 p1_0.length c_p1_0)] 50 (0, 0)), rowR enc_Tile A_p1_0 c_p1_0 p1_0] [] ∧ x3314 = .inr t) (fun Kx3314 => ?_) ?_
  ·
    refine WC.block ?_
    refine WC.loop (T := Int) (fun t => [(0, (.slice A_p0 p0.length c_p0)), (1, (.func (.func 67) #[] #[(.pointer (some ⟨g_p1_0, 0, none⟩))])), (7, (.int .i64 (p0.length : Int))), (8, (.int .i64 t))]) (fun n t w1 => St NoS w w1 [rowR encInt A_p0 c_p0 p0, blk g_p1_0 (.cells #[(.slice A_p1_0 p1_0.length c_p1_0)] 50 (0, 0)), rowR enc_Tile A_p1_0 c_p1_0 p1_0] [] ∧ slices_IndexFunc_int_int_with_tile_of_1.l0 n t p0 p1_0 = some x3314) k 0 [0, 1, 7, 8] rfl ⟨(hS.subR [0, 1, 2]).sub [] (by decide), hx3315⟩ ?_
    rintro k3316 x3313 w3317 ⟨hS3318, hl3319⟩
    cases k3316 with
    | zero => rw [slices_IndexFunc_int_int_with_tile_of_1.l0] at hl3319; cases hl3319
    | succ k3316 =>
      rw [slices_IndexFunc_int_int_with_tile_of_1.l0] at hl3319
      refine WC.seq ?_
      refine WC.region ?_
      refine seg 1 [] [0, 1, 7, 8, 9] [(0, (.slice A_p0 p0.length c_p0)), (1, (.func (.func 67) #[] #[(.pointer (some ⟨g_p1_0, 0, none⟩))])), (7, (.int .i64 (p0.length : Int))), (8, (.int .i64 x3313)), (9, (.bool (decide (x3313 < (p0.length : Int)))))] [] (fun fb => by kernel_rfl) rfl trivial ?_
      refine WL.done rfl ?_
      refine WX.next ?_
      refine WC.seq ?_
      rcases br_some hl3319 with ⟨h3320, hl3319⟩ | ⟨h3320, hl3319⟩
      · refine WC.condT2 (fun fb => by kernel_rfl) h3320 ?_
        refine WC.skip ?_
        refine WX.next ?_
        refine WC.seq ?_
        refine WC.block ?_
        refine WC.seq ?_
        refine WC.region ?_
        refine seg 2 [] [0, 1, 5, 7, 8] [(0, (.slice A_p0 p0.length c_p0)), (1, (.func (.func 67) #[] #[(.pointer (some ⟨g_p1_0, 0, none⟩))])), (5, (.int .i64 x3313)), (7, (.int .i64 (p0.length : Int))), (8, (.int .i64 x3313))] [] (fun fb => by kernel_rfl) rfl trivial ?_
        refine WL.done rfl ?_
        refine WX.next ?_
        refine WC.seq ?_
        refine WC.region ?_
        refine seg 3 [] [0, 1, 5, 7, 8, 11, 12, 13] [(0, (.slice A_p0 p0.length c_p0)), (1, (.func (.func 67) #[] #[(.pointer (some ⟨g_p1_0, 0, none⟩))])), (5, (.int .i64 x3313)), (7, (.int .i64 (p0.length : Int))), (8, (.int .i64 x3313)), (11, (.func (.func 67) #[] #[(.pointer (some ⟨g_p1_0, 0, none⟩))])), (12, (.slice A_p0 p0.length c_p0)), (13, (.int .i64 x3313))] [] (fun fb => by kernel_rfl) rfl trivial ?_
        obtain ⟨h3321, hl3319⟩ := as_some hl3319
        refine seg 5 [.v (.int .i64 (rdD p0 x3313 0))] [0, 1, 5, 7, 8, 11, 15] [(0, (.slice A_p0 p0.length c_p0)), (1, (.func (.func 67) #[] #[(.pointer (some ⟨g_p1_0, 0, none⟩))])), (5, (.int .i64 x3313)), (7, (.int .i64 (p0.length : Int))), (8, (.int .i64 x3313)), (11, (.func (.func 67) #[] #[(.pointer (some ⟨g_p1_0, 0, none⟩))])), (15, (.int .i64 (rdD p0 x3313 0)))] [.idx A_p0 x3313 p0.length, .cell ((adr A_p0).add ((x3313).toNat * 1)) (.int .i64 (rdD p0 x3313 0))] (fun fb => by kernel_rfl) rfl ⟨rowR.adr (hS3318.rd 0).1 h3321.1 h3321.2, rowR.cell (hS3318.rd 0).1 0 h3321.1 h3321.2 0 rfl, trivial⟩ ?_
        obtain ⟨t3322, ht3323, hl3319⟩ := bind_some hl3319
        refine WL.call (some 16) 67 #[(.int .i64 (rdD p0 x3313 0)), (.pointer (some ⟨g_p1_0, 0, none⟩))] (fun fb => by kernel_rfl) (tile_of_1_calls (rdD p0 x3313 0) p1_0 g_p1_0 A_p1_0 c_p1_0 t3322 _ (hS3318.rd 1) (hS3318.rd 2) ht3323) (fun v w3324 hR3325 => ?_)
        obtain ⟨rfl, hk_⟩ := hR3325
        have hS3326 := hS3318.keepN hk_
        refine ⟨trivial, ?_⟩
        refine WL.done rfl ?_
        refine WX.next ?_
        rcases br_some hl3319 with ⟨h3327, hl3319⟩ | ⟨h3327, hl3319⟩
        · refine WC.condT2 (fun fb => by kernel_rfl) h3327 ?_
          refine WC.seq ?_
          refine WC.region ?_
          refine seg 2 [] [4] [(4, (.int .i64 x3313))] [] (fun fb => by kernel_rfl) rfl trivial ?_
          refine WL.done rfl ?_
          refine WX.next ?_
          refine WC.ret ?_
          injection hl3319 with hl3319
          subst hl3319
          injection hf with hf
          subst hf
          exact WX.blockR (WX.thenR (WX.thenR (WX.blockR (WX.thenR (WX.ret_ [] (.int .i64 x3313) [] (fun fb => by kernel_rfl) trivial ⟨_, rfl, rfl, hS3326.keep⟩)))))
        refine WC.condF2 (fun fb => by kernel_rfl) h3327 ?_
        refine WC.skip ?_
        refine WX.blockN (WX.next ?_)
        refine WC.region ?_
        refine seg 2 [] [0, 1, 7, 8] [(0, (.slice A_p0 p0.length c_p0)), (1, (.func (.func 67) #[] #[(.pointer (some ⟨g_p1_0, 0, none⟩))])), (7, (.int .i64 (p0.length : Int))), (8, (.int .i64 (w64 (x3313 + 1))))] [] (fun fb => by kernel_rfl) rfl trivial ?_
        refine WL.done rfl ?_
        exact WX.again k3316 (Nat.lt_succ_self _) (w64 (x3313 + 1)) [0, 1, 7, 8] rfl ⟨(hS3326.subR [0, 1, 2]).sub [] (by decide), hl3319⟩
      refine WC.condF2 (fun fb => by kernel_rfl) h3320 ?_
      refine WC.exit ?_
      injection hl3319 with hl3319
      exact WX.thenX (WX.thenX (WX.blockHere (WX.to Kx3314 () [] rfl ⟨(hS3318.subR [0, 1, 2]).sub [] (by decide), hl3319.symm⟩)))
  rintro y3331 w3328 ⟨hS3329, hq3330⟩
  subst hq3330
  have hf := sum_inr hf
  refine WX.next ?_
  refine WC.seq ?_
  refine WC.region ?_
  refine seg 1 [] [4] [(4, (.int .i64 (-1)))] [] (fun fb => by kernel_rfl) rfl trivial ?_
  refine WL.done rfl ?_
  refine WX.next ?_
  refine WC.ret ?_
  injection hf with hf
  subst hf
  exact WX.ret_ [] (.int .i64 (-1)) [] (fun fb => by kernel_rfl) trivial ⟨_, rfl, rfl, hS3329.keep⟩
theorem slices_ContainsFunc_int_int_with_tile_of_1_calls (k : Nat) (p0 : List Int) (p1_0 : List Tile) (A_p0 : Option Addr) (c_p0 : Nat) (g_p1_0 : Nat) (A_p1_0 : Option Addr) (c_p1_0 : Nat) (r : Bool) (w : World) (hR0 : RO NoS w (rowR encInt A_p0 c_p0 p0)) (hR1 : RO NoS w (blk g_p1_0 (.cells #[(.slice A_p1_0 p1_0.length c_p1_0)] 50 (0, 0)))) (hR2 : RO NoS w (rowR enc_Tile A_p1_0 c_p1_0 p1_0)) (hf : slices_ContainsFunc_int_int_with_tile_of_1 k p0 p1_0 = some r) :
    CallsR Try.prog 49 #[(.slice A_p0 p0.length c_p0), (.func (.func 67) #[] #[(.pointer (some ⟨g_p1_0, 0, none⟩))])] w (fun v w' => v = (.bool r) ∧ Keeps NoS w w') := by
  have hS : St NoS w w [rowR encInt A_p0 c_p0 p0, blk g_p1_0 (.cells #[(.slice A_p1_0 p1_0.length c_p1_0)] 50 (0, 0)), rowR enc_Tile A_p1_0 c_p1_0 p1_0] [] := St.init (ro_cons hR0 (ro_cons hR1 (ro_cons hR2 (ro_nil _ _))))
  refine enter 9 Try.func49 rfl Try.ntmps49 rfl ?_
  unfold slices_ContainsFunc_int_int_with_tile_of_1 at hf
  refine WC.seq ?_
  refine WC.region ?_
  refine seg 1 [] [0, 1] [(0, (.slice A_p0 p0.length c_p0)), (1, (.func (.func 67) #[] #[(.pointer (some ⟨g_p1_0, 0, none⟩))]))] [] (fun fb => by kernel_rfl) rfl trivial ?_
  refine WL.done rfl ?_
  refine WX.next ?_
  refine WC.seq ?_
  refine WC.region ?_
  refine seg 2 [] [5, 6] [(5, (.slice A_p0 p0.length c_p0)), (6, (.func (.func 67) #[] #[(.pointer (some ⟨g_p1_0, 0, none⟩))]))] [] (fun fb => by kernel_rfl) rfl trivial ?_
  obtain ⟨t3333, ht3334, hf⟩ := bind_some hf
  refine WL.call (some 7) 65 #[(.slice A_p0 p0.length c_p0), (.func (.func 67) #[] #[(.pointer (some ⟨g_p1_0, 0, none⟩))])] (fun fb => by kernel_rfl) (slices_IndexFunc_int_int_with_tile_of_1_calls _ p0 p1_0 A_p0 c_p0 g_p1_0 A_p1_0 c_p1_0 t3333 _ (hS.rd 0) (hS.rd 1) (hS.rd 2) ht3334) (fun v w3335 hR3336 => ?_)
  obtain ⟨rfl, hk_⟩ := hR3336
  have hS3337 := hS.keepN hk_
  refine ⟨trivial, ?_⟩
  refine seg 5 [] [4] [(4, (.bool (decide (t3333 ≥ 0))))] [] (fun fb => by kernel_rfl) rfl trivial ?_
  refine WL.done rfl ?_
  refine WX.next ?_
  refine WC.ret ?_
  injection hf with hf
  subst hf
  exact WX.ret_ [] (.bool (decide (t3333 ≥ 0))) [] (fun fb => by kernel_rfl) trivial ⟨_, rfl, rfl, hS3337.keep⟩
theorem tile_of_calls (k : Nat) (p0 : List Tile) (p1 : Pattern) (A_p0 : Option Addr) (c_p0 : Nat) (A_p1_Cells : Option Addr) (c_p1_Cells : Nat) (r : Bool) (w : World) (hR0 : RO NoS w (rowR enc_Tile A_p0 c_p0 p0)) (hR1 : RO NoS w (rowR encInt A_p1_Cells c_p1_Cells p1.Cells)) (hf : tile_of k p0 p1 = some r) :
    CallsR Try.prog 56 #[(.slice A_p0 p0.length c_p0), (.agg #[(.int .i64 p1.Width), (.int .i64 p1.Height), (.slice A_p1_Cells p1.Cells.length c_p1_Cells)])] w (fun v w' => v = (.bool r) ∧ Keeps NoS w w') := by
  have hS : St NoS w w [rowR enc_Tile A_p0 c_p0 p0, rowR encInt A_p1_Cells c_p1_Cells p1.Cells] [] := St.init (ro_cons hR0 (ro_cons hR1 (ro_nil _ _)))
  refine enter 18 Try.func56 rfl Try.ntmps56 rfl ?_
  unfold tile_of at hf
  refine WC.seq ?_
  refine WC.region ?_
  refine WL.new hS 2 [] (fun g => (.pointer (some ⟨g, 0, none⟩))) (.cells #[(.slice A_p0 p0.length c_p0)] 50 (0, 0)) [] (fun fb g => by kernel_rfl) trivial (fun g3060 w3061 hS3062 => ?_)
  refine ⟨trivial, ?_⟩
  refine WL.new hS3062 3 [] (fun g => (.pointer (some ⟨g, 0, none⟩))) (.cells #[(.int .i64 p1.Width), (.int .i64 p1.Height), (.slice A_p1_Cells p1.Cells.length c_p1_Cells)] 31 (0, 0)) [] (fun fb g => by kernel_rfl) trivial (fun g3064 w3065 hS3066 => ?_)
  refine ⟨trivial, ?_⟩
  refine seg 3 [] [2, 3] [(2, (.pointer (some ⟨g3060, 0, none⟩))), (3, (.pointer (some ⟨g3064, 0, none⟩)))] [] (fun fb => by kernel_rfl) rfl trivial ?_
  refine WL.done rfl ?_
  refine WX.next ?_
  refine WC.seq ?_
  refine WC.region ?_
  refine seg 1 [.v (.slice A_p0 p0.length c_p0)] [2, 3, 5] [(2, (.pointer (some ⟨g3060, 0, none⟩))), (3, (.pointer (some ⟨g3064, 0, none⟩))), (5, (.slice A_p0 p0.length c_p0))] [.cell ⟨g3060, 0, none⟩ (.slice A_p0 p0.length c_p0)] (fun fb => by kernel_rfl) rfl ⟨hS3066.cell 1 rfl 0 rfl, trivial⟩ ?_
  obtain ⟨t3256, ht3257, hf⟩ := bind_some hf
  refine WL.call (some 6) 66 #[(.slice A_p0 p0.length c_p0)] (fun fb => by kernel_rfl) (tile_Valid_calls _ p0 A_p0 c_p0 t3256 _ (hS3066.rd 0) ht3257) (fun v w3258 hR3259 => ?_)
  obtain ⟨rfl, hk_⟩ := hR3259
  have hS3260 := hS3066.keepN hk_
  refine ⟨trivial, ?_⟩
  refine seg 3 [] [2, 3, 7] [(2, (.pointer (some ⟨g3060, 0, none⟩))), (3, (.pointer (some ⟨g3064, 0, none⟩))), (7, (.bool t3256))] [] (fun fb => by kernel_rfl) rfl trivial ?_
  obtain ⟨x3281, hx3282, hf⟩ := bind_some hf
  refine WL.cutW (T := Bool) 6 (fun t => [(2, (.pointer (some ⟨g3060, 0, none⟩))), (3, (.pointer (some ⟨g3064, 0, none⟩))), (10, (.bool t))]) (fun t w1 => (St NoS w w1 [rowR enc_Tile A_p0 c_p0 p0, rowR encInt A_p1_Cells c_p1_Cells p1.Cells] [blk g3060 (.cells #[(.slice A_p0 p0.length c_p0)] 50 (0, 0)), blk g3064 (.cells #[(.int .i64 p1.Width), (.int .i64 p1.Height), (.slice A_p1_Cells p1.Cells.length c_p1_Cells)] 31 (0, 0))] ∧ x3281 = t) ∧ CellsOK [] w1) (fun K => ?_) ?_
  ·
    rcases br_some hx3282 with ⟨h3283, hx3282⟩ | ⟨h3283, hx3282⟩
    ·
      refine WL.setB 7 h3283 rfl ?_
      refine seg 4 [.v (.int .i64 p1.Width), .v (.int .i64 p1.Height), .v (.slice A_p1_Cells p1.Cells.length c_p1_Cells)] [2, 3, 7, 8] [(2, (.pointer (some ⟨g3060, 0, none⟩))), (3, (.pointer (some ⟨g3064, 0, none⟩))), (7, (.bool true)), (8, (.agg #[(.int .i64 p1.Width), (.int .i64 p1.Height), (.slice A_p1_Cells p1.Cells.length c_p1_Cells)]))] [.cell ⟨g3064, 0, none⟩ (.int .i64 p1.Width), .cell ⟨g3064, 1, none⟩ (.int .i64 p1.Height), .cell ⟨g3064, 2, none⟩ (.slice A_p1_Cells p1.Cells.length c_p1_Cells)] (fun fb => by kernel_rfl) rfl ⟨hS3260.cell 0 rfl 0 rfl, hS3260.cell 0 rfl 1 rfl, hS3260.cell 0 rfl 2 rfl, trivial⟩ ?_
      obtain ⟨t3284, ht3285, hx3282⟩ := bind_some hx3282
      refine WL.call (some 9) 52 #[(.agg #[(.int .i64 p1.Width), (.int .i64 p1.Height), (.slice A_p1_Cells p1.Cells.length c_p1_Cells)])] (fun fb => by kernel_rfl) (tile_Form_calls p1 A_p1_Cells c_p1_Cells t3284 _ (hS3260.rd 1) ht3285) (fun v w3286 hR3287 => ?_)
      obtain ⟨rfl, hk_⟩ := hR3287
      have hS3288 := hS3260.keepN hk_
      refine ⟨trivial, ?_⟩
      refine seg 6 [] [2, 3, 10] [(2, (.pointer (some ⟨g3060, 0, none⟩))), (3, (.pointer (some ⟨g3064, 0, none⟩))), (10, (.bool t3284))] [] (fun fb => by kernel_rfl) rfl trivial ?_
      injection hx3282 with hx3282
      exact WL.to K t3284 [2, 3, 10] rfl ⟨⟨(hS3288.subR [0, 1]).sub [1, 0] (by decide), hx3282.symm⟩, trivial⟩
    refine WL.setB 7 h3283 rfl ?_
    refine seg 6 [] [2, 3, 10] [(2, (.pointer (some ⟨g3060, 0, none⟩))), (3, (.pointer (some ⟨g3064, 0, none⟩))), (10, (.bool false))] [] (fun fb => by kernel_rfl) rfl trivial ?_
    injection hx3282 with hx3282
    exact WL.to K false [2, 3, 10] rfl ⟨⟨(hS3260.subR [0, 1]).sub [1, 0] (by decide), hx3282.symm⟩, trivial⟩
  rintro y3289 w3291 ⟨⟨hS3292, hq3290⟩, hF3293⟩
  subst hq3290
  refine seg 7 [] [2, 3, 11] [(2, (.pointer (some ⟨g3060, 0, none⟩))), (3, (.pointer (some ⟨g3064, 0, none⟩))), (11, (.bool x3281))] [] (fun fb => by kernel_rfl) rfl trivial ?_
  obtain ⟨x3344, hx3345, hf⟩ := bind_some hf
  refine WL.cutW (T := Bool) 13 (fun t => [(17, (.bool t))]) (fun t w1 => (St NoS w w1 [rowR enc_Tile A_p0 c_p0 p0, rowR encInt A_p1_Cells c_p1_Cells p1.Cells] [] ∧ x3344 = t) ∧ CellsOK [] w1) (fun K => ?_) ?_
  ·
    rcases br_some hx3345 with ⟨h3346, hx3345⟩ | ⟨h3346, hx3345⟩
    ·
      refine WL.setB 11 h3346 rfl ?_
      refine seg 10 [.v (.slice A_p1_Cells p1.Cells.length c_p1_Cells)] [11, 13, 14] [(11, (.bool true)), (13, (.slice A_p1_Cells p1.Cells.length c_p1_Cells)), (14, (.func (.func 67) #[] #[(.pointer (some ⟨g3060, 0, none⟩))]))] [.cell ⟨g3064, 2, none⟩ (.slice A_p1_Cells p1.Cells.length c_p1_Cells)] (fun fb => by kernel_rfl) rfl ⟨hS3292.cell 1 rfl 2 rfl, trivial⟩ ?_
      obtain ⟨t3347, ht3348, hx3345⟩ := bind_some hx3345
      refine WL.call (some 15) 49 #[(.slice A_p1_Cells p1.Cells.length c_p1_Cells), (.func (.func 67) #[] #[(.pointer (some ⟨g3060, 0, none⟩))])] (fun fb => by kernel_rfl) (slices_ContainsFunc_int_int_with_tile_of_1_calls _ p1.Cells p0 A_p1_Cells c_p1_Cells g3060 A_p0 c_p0 t3347 _ (hS3292.rd 1) (hS3292.ow 0) (hS3292.rd 0) ht3348) (fun v w3349 hR3350 => ?_)
      obtain ⟨rfl, hk_⟩ := hR3350
      have hS3351 := hS3292.keepN hk_
      refine ⟨trivial, ?_⟩
      refine seg 13 [] [17] [(17, (.bool (!t3347)))] [] (fun fb => by kernel_rfl) rfl trivial ?_
      injection hx3345 with hx3345
      exact WL.to K (!t3347) [17] rfl ⟨⟨(hS3351.subR [0, 1]).sub [] (by decide), hx3345.symm⟩, trivial⟩
    refine WL.setB 11 h3346 rfl ?_
    refine seg 13 [] [17] [(17, (.bool false))] [] (fun fb => by kernel_rfl) rfl trivial ?_
    injection hx3345 with hx3345
    exact WL.to K false [17] rfl ⟨⟨(hS3292.subR [0, 1]).sub [] (by decide), hx3345.symm⟩, trivial⟩
  rintro y3352 w3354 ⟨⟨hS3355, hq3353⟩, hF3356⟩
  subst hq3353
  refine seg 14 [] [4] [(4, (.bool x3344))] [] (fun fb => by kernel_rfl) rfl trivial ?_
  refine WL.done rfl ?_
  refine WX.next ?_
  refine WC.ret ?_
  injection hf with hf
  subst hf
  exact WX.ret_ [] (.bool x3344) [] (fun fb => by kernel_rfl) trivial ⟨_, rfl, rfl, hS3355.keep⟩
theorem tile_joins_calls (k : Nat) (p0 : List Tile) (p1 : Pattern) (p2 : Bool) (A_p0 : Option Addr) (c_p0 : Nat) (A_p1_Cells : Option Addr) (c_p1_Cells : Nat) (r : Bool) (w : World) (hR0 : RO NoS w (rowR enc_Tile A_p0 c_p0 p0)) (hR1 : RO NoS w (rowR encInt A_p1_Cells c_p1_Cells p1.Cells)) (hf : tile_joins k p0 p1 p2 = some r) :
    CallsR Try.prog 57 #[(.slice A_p0 p0.length c_p0), (.agg #[(.int .i64 p1.Width), (.int .i64 p1.Height), (.slice A_p1_Cells p1.Cells.length c_p1_Cells)]), (.bool p2)] w (fun v w' => v = (.bool r) ∧ Keeps NoS w w') := by
  have hS : St NoS w w [rowR enc_Tile A_p0 c_p0 p0, rowR encInt A_p1_Cells c_p1_Cells p1.Cells] [] := St.init (ro_cons hR0 (ro_cons hR1 (ro_nil _ _)))
  refine enter 92 Try.func57 rfl Try.ntmps57 rfl ?_
  unfold tile_joins at hf
  refine WC.seq ?_
  refine WC.region ?_
  refine WL.new hS 4 [] (fun g => (.pointer (some ⟨g, 0, none⟩))) (.cells #[(.int .i64 p1.Width), (.int .i64 p1.Height), (.slice A_p1_Cells p1.Cells.length c_p1_Cells)] 31 (0, 0)) [] (fun fb g => by kernel_rfl) trivial (fun g3362 w3363 hS3364 => ?_)
  refine ⟨trivial, ?_⟩
  refine seg 2 [] [0, 2, 4] [(0, (.slice A_p0 p0.length c_p0)), (2, (.bool p2)), (4, (.pointer (some ⟨g3362, 0, none⟩)))] [] (fun fb => by kernel_rfl) rfl trivial ?_
  refine WL.done rfl ?_
  refine WX.next ?_
  refine WC.seq ?_
  refine WC.seq ?_
  refine WC.region ?_
  refine seg 4 [.v (.slice A_p1_Cells p1.Cells.length c_p1_Cells)] [0, 2, 4, 12, 13, 14] [(0, (.slice A_p0 p0.length c_p0)), (2, (.bool p2)), (4, (.pointer (some ⟨g3362, 0, none⟩))), (12, (.slice A_p1_Cells p1.Cells.length c_p1_Cells)), (13, (.int .i64 (p1.Cells.length : Int))), (14, (.int .i64 0))] [.cell ⟨g3362, 2, none⟩ (.slice A_p1_Cells p1.Cells.length c_p1_Cells)] (fun fb => by kernel_rfl) rfl ⟨hS3364.cell 0 rfl 2 rfl, trivial⟩ ?_
  refine WL.done rfl ?_
  refine WX.next ?_
  obtain ⟨x3534, hx3535, hf⟩ := bind_some hf
  refine WC.cutN (T := Unit) (fun t => []) (fun t w1 => St NoS w w1 [rowR enc_Tile A_p0 c_p0 p0, rowR encInt A_p1_Cells c_p1_Cells p1.Cells] [] ∧ x3534 = .inr t) (fun Kx3534 => ?_) ?_
  ·
    refine WC.block ?_
    refine WC.loop (T := Int) (fun t => [(0, (.slice A_p0 p0.length c_p0)), (2, (.bool p2)), (4, (.pointer (some ⟨g3362, 0, none⟩))), (12, (.slice A_p1_Cells p1.Cells.length c_p1_Cells)), (13, (.int .i64 (p1.Cells.length : Int))), (14, (.int .i64 t))]) (fun n t w1 => St NoS w w1 [rowR enc_Tile A_p0 c_p0 p0, rowR encInt A_p1_Cells c_p1_Cells p1.Cells] [blk g3362 (.cells #[(.int .i64 p1.Width), (.int .i64 p1.Height), (.slice A_p1_Cells p1.Cells.length c_p1_Cells)] 31 (0, 0))] ∧ tile_joins.l0 n t p0 p1 p2 = some x3534) k 0 [0, 2, 4, 12, 13, 14] rfl ⟨(hS3364.subR [0, 1]).sub [0] (by decide), hx3535⟩ ?_
    rintro k3536 x3533 w3537 ⟨hS3538, hl3539⟩
    cases k3536 with
    | zero => rw [tile_joins.l0] at hl3539; cases hl3539
    | succ k3536 =>
      rw [tile_joins.l0] at hl3539
      refine WC.seq ?_
      refine WC.region ?_
      refine seg 1 [] [0, 2, 4, 12, 13, 14, 15] [(0, (.slice A_p0 p0.length c_p0)), (2, (.bool p2)), (4, (.pointer (some ⟨g3362, 0, none⟩))), (12, (.slice A_p1_Cells p1.Cells.length c_p1_Cells)), (13, (.int .i64 (p1.Cells.length : Int))), (14, (.int .i64 x3533)), (15, (.bool (decide (x3533 < (p1.Cells.length : Int)))))] [] (fun fb => by kernel_rfl) rfl trivial ?_
      refine WL.done rfl ?_
      refine WX.next ?_
      refine WC.seq ?_
      rcases br_some hl3539 with ⟨h3540, hl3539⟩ | ⟨h3540, hl3539⟩
      · refine WC.condT2 (fun fb => by kernel_rfl) h3540 ?_
        refine WC.skip ?_
        refine WX.next ?_
        refine WC.seq ?_
        refine WC.block ?_
        refine WC.seq ?_
        refine WC.region ?_
        refine seg 1 [] [0, 2, 4, 12, 13, 14, 16] [(0, (.slice A_p0 p0.length c_p0)), (2, (.bool p2)), (4, (.pointer (some ⟨g3362, 0, none⟩))), (12, (.slice A_p1_Cells p1.Cells.length c_p1_Cells)), (13, (.int .i64 (p1.Cells.length : Int))), (14, (.int .i64 x3533)), (16, (.int .i64 x3533))] [] (fun fb => by kernel_rfl) rfl trivial ?_
        obtain ⟨h3541, hl3539⟩ := as_some hl3539
        refine seg 5 [.v (.int .i64 (rdD p1.Cells x3533 0))] [0, 2, 4, 7, 8, 12, 13, 14] [(0, (.slice A_p0 p0.length c_p0)), (2, (.bool p2)), (4, (.pointer (some ⟨g3362, 0, none⟩))), (7, (.int .i64 x3533)), (8, (.int .i64 (rdD p1.Cells x3533 0))), (12, (.slice A_p1_Cells p1.Cells.length c_p1_Cells)), (13, (.int .i64 (p1.Cells.length : Int))), (14, (.int .i64 x3533))] [.idx A_p1_Cells x3533 p1.Cells.length, .cell ((adr A_p1_Cells).add ((x3533).toNat * 1)) (.int .i64 (rdD p1.Cells x3533 0))] (fun fb => by kernel_rfl) rfl ⟨rowR.adr (hS3538.rd 1).1 h3541.1 h3541.2, rowR.cell (hS3538.rd 1).1 0 h3541.1 h3541.2 0 rfl, trivial⟩ ?_
        refine WL.done rfl ?_
        refine WX.next ?_
        refine WC.seq ?_
        obtain ⟨h3546, hl3539⟩ := as_some hl3539
        refine WC.regionD ([(2, ⟨g3362, 0, none⟩, (.int .i64 p1.Width)), (6, ⟨g3362, 0, none⟩, (.int .i64 p1.Width))], [0, 1, 2, 3, 4, 5, 6, 7, 8, 9], [[], [], [1], [0, 1, 2], [], [], [5], [4, 5, 6], [0, 1, 2, 3], [0, 1, 2, 3, 4, 5, 6, 7, 8]]) [[0, 1, 2, 3, 4, 5, 6, 7, 8, 9]] (by kernel_rfl) (by kernel_rfl) (NoPanic.seq (NoPanic.block (NoPanic.seq (NoPanic.seq (NoPanic.block (NoPanic.seq (NoPanic.body))))))) ?_
        have hS3544 := hS3538.drew
        revert hS3544
        generalize World.drew w3537 = w3543
        intro hS3544
        refine ⟨⟨hS3544.cell 0 rfl 0 rfl, hS3544.cell 0 rfl 0 rfl, trivial⟩, forallC ?_ (forallN)⟩
        refine segF 10 [.v (.int .i64 p1.Width), .v (.int .i64 p1.Width)] [0, 2, 4, 8, 9, 10, 12, 13, 14] [(0, (.slice A_p0 p0.length c_p0)), (2, (.bool p2)), (4, (.pointer (some ⟨g3362, 0, none⟩))), (8, (.int .i64 (rdD p1.Cells x3533 0))), (9, (.int .i64 (Int.tmod x3533 p1.Width))), (10, (.int .i64 (w64 (Int.tdiv x3533 p1.Width)))), (12, (.slice A_p1_Cells p1.Cells.length c_p1_Cells)), (13, (.int .i64 (p1.Cells.length : Int))), (14, (.int .i64 x3533))] [.ne p1.Width, .ne p1.Width] [0, 1] [(2, ⟨g3362, 0, none⟩, (.int .i64 p1.Width)), (6, ⟨g3362, 0, none⟩, (.int .i64 p1.Width))] (fun fb => by kernel_rfl) rfl ⟨h3546, h3546, trivial⟩ rfl ?_
        refine WL.done rfl ?_
        refine WX.next ?_
        refine WC.seq ?_
        refine WC.seq ?_
        refine WC.region ?_
        refine seg 6 [.v (.int .i64 p1.Width)] [0, 2, 4, 8, 9, 10, 12, 13, 14, 32] [(0, (.slice A_p0 p0.length c_p0)), (2, (.bool p2)), (4, (.pointer (some ⟨g3362, 0, none⟩))), (8, (.int .i64 (rdD p1.Cells x3533 0))), (9, (.int .i64 (Int.tmod x3533 p1.Width))), (10, (.int .i64 (w64 (Int.tdiv x3533 p1.Width)))), (12, (.slice A_p1_Cells p1.Cells.length c_p1_Cells)), (13, (.int .i64 (p1.Cells.length : Int))), (14, (.int .i64 x3533)), (32, (.bool (decide (w64 ((Int.tmod x3533 p1.Width) + 1) < p1.Width))))] [.cell ⟨g3362, 0, none⟩ (.int .i64 p1.Width)] (fun fb => by kernel_rfl) rfl ⟨hS3544.cell 0 rfl 0 rfl, trivial⟩ ?_
        refine WL.cutV (T := Bool) 8 (fun t => [(34, (.bool t)), (0, (.slice A_p0 p0.length c_p0)), (2, (.bool p2)), (4, (.pointer (some ⟨g3362, 0, none⟩))), (8, (.int .i64 (rdD p1.Cells x3533 0))), (9, (.int .i64 (Int.tmod x3533 p1.Width))), (10, (.int .i64 (w64 (Int.tdiv x3533 p1.Width)))), (12, (.slice A_p1_Cells p1.Cells.length c_p1_Cells)), (13, (.int .i64 (p1.Cells.length : Int))), (14, (.int .i64 x3533))]) (fun t => t = ((decide (w64 ((Int.tmod x3533 p1.Width) + 1) < p1.Width)) || p2)) (fun K => ?_) ?_
        ·
          rcases Bool.eq_false_or_eq_true (decide (w64 ((Int.tmod x3533 p1.Width) + 1) < p1.Width)) with h3547 | h3547
          ·
            refine WL.setB 32 h3547 rfl ?_
            refine seg 8 [] [0, 2, 4, 8, 9, 10, 12, 13, 14, 34] [(0, (.slice A_p0 p0.length c_p0)), (2, (.bool p2)), (4, (.pointer (some ⟨g3362, 0, none⟩))), (8, (.int .i64 (rdD p1.Cells x3533 0))), (9, (.int .i64 (Int.tmod x3533 p1.Width))), (10, (.int .i64 (w64 (Int.tdiv x3533 p1.Width)))), (12, (.slice A_p1_Cells p1.Cells.length c_p1_Cells)), (13, (.int .i64 (p1.Cells.length : Int))), (14, (.int .i64 x3533)), (34, (.bool true))] [] (fun fb => by kernel_rfl) rfl trivial ?_
            exact WL.toV K true [34, 0, 2, 4, 8, 9, 10, 12, 13, 14] rfl (by rw [h3547]; rfl)
          refine WL.setB 32 h3547 rfl ?_
          refine seg 8 [] [0, 2, 4, 8, 9, 10, 12, 13, 14, 34] [(0, (.slice A_p0 p0.length c_p0)), (2, (.bool p2)), (4, (.pointer (some ⟨g3362, 0, none⟩))), (8, (.int .i64 (rdD p1.Cells x3533 0))), (9, (.int .i64 (Int.tmod x3533 p1.Width))), (10, (.int .i64 (w64 (Int.tdiv x3533 p1.Width)))), (12, (.slice A_p1_Cells p1.Cells.length c_p1_Cells)), (13, (.int .i64 (p1.Cells.length : Int))), (14, (.int .i64 x3533)), (34, (.bool p2))] [] (fun fb => by kernel_rfl) rfl trivial ?_
          exact WL.toV K p2 [34, 0, 2, 4, 8, 9, 10, 12, 13, 14] rfl (by rw [h3547]; rfl)
        rintro b3548 rfl
        refine WL.done rfl ?_
        refine WX.next ?_
        obtain ⟨x3562, hx3563, hl3539⟩ := bind_some hl3539
        refine WC.cutN (T := Unit) (fun t => [(0, (.slice A_p0 p0.length c_p0)), (2, (.bool p2)), (4, (.pointer (some ⟨g3362, 0, none⟩))), (8, (.int .i64 (rdD p1.Cells x3533 0))), (9, (.int .i64 (Int.tmod x3533 p1.Width))), (10, (.int .i64 (w64 (Int.tdiv x3533 p1.Width)))), (12, (.slice A_p1_Cells p1.Cells.length c_p1_Cells)), (13, (.int .i64 (p1.Cells.length : Int))), (14, (.int .i64 x3533))]) (fun t w1 => St NoS w w1 [rowR enc_Tile A_p0 c_p0 p0, rowR encInt A_p1_Cells c_p1_Cells p1.Cells] [blk g3362 (.cells #[(.int .i64 p1.Width), (.int .i64 p1.Height), (.slice A_p1_Cells p1.Cells.length c_p1_Cells)] 31 (0, 0))] ∧ x3562 = .inr t) (fun Kx3562 => ?_) ?_
        ·
          rcases br_some hx3563 with ⟨h3564, hx3563⟩ | ⟨h3564, hx3563⟩
          · refine WC.condT2 (fun fb => by kernel_rfl) h3564 ?_
            refine WC.seq ?_
            obtain ⟨h3573, hx3563⟩ := as_some hx3563
            obtain ⟨h3574, hx3563⟩ := as_some hx3563
            obtain ⟨h3575, hx3563⟩ := as_some hx3563
            refine WC.regionD ([(4, (((adr A_p0).add (((rdD p1.Cells x3533 0)).toNat * 4)).add 1), (.int .i64 ((rdD p0 (rdD p1.Cells x3533 0) z_Tile).E))), (7, ⟨g3362, 2, none⟩, (.slice A_p1_Cells p1.Cells.length c_p1_Cells)), (10, ⟨g3362, 0, none⟩, (.int .i64 p1.Width)), (15, ⟨g3362, 0, none⟩, (.int .i64 p1.Width)), (19, ((adr A_p1_Cells).add ((w64 ((w64 ((w64 (Int.tdiv x3533 p1.Width)) * p1.Width)) + (Int.tmod (w64 ((Int.tmod x3533 p1.Width) + 1)) p1.Width))).toNat * 1)), (.int .i64 (rdD p1.Cells (w64 ((w64 ((w64 (Int.tdiv x3533 p1.Width)) * p1.Width)) + (Int.tmod (w64 ((Int.tmod x3533 p1.Width) + 1)) p1.Width))) 0))), (22, (((adr A_p0).add (((rdD p1.Cells (w64 ((w64 ((w64 (Int.tdiv x3533 p1.Width)) * p1.Width)) + (Int.tmod (w64 ((Int.tmod x3533 p1.Width) + 1)) p1.Width))) 0)).toNat * 4)).add 3), (.int .i64 ((rdD p0 (rdD p1.Cells (w64 ((w64 ((w64 (Int.tdiv x3533 p1.Width)) * p1.Width)) + (Int.tmod (w64 ((Int.tmod x3533 p1.Width) + 1)) p1.Width))) 0) z_Tile).W)))], [0, 1, 2, 3, 4, 5, 6, 7, 8, 9, 10, 11, 12, 13, 14, 15, 16, 17, 18, 19, 20, 21, 22, 23], [[], [], [0, 1], [0, 1, 2], [0, 1, 2, 3], [], [], [6], [], [], [9], [8, 9, 10], [], [12], [], [14], [12, 13, 14, 15], [8, 9, 10, 11, 12, 13, 14, 15, 16], [6, 7, 8, 9, 10, 11, 12, 13, 14, 15, 16, 17], [6, 7, 8, 9, 10, 11, 12, 13, 14, 15, 16, 17, 18], [5, 6, 7, 8, 9, 10, 11, 12, 13, 14, 15, 16, 17, 18, 19], [5, 6, 7, 8, 9, 10, 11, 12, 13, 14, 15, 16, 17, 18, 19, 20], [5, 6, 7, 8, 9, 10, 11, 12, 13, 14, 15, 16, 17, 18, 19, 20, 21], [0, 1, 2, 3, 4, 5, 6, 7, 8, 9, 10, 11, 12, 13, 14, 15, 16, 17, 18, 19, 20, 21, 22]]) [[0, 1, 2, 3, 4, 5, 6, 7, 8, 9, 10, 11, 12, 13, 14, 15, 16, 17, 18, 19, 20, 21, 22, 23]] (by kernel_rfl) (by kernel_rfl) (NoPanic.seq (NoPanic.seq (NoPanic.block (NoPanic.seq (NoPanic.seq (NoPanic.block (NoPanic.seq (NoPanic.body)))))))) ?_
            have hS3569 := hS3544.drew
            revert hS3569
            generalize World.drew w3543 = w3568
            intro hS3569
            refine ⟨⟨rowR.cell (hS3569.rd 0).1 z_Tile h3573.1 h3573.2 1 rfl, hS3569.cell 0 rfl 2 rfl, hS3569.cell 0 rfl 0 rfl, hS3569.cell 0 rfl 0 rfl, rowR.cell (hS3569.rd 1).1 0 h3574.1 h3574.2 0 rfl, rowR.cell (hS3569.rd 0).1 z_Tile h3575.1 h3575.2 3 rfl, trivial⟩, forallC ?_ (forallN)⟩
            refine segF 24 [.v (.int .i64 ((rdD p0 (rdD p1.Cells x3533 0) z_Tile).E)), .v (.slice A_p1_Cells p1.Cells.length c_p1_Cells), .v (.int .i64 p1.Width), .v (.int .i64 p1.Width), .v (.int .i64 (rdD p1.Cells (w64 ((w64 ((w64 (Int.tdiv x3533 p1.Width)) * p1.Width)) + (Int.tmod (w64 ((Int.tmod x3533 p1.Width) + 1)) p1.Width))) 0)), .v (.int .i64 ((rdD p0 (rdD p1.Cells (w64 ((w64 ((w64 (Int.tdiv x3533 p1.Width)) * p1.Width)) + (Int.tmod (w64 ((Int.tmod x3533 p1.Width) + 1)) p1.Width))) 0) z_Tile).W))] [0, 2, 4, 8, 9, 10, 12, 13, 14, 58] [(0, (.slice A_p0 p0.length c_p0)), (2, (.bool p2)), (4, (.pointer (some ⟨g3362, 0, none⟩))), (8, (.int .i64 (rdD p1.Cells x3533 0))), (9, (.int .i64 (Int.tmod x3533 p1.Width))), (10, (.int .i64 (w64 (Int.tdiv x3533 p1.Width)))), (12, (.slice A_p1_Cells p1.Cells.length c_p1_Cells)), (13, (.int .i64 (p1.Cells.length : Int))), (14, (.int .i64 x3533)), (58, (.bool (((rdD p0 (rdD p1.Cells x3533 0) z_Tile).E) != ((rdD p0 (rdD p1.Cells (w64 ((w64 ((w64 (Int.tdiv x3533 p1.Width)) * p1.Width)) + (Int.tmod (w64 ((Int.tmod x3533 p1.Width) + 1)) p1.Width))) 0) z_Tile).W))))] [.idx A_p0 (rdD p1.Cells x3533 0) p0.length, .ne p1.Width, .idx A_p1_Cells (w64 ((w64 ((w64 (Int.tdiv x3533 p1.Width)) * p1.Width)) + (Int.tmod (w64 ((Int.tmod x3533 p1.Width) + 1)) p1.Width))) p1.Cells.length, .idx A_p0 (rdD p1.Cells (w64 ((w64 ((w64 (Int.tdiv x3533 p1.Width)) * p1.Width)) + (Int.tmod (w64 ((Int.tmod x3533 p1.Width) + 1)) p1.Width))) 0) p0.length] [0, 1, 2, 3, 4, 5] [(4, (((adr A_p0).add (((rdD p1.Cells x3533 0)).toNat * 4)).add 1), (.int .i64 ((rdD p0 (rdD p1.Cells x3533 0) z_Tile).E))), (7, ⟨g3362, 2, none⟩, (.slice A_p1_Cells p1.Cells.length c_p1_Cells)), (10, ⟨g3362, 0, none⟩, (.int .i64 p1.Width)), (15, ⟨g3362, 0, none⟩, (.int .i64 p1.Width)), (19, ((adr A_p1_Cells).add ((w64 ((w64 ((w64 (Int.tdiv x3533 p1.Width)) * p1.Width)) + (Int.tmod (w64 ((Int.tmod x3533 p1.Width) + 1)) p1.Width))).toNat * 1)), (.int .i64 (rdD p1.Cells (w64 ((w64 ((w64 (Int.tdiv x3533 p1.Width)) * p1.Width)) + (Int.tmod (w64 ((Int.tmod x3533 p1.Width) + 1)) p1.Width))) 0))), (22, (((adr A_p0).add (((rdD p1.Cells (w64 ((w64 ((w64 (Int.tdiv x3533 p1.Width)) * p1.Width)) + (Int.tmod (w64 ((Int.tmod x3533 p1.Width) + 1)) p1.Width))) 0)).toNat * 4)).add 3), (.int .i64 ((rdD p0 (rdD p1.Cells (w64 ((w64 ((w64 (Int.tdiv x3533 p1.Width)) * p1.Width)) + (Int.tmod (w64 ((Int.tmod x3533 p1.Width) + 1)) p1.Width))) 0) z_Tile).W)))] (fun fb => by kernel_rfl) rfl ⟨rowR.adr (hS3569.rd 0).1 h3573.1 h3573.2, h3546, rowR.adr (hS3569.rd 1).1 h3574.1 h3574.2, rowR.adr (hS3569.rd 0).1 h3575.1 h3575.2, trivial⟩ rfl ?_
            refine WL.done rfl ?_
            refine WX.next ?_
            rcases br_some hx3563 with ⟨h3576, hx3563⟩ | ⟨h3576, hx3563⟩
            · refine WC.condT2 (fun fb => by kernel_rfl) h3576 ?_
              refine WC.seq ?_
              refine WC.region ?_
              refine seg 1 [] [6] [(6, (.bool false))] [] (fun fb => by kernel_rfl) rfl trivial ?_
              refine WL.done rfl ?_
              refine WX.next ?_
              refine WC.ret ?_
              injection hx3563 with hx3563
              subst hx3563
              injection hl3539 with hl3539
              subst hl3539
              injection hf with hf
              subst hf
              exact WX.thenR (WX.blockR (WX.thenR (WX.thenR (WX.blockR (WX.thenR (WX.ret_ [] (.bool false) [] (fun fb => by kernel_rfl) trivial ⟨_, rfl, rfl, hS3569.keep⟩))))))
            refine WC.condF2 (fun fb => by kernel_rfl) h3576 ?_
            refine WC.skip ?_
            injection hx3563 with hx3563
            exact WX.to Kx3562 () [0, 2, 4, 8, 9, 10, 12, 13, 14] rfl ⟨(hS3569.subR [0, 1]).sub [0] (by decide), hx3563.symm⟩
          refine WC.condF2 (fun fb => by kernel_rfl) h3564 ?_
          refine WC.skip ?_
          injection hx3563 with hx3563
          exact WX.to Kx3562 () [0, 2, 4, 8, 9, 10, 12, 13, 14] rfl ⟨(hS3544.subR [0, 1]).sub [0] (by decide), hx3563.symm⟩
        rintro y3580 w3577 ⟨hS3578, hq3579⟩
        subst hq3579
        have hl3539 := sum_inr hl3539
        refine WX.next ?_
        refine WC.seq ?_
        refine WC.region ?_
        refine seg 6 [.v (.int .i64 p1.Height)] [0, 2, 4, 8, 9, 10, 12, 13, 14, 64] [(0, (.slice A_p0 p0.length c_p0)), (2, (.bool p2)), (4, (.pointer (some ⟨g3362, 0, none⟩))), (8, (.int .i64 (rdD p1.Cells x3533 0))), (9, (.int .i64 (Int.tmod x3533 p1.Width))), (10, (.int .i64 (w64 (Int.tdiv x3533 p1.Width)))), (12, (.slice A_p1_Cells p1.Cells.length c_p1_Cells)), (13, (.int .i64 (p1.Cells.length : Int))), (14, (.int .i64 x3533)), (64, (.bool (decide (w64 ((w64 (Int.tdiv x3533 p1.Width)) + 1) < p1.Height))))] [.cell ⟨g3362, 1, none⟩ (.int .i64 p1.Height)] (fun fb => by kernel_rfl) rfl ⟨hS3578.cell 0 rfl 1 rfl, trivial⟩ ?_
        refine WL.cutV (T := Bool) 8 (fun t => [(66, (.bool t)), (0, (.slice A_p0 p0.length c_p0)), (2, (.bool p2)), (4, (.pointer (some ⟨g3362, 0, none⟩))), (8, (.int .i64 (rdD p1.Cells x3533 0))), (9, (.int .i64 (Int.tmod x3533 p1.Width))), (10, (.int .i64 (w64 (Int.tdiv x3533 p1.Width)))), (12, (.slice A_p1_Cells p1.Cells.length c_p1_Cells)), (13, (.int .i64 (p1.Cells.length : Int))), (14, (.int .i64 x3533))]) (fun t => t = ((decide (w64 ((w64 (Int.tdiv x3533 p1.Width)) + 1) < p1.Height)) || p2)) (fun K => ?_) ?_
        ·
          rcases Bool.eq_false_or_eq_true (decide (w64 ((w64 (Int.tdiv x3533 p1.Width)) + 1) < p1.Height)) with h3582 | h3582
          ·
            refine WL.setB 64 h3582 rfl ?_
            refine seg 8 [] [0, 2, 4, 8, 9, 10, 12, 13, 14, 66] [(0, (.slice A_p0 p0.length c_p0)), (2, (.bool p2)), (4, (.pointer (some ⟨g3362, 0, none⟩))), (8, (.int .i64 (rdD p1.Cells x3533 0))), (9, (.int .i64 (Int.tmod x3533 p1.Width))), (10, (.int .i64 (w64 (Int.tdiv x3533 p1.Width)))), (12, (.slice A_p1_Cells p1.Cells.length c_p1_Cells)), (13, (.int .i64 (p1.Cells.length : Int))), (14, (.int .i64 x3533)), (66, (.bool true))] [] (fun fb => by kernel_rfl) rfl trivial ?_
            exact WL.toV K true [66, 0, 2, 4, 8, 9, 10, 12, 13, 14] rfl (by rw [h3582]; rfl)
          refine WL.setB 64 h3582 rfl ?_
          refine seg 8 [] [0, 2, 4, 8, 9, 10, 12, 13, 14, 66] [(0, (.slice A_p0 p0.length c_p0)), (2, (.bool p2)), (4, (.pointer (some ⟨g3362, 0, none⟩))), (8, (.int .i64 (rdD p1.Cells x3533 0))), (9, (.int .i64 (Int.tmod x3533 p1.Width))), (10, (.int .i64 (w64 (Int.tdiv x3533 p1.Width)))), (12, (.slice A_p1_Cells p1.Cells.length c_p1_Cells)), (13, (.int .i64 (p1.Cells.length : Int))), (14, (.int .i64 x3533)), (66, (.bool p2))] [] (fun fb => by kernel_rfl) rfl trivial ?_
          exact WL.toV K p2 [66, 0, 2, 4, 8, 9, 10, 12, 13, 14] rfl (by rw [h3582]; rfl)
        rintro b3583 rfl
        refine WL.done rfl ?_
        refine WX.next ?_
        obtain ⟨x3600, hx3601, hl3539⟩ := bind_some hl3539
        refine WC.cutN (T := Unit) (fun t => [(0, (.slice A_p0 p0.length c_p0)), (2, (.bool p2)), (4, (.pointer (some ⟨g3362, 0, none⟩))), (12, (.slice A_p1_Cells p1.Cells.length c_p1_Cells)), (13, (.int .i64 (p1.Cells.length : Int))), (14, (.int .i64 x3533))]) (fun t w1 => St NoS w w1 [rowR enc_Tile A_p0 c_p0 p0, rowR encInt A_p1_Cells c_p1_Cells p1.Cells] [blk g3362 (.cells #[(.int .i64 p1.Width), (.int .i64 p1.Height), (.slice A_p1_Cells p1.Cells.length c_p1_Cells)] 31 (0, 0))] ∧ x3600 = .inr t) (fun Kx3600 => ?_) ?_
        ·
          rcases br_some hx3601 with ⟨h3602, hx3601⟩ | ⟨h3602, hx3601⟩
          · refine WC.condT2 (fun fb => by kernel_rfl) h3602 ?_
            refine WC.seq ?_
            obtain ⟨h3613, hx3601⟩ := as_some hx3601
            obtain ⟨h3614, hx3601⟩ := as_some hx3601
            obtain ⟨h3615, hx3601⟩ := as_some hx3601
            obtain ⟨h3616, hx3601⟩ := as_some hx3601
            refine WC.regionD ([(4, ((adr A_p0).add (((rdD p1.Cells x3533 0)).toNat * 4)), (.int .i64 ((rdD p0 (rdD p1.Cells x3533 0) z_Tile).N))), (7, ⟨g3362, 2, none⟩, (.slice A_p1_Cells p1.Cells.length c_p1_Cells)), (11, ⟨g3362, 1, none⟩, (.int .i64 p1.Height)), (14, ⟨g3362, 0, none⟩, (.int .i64 p1.Width)), (19, ((adr A_p1_Cells).add ((w64 ((w64 ((Int.tmod (w64 ((w64 (Int.tdiv x3533 p1.Width)) + 1)) p1.Height) * p1.Width)) + (Int.tmod x3533 p1.Width))).toNat * 1)), (.int .i64 (rdD p1.Cells (w64 ((w64 ((Int.tmod (w64 ((w64 (Int.tdiv x3533 p1.Width)) + 1)) p1.Height) * p1.Width)) + (Int.tmod x3533 p1.Width))) 0))), (22, (((adr A_p0).add (((rdD p1.Cells (w64 ((w64 ((Int.tmod (w64 ((w64 (Int.tdiv x3533 p1.Width)) + 1)) p1.Height) * p1.Width)) + (Int.tmod x3533 p1.Width))) 0)).toNat * 4)).add 2), (.int .i64 ((rdD p0 (rdD p1.Cells (w64 ((w64 ((Int.tmod (w64 ((w64 (Int.tdiv x3533 p1.Width)) + 1)) p1.Height) * p1.Width)) + (Int.tmod x3533 p1.Width))) 0) z_Tile).S)))], [0, 1, 2, 3, 4, 5, 6, 7, 8, 9, 10, 11, 12, 13, 14, 15, 16, 17, 18, 19, 20, 21, 22, 23], [[], [], [0, 1], [0, 1, 2], [0, 1, 2, 3], [], [], [6], [], [8], [], [10], [8, 9, 10, 11], [], [13], [8, 9, 10, 11, 12, 13, 14], [], [8, 9, 10, 11, 12, 13, 14, 15, 16], [6, 7, 8, 9, 10, 11, 12, 13, 14, 15, 16, 17], [6, 7, 8, 9, 10, 11, 12, 13, 14, 15, 16, 17, 18], [5, 6, 7, 8, 9, 10, 11, 12, 13, 14, 15, 16, 17, 18, 19], [5, 6, 7, 8, 9, 10, 11, 12, 13, 14, 15, 16, 17, 18, 19, 20], [5, 6, 7, 8, 9, 10, 11, 12, 13, 14, 15, 16, 17, 18, 19, 20, 21], [0, 1, 2, 3, 4, 5, 6, 7, 8, 9, 10, 11, 12, 13, 14, 15, 16, 17, 18, 19, 20, 21, 22]]) [[0, 1, 2, 3, 4, 5, 6, 7, 8, 9, 10, 11, 12, 13, 14, 15, 16, 17, 18, 19, 20, 21, 22, 23]] (by kernel_rfl) (by kernel_rfl) (NoPanic.seq (NoPanic.block (NoPanic.seq (NoPanic.seq (NoPanic.block (NoPanic.seq (NoPanic.body))))))) ?_
            have hS3608 := hS3578.drew
            revert hS3608
            generalize World.drew w3577 = w3607
            intro hS3608
            refine ⟨⟨rowR.cell (hS3608.rd 0).1 z_Tile h3613.1 h3613.2 0 rfl, hS3608.cell 0 rfl 2 rfl, hS3608.cell 0 rfl 1 rfl, hS3608.cell 0 rfl 0 rfl, rowR.cell (hS3608.rd 1).1 0 h3615.1 h3615.2 0 rfl, rowR.cell (hS3608.rd 0).1 z_Tile h3616.1 h3616.2 2 rfl, trivial⟩, forallC ?_ (forallN)⟩
            refine segF 24 [.v (.int .i64 ((rdD p0 (rdD p1.Cells x3533 0) z_Tile).N)), .v (.slice A_p1_Cells p1.Cells.length c_p1_Cells), .v (.int .i64 p1.Height), .v (.int .i64 p1.Width), .v (.int .i64 (rdD p1.Cells (w64 ((w64 ((Int.tmod (w64 ((w64 (Int.tdiv x3533 p1.Width)) + 1)) p1.Height) * p1.Width)) + (Int.tmod x3533 p1.Width))) 0)), .v (.int .i64 ((rdD p0 (rdD p1.Cells (w64 ((w64 ((Int.tmod (w64 ((w64 (Int.tdiv x3533 p1.Width)) + 1)) p1.Height) * p1.Width)) + (Int.tmod x3533 p1.Width))) 0) z_Tile).S))] [0, 2, 4, 12, 13, 14, 90] [(0, (.slice A_p0 p0.length c_p0)), (2, (.bool p2)), (4, (.pointer (some ⟨g3362, 0, none⟩))), (12, (.slice A_p1_Cells p1.Cells.length c_p1_Cells)), (13, (.int .i64 (p1.Cells.length : Int))), (14, (.int .i64 x3533)), (90, (.bool (((rdD p0 (rdD p1.Cells x3533 0) z_Tile).N) != ((rdD p0 (rdD p1.Cells (w64 ((w64 ((Int.tmod (w64 ((w64 (Int.tdiv x3533 p1.Width)) + 1)) p1.Height) * p1.Width)) + (Int.tmod x3533 p1.Width))) 0) z_Tile).S))))] [.idx A_p0 (rdD p1.Cells x3533 0) p0.length, .ne p1.Height, .idx A_p1_Cells (w64 ((w64 ((Int.tmod (w64 ((w64 (Int.tdiv x3533 p1.Width)) + 1)) p1.Height) * p1.Width)) + (Int.tmod x3533 p1.Width))) p1.Cells.length, .idx A_p0 (rdD p1.Cells (w64 ((w64 ((Int.tmod (w64 ((w64 (Int.tdiv x3533 p1.Width)) + 1)) p1.Height) * p1.Width)) + (Int.tmod x3533 p1.Width))) 0) p0.length] [0, 1, 2, 3, 4, 5] [(4, ((adr A_p0).add (((rdD p1.Cells x3533 0)).toNat * 4)), (.int .i64 ((rdD p0 (rdD p1.Cells x3533 0) z_Tile).N))), (7, ⟨g3362, 2, none⟩, (.slice A_p1_Cells p1.Cells.length c_p1_Cells)), (11, ⟨g3362, 1, none⟩, (.int .i64 p1.Height)), (14, ⟨g3362, 0, none⟩, (.int .i64 p1.Width)), (19, ((adr A_p1_Cells).add ((w64 ((w64 ((Int.tmod (w64 ((w64 (Int.tdiv x3533 p1.Width)) + 1)) p1.Height) * p1.Width)) + (Int.tmod x3533 p1.Width))).toNat * 1)), (.int .i64 (rdD p1.Cells (w64 ((w64 ((Int.tmod (w64 ((w64 (Int.tdiv x3533 p1.Width)) + 1)) p1.Height) * p1.Width)) + (Int.tmod x3533 p1.Width))) 0))), (22, (((adr A_p0).add (((rdD p1.Cells (w64 ((w64 ((Int.tmod (w64 ((w64 (Int.tdiv x3533 p1.Width)) + 1)) p1.Height) * p1.Width)) + (Int.tmod x3533 p1.Width))) 0)).toNat * 4)).add 2), (.int .i64 ((rdD p0 (rdD p1.Cells (w64 ((w64 ((Int.tmod (w64 ((w64 (Int.tdiv x3533 p1.Width)) + 1)) p1.Height) * p1.Width)) + (Int.tmod x3533 p1.Width))) 0) z_Tile).S)))] (fun fb => by kernel_rfl) rfl ⟨rowR.adr (hS3608.rd 0).1 h3613.1 h3613.2, h3614, rowR.adr (hS3608.rd 1).1 h3615.1 h3615.2, rowR.adr (hS3608.rd 0).1 h3616.1 h3616.2, trivial⟩ rfl ?_
            refine WL.done rfl ?_
            refine WX.next ?_
            rcases br_some hx3601 with ⟨h3617, hx3601⟩ | ⟨h3617, hx3601⟩
            · refine WC.condT2 (fun fb => by kernel_rfl) h3617 ?_
              refine WC.seq ?_
              refine WC.region ?_
              refine seg 1 [] [6] [(6, (.bool false))] [] (fun fb => by kernel_rfl) rfl trivial ?_
              refine WL.done rfl ?_
              refine WX.next ?_
              refine WC.ret ?_
              injection hx3601 with hx3601
              subst hx3601
              injection hl3539 with hl3539
              subst hl3539
              injection hf with hf
              subst hf
              exact WX.blockR (WX.thenR (WX.thenR (WX.blockR (WX.thenR (WX.ret_ [] (.bool false) [] (fun fb => by kernel_rfl) trivial ⟨_, rfl, rfl, hS3608.keep⟩)))))
            refine WC.condF2 (fun fb => by kernel_rfl) h3617 ?_
            refine WC.skip ?_
            injection hx3601 with hx3601
            exact WX.to Kx3600 () [0, 2, 4, 12, 13, 14] rfl ⟨(hS3608.subR [0, 1]).sub [0] (by decide), hx3601.symm⟩
          refine WC.condF2 (fun fb => by kernel_rfl) h3602 ?_
          refine WC.skip ?_
          injection hx3601 with hx3601
          exact WX.to Kx3600 () [0, 2, 4, 12, 13, 14] rfl ⟨(hS3578.subR [0, 1]).sub [0] (by decide), hx3601.symm⟩
        rintro y3621 w3618 ⟨hS3619, hq3620⟩
        subst hq3620
        have hl3539 := sum_inr hl3539
        refine WX.blockN (WX.next ?_)
        refine WC.region ?_
        refine seg 2 [] [0, 2, 4, 12, 13, 14] [(0, (.slice A_p0 p0.length c_p0)), (2, (.bool p2)), (4, (.pointer (some ⟨g3362, 0, none⟩))), (12, (.slice A_p1_Cells p1.Cells.length c_p1_Cells)), (13, (.int .i64 (p1.Cells.length : Int))), (14, (.int .i64 (w64 (x3533 + 1))))] [] (fun fb => by kernel_rfl) rfl trivial ?_
        refine WL.done rfl ?_
        exact WX.again k3536 (Nat.lt_succ_self _) (w64 (x3533 + 1)) [0, 2, 4, 12, 13, 14] rfl ⟨(hS3619.subR [0, 1]).sub [0] (by decide), hl3539⟩
      refine WC.condF2 (fun fb => by kernel_rfl) h3540 ?_
      refine WC.exit ?_
      injection hl3539 with hl3539
      exact WX.thenX (WX.thenX (WX.blockHere (WX.to Kx3534 () [] rfl ⟨(hS3538.subR [0, 1]).sub [] (by decide), hl3539.symm⟩)))
  rintro y3626 w3623 ⟨hS3624, hq3625⟩
  subst hq3625
  have hf := sum_inr hf
  refine WX.next ?_
  refine WC.seq ?_
  refine WC.region ?_
  refine seg 1 [] [6] [(6, (.bool true))] [] (fun fb => by kernel_rfl) rfl trivial ?_
  refine WL.done rfl ?_
  refine WX.next ?_
  refine WC.ret ?_
  injection hf with hf
  subst hf
  exact WX.ret_ [] (.bool true) [] (fun fb => by kernel_rfl) trivial ⟨_, rfl, rfl, hS3624.keep⟩
theorem tile_Fits_calls (k : Nat) (p0 : List Tile) (p1 : Pattern) (A_p0 : Option Addr) (c_p0 : Nat) (A_p1_Cells : Option Addr) (c_p1_Cells : Nat) (r : Bool) (w : World) (hR0 : RO NoS w (rowR enc_Tile A_p0 c_p0 p0)) (hR1 : RO NoS w (rowR encInt A_p1_Cells c_p1_Cells p1.Cells)) (hf : tile_Fits k p0 p1 = some r) :
    CallsR Try.prog 33 #[(.slice A_p0 p0.length c_p0), (.agg #[(.int .i64 p1.Width), (.int .i64 p1.Height), (.slice A_p1_Cells p1.Cells.length c_p1_Cells)])] w (fun v w' => v = (.bool r) ∧ Keeps NoS w w') := by
  have hS : St NoS w w [rowR enc_Tile A_p0 c_p0 p0, rowR encInt A_p1_Cells c_p1_Cells p1.Cells] [] := St.init (ro_cons hR0 (ro_cons hR1 (ro_nil _ _)))
  refine enter 13 Try.func33 rfl Try.ntmps33 rfl ?_
  unfold tile_Fits at hf
  refine WC.seq ?_
  refine WC.region ?_
  refine WL.new hS 3 [] (fun g => (.pointer (some ⟨g, 0, none⟩))) (.cells #[(.int .i64 p1.Width), (.int .i64 p1.Height), (.slice A_p1_Cells p1.Cells.length c_p1_Cells)] 31 (0, 0)) [] (fun fb g => by kernel_rfl) trivial (fun g3056 w3057 hS3058 => ?_)
  refine ⟨trivial, ?_⟩
  refine seg 2 [] [0, 3] [(0, (.slice A_p0 p0.length c_p0)), (3, (.pointer (some ⟨g3056, 0, none⟩)))] [] (fun fb => by kernel_rfl) rfl trivial ?_
  refine WL.done rfl ?_
  refine WX.next ?_
  refine WC.seq ?_
  refine WC.region ?_
  refine seg 2 [.v (.int .i64 p1.Width), .v (.int .i64 p1.Height), .v (.slice A_p1_Cells p1.Cells.length c_p1_Cells)] [0, 3, 5, 6] [(0, (.slice A_p0 p0.length c_p0)), (3, (.pointer (some ⟨g3056, 0, none⟩))), (5, (.slice A_p0 p0.length c_p0)), (6, (.agg #[(.int .i64 p1.Width), (.int .i64 p1.Height), (.slice A_p1_Cells p1.Cells.length c_p1_Cells)]))] [.cell ⟨g3056, 0, none⟩ (.int .i64 p1.Width), .cell ⟨g3056, 1, none⟩ (.int .i64 p1.Height), .cell ⟨g3056, 2, none⟩ (.slice A_p1_Cells p1.Cells.length c_p1_Cells)] (fun fb => by kernel_rfl) rfl ⟨hS3058.cell 0 rfl 0 rfl, hS3058.cell 0 rfl 1 rfl, hS3058.cell 0 rfl 2 rfl, trivial⟩ ?_
  obtain ⟨t3357, ht3358, hf⟩ := bind_some hf
  refine WL.call (some 7) 56 #[(.slice A_p0 p0.length c_p0), (.agg #[(.int .i64 p1.Width), (.int .i64 p1.Height), (.slice A_p1_Cells p1.Cells.length c_p1_Cells)])] (fun fb => by kernel_rfl) (tile_of_calls _ p0 p1 A_p0 c_p0 A_p1_Cells c_p1_Cells t3357 _ (hS3058.rd 0) (hS3058.rd 1) ht3358) (fun v w3359 hR3360 => ?_)
  obtain ⟨rfl, hk_⟩ := hR3360
  have hS3361 := hS3058.keepN hk_
  refine ⟨trivial, ?_⟩
  refine seg 4 [] [0, 3, 8] [(0, (.slice A_p0 p0.length c_p0)), (3, (.pointer (some ⟨g3056, 0, none⟩))), (8, (.bool t3357))] [] (fun fb => by kernel_rfl) rfl trivial ?_
  obtain ⟨x3634, hx3635, hf⟩ := bind_some hf
  refine WL.cutW (T := Bool) 8 (fun t => [(12, (.bool t))]) (fun t w1 => (St NoS w w1 [rowR enc_Tile A_p0 c_p0 p0, rowR encInt A_p1_Cells c_p1_Cells p1.Cells] [] ∧ x3634 = t) ∧ CellsOK [] w1) (fun K => ?_) ?_
  ·
    rcases br_some hx3635 with ⟨h3636, hx3635⟩ | ⟨h3636, hx3635⟩
    ·
      refine WL.setB 8 h3636 rfl ?_
      refine seg 6 [.v (.int .i64 p1.Width), .v (.int .i64 p1.Height), .v (.slice A_p1_Cells p1.Cells.length c_p1_Cells)] [8, 9, 10] [(8, (.bool true)), (9, (.slice A_p0 p0.length c_p0)), (10, (.agg #[(.int .i64 p1.Width), (.int .i64 p1.Height), (.slice A_p1_Cells p1.Cells.length c_p1_Cells)]))] [.cell ⟨g3056, 0, none⟩ (.int .i64 p1.Width), .cell ⟨g3056, 1, none⟩ (.int .i64 p1.Height), .cell ⟨g3056, 2, none⟩ (.slice A_p1_Cells p1.Cells.length c_p1_Cells)] (fun fb => by kernel_rfl) rfl ⟨hS3361.cell 0 rfl 0 rfl, hS3361.cell 0 rfl 1 rfl, hS3361.cell 0 rfl 2 rfl, trivial⟩ ?_
      obtain ⟨t3637, ht3638, hx3635⟩ := bind_some hx3635
      refine WL.call (some 11) 57 #[(.slice A_p0 p0.length c_p0), (.agg #[(.int .i64 p1.Width), (.int .i64 p1.Height), (.slice A_p1_Cells p1.Cells.length c_p1_Cells)]), (.bool false)] (fun fb => by kernel_rfl) (tile_joins_calls _ p0 p1 false A_p0 c_p0 A_p1_Cells c_p1_Cells t3637 _ (hS3361.rd 0) (hS3361.rd 1) ht3638) (fun v w3639 hR3640 => ?_)
      obtain ⟨rfl, hk_⟩ := hR3640
      have hS3641 := hS3361.keepN hk_
      refine ⟨trivial, ?_⟩
      refine seg 8 [] [12] [(12, (.bool t3637))] [] (fun fb => by kernel_rfl) rfl trivial ?_
      injection hx3635 with hx3635
      exact WL.to K t3637 [12] rfl ⟨⟨(hS3641.subR [0, 1]).sub [] (by decide), hx3635.symm⟩, trivial⟩
    refine WL.setB 8 h3636 rfl ?_
    refine seg 8 [] [12] [(12, (.bool false))] [] (fun fb => by kernel_rfl) rfl trivial ?_
    injection hx3635 with hx3635
    exact WL.to K false [12] rfl ⟨⟨(hS3361.subR [0, 1]).sub [] (by decide), hx3635.symm⟩, trivial⟩
  rintro y3642 w3644 ⟨⟨hS3645, hq3643⟩, hF3646⟩
  subst hq3643
  refine seg 9 [] [4] [(4, (.bool x3634))] [] (fun fb => by kernel_rfl) rfl trivial ?_
  refine WL.done rfl ?_
  refine WX.next ?_
  refine WC.ret ?_
  injection hf with hf
  subst hf
  exact WX.ret_ [] (.bool x3634) [] (fun fb => by kernel_rfl) trivial ⟨_, rfl, rfl, hS3645.keep⟩
theorem machine_colours_calls (p0 : Machine) (p1 : Config) (A_p0_Actions : Option Addr) (c_p0_Actions : Nat) (A_p1_Cells : Option Addr) (c_p1_Cells : Nat) (r : (List Int)) (w : World) (hR0 : RO NoS w (rowR enc_Action A_p0_Actions c_p0_Actions p0.Actions)) (hR1 : RO NoS w (rowR encInt A_p1_Cells c_p1_Cells p1.Cells)) (hf : machine_colours p0 p1 = some r) :
    CallsR Try.prog 53 #[(.agg #[(.int .i64 p0.States), (.int .i64 p0.Symbols), (.slice A_p0_Actions p0.Actions.length c_p0_Actions)]), (.agg #[(.int .i64 p1.State), (.int .i64 p1.At), (.slice A_p1_Cells p1.Cells.length c_p1_Cells)])] w (fun v w' => ∃ (A1_ : Option Addr), ∃ (c1_ : Nat), v = (.slice A1_ r.length c1_) ∧ St NoS w w' [] [rowO 3 encInt A1_ c1_ r]) := by
  have hS : St NoS w w [rowR enc_Action A_p0_Actions c_p0_Actions p0.Actions, rowR encInt A_p1_Cells c_p1_Cells p1.Cells] [] := St.init (ro_cons hR0 (ro_cons hR1 (ro_nil _ _)))
  refine enter 23 Try.func53 rfl Try.ntmps53 rfl ?_
  unfold machine_colours at hf
  refine WC.seq ?_
  refine WC.region ?_
  refine WL.new hS 2 [] (fun g => (.pointer (some ⟨g, 0, none⟩))) (.cells #[(.int .i64 p0.States), (.int .i64 p0.Symbols), (.slice A_p0_Actions p0.Actions.length c_p0_Actions)] 24 (0, 0)) [] (fun fb g => by kernel_rfl) trivial (fun g3687 w3688 hS3689 => ?_)
  refine ⟨trivial, ?_⟩
  refine WL.new hS3689 3 [] (fun g => (.pointer (some ⟨g, 0, none⟩))) (.cells #[(.int .i64 p1.State), (.int .i64 p1.At), (.slice A_p1_Cells p1.Cells.length c_p1_Cells)] 27 (0, 0)) [] (fun fb g => by kernel_rfl) trivial (fun g3691 w3692 hS3693 => ?_)
  refine ⟨trivial, ?_⟩
  refine seg 3 [] [2, 3] [(2, (.pointer (some ⟨g3687, 0, none⟩))), (3, (.pointer (some ⟨g3691, 0, none⟩)))] [] (fun fb => by kernel_rfl) rfl trivial ?_
  refine WL.done rfl ?_
  refine WX.next ?_
  refine WC.seq ?_
  refine WC.region ?_
  refine seg 2 [.v (.slice A_p1_Cells p1.Cells.length c_p1_Cells)] [2, 3, 7] [(2, (.pointer (some ⟨g3687, 0, none⟩))), (3, (.pointer (some ⟨g3691, 0, none⟩))), (7, (.slice A_p1_Cells p1.Cells.length c_p1_Cells))] [.cell ⟨g3691, 2, none⟩ (.slice A_p1_Cells p1.Cells.length c_p1_Cells)] (fun fb => by kernel_rfl) rfl ⟨hS3693.cell 0 rfl 2 rfl, trivial⟩ ?_
  obtain ⟨t3695, ht3696, hf⟩ := bind_some hf
  refine WL.call (some 8) 54 #[(.slice A_p1_Cells p1.Cells.length c_p1_Cells)] (fun fb => by kernel_rfl) (slices_Clone_int_int_calls p1.Cells A_p1_Cells c_p1_Cells t3695 _ (hS3693.rd 1) ht3696) (fun v w3697 hR3698 => ?_)
  obtain ⟨A3700, c3701, rfl, hk_⟩ := hR3698
  have hS3699 : St NoS w w3697 [rowR enc_Action A_p0_Actions c_p0_Actions p0.Actions, rowR encInt A_p1_Cells c_p1_Cells p1.Cells] [rowO 3 encInt A3700 c3701 t3695, blk g3691 (.cells #[(.int .i64 p1.State), (.int .i64 p1.At), (.slice A_p1_Cells p1.Cells.length c_p1_Cells)] 27 (0, 0)), blk g3687 (.cells #[(.int .i64 p0.States), (.int .i64 p0.Symbols), (.slice A_p0_Actions p0.Actions.length c_p0_Actions)] 24 (0, 0))] := hS3693.call hk_ [] [0, 1] (fun g hg => hg.elim) (by simp) (by decide)
  refine ⟨trivial, ?_⟩
  refine seg 4 [] [2, 3, 5] [(2, (.pointer (some ⟨g3687, 0, none⟩))), (3, (.pointer (some ⟨g3691, 0, none⟩))), (5, (.slice A3700 t3695.length c3701))] [] (fun fb => by kernel_rfl) rfl trivial ?_
  refine WL.done rfl ?_
  refine WX.next ?_
  refine WC.seq ?_
  obtain ⟨h3713, hf⟩ := as_some hf
  refine WC.regionD ([(2, ⟨g3691, 1, none⟩, (.int .i64 p1.At)), (3, ⟨g3687, 0, none⟩, (.int .i64 p0.States)), (3, ⟨g3687, 1, none⟩, (.int .i64 p0.Symbols)), (3, ⟨g3687, 2, none⟩, (.slice A_p0_Actions p0.Actions.length c_p0_Actions)), (5, ⟨g3691, 0, none⟩, (.int .i64 p1.State)), (8, ⟨g3691, 1, none⟩, (.int .i64 p1.At)), (10, ((adr A3700).add ((p1.At).toNat * 1)), (.int .i64 (rdD t3695 p1.At 0)))], [0, 1, 2, 3, 4, 5, 6, 7, 8, 9, 10, 12], [[], [], [1], [], [], [4], [], [], [7], [6, 7, 8], [6, 7, 8, 9], [3, 4, 5, 6, 7, 8, 9, 10], [0, 1, 2, 3, 4, 5, 6, 7, 8, 9, 10, 11], [0, 1, 2, 3, 4, 5, 6, 7, 8, 9, 10, 11, 12]]) [[0, 1, 2, 3, 4, 5, 6, 7, 8, 9, 10, 11, 12, 13]] (by kernel_rfl) (by kernel_rfl) (NoPanic.seq (NoPanic.body)) ?_
  have hS3711 := hS3699.drew
  revert hS3711
  generalize World.drew w3697 = w3710
  intro hS3711
  refine ⟨⟨hS3711.cell 1 rfl 1 rfl, hS3711.cell 2 rfl 0 rfl, hS3711.cell 2 rfl 1 rfl, hS3711.cell 2 rfl 2 rfl, hS3711.cell 1 rfl 0 rfl, hS3711.cell 1 rfl 1 rfl, rowR.cell (rowO.rd (hS3711.own 0).1) 0 h3713.1 h3713.2 0 rfl, trivial⟩, forallC ?_ (forallN)⟩
  refine segF 11 [.v (.int .i64 p1.At), .v (.int .i64 p0.States), .v (.int .i64 p0.Symbols), .v (.slice A_p0_Actions p0.Actions.length c_p0_Actions), .v (.int .i64 p1.State), .v (.int .i64 p1.At), .v (.int .i64 (rdD t3695 p1.At 0))] [5, 9, 11, 12, 14, 19] [(5, (.slice A3700 t3695.length c3701)), (9, (.slice A3700 t3695.length c3701)), (11, (.int .i64 p1.At)), (12, (.agg #[(.int .i64 p0.States), (.int .i64 p0.Symbols), (.slice A_p0_Actions p0.Actions.length c_p0_Actions)])), (14, (.int .i64 p1.State)), (19, (.int .i64 (rdD t3695 p1.At 0)))] [.idx A3700 p1.At t3695.length] [0, 1, 2, 3, 4, 5, 6] [(2, ⟨g3691, 1, none⟩, (.int .i64 p1.At)), (3, ⟨g3687, 0, none⟩, (.int .i64 p0.States)), (3, ⟨g3687, 1, none⟩, (.int .i64 p0.Symbols)), (3, ⟨g3687, 2, none⟩, (.slice A_p0_Actions p0.Actions.length c_p0_Actions)), (5, ⟨g3691, 0, none⟩, (.int .i64 p1.State)), (8, ⟨g3691, 1, none⟩, (.int .i64 p1.At)), (10, ((adr A3700).add ((p1.At).toNat * 1)), (.int .i64 (rdD t3695 p1.At 0)))] (fun fb => by kernel_rfl) rfl ⟨rowR.adr (rowO.rd (hS3711.own 0).1) h3713.1 h3713.2, trivial⟩ rfl ?_
  obtain ⟨t3714, ht3715, hf⟩ := bind_some hf
  refine WL.call (some 20) 61 #[(.agg #[(.int .i64 p0.States), (.int .i64 p0.Symbols), (.slice A_p0_Actions p0.Actions.length c_p0_Actions)]), (.int .i64 p1.State), (.int .i64 (rdD t3695 p1.At 0))] (fun fb => by kernel_rfl) (machine_head_calls p0 p1.State (rdD t3695 p1.At 0) A_p0_Actions c_p0_Actions t3714 _ (hS3711.rd 0) ht3715) (fun v w3716 hR3717 => ?_)
  obtain ⟨rfl, hk_⟩ := hR3717
  have hS3718 := hS3711.keepN hk_
  refine ⟨⟨hS3718.cell 1 rfl 1 rfl, trivial⟩, ?_⟩
  refine seg 13 [] [5, 20, 21] [(5, (.slice A3700 t3695.length c3701)), (20, (.int .i64 t3714)), (21, (.pointer (some ((adr A3700).add ((p1.At).toNat * 1)))))] [.idx A3700 p1.At t3695.length] (fun fb => by kernel_rfl) rfl ⟨rowR.adr (rowO.rd (hS3718.own 0).1) h3713.1 h3713.2, trivial⟩ ?_
  refine WL.storeRow hS3718 0 rfl (p1.At) (t3714) (0) [(0, (.int .i64 t3714))] (fun fb => by kernel_rfl) h3713.1 h3713.2 (by kernel_rfl) rfl [1, 2] (by decide) (by decide) (fun w3719 hS3720 => ?_)
  refine ⟨trivial, ?_⟩
  refine WL.reE [5] [(5, (.slice A3700 t3695.length c3701))] [(5, (.slice A3700 (t3695.set (p1.At).toNat t3714).length c3701))] rfl (by simp only [List.length_set]) ?_
  refine WL.done rfl ?_
  refine WX.next ?_
  refine WC.seq ?_
  refine WC.region ?_
  refine seg 2 [] [4] [(4, (.slice A3700 (t3695.set (p1.At).toNat t3714).length c3701))] [] (fun fb => by kernel_rfl) rfl trivial ?_
  refine WL.done rfl ?_
  refine WX.next ?_
  refine WC.ret ?_
  injection hf with hf
  subst hf
  exact WX.ret_ [] (.slice A3700 (t3695.set (p1.At).toNat t3714).length c3701) [] (fun fb => by kernel_rfl) trivial ⟨_, rfl, A3700, c3701, rfl, (hS3720.sub [0] (by decide)).noR⟩
theorem machine_Colours_calls (k : Nat) (p0 : Machine) (p1 : Config) (A_p0_Actions : Option Addr) (c_p0_Actions : Nat) (A_p1_Cells : Option Addr) (c_p1_Cells : Nat) (r : (List Int) × Int) (w : World) (hR0 : RO NoS w (rowR enc_Action A_p0_Actions c_p0_Actions p0.Actions)) (hR1 : RO NoS w (rowR encInt A_p1_Cells c_p1_Cells p1.Cells)) (hf : machine_Colours k p0 p1 = some r) :
    CallsR Try.prog 26 #[(.agg #[(.int .i64 p0.States), (.int .i64 p0.Symbols), (.slice A_p0_Actions p0.Actions.length c_p0_Actions)]), (.agg #[(.int .i64 p1.State), (.int .i64 p1.At), (.slice A_p1_Cells p1.Cells.length c_p1_Cells)])] w (fun v w' => ∃ (A1_ : Option Addr), ∃ (c1_ : Nat), v = (.tuple #[(.slice A1_ r.1.length c1_), (.int .i64 r.2)]) ∧ St NoS w w' [] [rowO 3 encInt A1_ c1_ r.1]) := by
  have hS : St NoS w w [rowR enc_Action A_p0_Actions c_p0_Actions p0.Actions, rowR encInt A_p1_Cells c_p1_Cells p1.Cells] [] := St.init (ro_cons hR0 (ro_cons hR1 (ro_nil _ _)))
  refine enter 13 Try.func26 rfl Try.ntmps26 rfl ?_
  unfold machine_Colours at hf
  refine WC.seq ?_
  refine WC.region ?_
  refine WL.new hS 2 [] (fun g => (.pointer (some ⟨g, 0, none⟩))) (.cells #[(.int .i64 p0.States), (.int .i64 p0.Symbols), (.slice A_p0_Actions p0.Actions.length c_p0_Actions)] 24 (0, 0)) [] (fun fb g => by kernel_rfl) trivial (fun g3672 w3673 hS3674 => ?_)
  refine ⟨trivial, ?_⟩
  refine WL.new hS3674 3 [] (fun g => (.pointer (some ⟨g, 0, none⟩))) (.cells #[(.int .i64 p1.State), (.int .i64 p1.At), (.slice A_p1_Cells p1.Cells.length c_p1_Cells)] 27 (0, 0)) [] (fun fb g => by kernel_rfl) trivial (fun g3676 w3677 hS3678 => ?_)
  refine ⟨trivial, ?_⟩
  refine seg 4 [] [2, 3] [(2, (.pointer (some ⟨g3672, 0, none⟩))), (3, (.pointer (some ⟨g3676, 0, none⟩)))] [] (fun fb => by kernel_rfl) rfl trivial ?_
  refine WL.done rfl ?_
  refine WX.next ?_
  refine WC.seq ?_
  refine WC.seq ?_
  refine WC.region ?_
  refine seg 2 [.v (.int .i64 p0.States), .v (.int .i64 p0.Symbols), .v (.slice A_p0_Actions p0.Actions.length c_p0_Actions), .v (.int .i64 p1.State), .v (.int .i64 p1.At), .v (.slice A_p1_Cells p1.Cells.length c_p1_Cells)] [2, 3, 6, 7] [(2, (.pointer (some ⟨g3672, 0, none⟩))), (3, (.pointer (some ⟨g3676, 0, none⟩))), (6, (.agg #[(.int .i64 p0.States), (.int .i64 p0.Symbols), (.slice A_p0_Actions p0.Actions.length c_p0_Actions)])), (7, (.agg #[(.int .i64 p1.State), (.int .i64 p1.At), (.slice A_p1_Cells p1.Cells.length c_p1_Cells)]))] [.cell ⟨g3672, 0, none⟩ (.int .i64 p0.States), .cell ⟨g3672, 1, none⟩ (.int .i64 p0.Symbols), .cell ⟨g3672, 2, none⟩ (.slice A_p0_Actions p0.Actions.length c_p0_Actions), .cell ⟨g3676, 0, none⟩ (.int .i64 p1.State), .cell ⟨g3676, 1, none⟩ (.int .i64 p1.At), .cell ⟨g3676, 2, none⟩ (.slice A_p1_Cells p1.Cells.length c_p1_Cells)] (fun fb => by kernel_rfl) rfl ⟨hS3678.cell 1 rfl 0 rfl, hS3678.cell 1 rfl 1 rfl, hS3678.cell 1 rfl 2 rfl, hS3678.cell 0 rfl 0 rfl, hS3678.cell 0 rfl 1 rfl, hS3678.cell 0 rfl 2 rfl, trivial⟩ ?_
  obtain ⟨t3680, ht3681, hf⟩ := bind_some hf
  refine WL.call (some 8) 18 #[(.agg #[(.int .i64 p0.States), (.int .i64 p0.Symbols), (.slice A_p0_Actions p0.Actions.length c_p0_Actions)]), (.agg #[(.int .i64 p1.State), (.int .i64 p1.At), (.slice A_p1_Cells p1.Cells.length c_p1_Cells)])] (fun fb => by kernel_rfl) (machine_Fits_calls _ p0 p1 A_p0_Actions c_p0_Actions A_p1_Cells c_p1_Cells t3680 _ (hS3678.rd 0) (hS3678.rd 1) ht3681) (fun v w3682 hR3683 => ?_)
  obtain ⟨rfl, hk_⟩ := hR3683
  have hS3684 := hS3678.keepN hk_
  refine ⟨trivial, ?_⟩
  refine seg 4 [] [2, 3, 9] [(2, (.pointer (some ⟨g3672, 0, none⟩))), (3, (.pointer (some ⟨g3676, 0, none⟩))), (9, (.bool (!t3680)))] [] (fun fb => by kernel_rfl) rfl trivial ?_
  refine WL.done rfl ?_
  refine WX.next ?_
  rcases br_some hf with ⟨h3685, hf⟩ | ⟨h3685, hf⟩
  · refine WC.condT2 (fun fb => by kernel_rfl) h3685 ?_
    refine WC.seq ?_
    refine WC.region ?_
    refine seg 2 [] [4, 5] [(4, (.slice none 0 0)), (5, (.int .i64 1))] [] (fun fb => by kernel_rfl) rfl trivial ?_
    refine WL.done rfl ?_
    refine WX.next ?_
    refine WC.ret ?_
    have hS3686 := hS3684.nilrow 3 encInt
    injection hf with hf
    subst hf
    exact WX.thenR (WX.ret_ [] (.tuple #[(.slice none ([] : List Int).length 0), (.int .i64 1)]) [] (fun fb => by kernel_rfl) trivial ⟨_, rfl, none, 0, rfl, (hS3686.sub [0] (by decide)).noR⟩)
  refine WC.condF2 (fun fb => by kernel_rfl) h3685 ?_
  refine WC.skip ?_
  refine WX.next ?_
  refine WC.seq ?_
  refine WC.region ?_
  refine seg 2 [.v (.int .i64 p0.States), .v (.int .i64 p0.Symbols), .v (.slice A_p0_Actions p0.Actions.length c_p0_Actions), .v (.int .i64 p1.State), .v (.int .i64 p1.At), .v (.slice A_p1_Cells p1.Cells.length c_p1_Cells)] [10, 11] [(10, (.agg #[(.int .i64 p0.States), (.int .i64 p0.Symbols), (.slice A_p0_Actions p0.Actions.length c_p0_Actions)])), (11, (.agg #[(.int .i64 p1.State), (.int .i64 p1.At), (.slice A_p1_Cells p1.Cells.length c_p1_Cells)]))] [.cell ⟨g3672, 0, none⟩ (.int .i64 p0.States), .cell ⟨g3672, 1, none⟩ (.int .i64 p0.Symbols), .cell ⟨g3672, 2, none⟩ (.slice A_p0_Actions p0.Actions.length c_p0_Actions), .cell ⟨g3676, 0, none⟩ (.int .i64 p1.State), .cell ⟨g3676, 1, none⟩ (.int .i64 p1.At), .cell ⟨g3676, 2, none⟩ (.slice A_p1_Cells p1.Cells.length c_p1_Cells)] (fun fb => by kernel_rfl) rfl ⟨hS3684.cell 1 rfl 0 rfl, hS3684.cell 1 rfl 1 rfl, hS3684.cell 1 rfl 2 rfl, hS3684.cell 0 rfl 0 rfl, hS3684.cell 0 rfl 1 rfl, hS3684.cell 0 rfl 2 rfl, trivial⟩ ?_
  obtain ⟨t3721, ht3722, hf⟩ := bind_some hf
  refine WL.call (some 12) 53 #[(.agg #[(.int .i64 p0.States), (.int .i64 p0.Symbols), (.slice A_p0_Actions p0.Actions.length c_p0_Actions)]), (.agg #[(.int .i64 p1.State), (.int .i64 p1.At), (.slice A_p1_Cells p1.Cells.length c_p1_Cells)])] (fun fb => by kernel_rfl) (machine_colours_calls p0 p1 A_p0_Actions c_p0_Actions A_p1_Cells c_p1_Cells t3721 _ (hS3684.rd 0) (hS3684.rd 1) ht3722) (fun v w3723 hR3724 => ?_)
  obtain ⟨A3726, c3727, rfl, hk_⟩ := hR3724
  have hS3725 : St NoS w w3723 [rowR enc_Action A_p0_Actions c_p0_Actions p0.Actions, rowR encInt A_p1_Cells c_p1_Cells p1.Cells] [rowO 3 encInt A3726 c3727 t3721, blk g3676 (.cells #[(.int .i64 p1.State), (.int .i64 p1.At), (.slice A_p1_Cells p1.Cells.length c_p1_Cells)] 27 (0, 0)), blk g3672 (.cells #[(.int .i64 p0.States), (.int .i64 p0.Symbols), (.slice A_p0_Actions p0.Actions.length c_p0_Actions)] 24 (0, 0))] := hS3684.call hk_ [] [0, 1] (fun g hg => hg.elim) (by simp) (by decide)
  refine ⟨trivial, ?_⟩
  refine seg 5 [] [4, 5] [(4, (.slice A3726 t3721.length c3727)), (5, (.int .i64 0))] [] (fun fb => by kernel_rfl) rfl trivial ?_
  refine WL.done rfl ?_
  refine WX.next ?_
  refine WC.ret ?_
  injection hf with hf
  subst hf
  exact WX.ret_ [] (.tuple #[(.slice A3726 t3721.length c3727), (.int .i64 0)]) [] (fun fb => by kernel_rfl) trivial ⟨_, rfl, A3726, c3727, rfl, (hS3725.sub [0] (by decide)).noR⟩
theorem machine_Step_calls (k : Nat) (p0 : Machine) (p1 : Config) (A_p0_Actions : Option Addr) (c_p0_Actions : Nat) (A_p1_Cells : Option Addr) (c_p1_Cells : Nat) (r : Config × Int) (w : World) (hR0 : RO NoS w (rowR enc_Action A_p0_Actions c_p0_Actions p0.Actions)) (hR1 : RO NoS w (rowR encInt A_p1_Cells c_p1_Cells p1.Cells)) (hf : machine_Step k p0 p1 = some r) :
    CallsR Try.prog 19 #[(.agg #[(.int .i64 p0.States), (.int .i64 p0.Symbols), (.slice A_p0_Actions p0.Actions.length c_p0_Actions)]), (.agg #[(.int .i64 p1.State), (.int .i64 p1.At), (.slice A_p1_Cells p1.Cells.length c_p1_Cells)])] w (fun v w' => ∃ (A1_ : Option Addr), ∃ (c1_ : Nat), v = (.tuple #[(.agg #[(.int .i64 r.1.State), (.int .i64 r.1.At), (.slice A1_ r.1.Cells.length c1_)]), (.int .i64 r.2)]) ∧ St NoS w w' [] [rowO 3 encInt A1_ c1_ r.1.Cells]) := by
  have hS : St NoS w w [rowR enc_Action A_p0_Actions c_p0_Actions p0.Actions, rowR encInt A_p1_Cells c_p1_Cells p1.Cells] [] := St.init (ro_cons hR0 (ro_cons hR1 (ro_nil _ _)))
  refine enter 26 Try.func19 rfl Try.ntmps19 rfl ?_
  unfold machine_Step at hf
  refine WC.seq ?_
  refine WC.region ?_
  refine WL.new hS 2 [] (fun g => (.pointer (some ⟨g, 0, none⟩))) (.cells #[(.int .i64 p0.States), (.int .i64 p0.Symbols), (.slice A_p0_Actions p0.Actions.length c_p0_Actions)] 24 (0, 0)) [] (fun fb g => by kernel_rfl) trivial (fun g3735 w3736 hS3737 => ?_)
  refine ⟨trivial, ?_⟩
  refine WL.new hS3737 3 [] (fun g => (.pointer (some ⟨g, 0, none⟩))) (.cells #[(.int .i64 p1.State), (.int .i64 p1.At), (.slice A_p1_Cells p1.Cells.length c_p1_Cells)] 27 (0, 0)) [] (fun fb g => by kernel_rfl) trivial (fun g3739 w3740 hS3741 => ?_)
  refine ⟨trivial, ?_⟩
  refine WL.new hS3741 4 [] (fun g => (.pointer (some ⟨g, 0, none⟩))) (.cells #[(.int .i64 0), (.int .i64 0), (.slice none 0 0)] 27 (0, 0)) [] (fun fb g => by kernel_rfl) trivial (fun g3743 w3744 hS3745 => ?_)
  refine ⟨trivial, ?_⟩
  refine seg 4 [] [2, 3, 4] [(2, (.pointer (some ⟨g3735, 0, none⟩))), (3, (.pointer (some ⟨g3739, 0, none⟩))), (4, (.pointer (some ⟨g3743, 0, none⟩)))] [] (fun fb => by kernel_rfl) rfl trivial ?_
  refine WL.done rfl ?_
  refine WX.next ?_
  refine WC.seq ?_
  refine WC.seq ?_
  refine WC.region ?_
  refine seg 2 [.v (.int .i64 p0.States), .v (.int .i64 p0.Symbols), .v (.slice A_p0_Actions p0.Actions.length c_p0_Actions), .v (.int .i64 p1.State), .v (.int .i64 p1.At), .v (.slice A_p1_Cells p1.Cells.length c_p1_Cells)] [2, 3, 4, 8, 9] [(2, (.pointer (some ⟨g3735, 0, none⟩))), (3, (.pointer (some ⟨g3739, 0, none⟩))), (4, (.pointer (some ⟨g3743, 0, none⟩))), (8, (.agg #[(.int .i64 p0.States), (.int .i64 p0.Symbols), (.slice A_p0_Actions p0.Actions.length c_p0_Actions)])), (9, (.agg #[(.int .i64 p1.State), (.int .i64 p1.At), (.slice A_p1_Cells p1.Cells.length c_p1_Cells)]))] [.cell ⟨g3735, 0, none⟩ (.int .i64 p0.States), .cell ⟨g3735, 1, none⟩ (.int .i64 p0.Symbols), .cell ⟨g3735, 2, none⟩ (.slice A_p0_Actions p0.Actions.length c_p0_Actions), .cell ⟨g3739, 0, none⟩ (.int .i64 p1.State), .cell ⟨g3739, 1, none⟩ (.int .i64 p1.At), .cell ⟨g3739, 2, none⟩ (.slice A_p1_Cells p1.Cells.length c_p1_Cells)] (fun fb => by kernel_rfl) rfl ⟨hS3745.cell 2 rfl 0 rfl, hS3745.cell 2 rfl 1 rfl, hS3745.cell 2 rfl 2 rfl, hS3745.cell 1 rfl 0 rfl, hS3745.cell 1 rfl 1 rfl, hS3745.cell 1 rfl 2 rfl, trivial⟩ ?_
  obtain ⟨t3747, ht3748, hf⟩ := bind_some hf
  refine WL.call (some 10) 18 #[(.agg #[(.int .i64 p0.States), (.int .i64 p0.Symbols), (.slice A_p0_Actions p0.Actions.length c_p0_Actions)]), (.agg #[(.int .i64 p1.State), (.int .i64 p1.At), (.slice A_p1_Cells p1.Cells.length c_p1_Cells)])] (fun fb => by kernel_rfl) (machine_Fits_calls _ p0 p1 A_p0_Actions c_p0_Actions A_p1_Cells c_p1_Cells t3747 _ (hS3745.rd 0) (hS3745.rd 1) ht3748) (fun v w3749 hR3750 => ?_)
  obtain ⟨rfl, hk_⟩ := hR3750
  have hS3751 := hS3745.keepN hk_
  refine ⟨trivial, ?_⟩
  refine seg 4 [] [2, 3, 4, 11] [(2, (.pointer (some ⟨g3735, 0, none⟩))), (3, (.pointer (some ⟨g3739, 0, none⟩))), (4, (.pointer (some ⟨g3743, 0, none⟩))), (11, (.bool (!t3747)))] [] (fun fb => by kernel_rfl) rfl trivial ?_
  refine WL.done rfl ?_
  refine WX.next ?_
  rcases br_some hf with ⟨h3752, hf⟩ | ⟨h3752, hf⟩
  · refine WC.condT2 (fun fb => by kernel_rfl) h3752 ?_
    refine WC.seq ?_
    refine WC.region ?_
    refine seg 1 [] [4, 12] [(4, (.pointer (some ⟨g3743, 0, none⟩))), (12, (.agg #[(.int .i64 0), (.int .i64 0), (.slice none 0 0)]))] [] (fun fb => by kernel_rfl) rfl trivial ?_
    refine WL.store hS3751 0 rfl [(0, (.int .i64 0)), (1, (.int .i64 0)), (2, (.slice none 0 0))] #[(.int .i64 0), (.int .i64 0), (.slice none 0 0)] (fun fb => by kernel_rfl) (by kernel_rfl) rfl [1, 2] (by decide) (by decide) (fun w3753 hS3754 => ?_)
    refine ⟨trivial, ?_⟩
    refine seg 3 [] [4, 5] [(4, (.pointer (some ⟨g3743, 0, none⟩))), (5, (.int .i64 1))] [] (fun fb => by kernel_rfl) rfl trivial ?_
    refine WL.done rfl ?_
    refine WX.next ?_
    refine WC.ret ?_
    have hS3755 := hS3754.nilrow 3 encInt
    injection hf with hf
    subst hf
    exact WX.thenR (WX.ret_ [.v (.int .i64 0), .v (.int .i64 0), .v (.slice none 0 0)] (.tuple #[(.agg #[(.int .i64 0), (.int .i64 0), (.slice none ([] : List Int).length 0)]), (.int .i64 1)]) [.cell ⟨g3743, 0, none⟩ (.int .i64 0), .cell ⟨g3743, 1, none⟩ (.int .i64 0), .cell ⟨g3743, 2, none⟩ (.slice none 0 0)] (fun fb => by kernel_rfl) ⟨hS3754.cell 0 rfl 0 rfl, hS3754.cell 0 rfl 1 rfl, hS3754.cell 0 rfl 2 rfl, trivial⟩ ⟨_, rfl, none, 0, rfl, (hS3755.sub [0] (by decide)).noR⟩)
  refine WC.condF2 (fun fb => by kernel_rfl) h3752 ?_
  refine WC.skip ?_
  refine WX.next ?_
  refine WC.seq ?_
  refine WC.region ?_
  refine seg 2 [.v (.int .i64 p0.States), .v (.int .i64 p0.Symbols), .v (.slice A_p0_Actions p0.Actions.length c_p0_Actions), .v (.int .i64 p1.State), .v (.int .i64 p1.At), .v (.slice A_p1_Cells p1.Cells.length c_p1_Cells)] [4, 13, 14] [(4, (.pointer (some ⟨g3743, 0, none⟩))), (13, (.agg #[(.int .i64 p0.States), (.int .i64 p0.Symbols), (.slice A_p0_Actions p0.Actions.length c_p0_Actions)])), (14, (.agg #[(.int .i64 p1.State), (.int .i64 p1.At), (.slice A_p1_Cells p1.Cells.length c_p1_Cells)]))] [.cell ⟨g3735, 0, none⟩ (.int .i64 p0.States), .cell ⟨g3735, 1, none⟩ (.int .i64 p0.Symbols), .cell ⟨g3735, 2, none⟩ (.slice A_p0_Actions p0.Actions.length c_p0_Actions), .cell ⟨g3739, 0, none⟩ (.int .i64 p1.State), .cell ⟨g3739, 1, none⟩ (.int .i64 p1.At), .cell ⟨g3739, 2, none⟩ (.slice A_p1_Cells p1.Cells.length c_p1_Cells)] (fun fb => by kernel_rfl) rfl ⟨hS3751.cell 2 rfl 0 rfl, hS3751.cell 2 rfl 1 rfl, hS3751.cell 2 rfl 2 rfl, hS3751.cell 1 rfl 0 rfl, hS3751.cell 1 rfl 1 rfl, hS3751.cell 1 rfl 2 rfl, trivial⟩ ?_
  obtain ⟨t3756, ht3757, hf⟩ := bind_some hf
  refine WL.call (some 15) 42 #[(.agg #[(.int .i64 p0.States), (.int .i64 p0.Symbols), (.slice A_p0_Actions p0.Actions.length c_p0_Actions)]), (.agg #[(.int .i64 p1.State), (.int .i64 p1.At), (.slice A_p1_Cells p1.Cells.length c_p1_Cells)])] (fun fb => by kernel_rfl) (machine_begin_calls p0 p1 A_p0_Actions c_p0_Actions A_p1_Cells c_p1_Cells t3756 _ (hS3751.rd 0) (hS3751.rd 1) ht3757) (fun v w3758 hR3759 => ?_)
  obtain ⟨g3761, A3762, c3763, rfl, hk_⟩ := hR3759
  have hS3760 : St NoS w w3758 [rowR enc_Action A_p0_Actions c_p0_Actions p0.Actions, rowR encInt A_p1_Cells c_p1_Cells p1.Cells] [blk g3761 (.cells #[(.int .i64 t3756.m.States), (.int .i64 t3756.m.Symbols), (.slice A_p0_Actions p0.Actions.length c_p0_Actions), (.int .i64 t3756.Config.State), (.int .i64 t3756.Config.At), (.slice A3762 t3756.Config.Cells.length c3763)] 82 (0, 0)), rowO 3 encInt A3762 c3763 t3756.Config.Cells, blk g3743 (.cells #[(.int .i64 0), (.int .i64 0), (.slice none 0 0)] 27 (0, 0)), blk g3739 (.cells #[(.int .i64 p1.State), (.int .i64 p1.At), (.slice A_p1_Cells p1.Cells.length c_p1_Cells)] 27 (0, 0)), blk g3735 (.cells #[(.int .i64 p0.States), (.int .i64 p0.Symbols), (.slice A_p0_Actions p0.Actions.length c_p0_Actions)] 24 (0, 0))] := hS3751.call hk_ [] [0, 1, 2] (fun g hg => hg.elim) (by simp) (by decide)
  refine ⟨trivial, ?_⟩
  refine seg 4 [] [4, 6] [(4, (.pointer (some ⟨g3743, 0, none⟩))), (6, (.pointer (some ⟨g3761, 0, none⟩)))] [] (fun fb => by kernel_rfl) rfl trivial ?_
  refine WL.done rfl ?_
  refine WX.next ?_
  refine WC.seq ?_
  refine WC.seq ?_
  refine WC.region ?_
  refine seg 1 [] [4, 6, 16] [(4, (.pointer (some ⟨g3743, 0, none⟩))), (6, (.pointer (some ⟨g3761, 0, none⟩))), (16, (.pointer (some ⟨g3761, 0, none⟩)))] [] (fun fb => by kernel_rfl) rfl trivial ?_
  obtain ⟨t3764, ht3765, hf⟩ := bind_some hf
  refine WL.call (some 17) 43 #[(.pointer (some ⟨g3761, 0, none⟩))] (fun fb => by kernel_rfl) (machine_runner_step_calls (Runner.mk (Machine.mk t3756.m.States t3756.m.Symbols p0.Actions) t3756.Config) g3761 A_p0_Actions c_p0_Actions A3762 c3763 t3764 _ (hS3760.rdT [0, 1] 0) (hS3760.io [0, 1] (by decide)) ht3765) (fun v w3766 hR3767 => ?_)
  obtain ⟨A3769, c3770, rfl, hk_⟩ := hR3767
  have hS3768 : St NoS w w3766 [rowR enc_Action A_p0_Actions c_p0_Actions p0.Actions, rowR encInt A_p1_Cells c_p1_Cells p1.Cells] [blk g3761 (.cells #[(.int .i64 t3764.2.m.States), (.int .i64 t3764.2.m.Symbols), (.slice A_p0_Actions p0.Actions.length c_p0_Actions), (.int .i64 t3764.2.Config.State), (.int .i64 t3764.2.Config.At), (.slice A3769 t3764.2.Config.Cells.length c3770)] 82 (0, 0)), rowO 3 encInt A3769 c3770 t3764.2.Config.Cells, blk g3743 (.cells #[(.int .i64 0), (.int .i64 0), (.slice none 0 0)] 27 (0, 0)), blk g3739 (.cells #[(.int .i64 p1.State), (.int .i64 p1.At), (.slice A_p1_Cells p1.Cells.length c_p1_Cells)] 27 (0, 0)), blk g3735 (.cells #[(.int .i64 p0.States), (.int .i64 p0.Symbols), (.slice A_p0_Actions p0.Actions.length c_p0_Actions)] 24 (0, 0))] := hS3760.call hk_ [0, 1] [2, 3, 4] (fun g hg => fpL_sel g hg) (by decide) (by decide)
  refine ⟨trivial, ?_⟩
  refine seg 3 [] [4, 6, 7] [(4, (.pointer (some ⟨g3743, 0, none⟩))), (6, (.pointer (some ⟨g3761, 0, none⟩))), (7, (.int .i64 t3764.1))] [] (fun fb => by kernel_rfl) rfl trivial ?_
  refine WL.done rfl ?_
  refine WX.next ?_
  refine WC.seq ?_
  refine WC.region ?_
  refine seg 2 [] [4, 6, 7, 19] [(4, (.pointer (some ⟨g3743, 0, none⟩))), (6, (.pointer (some ⟨g3761, 0, none⟩))), (7, (.int .i64 t3764.1)), (19, (.bool (t3764.1 != 0)))] [] (fun fb => by kernel_rfl) rfl trivial ?_
  refine WL.done rfl ?_
  refine WX.next ?_
  rcases br_some hf with ⟨h3771, hf⟩ | ⟨h3771, hf⟩
  · refine WC.condT2 (fun fb => by kernel_rfl) h3771 ?_
    refine WC.seq ?_
    refine WC.region ?_
    refine seg 2 [] [4, 20, 21] [(4, (.pointer (some ⟨g3743, 0, none⟩))), (20, (.agg #[(.int .i64 0), (.int .i64 0), (.slice none 0 0)])), (21, (.int .i64 t3764.1))] [] (fun fb => by kernel_rfl) rfl trivial ?_
    refine WL.store hS3768 2 rfl [(0, (.int .i64 0)), (1, (.int .i64 0)), (2, (.slice none 0 0))] #[(.int .i64 0), (.int .i64 0), (.slice none 0 0)] (fun fb => by kernel_rfl) (by kernel_rfl) rfl [0, 1, 3, 4] (by decide) (by decide) (fun w3772 hS3773 => ?_)
    refine ⟨trivial, ?_⟩
    refine seg 4 [] [4, 5] [(4, (.pointer (some ⟨g3743, 0, none⟩))), (5, (.int .i64 t3764.1))] [] (fun fb => by kernel_rfl) rfl trivial ?_
    refine WL.done rfl ?_
    refine WX.next ?_
    refine WC.ret ?_
    have hS3774 := hS3773.nilrow 3 encInt
    injection hf with hf
    subst hf
    exact WX.thenR (WX.ret_ [.v (.int .i64 0), .v (.int .i64 0), .v (.slice none 0 0)] (.tuple #[(.agg #[(.int .i64 0), (.int .i64 0), (.slice none ([] : List Int).length 0)]), (.int .i64 t3764.1)]) [.cell ⟨g3743, 0, none⟩ (.int .i64 0), .cell ⟨g3743, 1, none⟩ (.int .i64 0), .cell ⟨g3743, 2, none⟩ (.slice none 0 0)] (fun fb => by kernel_rfl) ⟨hS3773.cell 0 rfl 0 rfl, hS3773.cell 0 rfl 1 rfl, hS3773.cell 0 rfl 2 rfl, trivial⟩ ⟨_, rfl, none, 0, rfl, (hS3774.sub [0] (by decide)).noR⟩)
  refine WC.condF2 (fun fb => by kernel_rfl) h3771 ?_
  refine WC.skip ?_
  refine WX.next ?_
  refine WC.seq ?_
  refine WC.region ?_
  refine seg 4 [.v (.int .i64 t3764.2.Config.State), .v (.int .i64 t3764.2.Config.At), .v (.slice A3769 t3764.2.Config.Cells.length c3770)] [4, 25] [(4, (.pointer (some ⟨g3743, 0, none⟩))), (25, (.agg #[(.int .i64 t3764.2.Config.State), (.int .i64 t3764.2.Config.At), (.slice A3769 t3764.2.Config.Cells.length c3770)]))] [.cell ⟨g3761, 3, none⟩ (.int .i64 t3764.2.Config.State), .cell ⟨g3761, 4, none⟩ (.int .i64 t3764.2.Config.At), .cell ⟨g3761, 5, none⟩ (.slice A3769 t3764.2.Config.Cells.length c3770)] (fun fb => by kernel_rfl) rfl ⟨hS3768.cell 0 rfl 3 rfl, hS3768.cell 0 rfl 4 rfl, hS3768.cell 0 rfl 5 rfl, trivial⟩ ?_
  refine WL.store hS3768 2 rfl [(0, (.int .i64 t3764.2.Config.State)), (1, (.int .i64 t3764.2.Config.At)), (2, (.slice A3769 t3764.2.Config.Cells.length c3770))] #[(.int .i64 t3764.2.Config.State), (.int .i64 t3764.2.Config.At), (.slice A3769 t3764.2.Config.Cells.length c3770)] (fun fb => by kernel_rfl) (by kernel_rfl) rfl [0, 1, 3, 4] (by decide) (by decide) (fun w3775 hS3776 => ?_)
  refine ⟨trivial, ?_⟩
  refine seg 6 [] [4, 5] [(4, (.pointer (some ⟨g3743, 0, none⟩))), (5, (.int .i64 0))] [] (fun fb => by kernel_rfl) rfl trivial ?_
  refine WL.done rfl ?_
  refine WX.next ?_
  refine WC.ret ?_
  injection hf with hf
  subst hf
  exact WX.ret_ [.v (.int .i64 t3764.2.Config.State), .v (.int .i64 t3764.2.Config.At), .v (.slice A3769 t3764.2.Config.Cells.length c3770)] (.tuple #[(.agg #[(.int .i64 t3764.2.Config.State), (.int .i64 t3764.2.Config.At), (.slice A3769 t3764.2.Config.Cells.length c3770)]), (.int .i64 0)]) [.cell ⟨g3743, 0, none⟩ (.int .i64 t3764.2.Config.State), .cell ⟨g3743, 1, none⟩ (.int .i64 t3764.2.Config.At), .cell ⟨g3743, 2, none⟩ (.slice A3769 t3764.2.Config.Cells.length c3770)] (fun fb => by kernel_rfl) ⟨hS3776.cell 0 rfl 0 rfl, hS3776.cell 0 rfl 1 rfl, hS3776.cell 0 rfl 2 rfl, trivial⟩ ⟨_, rfl, A3769, c3770, rfl, (hS3776.sub [2] (by decide)).noR⟩
end Gp
