/- Walks: each function of the program computes its plain function. -/
import Derived.Test.YtamnfcbekogkdaaGx0
set_option linter.unusedVariables false
set_option linter.unusedSimpArgs false
namespace Gp
open Go Gw Go.Proofs
theorem machine_Picture_calls (k : Nat) (p0 : Machine) (p1 : Config) (p2 : Int) (A_p0_Actions : Option Addr) (c_p0_Actions : Nat) (A_p1_Cells : Option Addr) (c_p1_Cells : Nat) (r : Pattern × Int) (w : World) (hR0 : RO NoS w (rowR enc_Action A_p0_Actions c_p0_Actions p0.Actions)) (hR1 : RO NoS w (rowR encInt A_p1_Cells c_p1_Cells p1.Cells)) (hf : machine_Picture k p0 p1 p2 = some r) :
    CallsR Try.prog 12 #[(.agg #[(.int .i64 p0.States), (.int .i64 p0.Symbols), (.slice A_p0_Actions p0.Actions.length c_p0_Actions)]), (.agg #[(.int .i64 p1.State), (.int .i64 p1.At), (.slice A_p1_Cells p1.Cells.length c_p1_Cells)]), (.int .i64 p2)] w (fun v w' => ∃ (A1_ : Option Addr), ∃ (c1_ : Nat), v = (.tuple #[(.agg #[(.int .i64 r.1.Width), (.int .i64 r.1.Height), (.slice A1_ r.1.Cells.length c1_)]), (.int .i64 r.2)]) ∧ St NoS w w' [] [rowO 3 encInt A1_ c1_ r.1.Cells]) := by
  have hS : St NoS w w [rowR enc_Action A_p0_Actions c_p0_Actions p0.Actions, rowR encInt A_p1_Cells c_p1_Cells p1.Cells] [] := St.init (ro_cons hR0 (ro_cons hR1 (ro_nil _ _)))
  refine enter 67 Try.func12 rfl Try.ntmps12 rfl ?_
  unfold machine_Picture at hf
  refine WC.seq ?_
  refine WC.region ?_
  refine WL.new hS 3 [] (fun g => (.pointer (some ⟨g, 0, none⟩))) (.cells #[(.int .i64 p0.States), (.int .i64 p0.Symbols), (.slice A_p0_Actions p0.Actions.length c_p0_Actions)] 24 (0, 0)) [] (fun fb g => by kernel_rfl) trivial (fun g2039 w2040 hS2041 => ?_)
  refine ⟨trivial, ?_⟩
  refine WL.new hS2041 4 [] (fun g => (.pointer (some ⟨g, 0, none⟩))) (.cells #[(.int .i64 p1.State), (.int .i64 p1.At), (.slice A_p1_Cells p1.Cells.length c_p1_Cells)] 27 (0, 0)) [] (fun fb g => by kernel_rfl) trivial (fun g2043 w2044 hS2045 => ?_)
  refine ⟨trivial, ?_⟩
  refine WL.new hS2045 6 [] (fun g => (.pointer (some ⟨g, 0, none⟩))) (.cells #[(.int .i64 0), (.int .i64 0), (.slice none 0 0)] 31 (0, 0)) [] (fun fb g => by kernel_rfl) trivial (fun g2047 w2048 hS2049 => ?_)
  refine ⟨trivial, ?_⟩
  refine seg 4 [] [2, 3, 4, 6] [(2, (.int .i64 p2)), (3, (.pointer (some ⟨g2039, 0, none⟩))), (4, (.pointer (some ⟨g2043, 0, none⟩))), (6, (.pointer (some ⟨g2047, 0, none⟩)))] [] (fun fb => by kernel_rfl) rfl trivial ?_
  refine WL.done rfl ?_
  refine WX.next ?_
  refine WC.seq ?_
  refine WC.block ?_
  refine WC.seq ?_
  refine WC.region ?_
  refine seg 2 [.v (.int .i64 p0.States), .v (.int .i64 p0.Symbols), .v (.slice A_p0_Actions p0.Actions.length c_p0_Actions), .v (.int .i64 p1.State), .v (.int .i64 p1.At), .v (.slice A_p1_Cells p1.Cells.length c_p1_Cells)] [2, 3, 4, 6, 13, 14] [(2, (.int .i64 p2)), (3, (.pointer (some ⟨g2039, 0, none⟩))), (4, (.pointer (some ⟨g2043, 0, none⟩))), (6, (.pointer (some ⟨g2047, 0, none⟩))), (13, (.agg #[(.int .i64 p0.States), (.int .i64 p0.Symbols), (.slice A_p0_Actions p0.Actions.length c_p0_Actions)])), (14, (.agg #[(.int .i64 p1.State), (.int .i64 p1.At), (.slice A_p1_Cells p1.Cells.length c_p1_Cells)]))] [.cell ⟨g2039, 0, none⟩ (.int .i64 p0.States), .cell ⟨g2039, 1, none⟩ (.int .i64 p0.Symbols), .cell ⟨g2039, 2, none⟩ (.slice A_p0_Actions p0.Actions.length c_p0_Actions), .cell ⟨g2043, 0, none⟩ (.int .i64 p1.State), .cell ⟨g2043, 1, none⟩ (.int .i64 p1.At), .cell ⟨g2043, 2, none⟩ (.slice A_p1_Cells p1.Cells.length c_p1_Cells)] (fun fb => by kernel_rfl) rfl ⟨hS2049.cell 2 rfl 0 rfl, hS2049.cell 2 rfl 1 rfl, hS2049.cell 2 rfl 2 rfl, hS2049.cell 1 rfl 0 rfl, hS2049.cell 1 rfl 1 rfl, hS2049.cell 1 rfl 2 rfl, trivial⟩ ?_
  obtain ⟨t2051, ht2052, hf⟩ := bind_some hf
  refine WL.call (some 15) 18 #[(.agg #[(.int .i64 p0.States), (.int .i64 p0.Symbols), (.slice A_p0_Actions p0.Actions.length c_p0_Actions)]), (.agg #[(.int .i64 p1.State), (.int .i64 p1.At), (.slice A_p1_Cells p1.Cells.length c_p1_Cells)])] (fun fb => by kernel_rfl) (machine_Fits_calls _ p0 p1 A_p0_Actions c_p0_Actions A_p1_Cells c_p1_Cells t2051 _ (hS2049.rd 0) (hS2049.rd 1) ht2052) (fun v w2053 hR2054 => ?_)
  obtain ⟨rfl, hk_⟩ := hR2054
  have hS2055 := hS2049.keepN hk_
  refine ⟨trivial, ?_⟩
  refine seg 5 [] [2, 3, 4, 6, 12] [(2, (.int .i64 p2)), (3, (.pointer (some ⟨g2039, 0, none⟩))), (4, (.pointer (some ⟨g2043, 0, none⟩))), (6, (.pointer (some ⟨g2047, 0, none⟩))), (12, (.bool (!t2051)))] [] (fun fb => by kernel_rfl) rfl trivial ?_
  refine WL.done rfl ?_
  refine WX.next ?_
  rcases br_some hf with ⟨h2056, hf⟩ | ⟨h2056, hf⟩
  · refine WC.condT2 (fun fb => by kernel_rfl) h2056 ?_
    refine WC.seq ?_
    refine WC.region ?_
    refine seg 1 [] [6, 17] [(6, (.pointer (some ⟨g2047, 0, none⟩))), (17, (.agg #[(.int .i64 0), (.int .i64 0), (.slice none 0 0)]))] [] (fun fb => by kernel_rfl) rfl trivial ?_
    refine WL.store hS2055 0 rfl [(0, (.int .i64 0)), (1, (.int .i64 0)), (2, (.slice none 0 0))] #[(.int .i64 0), (.int .i64 0), (.slice none 0 0)] (fun fb => by kernel_rfl) (by kernel_rfl) rfl [1, 2] (by decide) (by decide) (fun w2057 hS2058 => ?_)
    refine ⟨trivial, ?_⟩
    refine seg 3 [] [6, 7] [(6, (.pointer (some ⟨g2047, 0, none⟩))), (7, (.int .i64 1))] [] (fun fb => by kernel_rfl) rfl trivial ?_
    refine WL.done rfl ?_
    refine WX.next ?_
    refine WC.ret ?_
    have hS2059 := hS2058.nilrow 3 encInt
    injection hf with hf
    subst hf
    exact WX.blockR (WX.thenR (WX.ret_ [.v (.int .i64 0), .v (.int .i64 0), .v (.slice none 0 0)] (.tuple #[(.agg #[(.int .i64 0), (.int .i64 0), (.slice none ([] : List Int).length 0)]), (.int .i64 1)]) [.cell ⟨g2047, 0, none⟩ (.int .i64 0), .cell ⟨g2047, 1, none⟩ (.int .i64 0), .cell ⟨g2047, 2, none⟩ (.slice none 0 0)] (fun fb => by kernel_rfl) ⟨hS2058.cell 0 rfl 0 rfl, hS2058.cell 0 rfl 1 rfl, hS2058.cell 0 rfl 2 rfl, trivial⟩ ⟨_, rfl, none, 0, rfl, (hS2059.sub [0] (by decide)).noR⟩))
  refine WC.condF2 (fun fb => by kernel_rfl) h2056 ?_
  refine WC.seq ?_
  refine WC.region ?_
  refine seg 3 [] [2, 3, 4, 6, 18] [(2, (.int .i64 p2)), (3, (.pointer (some ⟨g2039, 0, none⟩))), (4, (.pointer (some ⟨g2043, 0, none⟩))), (6, (.pointer (some ⟨g2047, 0, none⟩))), (18, (.bool (decide (p2 < 1))))] [] (fun fb => by kernel_rfl) rfl trivial ?_
  refine WL.done rfl ?_
  refine WX.next ?_
  rcases br_some hf with ⟨h2060, hf⟩ | ⟨h2060, hf⟩
  · refine WC.condT2 (fun fb => by kernel_rfl) h2060 ?_
    refine WC.seq ?_
    refine WC.region ?_
    refine seg 1 [] [6, 21] [(6, (.pointer (some ⟨g2047, 0, none⟩))), (21, (.agg #[(.int .i64 0), (.int .i64 0), (.slice none 0 0)]))] [] (fun fb => by kernel_rfl) rfl trivial ?_
    refine WL.store hS2055 0 rfl [(0, (.int .i64 0)), (1, (.int .i64 0)), (2, (.slice none 0 0))] #[(.int .i64 0), (.int .i64 0), (.slice none 0 0)] (fun fb => by kernel_rfl) (by kernel_rfl) rfl [1, 2] (by decide) (by decide) (fun w2061 hS2062 => ?_)
    refine ⟨trivial, ?_⟩
    refine seg 3 [] [6, 7] [(6, (.pointer (some ⟨g2047, 0, none⟩))), (7, (.int .i64 2))] [] (fun fb => by kernel_rfl) rfl trivial ?_
    refine WL.done rfl ?_
    refine WX.next ?_
    refine WC.ret ?_
    have hS2063 := hS2062.nilrow 3 encInt
    injection hf with hf
    subst hf
    exact WX.blockR (WX.thenR (WX.ret_ [.v (.int .i64 0), .v (.int .i64 0), .v (.slice none 0 0)] (.tuple #[(.agg #[(.int .i64 0), (.int .i64 0), (.slice none ([] : List Int).length 0)]), (.int .i64 2)]) [.cell ⟨g2047, 0, none⟩ (.int .i64 0), .cell ⟨g2047, 1, none⟩ (.int .i64 0), .cell ⟨g2047, 2, none⟩ (.slice none 0 0)] (fun fb => by kernel_rfl) ⟨hS2062.cell 0 rfl 0 rfl, hS2062.cell 0 rfl 1 rfl, hS2062.cell 0 rfl 2 rfl, trivial⟩ ⟨_, rfl, none, 0, rfl, (hS2063.sub [0] (by decide)).noR⟩))
  refine WC.condF2 (fun fb => by kernel_rfl) h2060 ?_
  refine WC.seq ?_
  refine WC.region ?_
  refine seg 3 [] [2, 3, 4, 6, 25] [(2, (.int .i64 p2)), (3, (.pointer (some ⟨g2039, 0, none⟩))), (4, (.pointer (some ⟨g2043, 0, none⟩))), (6, (.pointer (some ⟨g2047, 0, none⟩))), (25, (.bool (decide (p2 > 40000))))] [] (fun fb => by kernel_rfl) rfl trivial ?_
  refine WL.cutV (T := Bool) 10 (fun t => [(32, (.bool t)), (2, (.int .i64 p2)), (3, (.pointer (some ⟨g2039, 0, none⟩))), (4, (.pointer (some ⟨g2043, 0, none⟩))), (6, (.pointer (some ⟨g2047, 0, none⟩)))]) (fun t => t = ((decide (p2 > 40000)) || (decide (w64 ((p1.Cells.length : Int) * p2) > 40000)))) (fun K => ?_) ?_
  ·
    rcases Bool.eq_false_or_eq_true (decide (p2 > 40000)) with h2064 | h2064
    ·
      refine WL.setB 25 h2064 rfl ?_
      refine seg 10 [] [2, 3, 4, 6, 32] [(2, (.int .i64 p2)), (3, (.pointer (some ⟨g2039, 0, none⟩))), (4, (.pointer (some ⟨g2043, 0, none⟩))), (6, (.pointer (some ⟨g2047, 0, none⟩))), (32, (.bool true))] [] (fun fb => by kernel_rfl) rfl trivial ?_
      exact WL.toV K true [32, 2, 3, 4, 6] rfl (by rw [h2064]; rfl)
    refine WL.setB 25 h2064 rfl ?_
    refine seg 10 [.v (.slice A_p1_Cells p1.Cells.length c_p1_Cells)] [2, 3, 4, 6, 32] [(2, (.int .i64 p2)), (3, (.pointer (some ⟨g2039, 0, none⟩))), (4, (.pointer (some ⟨g2043, 0, none⟩))), (6, (.pointer (some ⟨g2047, 0, none⟩))), (32, (.bool (decide (w64 ((p1.Cells.length : Int) * p2) > 40000))))] [.cell ⟨g2043, 2, none⟩ (.slice A_p1_Cells p1.Cells.length c_p1_Cells)] (fun fb => by kernel_rfl) rfl ⟨hS2055.cell 1 rfl 2 rfl, trivial⟩ ?_
    exact WL.toV K (decide (w64 ((p1.Cells.length : Int) * p2) > 40000)) [32, 2, 3, 4, 6] rfl (by rw [h2064]; rfl)
  rintro b2065 rfl
  refine seg 11 [] [2, 3, 4, 6, 22] [(2, (.int .i64 p2)), (3, (.pointer (some ⟨g2039, 0, none⟩))), (4, (.pointer (some ⟨g2043, 0, none⟩))), (6, (.pointer (some ⟨g2047, 0, none⟩))), (22, (.bool ((decide (p2 > 40000)) || (decide (w64 ((p1.Cells.length : Int) * p2) > 40000)))))] [] (fun fb => by kernel_rfl) rfl trivial ?_
  refine WL.done rfl ?_
  refine WX.next ?_
  rcases br_some hf with ⟨h2066, hf⟩ | ⟨h2066, hf⟩
  · refine WC.condT2 (fun fb => by kernel_rfl) h2066 ?_
    refine WC.seq ?_
    refine WC.region ?_
    refine seg 1 [] [6, 33] [(6, (.pointer (some ⟨g2047, 0, none⟩))), (33, (.agg #[(.int .i64 0), (.int .i64 0), (.slice none 0 0)]))] [] (fun fb => by kernel_rfl) rfl trivial ?_
    refine WL.store hS2055 0 rfl [(0, (.int .i64 0)), (1, (.int .i64 0)), (2, (.slice none 0 0))] #[(.int .i64 0), (.int .i64 0), (.slice none 0 0)] (fun fb => by kernel_rfl) (by kernel_rfl) rfl [1, 2] (by decide) (by decide) (fun w2067 hS2068 => ?_)
    refine ⟨trivial, ?_⟩
    refine seg 3 [] [6, 7] [(6, (.pointer (some ⟨g2047, 0, none⟩))), (7, (.int .i64 4))] [] (fun fb => by kernel_rfl) rfl trivial ?_
    refine WL.done rfl ?_
    refine WX.next ?_
    refine WC.ret ?_
    have hS2069 := hS2068.nilrow 3 encInt
    injection hf with hf
    subst hf
    exact WX.blockR (WX.thenR (WX.ret_ [.v (.int .i64 0), .v (.int .i64 0), .v (.slice none 0 0)] (.tuple #[(.agg #[(.int .i64 0), (.int .i64 0), (.slice none ([] : List Int).length 0)]), (.int .i64 4)]) [.cell ⟨g2047, 0, none⟩ (.int .i64 0), .cell ⟨g2047, 1, none⟩ (.int .i64 0), .cell ⟨g2047, 2, none⟩ (.slice none 0 0)] (fun fb => by kernel_rfl) ⟨hS2068.cell 0 rfl 0 rfl, hS2068.cell 0 rfl 1 rfl, hS2068.cell 0 rfl 2 rfl, trivial⟩ ⟨_, rfl, none, 0, rfl, (hS2069.sub [0] (by decide)).noR⟩))
  refine WC.condF2 (fun fb => by kernel_rfl) h2066 ?_
  refine WC.skip ?_
  refine WX.blockN (WX.next ?_)
  refine WC.seq ?_
  refine WC.regionD ([(0, ⟨g2039, 0, none⟩, (.int .i64 p0.States)), (0, ⟨g2039, 1, none⟩, (.int .i64 p0.Symbols)), (0, ⟨g2039, 2, none⟩, (.slice A_p0_Actions p0.Actions.length c_p0_Actions)), (2, ⟨g2039, 0, none⟩, (.int .i64 p0.States)), (2, ⟨g2039, 1, none⟩, (.int .i64 p0.Symbols)), (2, ⟨g2039, 2, none⟩, (.slice A_p0_Actions p0.Actions.length c_p0_Actions)), (3, ⟨g2043, 0, none⟩, (.int .i64 p1.State)), (3, ⟨g2043, 1, none⟩, (.int .i64 p1.At)), (3, ⟨g2043, 2, none⟩, (.slice A_p1_Cells p1.Cells.length c_p1_Cells))], [0, 2, 3, 5, 6], [[], [0], [], [], [0, 1, 2, 3], [0, 1, 2, 3, 4], [0, 1, 2, 3, 4, 5]]) [[0, 2, 3, 1, 4, 5, 6]] (by kernel_rfl) (by kernel_rfl) (NoPanic.seq (NoPanic.body)) ?_
  have hS2089 := hS2055.drew
  revert hS2089
  generalize World.drew w2053 = w2088
  intro hS2089
  refine ⟨⟨hS2089.cell 2 rfl 0 rfl, hS2089.cell 2 rfl 1 rfl, hS2089.cell 2 rfl 2 rfl, hS2089.cell 2 rfl 0 rfl, hS2089.cell 2 rfl 1 rfl, hS2089.cell 2 rfl 2 rfl, hS2089.cell 1 rfl 0 rfl, hS2089.cell 1 rfl 1 rfl, hS2089.cell 1 rfl 2 rfl, trivial⟩, forallC ?_ (forallN)⟩
  refine segF 3 [.v (.int .i64 p0.States), .v (.int .i64 p0.Symbols), .v (.slice A_p0_Actions p0.Actions.length c_p0_Actions), .v (.int .i64 p0.States), .v (.int .i64 p0.Symbols), .v (.slice A_p0_Actions p0.Actions.length c_p0_Actions), .v (.int .i64 p1.State), .v (.int .i64 p1.At), .v (.slice A_p1_Cells p1.Cells.length c_p1_Cells)] [2, 3, 4, 6, 34, 36, 37] [(2, (.int .i64 p2)), (3, (.pointer (some ⟨g2039, 0, none⟩))), (4, (.pointer (some ⟨g2043, 0, none⟩))), (6, (.pointer (some ⟨g2047, 0, none⟩))), (34, (.agg #[(.int .i64 p0.States), (.int .i64 p0.Symbols), (.slice A_p0_Actions p0.Actions.length c_p0_Actions)])), (36, (.agg #[(.int .i64 p0.States), (.int .i64 p0.Symbols), (.slice A_p0_Actions p0.Actions.length c_p0_Actions)])), (37, (.agg #[(.int .i64 p1.State), (.int .i64 p1.At), (.slice A_p1_Cells p1.Cells.length c_p1_Cells)]))] [] [0, 1, 2, 3, 4, 5, 6, 7, 8] [(0, ⟨g2039, 0, none⟩, (.int .i64 p0.States)), (0, ⟨g2039, 1, none⟩, (.int .i64 p0.Symbols)), (0, ⟨g2039, 2, none⟩, (.slice A_p0_Actions p0.Actions.length c_p0_Actions)), (2, ⟨g2039, 0, none⟩, (.int .i64 p0.States)), (2, ⟨g2039, 1, none⟩, (.int .i64 p0.Symbols)), (2, ⟨g2039, 2, none⟩, (.slice A_p0_Actions p0.Actions.length c_p0_Actions)), (3, ⟨g2043, 0, none⟩, (.int .i64 p1.State)), (3, ⟨g2043, 1, none⟩, (.int .i64 p1.At)), (3, ⟨g2043, 2, none⟩, (.slice A_p1_Cells p1.Cells.length c_p1_Cells))] (fun fb => by kernel_rfl) rfl trivial rfl ?_
  obtain ⟨t2090, ht2091, hf⟩ := bind_some hf
  refine WL.call (some 35) 41 #[(.agg #[(.int .i64 p0.States), (.int .i64 p0.Symbols), (.slice A_p0_Actions p0.Actions.length c_p0_Actions)])] (fun fb => by kernel_rfl) (machine_kitOf_calls _ p0 A_p0_Actions c_p0_Actions t2090 _ (hS2089.rd 0) ht2091) (fun v w2092 hR2093 => ?_)
  obtain ⟨g2095, A2096, c2097, A2098, c2099, rfl, hk_⟩ := hR2093
  have hS2094 : St NoS w w2092 [rowR enc_Action A_p0_Actions c_p0_Actions p0.Actions, rowR encInt A_p1_Cells c_p1_Cells p1.Cells] [blk g2095 (.cells #[(.int .i64 t2090.m.States), (.int .i64 t2090.m.Symbols), (.slice A_p0_Actions p0.Actions.length c_p0_Actions), (.slice A2096 t2090.set.length c2097), (.slice A2098 t2090.does.length c2099), (.int .i64 t2090.base)] 96 (0, 0)), rowO 65 enc_Tile A2096 c2097 t2090.set, rowO 3 encInt A2098 c2099 t2090.does, blk g2047 (.cells #[(.int .i64 0), (.int .i64 0), (.slice none 0 0)] 31 (0, 0)), blk g2043 (.cells #[(.int .i64 p1.State), (.int .i64 p1.At), (.slice A_p1_Cells p1.Cells.length c_p1_Cells)] 27 (0, 0)), blk g2039 (.cells #[(.int .i64 p0.States), (.int .i64 p0.Symbols), (.slice A_p0_Actions p0.Actions.length c_p0_Actions)] 24 (0, 0))] := hS2089.call hk_ [] [0, 1, 2] (fun g hg => hg.elim) (by simp) (by decide)
  refine ⟨⟨hS2094.cell 5 rfl 0 rfl, hS2094.cell 5 rfl 1 rfl, hS2094.cell 5 rfl 2 rfl, hS2094.cell 4 rfl 0 rfl, hS2094.cell 4 rfl 1 rfl, hS2094.cell 4 rfl 2 rfl, trivial⟩, ?_⟩
  obtain ⟨t2100, ht2101, hf⟩ := bind_some hf
  refine WL.call (some 38) 42 #[(.agg #[(.int .i64 p0.States), (.int .i64 p0.Symbols), (.slice A_p0_Actions p0.Actions.length c_p0_Actions)]), (.agg #[(.int .i64 p1.State), (.int .i64 p1.At), (.slice A_p1_Cells p1.Cells.length c_p1_Cells)])] (fun fb => by kernel_rfl) (machine_begin_calls p0 p1 A_p0_Actions c_p0_Actions A_p1_Cells c_p1_Cells t2100 _ (hS2094.rd 0) (hS2094.rd 1) ht2101) (fun v w2102 hR2103 => ?_)
  obtain ⟨g2105, A2106, c2107, rfl, hk_⟩ := hR2103
  have hS2104 : St NoS w w2102 [rowR enc_Action A_p0_Actions c_p0_Actions p0.Actions, rowR encInt A_p1_Cells c_p1_Cells p1.Cells] [blk g2105 (.cells #[(.int .i64 t2100.m.States), (.int .i64 t2100.m.Symbols), (.slice A_p0_Actions p0.Actions.length c_p0_Actions), (.int .i64 t2100.Config.State), (.int .i64 t2100.Config.At), (.slice A2106 t2100.Config.Cells.length c2107)] 82 (0, 0)), rowO 3 encInt A2106 c2107 t2100.Config.Cells, blk g2095 (.cells #[(.int .i64 t2090.m.States), (.int .i64 t2090.m.Symbols), (.slice A_p0_Actions p0.Actions.length c_p0_Actions), (.slice A2096 t2090.set.length c2097), (.slice A2098 t2090.does.length c2099), (.int .i64 t2090.base)] 96 (0, 0)), rowO 65 enc_Tile A2096 c2097 t2090.set, rowO 3 encInt A2098 c2099 t2090.does, blk g2047 (.cells #[(.int .i64 0), (.int .i64 0), (.slice none 0 0)] 31 (0, 0)), blk g2043 (.cells #[(.int .i64 p1.State), (.int .i64 p1.At), (.slice A_p1_Cells p1.Cells.length c_p1_Cells)] 27 (0, 0)), blk g2039 (.cells #[(.int .i64 p0.States), (.int .i64 p0.Symbols), (.slice A_p0_Actions p0.Actions.length c_p0_Actions)] 24 (0, 0))] := hS2094.call hk_ [] [0, 1, 2, 3, 4, 5] (fun g hg => hg.elim) (by simp) (by decide)
  refine ⟨trivial, ?_⟩
  refine seg 7 [] [2, 3, 4, 6, 8, 9] [(2, (.int .i64 p2)), (3, (.pointer (some ⟨g2039, 0, none⟩))), (4, (.pointer (some ⟨g2043, 0, none⟩))), (6, (.pointer (some ⟨g2047, 0, none⟩))), (8, (.pointer (some ⟨g2095, 0, none⟩))), (9, (.pointer (some ⟨g2105, 0, none⟩)))] [] (fun fb => by kernel_rfl) rfl trivial ?_
  refine WL.done rfl ?_
  refine WX.next ?_
  refine WC.seq ?_
  refine WC.region ?_
  refine seg 5 [.v (.slice A_p1_Cells p1.Cells.length c_p1_Cells)] [2, 3, 6, 8, 9, 43] [(2, (.int .i64 p2)), (3, (.pointer (some ⟨g2039, 0, none⟩))), (6, (.pointer (some ⟨g2047, 0, none⟩))), (8, (.pointer (some ⟨g2095, 0, none⟩))), (9, (.pointer (some ⟨g2105, 0, none⟩))), (43, (.agg #[(.int .i64 (p1.Cells.length : Int)), (.int .i64 p2), (.slice none 0 0)]))] [.cell ⟨g2043, 2, none⟩ (.slice A_p1_Cells p1.Cells.length c_p1_Cells)] (fun fb => by kernel_rfl) rfl ⟨hS2104.cell 6 rfl 2 rfl, trivial⟩ ?_
  refine WL.new hS2104 10 [] (fun g => (.pointer (some ⟨g, 0, none⟩))) (.cells #[(.int .i64 0), (.int .i64 0), (.slice none 0 0)] 31 (0, 0)) [] (fun fb g => by kernel_rfl) trivial (fun g2108 w2109 hS2110 => ?_)
  refine ⟨trivial, ?_⟩
  refine WL.store hS2110 0 rfl [(0, (.int .i64 (p1.Cells.length : Int))), (1, (.int .i64 p2)), (2, (.slice none 0 0))] #[(.int .i64 (p1.Cells.length : Int)), (.int .i64 p2), (.slice none 0 0)] (fun fb => by kernel_rfl) (by kernel_rfl) rfl [1, 2, 3, 4, 5, 6, 7, 8] (by decide) (by decide) (fun w2112 hS2113 => ?_)
  refine ⟨trivial, ?_⟩
  refine WL.done rfl ?_
  refine WX.next ?_
  refine WC.seq ?_
  refine WC.seq ?_
  refine WC.region ?_
  refine seg 2 [] [3, 6, 8, 9, 10, 44, 45] [(3, (.pointer (some ⟨g2039, 0, none⟩))), (6, (.pointer (some ⟨g2047, 0, none⟩))), (8, (.pointer (some ⟨g2095, 0, none⟩))), (9, (.pointer (some ⟨g2105, 0, none⟩))), (10, (.pointer (some ⟨g2108, 0, none⟩))), (44, (.int .i64 p2)), (45, (.int .i64 0))] [] (fun fb => by kernel_rfl) rfl trivial ?_
  refine WL.done rfl ?_
  refine WX.next ?_
  have hS2598 := hS2113.nilrow 3 encInt
  obtain ⟨x2614, hx2615, hf⟩ := bind_some hf
  refine WC.cutN (T := (List Int) × (Option Addr) × Nat) (fun t => [(6, (.pointer (some ⟨g2047, 0, none⟩))), (10, (.pointer (some ⟨g2108, 0, none⟩)))]) (fun t w1 => St NoS w w1 [rowR enc_Action A_p0_Actions c_p0_Actions p0.Actions, rowR encInt A_p1_Cells c_p1_Cells p1.Cells] [blk g2047 (.cells #[(.int .i64 0), (.int .i64 0), (.slice none 0 0)] 31 (0, 0)), blk g2108 (.cells #[(.int .i64 (p1.Cells.length : Int)), (.int .i64 p2), (.slice t.2.1 t.1.length t.2.2)] 31 (0, 0)), rowO 3 encInt t.2.1 t.2.2 t.1] ∧ x2614 = .inr t.1) (fun Kx2614 => ?_) ?_
  ·
    refine WC.block ?_
    refine WC.loop (T := (Int × Int × Int × Int × (List Int) × (List Int) × Int) × Nat × (Option Addr) × Nat × (Option Addr) × Nat) (fun t => [(3, (.pointer (some ⟨g2039, 0, none⟩))), (6, (.pointer (some ⟨g2047, 0, none⟩))), (8, (.pointer (some ⟨g2095, 0, none⟩))), (9, (.pointer (some ⟨t.2.1, 0, none⟩))), (10, (.pointer (some ⟨g2108, 0, none⟩))), (44, (.int .i64 p2)), (45, (.int .i64 t.1.2.2.2.2.2.2))]) (fun n t w1 => St NoS w w1 [rowR enc_Action A_p0_Actions c_p0_Actions p0.Actions, rowR encInt A_p1_Cells c_p1_Cells p1.Cells] [blk g2039 (.cells #[(.int .i64 p0.States), (.int .i64 p0.Symbols), (.slice A_p0_Actions p0.Actions.length c_p0_Actions)] 24 (0, 0)), blk g2047 (.cells #[(.int .i64 0), (.int .i64 0), (.slice none 0 0)] 31 (0, 0)), blk g2095 (.cells #[(.int .i64 t2090.m.States), (.int .i64 t2090.m.Symbols), (.slice A_p0_Actions p0.Actions.length c_p0_Actions), (.slice A2096 t2090.set.length c2097), (.slice A2098 t2090.does.length c2099), (.int .i64 t2090.base)] 96 (0, 0)), rowO 65 enc_Tile A2096 c2097 t2090.set, rowO 3 encInt A2098 c2099 t2090.does, blk t.2.1 (.cells #[(.int .i64 t.1.1), (.int .i64 t.1.2.1), (.slice A_p0_Actions p0.Actions.length c_p0_Actions), (.int .i64 t.1.2.2.1), (.int .i64 t.1.2.2.2.1), (.slice t.2.2.1 t.1.2.2.2.2.1.length t.2.2.2.1)] 82 (0, 0)), rowO 3 encInt t.2.2.1 t.2.2.2.1 t.1.2.2.2.2.1, blk g2108 (.cells #[(.int .i64 (p1.Cells.length : Int)), (.int .i64 p2), (.slice t.2.2.2.2.1 t.1.2.2.2.2.2.1.length t.2.2.2.2.2)] 31 (0, 0)), rowO 3 encInt t.2.2.2.2.1 t.2.2.2.2.2 t.1.2.2.2.2.2.1] ∧ machine_Picture.l0 n t.1.1 t.1.2.1 t.1.2.2.1 t.1.2.2.2.1 t.1.2.2.2.2.1 t.1.2.2.2.2.2.1 t.1.2.2.2.2.2.2 p0 p2 t2090 = some x2614) k ((t2100.m.States, t2100.m.Symbols, t2100.Config.State, t2100.Config.At, t2100.Config.Cells, ([] : List Int), 0), g2105, A2106, c2107, none, 0) [3, 6, 8, 9, 10, 44, 45] rfl ⟨(hS2598.subR [0, 1]).sub [9, 7, 4, 5, 6, 2, 3, 1, 0] (by decide), hx2615⟩ ?_
    rintro k2616 ⟨⟨x2600, x2601, x2602, x2603, l2606, l2609, x2610⟩, g2599, A2604, c2605, A2607, c2608⟩ w2617 ⟨hS2618, hl2619⟩
    cases k2616 with
    | zero => rw [machine_Picture.l0] at hl2619; cases hl2619
    | succ k2616 =>
      rw [machine_Picture.l0] at hl2619
      refine WC.seq ?_
      refine WC.region ?_
      refine seg 1 [] [3, 6, 8, 9, 10, 44, 45, 46] [(3, (.pointer (some ⟨g2039, 0, none⟩))), (6, (.pointer (some ⟨g2047, 0, none⟩))), (8, (.pointer (some ⟨g2095, 0, none⟩))), (9, (.pointer (some ⟨g2599, 0, none⟩))), (10, (.pointer (some ⟨g2108, 0, none⟩))), (44, (.int .i64 p2)), (45, (.int .i64 x2610)), (46, (.bool (decide (x2610 < p2))))] [] (fun fb => by kernel_rfl) rfl trivial ?_
      refine WL.done rfl ?_
      refine WX.next ?_
      refine WC.seq ?_
      rcases br_some hl2619 with ⟨h2620, hl2619⟩ | ⟨h2620, hl2619⟩
      · refine WC.condT2 (fun fb => by kernel_rfl) h2620 ?_
        refine WC.skip ?_
        refine WX.next ?_
        refine WC.seq ?_
        refine WC.block ?_
        refine WC.seq ?_
        refine WC.regionD ([(0, ⟨g2039, 0, none⟩, (.int .i64 p0.States)), (0, ⟨g2039, 1, none⟩, (.int .i64 p0.Symbols)), (0, ⟨g2039, 2, none⟩, (.slice A_p0_Actions p0.Actions.length c_p0_Actions)), (4, ⟨g2599, 3, none⟩, (.int .i64 x2602)), (4, ⟨g2599, 4, none⟩, (.int .i64 x2603)), (4, ⟨g2599, 5, none⟩, (.slice A2604 l2606.length c2605))], [0, 1, 2, 3, 4, 6], [[], [], [1], [1, 2], [1, 2, 3], [0, 1, 2, 3, 4], [0, 1, 2, 3, 4, 5]]) [[0, 1, 2, 3, 4, 5, 6]] (by kernel_rfl) (by kernel_rfl) (NoPanic.seq (NoPanic.block (NoPanic.seq (NoPanic.seq (NoPanic.block (NoPanic.seq (NoPanic.body))))))) ?_
        have hS2630 := hS2618.drew
        revert hS2630
        generalize World.drew w2617 = w2629
        intro hS2630
        refine ⟨⟨hS2630.cell 0 rfl 0 rfl, hS2630.cell 0 rfl 1 rfl, hS2630.cell 0 rfl 2 rfl, hS2630.cell 5 rfl 3 rfl, hS2630.cell 5 rfl 4 rfl, hS2630.cell 5 rfl 5 rfl, trivial⟩, forallC ?_ (forallN)⟩
        refine segF 5 [.v (.int .i64 p0.States), .v (.int .i64 p0.Symbols), .v (.slice A_p0_Actions p0.Actions.length c_p0_Actions), .v (.int .i64 x2602), .v (.int .i64 x2603), .v (.slice A2604 l2606.length c2605)] [3, 6, 8, 9, 10, 44, 45, 47, 51] [(3, (.pointer (some ⟨g2039, 0, none⟩))), (6, (.pointer (some ⟨g2047, 0, none⟩))), (8, (.pointer (some ⟨g2095, 0, none⟩))), (9, (.pointer (some ⟨g2599, 0, none⟩))), (10, (.pointer (some ⟨g2108, 0, none⟩))), (44, (.int .i64 p2)), (45, (.int .i64 x2610)), (47, (.agg #[(.int .i64 p0.States), (.int .i64 p0.Symbols), (.slice A_p0_Actions p0.Actions.length c_p0_Actions)])), (51, (.agg #[(.int .i64 x2602), (.int .i64 x2603), (.slice A2604 l2606.length c2605)]))] [] [0, 1, 2, 3, 4, 5] [(0, ⟨g2039, 0, none⟩, (.int .i64 p0.States)), (0, ⟨g2039, 1, none⟩, (.int .i64 p0.Symbols)), (0, ⟨g2039, 2, none⟩, (.slice A_p0_Actions p0.Actions.length c_p0_Actions)), (4, ⟨g2599, 3, none⟩, (.int .i64 x2602)), (4, ⟨g2599, 4, none⟩, (.int .i64 x2603)), (4, ⟨g2599, 5, none⟩, (.slice A2604 l2606.length c2605))] (fun fb => by kernel_rfl) rfl trivial rfl ?_
        obtain ⟨t2631, ht2632, hl2619⟩ := bind_some hl2619
        refine WL.call (some 52) 42 #[(.agg #[(.int .i64 p0.States), (.int .i64 p0.Symbols), (.slice A_p0_Actions p0.Actions.length c_p0_Actions)]), (.agg #[(.int .i64 x2602), (.int .i64 x2603), (.slice A2604 l2606.length c2605)])] (fun fb => by kernel_rfl) (machine_begin_calls p0 (Config.mk x2602 x2603 l2606) A_p0_Actions c_p0_Actions A2604 c2605 t2631 _ (hS2630.rd 0) (hS2630.ow 6).ofO ht2632) (fun v w2633 hR2634 => ?_)
        obtain ⟨g2636, A2637, c2638, rfl, hk_⟩ := hR2634
        have hS2635 : St NoS w w2633 [rowR enc_Action A_p0_Actions c_p0_Actions p0.Actions, rowR encInt A_p1_Cells c_p1_Cells p1.Cells] [blk g2636 (.cells #[(.int .i64 t2631.m.States), (.int .i64 t2631.m.Symbols), (.slice A_p0_Actions p0.Actions.length c_p0_Actions), (.int .i64 t2631.Config.State), (.int .i64 t2631.Config.At), (.slice A2637 t2631.Config.Cells.length c2638)] 82 (0, 0)), rowO 3 encInt A2637 c2638 t2631.Config.Cells, blk g2039 (.cells #[(.int .i64 p0.States), (.int .i64 p0.Symbols), (.slice A_p0_Actions p0.Actions.length c_p0_Actions)] 24 (0, 0)), blk g2047 (.cells #[(.int .i64 0), (.int .i64 0), (.slice none 0 0)] 31 (0, 0)), blk g2095 (.cells #[(.int .i64 t2090.m.States), (.int .i64 t2090.m.Symbols), (.slice A_p0_Actions p0.Actions.length c_p0_Actions), (.slice A2096 t2090.set.length c2097), (.slice A2098 t2090.does.length c2099), (.int .i64 t2090.base)] 96 (0, 0)), rowO 65 enc_Tile A2096 c2097 t2090.set, rowO 3 encInt A2098 c2099 t2090.does, blk g2599 (.cells #[(.int .i64 x2600), (.int .i64 x2601), (.slice A_p0_Actions p0.Actions.length c_p0_Actions), (.int .i64 x2602), (.int .i64 x2603), (.slice A2604 l2606.length c2605)] 82 (0, 0)), rowO 3 encInt A2604 c2605 l2606, blk g2108 (.cells #[(.int .i64 (p1.Cells.length : Int)), (.int .i64 p2), (.slice A2607 l2609.length c2608)] 31 (0, 0)), rowO 3 encInt A2607 c2608 l2609] := hS2630.call hk_ [] [0, 1, 2, 3, 4, 5, 6, 7, 8] (fun g hg => hg.elim) (by simp) (by decide)
        refine ⟨trivial, ?_⟩
        refine seg 7 [] [3, 6, 8, 9, 10, 11, 44, 45] [(3, (.pointer (some ⟨g2039, 0, none⟩))), (6, (.pointer (some ⟨g2047, 0, none⟩))), (8, (.pointer (some ⟨g2095, 0, none⟩))), (9, (.pointer (some ⟨g2599, 0, none⟩))), (10, (.pointer (some ⟨g2108, 0, none⟩))), (11, (.pointer (some ⟨g2636, 0, none⟩))), (44, (.int .i64 p2)), (45, (.int .i64 x2610))] [] (fun fb => by kernel_rfl) rfl trivial ?_
        refine WL.done rfl ?_
        refine WX.next ?_
        refine WC.seq ?_
        refine WC.seq ?_
        refine WC.region ?_
        refine seg 1 [] [3, 6, 8, 9, 10, 11, 44, 45, 53] [(3, (.pointer (some ⟨g2039, 0, none⟩))), (6, (.pointer (some ⟨g2047, 0, none⟩))), (8, (.pointer (some ⟨g2095, 0, none⟩))), (9, (.pointer (some ⟨g2599, 0, none⟩))), (10, (.pointer (some ⟨g2108, 0, none⟩))), (11, (.pointer (some ⟨g2636, 0, none⟩))), (44, (.int .i64 p2)), (45, (.int .i64 x2610)), (53, (.pointer (some ⟨g2636, 0, none⟩)))] [] (fun fb => by kernel_rfl) rfl trivial ?_
        obtain ⟨t2639, ht2640, hl2619⟩ := bind_some hl2619
        refine WL.call (some 54) 43 #[(.pointer (some ⟨g2636, 0, none⟩))] (fun fb => by kernel_rfl) (machine_runner_step_calls (Runner.mk (Machine.mk t2631.m.States t2631.m.Symbols p0.Actions) t2631.Config) g2636 A_p0_Actions c_p0_Actions A2637 c2638 t2639 _ (hS2635.rdT [0, 1] 0) (hS2635.io [0, 1] (by decide)) ht2640) (fun v w2641 hR2642 => ?_)
        obtain ⟨A2644, c2645, rfl, hk_⟩ := hR2642
        have hS2643 : St NoS w w2641 [rowR enc_Action A_p0_Actions c_p0_Actions p0.Actions, rowR encInt A_p1_Cells c_p1_Cells p1.Cells] [blk g2636 (.cells #[(.int .i64 t2639.2.m.States), (.int .i64 t2639.2.m.Symbols), (.slice A_p0_Actions p0.Actions.length c_p0_Actions), (.int .i64 t2639.2.Config.State), (.int .i64 t2639.2.Config.At), (.slice A2644 t2639.2.Config.Cells.length c2645)] 82 (0, 0)), rowO 3 encInt A2644 c2645 t2639.2.Config.Cells, blk g2039 (.cells #[(.int .i64 p0.States), (.int .i64 p0.Symbols), (.slice A_p0_Actions p0.Actions.length c_p0_Actions)] 24 (0, 0)), blk g2047 (.cells #[(.int .i64 0), (.int .i64 0), (.slice none 0 0)] 31 (0, 0)), blk g2095 (.cells #[(.int .i64 t2090.m.States), (.int .i64 t2090.m.Symbols), (.slice A_p0_Actions p0.Actions.length c_p0_Actions), (.slice A2096 t2090.set.length c2097), (.slice A2098 t2090.does.length c2099), (.int .i64 t2090.base)] 96 (0, 0)), rowO 65 enc_Tile A2096 c2097 t2090.set, rowO 3 encInt A2098 c2099 t2090.does, blk g2599 (.cells #[(.int .i64 x2600), (.int .i64 x2601), (.slice A_p0_Actions p0.Actions.length c_p0_Actions), (.int .i64 x2602), (.int .i64 x2603), (.slice A2604 l2606.length c2605)] 82 (0, 0)), rowO 3 encInt A2604 c2605 l2606, blk g2108 (.cells #[(.int .i64 (p1.Cells.length : Int)), (.int .i64 p2), (.slice A2607 l2609.length c2608)] 31 (0, 0)), rowO 3 encInt A2607 c2608 l2609] := hS2635.call hk_ [0, 1] [2, 3, 4, 5, 6, 7, 8, 9, 10] (fun g hg => fpL_sel g hg) (by decide) (by decide)
        refine ⟨trivial, ?_⟩
        refine seg 3 [] [3, 6, 8, 9, 10, 11, 44, 45, 55] [(3, (.pointer (some ⟨g2039, 0, none⟩))), (6, (.pointer (some ⟨g2047, 0, none⟩))), (8, (.pointer (some ⟨g2095, 0, none⟩))), (9, (.pointer (some ⟨g2599, 0, none⟩))), (10, (.pointer (some ⟨g2108, 0, none⟩))), (11, (.pointer (some ⟨g2636, 0, none⟩))), (44, (.int .i64 p2)), (45, (.int .i64 x2610)), (55, (.bool (t2639.1 != 0)))] [] (fun fb => by kernel_rfl) rfl trivial ?_
        refine WL.done rfl ?_
        refine WX.next ?_
        rcases br_some hl2619 with ⟨h2646, hl2619⟩ | ⟨h2646, hl2619⟩
        · refine WC.condT2 (fun fb => by kernel_rfl) h2646 ?_
          refine WC.seq ?_
          refine WC.region ?_
          refine seg 1 [] [6, 56] [(6, (.pointer (some ⟨g2047, 0, none⟩))), (56, (.agg #[(.int .i64 0), (.int .i64 0), (.slice none 0 0)]))] [] (fun fb => by kernel_rfl) rfl trivial ?_
          refine WL.store hS2643 3 rfl [(0, (.int .i64 0)), (1, (.int .i64 0)), (2, (.slice none 0 0))] #[(.int .i64 0), (.int .i64 0), (.slice none 0 0)] (fun fb => by kernel_rfl) (by kernel_rfl) rfl [0, 1, 2, 4, 5, 6, 7, 8, 9, 10] (by decide) (by decide) (fun w2647 hS2648 => ?_)
          refine ⟨trivial, ?_⟩
          refine seg 3 [] [6, 7] [(6, (.pointer (some ⟨g2047, 0, none⟩))), (7, (.int .i64 6))] [] (fun fb => by kernel_rfl) rfl trivial ?_
          refine WL.done rfl ?_
          refine WX.next ?_
          refine WC.ret ?_
          have hS2649 := hS2648.nilrow 3 encInt
          injection hl2619 with hl2619
          subst hl2619
          injection hf with hf
          subst hf
          exact WX.thenR (WX.blockR (WX.thenR (WX.thenR (WX.blockR (WX.thenR (WX.ret_ [.v (.int .i64 0), .v (.int .i64 0), .v (.slice none 0 0)] (.tuple #[(.agg #[(.int .i64 0), (.int .i64 0), (.slice none ([] : List Int).length 0)]), (.int .i64 6)]) [.cell ⟨g2047, 0, none⟩ (.int .i64 0), .cell ⟨g2047, 1, none⟩ (.int .i64 0), .cell ⟨g2047, 2, none⟩ (.slice none 0 0)] (fun fb => by kernel_rfl) ⟨hS2648.cell 0 rfl 0 rfl, hS2648.cell 0 rfl 1 rfl, hS2648.cell 0 rfl 2 rfl, trivial⟩ ⟨_, rfl, none, 0, rfl, (hS2649.sub [0] (by decide)).noR⟩))))))
        refine WC.condF2 (fun fb => by kernel_rfl) h2646 ?_
        refine WC.skip ?_
        refine WX.next ?_
        refine WC.seq ?_
        refine WC.regionD ([(1, ⟨g2108, 2, none⟩, (.slice A2607 l2609.length c2608))], [0, 1, 2, 3, 6], [[], [0], [], [], [2, 3], [0, 1, 2, 3, 4], [0, 1, 2, 3, 4, 5], [0, 1, 2, 3, 4, 5, 6]]) [[0, 1, 2, 3, 4, 5, 6, 7]] (by kernel_rfl) (by kernel_rfl) (NoPanic.seq (NoPanic.block (NoPanic.seq (NoPanic.seq (NoPanic.block (NoPanic.seq (NoPanic.body))))))) ?_
        have hS2665 := hS2643.drew
        revert hS2665
        generalize World.drew w2641 = w2664
        intro hS2665
        refine ⟨⟨hS2665.cell 9 rfl 2 rfl, trivial⟩, forallC ?_ (forallN)⟩
        refine segF 4 [.v (.slice A2607 l2609.length c2608)] [3, 6, 8, 10, 11, 44, 45, 58, 59, 60] [(3, (.pointer (some ⟨g2039, 0, none⟩))), (6, (.pointer (some ⟨g2047, 0, none⟩))), (8, (.pointer (some ⟨g2095, 0, none⟩))), (10, (.pointer (some ⟨g2108, 0, none⟩))), (11, (.pointer (some ⟨g2636, 0, none⟩))), (44, (.int .i64 p2)), (45, (.int .i64 x2610)), (58, (.slice A2607 l2609.length c2608)), (59, (.pointer (some ⟨g2095, 0, none⟩))), (60, (.pointer (some ⟨g2599, 0, none⟩)))] [] [0] [(1, ⟨g2108, 2, none⟩, (.slice A2607 l2609.length c2608))] (fun fb => by kernel_rfl) rfl trivial rfl ?_
        obtain ⟨t2666, ht2667, hl2619⟩ := bind_some hl2619
        refine WL.call (some 61) 44 #[(.pointer (some ⟨g2095, 0, none⟩)), (.pointer (some ⟨g2599, 0, none⟩))] (fun fb => by kernel_rfl) (machine_kit_row_calls _ (Kit.mk (Machine.mk t2090.m.States t2090.m.Symbols p0.Actions) t2090.set t2090.does t2090.base) (Runner.mk (Machine.mk x2600 x2601 p0.Actions) (Config.mk x2602 x2603 l2606)) g2095 A_p0_Actions c_p0_Actions A2096 c2097 A2098 c2099 g2599 A_p0_Actions c_p0_Actions A2604 c2605 t2666 _ (hS2665.ow 4) (hS2665.rd 0) (hS2665.ow 5).ofO (hS2665.ow 6).ofO (hS2665.ow 7) (hS2665.rd 0) (hS2665.ow 8).ofO ht2667) (fun v w2668 hR2669 => ?_)
        obtain ⟨A2671, c2672, rfl, hk_⟩ := hR2669
        have hS2670 : St NoS w w2668 [rowR enc_Action A_p0_Actions c_p0_Actions p0.Actions, rowR encInt A_p1_Cells c_p1_Cells p1.Cells] [rowO 3 encInt A2671 c2672 t2666, blk g2636 (.cells #[(.int .i64 t2639.2.m.States), (.int .i64 t2639.2.m.Symbols), (.slice A_p0_Actions p0.Actions.length c_p0_Actions), (.int .i64 t2639.2.Config.State), (.int .i64 t2639.2.Config.At), (.slice A2644 t2639.2.Config.Cells.length c2645)] 82 (0, 0)), rowO 3 encInt A2644 c2645 t2639.2.Config.Cells, blk g2039 (.cells #[(.int .i64 p0.States), (.int .i64 p0.Symbols), (.slice A_p0_Actions p0.Actions.length c_p0_Actions)] 24 (0, 0)), blk g2047 (.cells #[(.int .i64 0), (.int .i64 0), (.slice none 0 0)] 31 (0, 0)), blk g2095 (.cells #[(.int .i64 t2090.m.States), (.int .i64 t2090.m.Symbols), (.slice A_p0_Actions p0.Actions.length c_p0_Actions), (.slice A2096 t2090.set.length c2097), (.slice A2098 t2090.does.length c2099), (.int .i64 t2090.base)] 96 (0, 0)), rowO 65 enc_Tile A2096 c2097 t2090.set, rowO 3 encInt A2098 c2099 t2090.does, blk g2599 (.cells #[(.int .i64 x2600), (.int .i64 x2601), (.slice A_p0_Actions p0.Actions.length c_p0_Actions), (.int .i64 x2602), (.int .i64 x2603), (.slice A2604 l2606.length c2605)] 82 (0, 0)), rowO 3 encInt A2604 c2605 l2606, blk g2108 (.cells #[(.int .i64 (p1.Cells.length : Int)), (.int .i64 p2), (.slice A2607 l2609.length c2608)] 31 (0, 0)), rowO 3 encInt A2607 c2608 l2609] := hS2665.call hk_ [] [0, 1, 2, 3, 4, 5, 6, 7, 8, 9, 10] (fun g hg => hg.elim) (by simp) (by decide)
        refine ⟨⟨hS2670.cell 10 rfl 2 rfl, trivial⟩, ?_⟩
        obtain ⟨h2673, hl2619⟩ := as_some hl2619
        refine WL.append hS2670 11 (d := 62) (tS := 25) (z := (.int .i64 0)) (bytes := 8) (c2 := c2672) rfl (fun fb => by kernel_rfl) (rowO.rd (hS2670.own 0).1) (by kernel_rfl) (by kernel_rfl) rfl (by decide) h2673 (by decide) [0, 1, 2, 3, 4, 5, 6, 7, 8, 9, 10] (by decide) (by decide) (fun A2674 c2675 w2676 hS2677 => ?_)
        refine ⟨trivial, ?_⟩
        refine seg 7 [] [3, 6, 8, 10, 11, 44, 45, 62, 63] [(3, (.pointer (some ⟨g2039, 0, none⟩))), (6, (.pointer (some ⟨g2047, 0, none⟩))), (8, (.pointer (some ⟨g2095, 0, none⟩))), (10, (.pointer (some ⟨g2108, 0, none⟩))), (11, (.pointer (some ⟨g2636, 0, none⟩))), (44, (.int .i64 p2)), (45, (.int .i64 x2610)), (62, (.slice A2674 (l2609 ++ t2666).length c2675)), (63, (.pointer (some ⟨g2108, 2, none⟩)))] [] (fun fb => by kernel_rfl) rfl trivial ?_
        refine WL.store hS2677 11 rfl [(2, (.slice A2674 (l2609 ++ t2666).length c2675))] #[(.int .i64 (p1.Cells.length : Int)), (.int .i64 p2), (.slice A2674 (l2609 ++ t2666).length c2675)] (fun fb => by kernel_rfl) (by kernel_rfl) rfl [0, 1, 2, 3, 4, 5, 6, 7, 8, 9, 10] (by decide) (by decide) (fun w2678 hS2679 => ?_)
        refine ⟨trivial, ?_⟩
        refine WL.done rfl ?_
        refine WX.next ?_
        refine WC.region ?_
        refine seg 2 [] [3, 6, 8, 9, 10, 44, 45] [(3, (.pointer (some ⟨g2039, 0, none⟩))), (6, (.pointer (some ⟨g2047, 0, none⟩))), (8, (.pointer (some ⟨g2095, 0, none⟩))), (9, (.pointer (some ⟨g2636, 0, none⟩))), (10, (.pointer (some ⟨g2108, 0, none⟩))), (44, (.int .i64 p2)), (45, (.int .i64 x2610))] [] (fun fb => by kernel_rfl) rfl trivial ?_
        refine WL.done rfl ?_
        refine WX.blockN (WX.next ?_)
        refine WC.region ?_
        refine seg 2 [] [3, 6, 8, 9, 10, 44, 45] [(3, (.pointer (some ⟨g2039, 0, none⟩))), (6, (.pointer (some ⟨g2047, 0, none⟩))), (8, (.pointer (some ⟨g2095, 0, none⟩))), (9, (.pointer (some ⟨g2636, 0, none⟩))), (10, (.pointer (some ⟨g2108, 0, none⟩))), (44, (.int .i64 p2)), (45, (.int .i64 (w64 (x2610 + 1))))] [] (fun fb => by kernel_rfl) rfl trivial ?_
        refine WL.done rfl ?_
        exact WX.again k2616 (Nat.lt_succ_self _) ((t2639.2.m.States, t2639.2.m.Symbols, t2639.2.Config.State, t2639.2.Config.At, t2639.2.Config.Cells, l2609 ++ t2666, w64 (x2610 + 1)), g2636, A2644, c2645, A2674, c2675) [3, 6, 8, 9, 10, 44, 45] rfl ⟨(hS2679.subR [0, 1]).sub [5, 6, 7, 8, 9, 3, 4, 0, 1] (by decide), hl2619⟩
      refine WC.condF2 (fun fb => by kernel_rfl) h2620 ?_
      refine WC.exit ?_
      injection hl2619 with hl2619
      exact WX.thenX (WX.thenX (WX.blockHere (WX.to Kx2614 (l2609, A2607, c2608) [6, 10] rfl ⟨(hS2618.subR [0, 1]).sub [1, 7, 8] (by decide), hl2619.symm⟩)))
  rintro ⟨y2683, A2611, c2612⟩ w2680 ⟨hS2681, hq2682⟩
  subst hq2682
  have hf := sum_inr hf
  refine WX.next ?_
  refine WC.seq ?_
  refine WC.region ?_
  refine seg 1 [.v (.int .i64 (p1.Cells.length : Int)), .v (.int .i64 p2), .v (.slice A2611 y2683.length c2612)] [6, 66] [(6, (.pointer (some ⟨g2047, 0, none⟩))), (66, (.agg #[(.int .i64 (p1.Cells.length : Int)), (.int .i64 p2), (.slice A2611 y2683.length c2612)]))] [.cell ⟨g2108, 0, none⟩ (.int .i64 (p1.Cells.length : Int)), .cell ⟨g2108, 1, none⟩ (.int .i64 p2), .cell ⟨g2108, 2, none⟩ (.slice A2611 y2683.length c2612)] (fun fb => by kernel_rfl) rfl ⟨hS2681.cell 1 rfl 0 rfl, hS2681.cell 1 rfl 1 rfl, hS2681.cell 1 rfl 2 rfl, trivial⟩ ?_
  refine WL.store hS2681 0 rfl [(0, (.int .i64 (p1.Cells.length : Int))), (1, (.int .i64 p2)), (2, (.slice A2611 y2683.length c2612))] #[(.int .i64 (p1.Cells.length : Int)), (.int .i64 p2), (.slice A2611 y2683.length c2612)] (fun fb => by kernel_rfl) (by kernel_rfl) rfl [1, 2] (by decide) (by decide) (fun w2685 hS2686 => ?_)
  refine ⟨trivial, ?_⟩
  refine seg 3 [] [6, 7] [(6, (.pointer (some ⟨g2047, 0, none⟩))), (7, (.int .i64 0))] [] (fun fb => by kernel_rfl) rfl trivial ?_
  refine WL.done rfl ?_
  refine WX.next ?_
  refine WC.ret ?_
  injection hf with hf
  subst hf
  exact WX.ret_ [.v (.int .i64 (p1.Cells.length : Int)), .v (.int .i64 p2), .v (.slice A2611 y2683.length c2612)] (.tuple #[(.agg #[(.int .i64 (p1.Cells.length : Int)), (.int .i64 p2), (.slice A2611 y2683.length c2612)]), (.int .i64 0)]) [.cell ⟨g2047, 0, none⟩ (.int .i64 (p1.Cells.length : Int)), .cell ⟨g2047, 1, none⟩ (.int .i64 p2), .cell ⟨g2047, 2, none⟩ (.slice A2611 y2683.length c2612)] (fun fb => by kernel_rfl) ⟨hS2686.cell 0 rfl 0 rfl, hS2686.cell 0 rfl 1 rfl, hS2686.cell 0 rfl 2 rfl, trivial⟩ ⟨_, rfl, A2611, c2612, rfl, (hS2686.sub [2] (by decide)).noR⟩
theorem law08_awake_calls (k : Nat)   (r : Bool) (w : World)  (hf : law08_awake k = some r) :
    CallsR Try.prog 11 #[] w (fun v w' => v = (.bool r) ∧ Keeps NoS w w') := by
  have hS : St NoS w w [] [] := St.init (ro_nil _ _)
  refine enter 52 Try.func11 rfl Try.ntmps11 rfl ?_
  unfold law08_awake at hf
  refine WC.seq ?_
  refine WC.region ?_
  refine seg 1 [] [] [] [] (fun fb => by kernel_rfl) rfl trivial ?_
  refine WL.done rfl ?_
  refine WX.next ?_
  refine WC.seq ?_
  refine WC.region ?_
  obtain ⟨t23, ht24, hf⟩ := bind_some hf
  refine WL.call (some 9) 40 #[] (fun fb => by kernel_rfl) (law08_goes_calls t23 _ ht24) (fun v w25 hR26 => ?_)
  obtain ⟨A28, c29, rfl, hk_⟩ := hR26
  have hS27 : St NoS w w25 [] [rowO 88 enc_Action A28 c29 t23.Actions] := hS.call hk_ [] [] (fun g hg => hg.elim) (by simp) (by decide)
  refine ⟨trivial, ?_⟩
  obtain ⟨t1472, ht1473, hf⟩ := bind_some hf
  refine WL.call (some 10) 25 #[(.agg #[(.int .i64 t23.States), (.int .i64 t23.Symbols), (.slice A28 t23.Actions.length c29)])] (fun fb => by kernel_rfl) (machine_Tiles_calls _ t23 A28 c29 t1472 _ (hS27.ow 0).ofO ht1473) (fun v w1474 hR1475 => ?_)
  obtain ⟨A1477, c1478, rfl, hk_⟩ := hR1475
  have hS1476 : St NoS w w1474 [] [rowO 65 enc_Tile A1477 c1478 t1472.1, rowO 88 enc_Action A28 c29 t23.Actions] := hS27.call hk_ [] [0] (fun g hg => hg.elim) (by simp) (by decide)
  refine ⟨trivial, ?_⟩
  refine seg 7 [] [1, 2] [(1, (.slice A1477 t1472.1.length c1478)), (2, (.int .i64 t1472.2))] [] (fun fb => by kernel_rfl) rfl trivial ?_
  refine WL.done rfl ?_
  refine WX.next ?_
  refine WC.seq ?_
  refine WC.region ?_
  obtain ⟨t1479, ht1480, hf⟩ := bind_some hf
  refine WL.call (some 14) 40 #[] (fun fb => by kernel_rfl) (law08_goes_calls t1479 _ ht1480) (fun v w1481 hR1482 => ?_)
  obtain ⟨A1484, c1485, rfl, hk_⟩ := hR1482
  have hS1483 : St NoS w w1481 [] [rowO 88 enc_Action A1484 c1485 t1479.Actions, rowO 65 enc_Tile A1477 c1478 t1472.1, rowO 88 enc_Action A28 c29 t23.Actions] := hS1476.call hk_ [] [0, 1] (fun g hg => hg.elim) (by simp) (by decide)
  refine ⟨trivial, ?_⟩
  refine WL.new hS1483 15 [] (fun g => (.slice (some ⟨g, 0, none⟩) 3 3)) (.cells #[(.int .i64 0), (.int .i64 0), (.int .i64 0)] 3 (0, 0)) [] (fun fb g => by kernel_rfl) trivial (fun g1486 w1487 hS1488 => ?_)
  refine ⟨trivial, ?_⟩
  have hS1490 : St NoS w w1487 [] [rowO 3 encInt (some ⟨g1486, 0, none⟩) 3 [0, 0, 0], rowO 88 enc_Action A1484 c1485 t1479.Actions, rowO 65 enc_Tile A1477 c1478 t1472.1, rowO 88 enc_Action A28 c29 t23.Actions] := hS1488.map1 0 _ (fun h => rowO.ofBlk h rfl (Nat.le_of_ble_eq_true (by kernel_rfl))) (fun _ h => by obtain ⟨_, h1, h2⟩ := h; injection h1 with h1; subst h1; exact h2) [1, 2, 3] (by decide) (by decide)
  refine seg 3 [] [1, 2, 14, 16] [(1, (.slice A1477 t1472.1.length c1478)), (2, (.int .i64 t1472.2)), (14, (.agg #[(.int .i64 t1479.States), (.int .i64 t1479.Symbols), (.slice A1484 t1479.Actions.length c1485)])), (16, (.agg #[(.int .i64 0), (.int .i64 0), (.slice (some ⟨g1486, 0, none⟩) [0, 0, 0].length 3)]))] [] (fun fb => by kernel_rfl) rfl trivial ?_
  obtain ⟨t2014, ht2015, hf⟩ := bind_some hf
  refine WL.call (some 17) 20 #[(.agg #[(.int .i64 t1479.States), (.int .i64 t1479.Symbols), (.slice A1484 t1479.Actions.length c1485)]), (.agg #[(.int .i64 0), (.int .i64 0), (.slice (some ⟨g1486, 0, none⟩) [0, 0, 0].length 3)]), (.int .i64 9)] (fun fb => by kernel_rfl) (machine_Run_calls _ t1479 (Config.mk 0 0 [0, 0, 0]) 9 A1484 c1485 (some ⟨g1486, 0, none⟩) 3 t2014 _ (hS1490.ow 1).ofO (hS1490.ow 0).ofO ht2015) (fun v w2016 hR2017 => ?_)
  obtain ⟨A2019, c2020, rfl, hk_⟩ := hR2017
  have hS2018 : St NoS w w2016 [] [rowO 3 encInt A2019 c2020 t2014.1.Cells, rowO 3 encInt (some ⟨g1486, 0, none⟩) 3 [0, 0, 0], rowO 88 enc_Action A1484 c1485 t1479.Actions, rowO 65 enc_Tile A1477 c1478 t1472.1, rowO 88 enc_Action A28 c29 t23.Actions] := hS1490.call hk_ [] [0, 1, 2, 3] (fun g hg => hg.elim) (by simp) (by decide)
  refine ⟨trivial, ?_⟩
  refine seg 8 [] [1, 2, 18, 19, 20] [(1, (.slice A1477 t1472.1.length c1478)), (2, (.int .i64 t1472.2)), (18, (.agg #[(.int .i64 t2014.1.State), (.int .i64 t2014.1.At), (.slice A2019 t2014.1.Cells.length c2020)])), (19, (.int .i64 t2014.2.1)), (20, (.int .i64 t2014.2.2))] [] (fun fb => by kernel_rfl) rfl trivial ?_
  refine WL.new hS2018 3 [] (fun g => (.pointer (some ⟨g, 0, none⟩))) (.cells #[(.int .i64 0), (.int .i64 0), (.slice none 0 0)] 27 (0, 0)) [] (fun fb g => by kernel_rfl) trivial (fun g2021 w2022 hS2023 => ?_)
  refine ⟨trivial, ?_⟩
  refine WL.store hS2023 0 rfl [(0, (.int .i64 t2014.1.State)), (1, (.int .i64 t2014.1.At)), (2, (.slice A2019 t2014.1.Cells.length c2020))] #[(.int .i64 t2014.1.State), (.int .i64 t2014.1.At), (.slice A2019 t2014.1.Cells.length c2020)] (fun fb => by kernel_rfl) (by kernel_rfl) rfl [1, 2, 3, 4, 5] (by decide) (by decide) (fun w2025 hS2026 => ?_)
  refine ⟨trivial, ?_⟩
  refine seg 12 [] [1, 2, 3, 4, 5] [(1, (.slice A1477 t1472.1.length c1478)), (2, (.int .i64 t1472.2)), (3, (.pointer (some ⟨g2021, 0, none⟩))), (4, (.int .i64 t2014.2.1)), (5, (.int .i64 t2014.2.2))] [] (fun fb => by kernel_rfl) rfl trivial ?_
  refine WL.done rfl ?_
  refine WX.next ?_
  refine WC.seq ?_
  refine WC.region ?_
  obtain ⟨t2027, ht2028, hf⟩ := bind_some hf
  refine WL.call (some 22) 40 #[] (fun fb => by kernel_rfl) (law08_goes_calls t2027 _ ht2028) (fun v w2029 hR2030 => ?_)
  obtain ⟨A2032, c2033, rfl, hk_⟩ := hR2030
  have hS2031 : St NoS w w2029 [] [rowO 88 enc_Action A2032 c2033 t2027.Actions, blk g2021 (.cells #[(.int .i64 t2014.1.State), (.int .i64 t2014.1.At), (.slice A2019 t2014.1.Cells.length c2020)] 27 (0, 0)), rowO 3 encInt A2019 c2020 t2014.1.Cells, rowO 3 encInt (some ⟨g1486, 0, none⟩) 3 [0, 0, 0], rowO 88 enc_Action A1484 c1485 t1479.Actions, rowO 65 enc_Tile A1477 c1478 t1472.1, rowO 88 enc_Action A28 c29 t23.Actions] := hS2026.call hk_ [] [0, 1, 2, 3, 4, 5] (fun g hg => hg.elim) (by simp) (by decide)
  refine ⟨trivial, ?_⟩
  refine WL.new hS2031 23 [] (fun g => (.slice (some ⟨g, 0, none⟩) 3 3)) (.cells #[(.int .i64 0), (.int .i64 0), (.int .i64 0)] 3 (0, 0)) [] (fun fb g => by kernel_rfl) trivial (fun g2034 w2035 hS2036 => ?_)
  refine ⟨trivial, ?_⟩
  have hS2038 : St NoS w w2035 [] [rowO 3 encInt (some ⟨g2034, 0, none⟩) 3 [0, 0, 0], rowO 88 enc_Action A2032 c2033 t2027.Actions, blk g2021 (.cells #[(.int .i64 t2014.1.State), (.int .i64 t2014.1.At), (.slice A2019 t2014.1.Cells.length c2020)] 27 (0, 0)), rowO 3 encInt A2019 c2020 t2014.1.Cells, rowO 3 encInt (some ⟨g1486, 0, none⟩) 3 [0, 0, 0], rowO 88 enc_Action A1484 c1485 t1479.Actions, rowO 65 enc_Tile A1477 c1478 t1472.1, rowO 88 enc_Action A28 c29 t23.Actions] := hS2036.map1 0 _ (fun h => rowO.ofBlk h rfl (Nat.le_of_ble_eq_true (by kernel_rfl))) (fun _ h => by obtain ⟨_, h1, h2⟩ := h; injection h1 with h1; subst h1; exact h2) [1, 2, 3, 4, 5, 6, 7] (by decide) (by decide)
  refine seg 3 [] [1, 2, 3, 4, 5, 22, 24] [(1, (.slice A1477 t1472.1.length c1478)), (2, (.int .i64 t1472.2)), (3, (.pointer (some ⟨g2021, 0, none⟩))), (4, (.int .i64 t2014.2.1)), (5, (.int .i64 t2014.2.2)), (22, (.agg #[(.int .i64 t2027.States), (.int .i64 t2027.Symbols), (.slice A2032 t2027.Actions.length c2033)])), (24, (.agg #[(.int .i64 0), (.int .i64 0), (.slice (some ⟨g2034, 0, none⟩) [0, 0, 0].length 3)]))] [] (fun fb => by kernel_rfl) rfl trivial ?_
  obtain ⟨t2687, ht2688, hf⟩ := bind_some hf
  refine WL.call (some 25) 12 #[(.agg #[(.int .i64 t2027.States), (.int .i64 t2027.Symbols), (.slice A2032 t2027.Actions.length c2033)]), (.agg #[(.int .i64 0), (.int .i64 0), (.slice (some ⟨g2034, 0, none⟩) [0, 0, 0].length 3)]), (.int .i64 3)] (fun fb => by kernel_rfl) (machine_Picture_calls _ t2027 (Config.mk 0 0 [0, 0, 0]) 3 A2032 c2033 (some ⟨g2034, 0, none⟩) 3 t2687 _ (hS2038.ow 1).ofO (hS2038.ow 0).ofO ht2688) (fun v w2689 hR2690 => ?_)
  obtain ⟨A2692, c2693, rfl, hk_⟩ := hR2690
  have hS2691 : St NoS w w2689 [] [rowO 3 encInt A2692 c2693 t2687.1.Cells, rowO 3 encInt (some ⟨g2034, 0, none⟩) 3 [0, 0, 0], rowO 88 enc_Action A2032 c2033 t2027.Actions, blk g2021 (.cells #[(.int .i64 t2014.1.State), (.int .i64 t2014.1.At), (.slice A2019 t2014.1.Cells.length c2020)] 27 (0, 0)), rowO 3 encInt A2019 c2020 t2014.1.Cells, rowO 3 encInt (some ⟨g1486, 0, none⟩) 3 [0, 0, 0], rowO 88 enc_Action A1484 c1485 t1479.Actions, rowO 65 enc_Tile A1477 c1478 t1472.1, rowO 88 enc_Action A28 c29 t23.Actions] := hS2038.call hk_ [] [0, 1, 2, 3, 4, 5, 6, 7] (fun g hg => hg.elim) (by simp) (by decide)
  refine ⟨trivial, ?_⟩
  refine seg 7 [] [1, 2, 3, 4, 5, 26, 27] [(1, (.slice A1477 t1472.1.length c1478)), (2, (.int .i64 t1472.2)), (3, (.pointer (some ⟨g2021, 0, none⟩))), (4, (.int .i64 t2014.2.1)), (5, (.int .i64 t2014.2.2)), (26, (.agg #[(.int .i64 t2687.1.Width), (.int .i64 t2687.1.Height), (.slice A2692 t2687.1.Cells.length c2693)])), (27, (.int .i64 t2687.2))] [] (fun fb => by kernel_rfl) rfl trivial ?_
  refine WL.new hS2691 6 [] (fun g => (.pointer (some ⟨g, 0, none⟩))) (.cells #[(.int .i64 0), (.int .i64 0), (.slice none 0 0)] 31 (0, 0)) [] (fun fb g => by kernel_rfl) trivial (fun g2694 w2695 hS2696 => ?_)
  refine ⟨trivial, ?_⟩
  refine WL.store hS2696 0 rfl [(0, (.int .i64 t2687.1.Width)), (1, (.int .i64 t2687.1.Height)), (2, (.slice A2692 t2687.1.Cells.length c2693))] #[(.int .i64 t2687.1.Width), (.int .i64 t2687.1.Height), (.slice A2692 t2687.1.Cells.length c2693)] (fun fb => by kernel_rfl) (by kernel_rfl) rfl [1, 2, 3, 4, 5, 6, 7, 8, 9] (by decide) (by decide) (fun w2698 hS2699 => ?_)
  refine ⟨trivial, ?_⟩
  refine seg 10 [] [1, 2, 3, 4, 5, 7] [(1, (.slice A1477 t1472.1.length c1478)), (2, (.int .i64 t1472.2)), (3, (.pointer (some ⟨g2021, 0, none⟩))), (4, (.int .i64 t2014.2.1)), (5, (.int .i64 t2014.2.2)), (7, (.int .i64 t2687.2))] [] (fun fb => by kernel_rfl) rfl trivial ?_
  refine WL.done rfl ?_
  refine WX.next ?_
  refine WC.seq ?_
  refine WC.region ?_
  refine seg 3 [] [1, 3, 4, 5, 7, 30] [(1, (.slice A1477 t1472.1.length c1478)), (3, (.pointer (some ⟨g2021, 0, none⟩))), (4, (.int .i64 t2014.2.1)), (5, (.int .i64 t2014.2.2)), (7, (.int .i64 t2687.2)), (30, (.bool (t1472.2 == 0)))] [] (fun fb => by kernel_rfl) rfl trivial ?_
  refine WL.cutV (T := Bool) 7 (fun t => [(34, (.bool t)), (3, (.pointer (some ⟨g2021, 0, none⟩))), (4, (.int .i64 t2014.2.1)), (5, (.int .i64 t2014.2.2)), (7, (.int .i64 t2687.2))]) (fun t => t = ((t1472.2 == 0) && ((t1472.1.length : Int) == 8))) (fun K => ?_) ?_
  ·
    rcases Bool.eq_false_or_eq_true (t1472.2 == 0) with h2700 | h2700
    ·
      refine WL.setB 30 h2700 rfl ?_
      refine seg 7 [] [3, 4, 5, 7, 34] [(3, (.pointer (some ⟨g2021, 0, none⟩))), (4, (.int .i64 t2014.2.1)), (5, (.int .i64 t2014.2.2)), (7, (.int .i64 t2687.2)), (34, (.bool ((t1472.1.length : Int) == 8)))] [] (fun fb => by kernel_rfl) rfl trivial ?_
      exact WL.toV K ((t1472.1.length : Int) == 8) [34, 3, 4, 5, 7] rfl (by rw [h2700]; rfl)
    refine WL.setB 30 h2700 rfl ?_
    refine seg 7 [] [3, 4, 5, 7, 34] [(3, (.pointer (some ⟨g2021, 0, none⟩))), (4, (.int .i64 t2014.2.1)), (5, (.int .i64 t2014.2.2)), (7, (.int .i64 t2687.2)), (34, (.bool false))] [] (fun fb => by kernel_rfl) rfl trivial ?_
    exact WL.toV K false [34, 3, 4, 5, 7] rfl (by rw [h2700]; rfl)
  rintro b2701 rfl
  refine seg 8 [] [3, 4, 5, 7, 35] [(3, (.pointer (some ⟨g2021, 0, none⟩))), (4, (.int .i64 t2014.2.1)), (5, (.int .i64 t2014.2.2)), (7, (.int .i64 t2687.2)), (35, (.bool ((t1472.2 == 0) && ((t1472.1.length : Int) == 8))))] [] (fun fb => by kernel_rfl) rfl trivial ?_
  refine WL.cutV (T := Bool) 11 (fun t => [(38, (.bool t)), (3, (.pointer (some ⟨g2021, 0, none⟩))), (4, (.int .i64 t2014.2.1)), (7, (.int .i64 t2687.2))]) (fun t => t = (((t1472.2 == 0) && ((t1472.1.length : Int) == 8)) && (t2014.2.2 == 0))) (fun K => ?_) ?_
  ·
    rcases Bool.eq_false_or_eq_true ((t1472.2 == 0) && ((t1472.1.length : Int) == 8)) with h2702 | h2702
    ·
      refine WL.setB 35 h2702 rfl ?_
      refine seg 11 [] [3, 4, 7, 38] [(3, (.pointer (some ⟨g2021, 0, none⟩))), (4, (.int .i64 t2014.2.1)), (7, (.int .i64 t2687.2)), (38, (.bool (t2014.2.2 == 0)))] [] (fun fb => by kernel_rfl) rfl trivial ?_
      exact WL.toV K (t2014.2.2 == 0) [38, 3, 4, 7] rfl (by rw [h2702]; rfl)
    refine WL.setB 35 h2702 rfl ?_
    refine seg 11 [] [3, 4, 7, 38] [(3, (.pointer (some ⟨g2021, 0, none⟩))), (4, (.int .i64 t2014.2.1)), (7, (.int .i64 t2687.2)), (38, (.bool false))] [] (fun fb => by kernel_rfl) rfl trivial ?_
    exact WL.toV K false [38, 3, 4, 7] rfl (by rw [h2702]; rfl)
  rintro b2703 rfl
  refine seg 12 [] [3, 4, 7, 39] [(3, (.pointer (some ⟨g2021, 0, none⟩))), (4, (.int .i64 t2014.2.1)), (7, (.int .i64 t2687.2)), (39, (.bool (((t1472.2 == 0) && ((t1472.1.length : Int) == 8)) && (t2014.2.2 == 0))))] [] (fun fb => by kernel_rfl) rfl trivial ?_
  refine WL.cutV (T := Bool) 15 (fun t => [(42, (.bool t)), (3, (.pointer (some ⟨g2021, 0, none⟩))), (7, (.int .i64 t2687.2))]) (fun t => t = ((((t1472.2 == 0) && ((t1472.1.length : Int) == 8)) && (t2014.2.2 == 0)) && (t2014.2.1 == 2))) (fun K => ?_) ?_
  ·
    rcases Bool.eq_false_or_eq_true (((t1472.2 == 0) && ((t1472.1.length : Int) == 8)) && (t2014.2.2 == 0)) with h2704 | h2704
    ·
      refine WL.setB 39 h2704 rfl ?_
      refine seg 15 [] [3, 7, 42] [(3, (.pointer (some ⟨g2021, 0, none⟩))), (7, (.int .i64 t2687.2)), (42, (.bool (t2014.2.1 == 2)))] [] (fun fb => by kernel_rfl) rfl trivial ?_
      exact WL.toV K (t2014.2.1 == 2) [42, 3, 7] rfl (by rw [h2704]; rfl)
    refine WL.setB 39 h2704 rfl ?_
    refine seg 15 [] [3, 7, 42] [(3, (.pointer (some ⟨g2021, 0, none⟩))), (7, (.int .i64 t2687.2)), (42, (.bool false))] [] (fun fb => by kernel_rfl) rfl trivial ?_
    exact WL.toV K false [42, 3, 7] rfl (by rw [h2704]; rfl)
  rintro b2705 rfl
  refine seg 16 [] [3, 7, 43] [(3, (.pointer (some ⟨g2021, 0, none⟩))), (7, (.int .i64 t2687.2)), (43, (.bool ((((t1472.2 == 0) && ((t1472.1.length : Int) == 8)) && (t2014.2.2 == 0)) && (t2014.2.1 == 2))))] [] (fun fb => by kernel_rfl) rfl trivial ?_
  refine WL.cutV (T := Bool) 20 (fun t => [(47, (.bool t)), (7, (.int .i64 t2687.2))]) (fun t => t = (((((t1472.2 == 0) && ((t1472.1.length : Int) == 8)) && (t2014.2.2 == 0)) && (t2014.2.1 == 2)) && (t2014.1.At == 2))) (fun K => ?_) ?_
  ·
    rcases Bool.eq_false_or_eq_true ((((t1472.2 == 0) && ((t1472.1.length : Int) == 8)) && (t2014.2.2 == 0)) && (t2014.2.1 == 2)) with h2706 | h2706
    ·
      refine WL.setB 43 h2706 rfl ?_
      refine seg 20 [.v (.int .i64 t2014.1.At)] [7, 47] [(7, (.int .i64 t2687.2)), (47, (.bool (t2014.1.At == 2)))] [.cell ⟨g2021, 1, none⟩ (.int .i64 t2014.1.At)] (fun fb => by kernel_rfl) rfl ⟨hS2699.cell 4 rfl 1 rfl, trivial⟩ ?_
      exact WL.toV K (t2014.1.At == 2) [47, 7] rfl (by rw [h2706]; rfl)
    refine WL.setB 43 h2706 rfl ?_
    refine seg 20 [] [7, 47] [(7, (.int .i64 t2687.2)), (47, (.bool false))] [] (fun fb => by kernel_rfl) rfl trivial ?_
    exact WL.toV K false [47, 7] rfl (by rw [h2706]; rfl)
  rintro b2707 rfl
  refine seg 21 [] [7, 48] [(7, (.int .i64 t2687.2)), (48, (.bool (((((t1472.2 == 0) && ((t1472.1.length : Int) == 8)) && (t2014.2.2 == 0)) && (t2014.2.1 == 2)) && (t2014.1.At == 2))))] [] (fun fb => by kernel_rfl) rfl trivial ?_
  refine WL.cutV (T := Bool) 24 (fun t => [(51, (.bool t))]) (fun t => t = ((((((t1472.2 == 0) && ((t1472.1.length : Int) == 8)) && (t2014.2.2 == 0)) && (t2014.2.1 == 2)) && (t2014.1.At == 2)) && (t2687.2 == 6))) (fun K => ?_) ?_
  ·
    rcases Bool.eq_false_or_eq_true (((((t1472.2 == 0) && ((t1472.1.length : Int) == 8)) && (t2014.2.2 == 0)) && (t2014.2.1 == 2)) && (t2014.1.At == 2)) with h2708 | h2708
    ·
      refine WL.setB 48 h2708 rfl ?_
      refine seg 24 [] [51] [(51, (.bool (t2687.2 == 6)))] [] (fun fb => by kernel_rfl) rfl trivial ?_
      exact WL.toV K (t2687.2 == 6) [51] rfl (by rw [h2708]; rfl)
    refine WL.setB 48 h2708 rfl ?_
    refine seg 24 [] [51] [(51, (.bool false))] [] (fun fb => by kernel_rfl) rfl trivial ?_
    exact WL.toV K false [51] rfl (by rw [h2708]; rfl)
  rintro b2709 rfl
  refine seg 25 [] [0] [(0, (.bool ((((((t1472.2 == 0) && ((t1472.1.length : Int) == 8)) && (t2014.2.2 == 0)) && (t2014.2.1 == 2)) && (t2014.1.At == 2)) && (t2687.2 == 6))))] [] (fun fb => by kernel_rfl) rfl trivial ?_
  refine WL.done rfl ?_
  refine WX.next ?_
  refine WC.ret ?_
  injection hf with hf
  subst hf
  exact WX.ret_ [] (.bool ((((((t1472.2 == 0) && ((t1472.1.length : Int) == 8)) && (t2014.2.2 == 0)) && (t2014.2.1 == 2)) && (t2014.1.At == 2)) && (t2687.2 == 6))) [] (fun fb => by kernel_rfl) trivial ⟨_, rfl, rfl, hS2699.keep⟩
theorem tile_colour_1_calls (p0 : Int)  (r : Bool) (w : World)  (hf : tile_colour_1 p0 = some r) :
    CallsR Try.prog 73 #[(.int .i64 p0)] w (fun v w' => v = (.bool r) ∧ Keeps NoS w w') := by
  have hS : St NoS w w [] [] := St.init (ro_nil _ _)
  refine enter 9 Try.func73 rfl Try.ntmps73 rfl ?_
  unfold tile_colour_1 at hf
  refine WC.seq ?_
  refine WC.region ?_
  refine seg 1 [] [0] [(0, (.int .i64 p0))] [] (fun fb => by kernel_rfl) rfl trivial ?_
  refine WL.done rfl ?_
  refine WX.next ?_
  refine WC.seq ?_
  refine WC.region ?_
  refine seg 3 [] [0, 5] [(0, (.int .i64 p0)), (5, (.bool (decide (p0 < 0))))] [] (fun fb => by kernel_rfl) rfl trivial ?_
  refine WL.cutV (T := Bool) 6 (fun t => [(8, (.bool t))]) (fun t => t = ((decide (p0 < 0)) || (decide (p0 ≥ 1000)))) (fun K => ?_) ?_
  ·
    rcases Bool.eq_false_or_eq_true (decide (p0 < 0)) with h2753 | h2753
    ·
      refine WL.setB 5 h2753 rfl ?_
      refine seg 6 [] [8] [(8, (.bool true))] [] (fun fb => by kernel_rfl) rfl trivial ?_
      exact WL.toV K true [8] rfl (by rw [h2753]; rfl)
    refine WL.setB 5 h2753 rfl ?_
    refine seg 6 [] [8] [(8, (.bool (decide (p0 ≥ 1000))))] [] (fun fb => by kernel_rfl) rfl trivial ?_
    exact WL.toV K (decide (p0 ≥ 1000)) [8] rfl (by rw [h2753]; rfl)
  rintro b2754 rfl
  refine seg 7 [] [2] [(2, (.bool ((decide (p0 < 0)) || (decide (p0 ≥ 1000)))))] [] (fun fb => by kernel_rfl) rfl trivial ?_
  refine WL.done rfl ?_
  refine WX.next ?_
  refine WC.ret ?_
  injection hf with hf
  subst hf
  exact WX.ret_ [] (.bool ((decide (p0 < 0)) || (decide (p0 ≥ 1000)))) [] (fun fb => by kernel_rfl) trivial ⟨_, rfl, rfl, hS.keep⟩
theorem slices_IndexFunc_int_int_with_tile_colour_1_calls (k : Nat) (p0 : List Int) (A_p0 : Option Addr) (c_p0 : Nat) (r : Int) (w : World) (hR0 : RO NoS w (rowR encInt A_p0 c_p0 p0)) (hf : slices_IndexFunc_int_int_with_tile_colour_1 k p0 = some r) :
    CallsR Try.prog 65 #[(.slice A_p0 p0.length c_p0), (.func (.func 73) #[] #[])] w (fun v w' => v = (.int .i64 r) ∧ Keeps NoS w w') := by
  have hS : St NoS w w [rowR encInt A_p0 c_p0 p0] [] := St.init (ro_cons hR0 (ro_nil _ _))
  refine enter 19 Try.func65 rfl Try.ntmps65 rfl ?_
  unfold slices_IndexFunc_int_int_with_tile_colour_1 at hf
  refine WC.seq ?_
  refine WC.region ?_
  refine seg 1 [] [0, 1] [(0, (.slice A_p0 p0.length c_p0)), (1, (.func (.func 73) #[] #[]))] [] (fun fb => by kernel_rfl) rfl trivial ?_
  refine WL.done rfl ?_
  refine WX.next ?_
  refine WC.seq ?_
  refine WC.seq ?_
  refine WC.region ?_
  refine seg 3 [] [0, 1, 7, 8] [(0, (.slice A_p0 p0.length c_p0)), (1, (.func (.func 73) #[] #[])), (7, (.int .i64 (p0.length : Int))), (8, (.int .i64 0))] [] (fun fb => by kernel_rfl) rfl trivial ?_
  refine WL.done rfl ?_
  refine WX.next ?_
  obtain ⟨x2771, hx2772, hf⟩ := bind_some hf
  refine WC.cutN (T := Unit) (fun t => []) (fun t w1 => St NoS w w1 [rowR encInt A_p0 c_p0 p0] [] ∧ x2771 = .inr t) (fun Kx2771 => ?_) ?_
  ·
    refine WC.block ?_
    refine WC.loop (T := Int) (fun t => [(0, (.slice A_p0 p0.length c_p0)), (1, (.func (.func 73) #[] #[])), (7, (.int .i64 (p0.length : Int))), (8, (.int .i64 t))]) (fun n t w1 => St NoS w w1 [rowR encInt A_p0 c_p0 p0] [] ∧ slices_IndexFunc_int_int_with_tile_colour_1.l0 n t p0 = some x2771) k 0 [0, 1, 7, 8] rfl ⟨(hS.subR [0]).sub [] (by decide), hx2772⟩ ?_
    rintro k2773 x2770 w2774 ⟨hS2775, hl2776⟩
    cases k2773 with
    | zero => rw [slices_IndexFunc_int_int_with_tile_colour_1.l0] at hl2776; cases hl2776
    | succ k2773 =>
      rw [slices_IndexFunc_int_int_with_tile_colour_1.l0] at hl2776
      refine WC.seq ?_
      refine WC.region ?_
      refine seg 1 [] [0, 1, 7, 8, 9] [(0, (.slice A_p0 p0.length c_p0)), (1, (.func (.func 73) #[] #[])), (7, (.int .i64 (p0.length : Int))), (8, (.int .i64 x2770)), (9, (.bool (decide (x2770 < (p0.length : Int)))))] [] (fun fb => by kernel_rfl) rfl trivial ?_
      refine WL.done rfl ?_
      refine WX.next ?_
      refine WC.seq ?_
      rcases br_some hl2776 with ⟨h2777, hl2776⟩ | ⟨h2777, hl2776⟩
      · refine WC.condT2 (fun fb => by kernel_rfl) h2777 ?_
        refine WC.skip ?_
        refine WX.next ?_
        refine WC.seq ?_
        refine WC.block ?_
        refine WC.seq ?_
        refine WC.region ?_
        refine seg 2 [] [0, 1, 5, 7, 8] [(0, (.slice A_p0 p0.length c_p0)), (1, (.func (.func 73) #[] #[])), (5, (.int .i64 x2770)), (7, (.int .i64 (p0.length : Int))), (8, (.int .i64 x2770))] [] (fun fb => by kernel_rfl) rfl trivial ?_
        refine WL.done rfl ?_
        refine WX.next ?_
        refine WC.seq ?_
        refine WC.region ?_
        refine seg 3 [] [0, 1, 5, 7, 8, 11, 12, 13] [(0, (.slice A_p0 p0.length c_p0)), (1, (.func (.func 73) #[] #[])), (5, (.int .i64 x2770)), (7, (.int .i64 (p0.length : Int))), (8, (.int .i64 x2770)), (11, (.func (.func 73) #[] #[])), (12, (.slice A_p0 p0.length c_p0)), (13, (.int .i64 x2770))] [] (fun fb => by kernel_rfl) rfl trivial ?_
        obtain ⟨h2778, hl2776⟩ := as_some hl2776
        refine seg 5 [.v (.int .i64 (rdD p0 x2770 0))] [0, 1, 5, 7, 8, 11, 15] [(0, (.slice A_p0 p0.length c_p0)), (1, (.func (.func 73) #[] #[])), (5, (.int .i64 x2770)), (7, (.int .i64 (p0.length : Int))), (8, (.int .i64 x2770)), (11, (.func (.func 73) #[] #[])), (15, (.int .i64 (rdD p0 x2770 0)))] [.idx A_p0 x2770 p0.length, .cell ((adr A_p0).add ((x2770).toNat * 1)) (.int .i64 (rdD p0 x2770 0))] (fun fb => by kernel_rfl) rfl ⟨rowR.adr (hS2775.rd 0).1 h2778.1 h2778.2, rowR.cell (hS2775.rd 0).1 0 h2778.1 h2778.2 0 rfl, trivial⟩ ?_
        obtain ⟨t2779, ht2780, hl2776⟩ := bind_some hl2776
        refine WL.call (some 16) 73 #[(.int .i64 (rdD p0 x2770 0))] (fun fb => by kernel_rfl) (tile_colour_1_calls (rdD p0 x2770 0) t2779 _ ht2780) (fun v w2781 hR2782 => ?_)
        obtain ⟨rfl, hk_⟩ := hR2782
        have hS2783 := hS2775.keepN hk_
        refine ⟨trivial, ?_⟩
        refine WL.done rfl ?_
        refine WX.next ?_
        rcases br_some hl2776 with ⟨h2784, hl2776⟩ | ⟨h2784, hl2776⟩
        · refine WC.condT2 (fun fb => by kernel_rfl) h2784 ?_
          refine WC.seq ?_
          refine WC.region ?_
          refine seg 2 [] [4] [(4, (.int .i64 x2770))] [] (fun fb => by kernel_rfl) rfl trivial ?_
          refine WL.done rfl ?_
          refine WX.next ?_
          refine WC.ret ?_
          injection hl2776 with hl2776
          subst hl2776
          injection hf with hf
          subst hf
          exact WX.blockR (WX.thenR (WX.thenR (WX.blockR (WX.thenR (WX.ret_ [] (.int .i64 x2770) [] (fun fb => by kernel_rfl) trivial ⟨_, rfl, rfl, hS2783.keep⟩)))))
        refine WC.condF2 (fun fb => by kernel_rfl) h2784 ?_
        refine WC.skip ?_
        refine WX.blockN (WX.next ?_)
        refine WC.region ?_
        refine seg 2 [] [0, 1, 7, 8] [(0, (.slice A_p0 p0.length c_p0)), (1, (.func (.func 73) #[] #[])), (7, (.int .i64 (p0.length : Int))), (8, (.int .i64 (w64 (x2770 + 1))))] [] (fun fb => by kernel_rfl) rfl trivial ?_
        refine WL.done rfl ?_
        exact WX.again k2773 (Nat.lt_succ_self _) (w64 (x2770 + 1)) [0, 1, 7, 8] rfl ⟨(hS2783.subR [0]).sub [] (by decide), hl2776⟩
      refine WC.condF2 (fun fb => by kernel_rfl) h2777 ?_
      refine WC.exit ?_
      injection hl2776 with hl2776
      exact WX.thenX (WX.thenX (WX.blockHere (WX.to Kx2771 () [] rfl ⟨(hS2775.subR [0]).sub [] (by decide), hl2776.symm⟩)))
  rintro y2788 w2785 ⟨hS2786, hq2787⟩
  subst hq2787
  have hf := sum_inr hf
  refine WX.next ?_
  refine WC.seq ?_
  refine WC.region ?_
  refine seg 1 [] [4] [(4, (.int .i64 (-1)))] [] (fun fb => by kernel_rfl) rfl trivial ?_
  refine WL.done rfl ?_
  refine WX.next ?_
  refine WC.ret ?_
  injection hf with hf
  subst hf
  exact WX.ret_ [] (.int .i64 (-1)) [] (fun fb => by kernel_rfl) trivial ⟨_, rfl, rfl, hS2786.keep⟩
theorem slices_ContainsFunc_int_int_with_tile_colour_1_calls (k : Nat) (p0 : List Int) (A_p0 : Option Addr) (c_p0 : Nat) (r : Bool) (w : World) (hR0 : RO NoS w (rowR encInt A_p0 c_p0 p0)) (hf : slices_ContainsFunc_int_int_with_tile_colour_1 k p0 = some r) :
    CallsR Try.prog 49 #[(.slice A_p0 p0.length c_p0), (.func (.func 73) #[] #[])] w (fun v w' => v = (.bool r) ∧ Keeps NoS w w') := by
  have hS : St NoS w w [rowR encInt A_p0 c_p0 p0] [] := St.init (ro_cons hR0 (ro_nil _ _))
  refine enter 9 Try.func49 rfl Try.ntmps49 rfl ?_
  unfold slices_ContainsFunc_int_int_with_tile_colour_1 at hf
  refine WC.seq ?_
  refine WC.region ?_
  refine seg 1 [] [0, 1] [(0, (.slice A_p0 p0.length c_p0)), (1, (.func (.func 73) #[] #[]))] [] (fun fb => by kernel_rfl) rfl trivial ?_
  refine WL.done rfl ?_
  refine WX.next ?_
  refine WC.seq ?_
  refine WC.region ?_
  refine seg 2 [] [5, 6] [(5, (.slice A_p0 p0.length c_p0)), (6, (.func (.func 73) #[] #[]))] [] (fun fb => by kernel_rfl) rfl trivial ?_
  obtain ⟨t2790, ht2791, hf⟩ := bind_some hf
  refine WL.call (some 7) 65 #[(.slice A_p0 p0.length c_p0), (.func (.func 73) #[] #[])] (fun fb => by kernel_rfl) (slices_IndexFunc_int_int_with_tile_colour_1_calls _ p0 A_p0 c_p0 t2790 _ (hS.rd 0) ht2791) (fun v w2792 hR2793 => ?_)
  obtain ⟨rfl, hk_⟩ := hR2793
  have hS2794 := hS.keepN hk_
  refine ⟨trivial, ?_⟩
  refine seg 5 [] [4] [(4, (.bool (decide (t2790 ≥ 0))))] [] (fun fb => by kernel_rfl) rfl trivial ?_
  refine WL.done rfl ?_
  refine WX.next ?_
  refine WC.ret ?_
  injection hf with hf
  subst hf
  exact WX.ret_ [] (.bool (decide (t2790 ≥ 0))) [] (fun fb => by kernel_rfl) trivial ⟨_, rfl, rfl, hS2794.keep⟩
theorem tile_colour_calls (k : Nat) (p0 : List Int) (A_p0 : Option Addr) (c_p0 : Nat) (r : Bool) (w : World) (hR0 : RO NoS w (rowR encInt A_p0 c_p0 p0)) (hf : tile_colour k p0 = some r) :
    CallsR Try.prog 72 #[(.slice A_p0 p0.length c_p0)] w (fun v w' => v = (.bool r) ∧ Keeps NoS w w') := by
  have hS : St NoS w w [rowR encInt A_p0 c_p0 p0] [] := St.init (ro_cons hR0 (ro_nil _ _))
  refine enter 6 Try.func72 rfl Try.ntmps72 rfl ?_
  unfold tile_colour at hf
  refine WC.seq ?_
  refine WC.region ?_
  refine seg 1 [] [0] [(0, (.slice A_p0 p0.length c_p0))] [] (fun fb => by kernel_rfl) rfl trivial ?_
  refine WL.done rfl ?_
  refine WX.next ?_
  refine WC.seq ?_
  refine WC.region ?_
  refine seg 1 [] [3] [(3, (.slice A_p0 p0.length c_p0))] [] (fun fb => by kernel_rfl) rfl trivial ?_
  obtain ⟨t2795, ht2796, hf⟩ := bind_some hf
  refine WL.call (some 4) 49 #[(.slice A_p0 p0.length c_p0), (.func (.func 73) #[] #[])] (fun fb => by kernel_rfl) (slices_ContainsFunc_int_int_with_tile_colour_1_calls _ p0 A_p0 c_p0 t2795 _ (hS.rd 0) ht2796) (fun v w2797 hR2798 => ?_)
  obtain ⟨rfl, hk_⟩ := hR2798
  have hS2799 := hS.keepN hk_
  refine ⟨trivial, ?_⟩
  refine seg 4 [] [2] [(2, (.bool (!t2795)))] [] (fun fb => by kernel_rfl) rfl trivial ?_
  refine WL.done rfl ?_
  refine WX.next ?_
  refine WC.ret ?_
  injection hf with hf
  subst hf
  exact WX.ret_ [] (.bool (!t2795)) [] (fun fb => by kernel_rfl) trivial ⟨_, rfl, rfl, hS2799.keep⟩
theorem tile_Valid_key65 : KeyK Try.prog 65 (aggI ints_Tile) := KeyK.struct (n := 4) (by kernel_rfl) ints_Tile (fun _ => rfl) (fun x y h => by cases x; cases y; simp only [ints_Tile, List.cons.injEq, and_true] at h; obtain ⟨rfl, rfl, rfl, rfl⟩ := h; rfl)
theorem tile_Valid_calls (k : Nat) (p0 : List Tile) (A_p0 : Option Addr) (c_p0 : Nat) (r : Bool) (w : World) (hR0 : RO NoS w (rowR enc_Tile A_p0 c_p0 p0)) (hf : tile_Valid k p0 = some r) :
    CallsR Try.prog 66 #[(.slice A_p0 p0.length c_p0)] w (fun v w' => v = (.bool r) ∧ Keeps NoS w w') := by
  have hS : St NoS w w [rowR enc_Tile A_p0 c_p0 p0] [] := St.init (ro_cons hR0 (ro_nil _ _))
  refine enter 35 Try.func66 rfl Try.ntmps66 rfl ?_
  unfold tile_Valid at hf
  refine WC.seq ?_
  refine WC.region ?_
  refine seg 1 [] [0] [(0, (.slice A_p0 p0.length c_p0))] [] (fun fb => by kernel_rfl) rfl trivial ?_
  refine WL.done rfl ?_
  refine WX.next ?_
  refine WC.seq ?_
  refine WC.seq ?_
  refine WC.region ?_
  refine seg 3 [] [0, 8] [(0, (.slice A_p0 p0.length c_p0)), (8, (.bool (decide ((p0.length : Int) > 1000))))] [] (fun fb => by kernel_rfl) rfl trivial ?_
  refine WL.done rfl ?_
  refine WX.next ?_
  rcases br_some hf with ⟨h2734, hf⟩ | ⟨h2734, hf⟩
  · refine WC.condT2 (fun fb => by kernel_rfl) h2734 ?_
    refine WC.seq ?_
    refine WC.region ?_
    refine seg 1 [] [2] [(2, (.bool false))] [] (fun fb => by kernel_rfl) rfl trivial ?_
    refine WL.done rfl ?_
    refine WX.next ?_
    refine WC.ret ?_
    injection hf with hf
    subst hf
    exact WX.thenR (WX.ret_ [] (.bool false) [] (fun fb => by kernel_rfl) trivial ⟨_, rfl, rfl, hS.keep⟩)
  refine WC.condF2 (fun fb => by kernel_rfl) h2734 ?_
  refine WC.skip ?_
  refine WX.next ?_
  refine WC.seq ?_
  refine WC.region ?_
  refine WL.new hS 9 [] (fun g => (.map (some g))) (mapObj (aggI ints_Tile) vB ([] : List (Tile × Bool))) [] (fun fb g => by kernel_rfl) trivial (fun g2735 w2736 hS2737 => ?_)
  refine ⟨trivial, ?_⟩
  refine seg 2 [] [0, 3] [(0, (.slice A_p0 p0.length c_p0)), (3, (.map (some g2735)))] [] (fun fb => by kernel_rfl) rfl trivial ?_
  refine WL.done rfl ?_
  refine WX.next ?_
  refine WC.seq ?_
  refine WC.seq ?_
  refine WC.region ?_
  refine seg 3 [] [3, 10, 11, 12] [(3, (.map (some g2735))), (10, (.slice A_p0 p0.length c_p0)), (11, (.int .i64 (p0.length : Int))), (12, (.int .i64 0))] [] (fun fb => by kernel_rfl) rfl trivial ?_
  refine WL.done rfl ?_
  refine WX.next ?_
  obtain ⟨x2871, hx2872, hf⟩ := bind_some hf
  refine WC.cutN (T := Unit) (fun t => []) (fun t w1 => St NoS w w1 [rowR enc_Tile A_p0 c_p0 p0] [] ∧ x2871 = .inr t) (fun Kx2871 => ?_) ?_
  ·
    refine WC.block ?_
    refine WC.loop (T := (List (Tile × Bool)) × Int) (fun t => [(3, (.map (some g2735))), (10, (.slice A_p0 p0.length c_p0)), (11, (.int .i64 (p0.length : Int))), (12, (.int .i64 t.2))]) (fun n t w1 => St NoS w w1 [rowR enc_Tile A_p0 c_p0 p0] [blk g2735 (mapObj (aggI ints_Tile) vB t.1)] ∧ tile_Valid.l0 n t.1 t.2 p0 = some x2871) k (([] : List (Tile × Bool)), 0) [3, 10, 11, 12] rfl ⟨(hS2737.subR [0]).sub [0] (by decide), hx2872⟩ ?_
    rintro k2873 ⟨l2869, x2870⟩ w2874 ⟨hS2875, hl2876⟩
    cases k2873 with
    | zero => rw [tile_Valid.l0] at hl2876; cases hl2876
    | succ k2873 =>
      rw [tile_Valid.l0] at hl2876
      refine WC.seq ?_
      refine WC.region ?_
      refine seg 1 [] [3, 10, 11, 12, 13] [(3, (.map (some g2735))), (10, (.slice A_p0 p0.length c_p0)), (11, (.int .i64 (p0.length : Int))), (12, (.int .i64 x2870)), (13, (.bool (decide (x2870 < (p0.length : Int)))))] [] (fun fb => by kernel_rfl) rfl trivial ?_
      refine WL.done rfl ?_
      refine WX.next ?_
      refine WC.seq ?_
      rcases br_some hl2876 with ⟨h2877, hl2876⟩ | ⟨h2877, hl2876⟩
      · refine WC.condT2 (fun fb => by kernel_rfl) h2877 ?_
        refine WC.skip ?_
        refine WX.next ?_
        refine WC.seq ?_
        refine WC.block ?_
        refine WC.seq ?_
        refine WC.region ?_
        obtain ⟨h2878, hl2876⟩ := as_some hl2876
        refine seg 2 [.v (.int .i64 ((rdD p0 x2870 z_Tile).N)), .v (.int .i64 ((rdD p0 x2870 z_Tile).E)), .v (.int .i64 ((rdD p0 x2870 z_Tile).S)), .v (.int .i64 ((rdD p0 x2870 z_Tile).W))] [3, 10, 11, 12, 15] [(3, (.map (some g2735))), (10, (.slice A_p0 p0.length c_p0)), (11, (.int .i64 (p0.length : Int))), (12, (.int .i64 x2870)), (15, (.agg #[(.int .i64 ((rdD p0 x2870 z_Tile).N)), (.int .i64 ((rdD p0 x2870 z_Tile).E)), (.int .i64 ((rdD p0 x2870 z_Tile).S)), (.int .i64 ((rdD p0 x2870 z_Tile).W))]))] [.idx A_p0 x2870 p0.length, .cell ((adr A_p0).add ((x2870).toNat * 4)) (.int .i64 ((rdD p0 x2870 z_Tile).N)), .cell (((adr A_p0).add ((x2870).toNat * 4)).add 1) (.int .i64 ((rdD p0 x2870 z_Tile).E)), .cell (((adr A_p0).add ((x2870).toNat * 4)).add 2) (.int .i64 ((rdD p0 x2870 z_Tile).S)), .cell (((adr A_p0).add ((x2870).toNat * 4)).add 3) (.int .i64 ((rdD p0 x2870 z_Tile).W))] (fun fb => by kernel_rfl) rfl ⟨rowR.adr (hS2875.rd 0).1 h2878.1 h2878.2, rowR.cell (hS2875.rd 0).1 z_Tile h2878.1 h2878.2 0 rfl, rowR.cell (hS2875.rd 0).1 z_Tile h2878.1 h2878.2 1 rfl, rowR.cell (hS2875.rd 0).1 z_Tile h2878.1 h2878.2 2 rfl, rowR.cell (hS2875.rd 0).1 z_Tile h2878.1 h2878.2 3 rfl, trivial⟩ ?_
        refine WL.new hS2875 5 [] (fun g => (.pointer (some ⟨g, 0, none⟩))) (.cells #[(.int .i64 0), (.int .i64 0), (.int .i64 0), (.int .i64 0)] 65 (0, 0)) [] (fun fb g => by kernel_rfl) trivial (fun g2879 w2880 hS2881 => ?_)
        refine ⟨trivial, ?_⟩
        refine WL.store hS2881 0 rfl [(0, (.int .i64 ((rdD p0 x2870 z_Tile).N))), (1, (.int .i64 ((rdD p0 x2870 z_Tile).E))), (2, (.int .i64 ((rdD p0 x2870 z_Tile).S))), (3, (.int .i64 ((rdD p0 x2870 z_Tile).W)))] #[(.int .i64 ((rdD p0 x2870 z_Tile).N)), (.int .i64 ((rdD p0 x2870 z_Tile).E)), (.int .i64 ((rdD p0 x2870 z_Tile).S)), (.int .i64 ((rdD p0 x2870 z_Tile).W))] (fun fb => by kernel_rfl) (by kernel_rfl) rfl [1] (by decide) (by decide) (fun w2883 hS2884 => ?_)
        refine ⟨trivial, ?_⟩
        refine WL.done rfl ?_
        refine WX.next ?_
        refine WC.seq ?_
        refine WC.seq ?_
        refine WC.region ?_
        refine seg 2 [.v (.int .i64 ((rdD p0 x2870 z_Tile).N)), .v (.int .i64 ((rdD p0 x2870 z_Tile).E)), .v (.int .i64 ((rdD p0 x2870 z_Tile).S)), .v (.int .i64 ((rdD p0 x2870 z_Tile).W))] [3, 5, 10, 11, 12, 16, 17] [(3, (.map (some g2735))), (5, (.pointer (some ⟨g2879, 0, none⟩))), (10, (.slice A_p0 p0.length c_p0)), (11, (.int .i64 (p0.length : Int))), (12, (.int .i64 x2870)), (16, (.map (some g2735))), (17, (.agg #[(.int .i64 ((rdD p0 x2870 z_Tile).N)), (.int .i64 ((rdD p0 x2870 z_Tile).E)), (.int .i64 ((rdD p0 x2870 z_Tile).S)), (.int .i64 ((rdD p0 x2870 z_Tile).W))]))] [.cell ⟨g2879, 0, none⟩ (.int .i64 ((rdD p0 x2870 z_Tile).N)), .cell ⟨g2879, 1, none⟩ (.int .i64 ((rdD p0 x2870 z_Tile).E)), .cell ⟨g2879, 2, none⟩ (.int .i64 ((rdD p0 x2870 z_Tile).S)), .cell ⟨g2879, 3, none⟩ (.int .i64 ((rdD p0 x2870 z_Tile).W))] (fun fb => by kernel_rfl) rfl ⟨hS2884.cell 0 rfl 0 rfl, hS2884.cell 0 rfl 1 rfl, hS2884.cell 0 rfl 2 rfl, hS2884.cell 0 rfl 3 rfl, trivial⟩ ?_
        refine WL.lookup (hS2884.own 1).1 (rdD p0 x2870 z_Tile) (d := 18) (c := false) (t := 108) (kT := 65) (eT := 4) (z := false) (kE := (aggI ints_Tile)) (vE := vB) (l := l2869) (.bool (mget (rdD p0 x2870 z_Tile) false l2869)) (fun fb => by kernel_rfl) tile_Valid_key65 (by kernel_rfl) (fun _ => by kernel_rfl) rfl ?_
        refine ⟨trivial, ?_⟩
        refine seg 4 [] [3, 5, 10, 11, 12, 19] [(3, (.map (some g2735))), (5, (.pointer (some ⟨g2879, 0, none⟩))), (10, (.slice A_p0 p0.length c_p0)), (11, (.int .i64 (p0.length : Int))), (12, (.int .i64 x2870)), (19, (.bool (mget (rdD p0 x2870 z_Tile) false l2869)))] [] (fun fb => by kernel_rfl) rfl trivial ?_
        obtain ⟨x2896, hx2897, hl2876⟩ := bind_some hl2876
        refine WL.cutW (T := Bool) 16 (fun t => [(3, (.map (some g2735))), (5, (.pointer (some ⟨g2879, 0, none⟩))), (10, (.slice A_p0 p0.length c_p0)), (11, (.int .i64 (p0.length : Int))), (12, (.int .i64 x2870)), (31, (.bool t))]) (fun t w1 => (St NoS w w1 [rowR enc_Tile A_p0 c_p0 p0] [blk g2735 (mapObj (aggI ints_Tile) vB l2869), blk g2879 (.cells #[(.int .i64 ((rdD p0 x2870 z_Tile).N)), (.int .i64 ((rdD p0 x2870 z_Tile).E)), (.int .i64 ((rdD p0 x2870 z_Tile).S)), (.int .i64 ((rdD p0 x2870 z_Tile).W))] 65 (0, 0))] ∧ x2896 = t) ∧ CellsOK [] w1) (fun K => ?_) ?_
        ·
          rcases br_some hx2897 with ⟨h2898, hx2897⟩ | ⟨h2898, hx2897⟩
          ·
            refine WL.setB 19 h2898 rfl ?_
            refine seg 16 [] [3, 5, 10, 11, 12, 31] [(3, (.map (some g2735))), (5, (.pointer (some ⟨g2879, 0, none⟩))), (10, (.slice A_p0 p0.length c_p0)), (11, (.int .i64 (p0.length : Int))), (12, (.int .i64 x2870)), (31, (.bool true))] [] (fun fb => by kernel_rfl) rfl trivial ?_
            injection hx2897 with hx2897
            exact WL.to K true [3, 5, 10, 11, 12, 31] rfl ⟨⟨(hS2884.subR [0]).sub [1, 0] (by decide), hx2897.symm⟩, trivial⟩
          refine WL.setB 19 h2898 rfl ?_
          refine seg 12 [.v (.int .i64 ((rdD p0 x2870 z_Tile).N)), .v (.int .i64 ((rdD p0 x2870 z_Tile).E)), .v (.int .i64 ((rdD p0 x2870 z_Tile).S)), .v (.int .i64 ((rdD p0 x2870 z_Tile).W))] [3, 5, 10, 11, 12, 19, 21, 23, 25, 27] [(3, (.map (some g2735))), (5, (.pointer (some ⟨g2879, 0, none⟩))), (10, (.slice A_p0 p0.length c_p0)), (11, (.int .i64 (p0.length : Int))), (12, (.int .i64 x2870)), (19, (.bool false)), (21, (.int .i64 ((rdD p0 x2870 z_Tile).N))), (23, (.int .i64 ((rdD p0 x2870 z_Tile).E))), (25, (.int .i64 ((rdD p0 x2870 z_Tile).S))), (27, (.int .i64 ((rdD p0 x2870 z_Tile).W)))] [.cell ⟨g2879, 0, none⟩ (.int .i64 ((rdD p0 x2870 z_Tile).N)), .cell ⟨g2879, 1, none⟩ (.int .i64 ((rdD p0 x2870 z_Tile).E)), .cell ⟨g2879, 2, none⟩ (.int .i64 ((rdD p0 x2870 z_Tile).S)), .cell ⟨g2879, 3, none⟩ (.int .i64 ((rdD p0 x2870 z_Tile).W))] (fun fb => by kernel_rfl) rfl ⟨hS2884.cell 0 rfl 0 rfl, hS2884.cell 0 rfl 1 rfl, hS2884.cell 0 rfl 2 rfl, hS2884.cell 0 rfl 3 rfl, trivial⟩ ?_
          refine WL.new hS2884 28 [] (fun g => (.slice (some ⟨g, 0, none⟩) 4 4)) (.cells #[(.int .i64 ((rdD p0 x2870 z_Tile).N)), (.int .i64 ((rdD p0 x2870 z_Tile).E)), (.int .i64 ((rdD p0 x2870 z_Tile).S)), (.int .i64 ((rdD p0 x2870 z_Tile).W))] 3 (0, 0)) [] (fun fb g => by kernel_rfl) trivial (fun g2899 w2900 hS2901 => ?_)
          refine ⟨trivial, ?_⟩
          have hS2903 : St NoS w w2900 [rowR enc_Tile A_p0 c_p0 p0] [rowO 3 encInt (some ⟨g2899, 0, none⟩) 4 [(rdD p0 x2870 z_Tile).N, (rdD p0 x2870 z_Tile).E, (rdD p0 x2870 z_Tile).S, (rdD p0 x2870 z_Tile).W], blk g2879 (.cells #[(.int .i64 ((rdD p0 x2870 z_Tile).N)), (.int .i64 ((rdD p0 x2870 z_Tile).E)), (.int .i64 ((rdD p0 x2870 z_Tile).S)), (.int .i64 ((rdD p0 x2870 z_Tile).W))] 65 (0, 0)), blk g2735 (mapObj (aggI ints_Tile) vB l2869)] := hS2901.map1 0 _ (fun h => rowO.ofBlk h rfl (Nat.le_of_ble_eq_true (by kernel_rfl))) (fun _ h => by obtain ⟨_, h1, h2⟩ := h; injection h1 with h1; subst h1; exact h2) [1, 2] (by decide) (by decide)
          obtain ⟨t2904, ht2905, hx2897⟩ := bind_some hx2897
          refine WL.call (some 29) 72 #[(.slice (some ⟨g2899, 0, none⟩) [(rdD p0 x2870 z_Tile).N, (rdD p0 x2870 z_Tile).E, (rdD p0 x2870 z_Tile).S, (rdD p0 x2870 z_Tile).W].length 4)] (fun fb => by kernel_rfl) (tile_colour_calls _ [(rdD p0 x2870 z_Tile).N, (rdD p0 x2870 z_Tile).E, (rdD p0 x2870 z_Tile).S, (rdD p0 x2870 z_Tile).W] (some ⟨g2899, 0, none⟩) 4 t2904 _ (hS2903.ow 0).ofO ht2905) (fun v w2906 hR2907 => ?_)
          obtain ⟨rfl, hk_⟩ := hR2907
          have hS2908 := hS2903.keepN hk_
          refine ⟨trivial, ?_⟩
          refine seg 16 [] [3, 5, 10, 11, 12, 31] [(3, (.map (some g2735))), (5, (.pointer (some ⟨g2879, 0, none⟩))), (10, (.slice A_p0 p0.length c_p0)), (11, (.int .i64 (p0.length : Int))), (12, (.int .i64 x2870)), (31, (.bool (!t2904)))] [] (fun fb => by kernel_rfl) rfl trivial ?_
          injection hx2897 with hx2897
          exact WL.to K (!t2904) [3, 5, 10, 11, 12, 31] rfl ⟨⟨(hS2908.subR [0]).sub [2, 1] (by decide), hx2897.symm⟩, trivial⟩
        rintro y2909 w2911 ⟨⟨hS2912, hq2910⟩, hF2913⟩
        subst hq2910
        refine WL.done rfl ?_
        refine WX.next ?_
        rcases br_some hl2876 with ⟨h2914, hl2876⟩ | ⟨h2914, hl2876⟩
        · refine WC.condT2 (fun fb => by kernel_rfl) h2914 ?_
          refine WC.seq ?_
          refine WC.region ?_
          refine seg 1 [] [2] [(2, (.bool false))] [] (fun fb => by kernel_rfl) rfl trivial ?_
          refine WL.done rfl ?_
          refine WX.next ?_
          refine WC.ret ?_
          injection hl2876 with hl2876
          subst hl2876
          injection hf with hf
          subst hf
          exact WX.thenR (WX.blockR (WX.thenR (WX.thenR (WX.blockR (WX.thenR (WX.ret_ [] (.bool false) [] (fun fb => by kernel_rfl) trivial ⟨_, rfl, rfl, hS2912.keep⟩))))))
        refine WC.condF2 (fun fb => by kernel_rfl) h2914 ?_
        refine WC.skip ?_
        refine WX.next ?_
        refine WC.region ?_
        refine seg 2 [.v (.int .i64 ((rdD p0 x2870 z_Tile).N)), .v (.int .i64 ((rdD p0 x2870 z_Tile).E)), .v (.int .i64 ((rdD p0 x2870 z_Tile).S)), .v (.int .i64 ((rdD p0 x2870 z_Tile).W))] [3, 10, 11, 12, 32, 33] [(3, (.map (some g2735))), (10, (.slice A_p0 p0.length c_p0)), (11, (.int .i64 (p0.length : Int))), (12, (.int .i64 x2870)), (32, (.map (some g2735))), (33, (.agg #[(.int .i64 ((rdD p0 x2870 z_Tile).N)), (.int .i64 ((rdD p0 x2870 z_Tile).E)), (.int .i64 ((rdD p0 x2870 z_Tile).S)), (.int .i64 ((rdD p0 x2870 z_Tile).W))]))] [.cell ⟨g2879, 0, none⟩ (.int .i64 ((rdD p0 x2870 z_Tile).N)), .cell ⟨g2879, 1, none⟩ (.int .i64 ((rdD p0 x2870 z_Tile).E)), .cell ⟨g2879, 2, none⟩ (.int .i64 ((rdD p0 x2870 z_Tile).S)), .cell ⟨g2879, 3, none⟩ (.int .i64 ((rdD p0 x2870 z_Tile).W))] (fun fb => by kernel_rfl) rfl ⟨hS2912.cell 1 rfl 0 rfl, hS2912.cell 1 rfl 1 rfl, hS2912.cell 1 rfl 2 rfl, hS2912.cell 1 rfl 3 rfl, trivial⟩ ?_
        refine WL.mapput hS2912 0 (t := 108) (kT := 65) (eT := 4) (kE := (aggI ints_Tile)) (vE := vB) (l := l2869) rfl (rdD p0 x2870 z_Tile) true (fun fb => by kernel_rfl) tile_Valid_key65 (by kernel_rfl) [1] (by decide) (by decide) (fun w2915 hS2916 => ?_)
        refine ⟨trivial, ?_⟩
        refine WL.done rfl ?_
        refine WX.blockN (WX.next ?_)
        refine WC.region ?_
        refine seg 2 [] [3, 10, 11, 12] [(3, (.map (some g2735))), (10, (.slice A_p0 p0.length c_p0)), (11, (.int .i64 (p0.length : Int))), (12, (.int .i64 (w64 (x2870 + 1))))] [] (fun fb => by kernel_rfl) rfl trivial ?_
        refine WL.done rfl ?_
        exact WX.again k2873 (Nat.lt_succ_self _) (mput (rdD p0 x2870 z_Tile) true l2869, w64 (x2870 + 1)) [3, 10, 11, 12] rfl ⟨(hS2916.subR [0]).sub [0] (by decide), hl2876⟩
      refine WC.condF2 (fun fb => by kernel_rfl) h2877 ?_
      refine WC.exit ?_
      injection hl2876 with hl2876
      exact WX.thenX (WX.thenX (WX.blockHere (WX.to Kx2871 () [] rfl ⟨(hS2875.subR [0]).sub [] (by decide), hl2876.symm⟩)))
  rintro y2920 w2917 ⟨hS2918, hq2919⟩
  subst hq2919
  have hf := sum_inr hf
  refine WX.next ?_
  refine WC.seq ?_
  refine WC.region ?_
  refine seg 1 [] [2] [(2, (.bool true))] [] (fun fb => by kernel_rfl) rfl trivial ?_
  refine WL.done rfl ?_
  refine WX.next ?_
  refine WC.ret ?_
  injection hf with hf
  subst hf
  exact WX.ret_ [] (.bool true) [] (fun fb => by kernel_rfl) trivial ⟨_, rfl, rfl, hS2918.keep⟩
theorem tile_Form_calls (p0 : Pattern) (A_p0_Cells : Option Addr) (c_p0_Cells : Nat) (r : Bool) (w : World) (hR0 : RO NoS w (rowR encInt A_p0_Cells c_p0_Cells p0.Cells)) (hf : tile_Form p0 = some r) :
    CallsR Try.prog 52 #[(.agg #[(.int .i64 p0.Width), (.int .i64 p0.Height), (.slice A_p0_Cells p0.Cells.length c_p0_Cells)])] w (fun v w' => v = (.bool r) ∧ Keeps NoS w w') := by
  have hS : St NoS w w [rowR encInt A_p0_Cells c_p0_Cells p0.Cells] [] := St.init (ro_cons hR0 (ro_nil _ _))
  refine enter 40 Try.func52 rfl Try.ntmps52 rfl ?_
  unfold tile_Form at hf
  refine WC.seq ?_
  refine WC.region ?_
  refine WL.new hS 1 [] (fun g => (.pointer (some ⟨g, 0, none⟩))) (.cells #[(.int .i64 p0.Width), (.int .i64 p0.Height), (.slice A_p0_Cells p0.Cells.length c_p0_Cells)] 31 (0, 0)) [] (fun fb g => by kernel_rfl) trivial (fun g2927 w2928 hS2929 => ?_)
  refine ⟨trivial, ?_⟩
  refine seg 2 [] [1] [(1, (.pointer (some ⟨g2927, 0, none⟩)))] [] (fun fb => by kernel_rfl) rfl trivial ?_
  refine WL.done rfl ?_
  refine WX.next ?_
  refine WC.seq ?_
  refine WC.region ?_
  refine seg 4 [.v (.int .i64 p0.Width)] [1, 6] [(1, (.pointer (some ⟨g2927, 0, none⟩))), (6, (.bool (decide (p0.Width ≥ 1))))] [.cell ⟨g2927, 0, none⟩ (.int .i64 p0.Width)] (fun fb => by kernel_rfl) rfl ⟨hS2929.cell 0 rfl 0 rfl, trivial⟩ ?_
  refine WL.cutV (T := Bool) 8 (fun t => [(10, (.bool t)), (1, (.pointer (some ⟨g2927, 0, none⟩)))]) (fun t => t = ((decide (p0.Width ≥ 1)) && (decide (p0.Height ≥ 1)))) (fun K => ?_) ?_
  ·
    rcases Bool.eq_false_or_eq_true (decide (p0.Width ≥ 1)) with h2931 | h2931
    ·
      refine WL.setB 6 h2931 rfl ?_
      refine seg 8 [.v (.int .i64 p0.Height)] [1, 10] [(1, (.pointer (some ⟨g2927, 0, none⟩))), (10, (.bool (decide (p0.Height ≥ 1))))] [.cell ⟨g2927, 1, none⟩ (.int .i64 p0.Height)] (fun fb => by kernel_rfl) rfl ⟨hS2929.cell 0 rfl 1 rfl, trivial⟩ ?_
      exact WL.toV K (decide (p0.Height ≥ 1)) [10, 1] rfl (by rw [h2931]; rfl)
    refine WL.setB 6 h2931 rfl ?_
    refine seg 8 [] [1, 10] [(1, (.pointer (some ⟨g2927, 0, none⟩))), (10, (.bool false))] [] (fun fb => by kernel_rfl) rfl trivial ?_
    exact WL.toV K false [10, 1] rfl (by rw [h2931]; rfl)
  rintro b2932 rfl
  refine seg 9 [] [1, 11] [(1, (.pointer (some ⟨g2927, 0, none⟩))), (11, (.bool ((decide (p0.Width ≥ 1)) && (decide (p0.Height ≥ 1)))))] [] (fun fb => by kernel_rfl) rfl trivial ?_
  refine WL.cutV (T := Bool) 13 (fun t => [(15, (.bool t)), (1, (.pointer (some ⟨g2927, 0, none⟩)))]) (fun t => t = (((decide (p0.Width ≥ 1)) && (decide (p0.Height ≥ 1))) && (decide (p0.Width ≤ 40000)))) (fun K => ?_) ?_
  ·
    rcases Bool.eq_false_or_eq_true ((decide (p0.Width ≥ 1)) && (decide (p0.Height ≥ 1))) with h2933 | h2933
    ·
      refine WL.setB 11 h2933 rfl ?_
      refine seg 13 [.v (.int .i64 p0.Width)] [1, 15] [(1, (.pointer (some ⟨g2927, 0, none⟩))), (15, (.bool (decide (p0.Width ≤ 40000))))] [.cell ⟨g2927, 0, none⟩ (.int .i64 p0.Width)] (fun fb => by kernel_rfl) rfl ⟨hS2929.cell 0 rfl 0 rfl, trivial⟩ ?_
      exact WL.toV K (decide (p0.Width ≤ 40000)) [15, 1] rfl (by rw [h2933]; rfl)
    refine WL.setB 11 h2933 rfl ?_
    refine seg 13 [] [1, 15] [(1, (.pointer (some ⟨g2927, 0, none⟩))), (15, (.bool false))] [] (fun fb => by kernel_rfl) rfl trivial ?_
    exact WL.toV K false [15, 1] rfl (by rw [h2933]; rfl)
  rintro b2934 rfl
  refine seg 14 [] [1, 16] [(1, (.pointer (some ⟨g2927, 0, none⟩))), (16, (.bool (((decide (p0.Width ≥ 1)) && (decide (p0.Height ≥ 1))) && (decide (p0.Width ≤ 40000)))))] [] (fun fb => by kernel_rfl) rfl trivial ?_
  refine WL.cutV (T := Bool) 18 (fun t => [(20, (.bool t)), (1, (.pointer (some ⟨g2927, 0, none⟩)))]) (fun t => t = ((((decide (p0.Width ≥ 1)) && (decide (p0.Height ≥ 1))) && (decide (p0.Width ≤ 40000))) && (decide (p0.Height ≤ 40000)))) (fun K => ?_) ?_
  ·
    rcases Bool.eq_false_or_eq_true (((decide (p0.Width ≥ 1)) && (decide (p0.Height ≥ 1))) && (decide (p0.Width ≤ 40000))) with h2935 | h2935
    ·
      refine WL.setB 16 h2935 rfl ?_
      refine seg 18 [.v (.int .i64 p0.Height)] [1, 20] [(1, (.pointer (some ⟨g2927, 0, none⟩))), (20, (.bool (decide (p0.Height ≤ 40000))))] [.cell ⟨g2927, 1, none⟩ (.int .i64 p0.Height)] (fun fb => by kernel_rfl) rfl ⟨hS2929.cell 0 rfl 1 rfl, trivial⟩ ?_
      exact WL.toV K (decide (p0.Height ≤ 40000)) [20, 1] rfl (by rw [h2935]; rfl)
    refine WL.setB 16 h2935 rfl ?_
    refine seg 18 [] [1, 20] [(1, (.pointer (some ⟨g2927, 0, none⟩))), (20, (.bool false))] [] (fun fb => by kernel_rfl) rfl trivial ?_
    exact WL.toV K false [20, 1] rfl (by rw [h2935]; rfl)
  rintro b2936 rfl
  refine seg 19 [] [1, 21] [(1, (.pointer (some ⟨g2927, 0, none⟩))), (21, (.bool ((((decide (p0.Width ≥ 1)) && (decide (p0.Height ≥ 1))) && (decide (p0.Width ≤ 40000))) && (decide (p0.Height ≤ 40000)))))] [] (fun fb => by kernel_rfl) rfl trivial ?_
  refine WL.cutV (T := Bool) 26 (fun t => [(28, (.bool t)), (1, (.pointer (some ⟨g2927, 0, none⟩)))]) (fun t => t = (((((decide (p0.Width ≥ 1)) && (decide (p0.Height ≥ 1))) && (decide (p0.Width ≤ 40000))) && (decide (p0.Height ≤ 40000))) && (decide (w64 (p0.Width * p0.Height) ≤ 40000)))) (fun K => ?_) ?_
  ·
    rcases Bool.eq_false_or_eq_true ((((decide (p0.Width ≥ 1)) && (decide (p0.Height ≥ 1))) && (decide (p0.Width ≤ 40000))) && (decide (p0.Height ≤ 40000))) with h2937 | h2937
    ·
      refine WL.setB 21 h2937 rfl ?_
      refine seg 26 [.v (.int .i64 p0.Width), .v (.int .i64 p0.Height)] [1, 28] [(1, (.pointer (some ⟨g2927, 0, none⟩))), (28, (.bool (decide (w64 (p0.Width * p0.Height) ≤ 40000))))] [.cell ⟨g2927, 0, none⟩ (.int .i64 p0.Width), .cell ⟨g2927, 1, none⟩ (.int .i64 p0.Height)] (fun fb => by kernel_rfl) rfl ⟨hS2929.cell 0 rfl 0 rfl, hS2929.cell 0 rfl 1 rfl, trivial⟩ ?_
      exact WL.toV K (decide (w64 (p0.Width * p0.Height) ≤ 40000)) [28, 1] rfl (by rw [h2937]; rfl)
    refine WL.setB 21 h2937 rfl ?_
    refine seg 26 [] [1, 28] [(1, (.pointer (some ⟨g2927, 0, none⟩))), (28, (.bool false))] [] (fun fb => by kernel_rfl) rfl trivial ?_
    exact WL.toV K false [28, 1] rfl (by rw [h2937]; rfl)
  rintro b2938 rfl
  refine seg 27 [] [1, 29] [(1, (.pointer (some ⟨g2927, 0, none⟩))), (29, (.bool (((((decide (p0.Width ≥ 1)) && (decide (p0.Height ≥ 1))) && (decide (p0.Width ≤ 40000))) && (decide (p0.Height ≤ 40000))) && (decide (w64 (p0.Width * p0.Height) ≤ 40000)))))] [] (fun fb => by kernel_rfl) rfl trivial ?_
  refine WL.cutV (T := Bool) 37 (fun t => [(39, (.bool t))]) (fun t => t = ((((((decide (p0.Width ≥ 1)) && (decide (p0.Height ≥ 1))) && (decide (p0.Width ≤ 40000))) && (decide (p0.Height ≤ 40000))) && (decide (w64 (p0.Width * p0.Height) ≤ 40000))) && ((p0.Cells.length : Int) == (w64 (p0.Width * p0.Height))))) (fun K => ?_) ?_
  ·
    rcases Bool.eq_false_or_eq_true (((((decide (p0.Width ≥ 1)) && (decide (p0.Height ≥ 1))) && (decide (p0.Width ≤ 40000))) && (decide (p0.Height ≤ 40000))) && (decide (w64 (p0.Width * p0.Height) ≤ 40000))) with h2939 | h2939
    ·
      refine WL.setB 29 h2939 rfl ?_
      refine seg 37 [.v (.slice A_p0_Cells p0.Cells.length c_p0_Cells), .v (.int .i64 p0.Width), .v (.int .i64 p0.Height)] [39] [(39, (.bool ((p0.Cells.length : Int) == (w64 (p0.Width * p0.Height)))))] [.cell ⟨g2927, 2, none⟩ (.slice A_p0_Cells p0.Cells.length c_p0_Cells), .cell ⟨g2927, 0, none⟩ (.int .i64 p0.Width), .cell ⟨g2927, 1, none⟩ (.int .i64 p0.Height)] (fun fb => by kernel_rfl) rfl ⟨hS2929.cell 0 rfl 2 rfl, hS2929.cell 0 rfl 0 rfl, hS2929.cell 0 rfl 1 rfl, trivial⟩ ?_
      exact WL.toV K ((p0.Cells.length : Int) == (w64 (p0.Width * p0.Height))) [39] rfl (by rw [h2939]; rfl)
    refine WL.setB 29 h2939 rfl ?_
    refine seg 37 [] [39] [(39, (.bool false))] [] (fun fb => by kernel_rfl) rfl trivial ?_
    exact WL.toV K false [39] rfl (by rw [h2939]; rfl)
  rintro b2940 rfl
  refine seg 38 [] [2] [(2, (.bool ((((((decide (p0.Width ≥ 1)) && (decide (p0.Height ≥ 1))) && (decide (p0.Width ≤ 40000))) && (decide (p0.Height ≤ 40000))) && (decide (w64 (p0.Width * p0.Height) ≤ 40000))) && ((p0.Cells.length : Int) == (w64 (p0.Width * p0.Height))))))] [] (fun fb => by kernel_rfl) rfl trivial ?_
  refine WL.done rfl ?_
  refine WX.next ?_
  refine WC.ret ?_
  injection hf with hf
  subst hf
  exact WX.ret_ [] (.bool ((((((decide (p0.Width ≥ 1)) && (decide (p0.Height ≥ 1))) && (decide (p0.Width ≤ 40000))) && (decide (p0.Height ≤ 40000))) && (decide (w64 (p0.Width * p0.Height) ≤ 40000))) && ((p0.Cells.length : Int) == (w64 (p0.Width * p0.Height))))) [] (fun fb => by kernel_rfl) trivial ⟨_, rfl, rfl, hS2929.keep⟩
theorem tile_of_1_calls (p0 : Int) (f0 : List Tile) (g_f0 : Nat) (A_f0 : Option Addr) (c_f0 : Nat) (r : Bool) (w : World) (hR0 : RO NoS w (blk g_f0 (.cells #[(.slice A_f0 f0.length c_f0)] 50 (0, 0)))) (hR1 : RO NoS w (rowR enc_Tile A_f0 c_f0 f0)) (hf : tile_of_1 p0 f0 = some r) :
    CallsR Try.prog 67 #[(.int .i64 p0), (.pointer (some ⟨g_f0, 0, none⟩))] w (fun v w' => v = (.bool r) ∧ Keeps NoS w w') := by
  have hS : St NoS w w [blk g_f0 (.cells #[(.slice A_f0 f0.length c_f0)] 50 (0, 0)), rowR enc_Tile A_f0 c_f0 f0] [] := St.init (ro_cons hR0 (ro_cons hR1 (ro_nil _ _)))
  refine enter 12 Try.func67 rfl Try.ntmps67 rfl ?_
  unfold tile_of_1 at hf
  refine WC.seq ?_
  refine WC.region ?_
  refine seg 1 [] [0, 1] [(0, (.int .i64 p0)), (1, (.pointer (some ⟨g_f0, 0, none⟩)))] [] (fun fb => by kernel_rfl) rfl trivial ?_
  refine WL.done rfl ?_
  refine WX.next ?_
  refine WC.seq ?_
  refine WC.region ?_
  refine seg 3 [] [0, 1, 6] [(0, (.int .i64 p0)), (1, (.pointer (some ⟨g_f0, 0, none⟩))), (6, (.bool (decide (p0 < 0))))] [] (fun fb => by kernel_rfl) rfl trivial ?_
  refine WL.cutV (T := Bool) 8 (fun t => [(11, (.bool t))]) (fun t => t = ((decide (p0 < 0)) || (decide (p0 ≥ (f0.length : Int))))) (fun K => ?_) ?_
  ·
    rcases Bool.eq_false_or_eq_true (decide (p0 < 0)) with h2962 | h2962
    ·
      refine WL.setB 6 h2962 rfl ?_
      refine seg 8 [] [11] [(11, (.bool true))] [] (fun fb => by kernel_rfl) rfl trivial ?_
      exact WL.toV K true [11] rfl (by rw [h2962]; rfl)
    refine WL.setB 6 h2962 rfl ?_
    refine seg 8 [.v (.slice A_f0 f0.length c_f0)] [11] [(11, (.bool (decide (p0 ≥ (f0.length : Int)))))] [.cell ⟨g_f0, 0, none⟩ (.slice A_f0 f0.length c_f0)] (fun fb => by kernel_rfl) rfl ⟨blk_cell (hS.rd 0).1 0 rfl, trivial⟩ ?_
    exact WL.toV K (decide (p0 ≥ (f0.length : Int))) [11] rfl (by rw [h2962]; rfl)
  rintro b2963 rfl
  refine seg 9 [] [3] [(3, (.bool ((decide (p0 < 0)) || (decide (p0 ≥ (f0.length : Int))))))] [] (fun fb => by kernel_rfl) rfl trivial ?_
  refine WL.done rfl ?_
  refine WX.next ?_
  refine WC.ret ?_
  injection hf with hf
  subst hf
  exact WX.ret_ [] (.bool ((decide (p0 < 0)) || (decide (p0 ≥ (f0.length : Int))))) [] (fun fb => by kernel_rfl) trivial ⟨_, rfl, rfl, hS.keep⟩
theorem slices_IndexFunc_int_int_with_tile_of_1_calls (k : Nat) (p0 : List Int) (p1_0 : List Tile) (A_p0 : Option Addr) (c_p0 : Nat) (g_p1_0 : Nat) (A_p1_0 : Option Addr) (c_p1_0 : Nat) (r : Int) (w : World) (hR0 : RO NoS w (rowR encInt A_p0 c_p0 p0)) (hR1 : RO NoS w (blk g_p1_0 (.cells #[(.slice A_p1_0 p1_0.length c_p1_0)] 50 (0, 0)))) (hR2 : RO NoS w (rowR enc_Tile A_p1_0 c_p1_0 p1_0)) (hf : slices_IndexFunc_int_int_with_tile_of_1 k p0 p1_0 = some r) :
    CallsR Try.prog 65 #[(.slice A_p0 p0.length c_p0), (.func (.func 67) #[] #[(.pointer (some ⟨g_p1_0, 0, none⟩))])] w (fun v w' => v = (.int .i64 r) ∧ Keeps NoS w w') := by
  have hS : St NoS w w [rowR encInt A_p0 c_p0 p0, blk g_p1_0 (.cells #[(.slice A_p1_0 p1_0.length c_p1_0)] 50 (0, 0)), rowR enc_Tile A_p1_0 c_p1_0 p1_0] [] := St.init (ro_cons hR0 (ro_cons hR1 (ro_cons hR2 (ro_nil _ _))))
  refine enter 19 Try.func65 rfl Try.ntmps65 rfl ?_
  unfold slices_IndexFunc_int_int_with_tile_of_1 at hf
  refine WC.seq ?_
  refine WC.region ?_
  refine seg 1 [] [0, 1] [(0, (.slice A_p0 p0.length c_p0)), (1, (.func (.func 67) #[] #[(.pointer (some ⟨g_p1_0, 0, none⟩))]))] [] (fun fb => by kernel_rfl) rfl trivial ?_
  refine WL.done rfl ?_
  refine WX.next ?_
  refine WC.seq ?_
  refine WC.seq ?_
  refine WC.region ?_
  refine seg 3 [] [0, 1, 7, 8] [(0, (.slice A_p0 p0.length c_p0)), (1, (.func (.func 67) #[] #[(.pointer (some ⟨g_p1_0, 0, none⟩))])), (7, (.int .i64 (p0.length : Int))), (8, (.int .i64 0))] [] (fun fb => by kernel_rfl) rfl trivial ?_
  refine WL.done rfl ?_
  refine WX.next ?_
  obtain ⟨x2980, hx2981, hf⟩ := bind_some hf
  refine WC.cutN (T := Unit) (fun t => []) (fun t w1 => St NoS w w1 [rowR encInt A_p0 c_p0 p0, blk g_p1_0 (.cells #[(.slice A_p1_0 p1_0.length c_p1_0)] 50 (0, 0)), rowR enc_Tile A_p1_0 c_p1_0 p1_0] [] ∧ x2980 = .inr t) (fun Kx2980 => ?_) ?_
  ·
    refine WC.block ?_
    refine WC.loop (T := Int) (fun t => [(0, (.slice A_p0 p0.length c_p0)), (1, (.func (.func 67) #[] #[(.pointer (some ⟨g_p1_0, 0, none⟩))])), (7, (.int .i64 (p0.length : Int))), (8, (.int .i64 t))]) (fun n t w1 => St NoS w w1 [rowR encInt A_p0 c_p0 p0, blk g_p1_0 (.cells #[(.slice A_p1_0 p1_0.length c_p1_0)] 50 (0, 0)), rowR enc_Tile A_p1_0 c_p1_0 p1_0] [] ∧ slices_IndexFunc_int_int_with_tile_of_1.l0 n t p0 p1_0 = some x2980) k 0 [0, 1, 7, 8] rfl ⟨(hS.subR [0, 1, 2]).sub [] (by decide), hx2981⟩ ?_
    rintro k2982 x2979 w2983 ⟨hS2984, hl2985⟩
    cases k2982 with
    | zero => rw [slices_IndexFunc_int_int_with_tile_of_1.l0] at hl2985; cases hl2985
    | succ k2982 =>
      rw [slices_IndexFunc_int_int_with_tile_of_1.l0] at hl2985
      refine WC.seq ?_
      refine WC.region ?_
      refine seg 1 [] [0, 1, 7, 8, 9] [(0, (.slice A_p0 p0.length c_p0)), (1, (.func (.func 67) #[] #[(.pointer (some ⟨g_p1_0, 0, none⟩))])), (7, (.int .i64 (p0.length : Int))), (8, (.int .i64 x2979)), (9, (.bool (decide (x2979 < (p0.length : Int)))))] [] (fun fb => by kernel_rfl) rfl trivial ?_
      refine WL.done rfl ?_
      refine WX.next ?_
      refine WC.seq ?_
      rcases br_some hl2985 with ⟨h2986, hl2985⟩ | ⟨h2986, hl2985⟩
      · refine WC.condT2 (fun fb => by kernel_rfl) h2986 ?_
        refine WC.skip ?_
        refine WX.next ?_
        refine WC.seq ?_
        refine WC.block ?_
        refine WC.seq ?_
        refine WC.region ?_
        refine seg 2 [] [0, 1, 5, 7, 8] [(0, (.slice A_p0 p0.length c_p0)), (1, (.func (.func 67) #[] #[(.pointer (some ⟨g_p1_0, 0, none⟩))])), (5, (.int .i64 x2979)), (7, (.int .i64 (p0.length : Int))), (8, (.int .i64 x2979))] [] (fun fb => by kernel_rfl) rfl trivial ?_
        refine WL.done rfl ?_
        refine WX.next ?_
        refine WC.seq ?_
        refine WC.region ?_
        refine seg 3 [] [0, 1, 5, 7, 8, 11, 12, 13] [(0, (.slice A_p0 p0.length c_p0)), (1, (.func (.func 67) #[] #[(.pointer (some ⟨g_p1_0, 0, none⟩))])), (5, (.int .i64 x2979)), (7, (.int .i64 (p0.length : Int))), (8, (.int .i64 x2979)), (11, (.func (.func 67) #[] #[(.pointer (some ⟨g_p1_0, 0, none⟩))])), (12, (.slice A_p0 p0.length c_p0)), (13, (.int .i64 x2979))] [] (fun fb => by kernel_rfl) rfl trivial ?_
        obtain ⟨h2987, hl2985⟩ := as_some hl2985
        refine seg 5 [.v (.int .i64 (rdD p0 x2979 0))] [0, 1, 5, 7, 8, 11, 15] [(0, (.slice A_p0 p0.length c_p0)), (1, (.func (.func 67) #[] #[(.pointer (some ⟨g_p1_0, 0, none⟩))])), (5, (.int .i64 x2979)), (7, (.int .i64 (p0.length : Int))), (8, (.int .i64 x2979)), (11, (.func (.func 67) #[] #[(.pointer (some ⟨g_p1_0, 0, none⟩))])), (15, (.int .i64 (rdD p0 x2979 0)))] [.idx A_p0 x2979 p0.length, .cell ((adr A_p0).add ((x2979).toNat * 1)) (.int .i64 (rdD p0 x2979 0))] (fun fb => by kernel_rfl) rfl ⟨rowR.adr (hS2984.rd 0).1 h2987.1 h2987.2, rowR.cell (hS2984.rd 0).1 0 h2987.1 h2987.2 0 rfl, trivial⟩ ?_
        obtain ⟨t2988, ht2989, hl2985⟩ := bind_some hl2985
        refine WL.call (some 16) 67 #[(.int .i64 (rdD p0 x2979 0)), (.pointer (some ⟨g_p1_0, 0, none⟩))] (fun fb => by kernel_rfl) (tile_of_1_calls (rdD p0 x2979 0) p1_0 g_p1_0 A_p1_0 c_p1_0 t2988 _ (hS2984.rd 1) (hS2984.rd 2) ht2989) (fun v w2990 hR2991 => ?_)
        obtain ⟨rfl, hk_⟩ := hR2991
        have hS2992 := hS2984.keepN hk_
        refine ⟨trivial, ?_⟩
        refine WL.done rfl ?_
        refine WX.next ?_
        rcases br_some hl2985 with ⟨h2993, hl2985⟩ | ⟨h2993, hl2985⟩
        · refine WC.condT2 (fun fb => by kernel_rfl) h2993 ?_
          refine WC.seq ?_
          refine WC.region ?_
          refine seg 2 [] [4] [(4, (.int .i64 x2979))] [] (fun fb => by kernel_rfl) rfl trivial ?_
          refine WL.done rfl ?_
          refine WX.next ?_
          refine WC.ret ?_
          injection hl2985 with hl2985
          subst hl2985
          injection hf with hf
          subst hf
          exact WX.blockR (WX.thenR (WX.thenR (WX.blockR (WX.thenR (WX.ret_ [] (.int .i64 x2979) [] (fun fb => by kernel_rfl) trivial ⟨_, rfl, rfl, hS2992.keep⟩)))))
        refine WC.condF2 (fun fb => by kernel_rfl) h2993 ?_
        refine WC.skip ?_
        refine WX.blockN (WX.next ?_)
        refine WC.region ?_
        refine seg 2 [] [0, 1, 7, 8] [(0, (.slice A_p0 p0.length c_p0)), (1, (.func (.func 67) #[] #[(.pointer (some ⟨g_p1_0, 0, none⟩))])), (7, (.int .i64 (p0.length : Int))), (8, (.int .i64 (w64 (x2979 + 1))))] [] (fun fb => by kernel_rfl) rfl trivial ?_
        refine WL.done rfl ?_
        exact WX.again k2982 (Nat.lt_succ_self _) (w64 (x2979 + 1)) [0, 1, 7, 8] rfl ⟨(hS2992.subR [0, 1, 2]).sub [] (by decide), hl2985⟩
      refine WC.condF2 (fun fb => by kernel_rfl) h2986 ?_
      refine WC.exit ?_
      injection hl2985 with hl2985
      exact WX.thenX (WX.thenX (WX.blockHere (WX.to Kx2980 () [] rfl ⟨(hS2984.subR [0, 1, 2]).sub [] (by decide), hl2985.symm⟩)))
  rintro y2997 w2994 ⟨hS2995, hq2996⟩
  subst hq2996
  have hf := sum_inr hf
  refine WX.next ?_
  refine WC.seq ?_
  refine WC.region ?_
  refine seg 1 [] [4] [(4, (.int .i64 (-1)))] [] (fun fb => by kernel_rfl) rfl trivial ?_
  refine WL.done rfl ?_
  refine WX.next ?_
  refine WC.ret ?_
  injection hf with hf
  subst hf
  exact WX.ret_ [] (.int .i64 (-1)) [] (fun fb => by kernel_rfl) trivial ⟨_, rfl, rfl, hS2995.keep⟩
theorem slices_ContainsFunc_int_int_with_tile_of_1_calls (k : Nat) (p0 : List Int) (p1_0 : List Tile) (A_p0 : Option Addr) (c_p0 : Nat) (g_p1_0 : Nat) (A_p1_0 : Option Addr) (c_p1_0 : Nat) (r : Bool) (w : World) (hR0 : RO NoS w (rowR encInt A_p0 c_p0 p0)) (hR1 : RO NoS w (blk g_p1_0 (.cells #[(.slice A_p1_0 p1_0.length c_p1_0)] 50 (0, 0)))) (hR2 : RO NoS w (rowR enc_Tile A_p1_0 c_p1_0 p1_0)) (hf : slices_ContainsFunc_int_int_with_tile_of_1 k p0 p1_0 = some r) :
    CallsR Try.prog 49 #[(.slice A_p0 p0.length c_p0), (.func (.func 67) #[] #[(.pointer (some ⟨g_p1_0, 0, none⟩))])] w (fun v w' => v = (.bool r) ∧ Keeps NoS w w') := by
  have hS : St NoS w w [rowR encInt A_p0 c_p0 p0, blk g_p1_0 (.cells #[(.slice A_p1_0 p1_0.length c_p1_0)] 50 (0, 0)), rowR enc_Tile A_p1_0 c_p1_0 p1_0] [] := St.init (ro_cons hR0 (ro_cons hR1 (ro_cons hR2 (ro_nil _ _))))
  refine enter 9 Try.func49 rfl Try.ntmps49 rfl ?_
  unfold slices_ContainsFunc_int_int_with_tile_of_1 at hf
  refine WC.seq ?_
  refine WC.region ?_
  refine seg 1 [] [0, 1] [(0, (.slice A_p0 p0.length c_p0)), (1, (.func (.func 67) #[] #[(.pointer (some ⟨g_p1_0, 0, none⟩))]))] [] (fun fb => by kernel_rfl) rfl trivial ?_
  refine WL.done rfl ?_
  refine WX.next ?_
  refine WC.seq ?_
  refine WC.region ?_
  refine seg 2 [] [5, 6] [(5, (.slice A_p0 p0.length c_p0)), (6, (.func (.func 67) #[] #[(.pointer (some ⟨g_p1_0, 0, none⟩))]))] [] (fun fb => by kernel_rfl) rfl trivial ?_
  obtain ⟨t2999, ht3000, hf⟩ := bind_some hf
  refine WL.call (some 7) 65 #[(.slice A_p0 p0.length c_p0), (.func (.func 67) #[] #[(.pointer (some ⟨g_p1_0, 0, none⟩))])] (fun fb => by kernel_rfl) (slices_IndexFunc_int_int_with_tile_of_1_calls _ p0 p1_0 A_p0 c_p0 g_p1_0 A_p1_0 c_p1_0 t2999 _ (hS.rd 0) (hS.rd 1) (hS.rd 2) ht3000) (fun v w3001 hR3002 => ?_)
  obtain ⟨rfl, hk_⟩ := hR3002
  have hS3003 := hS.keepN hk_
  refine ⟨trivial, ?_⟩
  refine seg 5 [] [4] [(4, (.bool (decide (t2999 ≥ 0))))] [] (fun fb => by kernel_rfl) rfl trivial ?_
  refine WL.done rfl ?_
  refine WX.next ?_
  refine WC.ret ?_
  injection hf with hf
  subst hf
  exact WX.ret_ [] (.bool (decide (t2999 ≥ 0))) [] (fun fb => by kernel_rfl) trivial ⟨_, rfl, rfl, hS3003.keep⟩
theorem tile_of_calls (k : Nat) (p0 : List Tile) (p1 : Pattern) (A_p0 : Option Addr) (c_p0 : Nat) (A_p1_Cells : Option Addr) (c_p1_Cells : Nat) (r : Bool) (w : World) (hR0 : RO NoS w (rowR enc_Tile A_p0 c_p0 p0)) (hR1 : RO NoS w (rowR encInt A_p1_Cells c_p1_Cells p1.Cells)) (hf : tile_of k p0 p1 = some r) :
    CallsR Try.prog 56 #[(.slice A_p0 p0.length c_p0), (.agg #[(.int .i64 p1.Width), (.int .i64 p1.Height), (.slice A_p1_Cells p1.Cells.length c_p1_Cells)])] w (fun v w' => v = (.bool r) ∧ Keeps NoS w w') := by
  have hS : St NoS w w [rowR enc_Tile A_p0 c_p0 p0, rowR encInt A_p1_Cells c_p1_Cells p1.Cells] [] := St.init (ro_cons hR0 (ro_cons hR1 (ro_nil _ _)))
  refine enter 18 Try.func56 rfl Try.ntmps56 rfl ?_
  unfold tile_of at hf
  refine WC.seq ?_
  refine WC.region ?_
  refine WL.new hS 2 [] (fun g => (.pointer (some ⟨g, 0, none⟩))) (.cells #[(.slice A_p0 p0.length c_p0)] 50 (0, 0)) [] (fun fb g => by kernel_rfl) trivial (fun g2726 w2727 hS2728 => ?_)
  refine ⟨trivial, ?_⟩
  refine WL.new hS2728 3 [] (fun g => (.pointer (some ⟨g, 0, none⟩))) (.cells #[(.int .i64 p1.Width), (.int .i64 p1.Height), (.slice A_p1_Cells p1.Cells.length c_p1_Cells)] 31 (0, 0)) [] (fun fb g => by kernel_rfl) trivial (fun g2730 w2731 hS2732 => ?_)
  refine ⟨trivial, ?_⟩
  refine seg 3 [] [2, 3] [(2, (.pointer (some ⟨g2726, 0, none⟩))), (3, (.pointer (some ⟨g2730, 0, none⟩)))] [] (fun fb => by kernel_rfl) rfl trivial ?_
  refine WL.done rfl ?_
  refine WX.next ?_
  refine WC.seq ?_
  refine WC.region ?_
  refine seg 1 [.v (.slice A_p0 p0.length c_p0)] [2, 3, 5] [(2, (.pointer (some ⟨g2726, 0, none⟩))), (3, (.pointer (some ⟨g2730, 0, none⟩))), (5, (.slice A_p0 p0.length c_p0))] [.cell ⟨g2726, 0, none⟩ (.slice A_p0 p0.length c_p0)] (fun fb => by kernel_rfl) rfl ⟨hS2732.cell 1 rfl 0 rfl, trivial⟩ ?_
  obtain ⟨t2922, ht2923, hf⟩ := bind_some hf
  refine WL.call (some 6) 66 #[(.slice A_p0 p0.length c_p0)] (fun fb => by kernel_rfl) (tile_Valid_calls _ p0 A_p0 c_p0 t2922 _ (hS2732.rd 0) ht2923) (fun v w2924 hR2925 => ?_)
  obtain ⟨rfl, hk_⟩ := hR2925
  have hS2926 := hS2732.keepN hk_
  refine ⟨trivial, ?_⟩
  refine seg 3 [] [2, 3, 7] [(2, (.pointer (some ⟨g2726, 0, none⟩))), (3, (.pointer (some ⟨g2730, 0, none⟩))), (7, (.bool t2922))] [] (fun fb => by kernel_rfl) rfl trivial ?_
  obtain ⟨x2947, hx2948, hf⟩ := bind_some hf
  refine WL.cutW (T := Bool) 6 (fun t => [(2, (.pointer (some ⟨g2726, 0, none⟩))), (3, (.pointer (some ⟨g2730, 0, none⟩))), (10, (.bool t))]) (fun t w1 => (St NoS w w1 [rowR enc_Tile A_p0 c_p0 p0, rowR encInt A_p1_Cells c_p1_Cells p1.Cells] [blk g2726 (.cells #[(.slice A_p0 p0.length c_p0)] 50 (0, 0)), blk g2730 (.cells #[(.int .i64 p1.Width), (.int .i64 p1.Height), (.slice A_p1_Cells p1.Cells.length c_p1_Cells)] 31 (0, 0))] ∧ x2947 = t) ∧ CellsOK [] w1) (fun K => ?_) ?_
  ·
    rcases br_some hx2948 with ⟨h2949, hx2948⟩ | ⟨h2949, hx2948⟩
    ·
      refine WL.setB 7 h2949 rfl ?_
      refine seg 4 [.v (.int .i64 p1.Width), .v (.int .i64 p1.Height), .v (.slice A_p1_Cells p1.Cells.length c_p1_Cells)] [2, 3, 7, 8] [(2, (.pointer (some ⟨g2726, 0, none⟩))), (3, (.pointer (some ⟨g2730, 0, none⟩))), (7, (.bool true)), (8, (.agg #[(.int .i64 p1.Width), (.int .i64 p1.Height), (.slice A_p1_Cells p1.Cells.length c_p1_Cells)]))] [.cell ⟨g2730, 0, none⟩ (.int .i64 p1.Width), .cell ⟨g2730, 1, none⟩ (.int .i64 p1.Height), .cell ⟨g2730, 2, none⟩ (.slice A_p1_Cells p1.Cells.length c_p1_Cells)] (fun fb => by kernel_rfl) rfl ⟨hS2926.cell 0 rfl 0 rfl, hS2926.cell 0 rfl 1 rfl, hS2926.cell 0 rfl 2 rfl, trivial⟩ ?_
      obtain ⟨t2950, ht2951, hx2948⟩ := bind_some hx2948
      refine WL.call (some 9) 52 #[(.agg #[(.int .i64 p1.Width), (.int .i64 p1.Height), (.slice A_p1_Cells p1.Cells.length c_p1_Cells)])] (fun fb => by kernel_rfl) (tile_Form_calls p1 A_p1_Cells c_p1_Cells t2950 _ (hS2926.rd 1) ht2951) (fun v w2952 hR2953 => ?_)
      obtain ⟨rfl, hk_⟩ := hR2953
      have hS2954 := hS2926.keepN hk_
      refine ⟨trivial, ?_⟩
      refine seg 6 [] [2, 3, 10] [(2, (.pointer (some ⟨g2726, 0, none⟩))), (3, (.pointer (some ⟨g2730, 0, none⟩))), (10, (.bool t2950))] [] (fun fb => by kernel_rfl) rfl trivial ?_
      injection hx2948 with hx2948
      exact WL.to K t2950 [2, 3, 10] rfl ⟨⟨(hS2954.subR [0, 1]).sub [1, 0] (by decide), hx2948.symm⟩, trivial⟩
    refine WL.setB 7 h2949 rfl ?_
    refine seg 6 [] [2, 3, 10] [(2, (.pointer (some ⟨g2726, 0, none⟩))), (3, (.pointer (some ⟨g2730, 0, none⟩))), (10, (.bool false))] [] (fun fb => by kernel_rfl) rfl trivial ?_
    injection hx2948 with hx2948
    exact WL.to K false [2, 3, 10] rfl ⟨⟨(hS2926.subR [0, 1]).sub [1, 0] (by decide), hx2948.symm⟩, trivial⟩
  rintro y2955 w2957 ⟨⟨hS2958, hq2956⟩, hF2959⟩
  subst hq2956
  refine seg 7 [] [2, 3, 11] [(2, (.pointer (some ⟨g2726, 0, none⟩))), (3, (.pointer (some ⟨g2730, 0, none⟩))), (11, (.bool x2947))] [] (fun fb => by kernel_rfl) rfl trivial ?_
  obtain ⟨x3010, hx3011, hf⟩ := bind_some hf
  refine WL.cutW (T := Bool) 13 (fun t => [(17, (.bool t))]) (fun t w1 => (St NoS w w1 [rowR enc_Tile A_p0 c_p0 p0, rowR encInt A_p1_Cells c_p1_Cells p1.Cells] [] ∧ x3010 = t) ∧ CellsOK [] w1) (fun K => ?_) ?_
  ·
    rcases br_some hx3011 with ⟨h3012, hx3011⟩ | ⟨h3012, hx3011⟩
    ·
      refine WL.setB 11 h3012 rfl ?_
      refine seg 10 [.v (.slice A_p1_Cells p1.Cells.length c_p1_Cells)] [11, 13, 14] [(11, (.bool true)), (13, (.slice A_p1_Cells p1.Cells.length c_p1_Cells)), (14, (.func (.func 67) #[] #[(.pointer (some ⟨g2726, 0, none⟩))]))] [.cell ⟨g2730, 2, none⟩ (.slice A_p1_Cells p1.Cells.length c_p1_Cells)] (fun fb => by kernel_rfl) rfl ⟨hS2958.cell 1 rfl 2 rfl, trivial⟩ ?_
      obtain ⟨t3013, ht3014, hx3011⟩ := bind_some hx3011
      refine WL.call (some 15) 49 #[(.slice A_p1_Cells p1.Cells.length c_p1_Cells), (.func (.func 67) #[] #[(.pointer (some ⟨g2726, 0, none⟩))])] (fun fb => by kernel_rfl) (slices_ContainsFunc_int_int_with_tile_of_1_calls _ p1.Cells p0 A_p1_Cells c_p1_Cells g2726 A_p0 c_p0 t3013 _ (hS2958.rd 1) (hS2958.ow 0) (hS2958.rd 0) ht3014) (fun v w3015 hR3016 => ?_)
      obtain ⟨rfl, hk_⟩ := hR3016
      have hS3017 := hS2958.keepN hk_
      refine ⟨trivial, ?_⟩
      refine seg 13 [] [17] [(17, (.bool (!t3013)))] [] (fun fb => by kernel_rfl) rfl trivial ?_
      injection hx3011 with hx3011
      exact WL.to K (!t3013) [17] rfl ⟨⟨(hS3017.subR [0, 1]).sub [] (by decide), hx3011.symm⟩, trivial⟩
    refine WL.setB 11 h3012 rfl ?_
    refine seg 13 [] [17] [(17, (.bool false))] [] (fun fb => by kernel_rfl) rfl trivial ?_
    injection hx3011 with hx3011
    exact WL.to K false [17] rfl ⟨⟨(hS2958.subR [0, 1]).sub [] (by decide), hx3011.symm⟩, trivial⟩
  rintro y3018 w3020 ⟨⟨hS3021, hq3019⟩, hF3022⟩
  subst hq3019
  refine seg 14 [] [4] [(4, (.bool x3010))] [] (fun fb => by kernel_rfl) rfl trivial ?_
  refine WL.done rfl ?_
  refine WX.next ?_
  refine WC.ret ?_
  injection hf with hf
  subst hf
  exact WX.ret_ [] (.bool x3010) [] (fun fb => by kernel_rfl) trivial ⟨_, rfl, rfl, hS3021.keep⟩
theorem tile_joins_calls (k : Nat) (p0 : List Tile) (p1 : Pattern) (p2 : Bool) (A_p0 : Option Addr) (c_p0 : Nat) (A_p1_Cells : Option Addr) (c_p1_Cells : Nat) (r : Bool) (w : World) (hR0 : RO NoS w (rowR enc_Tile A_p0 c_p0 p0)) (hR1 : RO NoS w (rowR encInt A_p1_Cells c_p1_Cells p1.Cells)) (hf : tile_joins k p0 p1 p2 = some r) :
    CallsR Try.prog 57 #[(.slice A_p0 p0.length c_p0), (.agg #[(.int .i64 p1.Width), (.int .i64 p1.Height), (.slice A_p1_Cells p1.Cells.length c_p1_Cells)]), (.bool p2)] w (fun v w' => v = (.bool r) ∧ Keeps NoS w w') := by
  have hS : St NoS w w [rowR enc_Tile A_p0 c_p0 p0, rowR encInt A_p1_Cells c_p1_Cells p1.Cells] [] := St.init (ro_cons hR0 (ro_cons hR1 (ro_nil _ _)))
  refine enter 92 Try.func57 rfl Try.ntmps57 rfl ?_
  unfold tile_joins at hf
  refine WC.seq ?_
  refine WC.region ?_
  refine WL.new hS 4 [] (fun g => (.pointer (some ⟨g, 0, none⟩))) (.cells #[(.int .i64 p1.Width), (.int .i64 p1.Height), (.slice A_p1_Cells p1.Cells.length c_p1_Cells)] 31 (0, 0)) [] (fun fb g => by kernel_rfl) trivial (fun g3028 w3029 hS3030 => ?_)
  refine ⟨trivial, ?_⟩
  refine seg 2 [] [0, 2, 4] [(0, (.slice A_p0 p0.length c_p0)), (2, (.bool p2)), (4, (.pointer (some ⟨g3028, 0, none⟩)))] [] (fun fb => by kernel_rfl) rfl trivial ?_
  refine WL.done rfl ?_
  refine WX.next ?_
  refine WC.seq ?_
  refine WC.seq ?_
  refine WC.region ?_
  refine seg 4 [.v (.slice A_p1_Cells p1.Cells.length c_p1_Cells)] [0, 2, 4, 12, 13, 14] [(0, (.slice A_p0 p0.length c_p0)), (2, (.bool p2)), (4, (.pointer (some ⟨g3028, 0, none⟩))), (12, (.slice A_p1_Cells p1.Cells.length c_p1_Cells)), (13, (.int .i64 (p1.Cells.length : Int))), (14, (.int .i64 0))] [.cell ⟨g3028, 2, none⟩ (.slice A_p1_Cells p1.Cells.length c_p1_Cells)] (fun fb => by kernel_rfl) rfl ⟨hS3030.cell 0 rfl 2 rfl, trivial⟩ ?_
  refine WL.done rfl ?_
  refine WX.next ?_
  obtain ⟨x3200, hx3201, hf⟩ := bind_some hf
  refine WC.cutN (T := Unit) (fun t => []) (fun t w1 => St NoS w w1 [rowR enc_Tile A_p0 c_p0 p0, rowR encInt A_p1_Cells c_p1_Cells p1.Cells] [] ∧ x3200 = .inr t) (fun Kx3200 => ?_) ?_
  ·
    refine WC.block ?_
    refine WC.loop (T := Int) (fun t => [(0, (.slice A_p0 p0.length c_p0)), (2, (.bool p2)), (4, (.pointer (some ⟨g3028, 0, none⟩))), (12, (.slice A_p1_Cells p1.Cells.length c_p1_Cells)), (13, (.int .i64 (p1.Cells.length : Int))), (14, (.int .i64 t))]) (fun n t w1 => St NoS w w1 [rowR enc_Tile A_p0 c_p0 p0, rowR encInt A_p1_Cells c_p1_Cells p1.Cells] [blk g3028 (.cells #[(.int .i64 p1.Width), (.int .i64 p1.Height), (.slice A_p1_Cells p1.Cells.length c_p1_Cells)] 31 (0, 0))] ∧ tile_joins.l0 n t p0 p1 p2 = some x3200) k 0 [0, 2, 4, 12, 13, 14] rfl ⟨(hS3030.subR [0, 1]).sub [0] (by decide), hx3201⟩ ?_
    rintro k3202 x3199 w3203 ⟨hS3204, hl3205⟩
    cases k3202 with
    | zero => rw [tile_joins.l0] at hl3205; cases hl3205
    | succ k3202 =>
      rw [tile_joins.l0] at hl3205
      refine WC.seq ?_
      refine WC.region ?_
      refine seg 1 [] [0, 2, 4, 12, 13, 14, 15] [(0, (.slice A_p0 p0.length c_p0)), (2, (.bool p2)), (4, (.pointer (some ⟨g3028, 0, none⟩))), (12, (.slice A_p1_Cells p1.Cells.length c_p1_Cells)), (13, (.int .i64 (p1.Cells.length : Int))), (14, (.int .i64 x3199)), (15, (.bool (decide (x3199 < (p1.Cells.length : Int)))))] [] (fun fb => by kernel_rfl) rfl trivial ?_
      refine WL.done rfl ?_
      refine WX.next ?_
      refine WC.seq ?_
      rcases br_some hl3205 with ⟨h3206, hl3205⟩ | ⟨h3206, hl3205⟩
      · refine WC.condT2 (fun fb => by kernel_rfl) h3206 ?_
        refine WC.skip ?_
        refine WX.next ?_
        refine WC.seq ?_
        refine WC.block ?_
        refine WC.seq ?_
        refine WC.region ?_
        refine seg 1 [] [0, 2, 4, 12, 13, 14, 16] [(0, (.slice A_p0 p0.length c_p0)), (2, (.bool p2)), (4, (.pointer (some ⟨g3028, 0, none⟩))), (12, (.slice A_p1_Cells p1.Cells.length c_p1_Cells)), (13, (.int .i64 (p1.Cells.length : Int))), (14, (.int .i64 x3199)), (16, (.int .i64 x3199))] [] (fun fb => by kernel_rfl) rfl trivial ?_
        obtain ⟨h3207, hl3205⟩ := as_some hl3205
        refine seg 5 [.v (.int .i64 (rdD p1.Cells x3199 0))] [0, 2, 4, 7, 8, 12, 13, 14] [(0, (.slice A_p0 p0.length c_p0)), (2, (.bool p2)), (4, (.pointer (some ⟨g3028, 0, none⟩))), (7, (.int .i64 x3199)), (8, (.int .i64 (rdD p1.Cells x3199 0))), (12, (.slice A_p1_Cells p1.Cells.length c_p1_Cells)), (13, (.int .i64 (p1.Cells.length : Int))), (14, (.int .i64 x3199))] [.idx A_p1_Cells x3199 p1.Cells.length, .cell ((adr A_p1_Cells).add ((x3199).toNat * 1)) (.int .i64 (rdD p1.Cells x3199 0))] (fun fb => by kernel_rfl) rfl ⟨rowR.adr (hS3204.rd 1).1 h3207.1 h3207.2, rowR.cell (hS3204.rd 1).1 0 h3207.1 h3207.2 0 rfl, trivial⟩ ?_
        refine WL.done rfl ?_
        refine WX.next ?_
        refine WC.seq ?_
        obtain ⟨h3212, hl3205⟩ := as_some hl3205
        refine WC.regionD ([(2, ⟨g3028, 0, none⟩, (.int .i64 p1.Width)), (6, ⟨g3028, 0, none⟩, (.int .i64 p1.Width))], [0, 1, 2, 3, 4, 5, 6, 7, 8, 9], [[], [], [1], [0, 1, 2], [], [], [5], [4, 5, 6], [0, 1, 2, 3], [0, 1, 2, 3, 4, 5, 6, 7, 8]]) [[0, 1, 2, 3, 4, 5, 6, 7, 8, 9]] (by kernel_rfl) (by kernel_rfl) (NoPanic.seq (NoPanic.block (NoPanic.seq (NoPanic.seq (NoPanic.block (NoPanic.seq (NoPanic.body))))))) ?_
        have hS3210 := hS3204.drew
        revert hS3210
        generalize World.drew w3203 = w3209
        intro hS3210
        refine ⟨⟨hS3210.cell 0 rfl 0 rfl, hS3210.cell 0 rfl 0 rfl, trivial⟩, forallC ?_ (forallN)⟩
        refine segF 10 [.v (.int .i64 p1.Width), .v (.int .i64 p1.Width)] [0, 2, 4, 8, 9, 10, 12, 13, 14] [(0, (.slice A_p0 p0.length c_p0)), (2, (.bool p2)), (4, (.pointer (some ⟨g3028, 0, none⟩))), (8, (.int .i64 (rdD p1.Cells x3199 0))), (9, (.int .i64 (Int.tmod x3199 p1.Width))), (10, (.int .i64 (w64 (Int.tdiv x3199 p1.Width)))), (12, (.slice A_p1_Cells p1.Cells.length c_p1_Cells)), (13, (.int .i64 (p1.Cells.length : Int))), (14, (.int .i64 x3199))] [.ne p1.Width, .ne p1.Width] [0, 1] [(2, ⟨g3028, 0, none⟩, (.int .i64 p1.Width)), (6, ⟨g3028, 0, none⟩, (.int .i64 p1.Width))] (fun fb => by kernel_rfl) rfl ⟨h3212, h3212, trivial⟩ rfl ?_
        refine WL.done rfl ?_
        refine WX.next ?_
        refine WC.seq ?_
        refine WC.seq ?_
        refine WC.region ?_
        refine seg 6 [.v (.int .i64 p1.Width)] [0, 2, 4, 8, 9, 10, 12, 13, 14, 32] [(0, (.slice A_p0 p0.length c_p0)), (2, (.bool p2)), (4, (.pointer (some ⟨g3028, 0, none⟩))), (8, (.int .i64 (rdD p1.Cells x3199 0))), (9, (.int .i64 (Int.tmod x3199 p1.Width))), (10, (.int .i64 (w64 (Int.tdiv x3199 p1.Width)))), (12, (.slice A_p1_Cells p1.Cells.length c_p1_Cells)), (13, (.int .i64 (p1.Cells.length : Int))), (14, (.int .i64 x3199)), (32, (.bool (decide (w64 ((Int.tmod x3199 p1.Width) + 1) < p1.Width))))] [.cell ⟨g3028, 0, none⟩ (.int .i64 p1.Width)] (fun fb => by kernel_rfl) rfl ⟨hS3210.cell 0 rfl 0 rfl, trivial⟩ ?_
        refine WL.cutV (T := Bool) 8 (fun t => [(34, (.bool t)), (0, (.slice A_p0 p0.length c_p0)), (2, (.bool p2)), (4, (.pointer (some ⟨g3028, 0, none⟩))), (8, (.int .i64 (rdD p1.Cells x3199 0))), (9, (.int .i64 (Int.tmod x3199 p1.Width))), (10, (.int .i64 (w64 (Int.tdiv x3199 p1.Width)))), (12, (.slice A_p1_Cells p1.Cells.length c_p1_Cells)), (13, (.int .i64 (p1.Cells.length : Int))), (14, (.int .i64 x3199))]) (fun t => t = ((decide (w64 ((Int.tmod x3199 p1.Width) + 1) < p1.Width)) || p2)) (fun K => ?_) ?_
        ·
          rcases Bool.eq_false_or_eq_true (decide (w64 ((Int.tmod x3199 p1.Width) + 1) < p1.Width)) with h3213 | h3213
          ·
            refine WL.setB 32 h3213 rfl ?_
            refine seg 8 [] [0, 2, 4, 8, 9, 10, 12, 13, 14, 34] [(0, (.slice A_p0 p0.length c_p0)), (2, (.bool p2)), (4, (.pointer (some ⟨g3028, 0, none⟩))), (8, (.int .i64 (rdD p1.Cells x3199 0))), (9, (.int .i64 (Int.tmod x3199 p1.Width))), (10, (.int .i64 (w64 (Int.tdiv x3199 p1.Width)))), (12, (.slice A_p1_Cells p1.Cells.length c_p1_Cells)), (13, (.int .i64 (p1.Cells.length : Int))), (14, (.int .i64 x3199)), (34, (.bool true))] [] (fun fb => by kernel_rfl) rfl trivial ?_
            exact WL.toV K true [34, 0, 2, 4, 8, 9, 10, 12, 13, 14] rfl (by rw [h3213]; rfl)
          refine WL.setB 32 h3213 rfl ?_
          refine seg 8 [] [0, 2, 4, 8, 9, 10, 12, 13, 14, 34] [(0, (.slice A_p0 p0.length c_p0)), (2, (.bool p2)), (4, (.pointer (some ⟨g3028, 0, none⟩))), (8, (.int .i64 (rdD p1.Cells x3199 0))), (9, (.int .i64 (Int.tmod x3199 p1.Width))), (10, (.int .i64 (w64 (Int.tdiv x3199 p1.Width)))), (12, (.slice A_p1_Cells p1.Cells.length c_p1_Cells)), (13, (.int .i64 (p1.Cells.length : Int))), (14, (.int .i64 x3199)), (34, (.bool p2))] [] (fun fb => by kernel_rfl) rfl trivial ?_
          exact WL.toV K p2 [34, 0, 2, 4, 8, 9, 10, 12, 13, 14] rfl (by rw [h3213]; rfl)
        rintro b3214 rfl
        refine WL.done rfl ?_
        refine WX.next ?_
        obtain ⟨x3228, hx3229, hl3205⟩ := bind_some hl3205
        refine WC.cutN (T := Unit) (fun t => [(0, (.slice A_p0 p0.length c_p0)), (2, (.bool p2)), (4, (.pointer (some ⟨g3028, 0, none⟩))), (8, (.int .i64 (rdD p1.Cells x3199 0))), (9, (.int .i64 (Int.tmod x3199 p1.Width))), (10, (.int .i64 (w64 (Int.tdiv x3199 p1.Width)))), (12, (.slice A_p1_Cells p1.Cells.length c_p1_Cells)), (13, (.int .i64 (p1.Cells.length : Int))), (14, (.int .i64 x3199))]) (fun t w1 => St NoS w w1 [rowR enc_Tile A_p0 c_p0 p0, rowR encInt A_p1_Cells c_p1_Cells p1.Cells] [blk g3028 (.cells #[(.int .i64 p1.Width), (.int .i64 p1.Height), (.slice A_p1_Cells p1.Cells.length c_p1_Cells)] 31 (0, 0))] ∧ x3228 = .inr t) (fun Kx3228 => ?_) ?_
        ·
          rcases br_some hx3229 with ⟨h3230, hx3229⟩ | ⟨h3230, hx3229⟩
          · refine WC.condT2 (fun fb => by kernel_rfl) h3230 ?_
            refine WC.seq ?_
            obtain ⟨h3239, hx3229⟩ := as_some hx3229
            obtain ⟨h3240, hx3229⟩ := as_some hx3229
            obtain ⟨h3241, hx3229⟩ := as_some hx3229
            refine WC.regionD ([(4, (((adr A_p0).add (((rdD p1.Cells x3199 0)).toNat * 4)).add 1), (.int .i64 ((rdD p0 (rdD p1.Cells x3199 0) z_Tile).E))), (7, ⟨g3028, 2, none⟩, (.slice A_p1_Cells p1.Cells.length c_p1_Cells)), (10, ⟨g3028, 0, none⟩, (.int .i64 p1.Width)), (15, ⟨g3028, 0, none⟩, (.int .i64 p1.Width)), (19, ((adr A_p1_Cells).add ((w64 ((w64 ((w64 (Int.tdiv x3199 p1.Width)) * p1.Width)) + (Int.tmod (w64 ((Int.tmod x3199 p1.Width) + 1)) p1.Width))).toNat * 1)), (.int .i64 (rdD p1.Cells (w64 ((w64 ((w64 (Int.tdiv x3199 p1.Width)) * p1.Width)) + (Int.tmod (w64 ((Int.tmod x3199 p1.Width) + 1)) p1.Width))) 0))), (22, (((adr A_p0).add (((rdD p1.Cells (w64 ((w64 ((w64 (Int.tdiv x3199 p1.Width)) * p1.Width)) + (Int.tmod (w64 ((Int.tmod x3199 p1.Width) + 1)) p1.Width))) 0)).toNat * 4)).add 3), (.int .i64 ((rdD p0 (rdD p1.Cells (w64 ((w64 ((w64 (Int.tdiv x3199 p1.Width)) * p1.Width)) + (Int.tmod (w64 ((Int.tmod x3199 p1.Width) + 1)) p1.Width))) 0) z_Tile).W)))], [0, 1, 2, 3, 4, 5, 6, 7, 8, 9, 10, 11, 12, 13, 14, 15, 16, 17, 18, 19, 20, 21, 22, 23], [[], [], [0, 1], [0, 1, 2], [0, 1, 2, 3], [], [], [6], [], [], [9], [8, 9, 10], [], [12], [], [14], [12, 13, 14, 15], [8, 9, 10, 11, 12, 13, 14, 15, 16], [6, 7, 8, 9, 10, 11, 12, 13, 14, 15, 16, 17], [6, 7, 8, 9, 10, 11, 12, 13, 14, 15, 16, 17, 18], [5, 6, 7, 8, 9, 10, 11, 12, 13, 14, 15, 16, 17, 18, 19], [5, 6, 7, 8, 9, 10, 11, 12, 13, 14, 15, 16, 17, 18, 19, 20], [5, 6, 7, 8, 9, 10, 11, 12, 13, 14, 15, 16, 17, 18, 19, 20, 21], [0, 1, 2, 3, 4, 5, 6, 7, 8, 9, 10, 11, 12, 13, 14, 15, 16, 17, 18, 19, 20, 21, 22]]) [[0, 1, 2, 3, 4, 5, 6, 7, 8, 9, 10, 11, 12, 13, 14, 15, 16, 17, 18, 19, 20, 21, 22, 23]] (by kernel_rfl) (by kernel_rfl) (NoPanic.seq (NoPanic.seq (NoPanic.block (NoPanic.seq (NoPanic.seq (NoPanic.block (NoPanic.seq (NoPanic.body)))))))) ?_
            have hS3235 := hS3210.drew
            revert hS3235
            generalize World.drew w3209 = w3234
            intro hS3235
            refine ⟨⟨rowR.cell (hS3235.rd 0).1 z_Tile h3239.1 h3239.2 1 rfl, hS3235.cell 0 rfl 2 rfl, hS3235.cell 0 rfl 0 rfl, hS3235.cell 0 rfl 0 rfl, rowR.cell (hS3235.rd 1).1 0 h3240.1 h3240.2 0 rfl, rowR.cell (hS3235.rd 0).1 z_Tile h3241.1 h3241.2 3 rfl, trivial⟩, forallC ?_ (forallN)⟩
            refine segF 24 [.v (.int .i64 ((rdD p0 (rdD p1.Cells x3199 0) z_Tile).E)), .v (.slice A_p1_Cells p1.Cells.length c_p1_Cells), .v (.int .i64 p1.Width), .v (.int .i64 p1.Width), .v (.int .i64 (rdD p1.Cells (w64 ((w64 ((w64 (Int.tdiv x3199 p1.Width)) * p1.Width)) + (Int.tmod (w64 ((Int.tmod x3199 p1.Width) + 1)) p1.Width))) 0)), .v (.int .i64 ((rdD p0 (rdD p1.Cells (w64 ((w64 ((w64 (Int.tdiv x3199 p1.Width)) * p1.Width)) + (Int.tmod (w64 ((Int.tmod x3199 p1.Width) + 1)) p1.Width))) 0) z_Tile).W))] [0, 2, 4, 8, 9, 10, 12, 13, 14, 58] [(0, (.slice A_p0 p0.length c_p0)), (2, (.bool p2)), (4, (.pointer (some ⟨g3028, 0, none⟩))), (8, (.int .i64 (rdD p1.Cells x3199 0))), (9, (.int .i64 (Int.tmod x3199 p1.Width))), (10, (.int .i64 (w64 (Int.tdiv x3199 p1.Width)))), (12, (.slice A_p1_Cells p1.Cells.length c_p1_Cells)), (13, (.int .i64 (p1.Cells.length : Int))), (14, (.int .i64 x3199)), (58, (.bool (((rdD p0 (rdD p1.Cells x3199 0) z_Tile).E) != ((rdD p0 (rdD p1.Cells (w64 ((w64 ((w64 (Int.tdiv x3199 p1.Width)) * p1.Width)) + (Int.tmod (w64 ((Int.tmod x3199 p1.Width) + 1)) p1.Width))) 0) z_Tile).W))))] [.idx A_p0 (rdD p1.Cells x3199 0) p0.length, .ne p1.Width, .idx A_p1_Cells (w64 ((w64 ((w64 (Int.tdiv x3199 p1.Width)) * p1.Width)) + (Int.tmod (w64 ((Int.tmod x3199 p1.Width) + 1)) p1.Width))) p1.Cells.length, .idx A_p0 (rdD p1.Cells (w64 ((w64 ((w64 (Int.tdiv x3199 p1.Width)) * p1.Width)) + (Int.tmod (w64 ((Int.tmod x3199 p1.Width) + 1)) p1.Width))) 0) p0.length] [0, 1, 2, 3, 4, 5] [(4, (((adr A_p0).add (((rdD p1.Cells x3199 0)).toNat * 4)).add 1), (.int .i64 ((rdD p0 (rdD p1.Cells x3199 0) z_Tile).E))), (7, ⟨g3028, 2, none⟩, (.slice A_p1_Cells p1.Cells.length c_p1_Cells)), (10, ⟨g3028, 0, none⟩, (.int .i64 p1.Width)), (15, ⟨g3028, 0, none⟩, (.int .i64 p1.Width)), (19, ((adr A_p1_Cells).add ((w64 ((w64 ((w64 (Int.tdiv x3199 p1.Width)) * p1.Width)) + (Int.tmod (w64 ((Int.tmod x3199 p1.Width) + 1)) p1.Width))).toNat * 1)), (.int .i64 (rdD p1.Cells (w64 ((w64 ((w64 (Int.tdiv x3199 p1.Width)) * p1.Width)) + (Int.tmod (w64 ((Int.tmod x3199 p1.Width) + 1)) p1.Width))) 0))), (22, (((adr A_p0).add (((rdD p1.Cells (w64 ((w64 ((w64 (Int.tdiv x3199 p1.Width)) * p1.Width)) + (Int.tmod (w64 ((Int.tmod x3199 p1.Width) + 1)) p1.Width))) 0)).toNat * 4)).add 3), (.int .i64 ((rdD p0 (rdD p1.Cells (w64 ((w64 ((w64 (Int.tdiv x3199 p1.Width)) * p1.Width)) + (Int.tmod (w64 ((Int.tmod x3199 p1.Width) + 1)) p1.Width))) 0) z_Tile).W)))] (fun fb => by kernel_rfl) rfl ⟨rowR.adr (hS3235.rd 0).1 h3239.1 h3239.2, h3212, rowR.adr (hS3235.rd 1).1 h3240.1 h3240.2, rowR.adr (hS3235.rd 0).1 h3241.1 h3241.2, trivial⟩ rfl ?_
            refine WL.done rfl ?_
            refine WX.next ?_
            rcases br_some hx3229 with ⟨h3242, hx3229⟩ | ⟨h3242, hx3229⟩
            · refine WC.condT2 (fun fb => by kernel_rfl) h3242 ?_
              refine WC.seq ?_
              refine WC.region ?_
              refine seg 1 [] [6] [(6, (.bool false))] [] (fun fb => by kernel_rfl) rfl trivial ?_
              refine WL.done rfl ?_
              refine WX.next ?_
              refine WC.ret ?_
              injection hx3229 with hx3229
              subst hx3229
              injection hl3205 with hl3205
              subst hl3205
              injection hf with hf
              subst hf
              exact WX.thenR (WX.blockR (WX.thenR (WX.thenR (WX.blockR (WX.thenR (WX.ret_ [] (.bool false) [] (fun fb => by kernel_rfl) trivial ⟨_, rfl, rfl, hS3235.keep⟩))))))
            refine WC.condF2 (fun fb => by kernel_rfl) h3242 ?_
            refine WC.skip ?_
            injection hx3229 with hx3229
            exact WX.to Kx3228 () [0, 2, 4, 8, 9, 10, 12, 13, 14] rfl ⟨(hS3235.subR [0, 1]).sub [0] (by decide), hx3229.symm⟩
          refine WC.condF2 (fun fb => by kernel_rfl) h3230 ?_
          refine WC.skip ?_
          injection hx3229 with hx3229
          exact WX.to Kx3228 () [0, 2, 4, 8, 9, 10, 12, 13, 14] rfl ⟨(hS3210.subR [0, 1]).sub [0] (by decide), hx3229.symm⟩
        rintro y3246 w3243 ⟨hS3244, hq3245⟩
        subst hq3245
        have hl3205 := sum_inr hl3205
        refine WX.next ?_
        refine WC.seq ?_
        refine WC.region ?_
        refine seg 6 [.v (.int .i64 p1.Height)] [0, 2, 4, 8, 9, 10, 12, 13, 14, 64] [(0, (.slice A_p0 p0.length c_p0)), (2, (.bool p2)), (4, (.pointer (some ⟨g3028, 0, none⟩))), (8, (.int .i64 (rdD p1.Cells x3199 0))), (9, (.int .i64 (Int.tmod x3199 p1.Width))), (10, (.int .i64 (w64 (Int.tdiv x3199 p1.Width)))), (12, (.slice A_p1_Cells p1.Cells.length c_p1_Cells)), (13, (.int .i64 (p1.Cells.length : Int))), (14, (.int .i64 x3199)), (64, (.bool (decide (w64 ((w64 (Int.tdiv x3199 p1.Width)) + 1) < p1.Height))))] [.cell ⟨g3028, 1, none⟩ (.int .i64 p1.Height)] (fun fb => by kernel_rfl) rfl ⟨hS3244.cell 0 rfl 1 rfl, trivial⟩ ?_
        refine WL.cutV (T := Bool) 8 (fun t => [(66, (.bool t)), (0, (.slice A_p0 p0.length c_p0)), (2, (.bool p2)), (4, (.pointer (some ⟨g3028, 0, none⟩))), (8, (.int .i64 (rdD p1.Cells x3199 0))), (9, (.int .i64 (Int.tmod x3199 p1.Width))), (10, (.int .i64 (w64 (Int.tdiv x3199 p1.Width)))), (12, (.slice A_p1_Cells p1.Cells.length c_p1_Cells)), (13, (.int .i64 (p1.Cells.length : Int))), (14, (.int .i64 x3199))]) (fun t => t = ((decide (w64 ((w64 (Int.tdiv x3199 p1.Width)) + 1) < p1.Height)) || p2)) (fun K => ?_) ?_
        ·
          rcases Bool.eq_false_or_eq_true (decide (w64 ((w64 (Int.tdiv x3199 p1.Width)) + 1) < p1.Height)) with h3248 | h3248
          ·
            refine WL.setB 64 h3248 rfl ?_
            refine seg 8 [] [0, 2, 4, 8, 9, 10, 12, 13, 14, 66] [(0, (.slice A_p0 p0.length c_p0)), (2, (.bool p2)), (4, (.pointer (some ⟨g3028, 0, none⟩))), (8, (.int .i64 (rdD p1.Cells x3199 0))), (9, (.int .i64 (Int.tmod x3199 p1.Width))), (10, (.int .i64 (w64 (Int.tdiv x3199 p1.Width)))), (12, (.slice A_p1_Cells p1.Cells.length c_p1_Cells)), (13, (.int .i64 (p1.Cells.length : Int))), (14, (.int .i64 x3199)), (66, (.bool true))] [] (fun fb => by kernel_rfl) rfl trivial ?_
            exact WL.toV K true [66, 0, 2, 4, 8, 9, 10, 12, 13, 14] rfl (by rw [h3248]; rfl)
          refine WL.setB 64 h3248 rfl ?_
          refine seg 8 [] [0, 2, 4, 8, 9, 10, 12, 13, 14, 66] [(0, (.slice A_p0 p0.length c_p0)), (2, (.bool p2)), (4, (.pointer (some ⟨g3028, 0, none⟩))), (8, (.int .i64 (rdD p1.Cells x3199 0))), (9, (.int .i64 (Int.tmod x3199 p1.Width))), (10, (.int .i64 (w64 (Int.tdiv x3199 p1.Width)))), (12, (.slice A_p1_Cells p1.Cells.length c_p1_Cells)), (13, (.int .i64 (p1.Cells.length : Int))), (14, (.int .i64 x3199)), (66, (.bool p2))] [] (fun fb => by kernel_rfl) rfl trivial ?_
          exact WL.toV K p2 [66, 0, 2, 4, 8, 9, 10, 12, 13, 14] rfl (by rw [h3248]; rfl)
        rintro b3249 rfl
        refine WL.done rfl ?_
        refine WX.next ?_
        obtain ⟨x3266, hx3267, hl3205⟩ := bind_some hl3205
        refine WC.cutN (T := Unit) (fun t => [(0, (.slice A_p0 p0.length c_p0)), (2, (.bool p2)), (4, (.pointer (some ⟨g3028, 0, none⟩))), (12, (.slice A_p1_Cells p1.Cells.length c_p1_Cells)), (13, (.int .i64 (p1.Cells.length : Int))), (14, (.int .i64 x3199))]) (fun t w1 => St NoS w w1 [rowR enc_Tile A_p0 c_p0 p0, rowR encInt A_p1_Cells c_p1_Cells p1.Cells] [blk g3028 (.cells #[(.int .i64 p1.Width), (.int .i64 p1.Height), (.slice A_p1_Cells p1.Cells.length c_p1_Cells)] 31 (0, 0))] ∧ x3266 = .inr t) (fun Kx3266 => ?_) ?_
        ·
          rcases br_some hx3267 with ⟨h3268, hx3267⟩ | ⟨h3268, hx3267⟩
          · refine WC.condT2 (fun fb => by kernel_rfl) h3268 ?_
            refine WC.seq ?_
            obtain ⟨h3279, hx3267⟩ := as_some hx3267
            obtain ⟨h3280, hx3267⟩ := as_some hx3267
            obtain ⟨h3281, hx3267⟩ := as_some hx3267
            obtain ⟨h3282, hx3267⟩ := as_some hx3267
            refine WC.regionD ([(4, ((adr A_p0).add (((rdD p1.Cells x3199 0)).toNat * 4)), (.int .i64 ((rdD p0 (rdD p1.Cells x3199 0) z_Tile).N))), (7, ⟨g3028, 2, none⟩, (.slice A_p1_Cells p1.Cells.length c_p1_Cells)), (11, ⟨g3028, 1, none⟩, (.int .i64 p1.Height)), (14, ⟨g3028, 0, none⟩, (.int .i64 p1.Width)), (19, ((adr A_p1_Cells).add ((w64 ((w64 ((Int.tmod (w64 ((w64 (Int.tdiv x3199 p1.Width)) + 1)) p1.Height) * p1.Width)) + (Int.tmod x3199 p1.Width))).toNat * 1)), (.int .i64 (rdD p1.Cells (w64 ((w64 ((Int.tmod (w64 ((w64 (Int.tdiv x3199 p1.Width)) + 1)) p1.Height) * p1.Width)) + (Int.tmod x3199 p1.Width))) 0))), (22, (((adr A_p0).add (((rdD p1.Cells (w64 ((w64 ((Int.tmod (w64 ((w64 (Int.tdiv x3199 p1.Width)) + 1)) p1.Height) * p1.Width)) + (Int.tmod x3199 p1.Width))) 0)).toNat * 4)).add 2), (.int .i64 ((rdD p0 (rdD p1.Cells (w64 ((w64 ((Int.tmod (w64 ((w64 (Int.tdiv x3199 p1.Width)) + 1)) p1.Height) * p1.Width)) + (Int.tmod x3199 p1.Width))) 0) z_Tile).S)))], [0, 1, 2, 3, 4, 5, 6, 7, 8, 9, 10, 11, 12, 13, 14, 15, 16, 17, 18, 19, 20, 21, 22, 23], [[], [], [0, 1], [0, 1, 2], [0, 1, 2, 3], [], [], [6], [], [8], [], [10], [8, 9, 10, 11], [], [13], [8, 9, 10, 11, 12, 13, 14], [], [8, 9, 10, 11, 12, 13, 14, 15, 16], [6, 7, 8, 9, 10, 11, 12, 13, 14, 15, 16, 17], [6, 7, 8, 9, 10, 11, 12, 13, 14, 15, 16, 17, 18], [5, 6, 7, 8, 9, 10, 11, 12, 13, 14, 15, 16, 17, 18, 19], [5, 6, 7, 8, 9, 10, 11, 12, 13, 14, 15, 16, 17, 18, 19, 20], [5, 6, 7, 8, 9, 10, 11, 12, 13, 14, 15, 16, 17, 18, 19, 20, 21], [0, 1, 2, 3, 4, 5, 6, 7, 8, 9, 10, 11, 12, 13, 14, 15, 16, 17, 18, 19, 20, 21, 22]]) [[0, 1, 2, 3, 4, 5, 6, 7, 8, 9, 10, 11, 12, 13, 14, 15, 16, 17, 18, 19, 20, 21, 22, 23]] (by kernel_rfl) (by kernel_rfl) (NoPanic.seq (NoPanic.block (NoPanic.seq (NoPanic.seq (NoPanic.block (NoPanic.seq (NoPanic.body))))))) ?_
            have hS3274 := hS3244.drew
            revert hS3274
            generalize World.drew w3243 = w3273
            intro hS3274
            refine ⟨⟨rowR.cell (hS3274.rd 0).1 z_Tile h3279.1 h3279.2 0 rfl, hS3274.cell 0 rfl 2 rfl, hS3274.cell 0 rfl 1 rfl, hS3274.cell 0 rfl 0 rfl, rowR.cell (hS3274.rd 1).1 0 h3281.1 h3281.2 0 rfl, rowR.cell (hS3274.rd 0).1 z_Tile h3282.1 h3282.2 2 rfl, trivial⟩, forallC ?_ (forallN)⟩
            refine segF 24 [.v (.int .i64 ((rdD p0 (rdD p1.Cells x3199 0) z_Tile).N)), .v (.slice A_p1_Cells p1.Cells.length c_p1_Cells), .v (.int .i64 p1.Height), .v (.int .i64 p1.Width), .v (.int .i64 (rdD p1.Cells (w64 ((w64 ((Int.tmod (w64 ((w64 (Int.tdiv x3199 p1.Width)) + 1)) p1.Height) * p1.Width)) + (Int.tmod x3199 p1.Width))) 0)), .v (.int .i64 ((rdD p0 (rdD p1.Cells (w64 ((w64 ((Int.tmod (w64 ((w64 (Int.tdiv x3199 p1.Width)) + 1)) p1.Height) * p1.Width)) + (Int.tmod x3199 p1.Width))) 0) z_Tile).S))] [0, 2, 4, 12, 13, 14, 90] [(0, (.slice A_p0 p0.length c_p0)), (2, (.bool p2)), (4, (.pointer (some ⟨g3028, 0, none⟩))), (12, (.slice A_p1_Cells p1.Cells.length c_p1_Cells)), (13, (.int .i64 (p1.Cells.length : Int))), (14, (.int .i64 x3199)), (90, (.bool (((rdD p0 (rdD p1.Cells x3199 0) z_Tile).N) != ((rdD p0 (rdD p1.Cells (w64 ((w64 ((Int.tmod (w64 ((w64 (Int.tdiv x3199 p1.Width)) + 1)) p1.Height) * p1.Width)) + (Int.tmod x3199 p1.Width))) 0) z_Tile).S))))] [.idx A_p0 (rdD p1.Cells x3199 0) p0.length, .ne p1.Height, .idx A_p1_Cells (w64 ((w64 ((Int.tmod (w64 ((w64 (Int.tdiv x3199 p1.Width)) + 1)) p1.Height) * p1.Width)) + (Int.tmod x3199 p1.Width))) p1.Cells.length, .idx A_p0 (rdD p1.Cells (w64 ((w64 ((Int.tmod (w64 ((w64 (Int.tdiv x3199 p1.Width)) + 1)) p1.Height) * p1.Width)) + (Int.tmod x3199 p1.Width))) 0) p0.length] [0, 1, 2, 3, 4, 5] [(4, ((adr A_p0).add (((rdD p1.Cells x3199 0)).toNat * 4)), (.int .i64 ((rdD p0 (rdD p1.Cells x3199 0) z_Tile).N))), (7, ⟨g3028, 2, none⟩, (.slice A_p1_Cells p1.Cells.length c_p1_Cells)), (11, ⟨g3028, 1, none⟩, (.int .i64 p1.Height)), (14, ⟨g3028, 0, none⟩, (.int .i64 p1.Width)), (19, ((adr A_p1_Cells).add ((w64 ((w64 ((Int.tmod (w64 ((w64 (Int.tdiv x3199 p1.Width)) + 1)) p1.Height) * p1.Width)) + (Int.tmod x3199 p1.Width))).toNat * 1)), (.int .i64 (rdD p1.Cells (w64 ((w64 ((Int.tmod (w64 ((w64 (Int.tdiv x3199 p1.Width)) + 1)) p1.Height) * p1.Width)) + (Int.tmod x3199 p1.Width))) 0))), (22, (((adr A_p0).add (((rdD p1.Cells (w64 ((w64 ((Int.tmod (w64 ((w64 (Int.tdiv x3199 p1.Width)) + 1)) p1.Height) * p1.Width)) + (Int.tmod x3199 p1.Width))) 0)).toNat * 4)).add 2), (.int .i64 ((rdD p0 (rdD p1.Cells (w64 ((w64 ((Int.tmod (w64 ((w64 (Int.tdiv x3199 p1.Width)) + 1)) p1.Height) * p1.Width)) + (Int.tmod x3199 p1.Width))) 0) z_Tile).S)))] (fun fb => by kernel_rfl) rfl ⟨rowR.adr (hS3274.rd 0).1 h3279.1 h3279.2, h3280, rowR.adr (hS3274.rd 1).1 h3281.1 h3281.2, rowR.adr (hS3274.rd 0).1 h3282.1 h3282.2, trivial⟩ rfl ?_
            refine WL.done rfl ?_
            refine WX.next ?_
            rcases br_some hx3267 with ⟨h3283, hx3267⟩ | ⟨h3283, hx3267⟩
            · refine WC.condT2 (fun fb => by kernel_rfl) h3283 ?_
              refine WC.seq ?_
              refine WC.region ?_
              refine seg 1 [] [6] [(6, (.bool false))] [] (fun fb => by kernel_rfl) rfl trivial ?_
              refine WL.done rfl ?_
              refine WX.next ?_
              refine WC.ret ?_
              injection hx3267 with hx3267
              subst hx3267
              injection hl3205 with hl3205
              subst hl3205
              injection hf with hf
              subst hf
              exact WX.blockR (WX.thenR (WX.thenR (WX.blockR (WX.thenR (WX.ret_ [] (.bool false) [] (fun fb => by kernel_rfl) trivial ⟨_, rfl, rfl, hS3274.keep⟩)))))
            refine WC.condF2 (fun fb => by kernel_rfl) h3283 ?_
            refine WC.skip ?_
            injection hx3267 with hx3267
            exact WX.to Kx3266 () [0, 2, 4, 12, 13, 14] rfl ⟨(hS3274.subR [0, 1]).sub [0] (by decide), hx3267.symm⟩
          refine WC.condF2 (fun fb => by kernel_rfl) h3268 ?_
          refine WC.skip ?_
          injection hx3267 with hx3267
          exact WX.to Kx3266 () [0, 2, 4, 12, 13, 14] rfl ⟨(hS3244.subR [0, 1]).sub [0] (by decide), hx3267.symm⟩
        rintro y3287 w3284 ⟨hS3285, hq3286⟩
        subst hq3286
        have hl3205 := sum_inr hl3205
        refine WX.blockN (WX.next ?_)
        refine WC.region ?_
        refine seg 2 [] [0, 2, 4, 12, 13, 14] [(0, (.slice A_p0 p0.length c_p0)), (2, (.bool p2)), (4, (.pointer (some ⟨g3028, 0, none⟩))), (12, (.slice A_p1_Cells p1.Cells.length c_p1_Cells)), (13, (.int .i64 (p1.Cells.length : Int))), (14, (.int .i64 (w64 (x3199 + 1))))] [] (fun fb => by kernel_rfl) rfl trivial ?_
        refine WL.done rfl ?_
        exact WX.again k3202 (Nat.lt_succ_self _) (w64 (x3199 + 1)) [0, 2, 4, 12, 13, 14] rfl ⟨(hS3285.subR [0, 1]).sub [0] (by decide), hl3205⟩
      refine WC.condF2 (fun fb => by kernel_rfl) h3206 ?_
      refine WC.exit ?_
      injection hl3205 with hl3205
      exact WX.thenX (WX.thenX (WX.blockHere (WX.to Kx3200 () [] rfl ⟨(hS3204.subR [0, 1]).sub [] (by decide), hl3205.symm⟩)))
  rintro y3292 w3289 ⟨hS3290, hq3291⟩
  subst hq3291
  have hf := sum_inr hf
  refine WX.next ?_
  refine WC.seq ?_
  refine WC.region ?_
  refine seg 1 [] [6] [(6, (.bool true))] [] (fun fb => by kernel_rfl) rfl trivial ?_
  refine WL.done rfl ?_
  refine WX.next ?_
  refine WC.ret ?_
  injection hf with hf
  subst hf
  exact WX.ret_ [] (.bool true) [] (fun fb => by kernel_rfl) trivial ⟨_, rfl, rfl, hS3290.keep⟩
theorem tile_Fits_calls (k : Nat) (p0 : List Tile) (p1 : Pattern) (A_p0 : Option Addr) (c_p0 : Nat) (A_p1_Cells : Option Addr) (c_p1_Cells : Nat) (r : Bool) (w : World) (hR0 : RO NoS w (rowR enc_Tile A_p0 c_p0 p0)) (hR1 : RO NoS w (rowR encInt A_p1_Cells c_p1_Cells p1.Cells)) (hf : tile_Fits k p0 p1 = some r) :
    CallsR Try.prog 33 #[(.slice A_p0 p0.length c_p0), (.agg #[(.int .i64 p1.Width), (.int .i64 p1.Height), (.slice A_p1_Cells p1.Cells.length c_p1_Cells)])] w (fun v w' => v = (.bool r) ∧ Keeps NoS w w') := by
  have hS : St NoS w w [rowR enc_Tile A_p0 c_p0 p0, rowR encInt A_p1_Cells c_p1_Cells p1.Cells] [] := St.init (ro_cons hR0 (ro_cons hR1 (ro_nil _ _)))
  refine enter 13 Try.func33 rfl Try.ntmps33 rfl ?_
  unfold tile_Fits at hf
  refine WC.seq ?_
  refine WC.region ?_
  refine WL.new hS 3 [] (fun g => (.pointer (some ⟨g, 0, none⟩))) (.cells #[(.int .i64 p1.Width), (.int .i64 p1.Height), (.slice A_p1_Cells p1.Cells.length c_p1_Cells)] 31 (0, 0)) [] (fun fb g => by kernel_rfl) trivial (fun g2722 w2723 hS2724 => ?_)
  refine ⟨trivial, ?_⟩
  refine seg 2 [] [0, 3] [(0, (.slice A_p0 p0.length c_p0)), (3, (.pointer (some ⟨g2722, 0, none⟩)))] [] (fun fb => by kernel_rfl) rfl trivial ?_
  refine WL.done rfl ?_
  refine WX.next ?_
  refine WC.seq ?_
  refine WC.region ?_
  refine seg 2 [.v (.int .i64 p1.Width), .v (.int .i64 p1.Height), .v (.slice A_p1_Cells p1.Cells.length c_p1_Cells)] [0, 3, 5, 6] [(0, (.slice A_p0 p0.length c_p0)), (3, (.pointer (some ⟨g2722, 0, none⟩))), (5, (.slice A_p0 p0.length c_p0)), (6, (.agg #[(.int .i64 p1.Width), (.int .i64 p1.Height), (.slice A_p1_Cells p1.Cells.length c_p1_Cells)]))] [.cell ⟨g2722, 0, none⟩ (.int .i64 p1.Width), .cell ⟨g2722, 1, none⟩ (.int .i64 p1.Height), .cell ⟨g2722, 2, none⟩ (.slice A_p1_Cells p1.Cells.length c_p1_Cells)] (fun fb => by kernel_rfl) rfl ⟨hS2724.cell 0 rfl 0 rfl, hS2724.cell 0 rfl 1 rfl, hS2724.cell 0 rfl 2 rfl, trivial⟩ ?_
  obtain ⟨t3023, ht3024, hf⟩ := bind_some hf
  refine WL.call (some 7) 56 #[(.slice A_p0 p0.length c_p0), (.agg #[(.int .i64 p1.Width), (.int .i64 p1.Height), (.slice A_p1_Cells p1.Cells.length c_p1_Cells)])] (fun fb => by kernel_rfl) (tile_of_calls _ p0 p1 A_p0 c_p0 A_p1_Cells c_p1_Cells t3023 _ (hS2724.rd 0) (hS2724.rd 1) ht3024) (fun v w3025 hR3026 => ?_)
  obtain ⟨rfl, hk_⟩ := hR3026
  have hS3027 := hS2724.keepN hk_
  refine ⟨trivial, ?_⟩
  refine seg 4 [] [0, 3, 8] [(0, (.slice A_p0 p0.length c_p0)), (3, (.pointer (some ⟨g2722, 0, none⟩))), (8, (.bool t3023))] [] (fun fb => by kernel_rfl) rfl trivial ?_
  obtain ⟨x3300, hx3301, hf⟩ := bind_some hf
  refine WL.cutW (T := Bool) 8 (fun t => [(12, (.bool t))]) (fun t w1 => (St NoS w w1 [rowR enc_Tile A_p0 c_p0 p0, rowR encInt A_p1_Cells c_p1_Cells p1.Cells] [] ∧ x3300 = t) ∧ CellsOK [] w1) (fun K => ?_) ?_
  ·
    rcases br_some hx3301 with ⟨h3302, hx3301⟩ | ⟨h3302, hx3301⟩
    ·
      refine WL.setB 8 h3302 rfl ?_
      refine seg 6 [.v (.int .i64 p1.Width), .v (.int .i64 p1.Height), .v (.slice A_p1_Cells p1.Cells.length c_p1_Cells)] [8, 9, 10] [(8, (.bool true)), (9, (.slice A_p0 p0.length c_p0)), (10, (.agg #[(.int .i64 p1.Width), (.int .i64 p1.Height), (.slice A_p1_Cells p1.Cells.length c_p1_Cells)]))] [.cell ⟨g2722, 0, none⟩ (.int .i64 p1.Width), .cell ⟨g2722, 1, none⟩ (.int .i64 p1.Height), .cell ⟨g2722, 2, none⟩ (.slice A_p1_Cells p1.Cells.length c_p1_Cells)] (fun fb => by kernel_rfl) rfl ⟨hS3027.cell 0 rfl 0 rfl, hS3027.cell 0 rfl 1 rfl, hS3027.cell 0 rfl 2 rfl, trivial⟩ ?_
      obtain ⟨t3303, ht3304, hx3301⟩ := bind_some hx3301
      refine WL.call (some 11) 57 #[(.slice A_p0 p0.length c_p0), (.agg #[(.int .i64 p1.Width), (.int .i64 p1.Height), (.slice A_p1_Cells p1.Cells.length c_p1_Cells)]), (.bool false)] (fun fb => by kernel_rfl) (tile_joins_calls _ p0 p1 false A_p0 c_p0 A_p1_Cells c_p1_Cells t3303 _ (hS3027.rd 0) (hS3027.rd 1) ht3304) (fun v w3305 hR3306 => ?_)
      obtain ⟨rfl, hk_⟩ := hR3306
      have hS3307 := hS3027.keepN hk_
      refine ⟨trivial, ?_⟩
      refine seg 8 [] [12] [(12, (.bool t3303))] [] (fun fb => by kernel_rfl) rfl trivial ?_
      injection hx3301 with hx3301
      exact WL.to K t3303 [12] rfl ⟨⟨(hS3307.subR [0, 1]).sub [] (by decide), hx3301.symm⟩, trivial⟩
    refine WL.setB 8 h3302 rfl ?_
    refine seg 8 [] [12] [(12, (.bool false))] [] (fun fb => by kernel_rfl) rfl trivial ?_
    injection hx3301 with hx3301
    exact WL.to K false [12] rfl ⟨⟨(hS3027.subR [0, 1]).sub [] (by decide), hx3301.symm⟩, trivial⟩
  rintro y3308 w3310 ⟨⟨hS3311, hq3309⟩, hF3312⟩
  subst hq3309
  refine seg 9 [] [4] [(4, (.bool x3300))] [] (fun fb => by kernel_rfl) rfl trivial ?_
  refine WL.done rfl ?_
  refine WX.next ?_
  refine WC.ret ?_
  injection hf with hf
  subst hf
  exact WX.ret_ [] (.bool x3300) [] (fun fb => by kernel_rfl) trivial ⟨_, rfl, rfl, hS3311.keep⟩
theorem machine_Read_calls (k : Nat) (p0 : Machine) (p1 : List Int) (A_p0_Actions : Option Addr) (c_p0_Actions : Nat) (A_p1 : Option Addr) (c_p1 : Nat) (r : Config × Int) (w : World) (hR0 : RO NoS w (rowR enc_Action A_p0_Actions c_p0_Actions p0.Actions)) (hR1 : RO NoS w (rowR encInt A_p1 c_p1 p1)) (hf : machine_Read k p0 p1 = some r) :
    CallsR Try.prog 27 #[(.agg #[(.int .i64 p0.States), (.int .i64 p0.Symbols), (.slice A_p0_Actions p0.Actions.length c_p0_Actions)]), (.slice A_p1 p1.length c_p1)] w (fun v w' => ∃ (A1_ : Option Addr), ∃ (c1_ : Nat), v = (.tuple #[(.agg #[(.int .i64 r.1.State), (.int .i64 r.1.At), (.slice A1_ r.1.Cells.length c1_)]), (.int .i64 r.2)]) ∧ St NoS w w' [] [rowO 3 encInt A1_ c1_ r.1.Cells]) := by
  have hS : St NoS w w [rowR enc_Action A_p0_Actions c_p0_Actions p0.Actions, rowR encInt A_p1 c_p1 p1] [] := St.init (ro_cons hR0 (ro_cons hR1 (ro_nil _ _)))
  refine enter 60 Try.func27 rfl Try.ntmps27 rfl ?_
  unfold machine_Read at hf
  refine WC.seq ?_
  refine WC.region ?_
  refine WL.new hS 2 [] (fun g => (.pointer (some ⟨g, 0, none⟩))) (.cells #[(.int .i64 p0.States), (.int .i64 p0.Symbols), (.slice A_p0_Actions p0.Actions.length c_p0_Actions)] 24 (0, 0)) [] (fun fb g => by kernel_rfl) trivial (fun g3462 w3463 hS3464 => ?_)
  refine ⟨trivial, ?_⟩
  refine WL.new hS3464 4 [] (fun g => (.pointer (some ⟨g, 0, none⟩))) (.cells #[(.int .i64 0), (.int .i64 0), (.slice none 0 0)] 27 (0, 0)) [] (fun fb g => by kernel_rfl) trivial (fun g3466 w3467 hS3468 => ?_)
  refine ⟨trivial, ?_⟩
  refine seg 3 [] [1, 2, 4] [(1, (.slice A_p1 p1.length c_p1)), (2, (.pointer (some ⟨g3462, 0, none⟩))), (4, (.pointer (some ⟨g3466, 0, none⟩)))] [] (fun fb => by kernel_rfl) rfl trivial ?_
  refine WL.done rfl ?_
  refine WX.next ?_
  refine WC.seq ?_
  refine WC.seq ?_
  refine WC.region ?_
  refine seg 1 [.v (.int .i64 p0.States), .v (.int .i64 p0.Symbols), .v (.slice A_p0_Actions p0.Actions.length c_p0_Actions)] [1, 2, 4, 10] [(1, (.slice A_p1 p1.length c_p1)), (2, (.pointer (some ⟨g3462, 0, none⟩))), (4, (.pointer (some ⟨g3466, 0, none⟩))), (10, (.agg #[(.int .i64 p0.States), (.int .i64 p0.Symbols), (.slice A_p0_Actions p0.Actions.length c_p0_Actions)]))] [.cell ⟨g3462, 0, none⟩ (.int .i64 p0.States), .cell ⟨g3462, 1, none⟩ (.int .i64 p0.Symbols), .cell ⟨g3462, 2, none⟩ (.slice A_p0_Actions p0.Actions.length c_p0_Actions)] (fun fb => by kernel_rfl) rfl ⟨hS3468.cell 1 rfl 0 rfl, hS3468.cell 1 rfl 1 rfl, hS3468.cell 1 rfl 2 rfl, trivial⟩ ?_
  obtain ⟨t3470, ht3471, hf⟩ := bind_some hf
  refine WL.call (some 11) 16 #[(.agg #[(.int .i64 p0.States), (.int .i64 p0.Symbols), (.slice A_p0_Actions p0.Actions.length c_p0_Actions)])] (fun fb => by kernel_rfl) (machine_Valid_calls _ p0 A_p0_Actions c_p0_Actions t3470 _ (hS3468.rd 0) ht3471) (fun v w3472 hR3473 => ?_)
  obtain ⟨rfl, hk_⟩ := hR3473
  have hS3474 := hS3468.keepN hk_
  refine ⟨trivial, ?_⟩
  refine seg 3 [] [1, 2, 4, 12] [(1, (.slice A_p1 p1.length c_p1)), (2, (.pointer (some ⟨g3462, 0, none⟩))), (4, (.pointer (some ⟨g3466, 0, none⟩))), (12, (.bool (!t3470)))] [] (fun fb => by kernel_rfl) rfl trivial ?_
  refine WL.done rfl ?_
  refine WX.next ?_
  rcases br_some hf with ⟨h3475, hf⟩ | ⟨h3475, hf⟩
  · refine WC.condT2 (fun fb => by kernel_rfl) h3475 ?_
    refine WC.seq ?_
    refine WC.region ?_
    refine seg 1 [] [4, 13] [(4, (.pointer (some ⟨g3466, 0, none⟩))), (13, (.agg #[(.int .i64 0), (.int .i64 0), (.slice none 0 0)]))] [] (fun fb => by kernel_rfl) rfl trivial ?_
    refine WL.store hS3474 0 rfl [(0, (.int .i64 0)), (1, (.int .i64 0)), (2, (.slice none 0 0))] #[(.int .i64 0), (.int .i64 0), (.slice none 0 0)] (fun fb => by kernel_rfl) (by kernel_rfl) rfl [1] (by decide) (by decide) (fun w3476 hS3477 => ?_)
    refine ⟨trivial, ?_⟩
    refine seg 3 [] [4, 5] [(4, (.pointer (some ⟨g3466, 0, none⟩))), (5, (.int .i64 1))] [] (fun fb => by kernel_rfl) rfl trivial ?_
    refine WL.done rfl ?_
    refine WX.next ?_
    refine WC.ret ?_
    have hS3478 := hS3477.nilrow 3 encInt
    injection hf with hf
    subst hf
    exact WX.thenR (WX.ret_ [.v (.int .i64 0), .v (.int .i64 0), .v (.slice none 0 0)] (.tuple #[(.agg #[(.int .i64 0), (.int .i64 0), (.slice none ([] : List Int).length 0)]), (.int .i64 1)]) [.cell ⟨g3466, 0, none⟩ (.int .i64 0), .cell ⟨g3466, 1, none⟩ (.int .i64 0), .cell ⟨g3466, 2, none⟩ (.slice none 0 0)] (fun fb => by kernel_rfl) ⟨hS3477.cell 0 rfl 0 rfl, hS3477.cell 0 rfl 1 rfl, hS3477.cell 0 rfl 2 rfl, trivial⟩ ⟨_, rfl, none, 0, rfl, (hS3478.sub [0] (by decide)).noR⟩)
  refine WC.condF2 (fun fb => by kernel_rfl) h3475 ?_
  refine WC.skip ?_
  refine WX.next ?_
  refine WC.seq ?_
  refine WC.region ?_
  refine seg 1 [] [1, 2, 4, 14] [(1, (.slice A_p1 p1.length c_p1)), (2, (.pointer (some ⟨g3462, 0, none⟩))), (4, (.pointer (some ⟨g3466, 0, none⟩))), (14, (.slice A_p1 p1.length c_p1))] [] (fun fb => by kernel_rfl) rfl trivial ?_
  obtain ⟨t3479, ht3480, hf⟩ := bind_some hf
  refine WL.call (some 15) 54 #[(.slice A_p1 p1.length c_p1)] (fun fb => by kernel_rfl) (slices_Clone_int_int_calls p1 A_p1 c_p1 t3479 _ (hS3474.rd 1) ht3480) (fun v w3481 hR3482 => ?_)
  obtain ⟨A3484, c3485, rfl, hk_⟩ := hR3482
  have hS3483 : St NoS w w3481 [rowR enc_Action A_p0_Actions c_p0_Actions p0.Actions, rowR encInt A_p1 c_p1 p1] [rowO 3 encInt A3484 c3485 t3479, blk g3466 (.cells #[(.int .i64 0), (.int .i64 0), (.slice none 0 0)] 27 (0, 0)), blk g3462 (.cells #[(.int .i64 p0.States), (.int .i64 p0.Symbols), (.slice A_p0_Actions p0.Actions.length c_p0_Actions)] 24 (0, 0))] := hS3474.call hk_ [] [0, 1] (fun g hg => hg.elim) (by simp) (by decide)
  refine ⟨trivial, ?_⟩
  refine seg 3 [] [1, 2, 4, 16] [(1, (.slice A_p1 p1.length c_p1)), (2, (.pointer (some ⟨g3462, 0, none⟩))), (4, (.pointer (some ⟨g3466, 0, none⟩))), (16, (.agg #[(.int .i64 0), (.int .i64 0), (.slice A3484 t3479.length c3485)]))] [] (fun fb => by kernel_rfl) rfl trivial ?_
  refine WL.new hS3483 6 [] (fun g => (.pointer (some ⟨g, 0, none⟩))) (.cells #[(.int .i64 0), (.int .i64 0), (.slice none 0 0)] 27 (0, 0)) [] (fun fb g => by kernel_rfl) trivial (fun g3486 w3487 hS3488 => ?_)
  refine ⟨trivial, ?_⟩
  refine WL.store hS3488 0 rfl [(0, (.int .i64 0)), (1, (.int .i64 0)), (2, (.slice A3484 t3479.length c3485))] #[(.int .i64 0), (.int .i64 0), (.slice A3484 t3479.length c3485)] (fun fb => by kernel_rfl) (by kernel_rfl) rfl [1, 2, 3] (by decide) (by decide) (fun w3490 hS3491 => ?_)
  refine ⟨trivial, ?_⟩
  refine WL.done rfl ?_
  refine WX.next ?_
  refine WC.seq ?_
  refine WC.region ?_
  refine seg 1 [] [1, 2, 4, 6, 7] [(1, (.slice A_p1 p1.length c_p1)), (2, (.pointer (some ⟨g3462, 0, none⟩))), (4, (.pointer (some ⟨g3466, 0, none⟩))), (6, (.pointer (some ⟨g3486, 0, none⟩))), (7, (.int .i64 0))] [] (fun fb => by kernel_rfl) rfl trivial ?_
  refine WL.done rfl ?_
  refine WX.next ?_
  refine WC.seq ?_
  refine WC.seq ?_
  refine WC.region ?_
  refine seg 3 [] [2, 4, 6, 7, 17, 18, 19] [(2, (.pointer (some ⟨g3462, 0, none⟩))), (4, (.pointer (some ⟨g3466, 0, none⟩))), (6, (.pointer (some ⟨g3486, 0, none⟩))), (7, (.int .i64 0)), (17, (.slice A_p1 p1.length c_p1)), (18, (.int .i64 (p1.length : Int))), (19, (.int .i64 0))] [] (fun fb => by kernel_rfl) rfl trivial ?_
  refine WL.done rfl ?_
  refine WX.next ?_
  obtain ⟨x3694, hx3695, hf⟩ := bind_some hf
  refine WC.cutN (T := (Int × Int × (List Int) × Int) × (Option Addr) × Nat) (fun t => [(2, (.pointer (some ⟨g3462, 0, none⟩))), (4, (.pointer (some ⟨g3466, 0, none⟩))), (6, (.pointer (some ⟨g3486, 0, none⟩))), (7, (.int .i64 t.1.2.2.2))]) (fun t w1 => St NoS w w1 [rowR enc_Action A_p0_Actions c_p0_Actions p0.Actions, rowR encInt A_p1 c_p1 p1] [blk g3462 (.cells #[(.int .i64 p0.States), (.int .i64 p0.Symbols), (.slice A_p0_Actions p0.Actions.length c_p0_Actions)] 24 (0, 0)), blk g3466 (.cells #[(.int .i64 0), (.int .i64 0), (.slice none 0 0)] 27 (0, 0)), blk g3486 (.cells #[(.int .i64 t.1.1), (.int .i64 t.1.2.1), (.slice t.2.1 t.1.2.2.1.length t.2.2)] 27 (0, 0)), rowO 3 encInt t.2.1 t.2.2 t.1.2.2.1] ∧ x3694 = t.1) (fun Kx3694 => ?_) ?_
  ·
    refine WC.block ?_
    refine WC.loop (T := (Int × Int × (List Int) × Int × Int) × (Option Addr) × Nat) (fun t => [(2, (.pointer (some ⟨g3462, 0, none⟩))), (4, (.pointer (some ⟨g3466, 0, none⟩))), (6, (.pointer (some ⟨g3486, 0, none⟩))), (7, (.int .i64 t.1.2.2.2.1)), (17, (.slice A_p1 p1.length c_p1)), (18, (.int .i64 (p1.length : Int))), (19, (.int .i64 t.1.2.2.2.2))]) (fun n t w1 => St NoS w w1 [rowR enc_Action A_p0_Actions c_p0_Actions p0.Actions, rowR encInt A_p1 c_p1 p1] [blk g3462 (.cells #[(.int .i64 p0.States), (.int .i64 p0.Symbols), (.slice A_p0_Actions p0.Actions.length c_p0_Actions)] 24 (0, 0)), blk g3466 (.cells #[(.int .i64 0), (.int .i64 0), (.slice none 0 0)] 27 (0, 0)), blk g3486 (.cells #[(.int .i64 t.1.1), (.int .i64 t.1.2.1), (.slice t.2.1 t.1.2.2.1.length t.2.2)] 27 (0, 0)), rowO 3 encInt t.2.1 t.2.2 t.1.2.2.1] ∧ machine_Read.l0 n t.1.1 t.1.2.1 t.1.2.2.1 t.1.2.2.2.1 t.1.2.2.2.2 p0 p1 = some x3694) k ((0, 0, t3479, 0, 0), A3484, c3485) [2, 4, 6, 7, 17, 18, 19] rfl ⟨(hS3491.subR [0, 1]).sub [3, 2, 0, 1] (by decide), hx3695⟩ ?_
    rintro k3696 ⟨⟨x3681, x3682, l3685, x3686, x3687⟩, A3683, c3684⟩ w3697 ⟨hS3698, hl3699⟩
    cases k3696 with
    | zero => rw [machine_Read.l0] at hl3699; cases hl3699
    | succ k3696 =>
      rw [machine_Read.l0] at hl3699
      refine WC.seq ?_
      refine WC.region ?_
      refine seg 1 [] [2, 4, 6, 7, 17, 18, 19, 20] [(2, (.pointer (some ⟨g3462, 0, none⟩))), (4, (.pointer (some ⟨g3466, 0, none⟩))), (6, (.pointer (some ⟨g3486, 0, none⟩))), (7, (.int .i64 x3686)), (17, (.slice A_p1 p1.length c_p1)), (18, (.int .i64 (p1.length : Int))), (19, (.int .i64 x3687)), (20, (.bool (decide (x3687 < (p1.length : Int)))))] [] (fun fb => by kernel_rfl) rfl trivial ?_
      refine WL.done rfl ?_
      refine WX.next ?_
      refine WC.seq ?_
      rcases br_some hl3699 with ⟨h3700, hl3699⟩ | ⟨h3700, hl3699⟩
      · refine WC.condT2 (fun fb => by kernel_rfl) h3700 ?_
        refine WC.skip ?_
        refine WX.next ?_
        refine WC.seq ?_
        obtain ⟨x3730, hx3731, hl3699⟩ := bind_some hl3699
        refine WC.cutN (T := (Int × Int × (List Int) × Int) × (Option Addr) × Nat) (fun t => [(2, (.pointer (some ⟨g3462, 0, none⟩))), (4, (.pointer (some ⟨g3466, 0, none⟩))), (6, (.pointer (some ⟨g3486, 0, none⟩))), (7, (.int .i64 t.1.2.2.2)), (17, (.slice A_p1 p1.length c_p1)), (18, (.int .i64 (p1.length : Int))), (19, (.int .i64 x3687))]) (fun t w1 => St NoS w w1 [rowR enc_Action A_p0_Actions c_p0_Actions p0.Actions, rowR encInt A_p1 c_p1 p1] [blk g3462 (.cells #[(.int .i64 p0.States), (.int .i64 p0.Symbols), (.slice A_p0_Actions p0.Actions.length c_p0_Actions)] 24 (0, 0)), blk g3466 (.cells #[(.int .i64 0), (.int .i64 0), (.slice none 0 0)] 27 (0, 0)), blk g3486 (.cells #[(.int .i64 t.1.1), (.int .i64 t.1.2.1), (.slice t.2.1 t.1.2.2.1.length t.2.2)] 27 (0, 0)), rowO 3 encInt t.2.1 t.2.2 t.1.2.2.1] ∧ x3730 = t.1) (fun Kx3730 => ?_) ?_
        ·
          refine WC.block ?_
          refine WC.seq ?_
          refine WC.region ?_
          refine seg 1 [] [2, 4, 6, 7, 17, 18, 19, 21] [(2, (.pointer (some ⟨g3462, 0, none⟩))), (4, (.pointer (some ⟨g3466, 0, none⟩))), (6, (.pointer (some ⟨g3486, 0, none⟩))), (7, (.int .i64 x3686)), (17, (.slice A_p1 p1.length c_p1)), (18, (.int .i64 (p1.length : Int))), (19, (.int .i64 x3687)), (21, (.int .i64 x3687))] [] (fun fb => by kernel_rfl) rfl trivial ?_
          obtain ⟨h3732, hx3731⟩ := as_some hx3731
          refine seg 5 [.v (.int .i64 (rdD p1 x3687 0))] [2, 4, 6, 7, 8, 9, 17, 18, 19] [(2, (.pointer (some ⟨g3462, 0, none⟩))), (4, (.pointer (some ⟨g3466, 0, none⟩))), (6, (.pointer (some ⟨g3486, 0, none⟩))), (7, (.int .i64 x3686)), (8, (.int .i64 x3687)), (9, (.int .i64 (rdD p1 x3687 0))), (17, (.slice A_p1 p1.length c_p1)), (18, (.int .i64 (p1.length : Int))), (19, (.int .i64 x3687))] [.idx A_p1 x3687 p1.length, .cell ((adr A_p1).add ((x3687).toNat * 1)) (.int .i64 (rdD p1 x3687 0))] (fun fb => by kernel_rfl) rfl ⟨rowR.adr (hS3698.rd 1).1 h3732.1 h3732.2, rowR.cell (hS3698.rd 1).1 0 h3732.1 h3732.2 0 rfl, trivial⟩ ?_
          refine WL.done rfl ?_
          refine WX.next ?_
          refine WC.seq ?_
          refine WC.seq ?_
          refine WC.region ?_
          refine seg 4 [.v (.int .i64 p0.Symbols)] [2, 4, 6, 7, 8, 9, 17, 18, 19, 27] [(2, (.pointer (some ⟨g3462, 0, none⟩))), (4, (.pointer (some ⟨g3466, 0, none⟩))), (6, (.pointer (some ⟨g3486, 0, none⟩))), (7, (.int .i64 x3686)), (8, (.int .i64 x3687)), (9, (.int .i64 (rdD p1 x3687 0))), (17, (.slice A_p1 p1.length c_p1)), (18, (.int .i64 (p1.length : Int))), (19, (.int .i64 x3687)), (27, (.bool (decide ((rdD p1 x3687 0) < p0.Symbols))))] [.cell ⟨g3462, 1, none⟩ (.int .i64 p0.Symbols)] (fun fb => by kernel_rfl) rfl ⟨hS3698.cell 0 rfl 1 rfl, trivial⟩ ?_
          refine WL.done rfl ?_
          refine WX.next ?_
          rcases br_some hx3731 with ⟨h3733, hx3731⟩ | ⟨h3733, hx3731⟩
          · refine WC.condT2 (fun fb => by kernel_rfl) h3733 ?_
            refine WC.exit ?_
            injection hx3731 with hx3731
            exact WX.thenX (WX.blockHere (WX.to Kx3730 ((x3681, x3682, l3685, x3686), A3683, c3684) [2, 4, 6, 7, 17, 18, 19] rfl ⟨(hS3698.subR [0, 1]).sub [0, 1, 2, 3] (by decide), hx3731.symm⟩))
          refine WC.condF2 (fun fb => by kernel_rfl) h3733 ?_
          refine WC.skip ?_
          refine WX.next ?_
          refine WC.seq ?_
          refine WC.region ?_
          refine seg 3 [] [2, 4, 6, 7, 8, 9, 17, 18, 19] [(2, (.pointer (some ⟨g3462, 0, none⟩))), (4, (.pointer (some ⟨g3466, 0, none⟩))), (6, (.pointer (some ⟨g3486, 0, none⟩))), (7, (.int .i64 (w64 (x3686 + 1)))), (8, (.int .i64 x3687)), (9, (.int .i64 (rdD p1 x3687 0))), (17, (.slice A_p1 p1.length c_p1)), (18, (.int .i64 (p1.length : Int))), (19, (.int .i64 x3687))] [] (fun fb => by kernel_rfl) rfl trivial ?_
          refine WL.done rfl ?_
          refine WX.next ?_
          refine WC.seq ?_
          refine WC.region ?_
          refine seg 5 [.v (.int .i64 p0.Symbols)] [2, 4, 6, 7, 8, 9, 17, 18, 19] [(2, (.pointer (some ⟨g3462, 0, none⟩))), (4, (.pointer (some ⟨g3466, 0, none⟩))), (6, (.pointer (some ⟨g3486, 0, none⟩))), (7, (.int .i64 (w64 (x3686 + 1)))), (8, (.int .i64 x3687)), (9, (.int .i64 (w64 ((rdD p1 x3687 0) - p0.Symbols)))), (17, (.slice A_p1 p1.length c_p1)), (18, (.int .i64 (p1.length : Int))), (19, (.int .i64 x3687))] [.cell ⟨g3462, 1, none⟩ (.int .i64 p0.Symbols)] (fun fb => by kernel_rfl) rfl ⟨hS3698.cell 0 rfl 1 rfl, trivial⟩ ?_
          refine WL.done rfl ?_
          refine WX.next ?_
          obtain ⟨h3746, hx3731⟩ := as_some hx3731
          refine WC.regionD ([(1, ⟨g3486, 2, none⟩, (.slice A3683 l3685.length c3684)), (5, ⟨g3462, 1, none⟩, (.int .i64 p0.Symbols)), (10, ⟨g3462, 1, none⟩, (.int .i64 p0.Symbols))], [0, 1, 2, 3, 4, 5, 6, 7, 8, 9, 10, 11, 12, 14, 16], [[], [0], [], [], [], [4], [3, 4, 5], [], [], [], [9], [8, 9, 10], [0, 1, 3, 4, 5, 6], [0, 1, 3, 4, 5, 6, 12], [0, 1, 3, 4, 5, 6, 7, 12, 13], [0, 1, 3, 4, 5, 6, 7, 12, 13, 14], [0, 1, 2, 3, 4, 5, 6, 7, 8, 9, 10, 11, 12, 13, 14, 15], [0, 1, 2, 3, 4, 5, 6, 7, 8, 9, 10, 11, 12, 13, 14, 15, 16]]) [[0, 1, 2, 3, 4, 5, 6, 7, 8, 9, 10, 11, 12, 13, 14, 15, 16, 17]] (by kernel_rfl) (by kernel_rfl) (NoPanic.block (NoPanic.seq (NoPanic.seq (NoPanic.block (NoPanic.seq (NoPanic.body)))))) ?_
          have hS3744 := hS3698.drew
          revert hS3744
          generalize World.drew w3697 = w3743
          intro hS3744
          refine ⟨⟨hS3744.cell 2 rfl 2 rfl, hS3744.cell 0 rfl 1 rfl, hS3744.cell 0 rfl 1 rfl, trivial⟩, forallC ?_ (forallN)⟩
          refine segF 13 [.v (.slice A3683 l3685.length c3684), .v (.int .i64 p0.Symbols), .v (.int .i64 p0.Symbols)] [2, 4, 6, 7, 17, 18, 19, 35, 36, 40, 41, 45, 46] [(2, (.pointer (some ⟨g3462, 0, none⟩))), (4, (.pointer (some ⟨g3466, 0, none⟩))), (6, (.pointer (some ⟨g3486, 0, none⟩))), (7, (.int .i64 (w64 (x3686 + 1)))), (17, (.slice A_p1 p1.length c_p1)), (18, (.int .i64 (p1.length : Int))), (19, (.int .i64 x3687)), (35, (.slice A3683 l3685.length c3684)), (36, (.int .i64 x3687)), (40, (.int .i64 (w64 (Int.tdiv (w64 ((rdD p1 x3687 0) - p0.Symbols)) p0.Symbols)))), (41, (.int .i64 x3687)), (45, (.int .i64 (Int.tmod (w64 ((rdD p1 x3687 0) - p0.Symbols)) p0.Symbols))), (46, (.pointer (some ⟨g3486, 0, none⟩)))] [.ne p0.Symbols, .ne p0.Symbols] [0, 1, 2] [(1, ⟨g3486, 2, none⟩, (.slice A3683 l3685.length c3684)), (5, ⟨g3462, 1, none⟩, (.int .i64 p0.Symbols)), (10, ⟨g3462, 1, none⟩, (.int .i64 p0.Symbols))] (fun fb => by kernel_rfl) rfl ⟨h3746, h3746, trivial⟩ rfl ?_
          refine WL.store hS3744 2 rfl [(0, (.int .i64 (w64 (Int.tdiv (w64 ((rdD p1 x3687 0) - p0.Symbols)) p0.Symbols))))] #[(.int .i64 (w64 (Int.tdiv (w64 ((rdD p1 x3687 0) - p0.Symbols)) p0.Symbols))), (.int .i64 x3682), (.slice A3683 l3685.length c3684)] (fun fb => by kernel_rfl) (by kernel_rfl) rfl [0, 1, 3] (by decide) (by decide) (fun w3747 hS3748 => ?_)
          refine ⟨⟨hS3748.cell 1 rfl 1 rfl, trivial⟩, ?_⟩
          refine seg 15 [] [2, 4, 6, 7, 17, 18, 19, 35, 36, 41, 45, 47] [(2, (.pointer (some ⟨g3462, 0, none⟩))), (4, (.pointer (some ⟨g3466, 0, none⟩))), (6, (.pointer (some ⟨g3486, 0, none⟩))), (7, (.int .i64 (w64 (x3686 + 1)))), (17, (.slice A_p1 p1.length c_p1)), (18, (.int .i64 (p1.length : Int))), (19, (.int .i64 x3687)), (35, (.slice A3683 l3685.length c3684)), (36, (.int .i64 x3687)), (41, (.int .i64 x3687)), (45, (.int .i64 (Int.tmod (w64 ((rdD p1 x3687 0) - p0.Symbols)) p0.Symbols))), (47, (.pointer (some ⟨g3486, 1, none⟩)))] [] (fun fb => by kernel_rfl) rfl trivial ?_
          refine WL.store hS3748 0 rfl [(1, (.int .i64 x3687))] #[(.int .i64 (w64 (Int.tdiv (w64 ((rdD p1 x3687 0) - p0.Symbols)) p0.Symbols))), (.int .i64 x3687), (.slice A3683 l3685.length c3684)] (fun fb => by kernel_rfl) (by kernel_rfl) rfl [1, 2, 3] (by decide) (by decide) (fun w3749 hS3750 => ?_)
          refine ⟨⟨hS3750.cell 1 rfl 1 rfl, trivial⟩, ?_⟩
          obtain ⟨h3751, hx3731⟩ := as_some hx3731
          refine seg 17 [] [2, 4, 6, 7, 17, 18, 19, 45, 48] [(2, (.pointer (some ⟨g3462, 0, none⟩))), (4, (.pointer (some ⟨g3466, 0, none⟩))), (6, (.pointer (some ⟨g3486, 0, none⟩))), (7, (.int .i64 (w64 (x3686 + 1)))), (17, (.slice A_p1 p1.length c_p1)), (18, (.int .i64 (p1.length : Int))), (19, (.int .i64 x3687)), (45, (.int .i64 (Int.tmod (w64 ((rdD p1 x3687 0) - p0.Symbols)) p0.Symbols))), (48, (.pointer (some ((adr A3683).add ((x3687).toNat * 1)))))] [.idx A3683 x3687 l3685.length] (fun fb => by kernel_rfl) rfl ⟨rowR.adr (rowO.rd (hS3750.own 3).1) h3751.1 h3751.2, trivial⟩ ?_
          refine WL.storeRow hS3750 3 rfl (x3687) (Int.tmod (w64 ((rdD p1 x3687 0) - p0.Symbols)) p0.Symbols) (0) [(0, (.int .i64 (Int.tmod (w64 ((rdD p1 x3687 0) - p0.Symbols)) p0.Symbols)))] (fun fb => by kernel_rfl) h3751.1 h3751.2 (by kernel_rfl) rfl [0, 1, 2] (by decide) (by decide) (fun w3752 hS3753 => ?_)
          refine ⟨trivial, ?_⟩
          have hS3754 : St NoS w w3752 [rowR enc_Action A_p0_Actions c_p0_Actions p0.Actions, rowR encInt A_p1 c_p1 p1] [rowO 3 encInt A3683 c3684 (l3685.set (x3687).toNat (Int.tmod (w64 ((rdD p1 x3687 0) - p0.Symbols)) p0.Symbols)), blk g3486 (.cells #[(.int .i64 (w64 (Int.tdiv (w64 ((rdD p1 x3687 0) - p0.Symbols)) p0.Symbols))), (.int .i64 x3687), (.slice A3683 (l3685.set (x3687).toNat (Int.tmod (w64 ((rdD p1 x3687 0) - p0.Symbols)) p0.Symbols)).length c3684)] 27 (0, 0)), blk g3462 (.cells #[(.int .i64 p0.States), (.int .i64 p0.Symbols), (.slice A_p0_Actions p0.Actions.length c_p0_Actions)] 24 (0, 0)), blk g3466 (.cells #[(.int .i64 0), (.int .i64 0), (.slice none 0 0)] 27 (0, 0))] := by simpa only [List.length_set] using (show St NoS w w3752 [rowR enc_Action A_p0_Actions c_p0_Actions p0.Actions, rowR encInt A_p1 c_p1 p1] [rowO 3 encInt A3683 c3684 (l3685.set (x3687).toNat (Int.tmod (w64 ((rdD p1 x3687 0) - p0.Symbols)) p0.Symbols)), blk g3486 (.cells #[(.int .i64 (w64 (Int.tdiv (w64 ((rdD p1 x3687 0) - p0.Symbols)) p0.Symbols))), (.int .i64 x3687), (.slice A3683 l3685.length c3684)] 27 (0, 0)), blk g3462 (.cells #[(.int .i64 p0.States), (.int .i64 p0.Symbols), (.slice A_p0_Actions p0.Actions.length c_p0_Actions)] 24 (0, 0)), blk g3466 (.cells #[(.int .i64 0), (.int .i64 0), (.slice none 0 0)] 27 (0, 0))] from hS3753)
          refine WL.done rfl ?_
          injection hx3731 with hx3731
          exact WX.blockN (WX.to Kx3730 ((w64 (Int.tdiv (w64 ((rdD p1 x3687 0) - p0.Symbols)) p0.Symbols), x3687, l3685.set (x3687).toNat (Int.tmod (w64 ((rdD p1 x3687 0) - p0.Symbols)) p0.Symbols), w64 (x3686 + 1)), A3683, c3684) [2, 4, 6, 7, 17, 18, 19] rfl ⟨(hS3754.subR [0, 1]).sub [2, 3, 1, 0] (by decide), hx3731.symm⟩)
        rintro ⟨y3758, A3726, c3727⟩ w3755 ⟨hS3756, hq3757⟩
        subst hq3757
        refine WX.next ?_
        refine WC.region ?_
        refine seg 2 [] [2, 4, 6, 7, 17, 18, 19] [(2, (.pointer (some ⟨g3462, 0, none⟩))), (4, (.pointer (some ⟨g3466, 0, none⟩))), (6, (.pointer (some ⟨g3486, 0, none⟩))), (7, (.int .i64 x3730.2.2.2)), (17, (.slice A_p1 p1.length c_p1)), (18, (.int .i64 (p1.length : Int))), (19, (.int .i64 (w64 (x3687 + 1))))] [] (fun fb => by kernel_rfl) rfl trivial ?_
        refine WL.done rfl ?_
        exact WX.again k3696 (Nat.lt_succ_self _) ((x3730.1, x3730.2.1, x3730.2.2.1, x3730.2.2.2, w64 (x3687 + 1)), A3726, c3727) [2, 4, 6, 7, 17, 18, 19] rfl ⟨(hS3756.subR [0, 1]).sub [0, 1, 2, 3] (by decide), hl3699⟩
      refine WC.condF2 (fun fb => by kernel_rfl) h3700 ?_
      refine WC.exit ?_
      injection hl3699 with hl3699
      exact WX.thenX (WX.thenX (WX.blockHere (WX.to Kx3694 ((x3681, x3682, l3685, x3686), A3683, c3684) [2, 4, 6, 7] rfl ⟨(hS3698.subR [0, 1]).sub [0, 1, 2, 3] (by decide), hl3699.symm⟩)))
  rintro ⟨y3762, A3690, c3691⟩ w3759 ⟨hS3760, hq3761⟩
  subst hq3761
  refine WX.next ?_
  refine WC.seq ?_
  refine WC.seq ?_
  refine WC.region ?_
  refine seg 3 [] [2, 4, 6, 52] [(2, (.pointer (some ⟨g3462, 0, none⟩))), (4, (.pointer (some ⟨g3466, 0, none⟩))), (6, (.pointer (some ⟨g3486, 0, none⟩))), (52, (.bool (x3694.2.2.2 != 1)))] [] (fun fb => by kernel_rfl) rfl trivial ?_
  obtain ⟨x3769, hx3770, hf⟩ := bind_some hf
  refine WL.cutW (T := Bool) 8 (fun t => [(4, (.pointer (some ⟨g3466, 0, none⟩))), (6, (.pointer (some ⟨g3486, 0, none⟩))), (57, (.bool t))]) (fun t w1 => (St NoS w w1 [rowR enc_Action A_p0_Actions c_p0_Actions p0.Actions, rowR encInt A_p1 c_p1 p1] [blk g3466 (.cells #[(.int .i64 0), (.int .i64 0), (.slice none 0 0)] 27 (0, 0)), blk g3486 (.cells #[(.int .i64 x3694.1), (.int .i64 x3694.2.1), (.slice A3690 x3694.2.2.1.length c3691)] 27 (0, 0)), rowO 3 encInt A3690 c3691 x3694.2.2.1] ∧ x3769 = t) ∧ CellsOK [] w1) (fun K => ?_) ?_
  ·
    rcases br_some hx3770 with ⟨h3771, hx3770⟩ | ⟨h3771, hx3770⟩
    ·
      refine WL.setB 52 h3771 rfl ?_
      refine seg 8 [] [4, 6, 57] [(4, (.pointer (some ⟨g3466, 0, none⟩))), (6, (.pointer (some ⟨g3486, 0, none⟩))), (57, (.bool true))] [] (fun fb => by kernel_rfl) rfl trivial ?_
      injection hx3770 with hx3770
      exact WL.to K true [4, 6, 57] rfl ⟨⟨(hS3760.subR [0, 1]).sub [1, 2, 3] (by decide), hx3770.symm⟩, trivial⟩
    refine WL.setB 52 h3771 rfl ?_
    refine seg 5 [.v (.int .i64 p0.States), .v (.int .i64 p0.Symbols), .v (.slice A_p0_Actions p0.Actions.length c_p0_Actions), .v (.int .i64 x3694.1), .v (.int .i64 x3694.2.1), .v (.slice A3690 x3694.2.2.1.length c3691)] [4, 6, 52, 53, 54] [(4, (.pointer (some ⟨g3466, 0, none⟩))), (6, (.pointer (some ⟨g3486, 0, none⟩))), (52, (.bool false)), (53, (.agg #[(.int .i64 p0.States), (.int .i64 p0.Symbols), (.slice A_p0_Actions p0.Actions.length c_p0_Actions)])), (54, (.agg #[(.int .i64 x3694.1), (.int .i64 x3694.2.1), (.slice A3690 x3694.2.2.1.length c3691)]))] [.cell ⟨g3462, 0, none⟩ (.int .i64 p0.States), .cell ⟨g3462, 1, none⟩ (.int .i64 p0.Symbols), .cell ⟨g3462, 2, none⟩ (.slice A_p0_Actions p0.Actions.length c_p0_Actions), .cell ⟨g3486, 0, none⟩ (.int .i64 x3694.1), .cell ⟨g3486, 1, none⟩ (.int .i64 x3694.2.1), .cell ⟨g3486, 2, none⟩ (.slice A3690 x3694.2.2.1.length c3691)] (fun fb => by kernel_rfl) rfl ⟨hS3760.cell 0 rfl 0 rfl, hS3760.cell 0 rfl 1 rfl, hS3760.cell 0 rfl 2 rfl, hS3760.cell 2 rfl 0 rfl, hS3760.cell 2 rfl 1 rfl, hS3760.cell 2 rfl 2 rfl, trivial⟩ ?_
    obtain ⟨t3772, ht3773, hx3770⟩ := bind_some hx3770
    refine WL.call (some 55) 18 #[(.agg #[(.int .i64 p0.States), (.int .i64 p0.Symbols), (.slice A_p0_Actions p0.Actions.length c_p0_Actions)]), (.agg #[(.int .i64 x3694.1), (.int .i64 x3694.2.1), (.slice A3690 x3694.2.2.1.length c3691)])] (fun fb => by kernel_rfl) (machine_Fits_calls _ p0 (Config.mk x3694.1 x3694.2.1 x3694.2.2.1) A_p0_Actions c_p0_Actions A3690 c3691 t3772 _ (hS3760.rd 0) (hS3760.ow 3).ofO ht3773) (fun v w3774 hR3775 => ?_)
    obtain ⟨rfl, hk_⟩ := hR3775
    have hS3776 := hS3760.keepN hk_
    refine ⟨trivial, ?_⟩
    refine seg 8 [] [4, 6, 57] [(4, (.pointer (some ⟨g3466, 0, none⟩))), (6, (.pointer (some ⟨g3486, 0, none⟩))), (57, (.bool (!t3772)))] [] (fun fb => by kernel_rfl) rfl trivial ?_
    injection hx3770 with hx3770
    exact WL.to K (!t3772) [4, 6, 57] rfl ⟨⟨(hS3776.subR [0, 1]).sub [1, 2, 3] (by decide), hx3770.symm⟩, trivial⟩
  rintro y3777 w3779 ⟨⟨hS3780, hq3778⟩, hF3781⟩
  subst hq3778
  refine WL.done rfl ?_
  refine WX.next ?_
  rcases br_some hf with ⟨h3782, hf⟩ | ⟨h3782, hf⟩
  · refine WC.condT2 (fun fb => by kernel_rfl) h3782 ?_
    refine WC.seq ?_
    refine WC.region ?_
    refine seg 1 [] [4, 58] [(4, (.pointer (some ⟨g3466, 0, none⟩))), (58, (.agg #[(.int .i64 0), (.int .i64 0), (.slice none 0 0)]))] [] (fun fb => by kernel_rfl) rfl trivial ?_
    refine WL.store hS3780 0 rfl [(0, (.int .i64 0)), (1, (.int .i64 0)), (2, (.slice none 0 0))] #[(.int .i64 0), (.int .i64 0), (.slice none 0 0)] (fun fb => by kernel_rfl) (by kernel_rfl) rfl [1, 2] (by decide) (by decide) (fun w3783 hS3784 => ?_)
    refine ⟨trivial, ?_⟩
    refine seg 3 [] [4, 5] [(4, (.pointer (some ⟨g3466, 0, none⟩))), (5, (.int .i64 6))] [] (fun fb => by kernel_rfl) rfl trivial ?_
    refine WL.done rfl ?_
    refine WX.next ?_
    refine WC.ret ?_
    have hS3785 := hS3784.nilrow 3 encInt
    injection hf with hf
    subst hf
    exact WX.thenR (WX.ret_ [.v (.int .i64 0), .v (.int .i64 0), .v (.slice none 0 0)] (.tuple #[(.agg #[(.int .i64 0), (.int .i64 0), (.slice none ([] : List Int).length 0)]), (.int .i64 6)]) [.cell ⟨g3466, 0, none⟩ (.int .i64 0), .cell ⟨g3466, 1, none⟩ (.int .i64 0), .cell ⟨g3466, 2, none⟩ (.slice none 0 0)] (fun fb => by kernel_rfl) ⟨hS3784.cell 0 rfl 0 rfl, hS3784.cell 0 rfl 1 rfl, hS3784.cell 0 rfl 2 rfl, trivial⟩ ⟨_, rfl, none, 0, rfl, (hS3785.sub [0] (by decide)).noR⟩)
  refine WC.condF2 (fun fb => by kernel_rfl) h3782 ?_
  refine WC.skip ?_
  refine WX.next ?_
  refine WC.seq ?_
  refine WC.region ?_
  refine seg 1 [.v (.int .i64 x3694.1), .v (.int .i64 x3694.2.1), .v (.slice A3690 x3694.2.2.1.length c3691)] [4, 59] [(4, (.pointer (some ⟨g3466, 0, none⟩))), (59, (.agg #[(.int .i64 x3694.1), (.int .i64 x3694.2.1), (.slice A3690 x3694.2.2.1.length c3691)]))] [.cell ⟨g3486, 0, none⟩ (.int .i64 x3694.1), .cell ⟨g3486, 1, none⟩ (.int .i64 x3694.2.1), .cell ⟨g3486, 2, none⟩ (.slice A3690 x3694.2.2.1.length c3691)] (fun fb => by kernel_rfl) rfl ⟨hS3780.cell 1 rfl 0 rfl, hS3780.cell 1 rfl 1 rfl, hS3780.cell 1 rfl 2 rfl, trivial⟩ ?_
  refine WL.store hS3780 0 rfl [(0, (.int .i64 x3694.1)), (1, (.int .i64 x3694.2.1)), (2, (.slice A3690 x3694.2.2.1.length c3691))] #[(.int .i64 x3694.1), (.int .i64 x3694.2.1), (.slice A3690 x3694.2.2.1.length c3691)] (fun fb => by kernel_rfl) (by kernel_rfl) rfl [1, 2] (by decide) (by decide) (fun w3786 hS3787 => ?_)
  refine ⟨trivial, ?_⟩
  refine seg 3 [] [4, 5] [(4, (.pointer (some ⟨g3466, 0, none⟩))), (5, (.int .i64 0))] [] (fun fb => by kernel_rfl) rfl trivial ?_
  refine WL.done rfl ?_
  refine WX.next ?_
  refine WC.ret ?_
  injection hf with hf
  subst hf
  exact WX.ret_ [.v (.int .i64 x3694.1), .v (.int .i64 x3694.2.1), .v (.slice A3690 x3694.2.2.1.length c3691)] (.tuple #[(.agg #[(.int .i64 x3694.1), (.int .i64 x3694.2.1), (.slice A3690 x3694.2.2.1.length c3691)]), (.int .i64 0)]) [.cell ⟨g3466, 0, none⟩ (.int .i64 x3694.1), .cell ⟨g3466, 1, none⟩ (.int .i64 x3694.2.1), .cell ⟨g3466, 2, none⟩ (.slice A3690 x3694.2.2.1.length c3691)] (fun fb => by kernel_rfl) ⟨hS3787.cell 0 rfl 0 rfl, hS3787.cell 0 rfl 1 rfl, hS3787.cell 0 rfl 2 rfl, trivial⟩ ⟨_, rfl, A3690, c3691, rfl, (hS3787.sub [2] (by decide)).noR⟩
theorem ref01_Same_calls (k : Nat) (p0 : List Int) (p1 : List Int) (A_p0 : Option Addr) (c_p0 : Nat) (A_p1 : Option Addr) (c_p1 : Nat) (r : Bool) (w : World) (hR0 : RO NoS w (rowR encInt A_p0 c_p0 p0)) (hR1 : RO NoS w (rowR encInt A_p1 c_p1 p1)) (hf : ref01_Same k p0 p1 = some r) :
    CallsR Try.prog 31 #[(.slice A_p0 p0.length c_p0), (.slice A_p1 p1.length c_p1)] w (fun v w' => v = (.bool r) ∧ Keeps NoS w w') := by
  have hS : St NoS w w [rowR encInt A_p0 c_p0 p0, rowR encInt A_p1 c_p1 p1] [] := St.init (ro_cons hR0 (ro_cons hR1 (ro_nil _ _)))
  refine enter 26 Try.func31 rfl Try.ntmps31 rfl ?_
  unfold ref01_Same at hf
  refine WC.seq ?_
  refine WC.region ?_
  refine seg 1 [] [0, 1] [(0, (.slice A_p0 p0.length c_p0)), (1, (.slice A_p1 p1.length c_p1))] [] (fun fb => by kernel_rfl) rfl trivial ?_
  refine WL.done rfl ?_
  refine WX.next ?_
  refine WC.seq ?_
  refine WC.seq ?_
  refine WC.region ?_
  refine seg 5 [] [0, 1, 10] [(0, (.slice A_p0 p0.length c_p0)), (1, (.slice A_p1 p1.length c_p1)), (10, (.bool ((p0.length : Int) != (p1.length : Int))))] [] (fun fb => by kernel_rfl) rfl trivial ?_
  refine WL.done rfl ?_
  refine WX.next ?_
  rcases br_some hf with ⟨h3859, hf⟩ | ⟨h3859, hf⟩
  · refine WC.condT2 (fun fb => by kernel_rfl) h3859 ?_
    refine WC.seq ?_
    refine WC.region ?_
    refine seg 1 [] [4] [(4, (.bool false))] [] (fun fb => by kernel_rfl) rfl trivial ?_
    refine WL.done rfl ?_
    refine WX.next ?_
    refine WC.ret ?_
    injection hf with hf
    subst hf
    exact WX.thenR (WX.ret_ [] (.bool false) [] (fun fb => by kernel_rfl) trivial ⟨_, rfl, rfl, hS.keep⟩)
  refine WC.condF2 (fun fb => by kernel_rfl) h3859 ?_
  refine WC.skip ?_
  refine WX.next ?_
  refine WC.seq ?_
  refine WC.seq ?_
  refine WC.region ?_
  refine seg 1 [] [0, 1, 5] [(0, (.slice A_p0 p0.length c_p0)), (1, (.slice A_p1 p1.length c_p1)), (5, (.int .i64 0))] [] (fun fb => by kernel_rfl) rfl trivial ?_
  refine WL.done rfl ?_
  refine WX.next ?_
  obtain ⟨x3882, hx3883, hf⟩ := bind_some hf
  refine WC.cutN (T := Unit) (fun t => []) (fun t w1 => St NoS w w1 [rowR encInt A_p0 c_p0 p0, rowR encInt A_p1 c_p1 p1] [] ∧ x3882 = .inr t) (fun Kx3882 => ?_) ?_
  ·
    refine WC.block ?_
    refine WC.loop (T := Int) (fun t => [(0, (.slice A_p0 p0.length c_p0)), (1, (.slice A_p1 p1.length c_p1)), (5, (.int .i64 t))]) (fun n t w1 => St NoS w w1 [rowR encInt A_p0 c_p0 p0, rowR encInt A_p1 c_p1 p1] [] ∧ ref01_Same.l0 n t p0 p1 = some x3882) k 0 [0, 1, 5] rfl ⟨(hS.subR [0, 1]).sub [] (by decide), hx3883⟩ ?_
    rintro k3884 x3881 w3885 ⟨hS3886, hl3887⟩
    cases k3884 with
    | zero => rw [ref01_Same.l0] at hl3887; cases hl3887
    | succ k3884 =>
      rw [ref01_Same.l0] at hl3887
      refine WC.seq ?_
      refine WC.seq ?_
      refine WC.region ?_
      refine seg 4 [] [0, 1, 5, 14] [(0, (.slice A_p0 p0.length c_p0)), (1, (.slice A_p1 p1.length c_p1)), (5, (.int .i64 x3881)), (14, (.bool (decide (x3881 < (p0.length : Int)))))] [] (fun fb => by kernel_rfl) rfl trivial ?_
      refine WL.done rfl ?_
      refine WX.next ?_
      rcases br_some hl3887 with ⟨h3888, hl3887⟩ | ⟨h3888, hl3887⟩
      · refine WC.condT2 (fun fb => by kernel_rfl) h3888 ?_
        refine WC.skip ?_
        refine WX.next ?_
        refine WC.seq ?_
        refine WC.block ?_
        refine WC.seq ?_
        obtain ⟨h3895, hl3887⟩ := as_some hl3887
        obtain ⟨h3896, hl3887⟩ := as_some hl3887
        refine WC.regionD ([(3, ((adr A_p0).add ((x3881).toNat * 1)), (.int .i64 (rdD p0 x3881 0))), (7, ((adr A_p1).add ((x3881).toNat * 1)), (.int .i64 (rdD p1 x3881 0)))], [0, 1, 2, 3, 4, 5, 6, 7, 8], [[], [], [0, 1], [0, 1, 2], [], [], [4, 5], [4, 5, 6], [0, 1, 2, 3, 4, 5, 6, 7]]) [[0, 1, 2, 3, 4, 5, 6, 7, 8]] (by kernel_rfl) (by kernel_rfl) (NoPanic.seq (NoPanic.block (NoPanic.seq (NoPanic.seq (NoPanic.block (NoPanic.seq (NoPanic.body))))))) ?_
        have hS3892 := hS3886.drew
        revert hS3892
        generalize World.drew w3885 = w3891
        intro hS3892
        refine ⟨⟨rowR.cell (hS3892.rd 0).1 0 h3895.1 h3895.2 0 rfl, rowR.cell (hS3892.rd 1).1 0 h3896.1 h3896.2 0 rfl, trivial⟩, forallC ?_ (forallN)⟩
        refine segF 9 [.v (.int .i64 (rdD p0 x3881 0)), .v (.int .i64 (rdD p1 x3881 0))] [0, 1, 5, 25] [(0, (.slice A_p0 p0.length c_p0)), (1, (.slice A_p1 p1.length c_p1)), (5, (.int .i64 x3881)), (25, (.bool ((rdD p0 x3881 0) != (rdD p1 x3881 0))))] [.idx A_p0 x3881 p0.length, .idx A_p1 x3881 p1.length] [0, 1] [(3, ((adr A_p0).add ((x3881).toNat * 1)), (.int .i64 (rdD p0 x3881 0))), (7, ((adr A_p1).add ((x3881).toNat * 1)), (.int .i64 (rdD p1 x3881 0)))] (fun fb => by kernel_rfl) rfl ⟨rowR.adr (hS3892.rd 0).1 h3895.1 h3895.2, rowR.adr (hS3892.rd 1).1 h3896.1 h3896.2, trivial⟩ rfl ?_
        refine WL.done rfl ?_
        refine WX.next ?_
        rcases br_some hl3887 with ⟨h3897, hl3887⟩ | ⟨h3897, hl3887⟩
        · refine WC.condT2 (fun fb => by kernel_rfl) h3897 ?_
          refine WC.seq ?_
          refine WC.region ?_
          refine seg 1 [] [4] [(4, (.bool false))] [] (fun fb => by kernel_rfl) rfl trivial ?_
          refine WL.done rfl ?_
          refine WX.next ?_
          refine WC.ret ?_
          injection hl3887 with hl3887
          subst hl3887
          injection hf with hf
          subst hf
          exact WX.blockR (WX.thenR (WX.thenR (WX.blockR (WX.thenR (WX.ret_ [] (.bool false) [] (fun fb => by kernel_rfl) trivial ⟨_, rfl, rfl, hS3892.keep⟩)))))
        refine WC.condF2 (fun fb => by kernel_rfl) h3897 ?_
        refine WC.skip ?_
        refine WX.blockN (WX.next ?_)
        refine WC.region ?_
        refine seg 3 [] [0, 1, 5] [(0, (.slice A_p0 p0.length c_p0)), (1, (.slice A_p1 p1.length c_p1)), (5, (.int .i64 (w64 (x3881 + 1))))] [] (fun fb => by kernel_rfl) rfl trivial ?_
        refine WL.done rfl ?_
        exact WX.again k3884 (Nat.lt_succ_self _) (w64 (x3881 + 1)) [0, 1, 5] rfl ⟨(hS3892.subR [0, 1]).sub [] (by decide), hl3887⟩
      refine WC.condF2 (fun fb => by kernel_rfl) h3888 ?_
      refine WC.exit ?_
      injection hl3887 with hl3887
      exact WX.thenX (WX.thenX (WX.blockHere (WX.to Kx3882 () [] rfl ⟨(hS3886.subR [0, 1]).sub [] (by decide), hl3887.symm⟩)))
  rintro y3901 w3898 ⟨hS3899, hq3900⟩
  subst hq3900
  have hf := sum_inr hf
  refine WX.next ?_
  refine WC.seq ?_
  refine WC.region ?_
  refine seg 1 [] [4] [(4, (.bool true))] [] (fun fb => by kernel_rfl) rfl trivial ?_
  refine WL.done rfl ?_
  refine WX.next ?_
  refine WC.ret ?_
  injection hf with hf
  subst hf
  exact WX.ret_ [] (.bool true) [] (fun fb => by kernel_rfl) trivial ⟨_, rfl, rfl, hS3899.keep⟩
theorem ref01_SamePattern_calls (k : Nat) (p0 : Pattern) (p1 : Pattern) (A_p0_Cells : Option Addr) (c_p0_Cells : Nat) (A_p1_Cells : Option Addr) (c_p1_Cells : Nat) (r : Bool) (w : World) (hR0 : RO NoS w (rowR encInt A_p0_Cells c_p0_Cells p0.Cells)) (hR1 : RO NoS w (rowR encInt A_p1_Cells c_p1_Cells p1.Cells)) (hf : ref01_SamePattern k p0 p1 = some r) :
    CallsR Try.prog 14 #[(.agg #[(.int .i64 p0.Width), (.int .i64 p0.Height), (.slice A_p0_Cells p0.Cells.length c_p0_Cells)]), (.agg #[(.int .i64 p1.Width), (.int .i64 p1.Height), (.slice A_p1_Cells p1.Cells.length c_p1_Cells)])] w (fun v w' => v = (.bool r) ∧ Keeps NoS w w') := by
  have hS : St NoS w w [rowR encInt A_p0_Cells c_p0_Cells p0.Cells, rowR encInt A_p1_Cells c_p1_Cells p1.Cells] [] := St.init (ro_cons hR0 (ro_cons hR1 (ro_nil _ _)))
  refine enter 24 Try.func14 rfl Try.ntmps14 rfl ?_
  unfold ref01_SamePattern at hf
  refine WC.seq ?_
  refine WC.region ?_
  refine WL.new hS 2 [] (fun g => (.pointer (some ⟨g, 0, none⟩))) (.cells #[(.int .i64 p0.Width), (.int .i64 p0.Height), (.slice A_p0_Cells p0.Cells.length c_p0_Cells)] 31 (0, 0)) [] (fun fb g => by kernel_rfl) trivial (fun g3849 w3850 hS3851 => ?_)
  refine ⟨trivial, ?_⟩
  refine WL.new hS3851 3 [] (fun g => (.pointer (some ⟨g, 0, none⟩))) (.cells #[(.int .i64 p1.Width), (.int .i64 p1.Height), (.slice A_p1_Cells p1.Cells.length c_p1_Cells)] 31 (0, 0)) [] (fun fb g => by kernel_rfl) trivial (fun g3853 w3854 hS3855 => ?_)
  refine ⟨trivial, ?_⟩
  refine seg 3 [] [2, 3] [(2, (.pointer (some ⟨g3849, 0, none⟩))), (3, (.pointer (some ⟨g3853, 0, none⟩)))] [] (fun fb => by kernel_rfl) rfl trivial ?_
  refine WL.done rfl ?_
  refine WX.next ?_
  refine WC.seq ?_
  refine WC.region ?_
  refine seg 6 [.v (.int .i64 p0.Width), .v (.int .i64 p1.Width)] [2, 3, 10] [(2, (.pointer (some ⟨g3849, 0, none⟩))), (3, (.pointer (some ⟨g3853, 0, none⟩))), (10, (.bool (p0.Width == p1.Width)))] [.cell ⟨g3849, 0, none⟩ (.int .i64 p0.Width), .cell ⟨g3853, 0, none⟩ (.int .i64 p1.Width)] (fun fb => by kernel_rfl) rfl ⟨hS3855.cell 1 rfl 0 rfl, hS3855.cell 0 rfl 0 rfl, trivial⟩ ?_
  refine WL.cutV (T := Bool) 12 (fun t => [(16, (.bool t)), (2, (.pointer (some ⟨g3849, 0, none⟩))), (3, (.pointer (some ⟨g3853, 0, none⟩)))]) (fun t => t = ((p0.Width == p1.Width) && (p0.Height == p1.Height))) (fun K => ?_) ?_
  ·
    rcases Bool.eq_false_or_eq_true (p0.Width == p1.Width) with h3857 | h3857
    ·
      refine WL.setB 10 h3857 rfl ?_
      refine seg 12 [.v (.int .i64 p0.Height), .v (.int .i64 p1.Height)] [2, 3, 16] [(2, (.pointer (some ⟨g3849, 0, none⟩))), (3, (.pointer (some ⟨g3853, 0, none⟩))), (16, (.bool (p0.Height == p1.Height)))] [.cell ⟨g3849, 1, none⟩ (.int .i64 p0.Height), .cell ⟨g3853, 1, none⟩ (.int .i64 p1.Height)] (fun fb => by kernel_rfl) rfl ⟨hS3855.cell 1 rfl 1 rfl, hS3855.cell 0 rfl 1 rfl, trivial⟩ ?_
      exact WL.toV K (p0.Height == p1.Height) [16, 2, 3] rfl (by rw [h3857]; rfl)
    refine WL.setB 10 h3857 rfl ?_
    refine seg 12 [] [2, 3, 16] [(2, (.pointer (some ⟨g3849, 0, none⟩))), (3, (.pointer (some ⟨g3853, 0, none⟩))), (16, (.bool false))] [] (fun fb => by kernel_rfl) rfl trivial ?_
    exact WL.toV K false [16, 2, 3] rfl (by rw [h3857]; rfl)
  rintro b3858 rfl
  refine seg 13 [] [2, 3, 17] [(2, (.pointer (some ⟨g3849, 0, none⟩))), (3, (.pointer (some ⟨g3853, 0, none⟩))), (17, (.bool ((p0.Width == p1.Width) && (p0.Height == p1.Height))))] [] (fun fb => by kernel_rfl) rfl trivial ?_
  obtain ⟨x3909, hx3910, hf⟩ := bind_some hf
  refine WL.cutW (T := Bool) 19 (fun t => [(23, (.bool t))]) (fun t w1 => (St NoS w w1 [rowR encInt A_p0_Cells c_p0_Cells p0.Cells, rowR encInt A_p1_Cells c_p1_Cells p1.Cells] [] ∧ x3909 = t) ∧ CellsOK [] w1) (fun K => ?_) ?_
  ·
    rcases br_some hx3910 with ⟨h3911, hx3910⟩ | ⟨h3911, hx3910⟩
    ·
      refine WL.setB 17 h3911 rfl ?_
      refine seg 17 [.v (.slice A_p0_Cells p0.Cells.length c_p0_Cells), .v (.slice A_p1_Cells p1.Cells.length c_p1_Cells)] [17, 19, 21] [(17, (.bool true)), (19, (.slice A_p0_Cells p0.Cells.length c_p0_Cells)), (21, (.slice A_p1_Cells p1.Cells.length c_p1_Cells))] [.cell ⟨g3849, 2, none⟩ (.slice A_p0_Cells p0.Cells.length c_p0_Cells), .cell ⟨g3853, 2, none⟩ (.slice A_p1_Cells p1.Cells.length c_p1_Cells)] (fun fb => by kernel_rfl) rfl ⟨hS3855.cell 1 rfl 2 rfl, hS3855.cell 0 rfl 2 rfl, trivial⟩ ?_
      obtain ⟨t3912, ht3913, hx3910⟩ := bind_some hx3910
      refine WL.call (some 22) 31 #[(.slice A_p0_Cells p0.Cells.length c_p0_Cells), (.slice A_p1_Cells p1.Cells.length c_p1_Cells)] (fun fb => by kernel_rfl) (ref01_Same_calls _ p0.Cells p1.Cells A_p0_Cells c_p0_Cells A_p1_Cells c_p1_Cells t3912 _ (hS3855.rd 0) (hS3855.rd 1) ht3913) (fun v w3914 hR3915 => ?_)
      obtain ⟨rfl, hk_⟩ := hR3915
      have hS3916 := hS3855.keepN hk_
      refine ⟨trivial, ?_⟩
      refine seg 19 [] [23] [(23, (.bool t3912))] [] (fun fb => by kernel_rfl) rfl trivial ?_
      injection hx3910 with hx3910
      exact WL.to K t3912 [23] rfl ⟨⟨(hS3916.subR [0, 1]).sub [] (by decide), hx3910.symm⟩, trivial⟩
    refine WL.setB 17 h3911 rfl ?_
    refine seg 19 [] [23] [(23, (.bool false))] [] (fun fb => by kernel_rfl) rfl trivial ?_
    injection hx3910 with hx3910
    exact WL.to K false [23] rfl ⟨⟨(hS3855.subR [0, 1]).sub [] (by decide), hx3910.symm⟩, trivial⟩
  rintro y3917 w3919 ⟨⟨hS3920, hq3918⟩, hF3921⟩
  subst hq3918
  refine seg 20 [] [4] [(4, (.bool x3909))] [] (fun fb => by kernel_rfl) rfl trivial ?_
  refine WL.done rfl ?_
  refine WX.next ?_
  refine WC.ret ?_
  injection hf with hf
  subst hf
  exact WX.ret_ [] (.bool x3909) [] (fun fb => by kernel_rfl) trivial ⟨_, rfl, rfl, hS3920.keep⟩
theorem law08_MachineOnly_calls (k : Nat) (p0 : Machine) (p1 : Pattern) (A_p0_Actions : Option Addr) (c_p0_Actions : Nat) (A_p1_Cells : Option Addr) (c_p1_Cells : Nat) (r : Bool) (w : World) (hR0 : RO NoS w (rowR enc_Action A_p0_Actions c_p0_Actions p0.Actions)) (hR1 : RO NoS w (rowR encInt A_p1_Cells c_p1_Cells p1.Cells)) (hf : law08_MachineOnly k p0 p1 = some r) :
    CallsR Try.prog 7 #[(.agg #[(.int .i64 p0.States), (.int .i64 p0.Symbols), (.slice A_p0_Actions p0.Actions.length c_p0_Actions)]), (.agg #[(.int .i64 p1.Width), (.int .i64 p1.Height), (.slice A_p1_Cells p1.Cells.length c_p1_Cells)])] w (fun v w' => v = (.bool r) ∧ Keeps NoS w w') := by
  have hS : St NoS w w [rowR enc_Action A_p0_Actions c_p0_Actions p0.Actions, rowR encInt A_p1_Cells c_p1_Cells p1.Cells] [] := St.init (ro_cons hR0 (ro_cons hR1 (ro_nil _ _)))
  refine enter 147 Try.func7 rfl Try.ntmps7 rfl ?_
  unfold law08_MachineOnly at hf
  refine WC.seq ?_
  refine WC.region ?_
  refine WL.new hS 2 [] (fun g => (.pointer (some ⟨g, 0, none⟩))) (.cells #[(.int .i64 p0.States), (.int .i64 p0.Symbols), (.slice A_p0_Actions p0.Actions.length c_p0_Actions)] 24 (0, 0)) [] (fun fb g => by kernel_rfl) trivial (fun g1 w2 hS3 => ?_)
  refine ⟨trivial, ?_⟩
  refine WL.new hS3 3 [] (fun g => (.pointer (some ⟨g, 0, none⟩))) (.cells #[(.int .i64 p1.Width), (.int .i64 p1.Height), (.slice A_p1_Cells p1.Cells.length c_p1_Cells)] 31 (0, 0)) [] (fun fb g => by kernel_rfl) trivial (fun g5 w6 hS7 => ?_)
  refine ⟨trivial, ?_⟩
  refine seg 3 [] [2, 3] [(2, (.pointer (some ⟨g1, 0, none⟩))), (3, (.pointer (some ⟨g5, 0, none⟩)))] [] (fun fb => by kernel_rfl) rfl trivial ?_
  refine WL.done rfl ?_
  refine WX.next ?_
  refine WC.seq ?_
  refine WC.seq ?_
  refine WC.region ?_
  refine seg 5 [.v (.slice A_p0_Actions p0.Actions.length c_p0_Actions)] [2, 3, 21] [(2, (.pointer (some ⟨g1, 0, none⟩))), (3, (.pointer (some ⟨g5, 0, none⟩))), (21, (.bool (decide ((p0.Actions.length : Int) > 200))))] [.cell ⟨g1, 2, none⟩ (.slice A_p0_Actions p0.Actions.length c_p0_Actions)] (fun fb => by kernel_rfl) rfl ⟨hS7.cell 1 rfl 2 rfl, trivial⟩ ?_
  refine WL.cutV (T := Bool) 10 (fun t => [(26, (.bool t)), (2, (.pointer (some ⟨g1, 0, none⟩))), (3, (.pointer (some ⟨g5, 0, none⟩)))]) (fun t => t = ((decide ((p0.Actions.length : Int) > 200)) || (decide ((p1.Cells.length : Int) > 6000)))) (fun K => ?_) ?_
  ·
    rcases Bool.eq_false_or_eq_true (decide ((p0.Actions.length : Int) > 200)) with h9 | h9
    ·
      refine WL.setB 21 h9 rfl ?_
      refine seg 10 [] [2, 3, 26] [(2, (.pointer (some ⟨g1, 0, none⟩))), (3, (.pointer (some ⟨g5, 0, none⟩))), (26, (.bool true))] [] (fun fb => by kernel_rfl) rfl trivial ?_
      exact WL.toV K true [26, 2, 3] rfl (by rw [h9]; rfl)
    refine WL.setB 21 h9 rfl ?_
    refine seg 10 [.v (.slice A_p1_Cells p1.Cells.length c_p1_Cells)] [2, 3, 26] [(2, (.pointer (some ⟨g1, 0, none⟩))), (3, (.pointer (some ⟨g5, 0, none⟩))), (26, (.bool (decide ((p1.Cells.length : Int) > 6000))))] [.cell ⟨g5, 2, none⟩ (.slice A_p1_Cells p1.Cells.length c_p1_Cells)] (fun fb => by kernel_rfl) rfl ⟨hS7.cell 0 rfl 2 rfl, trivial⟩ ?_
    exact WL.toV K (decide ((p1.Cells.length : Int) > 6000)) [26, 2, 3] rfl (by rw [h9]; rfl)
  rintro b10 rfl
  refine WL.done rfl ?_
  refine WX.next ?_
  rcases br_some hf with ⟨h11, hf⟩ | ⟨h11, hf⟩
  · refine WC.condT2 (fun fb => by kernel_rfl) h11 ?_
    refine WC.seq ?_
    refine WC.region ?_
    obtain ⟨t2710, ht2711, hf⟩ := bind_some hf
    refine WL.call (some 27) 11 #[] (fun fb => by kernel_rfl) (law08_awake_calls _ t2710 _ ht2711) (fun v w2712 hR2713 => ?_)
    obtain ⟨rfl, hk_⟩ := hR2713
    have hS2714 := hS7.keepN hk_
    refine ⟨trivial, ?_⟩
    refine seg 2 [] [4] [(4, (.bool t2710))] [] (fun fb => by kernel_rfl) rfl trivial ?_
    refine WL.done rfl ?_
    refine WX.next ?_
    refine WC.ret ?_
    injection hf with hf
    subst hf
    exact WX.thenR (WX.ret_ [] (.bool t2710) [] (fun fb => by kernel_rfl) trivial ⟨_, rfl, rfl, hS2714.keep⟩)
  refine WC.condF2 (fun fb => by kernel_rfl) h11 ?_
  refine WC.skip ?_
  refine WX.next ?_
  refine WC.seq ?_
  refine WC.region ?_
  refine seg 1 [.v (.int .i64 p0.States), .v (.int .i64 p0.Symbols), .v (.slice A_p0_Actions p0.Actions.length c_p0_Actions)] [2, 3, 29] [(2, (.pointer (some ⟨g1, 0, none⟩))), (3, (.pointer (some ⟨g5, 0, none⟩))), (29, (.agg #[(.int .i64 p0.States), (.int .i64 p0.Symbols), (.slice A_p0_Actions p0.Actions.length c_p0_Actions)]))] [.cell ⟨g1, 0, none⟩ (.int .i64 p0.States), .cell ⟨g1, 1, none⟩ (.int .i64 p0.Symbols), .cell ⟨g1, 2, none⟩ (.slice A_p0_Actions p0.Actions.length c_p0_Actions)] (fun fb => by kernel_rfl) rfl ⟨hS7.cell 1 rfl 0 rfl, hS7.cell 1 rfl 1 rfl, hS7.cell 1 rfl 2 rfl, trivial⟩ ?_
  obtain ⟨t2715, ht2716, hf⟩ := bind_some hf
  refine WL.call (some 30) 25 #[(.agg #[(.int .i64 p0.States), (.int .i64 p0.Symbols), (.slice A_p0_Actions p0.Actions.length c_p0_Actions)])] (fun fb => by kernel_rfl) (machine_Tiles_calls _ p0 A_p0_Actions c_p0_Actions t2715 _ (hS7.rd 0) ht2716) (fun v w2717 hR2718 => ?_)
  obtain ⟨A2720, c2721, rfl, hk_⟩ := hR2718
  have hS2719 : St NoS w w2717 [rowR enc_Action A_p0_Actions c_p0_Actions p0.Actions, rowR encInt A_p1_Cells c_p1_Cells p1.Cells] [rowO 65 enc_Tile A2720 c2721 t2715.1, blk g5 (.cells #[(.int .i64 p1.Width), (.int .i64 p1.Height), (.slice A_p1_Cells p1.Cells.length c_p1_Cells)] 31 (0, 0)), blk g1 (.cells #[(.int .i64 p0.States), (.int .i64 p0.Symbols), (.slice A_p0_Actions p0.Actions.length c_p0_Actions)] 24 (0, 0))] := hS7.call hk_ [] [0, 1] (fun g hg => hg.elim) (by simp) (by decide)
  refine ⟨trivial, ?_⟩
  refine seg 7 [] [2, 3, 5, 6] [(2, (.pointer (some ⟨g1, 0, none⟩))), (3, (.pointer (some ⟨g5, 0, none⟩))), (5, (.slice A2720 t2715.1.length c2721)), (6, (.int .i64 t2715.2))] [] (fun fb => by kernel_rfl) rfl trivial ?_
  refine WL.done rfl ?_
  refine WX.next ?_
  refine WC.seq ?_
  refine WC.seq ?_
  refine WC.region ?_
  refine seg 3 [] [2, 3, 5, 35] [(2, (.pointer (some ⟨g1, 0, none⟩))), (3, (.pointer (some ⟨g5, 0, none⟩))), (5, (.slice A2720 t2715.1.length c2721)), (35, (.bool (t2715.2 != 0)))] [] (fun fb => by kernel_rfl) rfl trivial ?_
  obtain ⟨x3319, hx3320, hf⟩ := bind_some hf
  refine WL.cutW (T := Bool) 8 (fun t => [(2, (.pointer (some ⟨g1, 0, none⟩))), (3, (.pointer (some ⟨g5, 0, none⟩))), (5, (.slice A2720 t2715.1.length c2721)), (40, (.bool t))]) (fun t w1 => (St NoS w w1 [rowR enc_Action A_p0_Actions c_p0_Actions p0.Actions, rowR encInt A_p1_Cells c_p1_Cells p1.Cells] [blk g1 (.cells #[(.int .i64 p0.States), (.int .i64 p0.Symbols), (.slice A_p0_Actions p0.Actions.length c_p0_Actions)] 24 (0, 0)), blk g5 (.cells #[(.int .i64 p1.Width), (.int .i64 p1.Height), (.slice A_p1_Cells p1.Cells.length c_p1_Cells)] 31 (0, 0)), rowO 65 enc_Tile A2720 c2721 t2715.1] ∧ x3319 = t) ∧ CellsOK [] w1) (fun K => ?_) ?_
  ·
    rcases br_some hx3320 with ⟨h3321, hx3320⟩ | ⟨h3321, hx3320⟩
    ·
      refine WL.setB 35 h3321 rfl ?_
      refine seg 8 [] [2, 3, 5, 40] [(2, (.pointer (some ⟨g1, 0, none⟩))), (3, (.pointer (some ⟨g5, 0, none⟩))), (5, (.slice A2720 t2715.1.length c2721)), (40, (.bool true))] [] (fun fb => by kernel_rfl) rfl trivial ?_
      injection hx3320 with hx3320
      exact WL.to K true [2, 3, 5, 40] rfl ⟨⟨(hS2719.subR [0, 1]).sub [2, 1, 0] (by decide), hx3320.symm⟩, trivial⟩
    refine WL.setB 35 h3321 rfl ?_
    refine seg 5 [.v (.int .i64 p1.Width), .v (.int .i64 p1.Height), .v (.slice A_p1_Cells p1.Cells.length c_p1_Cells)] [2, 3, 5, 35, 36, 37] [(2, (.pointer (some ⟨g1, 0, none⟩))), (3, (.pointer (some ⟨g5, 0, none⟩))), (5, (.slice A2720 t2715.1.length c2721)), (35, (.bool false)), (36, (.slice A2720 t2715.1.length c2721)), (37, (.agg #[(.int .i64 p1.Width), (.int .i64 p1.Height), (.slice A_p1_Cells p1.Cells.length c_p1_Cells)]))] [.cell ⟨g5, 0, none⟩ (.int .i64 p1.Width), .cell ⟨g5, 1, none⟩ (.int .i64 p1.Height), .cell ⟨g5, 2, none⟩ (.slice A_p1_Cells p1.Cells.length c_p1_Cells)] (fun fb => by kernel_rfl) rfl ⟨hS2719.cell 1 rfl 0 rfl, hS2719.cell 1 rfl 1 rfl, hS2719.cell 1 rfl 2 rfl, trivial⟩ ?_
    obtain ⟨t3322, ht3323, hx3320⟩ := bind_some hx3320
    refine WL.call (some 38) 33 #[(.slice A2720 t2715.1.length c2721), (.agg #[(.int .i64 p1.Width), (.int .i64 p1.Height), (.slice A_p1_Cells p1.Cells.length c_p1_Cells)])] (fun fb => by kernel_rfl) (tile_Fits_calls _ t2715.1 p1 A2720 c2721 A_p1_Cells c_p1_Cells t3322 _ (hS2719.ow 0).ofO (hS2719.rd 1) ht3323) (fun v w3324 hR3325 => ?_)
    obtain ⟨rfl, hk_⟩ := hR3325
    have hS3326 := hS2719.keepN hk_
    refine ⟨trivial, ?_⟩
    refine seg 8 [] [2, 3, 5, 40] [(2, (.pointer (some ⟨g1, 0, none⟩))), (3, (.pointer (some ⟨g5, 0, none⟩))), (5, (.slice A2720 t2715.1.length c2721)), (40, (.bool (!t3322)))] [] (fun fb => by kernel_rfl) rfl trivial ?_
    injection hx3320 with hx3320
    exact WL.to K (!t3322) [2, 3, 5, 40] rfl ⟨⟨(hS3326.subR [0, 1]).sub [2, 1, 0] (by decide), hx3320.symm⟩, trivial⟩
  rintro y3327 w3329 ⟨⟨hS3330, hq3328⟩, hF3331⟩
  subst hq3328
  refine WL.done rfl ?_
  refine WX.next ?_
  rcases br_some hf with ⟨h3332, hf⟩ | ⟨h3332, hf⟩
  · refine WC.condT2 (fun fb => by kernel_rfl) h3332 ?_
    refine WC.seq ?_
    refine WC.region ?_
    obtain ⟨t3333, ht3334, hf⟩ := bind_some hf
    refine WL.call (some 41) 11 #[] (fun fb => by kernel_rfl) (law08_awake_calls _ t3333 _ ht3334) (fun v w3335 hR3336 => ?_)
    obtain ⟨rfl, hk_⟩ := hR3336
    have hS3337 := hS3330.keepN hk_
    refine ⟨trivial, ?_⟩
    refine seg 2 [] [4] [(4, (.bool t3333))] [] (fun fb => by kernel_rfl) rfl trivial ?_
    refine WL.done rfl ?_
    refine WX.next ?_
    refine WC.ret ?_
    injection hf with hf
    subst hf
    exact WX.thenR (WX.ret_ [] (.bool t3333) [] (fun fb => by kernel_rfl) trivial ⟨_, rfl, rfl, hS3337.keep⟩)
  refine WC.condF2 (fun fb => by kernel_rfl) h3332 ?_
  refine WC.skip ?_
  refine WX.next ?_
  refine WC.seq ?_
  refine WC.region ?_
  refine seg 1 [] [2, 3, 5, 7] [(2, (.pointer (some ⟨g1, 0, none⟩))), (3, (.pointer (some ⟨g5, 0, none⟩))), (5, (.slice A2720 t2715.1.length c2721)), (7, (.slice none 0 0))] [] (fun fb => by kernel_rfl) rfl trivial ?_
  refine WL.done rfl ?_
  refine WX.next ?_
  refine WC.seq ?_
  refine WC.seq ?_
  refine WC.region ?_
  refine seg 1 [] [2, 3, 5, 7, 8] [(2, (.pointer (some ⟨g1, 0, none⟩))), (3, (.pointer (some ⟨g5, 0, none⟩))), (5, (.slice A2720 t2715.1.length c2721)), (7, (.slice none 0 0)), (8, (.int .i64 0))] [] (fun fb => by kernel_rfl) rfl trivial ?_
  refine WL.done rfl ?_
  refine WX.next ?_
  have hS3370 := hS3330.nilrow 3 encInt
  obtain ⟨x3378, hx3379, hf⟩ := bind_some hf
  refine WC.cutN (T := (List Int) × (Option Addr) × Nat) (fun t => [(2, (.pointer (some ⟨g1, 0, none⟩))), (3, (.pointer (some ⟨g5, 0, none⟩))), (5, (.slice A2720 t2715.1.length c2721)), (7, (.slice t.2.1 t.1.length t.2.2))]) (fun t w1 => St NoS w w1 [rowR enc_Action A_p0_Actions c_p0_Actions p0.Actions, rowR encInt A_p1_Cells c_p1_Cells p1.Cells] [blk g1 (.cells #[(.int .i64 p0.States), (.int .i64 p0.Symbols), (.slice A_p0_Actions p0.Actions.length c_p0_Actions)] 24 (0, 0)), blk g5 (.cells #[(.int .i64 p1.Width), (.int .i64 p1.Height), (.slice A_p1_Cells p1.Cells.length c_p1_Cells)] 31 (0, 0)), rowO 65 enc_Tile A2720 c2721 t2715.1, rowO 3 encInt t.2.1 t.2.2 t.1] ∧ x3378 = t.1) (fun Kx3378 => ?_) ?_
  ·
    refine WC.block ?_
    refine WC.loop (T := ((List Int) × Int) × (Option Addr) × Nat) (fun t => [(2, (.pointer (some ⟨g1, 0, none⟩))), (3, (.pointer (some ⟨g5, 0, none⟩))), (5, (.slice A2720 t2715.1.length c2721)), (7, (.slice t.2.1 t.1.1.length t.2.2)), (8, (.int .i64 t.1.2))]) (fun n t w1 => St NoS w w1 [rowR enc_Action A_p0_Actions c_p0_Actions p0.Actions, rowR encInt A_p1_Cells c_p1_Cells p1.Cells] [blk g1 (.cells #[(.int .i64 p0.States), (.int .i64 p0.Symbols), (.slice A_p0_Actions p0.Actions.length c_p0_Actions)] 24 (0, 0)), blk g5 (.cells #[(.int .i64 p1.Width), (.int .i64 p1.Height), (.slice A_p1_Cells p1.Cells.length c_p1_Cells)] 31 (0, 0)), rowO 65 enc_Tile A2720 c2721 t2715.1, rowO 3 encInt t.2.1 t.2.2 t.1.1] ∧ law08_MachineOnly.l0 n t.1.1 t.1.2 p1 t2715 = some x3378) k ((([] : List Int), 0), none, 0) [2, 3, 5, 7, 8] rfl ⟨(hS3370.subR [0, 1]).sub [1, 2, 3, 0] (by decide), hx3379⟩ ?_
    rintro k3380 ⟨⟨l3373, x3374⟩, A3371, c3372⟩ w3381 ⟨hS3382, hl3383⟩
    cases k3380 with
    | zero => rw [law08_MachineOnly.l0] at hl3383; cases hl3383
    | succ k3380 =>
      rw [law08_MachineOnly.l0] at hl3383
      refine WC.seq ?_
      refine WC.seq ?_
      refine WC.region ?_
      refine seg 4 [.v (.int .i64 p1.Width)] [2, 3, 5, 7, 8, 45] [(2, (.pointer (some ⟨g1, 0, none⟩))), (3, (.pointer (some ⟨g5, 0, none⟩))), (5, (.slice A2720 t2715.1.length c2721)), (7, (.slice A3371 l3373.length c3372)), (8, (.int .i64 x3374)), (45, (.bool (decide (x3374 < p1.Width))))] [.cell ⟨g5, 0, none⟩ (.int .i64 p1.Width)] (fun fb => by kernel_rfl) rfl ⟨hS3382.cell 1 rfl 0 rfl, trivial⟩ ?_
      refine WL.done rfl ?_
      refine WX.next ?_
      rcases br_some hl3383 with ⟨h3384, hl3383⟩ | ⟨h3384, hl3383⟩
      · refine WC.condT2 (fun fb => by kernel_rfl) h3384 ?_
        refine WC.skip ?_
        refine WX.next ?_
        refine WC.seq ?_
        refine WC.block ?_
        refine WC.region ?_
        refine seg 5 [.v (.slice A_p1_Cells p1.Cells.length c_p1_Cells)] [2, 3, 5, 8, 48, 49, 51, 52] [(2, (.pointer (some ⟨g1, 0, none⟩))), (3, (.pointer (some ⟨g5, 0, none⟩))), (5, (.slice A2720 t2715.1.length c2721)), (8, (.int .i64 x3374)), (48, (.slice A3371 l3373.length c3372)), (49, (.slice A2720 t2715.1.length c2721)), (51, (.slice A_p1_Cells p1.Cells.length c_p1_Cells)), (52, (.int .i64 x3374))] [.cell ⟨g5, 2, none⟩ (.slice A_p1_Cells p1.Cells.length c_p1_Cells)] (fun fb => by kernel_rfl) rfl ⟨hS3382.cell 1 rfl 2 rfl, trivial⟩ ?_
        obtain ⟨h3385, hl3383⟩ := as_some hl3383
        refine seg 7 [.v (.int .i64 (rdD p1.Cells x3374 0))] [2, 3, 5, 8, 48, 49, 54] [(2, (.pointer (some ⟨g1, 0, none⟩))), (3, (.pointer (some ⟨g5, 0, none⟩))), (5, (.slice A2720 t2715.1.length c2721)), (8, (.int .i64 x3374)), (48, (.slice A3371 l3373.length c3372)), (49, (.slice A2720 t2715.1.length c2721)), (54, (.int .i64 (rdD p1.Cells x3374 0)))] [.idx A_p1_Cells x3374 p1.Cells.length, .cell ((adr A_p1_Cells).add ((x3374).toNat * 1)) (.int .i64 (rdD p1.Cells x3374 0))] (fun fb => by kernel_rfl) rfl ⟨rowR.adr (hS3382.rd 1).1 h3385.1 h3385.2, rowR.cell (hS3382.rd 1).1 0 h3385.1 h3385.2 0 rfl, trivial⟩ ?_
        obtain ⟨h3386, hl3383⟩ := as_some hl3383
        refine seg 10 [.v (.int .i64 ((rdD t2715.1 (rdD p1.Cells x3374 0) z_Tile).S))] [2, 3, 5, 8, 48, 57] [(2, (.pointer (some ⟨g1, 0, none⟩))), (3, (.pointer (some ⟨g5, 0, none⟩))), (5, (.slice A2720 t2715.1.length c2721)), (8, (.int .i64 x3374)), (48, (.slice A3371 l3373.length c3372)), (57, (.int .i64 ((rdD t2715.1 (rdD p1.Cells x3374 0) z_Tile).S)))] [.idx A2720 (rdD p1.Cells x3374 0) t2715.1.length, .cell (((adr A2720).add (((rdD p1.Cells x3374 0)).toNat * 4)).add 2) (.int .i64 ((rdD t2715.1 (rdD p1.Cells x3374 0) z_Tile).S))] (fun fb => by kernel_rfl) rfl ⟨rowR.adr (rowO.rd (hS3382.own 2).1) h3386.1 h3386.2, rowR.cell (rowO.rd (hS3382.own 2).1) z_Tile h3386.1 h3386.2 2 rfl, trivial⟩ ?_
        refine WL.new hS3382 58 [] (fun g => (.slice (some ⟨g, 0, none⟩) 1 1)) (.cells #[(.int .i64 ((rdD t2715.1 (rdD p1.Cells x3374 0) z_Tile).S))] 3 (0, 0)) [] (fun fb g => by kernel_rfl) trivial (fun g3387 w3388 hS3389 => ?_)
        refine ⟨trivial, ?_⟩
        have hS3391 : St NoS w w3388 [rowR enc_Action A_p0_Actions c_p0_Actions p0.Actions, rowR encInt A_p1_Cells c_p1_Cells p1.Cells] [rowO 3 encInt (some ⟨g3387, 0, none⟩) 1 [(rdD t2715.1 (rdD p1.Cells x3374 0) z_Tile).S], blk g1 (.cells #[(.int .i64 p0.States), (.int .i64 p0.Symbols), (.slice A_p0_Actions p0.Actions.length c_p0_Actions)] 24 (0, 0)), blk g5 (.cells #[(.int .i64 p1.Width), (.int .i64 p1.Height), (.slice A_p1_Cells p1.Cells.length c_p1_Cells)] 31 (0, 0)), rowO 65 enc_Tile A2720 c2721 t2715.1, rowO 3 encInt A3371 c3372 l3373] := hS3389.map1 0 _ (fun h => rowO.ofBlk h rfl (Nat.le_of_ble_eq_true (by kernel_rfl))) (fun _ h => by obtain ⟨_, h1, h2⟩ := h; injection h1 with h1; subst h1; exact h2) [1, 2, 3, 4] (by decide) (by decide)
        obtain ⟨h3392, hl3383⟩ := as_some hl3383
        refine WL.append hS3391 4 (d := 59) (tS := 25) (z := (.int .i64 0)) (bytes := 8) (c2 := 1) rfl (fun fb => by kernel_rfl) (rowO.rd (hS3391.own 0).1) (by kernel_rfl) (by kernel_rfl) rfl (by decide) h3392 (by decide) [0, 1, 2, 3] (by decide) (by decide) (fun A3393 c3394 w3395 hS3396 => ?_)
        refine ⟨trivial, ?_⟩
        refine seg 13 [] [2, 3, 5, 7, 8] [(2, (.pointer (some ⟨g1, 0, none⟩))), (3, (.pointer (some ⟨g5, 0, none⟩))), (5, (.slice A2720 t2715.1.length c2721)), (7, (.slice A3393 (l3373 ++ [(rdD t2715.1 (rdD p1.Cells x3374 0) z_Tile).S]).length c3394)), (8, (.int .i64 x3374))] [] (fun fb => by kernel_rfl) rfl trivial ?_
        refine WL.done rfl ?_
        refine WX.blockN (WX.next ?_)
        refine WC.region ?_
        refine seg 3 [] [2, 3, 5, 7, 8] [(2, (.pointer (some ⟨g1, 0, none⟩))), (3, (.pointer (some ⟨g5, 0, none⟩))), (5, (.slice A2720 t2715.1.length c2721)), (7, (.slice A3393 (l3373 ++ [(rdD t2715.1 (rdD p1.Cells x3374 0) z_Tile).S]).length c3394)), (8, (.int .i64 (w64 (x3374 + 1))))] [] (fun fb => by kernel_rfl) rfl trivial ?_
        refine WL.done rfl ?_
        exact WX.again k3380 (Nat.lt_succ_self _) ((l3373 ++ [(rdD t2715.1 (rdD p1.Cells x3374 0) z_Tile).S], w64 (x3374 + 1)), A3393, c3394) [2, 3, 5, 7, 8] rfl ⟨(hS3396.subR [0, 1]).sub [2, 3, 4, 0] (by decide), hl3383⟩
      refine WC.condF2 (fun fb => by kernel_rfl) h3384 ?_
      refine WC.exit ?_
      injection hl3383 with hl3383
      exact WX.thenX (WX.thenX (WX.blockHere (WX.to Kx3378 (l3373, A3371, c3372) [2, 3, 5, 7] rfl ⟨(hS3382.subR [0, 1]).sub [0, 1, 2, 3] (by decide), hl3383.symm⟩)))
  rintro ⟨y3400, A3375, c3376⟩ w3397 ⟨hS3398, hq3399⟩
  subst hq3399
  refine WX.next ?_
  refine WC.seq ?_
  refine WC.seq ?_
  refine WC.region ?_
  refine seg 1 [] [2, 3, 5, 7, 9] [(2, (.pointer (some ⟨g1, 0, none⟩))), (3, (.pointer (some ⟨g5, 0, none⟩))), (5, (.slice A2720 t2715.1.length c2721)), (7, (.slice A3375 x3378.length c3376)), (9, (.int .i64 0))] [] (fun fb => by kernel_rfl) rfl trivial ?_
  refine WL.done rfl ?_
  refine WX.next ?_
  obtain ⟨x3435, hx3436, hf⟩ := bind_some hf
  refine WC.cutN (T := Unit) (fun t => [(2, (.pointer (some ⟨g1, 0, none⟩))), (3, (.pointer (some ⟨g5, 0, none⟩))), (7, (.slice A3375 x3378.length c3376))]) (fun t w1 => St NoS w w1 [rowR enc_Action A_p0_Actions c_p0_Actions p0.Actions, rowR encInt A_p1_Cells c_p1_Cells p1.Cells] [blk g1 (.cells #[(.int .i64 p0.States), (.int .i64 p0.Symbols), (.slice A_p0_Actions p0.Actions.length c_p0_Actions)] 24 (0, 0)), blk g5 (.cells #[(.int .i64 p1.Width), (.int .i64 p1.Height), (.slice A_p1_Cells p1.Cells.length c_p1_Cells)] 31 (0, 0)), rowO 3 encInt A3375 c3376 x3378] ∧ x3435 = .inr t) (fun Kx3435 => ?_) ?_
  ·
    refine WC.block ?_
    refine WC.loop (T := Int) (fun t => [(2, (.pointer (some ⟨g1, 0, none⟩))), (3, (.pointer (some ⟨g5, 0, none⟩))), (5, (.slice A2720 t2715.1.length c2721)), (7, (.slice A3375 x3378.length c3376)), (9, (.int .i64 t))]) (fun n t w1 => St NoS w w1 [rowR enc_Action A_p0_Actions c_p0_Actions p0.Actions, rowR encInt A_p1_Cells c_p1_Cells p1.Cells] [blk g1 (.cells #[(.int .i64 p0.States), (.int .i64 p0.Symbols), (.slice A_p0_Actions p0.Actions.length c_p0_Actions)] 24 (0, 0)), blk g5 (.cells #[(.int .i64 p1.Width), (.int .i64 p1.Height), (.slice A_p1_Cells p1.Cells.length c_p1_Cells)] 31 (0, 0)), rowO 65 enc_Tile A2720 c2721 t2715.1, rowO 3 encInt A3375 c3376 x3378] ∧ law08_MachineOnly.l1 n t p1 t2715 = some x3435) k 0 [2, 3, 5, 7, 9] rfl ⟨(hS3398.subR [0, 1]).sub [0, 1, 2, 3] (by decide), hx3436⟩ ?_
    rintro k3437 x3434 w3438 ⟨hS3439, hl3440⟩
    cases k3437 with
    | zero => rw [law08_MachineOnly.l1] at hl3440; cases hl3440
    | succ k3437 =>
      rw [law08_MachineOnly.l1] at hl3440
      refine WC.seq ?_
      refine WC.seq ?_
      refine WC.region ?_
      refine seg 4 [.v (.int .i64 p1.Height)] [2, 3, 5, 7, 9, 63] [(2, (.pointer (some ⟨g1, 0, none⟩))), (3, (.pointer (some ⟨g5, 0, none⟩))), (5, (.slice A2720 t2715.1.length c2721)), (7, (.slice A3375 x3378.length c3376)), (9, (.int .i64 x3434)), (63, (.bool (decide (x3434 < p1.Height))))] [.cell ⟨g5, 1, none⟩ (.int .i64 p1.Height)] (fun fb => by kernel_rfl) rfl ⟨hS3439.cell 1 rfl 1 rfl, trivial⟩ ?_
      refine WL.done rfl ?_
      refine WX.next ?_
      rcases br_some hl3440 with ⟨h3441, hl3440⟩ | ⟨h3441, hl3440⟩
      · refine WC.condT2 (fun fb => by kernel_rfl) h3441 ?_
        refine WC.skip ?_
        refine WX.next ?_
        refine WC.seq ?_
        refine WC.block ?_
        refine WC.seq ?_
        refine WC.region ?_
        refine seg 7 [.v (.slice A_p1_Cells p1.Cells.length c_p1_Cells), .v (.int .i64 p1.Width)] [2, 3, 5, 7, 9, 66, 68, 72] [(2, (.pointer (some ⟨g1, 0, none⟩))), (3, (.pointer (some ⟨g5, 0, none⟩))), (5, (.slice A2720 t2715.1.length c2721)), (7, (.slice A3375 x3378.length c3376)), (9, (.int .i64 x3434)), (66, (.slice A2720 t2715.1.length c2721)), (68, (.slice A_p1_Cells p1.Cells.length c_p1_Cells)), (72, (.int .i64 (w64 (x3434 * p1.Width))))] [.cell ⟨g5, 2, none⟩ (.slice A_p1_Cells p1.Cells.length c_p1_Cells), .cell ⟨g5, 0, none⟩ (.int .i64 p1.Width)] (fun fb => by kernel_rfl) rfl ⟨hS3439.cell 1 rfl 2 rfl, hS3439.cell 1 rfl 0 rfl, trivial⟩ ?_
        obtain ⟨h3442, hl3440⟩ := as_some hl3440
        refine seg 9 [.v (.int .i64 (rdD p1.Cells (w64 (x3434 * p1.Width)) 0))] [2, 3, 5, 7, 9, 66, 74] [(2, (.pointer (some ⟨g1, 0, none⟩))), (3, (.pointer (some ⟨g5, 0, none⟩))), (5, (.slice A2720 t2715.1.length c2721)), (7, (.slice A3375 x3378.length c3376)), (9, (.int .i64 x3434)), (66, (.slice A2720 t2715.1.length c2721)), (74, (.int .i64 (rdD p1.Cells (w64 (x3434 * p1.Width)) 0)))] [.idx A_p1_Cells (w64 (x3434 * p1.Width)) p1.Cells.length, .cell ((adr A_p1_Cells).add ((w64 (x3434 * p1.Width)).toNat * 1)) (.int .i64 (rdD p1.Cells (w64 (x3434 * p1.Width)) 0))] (fun fb => by kernel_rfl) rfl ⟨rowR.adr (hS3439.rd 1).1 h3442.1 h3442.2, rowR.cell (hS3439.rd 1).1 0 h3442.1 h3442.2 0 rfl, trivial⟩ ?_
        obtain ⟨h3443, hl3440⟩ := as_some hl3440
        refine seg 14 [.v (.int .i64 ((rdD t2715.1 (rdD p1.Cells (w64 (x3434 * p1.Width)) 0) z_Tile).W))] [2, 3, 5, 7, 9, 79] [(2, (.pointer (some ⟨g1, 0, none⟩))), (3, (.pointer (some ⟨g5, 0, none⟩))), (5, (.slice A2720 t2715.1.length c2721)), (7, (.slice A3375 x3378.length c3376)), (9, (.int .i64 x3434)), (79, (.bool (((rdD t2715.1 (rdD p1.Cells (w64 (x3434 * p1.Width)) 0) z_Tile).W) != 0)))] [.idx A2720 (rdD p1.Cells (w64 (x3434 * p1.Width)) 0) t2715.1.length, .cell (((adr A2720).add (((rdD p1.Cells (w64 (x3434 * p1.Width)) 0)).toNat * 4)).add 3) (.int .i64 ((rdD t2715.1 (rdD p1.Cells (w64 (x3434 * p1.Width)) 0) z_Tile).W))] (fun fb => by kernel_rfl) rfl ⟨rowR.adr (rowO.rd (hS3439.own 2).1) h3443.1 h3443.2, rowR.cell (rowO.rd (hS3439.own 2).1) z_Tile h3443.1 h3443.2 3 rfl, trivial⟩ ?_
        obtain ⟨b3446, hv3447, hl3440⟩ := bind_some hl3440
        refine WL.cutV (T := Unit) 30 (fun t => [(95, (.bool b3446)), (2, (.pointer (some ⟨g1, 0, none⟩))), (3, (.pointer (some ⟨g5, 0, none⟩))), (5, (.slice A2720 t2715.1.length c2721)), (7, (.slice A3375 x3378.length c3376)), (9, (.int .i64 x3434))]) (fun t => True) (fun K => ?_) ?_
        ·
          rcases br_some hv3447 with ⟨h3448, hv3447⟩ | ⟨h3448, hv3447⟩
          ·
            refine WL.setB 79 h3448 rfl ?_
            refine seg 30 [] [2, 3, 5, 7, 9, 95] [(2, (.pointer (some ⟨g1, 0, none⟩))), (3, (.pointer (some ⟨g5, 0, none⟩))), (5, (.slice A2720 t2715.1.length c2721)), (7, (.slice A3375 x3378.length c3376)), (9, (.int .i64 x3434)), (95, (.bool true))] [] (fun fb => by kernel_rfl) rfl trivial ?_
            injection hv3447 with hv3447
            subst hv3447
            exact WL.toV K () [95, 2, 3, 5, 7, 9] rfl trivial
          refine WL.setB 79 h3448 rfl ?_
          refine seg 23 [.v (.slice A_p1_Cells p1.Cells.length c_p1_Cells), .v (.int .i64 p1.Width)] [2, 3, 5, 7, 9, 79, 80, 82, 88] [(2, (.pointer (some ⟨g1, 0, none⟩))), (3, (.pointer (some ⟨g5, 0, none⟩))), (5, (.slice A2720 t2715.1.length c2721)), (7, (.slice A3375 x3378.length c3376)), (9, (.int .i64 x3434)), (79, (.bool false)), (80, (.slice A2720 t2715.1.length c2721)), (82, (.slice A_p1_Cells p1.Cells.length c_p1_Cells)), (88, (.int .i64 (w64 ((w64 ((w64 (x3434 + 1)) * p1.Width)) - 1))))] [.cell ⟨g5, 2, none⟩ (.slice A_p1_Cells p1.Cells.length c_p1_Cells), .cell ⟨g5, 0, none⟩ (.int .i64 p1.Width)] (fun fb => by kernel_rfl) rfl ⟨hS3439.cell 1 rfl 2 rfl, hS3439.cell 1 rfl 0 rfl, trivial⟩ ?_
          obtain ⟨h3449, hv3447⟩ := as_some hv3447
          refine seg 25 [.v (.int .i64 (rdD p1.Cells (w64 ((w64 ((w64 (x3434 + 1)) * p1.Width)) - 1)) 0))] [2, 3, 5, 7, 9, 79, 80, 90] [(2, (.pointer (some ⟨g1, 0, none⟩))), (3, (.pointer (some ⟨g5, 0, none⟩))), (5, (.slice A2720 t2715.1.length c2721)), (7, (.slice A3375 x3378.length c3376)), (9, (.int .i64 x3434)), (79, (.bool false)), (80, (.slice A2720 t2715.1.length c2721)), (90, (.int .i64 (rdD p1.Cells (w64 ((w64 ((w64 (x3434 + 1)) * p1.Width)) - 1)) 0)))] [.idx A_p1_Cells (w64 ((w64 ((w64 (x3434 + 1)) * p1.Width)) - 1)) p1.Cells.length, .cell ((adr A_p1_Cells).add ((w64 ((w64 ((w64 (x3434 + 1)) * p1.Width)) - 1)).toNat * 1)) (.int .i64 (rdD p1.Cells (w64 ((w64 ((w64 (x3434 + 1)) * p1.Width)) - 1)) 0))] (fun fb => by kernel_rfl) rfl ⟨rowR.adr (hS3439.rd 1).1 h3449.1 h3449.2, rowR.cell (hS3439.rd 1).1 0 h3449.1 h3449.2 0 rfl, trivial⟩ ?_
          obtain ⟨h3450, hv3447⟩ := as_some hv3447
          refine seg 30 [.v (.int .i64 ((rdD t2715.1 (rdD p1.Cells (w64 ((w64 ((w64 (x3434 + 1)) * p1.Width)) - 1)) 0) z_Tile).E))] [2, 3, 5, 7, 9, 95] [(2, (.pointer (some ⟨g1, 0, none⟩))), (3, (.pointer (some ⟨g5, 0, none⟩))), (5, (.slice A2720 t2715.1.length c2721)), (7, (.slice A3375 x3378.length c3376)), (9, (.int .i64 x3434)), (95, (.bool (((rdD t2715.1 (rdD p1.Cells (w64 ((w64 ((w64 (x3434 + 1)) * p1.Width)) - 1)) 0) z_Tile).E) != 0)))] [.idx A2720 (rdD p1.Cells (w64 ((w64 ((w64 (x3434 + 1)) * p1.Width)) - 1)) 0) t2715.1.length, .cell (((adr A2720).add (((rdD p1.Cells (w64 ((w64 ((w64 (x3434 + 1)) * p1.Width)) - 1)) 0)).toNat * 4)).add 1) (.int .i64 ((rdD t2715.1 (rdD p1.Cells (w64 ((w64 ((w64 (x3434 + 1)) * p1.Width)) - 1)) 0) z_Tile).E))] (fun fb => by kernel_rfl) rfl ⟨rowR.adr (rowO.rd (hS3439.own 2).1) h3450.1 h3450.2, rowR.cell (rowO.rd (hS3439.own 2).1) z_Tile h3450.1 h3450.2 1 rfl, trivial⟩ ?_
          injection hv3447 with hv3447
          subst hv3447
          exact WL.toV K () [95, 2, 3, 5, 7, 9] rfl trivial
        rintro _ _
        refine WL.done rfl ?_
        refine WX.next ?_
        rcases br_some hl3440 with ⟨h3451, hl3440⟩ | ⟨h3451, hl3440⟩
        · refine WC.condT2 (fun fb => by kernel_rfl) h3451 ?_
          refine WC.seq ?_
          refine WC.region ?_
          obtain ⟨t3452, ht3453, hl3440⟩ := bind_some hl3440
          refine WL.call (some 96) 11 #[] (fun fb => by kernel_rfl) (law08_awake_calls _ t3452 _ ht3453) (fun v w3454 hR3455 => ?_)
          obtain ⟨rfl, hk_⟩ := hR3455
          have hS3456 := hS3439.keepN hk_
          refine ⟨trivial, ?_⟩
          refine seg 2 [] [4] [(4, (.bool t3452))] [] (fun fb => by kernel_rfl) rfl trivial ?_
          refine WL.done rfl ?_
          refine WX.next ?_
          refine WC.ret ?_
          injection hl3440 with hl3440
          subst hl3440
          injection hf with hf
          subst hf
          exact WX.blockR (WX.thenR (WX.thenR (WX.blockR (WX.thenR (WX.ret_ [] (.bool t3452) [] (fun fb => by kernel_rfl) trivial ⟨_, rfl, rfl, hS3456.keep⟩)))))
        refine WC.condF2 (fun fb => by kernel_rfl) h3451 ?_
        refine WC.skip ?_
        refine WX.blockN (WX.next ?_)
        refine WC.region ?_
        refine seg 3 [] [2, 3, 5, 7, 9] [(2, (.pointer (some ⟨g1, 0, none⟩))), (3, (.pointer (some ⟨g5, 0, none⟩))), (5, (.slice A2720 t2715.1.length c2721)), (7, (.slice A3375 x3378.length c3376)), (9, (.int .i64 (w64 (x3434 + 1))))] [] (fun fb => by kernel_rfl) rfl trivial ?_
        refine WL.done rfl ?_
        exact WX.again k3437 (Nat.lt_succ_self _) (w64 (x3434 + 1)) [2, 3, 5, 7, 9] rfl ⟨(hS3439.subR [0, 1]).sub [0, 1, 2, 3] (by decide), hl3440⟩
      refine WC.condF2 (fun fb => by kernel_rfl) h3441 ?_
      refine WC.exit ?_
      injection hl3440 with hl3440
      exact WX.thenX (WX.thenX (WX.blockHere (WX.to Kx3435 () [2, 3, 7] rfl ⟨(hS3439.subR [0, 1]).sub [0, 1, 3] (by decide), hl3440.symm⟩)))
  rintro y3460 w3457 ⟨hS3458, hq3459⟩
  subst hq3459
  have hf := sum_inr hf
  refine WX.next ?_
  refine WC.seq ?_
  refine WC.region ?_
  refine seg 2 [.v (.int .i64 p0.States), .v (.int .i64 p0.Symbols), .v (.slice A_p0_Actions p0.Actions.length c_p0_Actions)] [2, 3, 98, 99] [(2, (.pointer (some ⟨g1, 0, none⟩))), (3, (.pointer (some ⟨g5, 0, none⟩))), (98, (.agg #[(.int .i64 p0.States), (.int .i64 p0.Symbols), (.slice A_p0_Actions p0.Actions.length c_p0_Actions)])), (99, (.slice A3375 x3378.length c3376))] [.cell ⟨g1, 0, none⟩ (.int .i64 p0.States), .cell ⟨g1, 1, none⟩ (.int .i64 p0.Symbols), .cell ⟨g1, 2, none⟩ (.slice A_p0_Actions p0.Actions.length c_p0_Actions)] (fun fb => by kernel_rfl) rfl ⟨hS3458.cell 0 rfl 0 rfl, hS3458.cell 0 rfl 1 rfl, hS3458.cell 0 rfl 2 rfl, trivial⟩ ?_
  obtain ⟨t3788, ht3789, hf⟩ := bind_some hf
  refine WL.call (some 100) 27 #[(.agg #[(.int .i64 p0.States), (.int .i64 p0.Symbols), (.slice A_p0_Actions p0.Actions.length c_p0_Actions)]), (.slice A3375 x3378.length c3376)] (fun fb => by kernel_rfl) (machine_Read_calls _ p0 x3378 A_p0_Actions c_p0_Actions A3375 c3376 t3788 _ (hS3458.rd 0) (hS3458.ow 2).ofO ht3789) (fun v w3790 hR3791 => ?_)
  obtain ⟨A3793, c3794, rfl, hk_⟩ := hR3791
  have hS3792 : St NoS w w3790 [rowR enc_Action A_p0_Actions c_p0_Actions p0.Actions, rowR encInt A_p1_Cells c_p1_Cells p1.Cells] [rowO 3 encInt A3793 c3794 t3788.1.Cells, blk g1 (.cells #[(.int .i64 p0.States), (.int .i64 p0.Symbols), (.slice A_p0_Actions p0.Actions.length c_p0_Actions)] 24 (0, 0)), blk g5 (.cells #[(.int .i64 p1.Width), (.int .i64 p1.Height), (.slice A_p1_Cells p1.Cells.length c_p1_Cells)] 31 (0, 0)), rowO 3 encInt A3375 c3376 x3378] := hS3458.call hk_ [] [0, 1, 2] (fun g hg => hg.elim) (by simp) (by decide)
  refine ⟨trivial, ?_⟩
  refine seg 6 [] [2, 3, 101, 102] [(2, (.pointer (some ⟨g1, 0, none⟩))), (3, (.pointer (some ⟨g5, 0, none⟩))), (101, (.agg #[(.int .i64 t3788.1.State), (.int .i64 t3788.1.At), (.slice A3793 t3788.1.Cells.length c3794)])), (102, (.int .i64 t3788.2))] [] (fun fb => by kernel_rfl) rfl trivial ?_
  refine WL.new hS3792 10 [] (fun g => (.pointer (some ⟨g, 0, none⟩))) (.cells #[(.int .i64 0), (.int .i64 0), (.slice none 0 0)] 27 (0, 0)) [] (fun fb g => by kernel_rfl) trivial (fun g3795 w3796 hS3797 => ?_)
  refine ⟨trivial, ?_⟩
  refine WL.store hS3797 0 rfl [(0, (.int .i64 t3788.1.State)), (1, (.int .i64 t3788.1.At)), (2, (.slice A3793 t3788.1.Cells.length c3794))] #[(.int .i64 t3788.1.State), (.int .i64 t3788.1.At), (.slice A3793 t3788.1.Cells.length c3794)] (fun fb => by kernel_rfl) (by kernel_rfl) rfl [1, 2, 3, 4] (by decide) (by decide) (fun w3799 hS3800 => ?_)
  refine ⟨trivial, ?_⟩
  refine seg 9 [] [2, 3, 10, 11] [(2, (.pointer (some ⟨g1, 0, none⟩))), (3, (.pointer (some ⟨g5, 0, none⟩))), (10, (.pointer (some ⟨g3795, 0, none⟩))), (11, (.int .i64 t3788.2))] [] (fun fb => by kernel_rfl) rfl trivial ?_
  refine WL.done rfl ?_
  refine WX.next ?_
  refine WC.seq ?_
  refine WC.seq ?_
  refine WC.region ?_
  refine seg 2 [] [2, 3, 10, 11, 104] [(2, (.pointer (some ⟨g1, 0, none⟩))), (3, (.pointer (some ⟨g5, 0, none⟩))), (10, (.pointer (some ⟨g3795, 0, none⟩))), (11, (.int .i64 t3788.2)), (104, (.bool (t3788.2 != 0)))] [] (fun fb => by kernel_rfl) rfl trivial ?_
  refine WL.done rfl ?_
  refine WX.next ?_
  rcases br_some hf with ⟨h3801, hf⟩ | ⟨h3801, hf⟩
  · refine WC.condT2 (fun fb => by kernel_rfl) h3801 ?_
    refine WC.seq ?_
    refine WC.region ?_
    refine seg 3 [] [107] [(107, (.bool (t3788.2 == 6)))] [] (fun fb => by kernel_rfl) rfl trivial ?_
    obtain ⟨x3808, hx3809, hf⟩ := bind_some hf
    refine WL.cutW (T := Bool) 5 (fun t => [(109, (.bool t))]) (fun t w1 => (St NoS w w1 [rowR enc_Action A_p0_Actions c_p0_Actions p0.Actions, rowR encInt A_p1_Cells c_p1_Cells p1.Cells] [] ∧ x3808 = t) ∧ CellsOK [] w1) (fun K => ?_) ?_
    ·
      rcases br_some hx3809 with ⟨h3810, hx3809⟩ | ⟨h3810, hx3809⟩
      ·
        refine WL.setB 107 h3810 rfl ?_
        obtain ⟨t3811, ht3812, hx3809⟩ := bind_some hx3809
        refine WL.call (some 108) 11 #[] (fun fb => by kernel_rfl) (law08_awake_calls _ t3811 _ ht3812) (fun v w3813 hR3814 => ?_)
        obtain ⟨rfl, hk_⟩ := hR3814
        have hS3815 := hS3800.keepN hk_
        refine ⟨trivial, ?_⟩
        refine seg 5 [] [109] [(109, (.bool t3811))] [] (fun fb => by kernel_rfl) rfl trivial ?_
        injection hx3809 with hx3809
        exact WL.to K t3811 [109] rfl ⟨⟨(hS3815.subR [0, 1]).sub [] (by decide), hx3809.symm⟩, trivial⟩
      refine WL.setB 107 h3810 rfl ?_
      refine seg 5 [] [109] [(109, (.bool false))] [] (fun fb => by kernel_rfl) rfl trivial ?_
      injection hx3809 with hx3809
      exact WL.to K false [109] rfl ⟨⟨(hS3800.subR [0, 1]).sub [] (by decide), hx3809.symm⟩, trivial⟩
    rintro y3816 w3818 ⟨⟨hS3819, hq3817⟩, hF3820⟩
    subst hq3817
    refine seg 6 [] [4] [(4, (.bool x3808))] [] (fun fb => by kernel_rfl) rfl trivial ?_
    refine WL.done rfl ?_
    refine WX.next ?_
    refine WC.ret ?_
    injection hf with hf
    subst hf
    exact WX.thenR (WX.ret_ [] (.bool x3808) [] (fun fb => by kernel_rfl) trivial ⟨_, rfl, rfl, hS3819.keep⟩)
  refine WC.condF2 (fun fb => by kernel_rfl) h3801 ?_
  refine WC.skip ?_
  refine WX.next ?_
  refine WC.seq ?_
  refine WC.region ?_
  refine seg 4 [.v (.int .i64 p0.States), .v (.int .i64 p0.Symbols), .v (.slice A_p0_Actions p0.Actions.length c_p0_Actions), .v (.int .i64 t3788.1.State), .v (.int .i64 t3788.1.At), .v (.slice A3793 t3788.1.Cells.length c3794), .v (.int .i64 p1.Height)] [2, 3, 10, 111, 112, 114] [(2, (.pointer (some ⟨g1, 0, none⟩))), (3, (.pointer (some ⟨g5, 0, none⟩))), (10, (.pointer (some ⟨g3795, 0, none⟩))), (111, (.agg #[(.int .i64 p0.States), (.int .i64 p0.Symbols), (.slice A_p0_Actions p0.Actions.length c_p0_Actions)])), (112, (.agg #[(.int .i64 t3788.1.State), (.int .i64 t3788.1.At), (.slice A3793 t3788.1.Cells.length c3794)])), (114, (.int .i64 p1.Height))] [.cell ⟨g1, 0, none⟩ (.int .i64 p0.States), .cell ⟨g1, 1, none⟩ (.int .i64 p0.Symbols), .cell ⟨g1, 2, none⟩ (.slice A_p0_Actions p0.Actions.length c_p0_Actions), .cell ⟨g3795, 0, none⟩ (.int .i64 t3788.1.State), .cell ⟨g3795, 1, none⟩ (.int .i64 t3788.1.At), .cell ⟨g3795, 2, none⟩ (.slice A3793 t3788.1.Cells.length c3794), .cell ⟨g5, 1, none⟩ (.int .i64 p1.Height)] (fun fb => by kernel_rfl) rfl ⟨hS3800.cell 2 rfl 0 rfl, hS3800.cell 2 rfl 1 rfl, hS3800.cell 2 rfl 2 rfl, hS3800.cell 0 rfl 0 rfl, hS3800.cell 0 rfl 1 rfl, hS3800.cell 0 rfl 2 rfl, hS3800.cell 3 rfl 1 rfl, trivial⟩ ?_
  obtain ⟨t3821, ht3822, hf⟩ := bind_some hf
  refine WL.call (some 115) 12 #[(.agg #[(.int .i64 p0.States), (.int .i64 p0.Symbols), (.slice A_p0_Actions p0.Actions.length c_p0_Actions)]), (.agg #[(.int .i64 t3788.1.State), (.int .i64 t3788.1.At), (.slice A3793 t3788.1.Cells.length c3794)]), (.int .i64 p1.Height)] (fun fb => by kernel_rfl) (machine_Picture_calls _ p0 t3788.1 p1.Height A_p0_Actions c_p0_Actions A3793 c3794 t3821 _ (hS3800.rd 0) (hS3800.ow 1).ofO ht3822) (fun v w3823 hR3824 => ?_)
  obtain ⟨A3826, c3827, rfl, hk_⟩ := hR3824
  have hS3825 : St NoS w w3823 [rowR enc_Action A_p0_Actions c_p0_Actions p0.Actions, rowR encInt A_p1_Cells c_p1_Cells p1.Cells] [rowO 3 encInt A3826 c3827 t3821.1.Cells, blk g3795 (.cells #[(.int .i64 t3788.1.State), (.int .i64 t3788.1.At), (.slice A3793 t3788.1.Cells.length c3794)] 27 (0, 0)), rowO 3 encInt A3793 c3794 t3788.1.Cells, blk g1 (.cells #[(.int .i64 p0.States), (.int .i64 p0.Symbols), (.slice A_p0_Actions p0.Actions.length c_p0_Actions)] 24 (0, 0)), blk g5 (.cells #[(.int .i64 p1.Width), (.int .i64 p1.Height), (.slice A_p1_Cells p1.Cells.length c_p1_Cells)] 31 (0, 0)), rowO 3 encInt A3375 c3376 x3378] := hS3800.call hk_ [] [0, 1, 2, 3, 4] (fun g hg => hg.elim) (by simp) (by decide)
  refine ⟨trivial, ?_⟩
  refine seg 8 [] [2, 3, 10, 116, 117] [(2, (.pointer (some ⟨g1, 0, none⟩))), (3, (.pointer (some ⟨g5, 0, none⟩))), (10, (.pointer (some ⟨g3795, 0, none⟩))), (116, (.agg #[(.int .i64 t3821.1.Width), (.int .i64 t3821.1.Height), (.slice A3826 t3821.1.Cells.length c3827)])), (117, (.int .i64 t3821.2))] [] (fun fb => by kernel_rfl) rfl trivial ?_
  refine WL.new hS3825 12 [] (fun g => (.pointer (some ⟨g, 0, none⟩))) (.cells #[(.int .i64 0), (.int .i64 0), (.slice none 0 0)] 31 (0, 0)) [] (fun fb g => by kernel_rfl) trivial (fun g3828 w3829 hS3830 => ?_)
  refine ⟨trivial, ?_⟩
  refine WL.store hS3830 0 rfl [(0, (.int .i64 t3821.1.Width)), (1, (.int .i64 t3821.1.Height)), (2, (.slice A3826 t3821.1.Cells.length c3827))] #[(.int .i64 t3821.1.Width), (.int .i64 t3821.1.Height), (.slice A3826 t3821.1.Cells.length c3827)] (fun fb => by kernel_rfl) (by kernel_rfl) rfl [1, 2, 3, 4, 5, 6] (by decide) (by decide) (fun w3832 hS3833 => ?_)
  refine ⟨trivial, ?_⟩
  refine seg 11 [] [2, 3, 10, 12, 13] [(2, (.pointer (some ⟨g1, 0, none⟩))), (3, (.pointer (some ⟨g5, 0, none⟩))), (10, (.pointer (some ⟨g3795, 0, none⟩))), (12, (.pointer (some ⟨g3828, 0, none⟩))), (13, (.int .i64 t3821.2))] [] (fun fb => by kernel_rfl) rfl trivial ?_
  refine WL.done rfl ?_
  refine WX.next ?_
  refine WC.seq ?_
  refine WC.region ?_
  refine seg 4 [.v (.int .i64 p0.States), .v (.int .i64 p0.Symbols), .v (.slice A_p0_Actions p0.Actions.length c_p0_Actions), .v (.int .i64 t3788.1.State), .v (.int .i64 t3788.1.At), .v (.slice A3793 t3788.1.Cells.length c3794), .v (.int .i64 p1.Height)] [3, 12, 13, 119, 120, 122] [(3, (.pointer (some ⟨g5, 0, none⟩))), (12, (.pointer (some ⟨g3828, 0, none⟩))), (13, (.int .i64 t3821.2)), (119, (.agg #[(.int .i64 p0.States), (.int .i64 p0.Symbols), (.slice A_p0_Actions p0.Actions.length c_p0_Actions)])), (120, (.agg #[(.int .i64 t3788.1.State), (.int .i64 t3788.1.At), (.slice A3793 t3788.1.Cells.length c3794)])), (122, (.int .i64 p1.Height))] [.cell ⟨g1, 0, none⟩ (.int .i64 p0.States), .cell ⟨g1, 1, none⟩ (.int .i64 p0.Symbols), .cell ⟨g1, 2, none⟩ (.slice A_p0_Actions p0.Actions.length c_p0_Actions), .cell ⟨g3795, 0, none⟩ (.int .i64 t3788.1.State), .cell ⟨g3795, 1, none⟩ (.int .i64 t3788.1.At), .cell ⟨g3795, 2, none⟩ (.slice A3793 t3788.1.Cells.length c3794), .cell ⟨g5, 1, none⟩ (.int .i64 p1.Height)] (fun fb => by kernel_rfl) rfl ⟨hS3833.cell 4 rfl 0 rfl, hS3833.cell 4 rfl 1 rfl, hS3833.cell 4 rfl 2 rfl, hS3833.cell 2 rfl 0 rfl, hS3833.cell 2 rfl 1 rfl, hS3833.cell 2 rfl 2 rfl, hS3833.cell 5 rfl 1 rfl, trivial⟩ ?_
  obtain ⟨t3834, ht3835, hf⟩ := bind_some hf
  refine WL.call (some 123) 20 #[(.agg #[(.int .i64 p0.States), (.int .i64 p0.Symbols), (.slice A_p0_Actions p0.Actions.length c_p0_Actions)]), (.agg #[(.int .i64 t3788.1.State), (.int .i64 t3788.1.At), (.slice A3793 t3788.1.Cells.length c3794)]), (.int .i64 p1.Height)] (fun fb => by kernel_rfl) (machine_Run_calls _ p0 t3788.1 p1.Height A_p0_Actions c_p0_Actions A3793 c3794 t3834 _ (hS3833.rd 0) (hS3833.ow 3).ofO ht3835) (fun v w3836 hR3837 => ?_)
  obtain ⟨A3839, c3840, rfl, hk_⟩ := hR3837
  have hS3838 : St NoS w w3836 [rowR enc_Action A_p0_Actions c_p0_Actions p0.Actions, rowR encInt A_p1_Cells c_p1_Cells p1.Cells] [rowO 3 encInt A3839 c3840 t3834.1.Cells, blk g3828 (.cells #[(.int .i64 t3821.1.Width), (.int .i64 t3821.1.Height), (.slice A3826 t3821.1.Cells.length c3827)] 31 (0, 0)), rowO 3 encInt A3826 c3827 t3821.1.Cells, blk g3795 (.cells #[(.int .i64 t3788.1.State), (.int .i64 t3788.1.At), (.slice A3793 t3788.1.Cells.length c3794)] 27 (0, 0)), rowO 3 encInt A3793 c3794 t3788.1.Cells, blk g1 (.cells #[(.int .i64 p0.States), (.int .i64 p0.Symbols), (.slice A_p0_Actions p0.Actions.length c_p0_Actions)] 24 (0, 0)), blk g5 (.cells #[(.int .i64 p1.Width), (.int .i64 p1.Height), (.slice A_p1_Cells p1.Cells.length c_p1_Cells)] 31 (0, 0)), rowO 3 encInt A3375 c3376 x3378] := hS3833.call hk_ [] [0, 1, 2, 3, 4, 5, 6] (fun g hg => hg.elim) (by simp) (by decide)
  refine ⟨trivial, ?_⟩
  refine seg 9 [] [3, 12, 13, 124, 125, 126] [(3, (.pointer (some ⟨g5, 0, none⟩))), (12, (.pointer (some ⟨g3828, 0, none⟩))), (13, (.int .i64 t3821.2)), (124, (.agg #[(.int .i64 t3834.1.State), (.int .i64 t3834.1.At), (.slice A3839 t3834.1.Cells.length c3840)])), (125, (.int .i64 t3834.2.1)), (126, (.int .i64 t3834.2.2))] [] (fun fb => by kernel_rfl) rfl trivial ?_
  refine WL.new hS3838 14 [] (fun g => (.pointer (some ⟨g, 0, none⟩))) (.cells #[(.int .i64 0), (.int .i64 0), (.slice none 0 0)] 27 (0, 0)) [] (fun fb g => by kernel_rfl) trivial (fun g3841 w3842 hS3843 => ?_)
  refine ⟨trivial, ?_⟩
  refine WL.store hS3843 0 rfl [(0, (.int .i64 t3834.1.State)), (1, (.int .i64 t3834.1.At)), (2, (.slice A3839 t3834.1.Cells.length c3840))] #[(.int .i64 t3834.1.State), (.int .i64 t3834.1.At), (.slice A3839 t3834.1.Cells.length c3840)] (fun fb => by kernel_rfl) (by kernel_rfl) rfl [1, 2, 3, 4, 5, 6, 7, 8] (by decide) (by decide) (fun w3845 hS3846 => ?_)
  refine ⟨trivial, ?_⟩
  refine seg 13 [] [3, 12, 13, 15, 16] [(3, (.pointer (some ⟨g5, 0, none⟩))), (12, (.pointer (some ⟨g3828, 0, none⟩))), (13, (.int .i64 t3821.2)), (15, (.int .i64 t3834.2.1)), (16, (.int .i64 t3834.2.2))] [] (fun fb => by kernel_rfl) rfl trivial ?_
  refine WL.done rfl ?_
  refine WX.next ?_
  refine WC.seq ?_
  refine WC.region ?_
  refine seg 3 [] [3, 12, 15, 16, 129] [(3, (.pointer (some ⟨g5, 0, none⟩))), (12, (.pointer (some ⟨g3828, 0, none⟩))), (15, (.int .i64 t3834.2.1)), (16, (.int .i64 t3834.2.2)), (129, (.bool (t3821.2 == 0)))] [] (fun fb => by kernel_rfl) rfl trivial ?_
  refine WL.cutV (T := Bool) 6 (fun t => [(132, (.bool t)), (3, (.pointer (some ⟨g5, 0, none⟩))), (12, (.pointer (some ⟨g3828, 0, none⟩))), (15, (.int .i64 t3834.2.1))]) (fun t => t = ((t3821.2 == 0) && (t3834.2.2 == 0))) (fun K => ?_) ?_
  ·
    rcases Bool.eq_false_or_eq_true (t3821.2 == 0) with h3847 | h3847
    ·
      refine WL.setB 129 h3847 rfl ?_
      refine seg 6 [] [3, 12, 15, 132] [(3, (.pointer (some ⟨g5, 0, none⟩))), (12, (.pointer (some ⟨g3828, 0, none⟩))), (15, (.int .i64 t3834.2.1)), (132, (.bool (t3834.2.2 == 0)))] [] (fun fb => by kernel_rfl) rfl trivial ?_
      exact WL.toV K (t3834.2.2 == 0) [132, 3, 12, 15] rfl (by rw [h3847]; rfl)
    refine WL.setB 129 h3847 rfl ?_
    refine seg 6 [] [3, 12, 15, 132] [(3, (.pointer (some ⟨g5, 0, none⟩))), (12, (.pointer (some ⟨g3828, 0, none⟩))), (15, (.int .i64 t3834.2.1)), (132, (.bool false))] [] (fun fb => by kernel_rfl) rfl trivial ?_
    exact WL.toV K false [132, 3, 12, 15] rfl (by rw [h3847]; rfl)
  rintro b3848 rfl
  refine seg 7 [] [3, 12, 15, 133] [(3, (.pointer (some ⟨g5, 0, none⟩))), (12, (.pointer (some ⟨g3828, 0, none⟩))), (15, (.int .i64 t3834.2.1)), (133, (.bool ((t3821.2 == 0) && (t3834.2.2 == 0))))] [] (fun fb => by kernel_rfl) rfl trivial ?_
  obtain ⟨x3928, hx3929, hf⟩ := bind_some hf
  refine WL.cutW (T := Bool) 11 (fun t => [(3, (.pointer (some ⟨g5, 0, none⟩))), (15, (.int .i64 t3834.2.1)), (137, (.bool t))]) (fun t w1 => (St NoS w w1 [rowR enc_Action A_p0_Actions c_p0_Actions p0.Actions, rowR encInt A_p1_Cells c_p1_Cells p1.Cells] [blk g5 (.cells #[(.int .i64 p1.Width), (.int .i64 p1.Height), (.slice A_p1_Cells p1.Cells.length c_p1_Cells)] 31 (0, 0))] ∧ x3928 = t) ∧ CellsOK [] w1) (fun K => ?_) ?_
  ·
    rcases br_some hx3929 with ⟨h3930, hx3929⟩ | ⟨h3930, hx3929⟩
    ·
      refine WL.setB 133 h3930 rfl ?_
      refine seg 9 [.v (.int .i64 p1.Width), .v (.int .i64 p1.Height), .v (.slice A_p1_Cells p1.Cells.length c_p1_Cells), .v (.int .i64 t3821.1.Width), .v (.int .i64 t3821.1.Height), .v (.slice A3826 t3821.1.Cells.length c3827)] [3, 15, 133, 134, 135] [(3, (.pointer (some ⟨g5, 0, none⟩))), (15, (.int .i64 t3834.2.1)), (133, (.bool true)), (134, (.agg #[(.int .i64 p1.Width), (.int .i64 p1.Height), (.slice A_p1_Cells p1.Cells.length c_p1_Cells)])), (135, (.agg #[(.int .i64 t3821.1.Width), (.int .i64 t3821.1.Height), (.slice A3826 t3821.1.Cells.length c3827)]))] [.cell ⟨g5, 0, none⟩ (.int .i64 p1.Width), .cell ⟨g5, 1, none⟩ (.int .i64 p1.Height), .cell ⟨g5, 2, none⟩ (.slice A_p1_Cells p1.Cells.length c_p1_Cells), .cell ⟨g3828, 0, none⟩ (.int .i64 t3821.1.Width), .cell ⟨g3828, 1, none⟩ (.int .i64 t3821.1.Height), .cell ⟨g3828, 2, none⟩ (.slice A3826 t3821.1.Cells.length c3827)] (fun fb => by kernel_rfl) rfl ⟨hS3846.cell 7 rfl 0 rfl, hS3846.cell 7 rfl 1 rfl, hS3846.cell 7 rfl 2 rfl, hS3846.cell 2 rfl 0 rfl, hS3846.cell 2 rfl 1 rfl, hS3846.cell 2 rfl 2 rfl, trivial⟩ ?_
      obtain ⟨t3931, ht3932, hx3929⟩ := bind_some hx3929
      refine WL.call (some 136) 14 #[(.agg #[(.int .i64 p1.Width), (.int .i64 p1.Height), (.slice A_p1_Cells p1.Cells.length c_p1_Cells)]), (.agg #[(.int .i64 t3821.1.Width), (.int .i64 t3821.1.Height), (.slice A3826 t3821.1.Cells.length c3827)])] (fun fb => by kernel_rfl) (ref01_SamePattern_calls _ p1 t3821.1 A_p1_Cells c_p1_Cells A3826 c3827 t3931 _ (hS3846.rd 1) (hS3846.ow 3).ofO ht3932) (fun v w3933 hR3934 => ?_)
      obtain ⟨rfl, hk_⟩ := hR3934
      have hS3935 := hS3846.keepN hk_
      refine ⟨trivial, ?_⟩
      refine seg 11 [] [3, 15, 137] [(3, (.pointer (some ⟨g5, 0, none⟩))), (15, (.int .i64 t3834.2.1)), (137, (.bool t3931))] [] (fun fb => by kernel_rfl) rfl trivial ?_
      injection hx3929 with hx3929
      exact WL.to K t3931 [3, 15, 137] rfl ⟨⟨(hS3935.subR [0, 1]).sub [7] (by decide), hx3929.symm⟩, trivial⟩
    refine WL.setB 133 h3930 rfl ?_
    refine seg 11 [] [3, 15, 137] [(3, (.pointer (some ⟨g5, 0, none⟩))), (15, (.int .i64 t3834.2.1)), (137, (.bool false))] [] (fun fb => by kernel_rfl) rfl trivial ?_
    injection hx3929 with hx3929
    exact WL.to K false [3, 15, 137] rfl ⟨⟨(hS3846.subR [0, 1]).sub [7] (by decide), hx3929.symm⟩, trivial⟩
  rintro y3936 w3938 ⟨⟨hS3939, hq3937⟩, hF3940⟩
  subst hq3937
  refine seg 12 [] [3, 15, 138] [(3, (.pointer (some ⟨g5, 0, none⟩))), (15, (.int .i64 t3834.2.1)), (138, (.bool x3928))] [] (fun fb => by kernel_rfl) rfl trivial ?_
  refine WL.cutV (T := Bool) 17 (fun t => [(143, (.bool t))]) (fun t => t = (x3928 && (t3834.2.1 == p1.Height))) (fun K => ?_) ?_
  ·
    rcases Bool.eq_false_or_eq_true x3928 with h3941 | h3941
    ·
      refine WL.setB 138 h3941 rfl ?_
      refine seg 17 [.v (.int .i64 p1.Height)] [143] [(143, (.bool (t3834.2.1 == p1.Height)))] [.cell ⟨g5, 1, none⟩ (.int .i64 p1.Height)] (fun fb => by kernel_rfl) rfl ⟨hS3939.cell 0 rfl 1 rfl, trivial⟩ ?_
      exact WL.toV K (t3834.2.1 == p1.Height) [143] rfl (by rw [h3941]; rfl)
    refine WL.setB 138 h3941 rfl ?_
    refine seg 17 [] [143] [(143, (.bool false))] [] (fun fb => by kernel_rfl) rfl trivial ?_
    exact WL.toV K false [143] rfl (by rw [h3941]; rfl)
  rintro b3942 rfl
  refine seg 18 [] [144] [(144, (.bool (x3928 && (t3834.2.1 == p1.Height))))] [] (fun fb => by kernel_rfl) rfl trivial ?_
  obtain ⟨x3949, hx3950, hf⟩ := bind_some hf
  refine WL.cutW (T := Bool) 20 (fun t => [(146, (.bool t))]) (fun t w1 => (St NoS w w1 [rowR enc_Action A_p0_Actions c_p0_Actions p0.Actions, rowR encInt A_p1_Cells c_p1_Cells p1.Cells] [] ∧ x3949 = t) ∧ CellsOK [] w1) (fun K => ?_) ?_
  ·
    rcases br_some hx3950 with ⟨h3951, hx3950⟩ | ⟨h3951, hx3950⟩
    ·
      refine WL.setB 144 h3951 rfl ?_
      obtain ⟨t3952, ht3953, hx3950⟩ := bind_some hx3950
      refine WL.call (some 145) 11 #[] (fun fb => by kernel_rfl) (law08_awake_calls _ t3952 _ ht3953) (fun v w3954 hR3955 => ?_)
      obtain ⟨rfl, hk_⟩ := hR3955
      have hS3956 := hS3939.keepN hk_
      refine ⟨trivial, ?_⟩
      refine seg 20 [] [146] [(146, (.bool t3952))] [] (fun fb => by kernel_rfl) rfl trivial ?_
      injection hx3950 with hx3950
      exact WL.to K t3952 [146] rfl ⟨⟨(hS3956.subR [0, 1]).sub [] (by decide), hx3950.symm⟩, trivial⟩
    refine WL.setB 144 h3951 rfl ?_
    refine seg 20 [] [146] [(146, (.bool false))] [] (fun fb => by kernel_rfl) rfl trivial ?_
    injection hx3950 with hx3950
    exact WL.to K false [146] rfl ⟨⟨(hS3939.subR [0, 1]).sub [] (by decide), hx3950.symm⟩, trivial⟩
  rintro y3957 w3959 ⟨⟨hS3960, hq3958⟩, hF3961⟩
  subst hq3958
  refine seg 21 [] [4] [(4, (.bool x3949))] [] (fun fb => by kernel_rfl) rfl trivial ?_
  refine WL.done rfl ?_
  refine WX.next ?_
  refine WC.ret ?_
  injection hf with hf
  subst hf
  exact WX.ret_ [] (.bool x3949) [] (fun fb => by kernel_rfl) trivial ⟨_, rfl, rfl, hS3960.keep⟩
end Gp
