/- Walks: each function of the program computes its plain function. -/
import Derived.Test.YtamnfcbekogkdaaGx1
set_option linter.unusedVariables false
set_option linter.unusedSimpArgs false
namespace Gp
open Go Gw Go.Proofs
theorem law08_MachineSteps_calls (k : Nat) (p0 : Machine) (p1 : Config) (p2 : Int) (A_p0_Actions : Option Addr) (c_p0_Actions : Nat) (A_p1_Cells : Option Addr) (c_p1_Cells : Nat) (r : Bool) (w : World) (hR0 : RO NoS w (rowR enc_Action A_p0_Actions c_p0_Actions p0.Actions)) (hR1 : RO NoS w (rowR encInt A_p1_Cells c_p1_Cells p1.Cells)) (hf : law08_MachineSteps k p0 p1 p2 = some r) :
    CallsR Try.prog 4 #[(.agg #[(.int .i64 p0.States), (.int .i64 p0.Symbols), (.slice A_p0_Actions p0.Actions.length c_p0_Actions)]), (.agg #[(.int .i64 p1.State), (.int .i64 p1.At), (.slice A_p1_Cells p1.Cells.length c_p1_Cells)]), (.int .i64 p2)] w (fun v w' => v = (.bool r) ∧ Keeps NoS w w') := by
  have hS : St NoS w w [rowR enc_Action A_p0_Actions c_p0_Actions p0.Actions, rowR encInt A_p1_Cells c_p1_Cells p1.Cells] [] := St.init (ro_cons hR0 (ro_cons hR1 (ro_nil _ _)))
  refine enter 142 Try.func4 rfl Try.ntmps4 rfl ?_
  unfold law08_MachineSteps at hf
  refine WC.seq ?_
  refine WC.region ?_
  refine WL.new hS 3 [] (fun g => (.pointer (some ⟨g, 0, none⟩))) (.cells #[(.int .i64 p0.States), (.int .i64 p0.Symbols), (.slice A_p0_Actions p0.Actions.length c_p0_Actions)] 24 (0, 0)) [] (fun fb g => by kernel_rfl) trivial (fun g1 w2 hS3 => ?_)
  refine ⟨trivial, ?_⟩
  refine WL.new hS3 4 [] (fun g => (.pointer (some ⟨g, 0, none⟩))) (.cells #[(.int .i64 p1.State), (.int .i64 p1.At), (.slice A_p1_Cells p1.Cells.length c_p1_Cells)] 27 (0, 0)) [] (fun fb g => by kernel_rfl) trivial (fun g5 w6 hS7 => ?_)
  refine ⟨trivial, ?_⟩
  refine seg 3 [] [2, 3, 4] [(2, (.int .i64 p2)), (3, (.pointer (some ⟨g1, 0, none⟩))), (4, (.pointer (some ⟨g5, 0, none⟩)))] [] (fun fb => by kernel_rfl) rfl trivial ?_
  refine WL.done rfl ?_
  refine WX.next ?_
  refine WC.seq ?_
  refine WC.seq ?_
  refine WC.region ?_
  refine seg 2 [.v (.int .i64 p0.States), .v (.int .i64 p0.Symbols), .v (.slice A_p0_Actions p0.Actions.length c_p0_Actions), .v (.int .i64 p1.State), .v (.int .i64 p1.At), .v (.slice A_p1_Cells p1.Cells.length c_p1_Cells)] [2, 3, 4, 17, 18] [(2, (.int .i64 p2)), (3, (.pointer (some ⟨g1, 0, none⟩))), (4, (.pointer (some ⟨g5, 0, none⟩))), (17, (.agg #[(.int .i64 p0.States), (.int .i64 p0.Symbols), (.slice A_p0_Actions p0.Actions.length c_p0_Actions)])), (18, (.agg #[(.int .i64 p1.State), (.int .i64 p1.At), (.slice A_p1_Cells p1.Cells.length c_p1_Cells)]))] [.cell ⟨g1, 0, none⟩ (.int .i64 p0.States), .cell ⟨g1, 1, none⟩ (.int .i64 p0.Symbols), .cell ⟨g1, 2, none⟩ (.slice A_p0_Actions p0.Actions.length c_p0_Actions), .cell ⟨g5, 0, none⟩ (.int .i64 p1.State), .cell ⟨g5, 1, none⟩ (.int .i64 p1.At), .cell ⟨g5, 2, none⟩ (.slice A_p1_Cells p1.Cells.length c_p1_Cells)] (fun fb => by kernel_rfl) rfl ⟨hS7.cell 1 rfl 0 rfl, hS7.cell 1 rfl 1 rfl, hS7.cell 1 rfl 2 rfl, hS7.cell 0 rfl 0 rfl, hS7.cell 0 rfl 1 rfl, hS7.cell 0 rfl 2 rfl, trivial⟩ ?_
  obtain ⟨t19, ht20, hf⟩ := bind_some hf
  refine WL.call (some 19) 10 #[(.agg #[(.int .i64 p0.States), (.int .i64 p0.Symbols), (.slice A_p0_Actions p0.Actions.length c_p0_Actions)]), (.agg #[(.int .i64 p1.State), (.int .i64 p1.At), (.slice A_p1_Cells p1.Cells.length c_p1_Cells)])] (fun fb => by kernel_rfl) (law08_wide_calls p0 p1 A_p0_Actions c_p0_Actions A_p1_Cells c_p1_Cells t19 _ (hS7.rd 0) (hS7.rd 1) ht20) (fun v w21 hR22 => ?_)
  obtain ⟨rfl, hk_⟩ := hR22
  have hS23 := hS7.keepN hk_
  refine ⟨trivial, ?_⟩
  refine seg 4 [] [2, 3, 4, 20] [(2, (.int .i64 p2)), (3, (.pointer (some ⟨g1, 0, none⟩))), (4, (.pointer (some ⟨g5, 0, none⟩))), (20, (.bool t19))] [] (fun fb => by kernel_rfl) rfl trivial ?_
  refine WL.cutV (T := Bool) 11 (fun t => [(27, (.bool t)), (2, (.int .i64 p2)), (3, (.pointer (some ⟨g1, 0, none⟩))), (4, (.pointer (some ⟨g5, 0, none⟩)))]) (fun t => t = (t19 || ((decide (p2 > 3000)) && (decide (p2 ≤ 100000))))) (fun K => ?_) ?_
  ·
    rcases Bool.eq_false_or_eq_true t19 with h26 | h26
    ·
      refine WL.setB 20 h26 rfl ?_
      refine seg 11 [] [2, 3, 4, 27] [(2, (.int .i64 p2)), (3, (.pointer (some ⟨g1, 0, none⟩))), (4, (.pointer (some ⟨g5, 0, none⟩))), (27, (.bool true))] [] (fun fb => by kernel_rfl) rfl trivial ?_
      exact WL.toV K true [27, 2, 3, 4] rfl (by rw [h26]; rfl)
    refine WL.setB 20 h26 rfl ?_
    refine seg 7 [] [2, 3, 4, 20, 23] [(2, (.int .i64 p2)), (3, (.pointer (some ⟨g1, 0, none⟩))), (4, (.pointer (some ⟨g5, 0, none⟩))), (20, (.bool false)), (23, (.bool (decide (p2 > 3000))))] [] (fun fb => by kernel_rfl) rfl trivial ?_
    refine WL.cutV (T := Bool) 10 (fun t => [(26, (.bool t)), (2, (.int .i64 p2)), (3, (.pointer (some ⟨g1, 0, none⟩))), (4, (.pointer (some ⟨g5, 0, none⟩))), (20, (.bool false))]) (fun t => t = ((decide (p2 > 3000)) && (decide (p2 ≤ 100000)))) (fun K => ?_) ?_
    ·
      rcases Bool.eq_false_or_eq_true (decide (p2 > 3000)) with h27 | h27
      ·
        refine WL.setB 23 h27 rfl ?_
        refine seg 10 [] [2, 3, 4, 20, 26] [(2, (.int .i64 p2)), (3, (.pointer (some ⟨g1, 0, none⟩))), (4, (.pointer (some ⟨g5, 0, none⟩))), (20, (.bool false)), (26, (.bool (decide (p2 ≤ 100000))))] [] (fun fb => by kernel_rfl) rfl trivial ?_
        exact WL.toV K (decide (p2 ≤ 100000)) [26, 2, 3, 4, 20] rfl (by rw [h27]; rfl)
      refine WL.setB 23 h27 rfl ?_
      refine seg 10 [] [2, 3, 4, 20, 26] [(2, (.int .i64 p2)), (3, (.pointer (some ⟨g1, 0, none⟩))), (4, (.pointer (some ⟨g5, 0, none⟩))), (20, (.bool false)), (26, (.bool false))] [] (fun fb => by kernel_rfl) rfl trivial ?_
      exact WL.toV K false [26, 2, 3, 4, 20] rfl (by rw [h27]; rfl)
    rintro b28 rfl
    refine seg 11 [] [2, 3, 4, 27] [(2, (.int .i64 p2)), (3, (.pointer (some ⟨g1, 0, none⟩))), (4, (.pointer (some ⟨g5, 0, none⟩))), (27, (.bool ((decide (p2 > 3000)) && (decide (p2 ≤ 100000)))))] [] (fun fb => by kernel_rfl) rfl trivial ?_
    exact WL.toV K ((decide (p2 > 3000)) && (decide (p2 ≤ 100000))) [27, 2, 3, 4] rfl (by rw [h26]; rfl)
  rintro b29 rfl
  refine WL.done rfl ?_
  refine WX.next ?_
  rcases br_some hf with ⟨h30, hf⟩ | ⟨h30, hf⟩
  · refine WC.condT2 (fun fb => by kernel_rfl) h30 ?_
    refine WC.seq ?_
    refine WC.region ?_
    obtain ⟨t2729, ht2730, hf⟩ := bind_some hf
    refine WL.call (some 28) 11 #[] (fun fb => by kernel_rfl) (law08_awake_calls _ t2729 _ ht2730) (fun v w2731 hR2732 => ?_)
    obtain ⟨rfl, hk_⟩ := hR2732
    have hS2733 := hS23.keepN hk_
    refine ⟨trivial, ?_⟩
    refine seg 2 [] [6] [(6, (.bool t2729))] [] (fun fb => by kernel_rfl) rfl trivial ?_
    refine WL.done rfl ?_
    refine WX.next ?_
    refine WC.ret ?_
    injection hf with hf
    subst hf
    exact WX.thenR (WX.ret_ [] (.bool t2729) [] (fun fb => by kernel_rfl) trivial ⟨_, rfl, rfl, hS2733.keep⟩)
  refine WC.condF2 (fun fb => by kernel_rfl) h30 ?_
  refine WC.skip ?_
  refine WX.next ?_
  refine WC.seq ?_
  refine WC.seq ?_
  refine WC.regionD ([(0, ⟨g1, 0, none⟩, (.int .i64 p0.States)), (0, ⟨g1, 1, none⟩, (.int .i64 p0.Symbols)), (0, ⟨g1, 2, none⟩, (.slice A_p0_Actions p0.Actions.length c_p0_Actions)), (2, ⟨g1, 0, none⟩, (.int .i64 p0.States)), (2, ⟨g1, 1, none⟩, (.int .i64 p0.Symbols)), (2, ⟨g1, 2, none⟩, (.slice A_p0_Actions p0.Actions.length c_p0_Actions)), (6, ⟨g1, 0, none⟩, (.int .i64 p0.States)), (6, ⟨g1, 1, none⟩, (.int .i64 p0.Symbols)), (6, ⟨g1, 2, none⟩, (.slice A_p0_Actions p0.Actions.length c_p0_Actions)), (7, ⟨g5, 0, none⟩, (.int .i64 p1.State)), (7, ⟨g5, 1, none⟩, (.int .i64 p1.At)), (7, ⟨g5, 2, none⟩, (.slice A_p1_Cells p1.Cells.length c_p1_Cells)), (9, ⟨g1, 0, none⟩, (.int .i64 p0.States)), (9, ⟨g1, 1, none⟩, (.int .i64 p0.Symbols)), (9, ⟨g1, 2, none⟩, (.slice A_p0_Actions p0.Actions.length c_p0_Actions)), (10, ⟨g5, 0, none⟩, (.int .i64 p1.State)), (10, ⟨g5, 1, none⟩, (.int .i64 p1.At)), (10, ⟨g5, 2, none⟩, (.slice A_p1_Cells p1.Cells.length c_p1_Cells))], [0, 2, 4, 5, 6, 7, 9, 10, 12, 13], [[], [0], [], [0, 1, 2], [0, 1, 2, 3], [0, 1, 2, 3, 4], [0, 1, 2, 3, 4, 5], [0, 1, 2, 3, 4, 5], [0, 1, 2, 3, 4, 5, 6, 7], [0, 1, 2, 3, 4, 5], [0, 1, 2, 3, 4, 5], [0, 1, 2, 3, 4, 5, 6, 7, 8, 9, 10], [0, 1, 2, 3, 4, 5, 6, 7, 8, 9, 10, 11], [0, 1, 2, 3, 4, 5, 6, 7, 8, 9, 10, 11, 12]]) [[0, 2, 1, 3, 4, 5, 6, 7, 9, 10, 8, 11, 12, 13]] (by kernel_rfl) (by kernel_rfl) (NoPanic.seq (NoPanic.seq (NoPanic.body))) ?_
  have hS3025 := hS23.drew
  revert hS3025
  generalize World.drew w21 = w3024
  intro hS3025
  refine ⟨⟨hS3025.cell 1 rfl 0 rfl, hS3025.cell 1 rfl 1 rfl, hS3025.cell 1 rfl 2 rfl, hS3025.cell 1 rfl 0 rfl, hS3025.cell 1 rfl 1 rfl, hS3025.cell 1 rfl 2 rfl, hS3025.cell 1 rfl 0 rfl, hS3025.cell 1 rfl 1 rfl, hS3025.cell 1 rfl 2 rfl, hS3025.cell 0 rfl 0 rfl, hS3025.cell 0 rfl 1 rfl, hS3025.cell 0 rfl 2 rfl, hS3025.cell 1 rfl 0 rfl, hS3025.cell 1 rfl 1 rfl, hS3025.cell 1 rfl 2 rfl, hS3025.cell 0 rfl 0 rfl, hS3025.cell 0 rfl 1 rfl, hS3025.cell 0 rfl 2 rfl, trivial⟩, forallC ?_ (forallN)⟩
  refine segF 2 [.v (.int .i64 p0.States), .v (.int .i64 p0.Symbols), .v (.slice A_p0_Actions p0.Actions.length c_p0_Actions), .v (.int .i64 p0.States), .v (.int .i64 p0.Symbols), .v (.slice A_p0_Actions p0.Actions.length c_p0_Actions)] [2, 3, 4, 29, 31] [(2, (.int .i64 p2)), (3, (.pointer (some ⟨g1, 0, none⟩))), (4, (.pointer (some ⟨g5, 0, none⟩))), (29, (.agg #[(.int .i64 p0.States), (.int .i64 p0.Symbols), (.slice A_p0_Actions p0.Actions.length c_p0_Actions)])), (31, (.agg #[(.int .i64 p0.States), (.int .i64 p0.Symbols), (.slice A_p0_Actions p0.Actions.length c_p0_Actions)]))] [] [0, 1, 2, 3, 4, 5] [(0, ⟨g1, 0, none⟩, (.int .i64 p0.States)), (0, ⟨g1, 1, none⟩, (.int .i64 p0.Symbols)), (0, ⟨g1, 2, none⟩, (.slice A_p0_Actions p0.Actions.length c_p0_Actions)), (2, ⟨g1, 0, none⟩, (.int .i64 p0.States)), (2, ⟨g1, 1, none⟩, (.int .i64 p0.Symbols)), (2, ⟨g1, 2, none⟩, (.slice A_p0_Actions p0.Actions.length c_p0_Actions))] (fun fb => by kernel_rfl) rfl trivial rfl ?_
  obtain ⟨t3026, ht3027, hf⟩ := bind_some hf
  refine WL.call (some 30) 16 #[(.agg #[(.int .i64 p0.States), (.int .i64 p0.Symbols), (.slice A_p0_Actions p0.Actions.length c_p0_Actions)])] (fun fb => by kernel_rfl) (machine_Valid_calls _ p0 A_p0_Actions c_p0_Actions t3026 _ (hS3025.rd 0) ht3027) (fun v w3028 hR3029 => ?_)
  obtain ⟨rfl, hk_⟩ := hR3029
  have hS3030 := hS3025.keepN hk_
  refine ⟨⟨hS3030.cell 1 rfl 0 rfl, hS3030.cell 1 rfl 1 rfl, hS3030.cell 1 rfl 2 rfl, hS3030.cell 1 rfl 0 rfl, hS3030.cell 1 rfl 1 rfl, hS3030.cell 1 rfl 2 rfl, hS3030.cell 0 rfl 0 rfl, hS3030.cell 0 rfl 1 rfl, hS3030.cell 0 rfl 2 rfl, hS3030.cell 1 rfl 0 rfl, hS3030.cell 1 rfl 1 rfl, hS3030.cell 1 rfl 2 rfl, hS3030.cell 0 rfl 0 rfl, hS3030.cell 0 rfl 1 rfl, hS3030.cell 0 rfl 2 rfl, trivial⟩, ?_⟩
  obtain ⟨t3031, ht3032, hf⟩ := bind_some hf
  refine WL.call (some 32) 17 #[(.agg #[(.int .i64 p0.States), (.int .i64 p0.Symbols), (.slice A_p0_Actions p0.Actions.length c_p0_Actions)])] (fun fb => by kernel_rfl) (ref08_Valid_calls _ p0 A_p0_Actions c_p0_Actions t3031 _ (hS3030.rd 0) ht3032) (fun v w3033 hR3034 => ?_)
  obtain ⟨rfl, hk_⟩ := hR3034
  have hS3035 := hS3030.keepN hk_
  refine ⟨⟨hS3035.cell 1 rfl 0 rfl, hS3035.cell 1 rfl 1 rfl, hS3035.cell 1 rfl 2 rfl, hS3035.cell 0 rfl 0 rfl, hS3035.cell 0 rfl 1 rfl, hS3035.cell 0 rfl 2 rfl, hS3035.cell 1 rfl 0 rfl, hS3035.cell 1 rfl 1 rfl, hS3035.cell 1 rfl 2 rfl, hS3035.cell 0 rfl 0 rfl, hS3035.cell 0 rfl 1 rfl, hS3035.cell 0 rfl 2 rfl, trivial⟩, ?_⟩
  refine seg 6 [] [2, 3, 4, 34] [(2, (.int .i64 p2)), (3, (.pointer (some ⟨g1, 0, none⟩))), (4, (.pointer (some ⟨g5, 0, none⟩))), (34, (.bool (t3026 != t3031)))] [] (fun fb => by kernel_rfl) rfl trivial ?_
  obtain ⟨x3047, hx3048, hf⟩ := bind_some hf
  refine WL.cutW (T := Bool) 14 (fun t => [(2, (.int .i64 p2)), (3, (.pointer (some ⟨g1, 0, none⟩))), (4, (.pointer (some ⟨g5, 0, none⟩))), (42, (.bool t))]) (fun t w1 => (St NoS w w1 [rowR enc_Action A_p0_Actions c_p0_Actions p0.Actions, rowR encInt A_p1_Cells c_p1_Cells p1.Cells] [blk g1 (.cells #[(.int .i64 p0.States), (.int .i64 p0.Symbols), (.slice A_p0_Actions p0.Actions.length c_p0_Actions)] 24 (0, 0)), blk g5 (.cells #[(.int .i64 p1.State), (.int .i64 p1.At), (.slice A_p1_Cells p1.Cells.length c_p1_Cells)] 27 (0, 0))] ∧ x3047 = t) ∧ CellsOK [] w1) (fun K => ?_) ?_
  ·
    rcases br_some hx3048 with ⟨h3049, hx3048⟩ | ⟨h3049, hx3048⟩
    ·
      refine WL.setB 34 h3049 rfl ?_
      refine seg 14 [] [2, 3, 4, 42] [(2, (.int .i64 p2)), (3, (.pointer (some ⟨g1, 0, none⟩))), (4, (.pointer (some ⟨g5, 0, none⟩))), (42, (.bool true))] [] (fun fb => by kernel_rfl) rfl trivial ?_
      injection hx3048 with hx3048
      exact WL.to K true [2, 3, 4, 42] rfl ⟨⟨(hS3035.subR [0, 1]).sub [1, 0] (by decide), hx3048.symm⟩, trivial⟩
    refine WL.setB 34 h3049 rfl ?_
    refine segF 10 [.v (.int .i64 p0.States), .v (.int .i64 p0.Symbols), .v (.slice A_p0_Actions p0.Actions.length c_p0_Actions), .v (.int .i64 p1.State), .v (.int .i64 p1.At), .v (.slice A_p1_Cells p1.Cells.length c_p1_Cells), .v (.int .i64 p0.States), .v (.int .i64 p0.Symbols), .v (.slice A_p0_Actions p0.Actions.length c_p0_Actions), .v (.int .i64 p1.State), .v (.int .i64 p1.At), .v (.slice A_p1_Cells p1.Cells.length c_p1_Cells)] [2, 3, 4, 34, 35, 36, 38, 39] [(2, (.int .i64 p2)), (3, (.pointer (some ⟨g1, 0, none⟩))), (4, (.pointer (some ⟨g5, 0, none⟩))), (34, (.bool false)), (35, (.agg #[(.int .i64 p0.States), (.int .i64 p0.Symbols), (.slice A_p0_Actions p0.Actions.length c_p0_Actions)])), (36, (.agg #[(.int .i64 p1.State), (.int .i64 p1.At), (.slice A_p1_Cells p1.Cells.length c_p1_Cells)])), (38, (.agg #[(.int .i64 p0.States), (.int .i64 p0.Symbols), (.slice A_p0_Actions p0.Actions.length c_p0_Actions)])), (39, (.agg #[(.int .i64 p1.State), (.int .i64 p1.At), (.slice A_p1_Cells p1.Cells.length c_p1_Cells)]))] [] [6, 7, 8, 9, 10, 11, 12, 13, 14, 15, 16, 17] [(6, ⟨g1, 0, none⟩, (.int .i64 p0.States)), (6, ⟨g1, 1, none⟩, (.int .i64 p0.Symbols)), (6, ⟨g1, 2, none⟩, (.slice A_p0_Actions p0.Actions.length c_p0_Actions)), (7, ⟨g5, 0, none⟩, (.int .i64 p1.State)), (7, ⟨g5, 1, none⟩, (.int .i64 p1.At)), (7, ⟨g5, 2, none⟩, (.slice A_p1_Cells p1.Cells.length c_p1_Cells)), (9, ⟨g1, 0, none⟩, (.int .i64 p0.States)), (9, ⟨g1, 1, none⟩, (.int .i64 p0.Symbols)), (9, ⟨g1, 2, none⟩, (.slice A_p0_Actions p0.Actions.length c_p0_Actions)), (10, ⟨g5, 0, none⟩, (.int .i64 p1.State)), (10, ⟨g5, 1, none⟩, (.int .i64 p1.At)), (10, ⟨g5, 2, none⟩, (.slice A_p1_Cells p1.Cells.length c_p1_Cells))] (fun fb => by kernel_rfl) rfl trivial rfl ?_
    obtain ⟨t3050, ht3051, hx3048⟩ := bind_some hx3048
    refine WL.call (some 37) 18 #[(.agg #[(.int .i64 p0.States), (.int .i64 p0.Symbols), (.slice A_p0_Actions p0.Actions.length c_p0_Actions)]), (.agg #[(.int .i64 p1.State), (.int .i64 p1.At), (.slice A_p1_Cells p1.Cells.length c_p1_Cells)])] (fun fb => by kernel_rfl) (machine_Fits_calls _ p0 p1 A_p0_Actions c_p0_Actions A_p1_Cells c_p1_Cells t3050 _ (hS3035.rd 0) (hS3035.rd 1) ht3051) (fun v w3052 hR3053 => ?_)
    obtain ⟨rfl, hk_⟩ := hR3053
    have hS3054 := hS3035.keepN hk_
    refine ⟨⟨hS3054.cell 1 rfl 0 rfl, hS3054.cell 1 rfl 1 rfl, hS3054.cell 1 rfl 2 rfl, hS3054.cell 0 rfl 0 rfl, hS3054.cell 0 rfl 1 rfl, hS3054.cell 0 rfl 2 rfl, trivial⟩, ?_⟩
    obtain ⟨t3055, ht3056, hx3048⟩ := bind_some hx3048
    refine WL.call (some 40) 13 #[(.agg #[(.int .i64 p0.States), (.int .i64 p0.Symbols), (.slice A_p0_Actions p0.Actions.length c_p0_Actions)]), (.agg #[(.int .i64 p1.State), (.int .i64 p1.At), (.slice A_p1_Cells p1.Cells.length c_p1_Cells)])] (fun fb => by kernel_rfl) (ref08_Fits_calls _ p0 p1 A_p0_Actions c_p0_Actions A_p1_Cells c_p1_Cells t3055 _ (hS3054.rd 0) (hS3054.rd 1) ht3056) (fun v w3057 hR3058 => ?_)
    obtain ⟨rfl, hk_⟩ := hR3058
    have hS3059 := hS3054.keepN hk_
    refine ⟨trivial, ?_⟩
    refine seg 14 [] [2, 3, 4, 42] [(2, (.int .i64 p2)), (3, (.pointer (some ⟨g1, 0, none⟩))), (4, (.pointer (some ⟨g5, 0, none⟩))), (42, (.bool (t3050 != t3055)))] [] (fun fb => by kernel_rfl) rfl trivial ?_
    injection hx3048 with hx3048
    exact WL.to K (t3050 != t3055) [2, 3, 4, 42] rfl ⟨⟨(hS3059.subR [0, 1]).sub [1, 0] (by decide), hx3048.symm⟩, trivial⟩
  rintro y3060 w3062 ⟨⟨hS3063, hq3061⟩, hF3064⟩
  subst hq3061
  refine WL.done rfl ?_
  refine WX.next ?_
  rcases br_some hf with ⟨h3065, hf⟩ | ⟨h3065, hf⟩
  · refine WC.condT2 (fun fb => by kernel_rfl) h3065 ?_
    refine WC.seq ?_
    refine WC.region ?_
    refine seg 1 [] [6] [(6, (.bool false))] [] (fun fb => by kernel_rfl) rfl trivial ?_
    refine WL.done rfl ?_
    refine WX.next ?_
    refine WC.ret ?_
    injection hf with hf
    subst hf
    exact WX.thenR (WX.ret_ [] (.bool false) [] (fun fb => by kernel_rfl) trivial ⟨_, rfl, rfl, hS3063.keep⟩)
  refine WC.condF2 (fun fb => by kernel_rfl) h3065 ?_
  refine WC.skip ?_
  refine WX.next ?_
  refine WC.seq ?_
  refine WC.region ?_
  refine seg 2 [.v (.int .i64 p0.States), .v (.int .i64 p0.Symbols), .v (.slice A_p0_Actions p0.Actions.length c_p0_Actions), .v (.int .i64 p1.State), .v (.int .i64 p1.At), .v (.slice A_p1_Cells p1.Cells.length c_p1_Cells)] [2, 3, 4, 44, 45] [(2, (.int .i64 p2)), (3, (.pointer (some ⟨g1, 0, none⟩))), (4, (.pointer (some ⟨g5, 0, none⟩))), (44, (.agg #[(.int .i64 p0.States), (.int .i64 p0.Symbols), (.slice A_p0_Actions p0.Actions.length c_p0_Actions)])), (45, (.agg #[(.int .i64 p1.State), (.int .i64 p1.At), (.slice A_p1_Cells p1.Cells.length c_p1_Cells)]))] [.cell ⟨g1, 0, none⟩ (.int .i64 p0.States), .cell ⟨g1, 1, none⟩ (.int .i64 p0.Symbols), .cell ⟨g1, 2, none⟩ (.slice A_p0_Actions p0.Actions.length c_p0_Actions), .cell ⟨g5, 0, none⟩ (.int .i64 p1.State), .cell ⟨g5, 1, none⟩ (.int .i64 p1.At), .cell ⟨g5, 2, none⟩ (.slice A_p1_Cells p1.Cells.length c_p1_Cells)] (fun fb => by kernel_rfl) rfl ⟨hS3063.cell 0 rfl 0 rfl, hS3063.cell 0 rfl 1 rfl, hS3063.cell 0 rfl 2 rfl, hS3063.cell 1 rfl 0 rfl, hS3063.cell 1 rfl 1 rfl, hS3063.cell 1 rfl 2 rfl, trivial⟩ ?_
  obtain ⟨t3108, ht3109, hf⟩ := bind_some hf
  refine WL.call (some 46) 19 #[(.agg #[(.int .i64 p0.States), (.int .i64 p0.Symbols), (.slice A_p0_Actions p0.Actions.length c_p0_Actions)]), (.agg #[(.int .i64 p1.State), (.int .i64 p1.At), (.slice A_p1_Cells p1.Cells.length c_p1_Cells)])] (fun fb => by kernel_rfl) (machine_Step_calls _ p0 p1 A_p0_Actions c_p0_Actions A_p1_Cells c_p1_Cells t3108 _ (hS3063.rd 0) (hS3063.rd 1) ht3109) (fun v w3110 hR3111 => ?_)
  obtain ⟨A3113, c3114, rfl, hk_⟩ := hR3111
  have hS3112 : St NoS w w3110 [rowR enc_Action A_p0_Actions c_p0_Actions p0.Actions, rowR encInt A_p1_Cells c_p1_Cells p1.Cells] [rowO 3 encInt A3113 c3114 t3108.1.Cells, blk g1 (.cells #[(.int .i64 p0.States), (.int .i64 p0.Symbols), (.slice A_p0_Actions p0.Actions.length c_p0_Actions)] 24 (0, 0)), blk g5 (.cells #[(.int .i64 p1.State), (.int .i64 p1.At), (.slice A_p1_Cells p1.Cells.length c_p1_Cells)] 27 (0, 0))] := hS3063.call hk_ [] [0, 1] (fun g hg => hg.elim) (by simp) (by decide)
  refine ⟨trivial, ?_⟩
  refine seg 6 [] [2, 3, 4, 47, 48] [(2, (.int .i64 p2)), (3, (.pointer (some ⟨g1, 0, none⟩))), (4, (.pointer (some ⟨g5, 0, none⟩))), (47, (.agg #[(.int .i64 t3108.1.State), (.int .i64 t3108.1.At), (.slice A3113 t3108.1.Cells.length c3114)])), (48, (.int .i64 t3108.2))] [] (fun fb => by kernel_rfl) rfl trivial ?_
  refine WL.new hS3112 7 [] (fun g => (.pointer (some ⟨g, 0, none⟩))) (.cells #[(.int .i64 0), (.int .i64 0), (.slice none 0 0)] 27 (0, 0)) [] (fun fb g => by kernel_rfl) trivial (fun g3115 w3116 hS3117 => ?_)
  refine ⟨trivial, ?_⟩
  refine WL.store hS3117 0 rfl [(0, (.int .i64 t3108.1.State)), (1, (.int .i64 t3108.1.At)), (2, (.slice A3113 t3108.1.Cells.length c3114))] #[(.int .i64 t3108.1.State), (.int .i64 t3108.1.At), (.slice A3113 t3108.1.Cells.length c3114)] (fun fb => by kernel_rfl) (by kernel_rfl) rfl [1, 2, 3] (by decide) (by decide) (fun w3119 hS3120 => ?_)
  refine ⟨trivial, ?_⟩
  refine seg 9 [] [2, 3, 4, 7, 8] [(2, (.int .i64 p2)), (3, (.pointer (some ⟨g1, 0, none⟩))), (4, (.pointer (some ⟨g5, 0, none⟩))), (7, (.pointer (some ⟨g3115, 0, none⟩))), (8, (.int .i64 t3108.2))] [] (fun fb => by kernel_rfl) rfl trivial ?_
  refine WL.done rfl ?_
  refine WX.next ?_
  refine WC.seq ?_
  refine WC.region ?_
  refine seg 3 [.v (.int .i64 p0.States), .v (.int .i64 p0.Symbols), .v (.slice A_p0_Actions p0.Actions.length c_p0_Actions), .v (.int .i64 p1.State), .v (.int .i64 p1.At), .v (.slice A_p1_Cells p1.Cells.length c_p1_Cells)] [2, 3, 4, 7, 8, 50, 51, 52] [(2, (.int .i64 p2)), (3, (.pointer (some ⟨g1, 0, none⟩))), (4, (.pointer (some ⟨g5, 0, none⟩))), (7, (.pointer (some ⟨g3115, 0, none⟩))), (8, (.int .i64 t3108.2)), (50, (.agg #[(.int .i64 p0.States), (.int .i64 p0.Symbols), (.slice A_p0_Actions p0.Actions.length c_p0_Actions)])), (51, (.agg #[(.int .i64 p1.State), (.int .i64 p1.At), (.slice A_p1_Cells p1.Cells.length c_p1_Cells)])), (52, (.int .i64 p2))] [.cell ⟨g1, 0, none⟩ (.int .i64 p0.States), .cell ⟨g1, 1, none⟩ (.int .i64 p0.Symbols), .cell ⟨g1, 2, none⟩ (.slice A_p0_Actions p0.Actions.length c_p0_Actions), .cell ⟨g5, 0, none⟩ (.int .i64 p1.State), .cell ⟨g5, 1, none⟩ (.int .i64 p1.At), .cell ⟨g5, 2, none⟩ (.slice A_p1_Cells p1.Cells.length c_p1_Cells)] (fun fb => by kernel_rfl) rfl ⟨hS3120.cell 2 rfl 0 rfl, hS3120.cell 2 rfl 1 rfl, hS3120.cell 2 rfl 2 rfl, hS3120.cell 3 rfl 0 rfl, hS3120.cell 3 rfl 1 rfl, hS3120.cell 3 rfl 2 rfl, trivial⟩ ?_
  obtain ⟨t3121, ht3122, hf⟩ := bind_some hf
  refine WL.call (some 53) 20 #[(.agg #[(.int .i64 p0.States), (.int .i64 p0.Symbols), (.slice A_p0_Actions p0.Actions.length c_p0_Actions)]), (.agg #[(.int .i64 p1.State), (.int .i64 p1.At), (.slice A_p1_Cells p1.Cells.length c_p1_Cells)]), (.int .i64 p2)] (fun fb => by kernel_rfl) (machine_Run_calls _ p0 p1 p2 A_p0_Actions c_p0_Actions A_p1_Cells c_p1_Cells t3121 _ (hS3120.rd 0) (hS3120.rd 1) ht3122) (fun v w3123 hR3124 => ?_)
  obtain ⟨A3126, c3127, rfl, hk_⟩ := hR3124
  have hS3125 : St NoS w w3123 [rowR enc_Action A_p0_Actions c_p0_Actions p0.Actions, rowR encInt A_p1_Cells c_p1_Cells p1.Cells] [rowO 3 encInt A3126 c3127 t3121.1.Cells, blk g3115 (.cells #[(.int .i64 t3108.1.State), (.int .i64 t3108.1.At), (.slice A3113 t3108.1.Cells.length c3114)] 27 (0, 0)), rowO 3 encInt A3113 c3114 t3108.1.Cells, blk g1 (.cells #[(.int .i64 p0.States), (.int .i64 p0.Symbols), (.slice A_p0_Actions p0.Actions.length c_p0_Actions)] 24 (0, 0)), blk g5 (.cells #[(.int .i64 p1.State), (.int .i64 p1.At), (.slice A_p1_Cells p1.Cells.length c_p1_Cells)] 27 (0, 0))] := hS3120.call hk_ [] [0, 1, 2, 3] (fun g hg => hg.elim) (by simp) (by decide)
  refine ⟨trivial, ?_⟩
  refine seg 8 [] [2, 3, 4, 7, 8, 54, 55, 56] [(2, (.int .i64 p2)), (3, (.pointer (some ⟨g1, 0, none⟩))), (4, (.pointer (some ⟨g5, 0, none⟩))), (7, (.pointer (some ⟨g3115, 0, none⟩))), (8, (.int .i64 t3108.2)), (54, (.agg #[(.int .i64 t3121.1.State), (.int .i64 t3121.1.At), (.slice A3126 t3121.1.Cells.length c3127)])), (55, (.int .i64 t3121.2.1)), (56, (.int .i64 t3121.2.2))] [] (fun fb => by kernel_rfl) rfl trivial ?_
  refine WL.new hS3125 9 [] (fun g => (.pointer (some ⟨g, 0, none⟩))) (.cells #[(.int .i64 0), (.int .i64 0), (.slice none 0 0)] 27 (0, 0)) [] (fun fb g => by kernel_rfl) trivial (fun g3128 w3129 hS3130 => ?_)
  refine ⟨trivial, ?_⟩
  refine WL.store hS3130 0 rfl [(0, (.int .i64 t3121.1.State)), (1, (.int .i64 t3121.1.At)), (2, (.slice A3126 t3121.1.Cells.length c3127))] #[(.int .i64 t3121.1.State), (.int .i64 t3121.1.At), (.slice A3126 t3121.1.Cells.length c3127)] (fun fb => by kernel_rfl) (by kernel_rfl) rfl [1, 2, 3, 4, 5] (by decide) (by decide) (fun w3132 hS3133 => ?_)
  refine ⟨trivial, ?_⟩
  refine seg 12 [] [2, 3, 4, 7, 8, 9, 10, 11] [(2, (.int .i64 p2)), (3, (.pointer (some ⟨g1, 0, none⟩))), (4, (.pointer (some ⟨g5, 0, none⟩))), (7, (.pointer (some ⟨g3115, 0, none⟩))), (8, (.int .i64 t3108.2)), (9, (.pointer (some ⟨g3128, 0, none⟩))), (10, (.int .i64 t3121.2.1)), (11, (.int .i64 t3121.2.2))] [] (fun fb => by kernel_rfl) rfl trivial ?_
  refine WL.done rfl ?_
  refine WX.next ?_
  refine WC.seq ?_
  refine WC.region ?_
  refine seg 1 [] [2, 3, 4, 7, 8, 9, 10, 11, 57] [(2, (.int .i64 p2)), (3, (.pointer (some ⟨g1, 0, none⟩))), (4, (.pointer (some ⟨g5, 0, none⟩))), (7, (.pointer (some ⟨g3115, 0, none⟩))), (8, (.int .i64 t3108.2)), (9, (.pointer (some ⟨g3128, 0, none⟩))), (10, (.int .i64 t3121.2.1)), (11, (.int .i64 t3121.2.2)), (57, (.agg #[(.int .i64 0), (.int .i64 0), (.slice none 0 0)]))] [] (fun fb => by kernel_rfl) rfl trivial ?_
  refine WL.new hS3133 12 [] (fun g => (.pointer (some ⟨g, 0, none⟩))) (.cells #[(.int .i64 0), (.int .i64 0), (.slice none 0 0)] 27 (0, 0)) [] (fun fb g => by kernel_rfl) trivial (fun g3134 w3135 hS3136 => ?_)
  refine ⟨trivial, ?_⟩
  refine WL.store hS3136 0 rfl [(0, (.int .i64 0)), (1, (.int .i64 0)), (2, (.slice none 0 0))] #[(.int .i64 0), (.int .i64 0), (.slice none 0 0)] (fun fb => by kernel_rfl) (by kernel_rfl) rfl [1, 2, 3, 4, 5, 6] (by decide) (by decide) (fun w3138 hS3139 => ?_)
  refine ⟨trivial, ?_⟩
  refine WL.done rfl ?_
  refine WX.next ?_
  refine WC.seq ?_
  refine WC.seq ?_
  refine WC.region ?_
  refine seg 2 [.v (.int .i64 p0.States), .v (.int .i64 p0.Symbols), .v (.slice A_p0_Actions p0.Actions.length c_p0_Actions), .v (.int .i64 p1.State), .v (.int .i64 p1.At), .v (.slice A_p1_Cells p1.Cells.length c_p1_Cells)] [2, 3, 4, 7, 8, 9, 10, 11, 12, 58, 59] [(2, (.int .i64 p2)), (3, (.pointer (some ⟨g1, 0, none⟩))), (4, (.pointer (some ⟨g5, 0, none⟩))), (7, (.pointer (some ⟨g3115, 0, none⟩))), (8, (.int .i64 t3108.2)), (9, (.pointer (some ⟨g3128, 0, none⟩))), (10, (.int .i64 t3121.2.1)), (11, (.int .i64 t3121.2.2)), (12, (.pointer (some ⟨g3134, 0, none⟩))), (58, (.agg #[(.int .i64 p0.States), (.int .i64 p0.Symbols), (.slice A_p0_Actions p0.Actions.length c_p0_Actions)])), (59, (.agg #[(.int .i64 p1.State), (.int .i64 p1.At), (.slice A_p1_Cells p1.Cells.length c_p1_Cells)]))] [.cell ⟨g1, 0, none⟩ (.int .i64 p0.States), .cell ⟨g1, 1, none⟩ (.int .i64 p0.Symbols), .cell ⟨g1, 2, none⟩ (.slice A_p0_Actions p0.Actions.length c_p0_Actions), .cell ⟨g5, 0, none⟩ (.int .i64 p1.State), .cell ⟨g5, 1, none⟩ (.int .i64 p1.At), .cell ⟨g5, 2, none⟩ (.slice A_p1_Cells p1.Cells.length c_p1_Cells)] (fun fb => by kernel_rfl) rfl ⟨hS3139.cell 5 rfl 0 rfl, hS3139.cell 5 rfl 1 rfl, hS3139.cell 5 rfl 2 rfl, hS3139.cell 6 rfl 0 rfl, hS3139.cell 6 rfl 1 rfl, hS3139.cell 6 rfl 2 rfl, trivial⟩ ?_
  obtain ⟨t3140, ht3141, hf⟩ := bind_some hf
  refine WL.call (some 60) 13 #[(.agg #[(.int .i64 p0.States), (.int .i64 p0.Symbols), (.slice A_p0_Actions p0.Actions.length c_p0_Actions)]), (.agg #[(.int .i64 p1.State), (.int .i64 p1.At), (.slice A_p1_Cells p1.Cells.length c_p1_Cells)])] (fun fb => by kernel_rfl) (ref08_Fits_calls _ p0 p1 A_p0_Actions c_p0_Actions A_p1_Cells c_p1_Cells t3140 _ (hS3139.rd 0) (hS3139.rd 1) ht3141) (fun v w3142 hR3143 => ?_)
  obtain ⟨rfl, hk_⟩ := hR3143
  have hS3144 := hS3139.keepN hk_
  refine ⟨trivial, ?_⟩
  refine seg 4 [] [2, 3, 4, 7, 8, 9, 10, 11, 12, 61] [(2, (.int .i64 p2)), (3, (.pointer (some ⟨g1, 0, none⟩))), (4, (.pointer (some ⟨g5, 0, none⟩))), (7, (.pointer (some ⟨g3115, 0, none⟩))), (8, (.int .i64 t3108.2)), (9, (.pointer (some ⟨g3128, 0, none⟩))), (10, (.int .i64 t3121.2.1)), (11, (.int .i64 t3121.2.2)), (12, (.pointer (some ⟨g3134, 0, none⟩))), (61, (.bool (!t3140)))] [] (fun fb => by kernel_rfl) rfl trivial ?_
  refine WL.done rfl ?_
  refine WX.next ?_
  rcases br_some hf with ⟨h3145, hf⟩ | ⟨h3145, hf⟩
  · refine WC.condT2 (fun fb => by kernel_rfl) h3145 ?_
    refine WC.seq ?_
    refine WC.region ?_
    refine seg 3 [] [7, 9, 10, 11, 12, 64] [(7, (.pointer (some ⟨g3115, 0, none⟩))), (9, (.pointer (some ⟨g3128, 0, none⟩))), (10, (.int .i64 t3121.2.1)), (11, (.int .i64 t3121.2.2)), (12, (.pointer (some ⟨g3134, 0, none⟩))), (64, (.bool (t3108.2 == 1)))] [] (fun fb => by kernel_rfl) rfl trivial ?_
    refine WL.cutV (T := Bool) 6 (fun t => [(67, (.bool t)), (7, (.pointer (some ⟨g3115, 0, none⟩))), (9, (.pointer (some ⟨g3128, 0, none⟩))), (10, (.int .i64 t3121.2.1)), (12, (.pointer (some ⟨g3134, 0, none⟩)))]) (fun t => t = ((t3108.2 == 1) && (t3121.2.2 == 1))) (fun K => ?_) ?_
    ·
      rcases Bool.eq_false_or_eq_true (t3108.2 == 1) with h3146 | h3146
      ·
        refine WL.setB 64 h3146 rfl ?_
        refine seg 6 [] [7, 9, 10, 12, 67] [(7, (.pointer (some ⟨g3115, 0, none⟩))), (9, (.pointer (some ⟨g3128, 0, none⟩))), (10, (.int .i64 t3121.2.1)), (12, (.pointer (some ⟨g3134, 0, none⟩))), (67, (.bool (t3121.2.2 == 1)))] [] (fun fb => by kernel_rfl) rfl trivial ?_
        exact WL.toV K (t3121.2.2 == 1) [67, 7, 9, 10, 12] rfl (by rw [h3146]; rfl)
      refine WL.setB 64 h3146 rfl ?_
      refine seg 6 [] [7, 9, 10, 12, 67] [(7, (.pointer (some ⟨g3115, 0, none⟩))), (9, (.pointer (some ⟨g3128, 0, none⟩))), (10, (.int .i64 t3121.2.1)), (12, (.pointer (some ⟨g3134, 0, none⟩))), (67, (.bool false))] [] (fun fb => by kernel_rfl) rfl trivial ?_
      exact WL.toV K false [67, 7, 9, 10, 12] rfl (by rw [h3146]; rfl)
    rintro b3147 rfl
    refine seg 7 [] [7, 9, 10, 12, 68] [(7, (.pointer (some ⟨g3115, 0, none⟩))), (9, (.pointer (some ⟨g3128, 0, none⟩))), (10, (.int .i64 t3121.2.1)), (12, (.pointer (some ⟨g3134, 0, none⟩))), (68, (.bool ((t3108.2 == 1) && (t3121.2.2 == 1))))] [] (fun fb => by kernel_rfl) rfl trivial ?_
    obtain ⟨x3210, hx3211, hf⟩ := bind_some hf
    refine WL.cutW (T := Bool) 11 (fun t => [(9, (.pointer (some ⟨g3128, 0, none⟩))), (10, (.int .i64 t3121.2.1)), (12, (.pointer (some ⟨g3134, 0, none⟩))), (72, (.bool t))]) (fun t w1 => (St NoS w w1 [rowR enc_Action A_p0_Actions c_p0_Actions p0.Actions, rowR encInt A_p1_Cells c_p1_Cells p1.Cells] [blk g3128 (.cells #[(.int .i64 t3121.1.State), (.int .i64 t3121.1.At), (.slice A3126 t3121.1.Cells.length c3127)] 27 (0, 0)), rowO 3 encInt A3126 c3127 t3121.1.Cells, blk g3134 (.cells #[(.int .i64 0), (.int .i64 0), (.slice none 0 0)] 27 (0, 0))] ∧ x3210 = t) ∧ CellsOK [] w1) (fun K => ?_) ?_
    ·
      rcases br_some hx3211 with ⟨h3212, hx3211⟩ | ⟨h3212, hx3211⟩
      ·
        refine WL.setB 68 h3212 rfl ?_
        refine seg 9 [.v (.int .i64 t3108.1.State), .v (.int .i64 t3108.1.At), .v (.slice A3113 t3108.1.Cells.length c3114), .v (.int .i64 0), .v (.int .i64 0), .v (.slice none 0 0)] [9, 10, 12, 68, 69, 70] [(9, (.pointer (some ⟨g3128, 0, none⟩))), (10, (.int .i64 t3121.2.1)), (12, (.pointer (some ⟨g3134, 0, none⟩))), (68, (.bool true)), (69, (.agg #[(.int .i64 t3108.1.State), (.int .i64 t3108.1.At), (.slice A3113 t3108.1.Cells.length c3114)])), (70, (.agg #[(.int .i64 0), (.int .i64 0), (.slice none 0 0)]))] [.cell ⟨g3115, 0, none⟩ (.int .i64 t3108.1.State), .cell ⟨g3115, 1, none⟩ (.int .i64 t3108.1.At), .cell ⟨g3115, 2, none⟩ (.slice A3113 t3108.1.Cells.length c3114), .cell ⟨g3134, 0, none⟩ (.int .i64 0), .cell ⟨g3134, 1, none⟩ (.int .i64 0), .cell ⟨g3134, 2, none⟩ (.slice none 0 0)] (fun fb => by kernel_rfl) rfl ⟨hS3144.cell 3 rfl 0 rfl, hS3144.cell 3 rfl 1 rfl, hS3144.cell 3 rfl 2 rfl, hS3144.cell 0 rfl 0 rfl, hS3144.cell 0 rfl 1 rfl, hS3144.cell 0 rfl 2 rfl, trivial⟩ ?_
        obtain ⟨t3213, ht3214, hx3211⟩ := bind_some hx3211
        refine WL.call (some 71) 21 #[(.agg #[(.int .i64 t3108.1.State), (.int .i64 t3108.1.At), (.slice A3113 t3108.1.Cells.length c3114)]), (.agg #[(.int .i64 0), (.int .i64 0), (.slice none 0 0)])] (fun fb => by kernel_rfl) (ref08_SameConfig_calls _ t3108.1 (Config.mk 0 0 ([] : List Int)) A3113 c3114 none 0 t3213 _ (hS3144.ow 4).ofO (RO.nilR _ _ _) ht3214) (fun v w3215 hR3216 => ?_)
        obtain ⟨rfl, hk_⟩ := hR3216
        have hS3217 := hS3144.keepN hk_
        refine ⟨trivial, ?_⟩
        refine seg 11 [] [9, 10, 12, 72] [(9, (.pointer (some ⟨g3128, 0, none⟩))), (10, (.int .i64 t3121.2.1)), (12, (.pointer (some ⟨g3134, 0, none⟩))), (72, (.bool t3213))] [] (fun fb => by kernel_rfl) rfl trivial ?_
        injection hx3211 with hx3211
        exact WL.to K t3213 [9, 10, 12, 72] rfl ⟨⟨(hS3217.subR [0, 1]).sub [1, 2, 0] (by decide), hx3211.symm⟩, trivial⟩
      refine WL.setB 68 h3212 rfl ?_
      refine seg 11 [] [9, 10, 12, 72] [(9, (.pointer (some ⟨g3128, 0, none⟩))), (10, (.int .i64 t3121.2.1)), (12, (.pointer (some ⟨g3134, 0, none⟩))), (72, (.bool false))] [] (fun fb => by kernel_rfl) rfl trivial ?_
      injection hx3211 with hx3211
      exact WL.to K false [9, 10, 12, 72] rfl ⟨⟨(hS3144.subR [0, 1]).sub [1, 2, 0] (by decide), hx3211.symm⟩, trivial⟩
    rintro y3218 w3220 ⟨⟨hS3221, hq3219⟩, hF3222⟩
    subst hq3219
    refine seg 12 [] [9, 10, 12, 73] [(9, (.pointer (some ⟨g3128, 0, none⟩))), (10, (.int .i64 t3121.2.1)), (12, (.pointer (some ⟨g3134, 0, none⟩))), (73, (.bool x3210))] [] (fun fb => by kernel_rfl) rfl trivial ?_
    obtain ⟨x3229, hx3230, hf⟩ := bind_some hf
    refine WL.cutW (T := Bool) 16 (fun t => [(10, (.int .i64 t3121.2.1)), (77, (.bool t))]) (fun t w1 => (St NoS w w1 [rowR enc_Action A_p0_Actions c_p0_Actions p0.Actions, rowR encInt A_p1_Cells c_p1_Cells p1.Cells] [] ∧ x3229 = t) ∧ CellsOK [] w1) (fun K => ?_) ?_
    ·
      rcases br_some hx3230 with ⟨h3231, hx3230⟩ | ⟨h3231, hx3230⟩
      ·
        refine WL.setB 73 h3231 rfl ?_
        refine seg 14 [.v (.int .i64 t3121.1.State), .v (.int .i64 t3121.1.At), .v (.slice A3126 t3121.1.Cells.length c3127), .v (.int .i64 0), .v (.int .i64 0), .v (.slice none 0 0)] [10, 73, 74, 75] [(10, (.int .i64 t3121.2.1)), (73, (.bool true)), (74, (.agg #[(.int .i64 t3121.1.State), (.int .i64 t3121.1.At), (.slice A3126 t3121.1.Cells.length c3127)])), (75, (.agg #[(.int .i64 0), (.int .i64 0), (.slice none 0 0)]))] [.cell ⟨g3128, 0, none⟩ (.int .i64 t3121.1.State), .cell ⟨g3128, 1, none⟩ (.int .i64 t3121.1.At), .cell ⟨g3128, 2, none⟩ (.slice A3126 t3121.1.Cells.length c3127), .cell ⟨g3134, 0, none⟩ (.int .i64 0), .cell ⟨g3134, 1, none⟩ (.int .i64 0), .cell ⟨g3134, 2, none⟩ (.slice none 0 0)] (fun fb => by kernel_rfl) rfl ⟨hS3221.cell 0 rfl 0 rfl, hS3221.cell 0 rfl 1 rfl, hS3221.cell 0 rfl 2 rfl, hS3221.cell 2 rfl 0 rfl, hS3221.cell 2 rfl 1 rfl, hS3221.cell 2 rfl 2 rfl, trivial⟩ ?_
        obtain ⟨t3232, ht3233, hx3230⟩ := bind_some hx3230
        refine WL.call (some 76) 21 #[(.agg #[(.int .i64 t3121.1.State), (.int .i64 t3121.1.At), (.slice A3126 t3121.1.Cells.length c3127)]), (.agg #[(.int .i64 0), (.int .i64 0), (.slice none 0 0)])] (fun fb => by kernel_rfl) (ref08_SameConfig_calls _ t3121.1 (Config.mk 0 0 ([] : List Int)) A3126 c3127 none 0 t3232 _ (hS3221.ow 1).ofO (RO.nilR _ _ _) ht3233) (fun v w3234 hR3235 => ?_)
        obtain ⟨rfl, hk_⟩ := hR3235
        have hS3236 := hS3221.keepN hk_
        refine ⟨trivial, ?_⟩
        refine seg 16 [] [10, 77] [(10, (.int .i64 t3121.2.1)), (77, (.bool t3232))] [] (fun fb => by kernel_rfl) rfl trivial ?_
        injection hx3230 with hx3230
        exact WL.to K t3232 [10, 77] rfl ⟨⟨(hS3236.subR [0, 1]).sub [] (by decide), hx3230.symm⟩, trivial⟩
      refine WL.setB 73 h3231 rfl ?_
      refine seg 16 [] [10, 77] [(10, (.int .i64 t3121.2.1)), (77, (.bool false))] [] (fun fb => by kernel_rfl) rfl trivial ?_
      injection hx3230 with hx3230
      exact WL.to K false [10, 77] rfl ⟨⟨(hS3221.subR [0, 1]).sub [] (by decide), hx3230.symm⟩, trivial⟩
    rintro y3237 w3239 ⟨⟨hS3240, hq3238⟩, hF3241⟩
    subst hq3238
    refine seg 17 [] [10, 78] [(10, (.int .i64 t3121.2.1)), (78, (.bool x3229))] [] (fun fb => by kernel_rfl) rfl trivial ?_
    refine WL.cutV (T := Bool) 20 (fun t => [(81, (.bool t))]) (fun t => t = (x3229 && (t3121.2.1 == 0))) (fun K => ?_) ?_
    ·
      rcases Bool.eq_false_or_eq_true x3229 with h3242 | h3242
      ·
        refine WL.setB 78 h3242 rfl ?_
        refine seg 20 [] [81] [(81, (.bool (t3121.2.1 == 0)))] [] (fun fb => by kernel_rfl) rfl trivial ?_
        exact WL.toV K (t3121.2.1 == 0) [81] rfl (by rw [h3242]; rfl)
      refine WL.setB 78 h3242 rfl ?_
      refine seg 20 [] [81] [(81, (.bool false))] [] (fun fb => by kernel_rfl) rfl trivial ?_
      exact WL.toV K false [81] rfl (by rw [h3242]; rfl)
    rintro b3243 rfl
    refine seg 21 [] [82] [(82, (.bool (x3229 && (t3121.2.1 == 0))))] [] (fun fb => by kernel_rfl) rfl trivial ?_
    obtain ⟨x3250, hx3251, hf⟩ := bind_some hf
    refine WL.cutW (T := Bool) 23 (fun t => [(84, (.bool t))]) (fun t w1 => (St NoS w w1 [rowR enc_Action A_p0_Actions c_p0_Actions p0.Actions, rowR encInt A_p1_Cells c_p1_Cells p1.Cells] [] ∧ x3250 = t) ∧ CellsOK [] w1) (fun K => ?_) ?_
    ·
      rcases br_some hx3251 with ⟨h3252, hx3251⟩ | ⟨h3252, hx3251⟩
      ·
        refine WL.setB 82 h3252 rfl ?_
        obtain ⟨t3253, ht3254, hx3251⟩ := bind_some hx3251
        refine WL.call (some 83) 11 #[] (fun fb => by kernel_rfl) (law08_awake_calls _ t3253 _ ht3254) (fun v w3255 hR3256 => ?_)
        obtain ⟨rfl, hk_⟩ := hR3256
        have hS3257 := hS3240.keepN hk_
        refine ⟨trivial, ?_⟩
        refine seg 23 [] [84] [(84, (.bool t3253))] [] (fun fb => by kernel_rfl) rfl trivial ?_
        injection hx3251 with hx3251
        exact WL.to K t3253 [84] rfl ⟨⟨(hS3257.subR [0, 1]).sub [] (by decide), hx3251.symm⟩, trivial⟩
      refine WL.setB 82 h3252 rfl ?_
      refine seg 23 [] [84] [(84, (.bool false))] [] (fun fb => by kernel_rfl) rfl trivial ?_
      injection hx3251 with hx3251
      exact WL.to K false [84] rfl ⟨⟨(hS3240.subR [0, 1]).sub [] (by decide), hx3251.symm⟩, trivial⟩
    rintro y3258 w3260 ⟨⟨hS3261, hq3259⟩, hF3262⟩
    subst hq3259
    refine seg 24 [] [6] [(6, (.bool x3250))] [] (fun fb => by kernel_rfl) rfl trivial ?_
    refine WL.done rfl ?_
    refine WX.next ?_
    refine WC.ret ?_
    injection hf with hf
    subst hf
    exact WX.thenR (WX.ret_ [] (.bool x3250) [] (fun fb => by kernel_rfl) trivial ⟨_, rfl, rfl, hS3261.keep⟩)
  refine WC.condF2 (fun fb => by kernel_rfl) h3145 ?_
  refine WC.skip ?_
  refine WX.next ?_
  refine WC.seq ?_
  refine WC.seq ?_
  refine WC.region ?_
  refine seg 2 [.v (.int .i64 p0.States), .v (.int .i64 p0.Symbols), .v (.slice A_p0_Actions p0.Actions.length c_p0_Actions), .v (.int .i64 p1.State), .v (.int .i64 p1.At), .v (.slice A_p1_Cells p1.Cells.length c_p1_Cells)] [2, 3, 4, 7, 8, 9, 10, 11, 12, 86, 87] [(2, (.int .i64 p2)), (3, (.pointer (some ⟨g1, 0, none⟩))), (4, (.pointer (some ⟨g5, 0, none⟩))), (7, (.pointer (some ⟨g3115, 0, none⟩))), (8, (.int .i64 t3108.2)), (9, (.pointer (some ⟨g3128, 0, none⟩))), (10, (.int .i64 t3121.2.1)), (11, (.int .i64 t3121.2.2)), (12, (.pointer (some ⟨g3134, 0, none⟩))), (86, (.agg #[(.int .i64 p0.States), (.int .i64 p0.Symbols), (.slice A_p0_Actions p0.Actions.length c_p0_Actions)])), (87, (.agg #[(.int .i64 p1.State), (.int .i64 p1.At), (.slice A_p1_Cells p1.Cells.length c_p1_Cells)]))] [.cell ⟨g1, 0, none⟩ (.int .i64 p0.States), .cell ⟨g1, 1, none⟩ (.int .i64 p0.Symbols), .cell ⟨g1, 2, none⟩ (.slice A_p0_Actions p0.Actions.length c_p0_Actions), .cell ⟨g5, 0, none⟩ (.int .i64 p1.State), .cell ⟨g5, 1, none⟩ (.int .i64 p1.At), .cell ⟨g5, 2, none⟩ (.slice A_p1_Cells p1.Cells.length c_p1_Cells)] (fun fb => by kernel_rfl) rfl ⟨hS3144.cell 5 rfl 0 rfl, hS3144.cell 5 rfl 1 rfl, hS3144.cell 5 rfl 2 rfl, hS3144.cell 6 rfl 0 rfl, hS3144.cell 6 rfl 1 rfl, hS3144.cell 6 rfl 2 rfl, trivial⟩ ?_
  obtain ⟨t3377, ht3378, hf⟩ := bind_some hf
  refine WL.call (some 88) 22 #[(.agg #[(.int .i64 p0.States), (.int .i64 p0.Symbols), (.slice A_p0_Actions p0.Actions.length c_p0_Actions)]), (.agg #[(.int .i64 p1.State), (.int .i64 p1.At), (.slice A_p1_Cells p1.Cells.length c_p1_Cells)])] (fun fb => by kernel_rfl) (ref08_Step_calls p0 p1 A_p0_Actions c_p0_Actions A_p1_Cells c_p1_Cells t3377 _ (hS3144.rd 0) (hS3144.rd 1) ht3378) (fun v w3379 hR3380 => ?_)
  obtain ⟨A3382, c3383, rfl, hk_⟩ := hR3380
  have hS3381 : St NoS w w3379 [rowR enc_Action A_p0_Actions c_p0_Actions p0.Actions, rowR encInt A_p1_Cells c_p1_Cells p1.Cells] [rowO 3 encInt A3382 c3383 t3377.1.Cells, blk g3134 (.cells #[(.int .i64 0), (.int .i64 0), (.slice none 0 0)] 27 (0, 0)), blk g3128 (.cells #[(.int .i64 t3121.1.State), (.int .i64 t3121.1.At), (.slice A3126 t3121.1.Cells.length c3127)] 27 (0, 0)), rowO 3 encInt A3126 c3127 t3121.1.Cells, blk g3115 (.cells #[(.int .i64 t3108.1.State), (.int .i64 t3108.1.At), (.slice A3113 t3108.1.Cells.length c3114)] 27 (0, 0)), rowO 3 encInt A3113 c3114 t3108.1.Cells, blk g1 (.cells #[(.int .i64 p0.States), (.int .i64 p0.Symbols), (.slice A_p0_Actions p0.Actions.length c_p0_Actions)] 24 (0, 0)), blk g5 (.cells #[(.int .i64 p1.State), (.int .i64 p1.At), (.slice A_p1_Cells p1.Cells.length c_p1_Cells)] 27 (0, 0))] := hS3144.call hk_ [] [0, 1, 2, 3, 4, 5, 6] (fun g hg => hg.elim) (by simp) (by decide)
  refine ⟨trivial, ?_⟩
  refine seg 6 [] [2, 3, 4, 7, 8, 9, 10, 11, 12, 89, 90] [(2, (.int .i64 p2)), (3, (.pointer (some ⟨g1, 0, none⟩))), (4, (.pointer (some ⟨g5, 0, none⟩))), (7, (.pointer (some ⟨g3115, 0, none⟩))), (8, (.int .i64 t3108.2)), (9, (.pointer (some ⟨g3128, 0, none⟩))), (10, (.int .i64 t3121.2.1)), (11, (.int .i64 t3121.2.2)), (12, (.pointer (some ⟨g3134, 0, none⟩))), (89, (.agg #[(.int .i64 t3377.1.State), (.int .i64 t3377.1.At), (.slice A3382 t3377.1.Cells.length c3383)])), (90, (.int .i64 t3377.2))] [] (fun fb => by kernel_rfl) rfl trivial ?_
  refine WL.new hS3381 13 [] (fun g => (.pointer (some ⟨g, 0, none⟩))) (.cells #[(.int .i64 0), (.int .i64 0), (.slice none 0 0)] 27 (0, 0)) [] (fun fb g => by kernel_rfl) trivial (fun g3384 w3385 hS3386 => ?_)
  refine ⟨trivial, ?_⟩
  refine WL.store hS3386 0 rfl [(0, (.int .i64 t3377.1.State)), (1, (.int .i64 t3377.1.At)), (2, (.slice A3382 t3377.1.Cells.length c3383))] #[(.int .i64 t3377.1.State), (.int .i64 t3377.1.At), (.slice A3382 t3377.1.Cells.length c3383)] (fun fb => by kernel_rfl) (by kernel_rfl) rfl [1, 2, 3, 4, 5, 6, 7, 8] (by decide) (by decide) (fun w3388 hS3389 => ?_)
  refine ⟨trivial, ?_⟩
  refine seg 9 [] [2, 3, 4, 7, 8, 9, 10, 11, 12, 13, 14] [(2, (.int .i64 p2)), (3, (.pointer (some ⟨g1, 0, none⟩))), (4, (.pointer (some ⟨g5, 0, none⟩))), (7, (.pointer (some ⟨g3115, 0, none⟩))), (8, (.int .i64 t3108.2)), (9, (.pointer (some ⟨g3128, 0, none⟩))), (10, (.int .i64 t3121.2.1)), (11, (.int .i64 t3121.2.2)), (12, (.pointer (some ⟨g3134, 0, none⟩))), (13, (.pointer (some ⟨g3384, 0, none⟩))), (14, (.int .i64 t3377.2))] [] (fun fb => by kernel_rfl) rfl trivial ?_
  refine WL.done rfl ?_
  refine WX.next ?_
  refine WC.seq ?_
  refine WC.region ?_
  refine seg 4 [] [2, 3, 4, 7, 9, 10, 11, 12, 13, 94] [(2, (.int .i64 p2)), (3, (.pointer (some ⟨g1, 0, none⟩))), (4, (.pointer (some ⟨g5, 0, none⟩))), (7, (.pointer (some ⟨g3115, 0, none⟩))), (9, (.pointer (some ⟨g3128, 0, none⟩))), (10, (.int .i64 t3121.2.1)), (11, (.int .i64 t3121.2.2)), (12, (.pointer (some ⟨g3134, 0, none⟩))), (13, (.pointer (some ⟨g3384, 0, none⟩))), (94, (.bool (t3108.2 != t3377.2)))] [] (fun fb => by kernel_rfl) rfl trivial ?_
  obtain ⟨x3396, hx3397, hf⟩ := bind_some hf
  refine WL.cutW (T := Bool) 9 (fun t => [(2, (.int .i64 p2)), (3, (.pointer (some ⟨g1, 0, none⟩))), (4, (.pointer (some ⟨g5, 0, none⟩))), (9, (.pointer (some ⟨g3128, 0, none⟩))), (10, (.int .i64 t3121.2.1)), (11, (.int .i64 t3121.2.2)), (12, (.pointer (some ⟨g3134, 0, none⟩))), (99, (.bool t))]) (fun t w1 => (St NoS w w1 [rowR enc_Action A_p0_Actions c_p0_Actions p0.Actions, rowR encInt A_p1_Cells c_p1_Cells p1.Cells] [blk g1 (.cells #[(.int .i64 p0.States), (.int .i64 p0.Symbols), (.slice A_p0_Actions p0.Actions.length c_p0_Actions)] 24 (0, 0)), blk g5 (.cells #[(.int .i64 p1.State), (.int .i64 p1.At), (.slice A_p1_Cells p1.Cells.length c_p1_Cells)] 27 (0, 0)), blk g3128 (.cells #[(.int .i64 t3121.1.State), (.int .i64 t3121.1.At), (.slice A3126 t3121.1.Cells.length c3127)] 27 (0, 0)), rowO 3 encInt A3126 c3127 t3121.1.Cells, blk g3134 (.cells #[(.int .i64 0), (.int .i64 0), (.slice none 0 0)] 27 (0, 0))] ∧ x3396 = t) ∧ CellsOK [] w1) (fun K => ?_) ?_
  ·
    rcases br_some hx3397 with ⟨h3398, hx3397⟩ | ⟨h3398, hx3397⟩
    ·
      refine WL.setB 94 h3398 rfl ?_
      refine seg 9 [] [2, 3, 4, 9, 10, 11, 12, 99] [(2, (.int .i64 p2)), (3, (.pointer (some ⟨g1, 0, none⟩))), (4, (.pointer (some ⟨g5, 0, none⟩))), (9, (.pointer (some ⟨g3128, 0, none⟩))), (10, (.int .i64 t3121.2.1)), (11, (.int .i64 t3121.2.2)), (12, (.pointer (some ⟨g3134, 0, none⟩))), (99, (.bool true))] [] (fun fb => by kernel_rfl) rfl trivial ?_
      injection hx3397 with hx3397
      exact WL.to K true [2, 3, 4, 9, 10, 11, 12, 99] rfl ⟨⟨(hS3389.subR [0, 1]).sub [7, 8, 3, 4, 2] (by decide), hx3397.symm⟩, trivial⟩
    refine WL.setB 94 h3398 rfl ?_
    refine seg 6 [.v (.int .i64 t3108.1.State), .v (.int .i64 t3108.1.At), .v (.slice A3113 t3108.1.Cells.length c3114), .v (.int .i64 t3377.1.State), .v (.int .i64 t3377.1.At), .v (.slice A3382 t3377.1.Cells.length c3383)] [2, 3, 4, 9, 10, 11, 12, 94, 95, 96] [(2, (.int .i64 p2)), (3, (.pointer (some ⟨g1, 0, none⟩))), (4, (.pointer (some ⟨g5, 0, none⟩))), (9, (.pointer (some ⟨g3128, 0, none⟩))), (10, (.int .i64 t3121.2.1)), (11, (.int .i64 t3121.2.2)), (12, (.pointer (some ⟨g3134, 0, none⟩))), (94, (.bool false)), (95, (.agg #[(.int .i64 t3108.1.State), (.int .i64 t3108.1.At), (.slice A3113 t3108.1.Cells.length c3114)])), (96, (.agg #[(.int .i64 t3377.1.State), (.int .i64 t3377.1.At), (.slice A3382 t3377.1.Cells.length c3383)]))] [.cell ⟨g3115, 0, none⟩ (.int .i64 t3108.1.State), .cell ⟨g3115, 1, none⟩ (.int .i64 t3108.1.At), .cell ⟨g3115, 2, none⟩ (.slice A3113 t3108.1.Cells.length c3114), .cell ⟨g3384, 0, none⟩ (.int .i64 t3377.1.State), .cell ⟨g3384, 1, none⟩ (.int .i64 t3377.1.At), .cell ⟨g3384, 2, none⟩ (.slice A3382 t3377.1.Cells.length c3383)] (fun fb => by kernel_rfl) rfl ⟨hS3389.cell 5 rfl 0 rfl, hS3389.cell 5 rfl 1 rfl, hS3389.cell 5 rfl 2 rfl, hS3389.cell 0 rfl 0 rfl, hS3389.cell 0 rfl 1 rfl, hS3389.cell 0 rfl 2 rfl, trivial⟩ ?_
    obtain ⟨t3399, ht3400, hx3397⟩ := bind_some hx3397
    refine WL.call (some 97) 21 #[(.agg #[(.int .i64 t3108.1.State), (.int .i64 t3108.1.At), (.slice A3113 t3108.1.Cells.length c3114)]), (.agg #[(.int .i64 t3377.1.State), (.int .i64 t3377.1.At), (.slice A3382 t3377.1.Cells.length c3383)])] (fun fb => by kernel_rfl) (ref08_SameConfig_calls _ t3108.1 t3377.1 A3113 c3114 A3382 c3383 t3399 _ (hS3389.ow 6).ofO (hS3389.ow 1).ofO ht3400) (fun v w3401 hR3402 => ?_)
    obtain ⟨rfl, hk_⟩ := hR3402
    have hS3403 := hS3389.keepN hk_
    refine ⟨trivial, ?_⟩
    refine seg 9 [] [2, 3, 4, 9, 10, 11, 12, 99] [(2, (.int .i64 p2)), (3, (.pointer (some ⟨g1, 0, none⟩))), (4, (.pointer (some ⟨g5, 0, none⟩))), (9, (.pointer (some ⟨g3128, 0, none⟩))), (10, (.int .i64 t3121.2.1)), (11, (.int .i64 t3121.2.2)), (12, (.pointer (some ⟨g3134, 0, none⟩))), (99, (.bool (!t3399)))] [] (fun fb => by kernel_rfl) rfl trivial ?_
    injection hx3397 with hx3397
    exact WL.to K (!t3399) [2, 3, 4, 9, 10, 11, 12, 99] rfl ⟨⟨(hS3403.subR [0, 1]).sub [7, 8, 3, 4, 2] (by decide), hx3397.symm⟩, trivial⟩
  rintro y3404 w3406 ⟨⟨hS3407, hq3405⟩, hF3408⟩
  subst hq3405
  refine WL.done rfl ?_
  refine WX.next ?_
  rcases br_some hf with ⟨h3409, hf⟩ | ⟨h3409, hf⟩
  · refine WC.condT2 (fun fb => by kernel_rfl) h3409 ?_
    refine WC.seq ?_
    refine WC.region ?_
    refine seg 1 [] [6] [(6, (.bool false))] [] (fun fb => by kernel_rfl) rfl trivial ?_
    refine WL.done rfl ?_
    refine WX.next ?_
    refine WC.ret ?_
    injection hf with hf
    subst hf
    exact WX.thenR (WX.ret_ [] (.bool false) [] (fun fb => by kernel_rfl) trivial ⟨_, rfl, rfl, hS3407.keep⟩)
  refine WC.condF2 (fun fb => by kernel_rfl) h3409 ?_
  refine WC.skip ?_
  refine WX.next ?_
  refine WC.seq ?_
  refine WC.seq ?_
  refine WC.region ?_
  refine seg 3 [] [2, 3, 4, 9, 10, 11, 12, 102] [(2, (.int .i64 p2)), (3, (.pointer (some ⟨g1, 0, none⟩))), (4, (.pointer (some ⟨g5, 0, none⟩))), (9, (.pointer (some ⟨g3128, 0, none⟩))), (10, (.int .i64 t3121.2.1)), (11, (.int .i64 t3121.2.2)), (12, (.pointer (some ⟨g3134, 0, none⟩))), (102, (.bool (decide (p2 < 0))))] [] (fun fb => by kernel_rfl) rfl trivial ?_
  refine WL.cutV (T := Bool) 6 (fun t => [(105, (.bool t)), (2, (.int .i64 p2)), (3, (.pointer (some ⟨g1, 0, none⟩))), (4, (.pointer (some ⟨g5, 0, none⟩))), (9, (.pointer (some ⟨g3128, 0, none⟩))), (10, (.int .i64 t3121.2.1)), (11, (.int .i64 t3121.2.2)), (12, (.pointer (some ⟨g3134, 0, none⟩)))]) (fun t => t = ((decide (p2 < 0)) || (decide (p2 > 100000)))) (fun K => ?_) ?_
  ·
    rcases Bool.eq_false_or_eq_true (decide (p2 < 0)) with h3410 | h3410
    ·
      refine WL.setB 102 h3410 rfl ?_
      refine seg 6 [] [2, 3, 4, 9, 10, 11, 12, 105] [(2, (.int .i64 p2)), (3, (.pointer (some ⟨g1, 0, none⟩))), (4, (.pointer (some ⟨g5, 0, none⟩))), (9, (.pointer (some ⟨g3128, 0, none⟩))), (10, (.int .i64 t3121.2.1)), (11, (.int .i64 t3121.2.2)), (12, (.pointer (some ⟨g3134, 0, none⟩))), (105, (.bool true))] [] (fun fb => by kernel_rfl) rfl trivial ?_
      exact WL.toV K true [105, 2, 3, 4, 9, 10, 11, 12] rfl (by rw [h3410]; rfl)
    refine WL.setB 102 h3410 rfl ?_
    refine seg 6 [] [2, 3, 4, 9, 10, 11, 12, 105] [(2, (.int .i64 p2)), (3, (.pointer (some ⟨g1, 0, none⟩))), (4, (.pointer (some ⟨g5, 0, none⟩))), (9, (.pointer (some ⟨g3128, 0, none⟩))), (10, (.int .i64 t3121.2.1)), (11, (.int .i64 t3121.2.2)), (12, (.pointer (some ⟨g3134, 0, none⟩))), (105, (.bool (decide (p2 > 100000))))] [] (fun fb => by kernel_rfl) rfl trivial ?_
    exact WL.toV K (decide (p2 > 100000)) [105, 2, 3, 4, 9, 10, 11, 12] rfl (by rw [h3410]; rfl)
  rintro b3411 rfl
  refine WL.done rfl ?_
  refine WX.next ?_
  rcases br_some hf with ⟨h3412, hf⟩ | ⟨h3412, hf⟩
  · refine WC.condT2 (fun fb => by kernel_rfl) h3412 ?_
    refine WC.seq ?_
    refine WC.region ?_
    refine seg 3 [] [9, 10, 12, 108] [(9, (.pointer (some ⟨g3128, 0, none⟩))), (10, (.int .i64 t3121.2.1)), (12, (.pointer (some ⟨g3134, 0, none⟩))), (108, (.bool (t3121.2.2 == 2)))] [] (fun fb => by kernel_rfl) rfl trivial ?_
    obtain ⟨x3419, hx3420, hf⟩ := bind_some hf
    refine WL.cutW (T := Bool) 7 (fun t => [(10, (.int .i64 t3121.2.1)), (112, (.bool t))]) (fun t w1 => (St NoS w w1 [rowR enc_Action A_p0_Actions c_p0_Actions p0.Actions, rowR encInt A_p1_Cells c_p1_Cells p1.Cells] [] ∧ x3419 = t) ∧ CellsOK [] w1) (fun K => ?_) ?_
    ·
      rcases br_some hx3420 with ⟨h3421, hx3420⟩ | ⟨h3421, hx3420⟩
      ·
        refine WL.setB 108 h3421 rfl ?_
        refine seg 5 [.v (.int .i64 t3121.1.State), .v (.int .i64 t3121.1.At), .v (.slice A3126 t3121.1.Cells.length c3127), .v (.int .i64 0), .v (.int .i64 0), .v (.slice none 0 0)] [10, 108, 109, 110] [(10, (.int .i64 t3121.2.1)), (108, (.bool true)), (109, (.agg #[(.int .i64 t3121.1.State), (.int .i64 t3121.1.At), (.slice A3126 t3121.1.Cells.length c3127)])), (110, (.agg #[(.int .i64 0), (.int .i64 0), (.slice none 0 0)]))] [.cell ⟨g3128, 0, none⟩ (.int .i64 t3121.1.State), .cell ⟨g3128, 1, none⟩ (.int .i64 t3121.1.At), .cell ⟨g3128, 2, none⟩ (.slice A3126 t3121.1.Cells.length c3127), .cell ⟨g3134, 0, none⟩ (.int .i64 0), .cell ⟨g3134, 1, none⟩ (.int .i64 0), .cell ⟨g3134, 2, none⟩ (.slice none 0 0)] (fun fb => by kernel_rfl) rfl ⟨hS3407.cell 2 rfl 0 rfl, hS3407.cell 2 rfl 1 rfl, hS3407.cell 2 rfl 2 rfl, hS3407.cell 4 rfl 0 rfl, hS3407.cell 4 rfl 1 rfl, hS3407.cell 4 rfl 2 rfl, trivial⟩ ?_
        obtain ⟨t3422, ht3423, hx3420⟩ := bind_some hx3420
        refine WL.call (some 111) 21 #[(.agg #[(.int .i64 t3121.1.State), (.int .i64 t3121.1.At), (.slice A3126 t3121.1.Cells.length c3127)]), (.agg #[(.int .i64 0), (.int .i64 0), (.slice none 0 0)])] (fun fb => by kernel_rfl) (ref08_SameConfig_calls _ t3121.1 (Config.mk 0 0 ([] : List Int)) A3126 c3127 none 0 t3422 _ (hS3407.ow 3).ofO (RO.nilR _ _ _) ht3423) (fun v w3424 hR3425 => ?_)
        obtain ⟨rfl, hk_⟩ := hR3425
        have hS3426 := hS3407.keepN hk_
        refine ⟨trivial, ?_⟩
        refine seg 7 [] [10, 112] [(10, (.int .i64 t3121.2.1)), (112, (.bool t3422))] [] (fun fb => by kernel_rfl) rfl trivial ?_
        injection hx3420 with hx3420
        exact WL.to K t3422 [10, 112] rfl ⟨⟨(hS3426.subR [0, 1]).sub [] (by decide), hx3420.symm⟩, trivial⟩
      refine WL.setB 108 h3421 rfl ?_
      refine seg 7 [] [10, 112] [(10, (.int .i64 t3121.2.1)), (112, (.bool false))] [] (fun fb => by kernel_rfl) rfl trivial ?_
      injection hx3420 with hx3420
      exact WL.to K false [10, 112] rfl ⟨⟨(hS3407.subR [0, 1]).sub [] (by decide), hx3420.symm⟩, trivial⟩
    rintro y3427 w3429 ⟨⟨hS3430, hq3428⟩, hF3431⟩
    subst hq3428
    refine seg 8 [] [10, 113] [(10, (.int .i64 t3121.2.1)), (113, (.bool x3419))] [] (fun fb => by kernel_rfl) rfl trivial ?_
    refine WL.cutV (T := Bool) 11 (fun t => [(116, (.bool t))]) (fun t => t = (x3419 && (t3121.2.1 == 0))) (fun K => ?_) ?_
    ·
      rcases Bool.eq_false_or_eq_true x3419 with h3432 | h3432
      ·
        refine WL.setB 113 h3432 rfl ?_
        refine seg 11 [] [116] [(116, (.bool (t3121.2.1 == 0)))] [] (fun fb => by kernel_rfl) rfl trivial ?_
        exact WL.toV K (t3121.2.1 == 0) [116] rfl (by rw [h3432]; rfl)
      refine WL.setB 113 h3432 rfl ?_
      refine seg 11 [] [116] [(116, (.bool false))] [] (fun fb => by kernel_rfl) rfl trivial ?_
      exact WL.toV K false [116] rfl (by rw [h3432]; rfl)
    rintro b3433 rfl
    refine seg 12 [] [117] [(117, (.bool (x3419 && (t3121.2.1 == 0))))] [] (fun fb => by kernel_rfl) rfl trivial ?_
    obtain ⟨x3440, hx3441, hf⟩ := bind_some hf
    refine WL.cutW (T := Bool) 14 (fun t => [(119, (.bool t))]) (fun t w1 => (St NoS w w1 [rowR enc_Action A_p0_Actions c_p0_Actions p0.Actions, rowR encInt A_p1_Cells c_p1_Cells p1.Cells] [] ∧ x3440 = t) ∧ CellsOK [] w1) (fun K => ?_) ?_
    ·
      rcases br_some hx3441 with ⟨h3442, hx3441⟩ | ⟨h3442, hx3441⟩
      ·
        refine WL.setB 117 h3442 rfl ?_
        obtain ⟨t3443, ht3444, hx3441⟩ := bind_some hx3441
        refine WL.call (some 118) 11 #[] (fun fb => by kernel_rfl) (law08_awake_calls _ t3443 _ ht3444) (fun v w3445 hR3446 => ?_)
        obtain ⟨rfl, hk_⟩ := hR3446
        have hS3447 := hS3430.keepN hk_
        refine ⟨trivial, ?_⟩
        refine seg 14 [] [119] [(119, (.bool t3443))] [] (fun fb => by kernel_rfl) rfl trivial ?_
        injection hx3441 with hx3441
        exact WL.to K t3443 [119] rfl ⟨⟨(hS3447.subR [0, 1]).sub [] (by decide), hx3441.symm⟩, trivial⟩
      refine WL.setB 117 h3442 rfl ?_
      refine seg 14 [] [119] [(119, (.bool false))] [] (fun fb => by kernel_rfl) rfl trivial ?_
      injection hx3441 with hx3441
      exact WL.to K false [119] rfl ⟨⟨(hS3430.subR [0, 1]).sub [] (by decide), hx3441.symm⟩, trivial⟩
    rintro y3448 w3450 ⟨⟨hS3451, hq3449⟩, hF3452⟩
    subst hq3449
    refine seg 15 [] [6] [(6, (.bool x3440))] [] (fun fb => by kernel_rfl) rfl trivial ?_
    refine WL.done rfl ?_
    refine WX.next ?_
    refine WC.ret ?_
    injection hf with hf
    subst hf
    exact WX.thenR (WX.ret_ [] (.bool x3440) [] (fun fb => by kernel_rfl) trivial ⟨_, rfl, rfl, hS3451.keep⟩)
  refine WC.condF2 (fun fb => by kernel_rfl) h3412 ?_
  refine WC.skip ?_
  refine WX.next ?_
  refine WC.seq ?_
  refine WC.region ?_
  refine seg 3 [.v (.int .i64 p0.States), .v (.int .i64 p0.Symbols), .v (.slice A_p0_Actions p0.Actions.length c_p0_Actions), .v (.int .i64 p1.State), .v (.int .i64 p1.At), .v (.slice A_p1_Cells p1.Cells.length c_p1_Cells)] [9, 10, 11, 121, 122, 123] [(9, (.pointer (some ⟨g3128, 0, none⟩))), (10, (.int .i64 t3121.2.1)), (11, (.int .i64 t3121.2.2)), (121, (.agg #[(.int .i64 p0.States), (.int .i64 p0.Symbols), (.slice A_p0_Actions p0.Actions.length c_p0_Actions)])), (122, (.agg #[(.int .i64 p1.State), (.int .i64 p1.At), (.slice A_p1_Cells p1.Cells.length c_p1_Cells)])), (123, (.int .i64 p2))] [.cell ⟨g1, 0, none⟩ (.int .i64 p0.States), .cell ⟨g1, 1, none⟩ (.int .i64 p0.Symbols), .cell ⟨g1, 2, none⟩ (.slice A_p0_Actions p0.Actions.length c_p0_Actions), .cell ⟨g5, 0, none⟩ (.int .i64 p1.State), .cell ⟨g5, 1, none⟩ (.int .i64 p1.At), .cell ⟨g5, 2, none⟩ (.slice A_p1_Cells p1.Cells.length c_p1_Cells)] (fun fb => by kernel_rfl) rfl ⟨hS3407.cell 0 rfl 0 rfl, hS3407.cell 0 rfl 1 rfl, hS3407.cell 0 rfl 2 rfl, hS3407.cell 1 rfl 0 rfl, hS3407.cell 1 rfl 1 rfl, hS3407.cell 1 rfl 2 rfl, trivial⟩ ?_
  obtain ⟨t3561, ht3562, hf⟩ := bind_some hf
  refine WL.call (some 124) 23 #[(.agg #[(.int .i64 p0.States), (.int .i64 p0.Symbols), (.slice A_p0_Actions p0.Actions.length c_p0_Actions)]), (.agg #[(.int .i64 p1.State), (.int .i64 p1.At), (.slice A_p1_Cells p1.Cells.length c_p1_Cells)]), (.int .i64 p2)] (fun fb => by kernel_rfl) (ref08_Run_calls _ p0 p1 p2 A_p0_Actions c_p0_Actions A_p1_Cells c_p1_Cells t3561 _ (hS3407.rd 0) (hS3407.rd 1) ht3562) (fun v w3563 hR3564 => ?_)
  obtain ⟨A3566, c3567, rfl, hk_⟩ := hR3564
  have hS3565 : St NoS w w3563 [rowR enc_Action A_p0_Actions c_p0_Actions p0.Actions, rowR encInt A_p1_Cells c_p1_Cells p1.Cells] [rowO 3 encInt A3566 c3567 t3561.1.Cells, blk g1 (.cells #[(.int .i64 p0.States), (.int .i64 p0.Symbols), (.slice A_p0_Actions p0.Actions.length c_p0_Actions)] 24 (0, 0)), blk g5 (.cells #[(.int .i64 p1.State), (.int .i64 p1.At), (.slice A_p1_Cells p1.Cells.length c_p1_Cells)] 27 (0, 0)), blk g3128 (.cells #[(.int .i64 t3121.1.State), (.int .i64 t3121.1.At), (.slice A3126 t3121.1.Cells.length c3127)] 27 (0, 0)), rowO 3 encInt A3126 c3127 t3121.1.Cells, blk g3134 (.cells #[(.int .i64 0), (.int .i64 0), (.slice none 0 0)] 27 (0, 0))] := hS3407.call hk_ [] [0, 1, 2, 3, 4] (fun g hg => hg.elim) (by simp) (by decide)
  refine ⟨trivial, ?_⟩
  refine seg 7 [] [9, 10, 11, 125, 126] [(9, (.pointer (some ⟨g3128, 0, none⟩))), (10, (.int .i64 t3121.2.1)), (11, (.int .i64 t3121.2.2)), (125, (.agg #[(.int .i64 t3561.1.State), (.int .i64 t3561.1.At), (.slice A3566 t3561.1.Cells.length c3567)])), (126, (.int .i64 t3561.2))] [] (fun fb => by kernel_rfl) rfl trivial ?_
  refine WL.new hS3565 15 [] (fun g => (.pointer (some ⟨g, 0, none⟩))) (.cells #[(.int .i64 0), (.int .i64 0), (.slice none 0 0)] 27 (0, 0)) [] (fun fb g => by kernel_rfl) trivial (fun g3568 w3569 hS3570 => ?_)
  refine ⟨trivial, ?_⟩
  refine WL.store hS3570 0 rfl [(0, (.int .i64 t3561.1.State)), (1, (.int .i64 t3561.1.At)), (2, (.slice A3566 t3561.1.Cells.length c3567))] #[(.int .i64 t3561.1.State), (.int .i64 t3561.1.At), (.slice A3566 t3561.1.Cells.length c3567)] (fun fb => by kernel_rfl) (by kernel_rfl) rfl [1, 2, 3, 4, 5, 6] (by decide) (by decide) (fun w3572 hS3573 => ?_)
  refine ⟨trivial, ?_⟩
  refine seg 10 [] [9, 10, 11, 15, 16] [(9, (.pointer (some ⟨g3128, 0, none⟩))), (10, (.int .i64 t3121.2.1)), (11, (.int .i64 t3121.2.2)), (15, (.pointer (some ⟨g3568, 0, none⟩))), (16, (.int .i64 t3561.2))] [] (fun fb => by kernel_rfl) rfl trivial ?_
  refine WL.done rfl ?_
  refine WX.next ?_
  refine WC.seq ?_
  refine WC.region ?_
  refine seg 3 [] [9, 10, 15, 16, 129] [(9, (.pointer (some ⟨g3128, 0, none⟩))), (10, (.int .i64 t3121.2.1)), (15, (.pointer (some ⟨g3568, 0, none⟩))), (16, (.int .i64 t3561.2)), (129, (.bool (t3121.2.2 == 0)))] [] (fun fb => by kernel_rfl) rfl trivial ?_
  obtain ⟨x3580, hx3581, hf⟩ := bind_some hf
  refine WL.cutW (T := Bool) 7 (fun t => [(10, (.int .i64 t3121.2.1)), (16, (.int .i64 t3561.2)), (133, (.bool t))]) (fun t w1 => (St NoS w w1 [rowR enc_Action A_p0_Actions c_p0_Actions p0.Actions, rowR encInt A_p1_Cells c_p1_Cells p1.Cells] [] ∧ x3580 = t) ∧ CellsOK [] w1) (fun K => ?_) ?_
  ·
    rcases br_some hx3581 with ⟨h3582, hx3581⟩ | ⟨h3582, hx3581⟩
    ·
      refine WL.setB 129 h3582 rfl ?_
      refine seg 5 [.v (.int .i64 t3121.1.State), .v (.int .i64 t3121.1.At), .v (.slice A3126 t3121.1.Cells.length c3127), .v (.int .i64 t3561.1.State), .v (.int .i64 t3561.1.At), .v (.slice A3566 t3561.1.Cells.length c3567)] [10, 16, 129, 130, 131] [(10, (.int .i64 t3121.2.1)), (16, (.int .i64 t3561.2)), (129, (.bool true)), (130, (.agg #[(.int .i64 t3121.1.State), (.int .i64 t3121.1.At), (.slice A3126 t3121.1.Cells.length c3127)])), (131, (.agg #[(.int .i64 t3561.1.State), (.int .i64 t3561.1.At), (.slice A3566 t3561.1.Cells.length c3567)]))] [.cell ⟨g3128, 0, none⟩ (.int .i64 t3121.1.State), .cell ⟨g3128, 1, none⟩ (.int .i64 t3121.1.At), .cell ⟨g3128, 2, none⟩ (.slice A3126 t3121.1.Cells.length c3127), .cell ⟨g3568, 0, none⟩ (.int .i64 t3561.1.State), .cell ⟨g3568, 1, none⟩ (.int .i64 t3561.1.At), .cell ⟨g3568, 2, none⟩ (.slice A3566 t3561.1.Cells.length c3567)] (fun fb => by kernel_rfl) rfl ⟨hS3573.cell 4 rfl 0 rfl, hS3573.cell 4 rfl 1 rfl, hS3573.cell 4 rfl 2 rfl, hS3573.cell 0 rfl 0 rfl, hS3573.cell 0 rfl 1 rfl, hS3573.cell 0 rfl 2 rfl, trivial⟩ ?_
      obtain ⟨t3583, ht3584, hx3581⟩ := bind_some hx3581
      refine WL.call (some 132) 21 #[(.agg #[(.int .i64 t3121.1.State), (.int .i64 t3121.1.At), (.slice A3126 t3121.1.Cells.length c3127)]), (.agg #[(.int .i64 t3561.1.State), (.int .i64 t3561.1.At), (.slice A3566 t3561.1.Cells.length c3567)])] (fun fb => by kernel_rfl) (ref08_SameConfig_calls _ t3121.1 t3561.1 A3126 c3127 A3566 c3567 t3583 _ (hS3573.ow 5).ofO (hS3573.ow 1).ofO ht3584) (fun v w3585 hR3586 => ?_)
      obtain ⟨rfl, hk_⟩ := hR3586
      have hS3587 := hS3573.keepN hk_
      refine ⟨trivial, ?_⟩
      refine seg 7 [] [10, 16, 133] [(10, (.int .i64 t3121.2.1)), (16, (.int .i64 t3561.2)), (133, (.bool t3583))] [] (fun fb => by kernel_rfl) rfl trivial ?_
      injection hx3581 with hx3581
      exact WL.to K t3583 [10, 16, 133] rfl ⟨⟨(hS3587.subR [0, 1]).sub [] (by decide), hx3581.symm⟩, trivial⟩
    refine WL.setB 129 h3582 rfl ?_
    refine seg 7 [] [10, 16, 133] [(10, (.int .i64 t3121.2.1)), (16, (.int .i64 t3561.2)), (133, (.bool false))] [] (fun fb => by kernel_rfl) rfl trivial ?_
    injection hx3581 with hx3581
    exact WL.to K false [10, 16, 133] rfl ⟨⟨(hS3573.subR [0, 1]).sub [] (by decide), hx3581.symm⟩, trivial⟩
  rintro y3588 w3590 ⟨⟨hS3591, hq3589⟩, hF3592⟩
  subst hq3589
  refine seg 8 [] [10, 16, 134] [(10, (.int .i64 t3121.2.1)), (16, (.int .i64 t3561.2)), (134, (.bool x3580))] [] (fun fb => by kernel_rfl) rfl trivial ?_
  refine WL.cutV (T := Bool) 12 (fun t => [(138, (.bool t))]) (fun t => t = (x3580 && (t3121.2.1 == t3561.2))) (fun K => ?_) ?_
  ·
    rcases Bool.eq_false_or_eq_true x3580 with h3593 | h3593
    ·
      refine WL.setB 134 h3593 rfl ?_
      refine seg 12 [] [138] [(138, (.bool (t3121.2.1 == t3561.2)))] [] (fun fb => by kernel_rfl) rfl trivial ?_
      exact WL.toV K (t3121.2.1 == t3561.2) [138] rfl (by rw [h3593]; rfl)
    refine WL.setB 134 h3593 rfl ?_
    refine seg 12 [] [138] [(138, (.bool false))] [] (fun fb => by kernel_rfl) rfl trivial ?_
    exact WL.toV K false [138] rfl (by rw [h3593]; rfl)
  rintro b3594 rfl
  refine seg 13 [] [139] [(139, (.bool (x3580 && (t3121.2.1 == t3561.2))))] [] (fun fb => by kernel_rfl) rfl trivial ?_
  obtain ⟨x3601, hx3602, hf⟩ := bind_some hf
  refine WL.cutW (T := Bool) 15 (fun t => [(141, (.bool t))]) (fun t w1 => (St NoS w w1 [rowR enc_Action A_p0_Actions c_p0_Actions p0.Actions, rowR encInt A_p1_Cells c_p1_Cells p1.Cells] [] ∧ x3601 = t) ∧ CellsOK [] w1) (fun K => ?_) ?_
  ·
    rcases br_some hx3602 with ⟨h3603, hx3602⟩ | ⟨h3603, hx3602⟩
    ·
      refine WL.setB 139 h3603 rfl ?_
      obtain ⟨t3604, ht3605, hx3602⟩ := bind_some hx3602
      refine WL.call (some 140) 11 #[] (fun fb => by kernel_rfl) (law08_awake_calls _ t3604 _ ht3605) (fun v w3606 hR3607 => ?_)
      obtain ⟨rfl, hk_⟩ := hR3607
      have hS3608 := hS3591.keepN hk_
      refine ⟨trivial, ?_⟩
      refine seg 15 [] [141] [(141, (.bool t3604))] [] (fun fb => by kernel_rfl) rfl trivial ?_
      injection hx3602 with hx3602
      exact WL.to K t3604 [141] rfl ⟨⟨(hS3608.subR [0, 1]).sub [] (by decide), hx3602.symm⟩, trivial⟩
    refine WL.setB 139 h3603 rfl ?_
    refine seg 15 [] [141] [(141, (.bool false))] [] (fun fb => by kernel_rfl) rfl trivial ?_
    injection hx3602 with hx3602
    exact WL.to K false [141] rfl ⟨⟨(hS3591.subR [0, 1]).sub [] (by decide), hx3602.symm⟩, trivial⟩
  rintro y3609 w3611 ⟨⟨hS3612, hq3610⟩, hF3613⟩
  subst hq3610
  refine seg 16 [] [6] [(6, (.bool x3601))] [] (fun fb => by kernel_rfl) rfl trivial ?_
  refine WL.done rfl ?_
  refine WX.next ?_
  refine WC.ret ?_
  injection hf with hf
  subst hf
  exact WX.ret_ [] (.bool x3601) [] (fun fb => by kernel_rfl) trivial ⟨_, rfl, rfl, hS3612.keep⟩
end Gp
