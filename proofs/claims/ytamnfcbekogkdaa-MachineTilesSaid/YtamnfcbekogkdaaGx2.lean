/- Walks: each function of the program computes its plain function. -/
import Derived.Test.YtamnfcbekogkdaaGx1
set_option linter.unusedVariables false
set_option linter.unusedSimpArgs false
namespace Gp
open Go Gw Go.Proofs
theorem ref08_Fits_calls (k : Nat) (p0 : Machine) (p1 : Config) (A_p0_Actions : Option Addr) (c_p0_Actions : Nat) (A_p1_Cells : Option Addr) (c_p1_Cells : Nat) (r : Bool) (w : World) (hR0 : RO NoS w (rowR enc_Action A_p0_Actions c_p0_Actions p0.Actions)) (hR1 : RO NoS w (rowR encInt A_p1_Cells c_p1_Cells p1.Cells)) (hf : ref08_Fits k p0 p1 = some r) :
    CallsR Try.prog 13 #[(.agg #[(.int .i64 p0.States), (.int .i64 p0.Symbols), (.slice A_p0_Actions p0.Actions.length c_p0_Actions)]), (.agg #[(.int .i64 p1.State), (.int .i64 p1.At), (.slice A_p1_Cells p1.Cells.length c_p1_Cells)])] w (fun v w' => v = (.bool r) ∧ Keeps NoS w w') := by
  have hS : St NoS w w [rowR enc_Action A_p0_Actions c_p0_Actions p0.Actions, rowR encInt A_p1_Cells c_p1_Cells p1.Cells] [] := St.init (ro_cons hR0 (ro_cons hR1 (ro_nil _ _)))
  refine enter 69 Try.func13 rfl Try.ntmps13 rfl ?_
  unfold ref08_Fits at hf
  refine WC.seq ?_
  refine WC.region ?_
  refine WL.new hS 2 [] (fun g => (.pointer (some ⟨g, 0, none⟩))) (.cells #[(.int .i64 p0.States), (.int .i64 p0.Symbols), (.slice A_p0_Actions p0.Actions.length c_p0_Actions)] 24 (0, 0)) [] (fun fb g => by kernel_rfl) trivial (fun g6338 w6339 hS6340 => ?_)
  refine ⟨trivial, ?_⟩
  refine WL.new hS6340 3 [] (fun g => (.pointer (some ⟨g, 0, none⟩))) (.cells #[(.int .i64 p1.State), (.int .i64 p1.At), (.slice A_p1_Cells p1.Cells.length c_p1_Cells)] 27 (0, 0)) [] (fun fb g => by kernel_rfl) trivial (fun g6342 w6343 hS6344 => ?_)
  refine ⟨trivial, ?_⟩
  refine seg 3 [] [2, 3] [(2, (.pointer (some ⟨g6338, 0, none⟩))), (3, (.pointer (some ⟨g6342, 0, none⟩)))] [] (fun fb => by kernel_rfl) rfl trivial ?_
  refine WL.done rfl ?_
  refine WX.next ?_
  refine WC.seq ?_
  refine WC.seq ?_
  refine WC.region ?_
  refine seg 1 [.v (.int .i64 p0.States), .v (.int .i64 p0.Symbols), .v (.slice A_p0_Actions p0.Actions.length c_p0_Actions)] [2, 3, 6] [(2, (.pointer (some ⟨g6338, 0, none⟩))), (3, (.pointer (some ⟨g6342, 0, none⟩))), (6, (.agg #[(.int .i64 p0.States), (.int .i64 p0.Symbols), (.slice A_p0_Actions p0.Actions.length c_p0_Actions)]))] [.cell ⟨g6338, 0, none⟩ (.int .i64 p0.States), .cell ⟨g6338, 1, none⟩ (.int .i64 p0.Symbols), .cell ⟨g6338, 2, none⟩ (.slice A_p0_Actions p0.Actions.length c_p0_Actions)] (fun fb => by kernel_rfl) rfl ⟨hS6344.cell 1 rfl 0 rfl, hS6344.cell 1 rfl 1 rfl, hS6344.cell 1 rfl 2 rfl, trivial⟩ ?_
  obtain ⟨t6346, ht6347, hf⟩ := bind_some hf
  refine WL.call (some 7) 17 #[(.agg #[(.int .i64 p0.States), (.int .i64 p0.Symbols), (.slice A_p0_Actions p0.Actions.length c_p0_Actions)])] (fun fb => by kernel_rfl) (ref08_Valid_calls _ p0 A_p0_Actions c_p0_Actions t6346 _ (hS6344.rd 0) ht6347) (fun v w6348 hR6349 => ?_)
  obtain ⟨rfl, hk_⟩ := hR6349
  have hS6350 := hS6344.keepN hk_
  refine ⟨trivial, ?_⟩
  refine seg 4 [] [2, 3, 9] [(2, (.pointer (some ⟨g6338, 0, none⟩))), (3, (.pointer (some ⟨g6342, 0, none⟩))), (9, (.bool (!t6346)))] [] (fun fb => by kernel_rfl) rfl trivial ?_
  refine WL.cutV (T := Bool) 8 (fun t => [(13, (.bool t)), (2, (.pointer (some ⟨g6338, 0, none⟩))), (3, (.pointer (some ⟨g6342, 0, none⟩)))]) (fun t => t = ((!t6346) || (decide (p1.State < 0)))) (fun K => ?_) ?_
  ·
    rcases Bool.eq_false_or_eq_true (!t6346) with h6351 | h6351
    ·
      refine WL.setB 9 h6351 rfl ?_
      refine seg 8 [] [2, 3, 13] [(2, (.pointer (some ⟨g6338, 0, none⟩))), (3, (.pointer (some ⟨g6342, 0, none⟩))), (13, (.bool true))] [] (fun fb => by kernel_rfl) rfl trivial ?_
      exact WL.toV K true [13, 2, 3] rfl (by rw [h6351]; rfl)
    refine WL.setB 9 h6351 rfl ?_
    refine seg 8 [.v (.int .i64 p1.State)] [2, 3, 13] [(2, (.pointer (some ⟨g6338, 0, none⟩))), (3, (.pointer (some ⟨g6342, 0, none⟩))), (13, (.bool (decide (p1.State < 0))))] [.cell ⟨g6342, 0, none⟩ (.int .i64 p1.State)] (fun fb => by kernel_rfl) rfl ⟨hS6350.cell 0 rfl 0 rfl, trivial⟩ ?_
    exact WL.toV K (decide (p1.State < 0)) [13, 2, 3] rfl (by rw [h6351]; rfl)
  rintro b6352 rfl
  refine seg 9 [] [2, 3, 14] [(2, (.pointer (some ⟨g6338, 0, none⟩))), (3, (.pointer (some ⟨g6342, 0, none⟩))), (14, (.bool ((!t6346) || (decide (p1.State < 0)))))] [] (fun fb => by kernel_rfl) rfl trivial ?_
  refine WL.cutV (T := Bool) 15 (fun t => [(20, (.bool t)), (2, (.pointer (some ⟨g6338, 0, none⟩))), (3, (.pointer (some ⟨g6342, 0, none⟩)))]) (fun t => t = (((!t6346) || (decide (p1.State < 0))) || (decide (p1.State ≥ p0.States)))) (fun K => ?_) ?_
  ·
    rcases Bool.eq_false_or_eq_true ((!t6346) || (decide (p1.State < 0))) with h6353 | h6353
    ·
      refine WL.setB 14 h6353 rfl ?_
      refine seg 15 [] [2, 3, 20] [(2, (.pointer (some ⟨g6338, 0, none⟩))), (3, (.pointer (some ⟨g6342, 0, none⟩))), (20, (.bool true))] [] (fun fb => by kernel_rfl) rfl trivial ?_
      exact WL.toV K true [20, 2, 3] rfl (by rw [h6353]; rfl)
    refine WL.setB 14 h6353 rfl ?_
    refine seg 15 [.v (.int .i64 p1.State), .v (.int .i64 p0.States)] [2, 3, 20] [(2, (.pointer (some ⟨g6338, 0, none⟩))), (3, (.pointer (some ⟨g6342, 0, none⟩))), (20, (.bool (decide (p1.State ≥ p0.States))))] [.cell ⟨g6342, 0, none⟩ (.int .i64 p1.State), .cell ⟨g6338, 0, none⟩ (.int .i64 p0.States)] (fun fb => by kernel_rfl) rfl ⟨hS6350.cell 0 rfl 0 rfl, hS6350.cell 1 rfl 0 rfl, trivial⟩ ?_
    exact WL.toV K (decide (p1.State ≥ p0.States)) [20, 2, 3] rfl (by rw [h6353]; rfl)
  rintro b6354 rfl
  refine seg 16 [] [2, 3, 21] [(2, (.pointer (some ⟨g6338, 0, none⟩))), (3, (.pointer (some ⟨g6342, 0, none⟩))), (21, (.bool (((!t6346) || (decide (p1.State < 0))) || (decide (p1.State ≥ p0.States)))))] [] (fun fb => by kernel_rfl) rfl trivial ?_
  refine WL.cutV (T := Bool) 21 (fun t => [(26, (.bool t)), (2, (.pointer (some ⟨g6338, 0, none⟩))), (3, (.pointer (some ⟨g6342, 0, none⟩)))]) (fun t => t = ((((!t6346) || (decide (p1.State < 0))) || (decide (p1.State ≥ p0.States))) || (decide ((p1.Cells.length : Int) < 1)))) (fun K => ?_) ?_
  ·
    rcases Bool.eq_false_or_eq_true (((!t6346) || (decide (p1.State < 0))) || (decide (p1.State ≥ p0.States))) with h6355 | h6355
    ·
      refine WL.setB 21 h6355 rfl ?_
      refine seg 21 [] [2, 3, 26] [(2, (.pointer (some ⟨g6338, 0, none⟩))), (3, (.pointer (some ⟨g6342, 0, none⟩))), (26, (.bool true))] [] (fun fb => by kernel_rfl) rfl trivial ?_
      exact WL.toV K true [26, 2, 3] rfl (by rw [h6355]; rfl)
    refine WL.setB 21 h6355 rfl ?_
    refine seg 21 [.v (.slice A_p1_Cells p1.Cells.length c_p1_Cells)] [2, 3, 26] [(2, (.pointer (some ⟨g6338, 0, none⟩))), (3, (.pointer (some ⟨g6342, 0, none⟩))), (26, (.bool (decide ((p1.Cells.length : Int) < 1))))] [.cell ⟨g6342, 2, none⟩ (.slice A_p1_Cells p1.Cells.length c_p1_Cells)] (fun fb => by kernel_rfl) rfl ⟨hS6350.cell 0 rfl 2 rfl, trivial⟩ ?_
    exact WL.toV K (decide ((p1.Cells.length : Int) < 1)) [26, 2, 3] rfl (by rw [h6355]; rfl)
  rintro b6356 rfl
  refine seg 22 [] [2, 3, 27] [(2, (.pointer (some ⟨g6338, 0, none⟩))), (3, (.pointer (some ⟨g6342, 0, none⟩))), (27, (.bool ((((!t6346) || (decide (p1.State < 0))) || (decide (p1.State ≥ p0.States))) || (decide ((p1.Cells.length : Int) < 1)))))] [] (fun fb => by kernel_rfl) rfl trivial ?_
  refine WL.cutV (T := Bool) 27 (fun t => [(32, (.bool t)), (2, (.pointer (some ⟨g6338, 0, none⟩))), (3, (.pointer (some ⟨g6342, 0, none⟩)))]) (fun t => t = (((((!t6346) || (decide (p1.State < 0))) || (decide (p1.State ≥ p0.States))) || (decide ((p1.Cells.length : Int) < 1))) || (decide ((p1.Cells.length : Int) > 200)))) (fun K => ?_) ?_
  ·
    rcases Bool.eq_false_or_eq_true ((((!t6346) || (decide (p1.State < 0))) || (decide (p1.State ≥ p0.States))) || (decide ((p1.Cells.length : Int) < 1))) with h6357 | h6357
    ·
      refine WL.setB 27 h6357 rfl ?_
      refine seg 27 [] [2, 3, 32] [(2, (.pointer (some ⟨g6338, 0, none⟩))), (3, (.pointer (some ⟨g6342, 0, none⟩))), (32, (.bool true))] [] (fun fb => by kernel_rfl) rfl trivial ?_
      exact WL.toV K true [32, 2, 3] rfl (by rw [h6357]; rfl)
    refine WL.setB 27 h6357 rfl ?_
    refine seg 27 [.v (.slice A_p1_Cells p1.Cells.length c_p1_Cells)] [2, 3, 32] [(2, (.pointer (some ⟨g6338, 0, none⟩))), (3, (.pointer (some ⟨g6342, 0, none⟩))), (32, (.bool (decide ((p1.Cells.length : Int) > 200))))] [.cell ⟨g6342, 2, none⟩ (.slice A_p1_Cells p1.Cells.length c_p1_Cells)] (fun fb => by kernel_rfl) rfl ⟨hS6350.cell 0 rfl 2 rfl, trivial⟩ ?_
    exact WL.toV K (decide ((p1.Cells.length : Int) > 200)) [32, 2, 3] rfl (by rw [h6357]; rfl)
  rintro b6358 rfl
  refine seg 28 [] [2, 3, 33] [(2, (.pointer (some ⟨g6338, 0, none⟩))), (3, (.pointer (some ⟨g6342, 0, none⟩))), (33, (.bool (((((!t6346) || (decide (p1.State < 0))) || (decide (p1.State ≥ p0.States))) || (decide ((p1.Cells.length : Int) < 1))) || (decide ((p1.Cells.length : Int) > 200)))))] [] (fun fb => by kernel_rfl) rfl trivial ?_
  refine WL.cutV (T := Bool) 32 (fun t => [(37, (.bool t)), (2, (.pointer (some ⟨g6338, 0, none⟩))), (3, (.pointer (some ⟨g6342, 0, none⟩)))]) (fun t => t = ((((((!t6346) || (decide (p1.State < 0))) || (decide (p1.State ≥ p0.States))) || (decide ((p1.Cells.length : Int) < 1))) || (decide ((p1.Cells.length : Int) > 200))) || (decide (p1.At < 0)))) (fun K => ?_) ?_
  ·
    rcases Bool.eq_false_or_eq_true (((((!t6346) || (decide (p1.State < 0))) || (decide (p1.State ≥ p0.States))) || (decide ((p1.Cells.length : Int) < 1))) || (decide ((p1.Cells.length : Int) > 200))) with h6359 | h6359
    ·
      refine WL.setB 33 h6359 rfl ?_
      refine seg 32 [] [2, 3, 37] [(2, (.pointer (some ⟨g6338, 0, none⟩))), (3, (.pointer (some ⟨g6342, 0, none⟩))), (37, (.bool true))] [] (fun fb => by kernel_rfl) rfl trivial ?_
      exact WL.toV K true [37, 2, 3] rfl (by rw [h6359]; rfl)
    refine WL.setB 33 h6359 rfl ?_
    refine seg 32 [.v (.int .i64 p1.At)] [2, 3, 37] [(2, (.pointer (some ⟨g6338, 0, none⟩))), (3, (.pointer (some ⟨g6342, 0, none⟩))), (37, (.bool (decide (p1.At < 0))))] [.cell ⟨g6342, 1, none⟩ (.int .i64 p1.At)] (fun fb => by kernel_rfl) rfl ⟨hS6350.cell 0 rfl 1 rfl, trivial⟩ ?_
    exact WL.toV K (decide (p1.At < 0)) [37, 2, 3] rfl (by rw [h6359]; rfl)
  rintro b6360 rfl
  refine seg 33 [] [2, 3, 38] [(2, (.pointer (some ⟨g6338, 0, none⟩))), (3, (.pointer (some ⟨g6342, 0, none⟩))), (38, (.bool ((((((!t6346) || (decide (p1.State < 0))) || (decide (p1.State ≥ p0.States))) || (decide ((p1.Cells.length : Int) < 1))) || (decide ((p1.Cells.length : Int) > 200))) || (decide (p1.At < 0)))))] [] (fun fb => by kernel_rfl) rfl trivial ?_
  refine WL.cutV (T := Bool) 40 (fun t => [(45, (.bool t)), (2, (.pointer (some ⟨g6338, 0, none⟩))), (3, (.pointer (some ⟨g6342, 0, none⟩)))]) (fun t => t = (((((((!t6346) || (decide (p1.State < 0))) || (decide (p1.State ≥ p0.States))) || (decide ((p1.Cells.length : Int) < 1))) || (decide ((p1.Cells.length : Int) > 200))) || (decide (p1.At < 0))) || (decide (p1.At ≥ (p1.Cells.length : Int))))) (fun K => ?_) ?_
  ·
    rcases Bool.eq_false_or_eq_true ((((((!t6346) || (decide (p1.State < 0))) || (decide (p1.State ≥ p0.States))) || (decide ((p1.Cells.length : Int) < 1))) || (decide ((p1.Cells.length : Int) > 200))) || (decide (p1.At < 0))) with h6361 | h6361
    ·
      refine WL.setB 38 h6361 rfl ?_
      refine seg 40 [] [2, 3, 45] [(2, (.pointer (some ⟨g6338, 0, none⟩))), (3, (.pointer (some ⟨g6342, 0, none⟩))), (45, (.bool true))] [] (fun fb => by kernel_rfl) rfl trivial ?_
      exact WL.toV K true [45, 2, 3] rfl (by rw [h6361]; rfl)
    refine WL.setB 38 h6361 rfl ?_
    refine seg 40 [.v (.int .i64 p1.At), .v (.slice A_p1_Cells p1.Cells.length c_p1_Cells)] [2, 3, 45] [(2, (.pointer (some ⟨g6338, 0, none⟩))), (3, (.pointer (some ⟨g6342, 0, none⟩))), (45, (.bool (decide (p1.At ≥ (p1.Cells.length : Int)))))] [.cell ⟨g6342, 1, none⟩ (.int .i64 p1.At), .cell ⟨g6342, 2, none⟩ (.slice A_p1_Cells p1.Cells.length c_p1_Cells)] (fun fb => by kernel_rfl) rfl ⟨hS6350.cell 0 rfl 1 rfl, hS6350.cell 0 rfl 2 rfl, trivial⟩ ?_
    exact WL.toV K (decide (p1.At ≥ (p1.Cells.length : Int))) [45, 2, 3] rfl (by rw [h6361]; rfl)
  rintro b6362 rfl
  refine WL.done rfl ?_
  refine WX.next ?_
  rcases br_some hf with ⟨h6363, hf⟩ | ⟨h6363, hf⟩
  · refine WC.condT2 (fun fb => by kernel_rfl) h6363 ?_
    refine WC.seq ?_
    refine WC.region ?_
    refine seg 1 [] [4] [(4, (.bool false))] [] (fun fb => by kernel_rfl) rfl trivial ?_
    refine WL.done rfl ?_
    refine WX.next ?_
    refine WC.ret ?_
    injection hf with hf
    subst hf
    exact WX.thenR (WX.ret_ [] (.bool false) [] (fun fb => by kernel_rfl) trivial ⟨_, rfl, rfl, hS6350.keep⟩)
  refine WC.condF2 (fun fb => by kernel_rfl) h6363 ?_
  refine WC.skip ?_
  refine WX.next ?_
  refine WC.seq ?_
  refine WC.seq ?_
  refine WC.region ?_
  refine seg 1 [] [2, 3, 5] [(2, (.pointer (some ⟨g6338, 0, none⟩))), (3, (.pointer (some ⟨g6342, 0, none⟩))), (5, (.int .i64 0))] [] (fun fb => by kernel_rfl) rfl trivial ?_
  refine WL.done rfl ?_
  refine WX.next ?_
  obtain ⟨x6434, hx6435, hf⟩ := bind_some hf
  refine WC.cutN (T := Unit) (fun t => []) (fun t w1 => St NoS w w1 [rowR enc_Action A_p0_Actions c_p0_Actions p0.Actions, rowR encInt A_p1_Cells c_p1_Cells p1.Cells] [] ∧ x6434 = .inr t) (fun Kx6434 => ?_) ?_
  ·
    refine WC.block ?_
    refine WC.loop (T := Int) (fun t => [(2, (.pointer (some ⟨g6338, 0, none⟩))), (3, (.pointer (some ⟨g6342, 0, none⟩))), (5, (.int .i64 t))]) (fun n t w1 => St NoS w w1 [rowR enc_Action A_p0_Actions c_p0_Actions p0.Actions, rowR encInt A_p1_Cells c_p1_Cells p1.Cells] [blk g6338 (.cells #[(.int .i64 p0.States), (.int .i64 p0.Symbols), (.slice A_p0_Actions p0.Actions.length c_p0_Actions)] 24 (0, 0)), blk g6342 (.cells #[(.int .i64 p1.State), (.int .i64 p1.At), (.slice A_p1_Cells p1.Cells.length c_p1_Cells)] 27 (0, 0))] ∧ ref08_Fits.l0 n t p0 p1 = some x6434) k 0 [2, 3, 5] rfl ⟨(hS6350.subR [0, 1]).sub [1, 0] (by decide), hx6435⟩ ?_
    rintro k6436 x6433 w6437 ⟨hS6438, hl6439⟩
    cases k6436 with
    | zero => rw [ref08_Fits.l0] at hl6439; cases hl6439
    | succ k6436 =>
      rw [ref08_Fits.l0] at hl6439
      refine WC.seq ?_
      refine WC.seq ?_
      refine WC.region ?_
      refine seg 5 [.v (.slice A_p1_Cells p1.Cells.length c_p1_Cells)] [2, 3, 5, 50] [(2, (.pointer (some ⟨g6338, 0, none⟩))), (3, (.pointer (some ⟨g6342, 0, none⟩))), (5, (.int .i64 x6433)), (50, (.bool (decide (x6433 < (p1.Cells.length : Int)))))] [.cell ⟨g6342, 2, none⟩ (.slice A_p1_Cells p1.Cells.length c_p1_Cells)] (fun fb => by kernel_rfl) rfl ⟨hS6438.cell 1 rfl 2 rfl, trivial⟩ ?_
      refine WL.done rfl ?_
      refine WX.next ?_
      rcases br_some hl6439 with ⟨h6440, hl6439⟩ | ⟨h6440, hl6439⟩
      · refine WC.condT2 (fun fb => by kernel_rfl) h6440 ?_
        refine WC.skip ?_
        refine WX.next ?_
        refine WC.seq ?_
        refine WC.block ?_
        refine WC.seq ?_
        obtain ⟨x6455, hx6456, hl6439⟩ := bind_some hl6439
        refine WC.cutN (T := Bool) (fun t => [(2, (.pointer (some ⟨g6338, 0, none⟩))), (3, (.pointer (some ⟨g6342, 0, none⟩))), (5, (.int .i64 x6433)), (68, (.bool t))]) (fun t w1 => St NoS w w1 [rowR enc_Action A_p0_Actions c_p0_Actions p0.Actions, rowR encInt A_p1_Cells c_p1_Cells p1.Cells] [blk g6338 (.cells #[(.int .i64 p0.States), (.int .i64 p0.Symbols), (.slice A_p0_Actions p0.Actions.length c_p0_Actions)] 24 (0, 0)), blk g6342 (.cells #[(.int .i64 p1.State), (.int .i64 p1.At), (.slice A_p1_Cells p1.Cells.length c_p1_Cells)] 27 (0, 0))] ∧ x6455 = t) (fun Kx6455 => ?_) ?_
        ·
          rcases br_some hx6456 with ⟨h6458, hx6456⟩ | ⟨h6458, hx6456⟩
          ·
            obtain ⟨h6463, hx6456⟩ := as_some hx6456
            refine WC.regionD ([(1, ⟨g6342, 2, none⟩, (.slice A_p1_Cells p1.Cells.length c_p1_Cells)), (4, ((adr A_p1_Cells).add ((x6433).toNat * 1)), (.int .i64 (rdD p1.Cells x6433 0)))], [0, 1, 2, 3, 4, 5, 6, 7, 8, 9, 10, 11, 12, 13, 14, 15], [[], [0], [], [0, 1, 2], [0, 1, 2, 3], [0, 1, 2, 3, 4], [0, 1, 2, 3, 4, 5], [0, 1, 2, 3, 4, 5, 6], [0, 1, 2, 3, 4, 5, 6, 7], [0, 1, 2, 3, 4, 5, 6], [0, 1, 2, 3, 4, 5, 6, 7, 8, 9], [0, 1, 2, 3, 4, 5, 6, 7, 8, 9, 10], [0, 1, 2, 3, 4, 5, 6], [0, 1, 2, 3, 4, 5, 6, 12], [0, 1, 2, 3, 4, 5, 6, 7, 8, 9, 10, 11, 12, 13], [0, 1, 2, 3, 4, 5, 6, 7, 8, 9, 10, 11, 12, 13, 14]]) [[0, 1, 2, 3, 4, 5, 6, 7, 8, 9, 10, 11, 12, 13, 14, 15]] (by kernel_rfl) (by kernel_rfl) (NoPanic.seq (NoPanic.block (NoPanic.seq (NoPanic.seq (NoPanic.block (NoPanic.seq (NoPanic.body))))))) ?_
            have hS6461 := hS6438.drew
            revert hS6461
            generalize World.drew w6437 = w6460
            intro hS6461
            refine ⟨⟨hS6461.cell 1 rfl 2 rfl, rowR.cell (hS6461.rd 1).1 0 h6463.1 h6463.2 0 rfl, trivial⟩, forallC ?_ (forallN)⟩
            refine segF 7 [.v (.slice A_p1_Cells p1.Cells.length c_p1_Cells), .v (.int .i64 (rdD p1.Cells x6433 0))] [2, 3, 5, 59] [(2, (.pointer (some ⟨g6338, 0, none⟩))), (3, (.pointer (some ⟨g6342, 0, none⟩))), (5, (.int .i64 x6433)), (59, (.bool (decide ((rdD p1.Cells x6433 0) < 0))))] [.idx A_p1_Cells x6433 p1.Cells.length] [0, 1] [(1, ⟨g6342, 2, none⟩, (.slice A_p1_Cells p1.Cells.length c_p1_Cells)), (4, ((adr A_p1_Cells).add ((x6433).toNat * 1)), (.int .i64 (rdD p1.Cells x6433 0)))] (fun fb => by kernel_rfl) rfl ⟨rowR.adr (hS6461.rd 1).1 h6463.1 h6463.2, trivial⟩ rfl ?_
            refine WL.setB 59 h6458 rfl ?_
            refine seg 16 [] [2, 3, 5, 68] [(2, (.pointer (some ⟨g6338, 0, none⟩))), (3, (.pointer (some ⟨g6342, 0, none⟩))), (5, (.int .i64 x6433)), (68, (.bool true))] [] (fun fb => by kernel_rfl) rfl trivial ?_
            refine WL.done rfl ?_
            injection hx6456 with hx6456
            exact WX.to Kx6455 true [2, 3, 5, 68] rfl ⟨(hS6461.subR [0, 1]).sub [0, 1] (by decide), hx6456.symm⟩
          obtain ⟨h6468, hx6456⟩ := as_some hx6456
          refine WC.regionD ([(1, ⟨g6342, 2, none⟩, (.slice A_p1_Cells p1.Cells.length c_p1_Cells)), (4, ((adr A_p1_Cells).add ((x6433).toNat * 1)), (.int .i64 (rdD p1.Cells x6433 0))), (8, ⟨g6342, 2, none⟩, (.slice A_p1_Cells p1.Cells.length c_p1_Cells)), (11, ((adr A_p1_Cells).add ((x6433).toNat * 1)), (.int .i64 (rdD p1.Cells x6433 0))), (13, ⟨g6338, 1, none⟩, (.int .i64 p0.Symbols))], [0, 1, 2, 3, 4, 5, 6, 7, 8, 9, 10, 11, 12, 13, 14, 15], [[], [0], [], [0, 1, 2], [0, 1, 2, 3], [0, 1, 2, 3, 4], [0, 1, 2, 3, 4, 5], [0, 1, 2, 3, 4, 5, 6], [0, 1, 2, 3, 4, 5, 6, 7], [0, 1, 2, 3, 4, 5, 6], [0, 1, 2, 3, 4, 5, 6, 7, 8, 9], [0, 1, 2, 3, 4, 5, 6, 7, 8, 9, 10], [0, 1, 2, 3, 4, 5, 6], [0, 1, 2, 3, 4, 5, 6, 12], [0, 1, 2, 3, 4, 5, 6, 7, 8, 9, 10, 11, 12, 13], [0, 1, 2, 3, 4, 5, 6, 7, 8, 9, 10, 11, 12, 13, 14]]) [[0, 1, 2, 3, 4, 5, 6, 7, 8, 9, 10, 11, 12, 13, 14, 15]] (by kernel_rfl) (by kernel_rfl) (NoPanic.seq (NoPanic.block (NoPanic.seq (NoPanic.seq (NoPanic.block (NoPanic.seq (NoPanic.body))))))) ?_
          have hS6466 := hS6438.drew
          revert hS6466
          generalize World.drew w6437 = w6465
          intro hS6466
          refine ⟨⟨hS6466.cell 1 rfl 2 rfl, rowR.cell (hS6466.rd 1).1 0 h6468.1 h6468.2 0 rfl, hS6466.cell 1 rfl 2 rfl, rowR.cell (hS6466.rd 1).1 0 h6468.1 h6468.2 0 rfl, hS6466.cell 0 rfl 1 rfl, trivial⟩, forallC ?_ (forallN)⟩
          refine segF 7 [.v (.slice A_p1_Cells p1.Cells.length c_p1_Cells), .v (.int .i64 (rdD p1.Cells x6433 0))] [2, 3, 5, 59] [(2, (.pointer (some ⟨g6338, 0, none⟩))), (3, (.pointer (some ⟨g6342, 0, none⟩))), (5, (.int .i64 x6433)), (59, (.bool (decide ((rdD p1.Cells x6433 0) < 0))))] [.idx A_p1_Cells x6433 p1.Cells.length] [0, 1] [(1, ⟨g6342, 2, none⟩, (.slice A_p1_Cells p1.Cells.length c_p1_Cells)), (4, ((adr A_p1_Cells).add ((x6433).toNat * 1)), (.int .i64 (rdD p1.Cells x6433 0)))] (fun fb => by kernel_rfl) rfl ⟨rowR.adr (hS6466.rd 1).1 h6468.1 h6468.2, trivial⟩ rfl ?_
          refine WL.setB 59 h6458 rfl ?_
          refine segF 16 [.v (.slice A_p1_Cells p1.Cells.length c_p1_Cells), .v (.int .i64 (rdD p1.Cells x6433 0)), .v (.int .i64 p0.Symbols)] [2, 3, 5, 68] [(2, (.pointer (some ⟨g6338, 0, none⟩))), (3, (.pointer (some ⟨g6342, 0, none⟩))), (5, (.int .i64 x6433)), (68, (.bool (decide ((rdD p1.Cells x6433 0) ≥ p0.Symbols))))] [.idx A_p1_Cells x6433 p1.Cells.length] [2, 3, 4] [(8, ⟨g6342, 2, none⟩, (.slice A_p1_Cells p1.Cells.length c_p1_Cells)), (11, ((adr A_p1_Cells).add ((x6433).toNat * 1)), (.int .i64 (rdD p1.Cells x6433 0))), (13, ⟨g6338, 1, none⟩, (.int .i64 p0.Symbols))] (fun fb => by kernel_rfl) rfl ⟨rowR.adr (hS6466.rd 1).1 h6468.1 h6468.2, trivial⟩ rfl ?_
          refine WL.done rfl ?_
          injection hx6456 with hx6456
          exact WX.to Kx6455 (decide ((rdD p1.Cells x6433 0) ≥ p0.Symbols)) [2, 3, 5, 68] rfl ⟨(hS6466.subR [0, 1]).sub [0, 1] (by decide), hx6456.symm⟩
        rintro y6472 w6469 ⟨hS6470, hq6471⟩
        subst hq6471
        refine WX.next ?_
        rcases br_some hl6439 with ⟨h6473, hl6439⟩ | ⟨h6473, hl6439⟩
        · refine WC.condT2 (fun fb => by kernel_rfl) h6473 ?_
          refine WC.seq ?_
          refine WC.region ?_
          refine seg 1 [] [4] [(4, (.bool false))] [] (fun fb => by kernel_rfl) rfl trivial ?_
          refine WL.done rfl ?_
          refine WX.next ?_
          refine WC.ret ?_
          injection hl6439 with hl6439
          subst hl6439
          injection hf with hf
          subst hf
          exact WX.blockR (WX.thenR (WX.thenR (WX.blockR (WX.thenR (WX.ret_ [] (.bool false) [] (fun fb => by kernel_rfl) trivial ⟨_, rfl, rfl, hS6470.keep⟩)))))
        refine WC.condF2 (fun fb => by kernel_rfl) h6473 ?_
        refine WC.skip ?_
        refine WX.blockN (WX.next ?_)
        refine WC.region ?_
        refine seg 3 [] [2, 3, 5] [(2, (.pointer (some ⟨g6338, 0, none⟩))), (3, (.pointer (some ⟨g6342, 0, none⟩))), (5, (.int .i64 (w64 (x6433 + 1))))] [] (fun fb => by kernel_rfl) rfl trivial ?_
        refine WL.done rfl ?_
        exact WX.again k6436 (Nat.lt_succ_self _) (w64 (x6433 + 1)) [2, 3, 5] rfl ⟨(hS6470.subR [0, 1]).sub [0, 1] (by decide), hl6439⟩
      refine WC.condF2 (fun fb => by kernel_rfl) h6440 ?_
      refine WC.exit ?_
      injection hl6439 with hl6439
      exact WX.thenX (WX.thenX (WX.blockHere (WX.to Kx6434 () [] rfl ⟨(hS6438.subR [0, 1]).sub [] (by decide), hl6439.symm⟩)))
  rintro y6477 w6474 ⟨hS6475, hq6476⟩
  subst hq6476
  have hf := sum_inr hf
  refine WX.next ?_
  refine WC.seq ?_
  refine WC.region ?_
  refine seg 1 [] [4] [(4, (.bool true))] [] (fun fb => by kernel_rfl) rfl trivial ?_
  refine WL.done rfl ?_
  refine WX.next ?_
  refine WC.ret ?_
  injection hf with hf
  subst hf
  exact WX.ret_ [] (.bool true) [] (fun fb => by kernel_rfl) trivial ⟨_, rfl, rfl, hS6475.keep⟩
theorem ref08_Read_calls (k : Nat) (p0 : Machine) (p1 : List Int) (A_p0_Actions : Option Addr) (c_p0_Actions : Nat) (A_p1 : Option Addr) (c_p1 : Nat) (r : Config × Bool) (w : World) (hR0 : RO NoS w (rowR enc_Action A_p0_Actions c_p0_Actions p0.Actions)) (hR1 : RO NoS w (rowR encInt A_p1 c_p1 p1)) (hf : ref08_Read k p0 p1 = some r) :
    CallsR Try.prog 30 #[(.agg #[(.int .i64 p0.States), (.int .i64 p0.Symbols), (.slice A_p0_Actions p0.Actions.length c_p0_Actions)]), (.slice A_p1 p1.length c_p1)] w (fun v w' => ∃ (A1_ : Option Addr), ∃ (c1_ : Nat), v = (.tuple #[(.agg #[(.int .i64 r.1.State), (.int .i64 r.1.At), (.slice A1_ r.1.Cells.length c1_)]), (.bool r.2)]) ∧ St NoS w w' [] [rowO 3 encInt A1_ c1_ r.1.Cells]) := by
  have hS : St NoS w w [rowR enc_Action A_p0_Actions c_p0_Actions p0.Actions, rowR encInt A_p1 c_p1 p1] [] := St.init (ro_cons hR0 (ro_cons hR1 (ro_nil _ _)))
  refine enter 69 Try.func30 rfl Try.ntmps30 rfl ?_
  unfold ref08_Read at hf
  refine WC.seq ?_
  refine WC.region ?_
  refine WL.new hS 2 [] (fun g => (.pointer (some ⟨g, 0, none⟩))) (.cells #[(.int .i64 p0.States), (.int .i64 p0.Symbols), (.slice A_p0_Actions p0.Actions.length c_p0_Actions)] 24 (0, 0)) [] (fun fb g => by kernel_rfl) trivial (fun g6057 w6058 hS6059 => ?_)
  refine ⟨trivial, ?_⟩
  refine WL.new hS6059 4 [] (fun g => (.pointer (some ⟨g, 0, none⟩))) (.cells #[(.int .i64 0), (.int .i64 0), (.slice none 0 0)] 27 (0, 0)) [] (fun fb g => by kernel_rfl) trivial (fun g6061 w6062 hS6063 => ?_)
  refine ⟨trivial, ?_⟩
  refine seg 3 [] [1, 2, 4] [(1, (.slice A_p1 p1.length c_p1)), (2, (.pointer (some ⟨g6057, 0, none⟩))), (4, (.pointer (some ⟨g6061, 0, none⟩)))] [] (fun fb => by kernel_rfl) rfl trivial ?_
  refine WL.done rfl ?_
  refine WX.next ?_
  refine WC.seq ?_
  refine WC.region ?_
  refine seg 1 [] [1, 2, 4, 10] [(1, (.slice A_p1 p1.length c_p1)), (2, (.pointer (some ⟨g6057, 0, none⟩))), (4, (.pointer (some ⟨g6061, 0, none⟩))), (10, (.agg #[(.int .i64 0), (.int .i64 0), (.slice none 0 0)]))] [] (fun fb => by kernel_rfl) rfl trivial ?_
  refine WL.new hS6063 6 [] (fun g => (.pointer (some ⟨g, 0, none⟩))) (.cells #[(.int .i64 0), (.int .i64 0), (.slice none 0 0)] 27 (0, 0)) [] (fun fb g => by kernel_rfl) trivial (fun g6065 w6066 hS6067 => ?_)
  refine ⟨trivial, ?_⟩
  refine WL.store hS6067 0 rfl [(0, (.int .i64 0)), (1, (.int .i64 0)), (2, (.slice none 0 0))] #[(.int .i64 0), (.int .i64 0), (.slice none 0 0)] (fun fb => by kernel_rfl) (by kernel_rfl) rfl [1, 2] (by decide) (by decide) (fun w6069 hS6070 => ?_)
  refine ⟨trivial, ?_⟩
  refine seg 4 [] [1, 2, 4, 6, 7] [(1, (.slice A_p1 p1.length c_p1)), (2, (.pointer (some ⟨g6057, 0, none⟩))), (4, (.pointer (some ⟨g6061, 0, none⟩))), (6, (.pointer (some ⟨g6065, 0, none⟩))), (7, (.int .i64 0))] [] (fun fb => by kernel_rfl) rfl trivial ?_
  refine WL.done rfl ?_
  refine WX.next ?_
  refine WC.seq ?_
  refine WC.seq ?_
  refine WC.region ?_
  refine seg 1 [] [1, 2, 4, 6, 7, 8] [(1, (.slice A_p1 p1.length c_p1)), (2, (.pointer (some ⟨g6057, 0, none⟩))), (4, (.pointer (some ⟨g6061, 0, none⟩))), (6, (.pointer (some ⟨g6065, 0, none⟩))), (7, (.int .i64 0)), (8, (.int .i64 0))] [] (fun fb => by kernel_rfl) rfl trivial ?_
  refine WL.done rfl ?_
  refine WX.next ?_
  have hS6257 := hS6070.nilrow 3 encInt
  obtain ⟨x6271, hx6272, hf⟩ := bind_some hf
  refine WC.cutN (T := (Int × Int × (List Int) × Int) × (Option Addr) × Nat) (fun t => [(2, (.pointer (some ⟨g6057, 0, none⟩))), (4, (.pointer (some ⟨g6061, 0, none⟩))), (6, (.pointer (some ⟨g6065, 0, none⟩))), (7, (.int .i64 t.1.2.2.2))]) (fun t w1 => St NoS w w1 [rowR enc_Action A_p0_Actions c_p0_Actions p0.Actions, rowR encInt A_p1 c_p1 p1] [blk g6057 (.cells #[(.int .i64 p0.States), (.int .i64 p0.Symbols), (.slice A_p0_Actions p0.Actions.length c_p0_Actions)] 24 (0, 0)), blk g6061 (.cells #[(.int .i64 0), (.int .i64 0), (.slice none 0 0)] 27 (0, 0)), blk g6065 (.cells #[(.int .i64 t.1.1), (.int .i64 t.1.2.1), (.slice t.2.1 t.1.2.2.1.length t.2.2)] 27 (0, 0)), rowO 3 encInt t.2.1 t.2.2 t.1.2.2.1] ∧ x6271 = t.1) (fun Kx6271 => ?_) ?_
  ·
    refine WC.block ?_
    refine WC.loop (T := (Int × Int × (List Int) × Int × Int) × (Option Addr) × Nat) (fun t => [(1, (.slice A_p1 p1.length c_p1)), (2, (.pointer (some ⟨g6057, 0, none⟩))), (4, (.pointer (some ⟨g6061, 0, none⟩))), (6, (.pointer (some ⟨g6065, 0, none⟩))), (7, (.int .i64 t.1.2.2.2.1)), (8, (.int .i64 t.1.2.2.2.2))]) (fun n t w1 => St NoS w w1 [rowR enc_Action A_p0_Actions c_p0_Actions p0.Actions, rowR encInt A_p1 c_p1 p1] [blk g6057 (.cells #[(.int .i64 p0.States), (.int .i64 p0.Symbols), (.slice A_p0_Actions p0.Actions.length c_p0_Actions)] 24 (0, 0)), blk g6061 (.cells #[(.int .i64 0), (.int .i64 0), (.slice none 0 0)] 27 (0, 0)), blk g6065 (.cells #[(.int .i64 t.1.1), (.int .i64 t.1.2.1), (.slice t.2.1 t.1.2.2.1.length t.2.2)] 27 (0, 0)), rowO 3 encInt t.2.1 t.2.2 t.1.2.2.1] ∧ ref08_Read.l0 n t.1.1 t.1.2.1 t.1.2.2.1 t.1.2.2.2.1 t.1.2.2.2.2 p0 p1 = some x6271) k ((0, 0, ([] : List Int), 0, 0), none, 0) [1, 2, 4, 6, 7, 8] rfl ⟨(hS6257.subR [0, 1]).sub [3, 2, 1, 0] (by decide), hx6272⟩ ?_
    rintro k6273 ⟨⟨x6258, x6259, l6262, x6263, x6264⟩, A6260, c6261⟩ w6274 ⟨hS6275, hl6276⟩
    cases k6273 with
    | zero => rw [ref08_Read.l0] at hl6276; cases hl6276
    | succ k6273 =>
      rw [ref08_Read.l0] at hl6276
      refine WC.seq ?_
      refine WC.seq ?_
      refine WC.region ?_
      refine seg 5 [] [1, 2, 4, 6, 7, 8, 15] [(1, (.slice A_p1 p1.length c_p1)), (2, (.pointer (some ⟨g6057, 0, none⟩))), (4, (.pointer (some ⟨g6061, 0, none⟩))), (6, (.pointer (some ⟨g6065, 0, none⟩))), (7, (.int .i64 x6263)), (8, (.int .i64 x6264)), (15, (.bool (decide (x6264 < (p1.length : Int)))))] [] (fun fb => by kernel_rfl) rfl trivial ?_
      refine WL.cutV (T := Bool) 8 (fun t => [(18, (.bool t)), (1, (.slice A_p1 p1.length c_p1)), (2, (.pointer (some ⟨g6057, 0, none⟩))), (4, (.pointer (some ⟨g6061, 0, none⟩))), (6, (.pointer (some ⟨g6065, 0, none⟩))), (7, (.int .i64 x6263)), (8, (.int .i64 x6264))]) (fun t => t = ((decide (x6264 < (p1.length : Int))) && (decide (x6264 ≤ 200)))) (fun K => ?_) ?_
      ·
        rcases Bool.eq_false_or_eq_true (decide (x6264 < (p1.length : Int))) with h6277 | h6277
        ·
          refine WL.setB 15 h6277 rfl ?_
          refine seg 8 [] [1, 2, 4, 6, 7, 8, 18] [(1, (.slice A_p1 p1.length c_p1)), (2, (.pointer (some ⟨g6057, 0, none⟩))), (4, (.pointer (some ⟨g6061, 0, none⟩))), (6, (.pointer (some ⟨g6065, 0, none⟩))), (7, (.int .i64 x6263)), (8, (.int .i64 x6264)), (18, (.bool (decide (x6264 ≤ 200))))] [] (fun fb => by kernel_rfl) rfl trivial ?_
          exact WL.toV K (decide (x6264 ≤ 200)) [18, 1, 2, 4, 6, 7, 8] rfl (by rw [h6277]; rfl)
        refine WL.setB 15 h6277 rfl ?_
        refine seg 8 [] [1, 2, 4, 6, 7, 8, 18] [(1, (.slice A_p1 p1.length c_p1)), (2, (.pointer (some ⟨g6057, 0, none⟩))), (4, (.pointer (some ⟨g6061, 0, none⟩))), (6, (.pointer (some ⟨g6065, 0, none⟩))), (7, (.int .i64 x6263)), (8, (.int .i64 x6264)), (18, (.bool false))] [] (fun fb => by kernel_rfl) rfl trivial ?_
        exact WL.toV K false [18, 1, 2, 4, 6, 7, 8] rfl (by rw [h6277]; rfl)
      rintro b6278 rfl
      refine WL.done rfl ?_
      refine WX.next ?_
      rcases br_some hl6276 with ⟨h6279, hl6276⟩ | ⟨h6279, hl6276⟩
      · refine WC.condT2 (fun fb => by kernel_rfl) h6279 ?_
        refine WC.skip ?_
        refine WX.next ?_
        refine WC.seq ?_
        refine WC.block ?_
        refine WC.seq ?_
        refine WC.region ?_
        refine seg 2 [] [1, 2, 4, 6, 7, 8, 21, 22] [(1, (.slice A_p1 p1.length c_p1)), (2, (.pointer (some ⟨g6057, 0, none⟩))), (4, (.pointer (some ⟨g6061, 0, none⟩))), (6, (.pointer (some ⟨g6065, 0, none⟩))), (7, (.int .i64 x6263)), (8, (.int .i64 x6264)), (21, (.slice A_p1 p1.length c_p1)), (22, (.int .i64 x6264))] [] (fun fb => by kernel_rfl) rfl trivial ?_
        obtain ⟨h6280, hl6276⟩ := as_some hl6276
        refine seg 5 [.v (.int .i64 (rdD p1 x6264 0))] [1, 2, 4, 6, 7, 8, 9] [(1, (.slice A_p1 p1.length c_p1)), (2, (.pointer (some ⟨g6057, 0, none⟩))), (4, (.pointer (some ⟨g6061, 0, none⟩))), (6, (.pointer (some ⟨g6065, 0, none⟩))), (7, (.int .i64 x6263)), (8, (.int .i64 x6264)), (9, (.int .i64 (rdD p1 x6264 0)))] [.idx A_p1 x6264 p1.length, .cell ((adr A_p1).add ((x6264).toNat * 1)) (.int .i64 (rdD p1 x6264 0))] (fun fb => by kernel_rfl) rfl ⟨rowR.adr (hS6275.rd 1).1 h6280.1 h6280.2, rowR.cell (hS6275.rd 1).1 0 h6280.1 h6280.2 0 rfl, trivial⟩ ?_
        refine WL.done rfl ?_
        refine WX.next ?_
        refine WC.seq ?_
        refine WC.seq ?_
        refine WC.region ?_
        refine seg 5 [.v (.int .i64 p0.Symbols)] [1, 2, 4, 6, 7, 8, 9, 29] [(1, (.slice A_p1 p1.length c_p1)), (2, (.pointer (some ⟨g6057, 0, none⟩))), (4, (.pointer (some ⟨g6061, 0, none⟩))), (6, (.pointer (some ⟨g6065, 0, none⟩))), (7, (.int .i64 x6263)), (8, (.int .i64 x6264)), (9, (.int .i64 (rdD p1 x6264 0))), (29, (.bool (decide ((rdD p1 x6264 0) ≥ p0.Symbols))))] [.cell ⟨g6057, 1, none⟩ (.int .i64 p0.Symbols)] (fun fb => by kernel_rfl) rfl ⟨hS6275.cell 0 rfl 1 rfl, trivial⟩ ?_
        obtain ⟨x6287, hx6288, hl6276⟩ := bind_some hl6276
        refine WL.cutW (T := Bool) 12 (fun t => [(1, (.slice A_p1 p1.length c_p1)), (2, (.pointer (some ⟨g6057, 0, none⟩))), (4, (.pointer (some ⟨g6061, 0, none⟩))), (6, (.pointer (some ⟨g6065, 0, none⟩))), (7, (.int .i64 x6263)), (8, (.int .i64 x6264)), (9, (.int .i64 (rdD p1 x6264 0))), (36, (.bool t))]) (fun t w1 => (St NoS w w1 [rowR enc_Action A_p0_Actions c_p0_Actions p0.Actions, rowR encInt A_p1 c_p1 p1] [blk g6057 (.cells #[(.int .i64 p0.States), (.int .i64 p0.Symbols), (.slice A_p0_Actions p0.Actions.length c_p0_Actions)] 24 (0, 0)), blk g6061 (.cells #[(.int .i64 0), (.int .i64 0), (.slice none 0 0)] 27 (0, 0)), blk g6065 (.cells #[(.int .i64 x6258), (.int .i64 x6259), (.slice A6260 l6262.length c6261)] 27 (0, 0)), rowO 3 encInt A6260 c6261 l6262] ∧ x6287 = t) ∧ CellsOK [] w1) (fun K => ?_) ?_
        ·
          rcases br_some hx6288 with ⟨h6289, hx6288⟩ | ⟨h6289, hx6288⟩
          ·
            refine WL.setB 29 h6289 rfl ?_
            refine seg 9 [.v (.int .i64 p0.States), .v (.int .i64 p0.Symbols), .v (.slice A_p0_Actions p0.Actions.length c_p0_Actions), .v (.int .i64 p0.States)] [1, 2, 4, 6, 7, 8, 9, 29, 30, 31, 33] [(1, (.slice A_p1 p1.length c_p1)), (2, (.pointer (some ⟨g6057, 0, none⟩))), (4, (.pointer (some ⟨g6061, 0, none⟩))), (6, (.pointer (some ⟨g6065, 0, none⟩))), (7, (.int .i64 x6263)), (8, (.int .i64 x6264)), (9, (.int .i64 (rdD p1 x6264 0))), (29, (.bool true)), (30, (.int .i64 (rdD p1 x6264 0))), (31, (.agg #[(.int .i64 p0.States), (.int .i64 p0.Symbols), (.slice A_p0_Actions p0.Actions.length c_p0_Actions)])), (33, (.int .i64 p0.States))] [.cell ⟨g6057, 0, none⟩ (.int .i64 p0.States), .cell ⟨g6057, 1, none⟩ (.int .i64 p0.Symbols), .cell ⟨g6057, 2, none⟩ (.slice A_p0_Actions p0.Actions.length c_p0_Actions), .cell ⟨g6057, 0, none⟩ (.int .i64 p0.States)] (fun fb => by kernel_rfl) rfl ⟨hS6275.cell 0 rfl 0 rfl, hS6275.cell 0 rfl 1 rfl, hS6275.cell 0 rfl 2 rfl, hS6275.cell 0 rfl 0 rfl, trivial⟩ ?_
            obtain ⟨t6290, ht6291, hx6288⟩ := bind_some hx6288
            refine WL.call (some 34) 55 #[(.agg #[(.int .i64 p0.States), (.int .i64 p0.Symbols), (.slice A_p0_Actions p0.Actions.length c_p0_Actions)]), (.int .i64 p0.States), (.int .i64 0)] (fun fb => by kernel_rfl) (ref08_both_calls p0 p0.States 0 A_p0_Actions c_p0_Actions t6290 _ (hS6275.rd 0) ht6291) (fun v w6292 hR6293 => ?_)
            obtain ⟨rfl, hk_⟩ := hR6293
            have hS6294 := hS6275.keepN hk_
            refine ⟨trivial, ?_⟩
            refine seg 12 [] [1, 2, 4, 6, 7, 8, 9, 36] [(1, (.slice A_p1 p1.length c_p1)), (2, (.pointer (some ⟨g6057, 0, none⟩))), (4, (.pointer (some ⟨g6061, 0, none⟩))), (6, (.pointer (some ⟨g6065, 0, none⟩))), (7, (.int .i64 x6263)), (8, (.int .i64 x6264)), (9, (.int .i64 (rdD p1 x6264 0))), (36, (.bool (decide ((rdD p1 x6264 0) < t6290))))] [] (fun fb => by kernel_rfl) rfl trivial ?_
            injection hx6288 with hx6288
            exact WL.to K (decide ((rdD p1 x6264 0) < t6290)) [1, 2, 4, 6, 7, 8, 9, 36] rfl ⟨⟨(hS6294.subR [0, 1]).sub [0, 1, 2, 3] (by decide), hx6288.symm⟩, trivial⟩
          refine WL.setB 29 h6289 rfl ?_
          refine seg 12 [] [1, 2, 4, 6, 7, 8, 9, 36] [(1, (.slice A_p1 p1.length c_p1)), (2, (.pointer (some ⟨g6057, 0, none⟩))), (4, (.pointer (some ⟨g6061, 0, none⟩))), (6, (.pointer (some ⟨g6065, 0, none⟩))), (7, (.int .i64 x6263)), (8, (.int .i64 x6264)), (9, (.int .i64 (rdD p1 x6264 0))), (36, (.bool false))] [] (fun fb => by kernel_rfl) rfl trivial ?_
          injection hx6288 with hx6288
          exact WL.to K false [1, 2, 4, 6, 7, 8, 9, 36] rfl ⟨⟨(hS6275.subR [0, 1]).sub [0, 1, 2, 3] (by decide), hx6288.symm⟩, trivial⟩
        rintro y6295 w6297 ⟨⟨hS6298, hq6296⟩, hF6299⟩
        subst hq6296
        refine WL.done rfl ?_
        refine WX.next ?_
        obtain ⟨x6310, hx6311, hl6276⟩ := bind_some hl6276
        refine WC.cutN (T := Int × Int × Int × Int) (fun t => [(1, (.slice A_p1 p1.length c_p1)), (2, (.pointer (some ⟨g6057, 0, none⟩))), (4, (.pointer (some ⟨g6061, 0, none⟩))), (6, (.pointer (some ⟨g6065, 0, none⟩))), (7, (.int .i64 t.2.2.1)), (8, (.int .i64 x6264)), (9, (.int .i64 t.2.2.2))]) (fun t w1 => St NoS w w1 [rowR enc_Action A_p0_Actions c_p0_Actions p0.Actions, rowR encInt A_p1 c_p1 p1] [blk g6057 (.cells #[(.int .i64 p0.States), (.int .i64 p0.Symbols), (.slice A_p0_Actions p0.Actions.length c_p0_Actions)] 24 (0, 0)), blk g6061 (.cells #[(.int .i64 0), (.int .i64 0), (.slice none 0 0)] 27 (0, 0)), blk g6065 (.cells #[(.int .i64 t.1), (.int .i64 t.2.1), (.slice A6260 l6262.length c6261)] 27 (0, 0)), rowO 3 encInt A6260 c6261 l6262] ∧ x6310 = t) (fun Kx6310 => ?_) ?_
        ·
          rcases br_some hx6311 with ⟨h6312, hx6311⟩ | ⟨h6312, hx6311⟩
          · refine WC.condT2 (fun fb => by kernel_rfl) h6312 ?_
            refine WC.seq ?_
            refine WC.region ?_
            refine seg 6 [.v (.int .i64 p0.Symbols), .v (.int .i64 p0.Symbols)] [1, 2, 4, 6, 7, 8, 9, 40, 42] [(1, (.slice A_p1 p1.length c_p1)), (2, (.pointer (some ⟨g6057, 0, none⟩))), (4, (.pointer (some ⟨g6061, 0, none⟩))), (6, (.pointer (some ⟨g6065, 0, none⟩))), (7, (.int .i64 x6263)), (8, (.int .i64 x6264)), (9, (.int .i64 (rdD p1 x6264 0))), (40, (.int .i64 (w64 ((rdD p1 x6264 0) - p0.Symbols)))), (42, (.int .i64 p0.Symbols))] [.cell ⟨g6057, 1, none⟩ (.int .i64 p0.Symbols), .cell ⟨g6057, 1, none⟩ (.int .i64 p0.Symbols)] (fun fb => by kernel_rfl) rfl ⟨hS6298.cell 0 rfl 1 rfl, hS6298.cell 0 rfl 1 rfl, trivial⟩ ?_
            obtain ⟨h6313, hx6311⟩ := as_some hx6311
            refine seg 9 [] [1, 2, 4, 6, 7, 8, 9, 43, 44, 45] [(1, (.slice A_p1 p1.length c_p1)), (2, (.pointer (some ⟨g6057, 0, none⟩))), (4, (.pointer (some ⟨g6061, 0, none⟩))), (6, (.pointer (some ⟨g6065, 0, none⟩))), (7, (.int .i64 x6263)), (8, (.int .i64 x6264)), (9, (.int .i64 (rdD p1 x6264 0))), (43, (.int .i64 (w64 (Int.tdiv (w64 ((rdD p1 x6264 0) - p0.Symbols)) p0.Symbols)))), (44, (.int .i64 x6264)), (45, (.pointer (some ⟨g6065, 0, none⟩)))] [.ne p0.Symbols] (fun fb => by kernel_rfl) rfl ⟨h6313, trivial⟩ ?_
            refine WL.store hS6298 2 rfl [(0, (.int .i64 (w64 (Int.tdiv (w64 ((rdD p1 x6264 0) - p0.Symbols)) p0.Symbols))))] #[(.int .i64 (w64 (Int.tdiv (w64 ((rdD p1 x6264 0) - p0.Symbols)) p0.Symbols))), (.int .i64 x6259), (.slice A6260 l6262.length c6261)] (fun fb => by kernel_rfl) (by kernel_rfl) rfl [0, 1, 3] (by decide) (by decide) (fun w6314 hS6315 => ?_)
            refine ⟨trivial, ?_⟩
            refine seg 11 [] [1, 2, 4, 6, 7, 8, 9, 44, 46] [(1, (.slice A_p1 p1.length c_p1)), (2, (.pointer (some ⟨g6057, 0, none⟩))), (4, (.pointer (some ⟨g6061, 0, none⟩))), (6, (.pointer (some ⟨g6065, 0, none⟩))), (7, (.int .i64 x6263)), (8, (.int .i64 x6264)), (9, (.int .i64 (rdD p1 x6264 0))), (44, (.int .i64 x6264)), (46, (.pointer (some ⟨g6065, 1, none⟩)))] [] (fun fb => by kernel_rfl) rfl trivial ?_
            refine WL.store hS6315 0 rfl [(1, (.int .i64 x6264))] #[(.int .i64 (w64 (Int.tdiv (w64 ((rdD p1 x6264 0) - p0.Symbols)) p0.Symbols))), (.int .i64 x6264), (.slice A6260 l6262.length c6261)] (fun fb => by kernel_rfl) (by kernel_rfl) rfl [1, 2, 3] (by decide) (by decide) (fun w6316 hS6317 => ?_)
            refine ⟨trivial, ?_⟩
            refine WL.done rfl ?_
            refine WX.next ?_
            refine WC.seq ?_
            refine WC.region ?_
            refine seg 5 [.v (.int .i64 p0.Symbols)] [1, 2, 4, 6, 7, 8, 9] [(1, (.slice A_p1 p1.length c_p1)), (2, (.pointer (some ⟨g6057, 0, none⟩))), (4, (.pointer (some ⟨g6061, 0, none⟩))), (6, (.pointer (some ⟨g6065, 0, none⟩))), (7, (.int .i64 x6263)), (8, (.int .i64 x6264)), (9, (.int .i64 (Int.tmod (rdD p1 x6264 0) p0.Symbols)))] [.cell ⟨g6057, 1, none⟩ (.int .i64 p0.Symbols), .ne p0.Symbols] (fun fb => by kernel_rfl) rfl ⟨hS6317.cell 1 rfl 1 rfl, h6313, trivial⟩ ?_
            refine WL.done rfl ?_
            refine WX.next ?_
            refine WC.region ?_
            refine seg 3 [] [1, 2, 4, 6, 7, 8, 9] [(1, (.slice A_p1 p1.length c_p1)), (2, (.pointer (some ⟨g6057, 0, none⟩))), (4, (.pointer (some ⟨g6061, 0, none⟩))), (6, (.pointer (some ⟨g6065, 0, none⟩))), (7, (.int .i64 (w64 (x6263 + 1)))), (8, (.int .i64 x6264)), (9, (.int .i64 (Int.tmod (rdD p1 x6264 0) p0.Symbols)))] [] (fun fb => by kernel_rfl) rfl trivial ?_
            refine WL.done rfl ?_
            injection hx6311 with hx6311
            exact WX.to Kx6310 (w64 (Int.tdiv (w64 ((rdD p1 x6264 0) - p0.Symbols)) p0.Symbols), x6264, w64 (x6263 + 1), Int.tmod (rdD p1 x6264 0) p0.Symbols) [1, 2, 4, 6, 7, 8, 9] rfl ⟨(hS6317.subR [0, 1]).sub [1, 2, 0, 3] (by decide), hx6311.symm⟩
          refine WC.condF2 (fun fb => by kernel_rfl) h6312 ?_
          refine WC.skip ?_
          injection hx6311 with hx6311
          exact WX.to Kx6310 (x6258, x6259, x6263, (rdD p1 x6264 0)) [1, 2, 4, 6, 7, 8, 9] rfl ⟨(hS6298.subR [0, 1]).sub [0, 1, 2, 3] (by decide), hx6311.symm⟩
        rintro y6321 w6318 ⟨hS6319, hq6320⟩
        subst hq6320
        refine WX.next ?_
        refine WC.region ?_
        refine seg 3 [.v (.slice A6260 l6262.length c6261)] [1, 2, 4, 6, 7, 8, 54, 55] [(1, (.slice A_p1 p1.length c_p1)), (2, (.pointer (some ⟨g6057, 0, none⟩))), (4, (.pointer (some ⟨g6061, 0, none⟩))), (6, (.pointer (some ⟨g6065, 0, none⟩))), (7, (.int .i64 x6310.2.2.1)), (8, (.int .i64 x6264)), (54, (.slice A6260 l6262.length c6261)), (55, (.int .i64 x6310.2.2.2))] [.cell ⟨g6065, 2, none⟩ (.slice A6260 l6262.length c6261)] (fun fb => by kernel_rfl) rfl ⟨hS6319.cell 2 rfl 2 rfl, trivial⟩ ?_
        refine WL.new hS6319 56 [] (fun g => (.slice (some ⟨g, 0, none⟩) 1 1)) (.cells #[(.int .i64 x6310.2.2.2)] 3 (0, 0)) [] (fun fb g => by kernel_rfl) trivial (fun g6322 w6323 hS6324 => ?_)
        refine ⟨trivial, ?_⟩
        have hS6326 : St NoS w w6323 [rowR enc_Action A_p0_Actions c_p0_Actions p0.Actions, rowR encInt A_p1 c_p1 p1] [rowO 3 encInt (some ⟨g6322, 0, none⟩) 1 [x6310.2.2.2], blk g6057 (.cells #[(.int .i64 p0.States), (.int .i64 p0.Symbols), (.slice A_p0_Actions p0.Actions.length c_p0_Actions)] 24 (0, 0)), blk g6061 (.cells #[(.int .i64 0), (.int .i64 0), (.slice none 0 0)] 27 (0, 0)), blk g6065 (.cells #[(.int .i64 x6310.1), (.int .i64 x6310.2.1), (.slice A6260 l6262.length c6261)] 27 (0, 0)), rowO 3 encInt A6260 c6261 l6262] := hS6324.map1 0 _ (fun h => rowO.ofBlk h rfl (Nat.le_of_ble_eq_true (by kernel_rfl))) (fun _ h => by obtain ⟨_, h1, h2⟩ := h; injection h1 with h1; subst h1; exact h2) [1, 2, 3, 4] (by decide) (by decide)
        obtain ⟨h6327, hl6276⟩ := as_some hl6276
        refine WL.append hS6326 4 (d := 57) (tS := 25) (z := (.int .i64 0)) (bytes := 8) (c2 := 1) rfl (fun fb => by kernel_rfl) (rowO.rd (hS6326.own 0).1) (by kernel_rfl) (by kernel_rfl) rfl (by decide) h6327 (by decide) [0, 1, 2, 3] (by decide) (by decide) (fun A6328 c6329 w6330 hS6331 => ?_)
        refine ⟨trivial, ?_⟩
        refine seg 6 [] [1, 2, 4, 6, 7, 8, 57, 58] [(1, (.slice A_p1 p1.length c_p1)), (2, (.pointer (some ⟨g6057, 0, none⟩))), (4, (.pointer (some ⟨g6061, 0, none⟩))), (6, (.pointer (some ⟨g6065, 0, none⟩))), (7, (.int .i64 x6310.2.2.1)), (8, (.int .i64 x6264)), (57, (.slice A6328 (l6262 ++ [x6310.2.2.2]).length c6329)), (58, (.pointer (some ⟨g6065, 2, none⟩)))] [] (fun fb => by kernel_rfl) rfl trivial ?_
        refine WL.store hS6331 4 rfl [(2, (.slice A6328 (l6262 ++ [x6310.2.2.2]).length c6329))] #[(.int .i64 x6310.1), (.int .i64 x6310.2.1), (.slice A6328 (l6262 ++ [x6310.2.2.2]).length c6329)] (fun fb => by kernel_rfl) (by kernel_rfl) rfl [0, 1, 2, 3] (by decide) (by decide) (fun w6332 hS6333 => ?_)
        refine ⟨trivial, ?_⟩
        refine WL.done rfl ?_
        refine WX.blockN (WX.next ?_)
        refine WC.region ?_
        refine seg 3 [] [1, 2, 4, 6, 7, 8] [(1, (.slice A_p1 p1.length c_p1)), (2, (.pointer (some ⟨g6057, 0, none⟩))), (4, (.pointer (some ⟨g6061, 0, none⟩))), (6, (.pointer (some ⟨g6065, 0, none⟩))), (7, (.int .i64 x6310.2.2.1)), (8, (.int .i64 (w64 (x6264 + 1))))] [] (fun fb => by kernel_rfl) rfl trivial ?_
        refine WL.done rfl ?_
        exact WX.again k6273 (Nat.lt_succ_self _) ((x6310.1, x6310.2.1, l6262 ++ [x6310.2.2.2], x6310.2.2.1, w64 (x6264 + 1)), A6328, c6329) [1, 2, 4, 6, 7, 8] rfl ⟨(hS6333.subR [0, 1]).sub [3, 4, 0, 1] (by decide), hl6276⟩
      refine WC.condF2 (fun fb => by kernel_rfl) h6279 ?_
      refine WC.exit ?_
      injection hl6276 with hl6276
      exact WX.thenX (WX.thenX (WX.blockHere (WX.to Kx6271 ((x6258, x6259, l6262, x6263), A6260, c6261) [2, 4, 6, 7] rfl ⟨(hS6275.subR [0, 1]).sub [0, 1, 2, 3] (by decide), hl6276.symm⟩)))
  rintro ⟨y6337, A6267, c6268⟩ w6334 ⟨hS6335, hq6336⟩
  subst hq6336
  refine WX.next ?_
  refine WC.seq ?_
  refine WC.seq ?_
  refine WC.region ?_
  refine seg 3 [] [2, 4, 6, 61] [(2, (.pointer (some ⟨g6057, 0, none⟩))), (4, (.pointer (some ⟨g6061, 0, none⟩))), (6, (.pointer (some ⟨g6065, 0, none⟩))), (61, (.bool (x6271.2.2.2 != 1)))] [] (fun fb => by kernel_rfl) rfl trivial ?_
  obtain ⟨x6485, hx6486, hf⟩ := bind_some hf
  refine WL.cutW (T := Bool) 8 (fun t => [(4, (.pointer (some ⟨g6061, 0, none⟩))), (6, (.pointer (some ⟨g6065, 0, none⟩))), (66, (.bool t))]) (fun t w1 => (St NoS w w1 [rowR enc_Action A_p0_Actions c_p0_Actions p0.Actions, rowR encInt A_p1 c_p1 p1] [blk g6061 (.cells #[(.int .i64 0), (.int .i64 0), (.slice none 0 0)] 27 (0, 0)), blk g6065 (.cells #[(.int .i64 x6271.1), (.int .i64 x6271.2.1), (.slice A6267 x6271.2.2.1.length c6268)] 27 (0, 0)), rowO 3 encInt A6267 c6268 x6271.2.2.1] ∧ x6485 = t) ∧ CellsOK [] w1) (fun K => ?_) ?_
  ·
    rcases br_some hx6486 with ⟨h6487, hx6486⟩ | ⟨h6487, hx6486⟩
    ·
      refine WL.setB 61 h6487 rfl ?_
      refine seg 8 [] [4, 6, 66] [(4, (.pointer (some ⟨g6061, 0, none⟩))), (6, (.pointer (some ⟨g6065, 0, none⟩))), (66, (.bool true))] [] (fun fb => by kernel_rfl) rfl trivial ?_
      injection hx6486 with hx6486
      exact WL.to K true [4, 6, 66] rfl ⟨⟨(hS6335.subR [0, 1]).sub [1, 2, 3] (by decide), hx6486.symm⟩, trivial⟩
    refine WL.setB 61 h6487 rfl ?_
    refine seg 5 [.v (.int .i64 p0.States), .v (.int .i64 p0.Symbols), .v (.slice A_p0_Actions p0.Actions.length c_p0_Actions), .v (.int .i64 x6271.1), .v (.int .i64 x6271.2.1), .v (.slice A6267 x6271.2.2.1.length c6268)] [4, 6, 61, 62, 63] [(4, (.pointer (some ⟨g6061, 0, none⟩))), (6, (.pointer (some ⟨g6065, 0, none⟩))), (61, (.bool false)), (62, (.agg #[(.int .i64 p0.States), (.int .i64 p0.Symbols), (.slice A_p0_Actions p0.Actions.length c_p0_Actions)])), (63, (.agg #[(.int .i64 x6271.1), (.int .i64 x6271.2.1), (.slice A6267 x6271.2.2.1.length c6268)]))] [.cell ⟨g6057, 0, none⟩ (.int .i64 p0.States), .cell ⟨g6057, 1, none⟩ (.int .i64 p0.Symbols), .cell ⟨g6057, 2, none⟩ (.slice A_p0_Actions p0.Actions.length c_p0_Actions), .cell ⟨g6065, 0, none⟩ (.int .i64 x6271.1), .cell ⟨g6065, 1, none⟩ (.int .i64 x6271.2.1), .cell ⟨g6065, 2, none⟩ (.slice A6267 x6271.2.2.1.length c6268)] (fun fb => by kernel_rfl) rfl ⟨hS6335.cell 0 rfl 0 rfl, hS6335.cell 0 rfl 1 rfl, hS6335.cell 0 rfl 2 rfl, hS6335.cell 2 rfl 0 rfl, hS6335.cell 2 rfl 1 rfl, hS6335.cell 2 rfl 2 rfl, trivial⟩ ?_
    obtain ⟨t6488, ht6489, hx6486⟩ := bind_some hx6486
    refine WL.call (some 64) 13 #[(.agg #[(.int .i64 p0.States), (.int .i64 p0.Symbols), (.slice A_p0_Actions p0.Actions.length c_p0_Actions)]), (.agg #[(.int .i64 x6271.1), (.int .i64 x6271.2.1), (.slice A6267 x6271.2.2.1.length c6268)])] (fun fb => by kernel_rfl) (ref08_Fits_calls _ p0 (Config.mk x6271.1 x6271.2.1 x6271.2.2.1) A_p0_Actions c_p0_Actions A6267 c6268 t6488 _ (hS6335.rd 0) (hS6335.ow 3).ofO ht6489) (fun v w6490 hR6491 => ?_)
    obtain ⟨rfl, hk_⟩ := hR6491
    have hS6492 := hS6335.keepN hk_
    refine ⟨trivial, ?_⟩
    refine seg 8 [] [4, 6, 66] [(4, (.pointer (some ⟨g6061, 0, none⟩))), (6, (.pointer (some ⟨g6065, 0, none⟩))), (66, (.bool (!t6488)))] [] (fun fb => by kernel_rfl) rfl trivial ?_
    injection hx6486 with hx6486
    exact WL.to K (!t6488) [4, 6, 66] rfl ⟨⟨(hS6492.subR [0, 1]).sub [1, 2, 3] (by decide), hx6486.symm⟩, trivial⟩
  rintro y6493 w6495 ⟨⟨hS6496, hq6494⟩, hF6497⟩
  subst hq6494
  refine WL.done rfl ?_
  refine WX.next ?_
  rcases br_some hf with ⟨h6498, hf⟩ | ⟨h6498, hf⟩
  · refine WC.condT2 (fun fb => by kernel_rfl) h6498 ?_
    refine WC.seq ?_
    refine WC.region ?_
    refine seg 1 [] [4, 67] [(4, (.pointer (some ⟨g6061, 0, none⟩))), (67, (.agg #[(.int .i64 0), (.int .i64 0), (.slice none 0 0)]))] [] (fun fb => by kernel_rfl) rfl trivial ?_
    refine WL.store hS6496 0 rfl [(0, (.int .i64 0)), (1, (.int .i64 0)), (2, (.slice none 0 0))] #[(.int .i64 0), (.int .i64 0), (.slice none 0 0)] (fun fb => by kernel_rfl) (by kernel_rfl) rfl [1, 2] (by decide) (by decide) (fun w6499 hS6500 => ?_)
    refine ⟨trivial, ?_⟩
    refine seg 3 [] [4, 5] [(4, (.pointer (some ⟨g6061, 0, none⟩))), (5, (.bool false))] [] (fun fb => by kernel_rfl) rfl trivial ?_
    refine WL.done rfl ?_
    refine WX.next ?_
    refine WC.ret ?_
    have hS6501 := hS6500.nilrow 3 encInt
    injection hf with hf
    subst hf
    exact WX.thenR (WX.ret_ [.v (.int .i64 0), .v (.int .i64 0), .v (.slice none 0 0)] (.tuple #[(.agg #[(.int .i64 0), (.int .i64 0), (.slice none ([] : List Int).length 0)]), (.bool false)]) [.cell ⟨g6061, 0, none⟩ (.int .i64 0), .cell ⟨g6061, 1, none⟩ (.int .i64 0), .cell ⟨g6061, 2, none⟩ (.slice none 0 0)] (fun fb => by kernel_rfl) ⟨hS6500.cell 0 rfl 0 rfl, hS6500.cell 0 rfl 1 rfl, hS6500.cell 0 rfl 2 rfl, trivial⟩ ⟨_, rfl, none, 0, rfl, (hS6501.sub [0] (by decide)).noR⟩)
  refine WC.condF2 (fun fb => by kernel_rfl) h6498 ?_
  refine WC.skip ?_
  refine WX.next ?_
  refine WC.seq ?_
  refine WC.region ?_
  refine seg 1 [.v (.int .i64 x6271.1), .v (.int .i64 x6271.2.1), .v (.slice A6267 x6271.2.2.1.length c6268)] [4, 68] [(4, (.pointer (some ⟨g6061, 0, none⟩))), (68, (.agg #[(.int .i64 x6271.1), (.int .i64 x6271.2.1), (.slice A6267 x6271.2.2.1.length c6268)]))] [.cell ⟨g6065, 0, none⟩ (.int .i64 x6271.1), .cell ⟨g6065, 1, none⟩ (.int .i64 x6271.2.1), .cell ⟨g6065, 2, none⟩ (.slice A6267 x6271.2.2.1.length c6268)] (fun fb => by kernel_rfl) rfl ⟨hS6496.cell 1 rfl 0 rfl, hS6496.cell 1 rfl 1 rfl, hS6496.cell 1 rfl 2 rfl, trivial⟩ ?_
  refine WL.store hS6496 0 rfl [(0, (.int .i64 x6271.1)), (1, (.int .i64 x6271.2.1)), (2, (.slice A6267 x6271.2.2.1.length c6268))] #[(.int .i64 x6271.1), (.int .i64 x6271.2.1), (.slice A6267 x6271.2.2.1.length c6268)] (fun fb => by kernel_rfl) (by kernel_rfl) rfl [1, 2] (by decide) (by decide) (fun w6502 hS6503 => ?_)
  refine ⟨trivial, ?_⟩
  refine seg 3 [] [4, 5] [(4, (.pointer (some ⟨g6061, 0, none⟩))), (5, (.bool true))] [] (fun fb => by kernel_rfl) rfl trivial ?_
  refine WL.done rfl ?_
  refine WX.next ?_
  refine WC.ret ?_
  injection hf with hf
  subst hf
  exact WX.ret_ [.v (.int .i64 x6271.1), .v (.int .i64 x6271.2.1), .v (.slice A6267 x6271.2.2.1.length c6268)] (.tuple #[(.agg #[(.int .i64 x6271.1), (.int .i64 x6271.2.1), (.slice A6267 x6271.2.2.1.length c6268)]), (.bool true)]) [.cell ⟨g6061, 0, none⟩ (.int .i64 x6271.1), .cell ⟨g6061, 1, none⟩ (.int .i64 x6271.2.1), .cell ⟨g6061, 2, none⟩ (.slice A6267 x6271.2.2.1.length c6268)] (fun fb => by kernel_rfl) ⟨hS6503.cell 0 rfl 0 rfl, hS6503.cell 0 rfl 1 rfl, hS6503.cell 0 rfl 2 rfl, trivial⟩ ⟨_, rfl, A6267, c6268, rfl, (hS6503.sub [2] (by decide)).noR⟩
theorem ref08_Colours_calls (p0 : Machine) (p1 : Config) (A_p0_Actions : Option Addr) (c_p0_Actions : Nat) (A_p1_Cells : Option Addr) (c_p1_Cells : Nat) (r : (List Int)) (w : World) (hR0 : RO NoS w (rowR enc_Action A_p0_Actions c_p0_Actions p0.Actions)) (hR1 : RO NoS w (rowR encInt A_p1_Cells c_p1_Cells p1.Cells)) (hf : ref08_Colours p0 p1 = some r) :
    CallsR Try.prog 32 #[(.agg #[(.int .i64 p0.States), (.int .i64 p0.Symbols), (.slice A_p0_Actions p0.Actions.length c_p0_Actions)]), (.agg #[(.int .i64 p1.State), (.int .i64 p1.At), (.slice A_p1_Cells p1.Cells.length c_p1_Cells)])] w (fun v w' => ∃ (A1_ : Option Addr), ∃ (c1_ : Nat), v = (.slice A1_ r.length c1_) ∧ St NoS w w' [] [rowO 3 encInt A1_ c1_ r]) := by
  have hS : St NoS w w [rowR enc_Action A_p0_Actions c_p0_Actions p0.Actions, rowR encInt A_p1_Cells c_p1_Cells p1.Cells] [] := St.init (ro_cons hR0 (ro_cons hR1 (ro_nil _ _)))
  refine enter 25 Try.func32 rfl Try.ntmps32 rfl ?_
  unfold ref08_Colours at hf
  refine WC.seq ?_
  refine WC.region ?_
  refine WL.new hS 2 [] (fun g => (.pointer (some ⟨g, 0, none⟩))) (.cells #[(.int .i64 p0.States), (.int .i64 p0.Symbols), (.slice A_p0_Actions p0.Actions.length c_p0_Actions)] 24 (0, 0)) [] (fun fb g => by kernel_rfl) trivial (fun g6646 w6647 hS6648 => ?_)
  refine ⟨trivial, ?_⟩
  refine WL.new hS6648 3 [] (fun g => (.pointer (some ⟨g, 0, none⟩))) (.cells #[(.int .i64 p1.State), (.int .i64 p1.At), (.slice A_p1_Cells p1.Cells.length c_p1_Cells)] 27 (0, 0)) [] (fun fb g => by kernel_rfl) trivial (fun g6650 w6651 hS6652 => ?_)
  refine ⟨trivial, ?_⟩
  refine seg 3 [] [2, 3] [(2, (.pointer (some ⟨g6646, 0, none⟩))), (3, (.pointer (some ⟨g6650, 0, none⟩)))] [] (fun fb => by kernel_rfl) rfl trivial ?_
  refine WL.done rfl ?_
  refine WX.next ?_
  refine WC.seq ?_
  refine WC.region ?_
  refine WL.new hS6652 6 [] (fun g => (.slice (some ⟨g, 0, none⟩) 0 0)) (.cells #[] 3 (0, 0)) [] (fun fb g => by kernel_rfl) trivial (fun g6654 w6655 hS6656 => ?_)
  refine ⟨trivial, ?_⟩
  have hS6658 : St NoS w w6655 [rowR enc_Action A_p0_Actions c_p0_Actions p0.Actions, rowR encInt A_p1_Cells c_p1_Cells p1.Cells] [rowO 3 encInt (some ⟨g6654, 0, none⟩) 0 ([] : List Int), blk g6650 (.cells #[(.int .i64 p1.State), (.int .i64 p1.At), (.slice A_p1_Cells p1.Cells.length c_p1_Cells)] 27 (0, 0)), blk g6646 (.cells #[(.int .i64 p0.States), (.int .i64 p0.Symbols), (.slice A_p0_Actions p0.Actions.length c_p0_Actions)] 24 (0, 0))] := hS6656.map1 0 _ (fun h => rowO.ofBlk h rfl (Nat.le_of_ble_eq_true (by kernel_rfl))) (fun _ h => by obtain ⟨_, h1, h2⟩ := h; injection h1 with h1; subst h1; exact h2) [1, 2] (by decide) (by decide)
  refine seg 3 [.v (.slice A_p1_Cells p1.Cells.length c_p1_Cells)] [2, 3, 6, 8] [(2, (.pointer (some ⟨g6646, 0, none⟩))), (3, (.pointer (some ⟨g6650, 0, none⟩))), (6, (.slice (some ⟨g6654, 0, none⟩) ([] : List Int).length 0)), (8, (.slice A_p1_Cells p1.Cells.length c_p1_Cells))] [.cell ⟨g6650, 2, none⟩ (.slice A_p1_Cells p1.Cells.length c_p1_Cells)] (fun fb => by kernel_rfl) rfl ⟨hS6658.cell 1 rfl 2 rfl, trivial⟩ ?_
  obtain ⟨h6659, hf⟩ := as_some hf
  refine WL.append hS6658 0 (d := 9) (tS := 25) (z := (.int .i64 0)) (bytes := 8) (c2 := c_p1_Cells) rfl (fun fb => by kernel_rfl) (hS6658.rd 1).1 (by kernel_rfl) (by kernel_rfl) rfl (by decide) h6659 (by decide) [1, 2] (by decide) (by decide) (fun A6660 c6661 w6662 hS6663 => ?_)
  refine ⟨trivial, ?_⟩
  refine seg 5 [] [2, 3, 5] [(2, (.pointer (some ⟨g6646, 0, none⟩))), (3, (.pointer (some ⟨g6650, 0, none⟩))), (5, (.slice A6660 (([] : List Int) ++ p1.Cells).length c6661))] [] (fun fb => by kernel_rfl) rfl trivial ?_
  refine WL.done rfl ?_
  refine WX.next ?_
  refine WC.seq ?_
  obtain ⟨h6676, hf⟩ := as_some hf
  refine WC.regionD ([(2, ⟨g6650, 1, none⟩, (.int .i64 p1.At)), (3, ⟨g6646, 0, none⟩, (.int .i64 p0.States)), (3, ⟨g6646, 1, none⟩, (.int .i64 p0.Symbols)), (3, ⟨g6646, 2, none⟩, (.slice A_p0_Actions p0.Actions.length c_p0_Actions)), (5, ⟨g6650, 0, none⟩, (.int .i64 p1.State)), (7, ⟨g6650, 2, none⟩, (.slice A_p1_Cells p1.Cells.length c_p1_Cells)), (9, ⟨g6650, 1, none⟩, (.int .i64 p1.At)), (11, ((adr A_p1_Cells).add ((p1.At).toNat * 1)), (.int .i64 (rdD p1.Cells p1.At 0)))], [0, 1, 2, 3, 4, 5, 6, 7, 8, 9, 10, 11, 13], [[], [], [1], [], [], [4], [], [6], [], [8], [6, 7, 8, 9], [6, 7, 8, 9, 10], [3, 4, 5, 6, 7, 8, 9, 10, 11], [0, 1, 2, 3, 4, 5, 6, 7, 8, 9, 10, 11, 12], [0, 1, 2, 3, 4, 5, 6, 7, 8, 9, 10, 11, 12, 13]]) [[0, 1, 2, 3, 4, 5, 6, 7, 8, 9, 10, 11, 12, 13, 14]] (by kernel_rfl) (by kernel_rfl) (NoPanic.seq (NoPanic.body)) ?_
  have hS6674 := hS6663.drew
  revert hS6674
  generalize World.drew w6662 = w6673
  intro hS6674
  refine ⟨⟨hS6674.cell 1 rfl 1 rfl, hS6674.cell 2 rfl 0 rfl, hS6674.cell 2 rfl 1 rfl, hS6674.cell 2 rfl 2 rfl, hS6674.cell 1 rfl 0 rfl, hS6674.cell 1 rfl 2 rfl, hS6674.cell 1 rfl 1 rfl, rowR.cell (hS6674.rd 1).1 0 h6676.1 h6676.2 0 rfl, trivial⟩, forallC ?_ (forallN)⟩
  refine segF 12 [.v (.int .i64 p1.At), .v (.int .i64 p0.States), .v (.int .i64 p0.Symbols), .v (.slice A_p0_Actions p0.Actions.length c_p0_Actions), .v (.int .i64 p1.State), .v (.slice A_p1_Cells p1.Cells.length c_p1_Cells), .v (.int .i64 p1.At), .v (.int .i64 (rdD p1.Cells p1.At 0))] [5, 10, 12, 13, 15, 21] [(5, (.slice A6660 (([] : List Int) ++ p1.Cells).length c6661)), (10, (.slice A6660 (([] : List Int) ++ p1.Cells).length c6661)), (12, (.int .i64 p1.At)), (13, (.agg #[(.int .i64 p0.States), (.int .i64 p0.Symbols), (.slice A_p0_Actions p0.Actions.length c_p0_Actions)])), (15, (.int .i64 p1.State)), (21, (.int .i64 (rdD p1.Cells p1.At 0)))] [.idx A_p1_Cells p1.At p1.Cells.length] [0, 1, 2, 3, 4, 5, 6, 7] [(2, ⟨g6650, 1, none⟩, (.int .i64 p1.At)), (3, ⟨g6646, 0, none⟩, (.int .i64 p0.States)), (3, ⟨g6646, 1, none⟩, (.int .i64 p0.Symbols)), (3, ⟨g6646, 2, none⟩, (.slice A_p0_Actions p0.Actions.length c_p0_Actions)), (5, ⟨g6650, 0, none⟩, (.int .i64 p1.State)), (7, ⟨g6650, 2, none⟩, (.slice A_p1_Cells p1.Cells.length c_p1_Cells)), (9, ⟨g6650, 1, none⟩, (.int .i64 p1.At)), (11, ((adr A_p1_Cells).add ((p1.At).toNat * 1)), (.int .i64 (rdD p1.Cells p1.At 0)))] (fun fb => by kernel_rfl) rfl ⟨rowR.adr (hS6674.rd 1).1 h6676.1 h6676.2, trivial⟩ rfl ?_
  obtain ⟨t6677, ht6678, hf⟩ := bind_some hf
  refine WL.call (some 22) 55 #[(.agg #[(.int .i64 p0.States), (.int .i64 p0.Symbols), (.slice A_p0_Actions p0.Actions.length c_p0_Actions)]), (.int .i64 p1.State), (.int .i64 (rdD p1.Cells p1.At 0))] (fun fb => by kernel_rfl) (ref08_both_calls p0 p1.State (rdD p1.Cells p1.At 0) A_p0_Actions c_p0_Actions t6677 _ (hS6674.rd 0) ht6678) (fun v w6679 hR6680 => ?_)
  obtain ⟨rfl, hk_⟩ := hR6680
  have hS6681 := hS6674.keepN hk_
  refine ⟨⟨hS6681.cell 1 rfl 1 rfl, trivial⟩, ?_⟩
  obtain ⟨h6682, hf⟩ := as_some hf
  refine seg 14 [] [5, 22, 23] [(5, (.slice A6660 (([] : List Int) ++ p1.Cells).length c6661)), (22, (.int .i64 t6677)), (23, (.pointer (some ((adr A6660).add ((p1.At).toNat * 1)))))] [.idx A6660 p1.At (([] : List Int) ++ p1.Cells).length] (fun fb => by kernel_rfl) rfl ⟨rowR.adr (rowO.rd (hS6681.own 0).1) h6682.1 h6682.2, trivial⟩ ?_
  refine WL.storeRow hS6681 0 rfl (p1.At) (t6677) (0) [(0, (.int .i64 t6677))] (fun fb => by kernel_rfl) h6682.1 h6682.2 (by kernel_rfl) rfl [1, 2] (by decide) (by decide) (fun w6683 hS6684 => ?_)
  refine ⟨trivial, ?_⟩
  refine WL.reE [5] [(5, (.slice A6660 (([] : List Int) ++ p1.Cells).length c6661))] [(5, (.slice A6660 ((([] : List Int) ++ p1.Cells).set (p1.At).toNat t6677).length c6661))] rfl (by simp only [List.length_set]) ?_
  refine WL.done rfl ?_
  refine WX.next ?_
  refine WC.seq ?_
  refine WC.region ?_
  refine seg 2 [] [4] [(4, (.slice A6660 ((([] : List Int) ++ p1.Cells).set (p1.At).toNat t6677).length c6661))] [] (fun fb => by kernel_rfl) rfl trivial ?_
  refine WL.done rfl ?_
  refine WX.next ?_
  refine WC.ret ?_
  injection hf with hf
  subst hf
  exact WX.ret_ [] (.slice A6660 ((([] : List Int) ++ p1.Cells).set (p1.At).toNat t6677).length c6661) [] (fun fb => by kernel_rfl) trivial ⟨_, rfl, A6660, c6661, rfl, (hS6684.sub [0] (by decide)).noR⟩
theorem ref01_Same_calls (k : Nat) (p0 : List Int) (p1 : List Int) (A_p0 : Option Addr) (c_p0 : Nat) (A_p1 : Option Addr) (c_p1 : Nat) (r : Bool) (w : World) (hR0 : RO NoS w (rowR encInt A_p0 c_p0 p0)) (hR1 : RO NoS w (rowR encInt A_p1 c_p1 p1)) (hf : ref01_Same k p0 p1 = some r) :
    CallsR Try.prog 31 #[(.slice A_p0 p0.length c_p0), (.slice A_p1 p1.length c_p1)] w (fun v w' => v = (.bool r) ∧ Keeps NoS w w') := by
  have hS : St NoS w w [rowR encInt A_p0 c_p0 p0, rowR encInt A_p1 c_p1 p1] [] := St.init (ro_cons hR0 (ro_cons hR1 (ro_nil _ _)))
  refine enter 26 Try.func31 rfl Try.ntmps31 rfl ?_
  unfold ref01_Same at hf
  refine WC.seq ?_
  refine WC.region ?_
  refine seg 1 [] [0, 1] [(0, (.slice A_p0 p0.length c_p0)), (1, (.slice A_p1 p1.length c_p1))] [] (fun fb => by kernel_rfl) rfl trivial ?_
  refine WL.done rfl ?_
  refine WX.next ?_
  refine WC.seq ?_
  refine WC.seq ?_
  refine WC.region ?_
  refine seg 5 [] [0, 1, 10] [(0, (.slice A_p0 p0.length c_p0)), (1, (.slice A_p1 p1.length c_p1)), (10, (.bool ((p0.length : Int) != (p1.length : Int))))] [] (fun fb => by kernel_rfl) rfl trivial ?_
  refine WL.done rfl ?_
  refine WX.next ?_
  rcases br_some hf with ⟨h6692, hf⟩ | ⟨h6692, hf⟩
  · refine WC.condT2 (fun fb => by kernel_rfl) h6692 ?_
    refine WC.seq ?_
    refine WC.region ?_
    refine seg 1 [] [4] [(4, (.bool false))] [] (fun fb => by kernel_rfl) rfl trivial ?_
    refine WL.done rfl ?_
    refine WX.next ?_
    refine WC.ret ?_
    injection hf with hf
    subst hf
    exact WX.thenR (WX.ret_ [] (.bool false) [] (fun fb => by kernel_rfl) trivial ⟨_, rfl, rfl, hS.keep⟩)
  refine WC.condF2 (fun fb => by kernel_rfl) h6692 ?_
  refine WC.skip ?_
  refine WX.next ?_
  refine WC.seq ?_
  refine WC.seq ?_
  refine WC.region ?_
  refine seg 1 [] [0, 1, 5] [(0, (.slice A_p0 p0.length c_p0)), (1, (.slice A_p1 p1.length c_p1)), (5, (.int .i64 0))] [] (fun fb => by kernel_rfl) rfl trivial ?_
  refine WL.done rfl ?_
  refine WX.next ?_
  obtain ⟨x6715, hx6716, hf⟩ := bind_some hf
  refine WC.cutN (T := Unit) (fun t => []) (fun t w1 => St NoS w w1 [rowR encInt A_p0 c_p0 p0, rowR encInt A_p1 c_p1 p1] [] ∧ x6715 = .inr t) (fun Kx6715 => ?_) ?_
  ·
    refine WC.block ?_
    refine WC.loop (T := Int) (fun t => [(0, (.slice A_p0 p0.length c_p0)), (1, (.slice A_p1 p1.length c_p1)), (5, (.int .i64 t))]) (fun n t w1 => St NoS w w1 [rowR encInt A_p0 c_p0 p0, rowR encInt A_p1 c_p1 p1] [] ∧ ref01_Same.l0 n t p0 p1 = some x6715) k 0 [0, 1, 5] rfl ⟨(hS.subR [0, 1]).sub [] (by decide), hx6716⟩ ?_
    rintro k6717 x6714 w6718 ⟨hS6719, hl6720⟩
    cases k6717 with
    | zero => rw [ref01_Same.l0] at hl6720; cases hl6720
    | succ k6717 =>
      rw [ref01_Same.l0] at hl6720
      refine WC.seq ?_
      refine WC.seq ?_
      refine WC.region ?_
      refine seg 4 [] [0, 1, 5, 14] [(0, (.slice A_p0 p0.length c_p0)), (1, (.slice A_p1 p1.length c_p1)), (5, (.int .i64 x6714)), (14, (.bool (decide (x6714 < (p0.length : Int)))))] [] (fun fb => by kernel_rfl) rfl trivial ?_
      refine WL.done rfl ?_
      refine WX.next ?_
      rcases br_some hl6720 with ⟨h6721, hl6720⟩ | ⟨h6721, hl6720⟩
      · refine WC.condT2 (fun fb => by kernel_rfl) h6721 ?_
        refine WC.skip ?_
        refine WX.next ?_
        refine WC.seq ?_
        refine WC.block ?_
        refine WC.seq ?_
        obtain ⟨h6728, hl6720⟩ := as_some hl6720
        obtain ⟨h6729, hl6720⟩ := as_some hl6720
        refine WC.regionD ([(3, ((adr A_p0).add ((x6714).toNat * 1)), (.int .i64 (rdD p0 x6714 0))), (7, ((adr A_p1).add ((x6714).toNat * 1)), (.int .i64 (rdD p1 x6714 0)))], [0, 1, 2, 3, 4, 5, 6, 7, 8], [[], [], [0, 1], [0, 1, 2], [], [], [4, 5], [4, 5, 6], [0, 1, 2, 3, 4, 5, 6, 7]]) [[0, 1, 2, 3, 4, 5, 6, 7, 8]] (by kernel_rfl) (by kernel_rfl) (NoPanic.seq (NoPanic.block (NoPanic.seq (NoPanic.seq (NoPanic.block (NoPanic.seq (NoPanic.body))))))) ?_
        have hS6725 := hS6719.drew
        revert hS6725
        generalize World.drew w6718 = w6724
        intro hS6725
        refine ⟨⟨rowR.cell (hS6725.rd 0).1 0 h6728.1 h6728.2 0 rfl, rowR.cell (hS6725.rd 1).1 0 h6729.1 h6729.2 0 rfl, trivial⟩, forallC ?_ (forallN)⟩
        refine segF 9 [.v (.int .i64 (rdD p0 x6714 0)), .v (.int .i64 (rdD p1 x6714 0))] [0, 1, 5, 25] [(0, (.slice A_p0 p0.length c_p0)), (1, (.slice A_p1 p1.length c_p1)), (5, (.int .i64 x6714)), (25, (.bool ((rdD p0 x6714 0) != (rdD p1 x6714 0))))] [.idx A_p0 x6714 p0.length, .idx A_p1 x6714 p1.length] [0, 1] [(3, ((adr A_p0).add ((x6714).toNat * 1)), (.int .i64 (rdD p0 x6714 0))), (7, ((adr A_p1).add ((x6714).toNat * 1)), (.int .i64 (rdD p1 x6714 0)))] (fun fb => by kernel_rfl) rfl ⟨rowR.adr (hS6725.rd 0).1 h6728.1 h6728.2, rowR.adr (hS6725.rd 1).1 h6729.1 h6729.2, trivial⟩ rfl ?_
        refine WL.done rfl ?_
        refine WX.next ?_
        rcases br_some hl6720 with ⟨h6730, hl6720⟩ | ⟨h6730, hl6720⟩
        · refine WC.condT2 (fun fb => by kernel_rfl) h6730 ?_
          refine WC.seq ?_
          refine WC.region ?_
          refine seg 1 [] [4] [(4, (.bool false))] [] (fun fb => by kernel_rfl) rfl trivial ?_
          refine WL.done rfl ?_
          refine WX.next ?_
          refine WC.ret ?_
          injection hl6720 with hl6720
          subst hl6720
          injection hf with hf
          subst hf
          exact WX.blockR (WX.thenR (WX.thenR (WX.blockR (WX.thenR (WX.ret_ [] (.bool false) [] (fun fb => by kernel_rfl) trivial ⟨_, rfl, rfl, hS6725.keep⟩)))))
        refine WC.condF2 (fun fb => by kernel_rfl) h6730 ?_
        refine WC.skip ?_
        refine WX.blockN (WX.next ?_)
        refine WC.region ?_
        refine seg 3 [] [0, 1, 5] [(0, (.slice A_p0 p0.length c_p0)), (1, (.slice A_p1 p1.length c_p1)), (5, (.int .i64 (w64 (x6714 + 1))))] [] (fun fb => by kernel_rfl) rfl trivial ?_
        refine WL.done rfl ?_
        exact WX.again k6717 (Nat.lt_succ_self _) (w64 (x6714 + 1)) [0, 1, 5] rfl ⟨(hS6725.subR [0, 1]).sub [] (by decide), hl6720⟩
      refine WC.condF2 (fun fb => by kernel_rfl) h6721 ?_
      refine WC.exit ?_
      injection hl6720 with hl6720
      exact WX.thenX (WX.thenX (WX.blockHere (WX.to Kx6715 () [] rfl ⟨(hS6719.subR [0, 1]).sub [] (by decide), hl6720.symm⟩)))
  rintro y6734 w6731 ⟨hS6732, hq6733⟩
  subst hq6733
  have hf := sum_inr hf
  refine WX.next ?_
  refine WC.seq ?_
  refine WC.region ?_
  refine seg 1 [] [4] [(4, (.bool true))] [] (fun fb => by kernel_rfl) rfl trivial ?_
  refine WL.done rfl ?_
  refine WX.next ?_
  refine WC.ret ?_
  injection hf with hf
  subst hf
  exact WX.ret_ [] (.bool true) [] (fun fb => by kernel_rfl) trivial ⟨_, rfl, rfl, hS6732.keep⟩
theorem law08_MachineTiles_calls (k : Nat) (p0 : Machine) (p1 : Config) (p2 : List Int) (A_p0_Actions : Option Addr) (c_p0_Actions : Nat) (A_p1_Cells : Option Addr) (c_p1_Cells : Nat) (A_p2 : Option Addr) (c_p2 : Nat) (r : Bool) (w : World) (hR0 : RO NoS w (rowR enc_Action A_p0_Actions c_p0_Actions p0.Actions)) (hR1 : RO NoS w (rowR encInt A_p1_Cells c_p1_Cells p1.Cells)) (hR2 : RO NoS w (rowR encInt A_p2 c_p2 p2)) (hf : law08_MachineTiles k p0 p1 p2 = some r) :
    CallsR Try.prog 6 #[(.agg #[(.int .i64 p0.States), (.int .i64 p0.Symbols), (.slice A_p0_Actions p0.Actions.length c_p0_Actions)]), (.agg #[(.int .i64 p1.State), (.int .i64 p1.At), (.slice A_p1_Cells p1.Cells.length c_p1_Cells)]), (.slice A_p2 p2.length c_p2)] w (fun v w' => v = (.bool r) ∧ Keeps NoS w w') := by
  have hS : St NoS w w [rowR enc_Action A_p0_Actions c_p0_Actions p0.Actions, rowR encInt A_p1_Cells c_p1_Cells p1.Cells, rowR encInt A_p2 c_p2 p2] [] := St.init (ro_cons hR0 (ro_cons hR1 (ro_cons hR2 (ro_nil _ _))))
  refine enter 148 Try.func6 rfl Try.ntmps6 rfl ?_
  unfold law08_MachineTiles at hf
  refine WC.seq ?_
  refine WC.region ?_
  refine WL.new hS 3 [] (fun g => (.pointer (some ⟨g, 0, none⟩))) (.cells #[(.int .i64 p0.States), (.int .i64 p0.Symbols), (.slice A_p0_Actions p0.Actions.length c_p0_Actions)] 24 (0, 0)) [] (fun fb g => by kernel_rfl) trivial (fun g1 w2 hS3 => ?_)
  refine ⟨trivial, ?_⟩
  refine WL.new hS3 4 [] (fun g => (.pointer (some ⟨g, 0, none⟩))) (.cells #[(.int .i64 p1.State), (.int .i64 p1.At), (.slice A_p1_Cells p1.Cells.length c_p1_Cells)] 27 (0, 0)) [] (fun fb g => by kernel_rfl) trivial (fun g5 w6 hS7 => ?_)
  refine ⟨trivial, ?_⟩
  refine seg 3 [] [2, 3, 4] [(2, (.slice A_p2 p2.length c_p2)), (3, (.pointer (some ⟨g1, 0, none⟩))), (4, (.pointer (some ⟨g5, 0, none⟩)))] [] (fun fb => by kernel_rfl) rfl trivial ?_
  refine WL.done rfl ?_
  refine WX.next ?_
  refine WC.seq ?_
  refine WC.seq ?_
  refine WC.region ?_
  refine seg 2 [.v (.int .i64 p0.States), .v (.int .i64 p0.Symbols), .v (.slice A_p0_Actions p0.Actions.length c_p0_Actions), .v (.int .i64 p1.State), .v (.int .i64 p1.At), .v (.slice A_p1_Cells p1.Cells.length c_p1_Cells)] [2, 3, 4, 17, 18] [(2, (.slice A_p2 p2.length c_p2)), (3, (.pointer (some ⟨g1, 0, none⟩))), (4, (.pointer (some ⟨g5, 0, none⟩))), (17, (.agg #[(.int .i64 p0.States), (.int .i64 p0.Symbols), (.slice A_p0_Actions p0.Actions.length c_p0_Actions)])), (18, (.agg #[(.int .i64 p1.State), (.int .i64 p1.At), (.slice A_p1_Cells p1.Cells.length c_p1_Cells)]))] [.cell ⟨g1, 0, none⟩ (.int .i64 p0.States), .cell ⟨g1, 1, none⟩ (.int .i64 p0.Symbols), .cell ⟨g1, 2, none⟩ (.slice A_p0_Actions p0.Actions.length c_p0_Actions), .cell ⟨g5, 0, none⟩ (.int .i64 p1.State), .cell ⟨g5, 1, none⟩ (.int .i64 p1.At), .cell ⟨g5, 2, none⟩ (.slice A_p1_Cells p1.Cells.length c_p1_Cells)] (fun fb => by kernel_rfl) rfl ⟨hS7.cell 1 rfl 0 rfl, hS7.cell 1 rfl 1 rfl, hS7.cell 1 rfl 2 rfl, hS7.cell 0 rfl 0 rfl, hS7.cell 0 rfl 1 rfl, hS7.cell 0 rfl 2 rfl, trivial⟩ ?_
  obtain ⟨t19, ht20, hf⟩ := bind_some hf
  refine WL.call (some 19) 10 #[(.agg #[(.int .i64 p0.States), (.int .i64 p0.Symbols), (.slice A_p0_Actions p0.Actions.length c_p0_Actions)]), (.agg #[(.int .i64 p1.State), (.int .i64 p1.At), (.slice A_p1_Cells p1.Cells.length c_p1_Cells)])] (fun fb => by kernel_rfl) (law08_wide_calls p0 p1 A_p0_Actions c_p0_Actions A_p1_Cells c_p1_Cells t19 _ (hS7.rd 0) (hS7.rd 1) ht20) (fun v w21 hR22 => ?_)
  obtain ⟨rfl, hk_⟩ := hR22
  have hS23 := hS7.keepN hk_
  refine ⟨trivial, ?_⟩
  refine seg 4 [] [2, 3, 4, 20] [(2, (.slice A_p2 p2.length c_p2)), (3, (.pointer (some ⟨g1, 0, none⟩))), (4, (.pointer (some ⟨g5, 0, none⟩))), (20, (.bool t19))] [] (fun fb => by kernel_rfl) rfl trivial ?_
  refine WL.cutV (T := Bool) 8 (fun t => [(24, (.bool t)), (2, (.slice A_p2 p2.length c_p2)), (3, (.pointer (some ⟨g1, 0, none⟩))), (4, (.pointer (some ⟨g5, 0, none⟩)))]) (fun t => t = (t19 || (decide ((p2.length : Int) > 1000)))) (fun K => ?_) ?_
  ·
    rcases Bool.eq_false_or_eq_true t19 with h24 | h24
    ·
      refine WL.setB 20 h24 rfl ?_
      refine seg 8 [] [2, 3, 4, 24] [(2, (.slice A_p2 p2.length c_p2)), (3, (.pointer (some ⟨g1, 0, none⟩))), (4, (.pointer (some ⟨g5, 0, none⟩))), (24, (.bool true))] [] (fun fb => by kernel_rfl) rfl trivial ?_
      exact WL.toV K true [24, 2, 3, 4] rfl (by rw [h24]; rfl)
    refine WL.setB 20 h24 rfl ?_
    refine seg 8 [] [2, 3, 4, 24] [(2, (.slice A_p2 p2.length c_p2)), (3, (.pointer (some ⟨g1, 0, none⟩))), (4, (.pointer (some ⟨g5, 0, none⟩))), (24, (.bool (decide ((p2.length : Int) > 1000))))] [] (fun fb => by kernel_rfl) rfl trivial ?_
    exact WL.toV K (decide ((p2.length : Int) > 1000)) [24, 2, 3, 4] rfl (by rw [h24]; rfl)
  rintro b25 rfl
  refine WL.done rfl ?_
  refine WX.next ?_
  rcases br_some hf with ⟨h26, hf⟩ | ⟨h26, hf⟩
  · refine WC.condT2 (fun fb => by kernel_rfl) h26 ?_
    refine WC.seq ?_
    refine WC.region ?_
    obtain ⟨t2725, ht2726, hf⟩ := bind_some hf
    refine WL.call (some 25) 11 #[] (fun fb => by kernel_rfl) (law08_awake_calls _ t2725 _ ht2726) (fun v w2727 hR2728 => ?_)
    obtain ⟨rfl, hk_⟩ := hR2728
    have hS2729 := hS23.keepN hk_
    refine ⟨trivial, ?_⟩
    refine seg 2 [] [6] [(6, (.bool t2725))] [] (fun fb => by kernel_rfl) rfl trivial ?_
    refine WL.done rfl ?_
    refine WX.next ?_
    refine WC.ret ?_
    injection hf with hf
    subst hf
    exact WX.thenR (WX.ret_ [] (.bool t2725) [] (fun fb => by kernel_rfl) trivial ⟨_, rfl, rfl, hS2729.keep⟩)
  refine WC.condF2 (fun fb => by kernel_rfl) h26 ?_
  refine WC.skip ?_
  refine WX.next ?_
  refine WC.seq ?_
  refine WC.region ?_
  refine seg 1 [.v (.int .i64 p0.States), .v (.int .i64 p0.Symbols), .v (.slice A_p0_Actions p0.Actions.length c_p0_Actions)] [2, 3, 4, 27] [(2, (.slice A_p2 p2.length c_p2)), (3, (.pointer (some ⟨g1, 0, none⟩))), (4, (.pointer (some ⟨g5, 0, none⟩))), (27, (.agg #[(.int .i64 p0.States), (.int .i64 p0.Symbols), (.slice A_p0_Actions p0.Actions.length c_p0_Actions)]))] [.cell ⟨g1, 0, none⟩ (.int .i64 p0.States), .cell ⟨g1, 1, none⟩ (.int .i64 p0.Symbols), .cell ⟨g1, 2, none⟩ (.slice A_p0_Actions p0.Actions.length c_p0_Actions)] (fun fb => by kernel_rfl) rfl ⟨hS23.cell 1 rfl 0 rfl, hS23.cell 1 rfl 1 rfl, hS23.cell 1 rfl 2 rfl, trivial⟩ ?_
  obtain ⟨t2730, ht2731, hf⟩ := bind_some hf
  refine WL.call (some 28) 25 #[(.agg #[(.int .i64 p0.States), (.int .i64 p0.Symbols), (.slice A_p0_Actions p0.Actions.length c_p0_Actions)])] (fun fb => by kernel_rfl) (machine_Tiles_calls _ p0 A_p0_Actions c_p0_Actions t2730 _ (hS23.rd 0) ht2731) (fun v w2732 hR2733 => ?_)
  obtain ⟨A2735, c2736, rfl, hk_⟩ := hR2733
  have hS2734 : St NoS w w2732 [rowR enc_Action A_p0_Actions c_p0_Actions p0.Actions, rowR encInt A_p1_Cells c_p1_Cells p1.Cells, rowR encInt A_p2 c_p2 p2] [rowO 65 enc_Tile A2735 c2736 t2730.1, blk g5 (.cells #[(.int .i64 p1.State), (.int .i64 p1.At), (.slice A_p1_Cells p1.Cells.length c_p1_Cells)] 27 (0, 0)), blk g1 (.cells #[(.int .i64 p0.States), (.int .i64 p0.Symbols), (.slice A_p0_Actions p0.Actions.length c_p0_Actions)] 24 (0, 0))] := hS23.call hk_ [] [0, 1] (fun g hg => hg.elim) (by simp) (by decide)
  refine ⟨trivial, ?_⟩
  refine seg 7 [] [2, 3, 4, 7, 8] [(2, (.slice A_p2 p2.length c_p2)), (3, (.pointer (some ⟨g1, 0, none⟩))), (4, (.pointer (some ⟨g5, 0, none⟩))), (7, (.slice A2735 t2730.1.length c2736)), (8, (.int .i64 t2730.2))] [] (fun fb => by kernel_rfl) rfl trivial ?_
  refine WL.done rfl ?_
  refine WX.next ?_
  refine WC.seq ?_
  refine WC.region ?_
  refine seg 2 [.v (.int .i64 p0.States), .v (.int .i64 p0.Symbols), .v (.slice A_p0_Actions p0.Actions.length c_p0_Actions), .v (.int .i64 p1.State), .v (.int .i64 p1.At), .v (.slice A_p1_Cells p1.Cells.length c_p1_Cells)] [2, 3, 4, 7, 8, 32, 33] [(2, (.slice A_p2 p2.length c_p2)), (3, (.pointer (some ⟨g1, 0, none⟩))), (4, (.pointer (some ⟨g5, 0, none⟩))), (7, (.slice A2735 t2730.1.length c2736)), (8, (.int .i64 t2730.2)), (32, (.agg #[(.int .i64 p0.States), (.int .i64 p0.Symbols), (.slice A_p0_Actions p0.Actions.length c_p0_Actions)])), (33, (.agg #[(.int .i64 p1.State), (.int .i64 p1.At), (.slice A_p1_Cells p1.Cells.length c_p1_Cells)]))] [.cell ⟨g1, 0, none⟩ (.int .i64 p0.States), .cell ⟨g1, 1, none⟩ (.int .i64 p0.Symbols), .cell ⟨g1, 2, none⟩ (.slice A_p0_Actions p0.Actions.length c_p0_Actions), .cell ⟨g5, 0, none⟩ (.int .i64 p1.State), .cell ⟨g5, 1, none⟩ (.int .i64 p1.At), .cell ⟨g5, 2, none⟩ (.slice A_p1_Cells p1.Cells.length c_p1_Cells)] (fun fb => by kernel_rfl) rfl ⟨hS2734.cell 2 rfl 0 rfl, hS2734.cell 2 rfl 1 rfl, hS2734.cell 2 rfl 2 rfl, hS2734.cell 1 rfl 0 rfl, hS2734.cell 1 rfl 1 rfl, hS2734.cell 1 rfl 2 rfl, trivial⟩ ?_
  obtain ⟨t2793, ht2794, hf⟩ := bind_some hf
  refine WL.call (some 34) 26 #[(.agg #[(.int .i64 p0.States), (.int .i64 p0.Symbols), (.slice A_p0_Actions p0.Actions.length c_p0_Actions)]), (.agg #[(.int .i64 p1.State), (.int .i64 p1.At), (.slice A_p1_Cells p1.Cells.length c_p1_Cells)])] (fun fb => by kernel_rfl) (machine_Colours_calls _ p0 p1 A_p0_Actions c_p0_Actions A_p1_Cells c_p1_Cells t2793 _ (hS2734.rd 0) (hS2734.rd 1) ht2794) (fun v w2795 hR2796 => ?_)
  obtain ⟨A2798, c2799, rfl, hk_⟩ := hR2796
  have hS2797 : St NoS w w2795 [rowR enc_Action A_p0_Actions c_p0_Actions p0.Actions, rowR encInt A_p1_Cells c_p1_Cells p1.Cells, rowR encInt A_p2 c_p2 p2] [rowO 3 encInt A2798 c2799 t2793.1, rowO 65 enc_Tile A2735 c2736 t2730.1, blk g5 (.cells #[(.int .i64 p1.State), (.int .i64 p1.At), (.slice A_p1_Cells p1.Cells.length c_p1_Cells)] 27 (0, 0)), blk g1 (.cells #[(.int .i64 p0.States), (.int .i64 p0.Symbols), (.slice A_p0_Actions p0.Actions.length c_p0_Actions)] 24 (0, 0))] := hS2734.call hk_ [] [0, 1, 2] (fun g hg => hg.elim) (by simp) (by decide)
  refine ⟨trivial, ?_⟩
  refine seg 8 [] [2, 3, 4, 7, 8, 9, 10] [(2, (.slice A_p2 p2.length c_p2)), (3, (.pointer (some ⟨g1, 0, none⟩))), (4, (.pointer (some ⟨g5, 0, none⟩))), (7, (.slice A2735 t2730.1.length c2736)), (8, (.int .i64 t2730.2)), (9, (.slice A2798 t2793.1.length c2799)), (10, (.int .i64 t2793.2))] [] (fun fb => by kernel_rfl) rfl trivial ?_
  refine WL.done rfl ?_
  refine WX.next ?_
  refine WC.seq ?_
  refine WC.region ?_
  refine seg 2 [.v (.int .i64 p0.States), .v (.int .i64 p0.Symbols), .v (.slice A_p0_Actions p0.Actions.length c_p0_Actions)] [2, 3, 4, 7, 8, 9, 10, 38, 39] [(2, (.slice A_p2 p2.length c_p2)), (3, (.pointer (some ⟨g1, 0, none⟩))), (4, (.pointer (some ⟨g5, 0, none⟩))), (7, (.slice A2735 t2730.1.length c2736)), (8, (.int .i64 t2730.2)), (9, (.slice A2798 t2793.1.length c2799)), (10, (.int .i64 t2793.2)), (38, (.agg #[(.int .i64 p0.States), (.int .i64 p0.Symbols), (.slice A_p0_Actions p0.Actions.length c_p0_Actions)])), (39, (.slice A_p2 p2.length c_p2))] [.cell ⟨g1, 0, none⟩ (.int .i64 p0.States), .cell ⟨g1, 1, none⟩ (.int .i64 p0.Symbols), .cell ⟨g1, 2, none⟩ (.slice A_p0_Actions p0.Actions.length c_p0_Actions)] (fun fb => by kernel_rfl) rfl ⟨hS2797.cell 3 rfl 0 rfl, hS2797.cell 3 rfl 1 rfl, hS2797.cell 3 rfl 2 rfl, trivial⟩ ?_
  obtain ⟨t3126, ht3127, hf⟩ := bind_some hf
  refine WL.call (some 40) 27 #[(.agg #[(.int .i64 p0.States), (.int .i64 p0.Symbols), (.slice A_p0_Actions p0.Actions.length c_p0_Actions)]), (.slice A_p2 p2.length c_p2)] (fun fb => by kernel_rfl) (machine_Read_calls _ p0 p2 A_p0_Actions c_p0_Actions A_p2 c_p2 t3126 _ (hS2797.rd 0) (hS2797.rd 2) ht3127) (fun v w3128 hR3129 => ?_)
  obtain ⟨A3131, c3132, rfl, hk_⟩ := hR3129
  have hS3130 : St NoS w w3128 [rowR enc_Action A_p0_Actions c_p0_Actions p0.Actions, rowR encInt A_p1_Cells c_p1_Cells p1.Cells, rowR encInt A_p2 c_p2 p2] [rowO 3 encInt A3131 c3132 t3126.1.Cells, rowO 3 encInt A2798 c2799 t2793.1, rowO 65 enc_Tile A2735 c2736 t2730.1, blk g5 (.cells #[(.int .i64 p1.State), (.int .i64 p1.At), (.slice A_p1_Cells p1.Cells.length c_p1_Cells)] 27 (0, 0)), blk g1 (.cells #[(.int .i64 p0.States), (.int .i64 p0.Symbols), (.slice A_p0_Actions p0.Actions.length c_p0_Actions)] 24 (0, 0))] := hS2797.call hk_ [] [0, 1, 2, 3] (fun g hg => hg.elim) (by simp) (by decide)
  refine ⟨trivial, ?_⟩
  refine seg 6 [] [2, 3, 4, 7, 8, 9, 10, 41, 42] [(2, (.slice A_p2 p2.length c_p2)), (3, (.pointer (some ⟨g1, 0, none⟩))), (4, (.pointer (some ⟨g5, 0, none⟩))), (7, (.slice A2735 t2730.1.length c2736)), (8, (.int .i64 t2730.2)), (9, (.slice A2798 t2793.1.length c2799)), (10, (.int .i64 t2793.2)), (41, (.agg #[(.int .i64 t3126.1.State), (.int .i64 t3126.1.At), (.slice A3131 t3126.1.Cells.length c3132)])), (42, (.int .i64 t3126.2))] [] (fun fb => by kernel_rfl) rfl trivial ?_
  refine WL.new hS3130 11 [] (fun g => (.pointer (some ⟨g, 0, none⟩))) (.cells #[(.int .i64 0), (.int .i64 0), (.slice none 0 0)] 27 (0, 0)) [] (fun fb g => by kernel_rfl) trivial (fun g3133 w3134 hS3135 => ?_)
  refine ⟨trivial, ?_⟩
  refine WL.store hS3135 0 rfl [(0, (.int .i64 t3126.1.State)), (1, (.int .i64 t3126.1.At)), (2, (.slice A3131 t3126.1.Cells.length c3132))] #[(.int .i64 t3126.1.State), (.int .i64 t3126.1.At), (.slice A3131 t3126.1.Cells.length c3132)] (fun fb => by kernel_rfl) (by kernel_rfl) rfl [1, 2, 3, 4, 5] (by decide) (by decide) (fun w3137 hS3138 => ?_)
  refine ⟨trivial, ?_⟩
  refine seg 9 [] [2, 3, 4, 7, 8, 9, 10, 11, 12] [(2, (.slice A_p2 p2.length c_p2)), (3, (.pointer (some ⟨g1, 0, none⟩))), (4, (.pointer (some ⟨g5, 0, none⟩))), (7, (.slice A2735 t2730.1.length c2736)), (8, (.int .i64 t2730.2)), (9, (.slice A2798 t2793.1.length c2799)), (10, (.int .i64 t2793.2)), (11, (.pointer (some ⟨g3133, 0, none⟩))), (12, (.int .i64 t3126.2))] [] (fun fb => by kernel_rfl) rfl trivial ?_
  refine WL.done rfl ?_
  refine WX.next ?_
  refine WC.seq ?_
  refine WC.seq ?_
  refine WC.region ?_
  refine seg 1 [.v (.int .i64 p0.States), .v (.int .i64 p0.Symbols), .v (.slice A_p0_Actions p0.Actions.length c_p0_Actions)] [2, 3, 4, 7, 8, 9, 10, 11, 12, 43] [(2, (.slice A_p2 p2.length c_p2)), (3, (.pointer (some ⟨g1, 0, none⟩))), (4, (.pointer (some ⟨g5, 0, none⟩))), (7, (.slice A2735 t2730.1.length c2736)), (8, (.int .i64 t2730.2)), (9, (.slice A2798 t2793.1.length c2799)), (10, (.int .i64 t2793.2)), (11, (.pointer (some ⟨g3133, 0, none⟩))), (12, (.int .i64 t3126.2)), (43, (.agg #[(.int .i64 p0.States), (.int .i64 p0.Symbols), (.slice A_p0_Actions p0.Actions.length c_p0_Actions)]))] [.cell ⟨g1, 0, none⟩ (.int .i64 p0.States), .cell ⟨g1, 1, none⟩ (.int .i64 p0.Symbols), .cell ⟨g1, 2, none⟩ (.slice A_p0_Actions p0.Actions.length c_p0_Actions)] (fun fb => by kernel_rfl) rfl ⟨hS3138.cell 5 rfl 0 rfl, hS3138.cell 5 rfl 1 rfl, hS3138.cell 5 rfl 2 rfl, trivial⟩ ?_
  obtain ⟨t3249, ht3250, hf⟩ := bind_some hf
  refine WL.call (some 44) 17 #[(.agg #[(.int .i64 p0.States), (.int .i64 p0.Symbols), (.slice A_p0_Actions p0.Actions.length c_p0_Actions)])] (fun fb => by kernel_rfl) (ref08_Valid_calls _ p0 A_p0_Actions c_p0_Actions t3249 _ (hS3138.rd 0) ht3250) (fun v w3251 hR3252 => ?_)
  obtain ⟨rfl, hk_⟩ := hR3252
  have hS3253 := hS3138.keepN hk_
  refine ⟨trivial, ?_⟩
  refine seg 3 [] [2, 3, 4, 7, 8, 9, 10, 11, 12, 45] [(2, (.slice A_p2 p2.length c_p2)), (3, (.pointer (some ⟨g1, 0, none⟩))), (4, (.pointer (some ⟨g5, 0, none⟩))), (7, (.slice A2735 t2730.1.length c2736)), (8, (.int .i64 t2730.2)), (9, (.slice A2798 t2793.1.length c2799)), (10, (.int .i64 t2793.2)), (11, (.pointer (some ⟨g3133, 0, none⟩))), (12, (.int .i64 t3126.2)), (45, (.bool (!t3249)))] [] (fun fb => by kernel_rfl) rfl trivial ?_
  refine WL.done rfl ?_
  refine WX.next ?_
  rcases br_some hf with ⟨h3254, hf⟩ | ⟨h3254, hf⟩
  · refine WC.condT2 (fun fb => by kernel_rfl) h3254 ?_
    refine WC.seq ?_
    refine WC.region ?_
    refine seg 3 [] [7, 8, 9, 10, 11, 12, 48] [(7, (.slice A2735 t2730.1.length c2736)), (8, (.int .i64 t2730.2)), (9, (.slice A2798 t2793.1.length c2799)), (10, (.int .i64 t2793.2)), (11, (.pointer (some ⟨g3133, 0, none⟩))), (12, (.int .i64 t3126.2)), (48, (.bool (t2730.2 == 1)))] [] (fun fb => by kernel_rfl) rfl trivial ?_
    refine WL.cutV (T := Bool) 7 (fun t => [(52, (.bool t)), (7, (.slice A2735 t2730.1.length c2736)), (8, (.int .i64 t2730.2)), (9, (.slice A2798 t2793.1.length c2799)), (11, (.pointer (some ⟨g3133, 0, none⟩))), (12, (.int .i64 t3126.2))]) (fun t => t = ((t2730.2 == 1) && (t2793.2 == t2730.2))) (fun K => ?_) ?_
    ·
      rcases Bool.eq_false_or_eq_true (t2730.2 == 1) with h3255 | h3255
      ·
        refine WL.setB 48 h3255 rfl ?_
        refine seg 7 [] [7, 8, 9, 11, 12, 52] [(7, (.slice A2735 t2730.1.length c2736)), (8, (.int .i64 t2730.2)), (9, (.slice A2798 t2793.1.length c2799)), (11, (.pointer (some ⟨g3133, 0, none⟩))), (12, (.int .i64 t3126.2)), (52, (.bool (t2793.2 == t2730.2)))] [] (fun fb => by kernel_rfl) rfl trivial ?_
        exact WL.toV K (t2793.2 == t2730.2) [52, 7, 8, 9, 11, 12] rfl (by rw [h3255]; rfl)
      refine WL.setB 48 h3255 rfl ?_
      refine seg 7 [] [7, 8, 9, 11, 12, 52] [(7, (.slice A2735 t2730.1.length c2736)), (8, (.int .i64 t2730.2)), (9, (.slice A2798 t2793.1.length c2799)), (11, (.pointer (some ⟨g3133, 0, none⟩))), (12, (.int .i64 t3126.2)), (52, (.bool false))] [] (fun fb => by kernel_rfl) rfl trivial ?_
      exact WL.toV K false [52, 7, 8, 9, 11, 12] rfl (by rw [h3255]; rfl)
    rintro b3256 rfl
    refine seg 8 [] [7, 8, 9, 11, 12, 53] [(7, (.slice A2735 t2730.1.length c2736)), (8, (.int .i64 t2730.2)), (9, (.slice A2798 t2793.1.length c2799)), (11, (.pointer (some ⟨g3133, 0, none⟩))), (12, (.int .i64 t3126.2)), (53, (.bool ((t2730.2 == 1) && (t2793.2 == t2730.2))))] [] (fun fb => by kernel_rfl) rfl trivial ?_
    refine WL.cutV (T := Bool) 12 (fun t => [(57, (.bool t)), (7, (.slice A2735 t2730.1.length c2736)), (9, (.slice A2798 t2793.1.length c2799)), (11, (.pointer (some ⟨g3133, 0, none⟩)))]) (fun t => t = (((t2730.2 == 1) && (t2793.2 == t2730.2)) && (t3126.2 == t2730.2))) (fun K => ?_) ?_
    ·
      rcases Bool.eq_false_or_eq_true ((t2730.2 == 1) && (t2793.2 == t2730.2)) with h3257 | h3257
      ·
        refine WL.setB 53 h3257 rfl ?_
        refine seg 12 [] [7, 9, 11, 57] [(7, (.slice A2735 t2730.1.length c2736)), (9, (.slice A2798 t2793.1.length c2799)), (11, (.pointer (some ⟨g3133, 0, none⟩))), (57, (.bool (t3126.2 == t2730.2)))] [] (fun fb => by kernel_rfl) rfl trivial ?_
        exact WL.toV K (t3126.2 == t2730.2) [57, 7, 9, 11] rfl (by rw [h3257]; rfl)
      refine WL.setB 53 h3257 rfl ?_
      refine seg 12 [] [7, 9, 11, 57] [(7, (.slice A2735 t2730.1.length c2736)), (9, (.slice A2798 t2793.1.length c2799)), (11, (.pointer (some ⟨g3133, 0, none⟩))), (57, (.bool false))] [] (fun fb => by kernel_rfl) rfl trivial ?_
      exact WL.toV K false [57, 7, 9, 11] rfl (by rw [h3257]; rfl)
    rintro b3258 rfl
    refine seg 13 [] [7, 9, 11, 58] [(7, (.slice A2735 t2730.1.length c2736)), (9, (.slice A2798 t2793.1.length c2799)), (11, (.pointer (some ⟨g3133, 0, none⟩))), (58, (.bool (((t2730.2 == 1) && (t2793.2 == t2730.2)) && (t3126.2 == t2730.2))))] [] (fun fb => by kernel_rfl) rfl trivial ?_
    refine WL.cutV (T := Bool) 20 (fun t => [(65, (.bool t)), (11, (.pointer (some ⟨g3133, 0, none⟩)))]) (fun t => t = ((((t2730.2 == 1) && (t2793.2 == t2730.2)) && (t3126.2 == t2730.2)) && ((w64 ((t2730.1.length : Int) + (t2793.1.length : Int))) == 0))) (fun K => ?_) ?_
    ·
      rcases Bool.eq_false_or_eq_true (((t2730.2 == 1) && (t2793.2 == t2730.2)) && (t3126.2 == t2730.2)) with h3259 | h3259
      ·
        refine WL.setB 58 h3259 rfl ?_
        refine seg 20 [] [11, 65] [(11, (.pointer (some ⟨g3133, 0, none⟩))), (65, (.bool ((w64 ((t2730.1.length : Int) + (t2793.1.length : Int))) == 0)))] [] (fun fb => by kernel_rfl) rfl trivial ?_
        exact WL.toV K ((w64 ((t2730.1.length : Int) + (t2793.1.length : Int))) == 0) [65, 11] rfl (by rw [h3259]; rfl)
      refine WL.setB 58 h3259 rfl ?_
      refine seg 20 [] [11, 65] [(11, (.pointer (some ⟨g3133, 0, none⟩))), (65, (.bool false))] [] (fun fb => by kernel_rfl) rfl trivial ?_
      exact WL.toV K false [65, 11] rfl (by rw [h3259]; rfl)
    rintro b3260 rfl
    refine seg 21 [] [11, 66] [(11, (.pointer (some ⟨g3133, 0, none⟩))), (66, (.bool ((((t2730.2 == 1) && (t2793.2 == t2730.2)) && (t3126.2 == t2730.2)) && ((w64 ((t2730.1.length : Int) + (t2793.1.length : Int))) == 0))))] [] (fun fb => by kernel_rfl) rfl trivial ?_
    obtain ⟨x3323, hx3324, hf⟩ := bind_some hf
    refine WL.cutW (T := Bool) 25 (fun t => [(70, (.bool t))]) (fun t w1 => (St NoS w w1 [rowR enc_Action A_p0_Actions c_p0_Actions p0.Actions, rowR encInt A_p1_Cells c_p1_Cells p1.Cells, rowR encInt A_p2 c_p2 p2] [] ∧ x3323 = t) ∧ CellsOK [] w1) (fun K => ?_) ?_
    ·
      rcases br_some hx3324 with ⟨h3325, hx3324⟩ | ⟨h3325, hx3324⟩
      ·
        refine WL.setB 66 h3325 rfl ?_
        refine seg 23 [.v (.int .i64 t3126.1.State), .v (.int .i64 t3126.1.At), .v (.slice A3131 t3126.1.Cells.length c3132)] [66, 67, 68] [(66, (.bool true)), (67, (.agg #[(.int .i64 t3126.1.State), (.int .i64 t3126.1.At), (.slice A3131 t3126.1.Cells.length c3132)])), (68, (.agg #[(.int .i64 0), (.int .i64 0), (.slice none 0 0)]))] [.cell ⟨g3133, 0, none⟩ (.int .i64 t3126.1.State), .cell ⟨g3133, 1, none⟩ (.int .i64 t3126.1.At), .cell ⟨g3133, 2, none⟩ (.slice A3131 t3126.1.Cells.length c3132)] (fun fb => by kernel_rfl) rfl ⟨hS3253.cell 0 rfl 0 rfl, hS3253.cell 0 rfl 1 rfl, hS3253.cell 0 rfl 2 rfl, trivial⟩ ?_
        obtain ⟨t3326, ht3327, hx3324⟩ := bind_some hx3324
        refine WL.call (some 69) 21 #[(.agg #[(.int .i64 t3126.1.State), (.int .i64 t3126.1.At), (.slice A3131 t3126.1.Cells.length c3132)]), (.agg #[(.int .i64 0), (.int .i64 0), (.slice none 0 0)])] (fun fb => by kernel_rfl) (ref08_SameConfig_calls _ t3126.1 (Config.mk 0 0 ([] : List Int)) A3131 c3132 none 0 t3326 _ (hS3253.ow 1).ofO (RO.nilR _ _ _) ht3327) (fun v w3328 hR3329 => ?_)
        obtain ⟨rfl, hk_⟩ := hR3329
        have hS3330 := hS3253.keepN hk_
        refine ⟨trivial, ?_⟩
        refine seg 25 [] [70] [(70, (.bool t3326))] [] (fun fb => by kernel_rfl) rfl trivial ?_
        injection hx3324 with hx3324
        exact WL.to K t3326 [70] rfl ⟨⟨(hS3330.subR [0, 1, 2]).sub [] (by decide), hx3324.symm⟩, trivial⟩
      refine WL.setB 66 h3325 rfl ?_
      refine seg 25 [] [70] [(70, (.bool false))] [] (fun fb => by kernel_rfl) rfl trivial ?_
      injection hx3324 with hx3324
      exact WL.to K false [70] rfl ⟨⟨(hS3253.subR [0, 1, 2]).sub [] (by decide), hx3324.symm⟩, trivial⟩
    rintro y3331 w3333 ⟨⟨hS3334, hq3332⟩, hF3335⟩
    subst hq3332
    refine seg 26 [] [71] [(71, (.bool x3323))] [] (fun fb => by kernel_rfl) rfl trivial ?_
    obtain ⟨x3342, hx3343, hf⟩ := bind_some hf
    refine WL.cutW (T := Bool) 28 (fun t => [(73, (.bool t))]) (fun t w1 => (St NoS w w1 [rowR enc_Action A_p0_Actions c_p0_Actions p0.Actions, rowR encInt A_p1_Cells c_p1_Cells p1.Cells, rowR encInt A_p2 c_p2 p2] [] ∧ x3342 = t) ∧ CellsOK [] w1) (fun K => ?_) ?_
    ·
      rcases br_some hx3343 with ⟨h3344, hx3343⟩ | ⟨h3344, hx3343⟩
      ·
        refine WL.setB 71 h3344 rfl ?_
        obtain ⟨t3345, ht3346, hx3343⟩ := bind_some hx3343
        refine WL.call (some 72) 11 #[] (fun fb => by kernel_rfl) (law08_awake_calls _ t3345 _ ht3346) (fun v w3347 hR3348 => ?_)
        obtain ⟨rfl, hk_⟩ := hR3348
        have hS3349 := hS3334.keepN hk_
        refine ⟨trivial, ?_⟩
        refine seg 28 [] [73] [(73, (.bool t3345))] [] (fun fb => by kernel_rfl) rfl trivial ?_
        injection hx3343 with hx3343
        exact WL.to K t3345 [73] rfl ⟨⟨(hS3349.subR [0, 1, 2]).sub [] (by decide), hx3343.symm⟩, trivial⟩
      refine WL.setB 71 h3344 rfl ?_
      refine seg 28 [] [73] [(73, (.bool false))] [] (fun fb => by kernel_rfl) rfl trivial ?_
      injection hx3343 with hx3343
      exact WL.to K false [73] rfl ⟨⟨(hS3334.subR [0, 1, 2]).sub [] (by decide), hx3343.symm⟩, trivial⟩
    rintro y3350 w3352 ⟨⟨hS3353, hq3351⟩, hF3354⟩
    subst hq3351
    refine seg 29 [] [6] [(6, (.bool x3342))] [] (fun fb => by kernel_rfl) rfl trivial ?_
    refine WL.done rfl ?_
    refine WX.next ?_
    refine WC.ret ?_
    injection hf with hf
    subst hf
    exact WX.thenR (WX.ret_ [] (.bool x3342) [] (fun fb => by kernel_rfl) trivial ⟨_, rfl, rfl, hS3353.keep⟩)
  refine WC.condF2 (fun fb => by kernel_rfl) h3254 ?_
  refine WC.skip ?_
  refine WX.next ?_
  refine WC.seq ?_
  refine WC.seq ?_
  refine WC.region ?_
  refine seg 3 [] [2, 3, 4, 7, 9, 10, 11, 12, 76] [(2, (.slice A_p2 p2.length c_p2)), (3, (.pointer (some ⟨g1, 0, none⟩))), (4, (.pointer (some ⟨g5, 0, none⟩))), (7, (.slice A2735 t2730.1.length c2736)), (9, (.slice A2798 t2793.1.length c2799)), (10, (.int .i64 t2793.2)), (11, (.pointer (some ⟨g3133, 0, none⟩))), (12, (.int .i64 t3126.2)), (76, (.bool (t2730.2 != 0)))] [] (fun fb => by kernel_rfl) rfl trivial ?_
  obtain ⟨x6036, hx6037, hf⟩ := bind_some hf
  refine WL.cutW (T := Bool) 9 (fun t => [(2, (.slice A_p2 p2.length c_p2)), (3, (.pointer (some ⟨g1, 0, none⟩))), (4, (.pointer (some ⟨g5, 0, none⟩))), (9, (.slice A2798 t2793.1.length c2799)), (10, (.int .i64 t2793.2)), (11, (.pointer (some ⟨g3133, 0, none⟩))), (12, (.int .i64 t3126.2)), (82, (.bool t))]) (fun t w1 => (St NoS w w1 [rowR enc_Action A_p0_Actions c_p0_Actions p0.Actions, rowR encInt A_p1_Cells c_p1_Cells p1.Cells, rowR encInt A_p2 c_p2 p2] [blk g1 (.cells #[(.int .i64 p0.States), (.int .i64 p0.Symbols), (.slice A_p0_Actions p0.Actions.length c_p0_Actions)] 24 (0, 0)), blk g5 (.cells #[(.int .i64 p1.State), (.int .i64 p1.At), (.slice A_p1_Cells p1.Cells.length c_p1_Cells)] 27 (0, 0)), rowO 3 encInt A2798 c2799 t2793.1, blk g3133 (.cells #[(.int .i64 t3126.1.State), (.int .i64 t3126.1.At), (.slice A3131 t3126.1.Cells.length c3132)] 27 (0, 0)), rowO 3 encInt A3131 c3132 t3126.1.Cells] ∧ x6036 = t) ∧ CellsOK [] w1) (fun K => ?_) ?_
  ·
    rcases br_some hx6037 with ⟨h6038, hx6037⟩ | ⟨h6038, hx6037⟩
    ·
      refine WL.setB 76 h6038 rfl ?_
      refine seg 9 [] [2, 3, 4, 9, 10, 11, 12, 82] [(2, (.slice A_p2 p2.length c_p2)), (3, (.pointer (some ⟨g1, 0, none⟩))), (4, (.pointer (some ⟨g5, 0, none⟩))), (9, (.slice A2798 t2793.1.length c2799)), (10, (.int .i64 t2793.2)), (11, (.pointer (some ⟨g3133, 0, none⟩))), (12, (.int .i64 t3126.2)), (82, (.bool true))] [] (fun fb => by kernel_rfl) rfl trivial ?_
      injection hx6037 with hx6037
      exact WL.to K true [2, 3, 4, 9, 10, 11, 12, 82] rfl ⟨⟨(hS3253.subR [0, 1, 2]).sub [5, 4, 2, 0, 1] (by decide), hx6037.symm⟩, trivial⟩
    refine WL.setB 76 h6038 rfl ?_
    refine seg 5 [.v (.int .i64 p0.States), .v (.int .i64 p0.Symbols), .v (.slice A_p0_Actions p0.Actions.length c_p0_Actions)] [2, 3, 4, 9, 10, 11, 12, 76, 77, 78] [(2, (.slice A_p2 p2.length c_p2)), (3, (.pointer (some ⟨g1, 0, none⟩))), (4, (.pointer (some ⟨g5, 0, none⟩))), (9, (.slice A2798 t2793.1.length c2799)), (10, (.int .i64 t2793.2)), (11, (.pointer (some ⟨g3133, 0, none⟩))), (12, (.int .i64 t3126.2)), (76, (.bool false)), (77, (.slice A2735 t2730.1.length c2736)), (78, (.agg #[(.int .i64 p0.States), (.int .i64 p0.Symbols), (.slice A_p0_Actions p0.Actions.length c_p0_Actions)]))] [.cell ⟨g1, 0, none⟩ (.int .i64 p0.States), .cell ⟨g1, 1, none⟩ (.int .i64 p0.Symbols), .cell ⟨g1, 2, none⟩ (.slice A_p0_Actions p0.Actions.length c_p0_Actions)] (fun fb => by kernel_rfl) rfl ⟨hS3253.cell 5 rfl 0 rfl, hS3253.cell 5 rfl 1 rfl, hS3253.cell 5 rfl 2 rfl, trivial⟩ ?_
    obtain ⟨t6039, ht6040, hx6037⟩ := bind_some hx6037
    refine WL.call (some 79) 29 #[(.agg #[(.int .i64 p0.States), (.int .i64 p0.Symbols), (.slice A_p0_Actions p0.Actions.length c_p0_Actions)])] (fun fb => by kernel_rfl) (ref08_Tiles_calls _ p0 A_p0_Actions c_p0_Actions t6039 _ (hS3253.rd 0) ht6040) (fun v w6041 hR6042 => ?_)
    obtain ⟨A6044, c6045, rfl, hk_⟩ := hR6042
    have hS6043 : St NoS w w6041 [rowR enc_Action A_p0_Actions c_p0_Actions p0.Actions, rowR encInt A_p1_Cells c_p1_Cells p1.Cells, rowR encInt A_p2 c_p2 p2] [rowO 65 enc_Tile A6044 c6045 t6039, blk g3133 (.cells #[(.int .i64 t3126.1.State), (.int .i64 t3126.1.At), (.slice A3131 t3126.1.Cells.length c3132)] 27 (0, 0)), rowO 3 encInt A3131 c3132 t3126.1.Cells, rowO 3 encInt A2798 c2799 t2793.1, rowO 65 enc_Tile A2735 c2736 t2730.1, blk g5 (.cells #[(.int .i64 p1.State), (.int .i64 p1.At), (.slice A_p1_Cells p1.Cells.length c_p1_Cells)] 27 (0, 0)), blk g1 (.cells #[(.int .i64 p0.States), (.int .i64 p0.Symbols), (.slice A_p0_Actions p0.Actions.length c_p0_Actions)] 24 (0, 0))] := hS3253.call hk_ [] [0, 1, 2, 3, 4, 5] (fun g hg => hg.elim) (by simp) (by decide)
    refine ⟨trivial, ?_⟩
    obtain ⟨t6046, ht6047, hx6037⟩ := bind_some hx6037
    refine WL.call (some 80) 28 #[(.slice A2735 t2730.1.length c2736), (.slice A6044 t6039.length c6045)] (fun fb => by kernel_rfl) (ref01_SameSet_calls _ t2730.1 t6039 A2735 c2736 A6044 c6045 t6046 _ (hS6043.ow 4).ofO (hS6043.ow 0).ofO ht6047) (fun v w6048 hR6049 => ?_)
    obtain ⟨rfl, hk_⟩ := hR6049
    have hS6050 := hS6043.keepN hk_
    refine ⟨trivial, ?_⟩
    refine seg 9 [] [2, 3, 4, 9, 10, 11, 12, 82] [(2, (.slice A_p2 p2.length c_p2)), (3, (.pointer (some ⟨g1, 0, none⟩))), (4, (.pointer (some ⟨g5, 0, none⟩))), (9, (.slice A2798 t2793.1.length c2799)), (10, (.int .i64 t2793.2)), (11, (.pointer (some ⟨g3133, 0, none⟩))), (12, (.int .i64 t3126.2)), (82, (.bool (!t6046)))] [] (fun fb => by kernel_rfl) rfl trivial ?_
    injection hx6037 with hx6037
    exact WL.to K (!t6046) [2, 3, 4, 9, 10, 11, 12, 82] rfl ⟨⟨(hS6050.subR [0, 1, 2]).sub [6, 5, 3, 1, 2] (by decide), hx6037.symm⟩, trivial⟩
  rintro y6051 w6053 ⟨⟨hS6054, hq6052⟩, hF6055⟩
  subst hq6052
  refine WL.done rfl ?_
  refine WX.next ?_
  rcases br_some hf with ⟨h6056, hf⟩ | ⟨h6056, hf⟩
  · refine WC.condT2 (fun fb => by kernel_rfl) h6056 ?_
    refine WC.seq ?_
    refine WC.region ?_
    refine seg 1 [] [6] [(6, (.bool false))] [] (fun fb => by kernel_rfl) rfl trivial ?_
    refine WL.done rfl ?_
    refine WX.next ?_
    refine WC.ret ?_
    injection hf with hf
    subst hf
    exact WX.thenR (WX.ret_ [] (.bool false) [] (fun fb => by kernel_rfl) trivial ⟨_, rfl, rfl, hS6054.keep⟩)
  refine WC.condF2 (fun fb => by kernel_rfl) h6056 ?_
  refine WC.skip ?_
  refine WX.next ?_
  refine WC.seq ?_
  refine WC.seq ?_
  refine WC.region ?_
  refine seg 2 [.v (.int .i64 p0.States), .v (.int .i64 p0.Symbols), .v (.slice A_p0_Actions p0.Actions.length c_p0_Actions)] [3, 4, 9, 10, 11, 12, 84, 85] [(3, (.pointer (some ⟨g1, 0, none⟩))), (4, (.pointer (some ⟨g5, 0, none⟩))), (9, (.slice A2798 t2793.1.length c2799)), (10, (.int .i64 t2793.2)), (11, (.pointer (some ⟨g3133, 0, none⟩))), (12, (.int .i64 t3126.2)), (84, (.agg #[(.int .i64 p0.States), (.int .i64 p0.Symbols), (.slice A_p0_Actions p0.Actions.length c_p0_Actions)])), (85, (.slice A_p2 p2.length c_p2))] [.cell ⟨g1, 0, none⟩ (.int .i64 p0.States), .cell ⟨g1, 1, none⟩ (.int .i64 p0.Symbols), .cell ⟨g1, 2, none⟩ (.slice A_p0_Actions p0.Actions.length c_p0_Actions)] (fun fb => by kernel_rfl) rfl ⟨hS6054.cell 0 rfl 0 rfl, hS6054.cell 0 rfl 1 rfl, hS6054.cell 0 rfl 2 rfl, trivial⟩ ?_
  obtain ⟨t6504, ht6505, hf⟩ := bind_some hf
  refine WL.call (some 86) 30 #[(.agg #[(.int .i64 p0.States), (.int .i64 p0.Symbols), (.slice A_p0_Actions p0.Actions.length c_p0_Actions)]), (.slice A_p2 p2.length c_p2)] (fun fb => by kernel_rfl) (ref08_Read_calls _ p0 p2 A_p0_Actions c_p0_Actions A_p2 c_p2 t6504 _ (hS6054.rd 0) (hS6054.rd 2) ht6505) (fun v w6506 hR6507 => ?_)
  obtain ⟨A6509, c6510, rfl, hk_⟩ := hR6507
  have hS6508 : St NoS w w6506 [rowR enc_Action A_p0_Actions c_p0_Actions p0.Actions, rowR encInt A_p1_Cells c_p1_Cells p1.Cells, rowR encInt A_p2 c_p2 p2] [rowO 3 encInt A6509 c6510 t6504.1.Cells, blk g1 (.cells #[(.int .i64 p0.States), (.int .i64 p0.Symbols), (.slice A_p0_Actions p0.Actions.length c_p0_Actions)] 24 (0, 0)), blk g5 (.cells #[(.int .i64 p1.State), (.int .i64 p1.At), (.slice A_p1_Cells p1.Cells.length c_p1_Cells)] 27 (0, 0)), rowO 3 encInt A2798 c2799 t2793.1, blk g3133 (.cells #[(.int .i64 t3126.1.State), (.int .i64 t3126.1.At), (.slice A3131 t3126.1.Cells.length c3132)] 27 (0, 0)), rowO 3 encInt A3131 c3132 t3126.1.Cells] := hS6054.call hk_ [] [0, 1, 2, 3, 4] (fun g hg => hg.elim) (by simp) (by decide)
  refine ⟨trivial, ?_⟩
  refine seg 6 [] [3, 4, 9, 10, 11, 12, 87, 88] [(3, (.pointer (some ⟨g1, 0, none⟩))), (4, (.pointer (some ⟨g5, 0, none⟩))), (9, (.slice A2798 t2793.1.length c2799)), (10, (.int .i64 t2793.2)), (11, (.pointer (some ⟨g3133, 0, none⟩))), (12, (.int .i64 t3126.2)), (87, (.agg #[(.int .i64 t6504.1.State), (.int .i64 t6504.1.At), (.slice A6509 t6504.1.Cells.length c6510)])), (88, (.bool t6504.2))] [] (fun fb => by kernel_rfl) rfl trivial ?_
  refine WL.new hS6508 13 [] (fun g => (.pointer (some ⟨g, 0, none⟩))) (.cells #[(.int .i64 0), (.int .i64 0), (.slice none 0 0)] 27 (0, 0)) [] (fun fb g => by kernel_rfl) trivial (fun g6511 w6512 hS6513 => ?_)
  refine ⟨trivial, ?_⟩
  refine WL.store hS6513 0 rfl [(0, (.int .i64 t6504.1.State)), (1, (.int .i64 t6504.1.At)), (2, (.slice A6509 t6504.1.Cells.length c6510))] #[(.int .i64 t6504.1.State), (.int .i64 t6504.1.At), (.slice A6509 t6504.1.Cells.length c6510)] (fun fb => by kernel_rfl) (by kernel_rfl) rfl [1, 2, 3, 4, 5, 6] (by decide) (by decide) (fun w6515 hS6516 => ?_)
  refine ⟨trivial, ?_⟩
  refine seg 9 [] [3, 4, 9, 10, 11, 12, 13, 14] [(3, (.pointer (some ⟨g1, 0, none⟩))), (4, (.pointer (some ⟨g5, 0, none⟩))), (9, (.slice A2798 t2793.1.length c2799)), (10, (.int .i64 t2793.2)), (11, (.pointer (some ⟨g3133, 0, none⟩))), (12, (.int .i64 t3126.2)), (13, (.pointer (some ⟨g6511, 0, none⟩))), (14, (.bool t6504.2))] [] (fun fb => by kernel_rfl) rfl trivial ?_
  refine WL.done rfl ?_
  refine WX.next ?_
  refine WC.seq ?_
  refine WC.region ?_
  refine seg 2 [] [3, 4, 9, 10, 11, 12, 13, 90] [(3, (.pointer (some ⟨g1, 0, none⟩))), (4, (.pointer (some ⟨g5, 0, none⟩))), (9, (.slice A2798 t2793.1.length c2799)), (10, (.int .i64 t2793.2)), (11, (.pointer (some ⟨g3133, 0, none⟩))), (12, (.int .i64 t3126.2)), (13, (.pointer (some ⟨g6511, 0, none⟩))), (90, (.bool (!t6504.2)))] [] (fun fb => by kernel_rfl) rfl trivial ?_
  refine WL.done rfl ?_
  refine WX.next ?_
  obtain ⟨x6558, hx6559, hf⟩ := bind_some hf
  refine WC.cutN (T := Unit) (fun t => [(3, (.pointer (some ⟨g1, 0, none⟩))), (4, (.pointer (some ⟨g5, 0, none⟩))), (9, (.slice A2798 t2793.1.length c2799)), (10, (.int .i64 t2793.2))]) (fun t w1 => St NoS w w1 [rowR enc_Action A_p0_Actions c_p0_Actions p0.Actions, rowR encInt A_p1_Cells c_p1_Cells p1.Cells, rowR encInt A_p2 c_p2 p2] [blk g1 (.cells #[(.int .i64 p0.States), (.int .i64 p0.Symbols), (.slice A_p0_Actions p0.Actions.length c_p0_Actions)] 24 (0, 0)), blk g5 (.cells #[(.int .i64 p1.State), (.int .i64 p1.At), (.slice A_p1_Cells p1.Cells.length c_p1_Cells)] 27 (0, 0)), rowO 3 encInt A2798 c2799 t2793.1] ∧ x6558 = .inr t) (fun Kx6558 => ?_) ?_
  ·
    rcases br_some hx6559 with ⟨h6560, hx6559⟩ | ⟨h6560, hx6559⟩
    · refine WC.condT2 (fun fb => by kernel_rfl) h6560 ?_
      refine WC.seq ?_
      refine WC.region ?_
      refine seg 3 [] [3, 4, 9, 10, 11, 93] [(3, (.pointer (some ⟨g1, 0, none⟩))), (4, (.pointer (some ⟨g5, 0, none⟩))), (9, (.slice A2798 t2793.1.length c2799)), (10, (.int .i64 t2793.2)), (11, (.pointer (some ⟨g3133, 0, none⟩))), (93, (.bool (t3126.2 != 6)))] [] (fun fb => by kernel_rfl) rfl trivial ?_
      obtain ⟨x6567, hx6568, hx6559⟩ := bind_some hx6559
      refine WL.cutW (T := Bool) 8 (fun t => [(3, (.pointer (some ⟨g1, 0, none⟩))), (4, (.pointer (some ⟨g5, 0, none⟩))), (9, (.slice A2798 t2793.1.length c2799)), (10, (.int .i64 t2793.2)), (98, (.bool t))]) (fun t w1 => (St NoS w w1 [rowR enc_Action A_p0_Actions c_p0_Actions p0.Actions, rowR encInt A_p1_Cells c_p1_Cells p1.Cells, rowR encInt A_p2 c_p2 p2] [blk g1 (.cells #[(.int .i64 p0.States), (.int .i64 p0.Symbols), (.slice A_p0_Actions p0.Actions.length c_p0_Actions)] 24 (0, 0)), blk g5 (.cells #[(.int .i64 p1.State), (.int .i64 p1.At), (.slice A_p1_Cells p1.Cells.length c_p1_Cells)] 27 (0, 0)), rowO 3 encInt A2798 c2799 t2793.1] ∧ x6567 = t) ∧ CellsOK [] w1) (fun K => ?_) ?_
      ·
        rcases br_some hx6568 with ⟨h6569, hx6568⟩ | ⟨h6569, hx6568⟩
        ·
          refine WL.setB 93 h6569 rfl ?_
          refine seg 8 [] [3, 4, 9, 10, 98] [(3, (.pointer (some ⟨g1, 0, none⟩))), (4, (.pointer (some ⟨g5, 0, none⟩))), (9, (.slice A2798 t2793.1.length c2799)), (10, (.int .i64 t2793.2)), (98, (.bool true))] [] (fun fb => by kernel_rfl) rfl trivial ?_
          injection hx6568 with hx6568
          exact WL.to K true [3, 4, 9, 10, 98] rfl ⟨⟨(hS6516.subR [0, 1, 2]).sub [2, 3, 4] (by decide), hx6568.symm⟩, trivial⟩
        refine WL.setB 93 h6569 rfl ?_
        refine seg 5 [.v (.int .i64 t3126.1.State), .v (.int .i64 t3126.1.At), .v (.slice A3131 t3126.1.Cells.length c3132)] [3, 4, 9, 10, 93, 94, 95] [(3, (.pointer (some ⟨g1, 0, none⟩))), (4, (.pointer (some ⟨g5, 0, none⟩))), (9, (.slice A2798 t2793.1.length c2799)), (10, (.int .i64 t2793.2)), (93, (.bool false)), (94, (.agg #[(.int .i64 t3126.1.State), (.int .i64 t3126.1.At), (.slice A3131 t3126.1.Cells.length c3132)])), (95, (.agg #[(.int .i64 0), (.int .i64 0), (.slice none 0 0)]))] [.cell ⟨g3133, 0, none⟩ (.int .i64 t3126.1.State), .cell ⟨g3133, 1, none⟩ (.int .i64 t3126.1.At), .cell ⟨g3133, 2, none⟩ (.slice A3131 t3126.1.Cells.length c3132)] (fun fb => by kernel_rfl) rfl ⟨hS6516.cell 5 rfl 0 rfl, hS6516.cell 5 rfl 1 rfl, hS6516.cell 5 rfl 2 rfl, trivial⟩ ?_
        obtain ⟨t6570, ht6571, hx6568⟩ := bind_some hx6568
        refine WL.call (some 96) 21 #[(.agg #[(.int .i64 t3126.1.State), (.int .i64 t3126.1.At), (.slice A3131 t3126.1.Cells.length c3132)]), (.agg #[(.int .i64 0), (.int .i64 0), (.slice none 0 0)])] (fun fb => by kernel_rfl) (ref08_SameConfig_calls _ t3126.1 (Config.mk 0 0 ([] : List Int)) A3131 c3132 none 0 t6570 _ (hS6516.ow 6).ofO (RO.nilR _ _ _) ht6571) (fun v w6572 hR6573 => ?_)
        obtain ⟨rfl, hk_⟩ := hR6573
        have hS6574 := hS6516.keepN hk_
        refine ⟨trivial, ?_⟩
        refine seg 8 [] [3, 4, 9, 10, 98] [(3, (.pointer (some ⟨g1, 0, none⟩))), (4, (.pointer (some ⟨g5, 0, none⟩))), (9, (.slice A2798 t2793.1.length c2799)), (10, (.int .i64 t2793.2)), (98, (.bool (!t6570)))] [] (fun fb => by kernel_rfl) rfl trivial ?_
        injection hx6568 with hx6568
        exact WL.to K (!t6570) [3, 4, 9, 10, 98] rfl ⟨⟨(hS6574.subR [0, 1, 2]).sub [2, 3, 4] (by decide), hx6568.symm⟩, trivial⟩
      rintro y6575 w6577 ⟨⟨hS6578, hq6576⟩, hF6579⟩
      subst hq6576
      refine WL.done rfl ?_
      refine WX.next ?_
      rcases br_some hx6559 with ⟨h6580, hx6559⟩ | ⟨h6580, hx6559⟩
      · refine WC.condT2 (fun fb => by kernel_rfl) h6580 ?_
        refine WC.seq ?_
        refine WC.region ?_
        refine seg 1 [] [6] [(6, (.bool false))] [] (fun fb => by kernel_rfl) rfl trivial ?_
        refine WL.done rfl ?_
        refine WX.next ?_
        refine WC.ret ?_
        injection hx6559 with hx6559
        subst hx6559
        injection hf with hf
        subst hf
        exact WX.thenR (WX.ret_ [] (.bool false) [] (fun fb => by kernel_rfl) trivial ⟨_, rfl, rfl, hS6578.keep⟩)
      refine WC.condF2 (fun fb => by kernel_rfl) h6580 ?_
      refine WC.skip ?_
      injection hx6559 with hx6559
      exact WX.to Kx6558 () [3, 4, 9, 10] rfl ⟨(hS6578.subR [0, 1, 2]).sub [0, 1, 2] (by decide), hx6559.symm⟩
    refine WC.condF2 (fun fb => by kernel_rfl) h6560 ?_
    refine WC.seq ?_
    refine WC.region ?_
    refine seg 3 [] [3, 4, 9, 10, 11, 13, 101] [(3, (.pointer (some ⟨g1, 0, none⟩))), (4, (.pointer (some ⟨g5, 0, none⟩))), (9, (.slice A2798 t2793.1.length c2799)), (10, (.int .i64 t2793.2)), (11, (.pointer (some ⟨g3133, 0, none⟩))), (13, (.pointer (some ⟨g6511, 0, none⟩))), (101, (.bool (t3126.2 != 0)))] [] (fun fb => by kernel_rfl) rfl trivial ?_
    obtain ⟨x6587, hx6588, hx6559⟩ := bind_some hx6559
    refine WL.cutW (T := Bool) 8 (fun t => [(3, (.pointer (some ⟨g1, 0, none⟩))), (4, (.pointer (some ⟨g5, 0, none⟩))), (9, (.slice A2798 t2793.1.length c2799)), (10, (.int .i64 t2793.2)), (106, (.bool t))]) (fun t w1 => (St NoS w w1 [rowR enc_Action A_p0_Actions c_p0_Actions p0.Actions, rowR encInt A_p1_Cells c_p1_Cells p1.Cells, rowR encInt A_p2 c_p2 p2] [blk g1 (.cells #[(.int .i64 p0.States), (.int .i64 p0.Symbols), (.slice A_p0_Actions p0.Actions.length c_p0_Actions)] 24 (0, 0)), blk g5 (.cells #[(.int .i64 p1.State), (.int .i64 p1.At), (.slice A_p1_Cells p1.Cells.length c_p1_Cells)] 27 (0, 0)), rowO 3 encInt A2798 c2799 t2793.1] ∧ x6587 = t) ∧ CellsOK [] w1) (fun K => ?_) ?_
    ·
      rcases br_some hx6588 with ⟨h6589, hx6588⟩ | ⟨h6589, hx6588⟩
      ·
        refine WL.setB 101 h6589 rfl ?_
        refine seg 8 [] [3, 4, 9, 10, 106] [(3, (.pointer (some ⟨g1, 0, none⟩))), (4, (.pointer (some ⟨g5, 0, none⟩))), (9, (.slice A2798 t2793.1.length c2799)), (10, (.int .i64 t2793.2)), (106, (.bool true))] [] (fun fb => by kernel_rfl) rfl trivial ?_
        injection hx6588 with hx6588
        exact WL.to K true [3, 4, 9, 10, 106] rfl ⟨⟨(hS6516.subR [0, 1, 2]).sub [2, 3, 4] (by decide), hx6588.symm⟩, trivial⟩
      refine WL.setB 101 h6589 rfl ?_
      refine seg 5 [.v (.int .i64 t3126.1.State), .v (.int .i64 t3126.1.At), .v (.slice A3131 t3126.1.Cells.length c3132), .v (.int .i64 t6504.1.State), .v (.int .i64 t6504.1.At), .v (.slice A6509 t6504.1.Cells.length c6510)] [3, 4, 9, 10, 101, 102, 103] [(3, (.pointer (some ⟨g1, 0, none⟩))), (4, (.pointer (some ⟨g5, 0, none⟩))), (9, (.slice A2798 t2793.1.length c2799)), (10, (.int .i64 t2793.2)), (101, (.bool false)), (102, (.agg #[(.int .i64 t3126.1.State), (.int .i64 t3126.1.At), (.slice A3131 t3126.1.Cells.length c3132)])), (103, (.agg #[(.int .i64 t6504.1.State), (.int .i64 t6504.1.At), (.slice A6509 t6504.1.Cells.length c6510)]))] [.cell ⟨g3133, 0, none⟩ (.int .i64 t3126.1.State), .cell ⟨g3133, 1, none⟩ (.int .i64 t3126.1.At), .cell ⟨g3133, 2, none⟩ (.slice A3131 t3126.1.Cells.length c3132), .cell ⟨g6511, 0, none⟩ (.int .i64 t6504.1.State), .cell ⟨g6511, 1, none⟩ (.int .i64 t6504.1.At), .cell ⟨g6511, 2, none⟩ (.slice A6509 t6504.1.Cells.length c6510)] (fun fb => by kernel_rfl) rfl ⟨hS6516.cell 5 rfl 0 rfl, hS6516.cell 5 rfl 1 rfl, hS6516.cell 5 rfl 2 rfl, hS6516.cell 0 rfl 0 rfl, hS6516.cell 0 rfl 1 rfl, hS6516.cell 0 rfl 2 rfl, trivial⟩ ?_
      obtain ⟨t6590, ht6591, hx6588⟩ := bind_some hx6588
      refine WL.call (some 104) 21 #[(.agg #[(.int .i64 t3126.1.State), (.int .i64 t3126.1.At), (.slice A3131 t3126.1.Cells.length c3132)]), (.agg #[(.int .i64 t6504.1.State), (.int .i64 t6504.1.At), (.slice A6509 t6504.1.Cells.length c6510)])] (fun fb => by kernel_rfl) (ref08_SameConfig_calls _ t3126.1 t6504.1 A3131 c3132 A6509 c6510 t6590 _ (hS6516.ow 6).ofO (hS6516.ow 1).ofO ht6591) (fun v w6592 hR6593 => ?_)
      obtain ⟨rfl, hk_⟩ := hR6593
      have hS6594 := hS6516.keepN hk_
      refine ⟨trivial, ?_⟩
      refine seg 8 [] [3, 4, 9, 10, 106] [(3, (.pointer (some ⟨g1, 0, none⟩))), (4, (.pointer (some ⟨g5, 0, none⟩))), (9, (.slice A2798 t2793.1.length c2799)), (10, (.int .i64 t2793.2)), (106, (.bool (!t6590)))] [] (fun fb => by kernel_rfl) rfl trivial ?_
      injection hx6588 with hx6588
      exact WL.to K (!t6590) [3, 4, 9, 10, 106] rfl ⟨⟨(hS6594.subR [0, 1, 2]).sub [2, 3, 4] (by decide), hx6588.symm⟩, trivial⟩
    rintro y6595 w6597 ⟨⟨hS6598, hq6596⟩, hF6599⟩
    subst hq6596
    refine WL.done rfl ?_
    refine WX.next ?_
    rcases br_some hx6559 with ⟨h6600, hx6559⟩ | ⟨h6600, hx6559⟩
    · refine WC.condT2 (fun fb => by kernel_rfl) h6600 ?_
      refine WC.seq ?_
      refine WC.region ?_
      refine seg 1 [] [6] [(6, (.bool false))] [] (fun fb => by kernel_rfl) rfl trivial ?_
      refine WL.done rfl ?_
      refine WX.next ?_
      refine WC.ret ?_
      injection hx6559 with hx6559
      subst hx6559
      injection hf with hf
      subst hf
      exact WX.thenR (WX.ret_ [] (.bool false) [] (fun fb => by kernel_rfl) trivial ⟨_, rfl, rfl, hS6598.keep⟩)
    refine WC.condF2 (fun fb => by kernel_rfl) h6600 ?_
    refine WC.skip ?_
    injection hx6559 with hx6559
    exact WX.to Kx6558 () [3, 4, 9, 10] rfl ⟨(hS6598.subR [0, 1, 2]).sub [0, 1, 2] (by decide), hx6559.symm⟩
  rintro y6604 w6601 ⟨hS6602, hq6603⟩
  subst hq6603
  have hf := sum_inr hf
  refine WX.next ?_
  refine WC.seq ?_
  refine WC.seq ?_
  refine WC.region ?_
  refine seg 2 [.v (.int .i64 p0.States), .v (.int .i64 p0.Symbols), .v (.slice A_p0_Actions p0.Actions.length c_p0_Actions), .v (.int .i64 p1.State), .v (.int .i64 p1.At), .v (.slice A_p1_Cells p1.Cells.length c_p1_Cells)] [3, 4, 9, 10, 107, 108] [(3, (.pointer (some ⟨g1, 0, none⟩))), (4, (.pointer (some ⟨g5, 0, none⟩))), (9, (.slice A2798 t2793.1.length c2799)), (10, (.int .i64 t2793.2)), (107, (.agg #[(.int .i64 p0.States), (.int .i64 p0.Symbols), (.slice A_p0_Actions p0.Actions.length c_p0_Actions)])), (108, (.agg #[(.int .i64 p1.State), (.int .i64 p1.At), (.slice A_p1_Cells p1.Cells.length c_p1_Cells)]))] [.cell ⟨g1, 0, none⟩ (.int .i64 p0.States), .cell ⟨g1, 1, none⟩ (.int .i64 p0.Symbols), .cell ⟨g1, 2, none⟩ (.slice A_p0_Actions p0.Actions.length c_p0_Actions), .cell ⟨g5, 0, none⟩ (.int .i64 p1.State), .cell ⟨g5, 1, none⟩ (.int .i64 p1.At), .cell ⟨g5, 2, none⟩ (.slice A_p1_Cells p1.Cells.length c_p1_Cells)] (fun fb => by kernel_rfl) rfl ⟨hS6602.cell 0 rfl 0 rfl, hS6602.cell 0 rfl 1 rfl, hS6602.cell 0 rfl 2 rfl, hS6602.cell 1 rfl 0 rfl, hS6602.cell 1 rfl 1 rfl, hS6602.cell 1 rfl 2 rfl, trivial⟩ ?_
  obtain ⟨t6606, ht6607, hf⟩ := bind_some hf
  refine WL.call (some 109) 13 #[(.agg #[(.int .i64 p0.States), (.int .i64 p0.Symbols), (.slice A_p0_Actions p0.Actions.length c_p0_Actions)]), (.agg #[(.int .i64 p1.State), (.int .i64 p1.At), (.slice A_p1_Cells p1.Cells.length c_p1_Cells)])] (fun fb => by kernel_rfl) (ref08_Fits_calls _ p0 p1 A_p0_Actions c_p0_Actions A_p1_Cells c_p1_Cells t6606 _ (hS6602.rd 0) (hS6602.rd 1) ht6607) (fun v w6608 hR6609 => ?_)
  obtain ⟨rfl, hk_⟩ := hR6609
  have hS6610 := hS6602.keepN hk_
  refine ⟨trivial, ?_⟩
  refine seg 4 [] [3, 4, 9, 10, 110] [(3, (.pointer (some ⟨g1, 0, none⟩))), (4, (.pointer (some ⟨g5, 0, none⟩))), (9, (.slice A2798 t2793.1.length c2799)), (10, (.int .i64 t2793.2)), (110, (.bool (!t6606)))] [] (fun fb => by kernel_rfl) rfl trivial ?_
  refine WL.done rfl ?_
  refine WX.next ?_
  rcases br_some hf with ⟨h6611, hf⟩ | ⟨h6611, hf⟩
  · refine WC.condT2 (fun fb => by kernel_rfl) h6611 ?_
    refine WC.seq ?_
    refine WC.region ?_
    refine seg 3 [] [9, 113] [(9, (.slice A2798 t2793.1.length c2799)), (113, (.bool (t2793.2 == 1)))] [] (fun fb => by kernel_rfl) rfl trivial ?_
    refine WL.cutV (T := Bool) 7 (fun t => [(117, (.bool t))]) (fun t => t = ((t2793.2 == 1) && ((t2793.1.length : Int) == 0))) (fun K => ?_) ?_
    ·
      rcases Bool.eq_false_or_eq_true (t2793.2 == 1) with h6612 | h6612
      ·
        refine WL.setB 113 h6612 rfl ?_
        refine seg 7 [] [117] [(117, (.bool ((t2793.1.length : Int) == 0)))] [] (fun fb => by kernel_rfl) rfl trivial ?_
        exact WL.toV K ((t2793.1.length : Int) == 0) [117] rfl (by rw [h6612]; rfl)
      refine WL.setB 113 h6612 rfl ?_
      refine seg 7 [] [117] [(117, (.bool false))] [] (fun fb => by kernel_rfl) rfl trivial ?_
      exact WL.toV K false [117] rfl (by rw [h6612]; rfl)
    rintro b6613 rfl
    refine seg 8 [] [118] [(118, (.bool ((t2793.2 == 1) && ((t2793.1.length : Int) == 0))))] [] (fun fb => by kernel_rfl) rfl trivial ?_
    obtain ⟨x6620, hx6621, hf⟩ := bind_some hf
    refine WL.cutW (T := Bool) 10 (fun t => [(120, (.bool t))]) (fun t w1 => (St NoS w w1 [rowR enc_Action A_p0_Actions c_p0_Actions p0.Actions, rowR encInt A_p1_Cells c_p1_Cells p1.Cells, rowR encInt A_p2 c_p2 p2] [] ∧ x6620 = t) ∧ CellsOK [] w1) (fun K => ?_) ?_
    ·
      rcases br_some hx6621 with ⟨h6622, hx6621⟩ | ⟨h6622, hx6621⟩
      ·
        refine WL.setB 118 h6622 rfl ?_
        obtain ⟨t6623, ht6624, hx6621⟩ := bind_some hx6621
        refine WL.call (some 119) 11 #[] (fun fb => by kernel_rfl) (law08_awake_calls _ t6623 _ ht6624) (fun v w6625 hR6626 => ?_)
        obtain ⟨rfl, hk_⟩ := hR6626
        have hS6627 := hS6610.keepN hk_
        refine ⟨trivial, ?_⟩
        refine seg 10 [] [120] [(120, (.bool t6623))] [] (fun fb => by kernel_rfl) rfl trivial ?_
        injection hx6621 with hx6621
        exact WL.to K t6623 [120] rfl ⟨⟨(hS6627.subR [0, 1, 2]).sub [] (by decide), hx6621.symm⟩, trivial⟩
      refine WL.setB 118 h6622 rfl ?_
      refine seg 10 [] [120] [(120, (.bool false))] [] (fun fb => by kernel_rfl) rfl trivial ?_
      injection hx6621 with hx6621
      exact WL.to K false [120] rfl ⟨⟨(hS6610.subR [0, 1, 2]).sub [] (by decide), hx6621.symm⟩, trivial⟩
    rintro y6628 w6630 ⟨⟨hS6631, hq6629⟩, hF6632⟩
    subst hq6629
    refine seg 11 [] [6] [(6, (.bool x6620))] [] (fun fb => by kernel_rfl) rfl trivial ?_
    refine WL.done rfl ?_
    refine WX.next ?_
    refine WC.ret ?_
    injection hf with hf
    subst hf
    exact WX.thenR (WX.ret_ [] (.bool x6620) [] (fun fb => by kernel_rfl) trivial ⟨_, rfl, rfl, hS6631.keep⟩)
  refine WC.condF2 (fun fb => by kernel_rfl) h6611 ?_
  refine WC.skip ?_
  refine WX.next ?_
  refine WC.seq ?_
  refine WC.region ?_
  refine seg 2 [.v (.int .i64 p0.States), .v (.int .i64 p0.Symbols), .v (.slice A_p0_Actions p0.Actions.length c_p0_Actions)] [3, 4, 9, 10, 122, 123] [(3, (.pointer (some ⟨g1, 0, none⟩))), (4, (.pointer (some ⟨g5, 0, none⟩))), (9, (.slice A2798 t2793.1.length c2799)), (10, (.int .i64 t2793.2)), (122, (.agg #[(.int .i64 p0.States), (.int .i64 p0.Symbols), (.slice A_p0_Actions p0.Actions.length c_p0_Actions)])), (123, (.slice A2798 t2793.1.length c2799))] [.cell ⟨g1, 0, none⟩ (.int .i64 p0.States), .cell ⟨g1, 1, none⟩ (.int .i64 p0.Symbols), .cell ⟨g1, 2, none⟩ (.slice A_p0_Actions p0.Actions.length c_p0_Actions)] (fun fb => by kernel_rfl) rfl ⟨hS6610.cell 0 rfl 0 rfl, hS6610.cell 0 rfl 1 rfl, hS6610.cell 0 rfl 2 rfl, trivial⟩ ?_
  obtain ⟨t6633, ht6634, hf⟩ := bind_some hf
  refine WL.call (some 124) 27 #[(.agg #[(.int .i64 p0.States), (.int .i64 p0.Symbols), (.slice A_p0_Actions p0.Actions.length c_p0_Actions)]), (.slice A2798 t2793.1.length c2799)] (fun fb => by kernel_rfl) (machine_Read_calls _ p0 t2793.1 A_p0_Actions c_p0_Actions A2798 c2799 t6633 _ (hS6610.rd 0) (hS6610.ow 2).ofO ht6634) (fun v w6635 hR6636 => ?_)
  obtain ⟨A6638, c6639, rfl, hk_⟩ := hR6636
  have hS6637 : St NoS w w6635 [rowR enc_Action A_p0_Actions c_p0_Actions p0.Actions, rowR encInt A_p1_Cells c_p1_Cells p1.Cells, rowR encInt A_p2 c_p2 p2] [rowO 3 encInt A6638 c6639 t6633.1.Cells, blk g1 (.cells #[(.int .i64 p0.States), (.int .i64 p0.Symbols), (.slice A_p0_Actions p0.Actions.length c_p0_Actions)] 24 (0, 0)), blk g5 (.cells #[(.int .i64 p1.State), (.int .i64 p1.At), (.slice A_p1_Cells p1.Cells.length c_p1_Cells)] 27 (0, 0)), rowO 3 encInt A2798 c2799 t2793.1] := hS6610.call hk_ [] [0, 1, 2] (fun g hg => hg.elim) (by simp) (by decide)
  refine ⟨trivial, ?_⟩
  refine seg 6 [] [3, 4, 9, 10, 125, 126] [(3, (.pointer (some ⟨g1, 0, none⟩))), (4, (.pointer (some ⟨g5, 0, none⟩))), (9, (.slice A2798 t2793.1.length c2799)), (10, (.int .i64 t2793.2)), (125, (.agg #[(.int .i64 t6633.1.State), (.int .i64 t6633.1.At), (.slice A6638 t6633.1.Cells.length c6639)])), (126, (.int .i64 t6633.2))] [] (fun fb => by kernel_rfl) rfl trivial ?_
  refine WL.new hS6637 15 [] (fun g => (.pointer (some ⟨g, 0, none⟩))) (.cells #[(.int .i64 0), (.int .i64 0), (.slice none 0 0)] 27 (0, 0)) [] (fun fb g => by kernel_rfl) trivial (fun g6640 w6641 hS6642 => ?_)
  refine ⟨trivial, ?_⟩
  refine WL.store hS6642 0 rfl [(0, (.int .i64 t6633.1.State)), (1, (.int .i64 t6633.1.At)), (2, (.slice A6638 t6633.1.Cells.length c6639))] #[(.int .i64 t6633.1.State), (.int .i64 t6633.1.At), (.slice A6638 t6633.1.Cells.length c6639)] (fun fb => by kernel_rfl) (by kernel_rfl) rfl [1, 2, 3, 4] (by decide) (by decide) (fun w6644 hS6645 => ?_)
  refine ⟨trivial, ?_⟩
  refine seg 9 [] [3, 4, 9, 10, 15, 16] [(3, (.pointer (some ⟨g1, 0, none⟩))), (4, (.pointer (some ⟨g5, 0, none⟩))), (9, (.slice A2798 t2793.1.length c2799)), (10, (.int .i64 t2793.2)), (15, (.pointer (some ⟨g6640, 0, none⟩))), (16, (.int .i64 t6633.2))] [] (fun fb => by kernel_rfl) rfl trivial ?_
  refine WL.done rfl ?_
  refine WX.next ?_
  refine WC.seq ?_
  refine WC.region ?_
  refine seg 3 [] [3, 4, 9, 15, 16, 129] [(3, (.pointer (some ⟨g1, 0, none⟩))), (4, (.pointer (some ⟨g5, 0, none⟩))), (9, (.slice A2798 t2793.1.length c2799)), (15, (.pointer (some ⟨g6640, 0, none⟩))), (16, (.int .i64 t6633.2)), (129, (.bool (t2793.2 == 0)))] [] (fun fb => by kernel_rfl) rfl trivial ?_
  obtain ⟨x6742, hx6743, hf⟩ := bind_some hf
  refine WL.cutW (T := Bool) 9 (fun t => [(4, (.pointer (some ⟨g5, 0, none⟩))), (15, (.pointer (some ⟨g6640, 0, none⟩))), (16, (.int .i64 t6633.2)), (135, (.bool t))]) (fun t w1 => (St NoS w w1 [rowR enc_Action A_p0_Actions c_p0_Actions p0.Actions, rowR encInt A_p1_Cells c_p1_Cells p1.Cells, rowR encInt A_p2 c_p2 p2] [blk g5 (.cells #[(.int .i64 p1.State), (.int .i64 p1.At), (.slice A_p1_Cells p1.Cells.length c_p1_Cells)] 27 (0, 0)), blk g6640 (.cells #[(.int .i64 t6633.1.State), (.int .i64 t6633.1.At), (.slice A6638 t6633.1.Cells.length c6639)] 27 (0, 0)), rowO 3 encInt A6638 c6639 t6633.1.Cells] ∧ x6742 = t) ∧ CellsOK [] w1) (fun K => ?_) ?_
  ·
    rcases br_some hx6743 with ⟨h6744, hx6743⟩ | ⟨h6744, hx6743⟩
    ·
      refine WL.setB 129 h6744 rfl ?_
      refine seg 6 [.v (.int .i64 p0.States), .v (.int .i64 p0.Symbols), .v (.slice A_p0_Actions p0.Actions.length c_p0_Actions), .v (.int .i64 p1.State), .v (.int .i64 p1.At), .v (.slice A_p1_Cells p1.Cells.length c_p1_Cells)] [4, 15, 16, 129, 130, 131, 132] [(4, (.pointer (some ⟨g5, 0, none⟩))), (15, (.pointer (some ⟨g6640, 0, none⟩))), (16, (.int .i64 t6633.2)), (129, (.bool true)), (130, (.slice A2798 t2793.1.length c2799)), (131, (.agg #[(.int .i64 p0.States), (.int .i64 p0.Symbols), (.slice A_p0_Actions p0.Actions.length c_p0_Actions)])), (132, (.agg #[(.int .i64 p1.State), (.int .i64 p1.At), (.slice A_p1_Cells p1.Cells.length c_p1_Cells)]))] [.cell ⟨g1, 0, none⟩ (.int .i64 p0.States), .cell ⟨g1, 1, none⟩ (.int .i64 p0.Symbols), .cell ⟨g1, 2, none⟩ (.slice A_p0_Actions p0.Actions.length c_p0_Actions), .cell ⟨g5, 0, none⟩ (.int .i64 p1.State), .cell ⟨g5, 1, none⟩ (.int .i64 p1.At), .cell ⟨g5, 2, none⟩ (.slice A_p1_Cells p1.Cells.length c_p1_Cells)] (fun fb => by kernel_rfl) rfl ⟨hS6645.cell 2 rfl 0 rfl, hS6645.cell 2 rfl 1 rfl, hS6645.cell 2 rfl 2 rfl, hS6645.cell 3 rfl 0 rfl, hS6645.cell 3 rfl 1 rfl, hS6645.cell 3 rfl 2 rfl, trivial⟩ ?_
      obtain ⟨t6745, ht6746, hx6743⟩ := bind_some hx6743
      refine WL.call (some 133) 32 #[(.agg #[(.int .i64 p0.States), (.int .i64 p0.Symbols), (.slice A_p0_Actions p0.Actions.length c_p0_Actions)]), (.agg #[(.int .i64 p1.State), (.int .i64 p1.At), (.slice A_p1_Cells p1.Cells.length c_p1_Cells)])] (fun fb => by kernel_rfl) (ref08_Colours_calls p0 p1 A_p0_Actions c_p0_Actions A_p1_Cells c_p1_Cells t6745 _ (hS6645.rd 0) (hS6645.rd 1) ht6746) (fun v w6747 hR6748 => ?_)
      obtain ⟨A6750, c6751, rfl, hk_⟩ := hR6748
      have hS6749 : St NoS w w6747 [rowR enc_Action A_p0_Actions c_p0_Actions p0.Actions, rowR encInt A_p1_Cells c_p1_Cells p1.Cells, rowR encInt A_p2 c_p2 p2] [rowO 3 encInt A6750 c6751 t6745, blk g6640 (.cells #[(.int .i64 t6633.1.State), (.int .i64 t6633.1.At), (.slice A6638 t6633.1.Cells.length c6639)] 27 (0, 0)), rowO 3 encInt A6638 c6639 t6633.1.Cells, blk g1 (.cells #[(.int .i64 p0.States), (.int .i64 p0.Symbols), (.slice A_p0_Actions p0.Actions.length c_p0_Actions)] 24 (0, 0)), blk g5 (.cells #[(.int .i64 p1.State), (.int .i64 p1.At), (.slice A_p1_Cells p1.Cells.length c_p1_Cells)] 27 (0, 0)), rowO 3 encInt A2798 c2799 t2793.1] := hS6645.call hk_ [] [0, 1, 2, 3, 4] (fun g hg => hg.elim) (by simp) (by decide)
      refine ⟨trivial, ?_⟩
      obtain ⟨t6752, ht6753, hx6743⟩ := bind_some hx6743
      refine WL.call (some 134) 31 #[(.slice A2798 t2793.1.length c2799), (.slice A6750 t6745.length c6751)] (fun fb => by kernel_rfl) (ref01_Same_calls _ t2793.1 t6745 A2798 c2799 A6750 c6751 t6752 _ (hS6749.ow 5).ofO (hS6749.ow 0).ofO ht6753) (fun v w6754 hR6755 => ?_)
      obtain ⟨rfl, hk_⟩ := hR6755
      have hS6756 := hS6749.keepN hk_
      refine ⟨trivial, ?_⟩
      refine seg 9 [] [4, 15, 16, 135] [(4, (.pointer (some ⟨g5, 0, none⟩))), (15, (.pointer (some ⟨g6640, 0, none⟩))), (16, (.int .i64 t6633.2)), (135, (.bool t6752))] [] (fun fb => by kernel_rfl) rfl trivial ?_
      injection hx6743 with hx6743
      exact WL.to K t6752 [4, 15, 16, 135] rfl ⟨⟨(hS6756.subR [0, 1, 2]).sub [4, 1, 2] (by decide), hx6743.symm⟩, trivial⟩
    refine WL.setB 129 h6744 rfl ?_
    refine seg 9 [] [4, 15, 16, 135] [(4, (.pointer (some ⟨g5, 0, none⟩))), (15, (.pointer (some ⟨g6640, 0, none⟩))), (16, (.int .i64 t6633.2)), (135, (.bool false))] [] (fun fb => by kernel_rfl) rfl trivial ?_
    injection hx6743 with hx6743
    exact WL.to K false [4, 15, 16, 135] rfl ⟨⟨(hS6645.subR [0, 1, 2]).sub [3, 0, 1] (by decide), hx6743.symm⟩, trivial⟩
  rintro y6757 w6759 ⟨⟨hS6760, hq6758⟩, hF6761⟩
  subst hq6758
  refine seg 10 [] [4, 15, 16, 136] [(4, (.pointer (some ⟨g5, 0, none⟩))), (15, (.pointer (some ⟨g6640, 0, none⟩))), (16, (.int .i64 t6633.2)), (136, (.bool x6742))] [] (fun fb => by kernel_rfl) rfl trivial ?_
  refine WL.cutV (T := Bool) 13 (fun t => [(139, (.bool t)), (4, (.pointer (some ⟨g5, 0, none⟩))), (15, (.pointer (some ⟨g6640, 0, none⟩)))]) (fun t => t = (x6742 && (t6633.2 == 0))) (fun K => ?_) ?_
  ·
    rcases Bool.eq_false_or_eq_true x6742 with h6762 | h6762
    ·
      refine WL.setB 136 h6762 rfl ?_
      refine seg 13 [] [4, 15, 139] [(4, (.pointer (some ⟨g5, 0, none⟩))), (15, (.pointer (some ⟨g6640, 0, none⟩))), (139, (.bool (t6633.2 == 0)))] [] (fun fb => by kernel_rfl) rfl trivial ?_
      exact WL.toV K (t6633.2 == 0) [139, 4, 15] rfl (by rw [h6762]; rfl)
    refine WL.setB 136 h6762 rfl ?_
    refine seg 13 [] [4, 15, 139] [(4, (.pointer (some ⟨g5, 0, none⟩))), (15, (.pointer (some ⟨g6640, 0, none⟩))), (139, (.bool false))] [] (fun fb => by kernel_rfl) rfl trivial ?_
    exact WL.toV K false [139, 4, 15] rfl (by rw [h6762]; rfl)
  rintro b6763 rfl
  refine seg 14 [] [4, 15, 140] [(4, (.pointer (some ⟨g5, 0, none⟩))), (15, (.pointer (some ⟨g6640, 0, none⟩))), (140, (.bool (x6742 && (t6633.2 == 0))))] [] (fun fb => by kernel_rfl) rfl trivial ?_
  obtain ⟨x6770, hx6771, hf⟩ := bind_some hf
  refine WL.cutW (T := Bool) 18 (fun t => [(144, (.bool t))]) (fun t w1 => (St NoS w w1 [rowR enc_Action A_p0_Actions c_p0_Actions p0.Actions, rowR encInt A_p1_Cells c_p1_Cells p1.Cells, rowR encInt A_p2 c_p2 p2] [] ∧ x6770 = t) ∧ CellsOK [] w1) (fun K => ?_) ?_
  ·
    rcases br_some hx6771 with ⟨h6772, hx6771⟩ | ⟨h6772, hx6771⟩
    ·
      refine WL.setB 140 h6772 rfl ?_
      refine seg 16 [.v (.int .i64 t6633.1.State), .v (.int .i64 t6633.1.At), .v (.slice A6638 t6633.1.Cells.length c6639), .v (.int .i64 p1.State), .v (.int .i64 p1.At), .v (.slice A_p1_Cells p1.Cells.length c_p1_Cells)] [140, 141, 142] [(140, (.bool true)), (141, (.agg #[(.int .i64 t6633.1.State), (.int .i64 t6633.1.At), (.slice A6638 t6633.1.Cells.length c6639)])), (142, (.agg #[(.int .i64 p1.State), (.int .i64 p1.At), (.slice A_p1_Cells p1.Cells.length c_p1_Cells)]))] [.cell ⟨g6640, 0, none⟩ (.int .i64 t6633.1.State), .cell ⟨g6640, 1, none⟩ (.int .i64 t6633.1.At), .cell ⟨g6640, 2, none⟩ (.slice A6638 t6633.1.Cells.length c6639), .cell ⟨g5, 0, none⟩ (.int .i64 p1.State), .cell ⟨g5, 1, none⟩ (.int .i64 p1.At), .cell ⟨g5, 2, none⟩ (.slice A_p1_Cells p1.Cells.length c_p1_Cells)] (fun fb => by kernel_rfl) rfl ⟨hS6760.cell 1 rfl 0 rfl, hS6760.cell 1 rfl 1 rfl, hS6760.cell 1 rfl 2 rfl, hS6760.cell 0 rfl 0 rfl, hS6760.cell 0 rfl 1 rfl, hS6760.cell 0 rfl 2 rfl, trivial⟩ ?_
      obtain ⟨t6773, ht6774, hx6771⟩ := bind_some hx6771
      refine WL.call (some 143) 21 #[(.agg #[(.int .i64 t6633.1.State), (.int .i64 t6633.1.At), (.slice A6638 t6633.1.Cells.length c6639)]), (.agg #[(.int .i64 p1.State), (.int .i64 p1.At), (.slice A_p1_Cells p1.Cells.length c_p1_Cells)])] (fun fb => by kernel_rfl) (ref08_SameConfig_calls _ t6633.1 p1 A6638 c6639 A_p1_Cells c_p1_Cells t6773 _ (hS6760.ow 2).ofO (hS6760.rd 1) ht6774) (fun v w6775 hR6776 => ?_)
      obtain ⟨rfl, hk_⟩ := hR6776
      have hS6777 := hS6760.keepN hk_
      refine ⟨trivial, ?_⟩
      refine seg 18 [] [144] [(144, (.bool t6773))] [] (fun fb => by kernel_rfl) rfl trivial ?_
      injection hx6771 with hx6771
      exact WL.to K t6773 [144] rfl ⟨⟨(hS6777.subR [0, 1, 2]).sub [] (by decide), hx6771.symm⟩, trivial⟩
    refine WL.setB 140 h6772 rfl ?_
    refine seg 18 [] [144] [(144, (.bool false))] [] (fun fb => by kernel_rfl) rfl trivial ?_
    injection hx6771 with hx6771
    exact WL.to K false [144] rfl ⟨⟨(hS6760.subR [0, 1, 2]).sub [] (by decide), hx6771.symm⟩, trivial⟩
  rintro y6778 w6780 ⟨⟨hS6781, hq6779⟩, hF6782⟩
  subst hq6779
  refine seg 19 [] [145] [(145, (.bool x6770))] [] (fun fb => by kernel_rfl) rfl trivial ?_
  obtain ⟨x6789, hx6790, hf⟩ := bind_some hf
  refine WL.cutW (T := Bool) 21 (fun t => [(147, (.bool t))]) (fun t w1 => (St NoS w w1 [rowR enc_Action A_p0_Actions c_p0_Actions p0.Actions, rowR encInt A_p1_Cells c_p1_Cells p1.Cells, rowR encInt A_p2 c_p2 p2] [] ∧ x6789 = t) ∧ CellsOK [] w1) (fun K => ?_) ?_
  ·
    rcases br_some hx6790 with ⟨h6791, hx6790⟩ | ⟨h6791, hx6790⟩
    ·
      refine WL.setB 145 h6791 rfl ?_
      obtain ⟨t6792, ht6793, hx6790⟩ := bind_some hx6790
      refine WL.call (some 146) 11 #[] (fun fb => by kernel_rfl) (law08_awake_calls _ t6792 _ ht6793) (fun v w6794 hR6795 => ?_)
      obtain ⟨rfl, hk_⟩ := hR6795
      have hS6796 := hS6781.keepN hk_
      refine ⟨trivial, ?_⟩
      refine seg 21 [] [147] [(147, (.bool t6792))] [] (fun fb => by kernel_rfl) rfl trivial ?_
      injection hx6790 with hx6790
      exact WL.to K t6792 [147] rfl ⟨⟨(hS6796.subR [0, 1, 2]).sub [] (by decide), hx6790.symm⟩, trivial⟩
    refine WL.setB 145 h6791 rfl ?_
    refine seg 21 [] [147] [(147, (.bool false))] [] (fun fb => by kernel_rfl) rfl trivial ?_
    injection hx6790 with hx6790
    exact WL.to K false [147] rfl ⟨⟨(hS6781.subR [0, 1, 2]).sub [] (by decide), hx6790.symm⟩, trivial⟩
  rintro y6797 w6799 ⟨⟨hS6800, hq6798⟩, hF6801⟩
  subst hq6798
  refine seg 22 [] [6] [(6, (.bool x6789))] [] (fun fb => by kernel_rfl) rfl trivial ?_
  refine WL.done rfl ?_
  refine WX.next ?_
  refine WC.ret ?_
  injection hf with hf
  subst hf
  exact WX.ret_ [] (.bool x6789) [] (fun fb => by kernel_rfl) trivial ⟨_, rfl, rfl, hS6800.keep⟩
end Gp
