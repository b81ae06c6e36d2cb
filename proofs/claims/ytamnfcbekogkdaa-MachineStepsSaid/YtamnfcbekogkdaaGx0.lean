/- Walks: each function of the program computes its plain function. -/
import Derived.Test.YtamnfcbekogkdaaGp
set_option linter.unusedVariables false
set_option linter.unusedSimpArgs false
namespace Gp
open Go Gw Go.Proofs
theorem law08_wide_calls (p0 : Machine) (p1 : Config) (A_p0_Actions : Option Addr) (c_p0_Actions : Nat) (A_p1_Cells : Option Addr) (c_p1_Cells : Nat) (r : Bool) (w : World) (hR0 : RO NoS w (rowR enc_Action A_p0_Actions c_p0_Actions p0.Actions)) (hR1 : RO NoS w (rowR encInt A_p1_Cells c_p1_Cells p1.Cells)) (hf : law08_wide p0 p1 = some r) :
    CallsR Try.prog 10 #[(.agg #[(.int .i64 p0.States), (.int .i64 p0.Symbols), (.slice A_p0_Actions p0.Actions.length c_p0_Actions)]), (.agg #[(.int .i64 p1.State), (.int .i64 p1.At), (.slice A_p1_Cells p1.Cells.length c_p1_Cells)])] w (fun v w' => v = (.bool r) ∧ Keeps NoS w w') := by
  have hS : St NoS w w [rowR enc_Action A_p0_Actions c_p0_Actions p0.Actions, rowR encInt A_p1_Cells c_p1_Cells p1.Cells] [] := St.init (ro_cons hR0 (ro_cons hR1 (ro_nil _ _)))
  refine enter 15 Try.func10 rfl Try.ntmps10 rfl ?_
  unfold law08_wide at hf
  refine WC.seq ?_
  refine WC.region ?_
  refine WL.new hS 2 [] (fun g => (.pointer (some ⟨g, 0, none⟩))) (.cells #[(.int .i64 p0.States), (.int .i64 p0.Symbols), (.slice A_p0_Actions p0.Actions.length c_p0_Actions)] 24 (0, 0)) [] (fun fb g => by kernel_rfl) trivial (fun g9 w10 hS11 => ?_)
  refine ⟨trivial, ?_⟩
  refine WL.new hS11 3 [] (fun g => (.pointer (some ⟨g, 0, none⟩))) (.cells #[(.int .i64 p1.State), (.int .i64 p1.At), (.slice A_p1_Cells p1.Cells.length c_p1_Cells)] 27 (0, 0)) [] (fun fb g => by kernel_rfl) trivial (fun g13 w14 hS15 => ?_)
  refine ⟨trivial, ?_⟩
  refine seg 3 [] [2, 3] [(2, (.pointer (some ⟨g9, 0, none⟩))), (3, (.pointer (some ⟨g13, 0, none⟩)))] [] (fun fb => by kernel_rfl) rfl trivial ?_
  refine WL.done rfl ?_
  refine WX.next ?_
  refine WC.seq ?_
  refine WC.region ?_
  refine seg 5 [.v (.slice A_p0_Actions p0.Actions.length c_p0_Actions)] [3, 9] [(3, (.pointer (some ⟨g13, 0, none⟩))), (9, (.bool (decide ((p0.Actions.length : Int) > 200))))] [.cell ⟨g9, 2, none⟩ (.slice A_p0_Actions p0.Actions.length c_p0_Actions)] (fun fb => by kernel_rfl) rfl ⟨hS15.cell 1 rfl 2 rfl, trivial⟩ ?_
  refine WL.cutV (T := Bool) 10 (fun t => [(14, (.bool t))]) (fun t => t = ((decide ((p0.Actions.length : Int) > 200)) || (decide ((p1.Cells.length : Int) > 1000)))) (fun K => ?_) ?_
  ·
    rcases Bool.eq_false_or_eq_true (decide ((p0.Actions.length : Int) > 200)) with h17 | h17
    ·
      refine WL.setB 9 h17 rfl ?_
      refine seg 10 [] [14] [(14, (.bool true))] [] (fun fb => by kernel_rfl) rfl trivial ?_
      exact WL.toV K true [14] rfl (by rw [h17]; rfl)
    refine WL.setB 9 h17 rfl ?_
    refine seg 10 [.v (.slice A_p1_Cells p1.Cells.length c_p1_Cells)] [14] [(14, (.bool (decide ((p1.Cells.length : Int) > 1000))))] [.cell ⟨g13, 2, none⟩ (.slice A_p1_Cells p1.Cells.length c_p1_Cells)] (fun fb => by kernel_rfl) rfl ⟨hS15.cell 0 rfl 2 rfl, trivial⟩ ?_
    exact WL.toV K (decide ((p1.Cells.length : Int) > 1000)) [14] rfl (by rw [h17]; rfl)
  rintro b18 rfl
  refine seg 11 [] [4] [(4, (.bool ((decide ((p0.Actions.length : Int) > 200)) || (decide ((p1.Cells.length : Int) > 1000)))))] [] (fun fb => by kernel_rfl) rfl trivial ?_
  refine WL.done rfl ?_
  refine WX.next ?_
  refine WC.ret ?_
  injection hf with hf
  subst hf
  exact WX.ret_ [] (.bool ((decide ((p0.Actions.length : Int) > 200)) || (decide ((p1.Cells.length : Int) > 1000)))) [] (fun fb => by kernel_rfl) trivial ⟨_, rfl, rfl, hS15.keep⟩
theorem law08_goes_calls   (r : Machine) (w : World)  (hf : law08_goes = some r) :
    CallsR Try.prog 40 #[] w (fun v w' => ∃ (A1_ : Option Addr), ∃ (c1_ : Nat), v = (.agg #[(.int .i64 r.States), (.int .i64 r.Symbols), (.slice A1_ r.Actions.length c1_)]) ∧ St NoS w w' [] [rowO 88 enc_Action A1_ c1_ r.Actions]) := by
  have hS : St NoS w w [] [] := St.init (ro_nil _ _)
  refine enter 5 Try.func40 rfl Try.ntmps40 rfl ?_
  unfold law08_goes at hf
  refine WC.seq ?_
  refine WC.region ?_
  refine WL.new hS 0 [] (fun g => (.pointer (some ⟨g, 0, none⟩))) (.cells #[(.int .i64 0), (.int .i64 0), (.slice none 0 0)] 24 (0, 0)) [] (fun fb g => by kernel_rfl) trivial (fun g31 w32 hS33 => ?_)
  refine ⟨trivial, ?_⟩
  refine WL.done rfl ?_
  refine WX.next ?_
  refine WC.seq ?_
  refine WC.region ?_
  refine seg 2 [] [0, 1, 2] [(0, (.pointer (some ⟨g31, 0, none⟩))), (1, (.agg #[(.int .i64 1), (.int .i64 1), (.int .i64 0)])), (2, (.agg #[(.int .i64 1), (.int .i64 1), (.int .i64 0)]))] [] (fun fb => by kernel_rfl) rfl trivial ?_
  refine WL.new hS33 3 [] (fun g => (.slice (some ⟨g, 0, none⟩) 2 2)) (.cells #[(.int .i64 1), (.int .i64 1), (.int .i64 0), (.int .i64 1), (.int .i64 1), (.int .i64 0)] 88 (0, 0)) [] (fun fb g => by kernel_rfl) trivial (fun g35 w36 hS37 => ?_)
  refine ⟨trivial, ?_⟩
  have hS39 : St NoS w w36 [] [rowO 88 enc_Action (some ⟨g35, 0, none⟩) 2 [(Action.mk 1 1 0), (Action.mk 1 1 0)], blk g31 (.cells #[(.int .i64 0), (.int .i64 0), (.slice none 0 0)] 24 (0, 0))] := hS37.map1 0 _ (fun h => rowO.ofBlk h rfl (Nat.le_of_ble_eq_true (by kernel_rfl))) (fun _ h => by obtain ⟨_, h1, h2⟩ := h; injection h1 with h1; subst h1; exact h2) [1] (by decide) (by decide)
  refine seg 4 [] [0, 4] [(0, (.pointer (some ⟨g31, 0, none⟩))), (4, (.agg #[(.int .i64 1), (.int .i64 2), (.slice (some ⟨g35, 0, none⟩) [(Action.mk 1 1 0), (Action.mk 1 1 0)].length 2)]))] [] (fun fb => by kernel_rfl) rfl trivial ?_
  refine WL.store hS39 1 rfl [(0, (.int .i64 1)), (1, (.int .i64 2)), (2, (.slice (some ⟨g35, 0, none⟩) [(Action.mk 1 1 0), (Action.mk 1 1 0)].length 2))] #[(.int .i64 1), (.int .i64 2), (.slice (some ⟨g35, 0, none⟩) [(Action.mk 1 1 0), (Action.mk 1 1 0)].length 2)] (fun fb => by kernel_rfl) (by kernel_rfl) rfl [0] (by decide) (by decide) (fun w40 hS41 => ?_)
  refine ⟨trivial, ?_⟩
  refine WL.done rfl ?_
  refine WX.next ?_
  refine WC.ret ?_
  injection hf with hf
  subst hf
  exact WX.ret_ [.v (.int .i64 1), .v (.int .i64 2), .v (.slice (some ⟨g35, 0, none⟩) [(Action.mk 1 1 0), (Action.mk 1 1 0)].length 2)] (.agg #[(.int .i64 1), (.int .i64 2), (.slice (some ⟨g35, 0, none⟩) [(Action.mk 1 1 0), (Action.mk 1 1 0)].length 2)]) [.cell ⟨g31, 0, none⟩ (.int .i64 1), .cell ⟨g31, 1, none⟩ (.int .i64 2), .cell ⟨g31, 2, none⟩ (.slice (some ⟨g35, 0, none⟩) [(Action.mk 1 1 0), (Action.mk 1 1 0)].length 2)] (fun fb => by kernel_rfl) ⟨hS41.cell 0 rfl 0 rfl, hS41.cell 0 rfl 1 rfl, hS41.cell 0 rfl 2 rfl, trivial⟩ ⟨_, rfl, (some ⟨g35, 0, none⟩), 2, rfl, (hS41.sub [1] (by decide)).noR⟩
theorem machine_action_calls (p0 : Machine) (p1 : Action) (A_p0_Actions : Option Addr) (c_p0_Actions : Nat) (r : Bool) (w : World) (hR0 : RO NoS w (rowR enc_Action A_p0_Actions c_p0_Actions p0.Actions)) (hf : machine_action p0 p1 = some r) :
    CallsR Try.prog 48 #[(.agg #[(.int .i64 p0.States), (.int .i64 p0.Symbols), (.slice A_p0_Actions p0.Actions.length c_p0_Actions)]), (.agg #[(.int .i64 p1.Write), (.int .i64 p1.Move), (.int .i64 p1.Next)])] w (fun v w' => v = (.bool r) ∧ Keeps NoS w w') := by
  have hS : St NoS w w [rowR enc_Action A_p0_Actions c_p0_Actions p0.Actions] [] := St.init (ro_cons hR0 (ro_nil _ _))
  refine enter 50 Try.func48 rfl Try.ntmps48 rfl ?_
  unfold machine_action at hf
  refine WC.seq ?_
  refine WC.region ?_
  refine WL.new hS 2 [] (fun g => (.pointer (some ⟨g, 0, none⟩))) (.cells #[(.int .i64 p0.States), (.int .i64 p0.Symbols), (.slice A_p0_Actions p0.Actions.length c_p0_Actions)] 24 (0, 0)) [] (fun fb g => by kernel_rfl) trivial (fun g71 w72 hS73 => ?_)
  refine ⟨trivial, ?_⟩
  refine WL.new hS73 3 [] (fun g => (.pointer (some ⟨g, 0, none⟩))) (.cells #[(.int .i64 p1.Write), (.int .i64 p1.Move), (.int .i64 p1.Next)] 88 (0, 0)) [] (fun fb g => by kernel_rfl) trivial (fun g75 w76 hS77 => ?_)
  refine ⟨trivial, ?_⟩
  refine seg 3 [] [2, 3] [(2, (.pointer (some ⟨g71, 0, none⟩))), (3, (.pointer (some ⟨g75, 0, none⟩)))] [] (fun fb => by kernel_rfl) rfl trivial ?_
  refine WL.done rfl ?_
  refine WX.next ?_
  refine WC.seq ?_
  refine WC.seq ?_
  refine WC.region ?_
  refine seg 5 [.v (.int .i64 p1.Next), .v (.int .i64 p0.States)] [2, 3, 9] [(2, (.pointer (some ⟨g71, 0, none⟩))), (3, (.pointer (some ⟨g75, 0, none⟩))), (9, (.bool (p1.Next == p0.States)))] [.cell ⟨g75, 2, none⟩ (.int .i64 p1.Next), .cell ⟨g71, 0, none⟩ (.int .i64 p0.States)] (fun fb => by kernel_rfl) rfl ⟨hS77.cell 0 rfl 2 rfl, hS77.cell 1 rfl 0 rfl, trivial⟩ ?_
  refine WL.done rfl ?_
  refine WX.next ?_
  rcases br_some hf with ⟨h79, hf⟩ | ⟨h79, hf⟩
  · refine WC.condT2 (fun fb => by kernel_rfl) h79 ?_
    refine WC.seq ?_
    refine WC.region ?_
    refine seg 4 [.v (.int .i64 p1.Write)] [3, 13] [(3, (.pointer (some ⟨g75, 0, none⟩))), (13, (.bool (p1.Write == 0)))] [.cell ⟨g75, 0, none⟩ (.int .i64 p1.Write)] (fun fb => by kernel_rfl) rfl ⟨hS77.cell 0 rfl 0 rfl, trivial⟩ ?_
    refine WL.cutV (T := Bool) 8 (fun t => [(17, (.bool t))]) (fun t => t = ((p1.Write == 0) && (p1.Move == 0))) (fun K => ?_) ?_
    ·
      rcases Bool.eq_false_or_eq_true (p1.Write == 0) with h80 | h80
      ·
        refine WL.setB 13 h80 rfl ?_
        refine seg 8 [.v (.int .i64 p1.Move)] [17] [(17, (.bool (p1.Move == 0)))] [.cell ⟨g75, 1, none⟩ (.int .i64 p1.Move)] (fun fb => by kernel_rfl) rfl ⟨hS77.cell 0 rfl 1 rfl, trivial⟩ ?_
        exact WL.toV K (p1.Move == 0) [17] rfl (by rw [h80]; rfl)
      refine WL.setB 13 h80 rfl ?_
      refine seg 8 [] [17] [(17, (.bool false))] [] (fun fb => by kernel_rfl) rfl trivial ?_
      exact WL.toV K false [17] rfl (by rw [h80]; rfl)
    rintro b81 rfl
    refine seg 9 [] [4] [(4, (.bool ((p1.Write == 0) && (p1.Move == 0))))] [] (fun fb => by kernel_rfl) rfl trivial ?_
    refine WL.done rfl ?_
    refine WX.next ?_
    refine WC.ret ?_
    injection hf with hf
    subst hf
    exact WX.thenR (WX.ret_ [] (.bool ((p1.Write == 0) && (p1.Move == 0))) [] (fun fb => by kernel_rfl) trivial ⟨_, rfl, rfl, hS77.keep⟩)
  refine WC.condF2 (fun fb => by kernel_rfl) h79 ?_
  refine WC.skip ?_
  refine WX.next ?_
  refine WC.seq ?_
  refine WC.region ?_
  refine seg 4 [.v (.int .i64 p1.Write)] [2, 3, 21] [(2, (.pointer (some ⟨g71, 0, none⟩))), (3, (.pointer (some ⟨g75, 0, none⟩))), (21, (.bool (decide (p1.Write ≥ 0))))] [.cell ⟨g75, 0, none⟩ (.int .i64 p1.Write)] (fun fb => by kernel_rfl) rfl ⟨hS77.cell 0 rfl 0 rfl, trivial⟩ ?_
  refine WL.cutV (T := Bool) 10 (fun t => [(27, (.bool t)), (2, (.pointer (some ⟨g71, 0, none⟩))), (3, (.pointer (some ⟨g75, 0, none⟩)))]) (fun t => t = ((decide (p1.Write ≥ 0)) && (decide (p1.Write < p0.Symbols)))) (fun K => ?_) ?_
  ·
    rcases Bool.eq_false_or_eq_true (decide (p1.Write ≥ 0)) with h82 | h82
    ·
      refine WL.setB 21 h82 rfl ?_
      refine seg 10 [.v (.int .i64 p1.Write), .v (.int .i64 p0.Symbols)] [2, 3, 27] [(2, (.pointer (some ⟨g71, 0, none⟩))), (3, (.pointer (some ⟨g75, 0, none⟩))), (27, (.bool (decide (p1.Write < p0.Symbols))))] [.cell ⟨g75, 0, none⟩ (.int .i64 p1.Write), .cell ⟨g71, 1, none⟩ (.int .i64 p0.Symbols)] (fun fb => by kernel_rfl) rfl ⟨hS77.cell 0 rfl 0 rfl, hS77.cell 1 rfl 1 rfl, trivial⟩ ?_
      exact WL.toV K (decide (p1.Write < p0.Symbols)) [27, 2, 3] rfl (by rw [h82]; rfl)
    refine WL.setB 21 h82 rfl ?_
    refine seg 10 [] [2, 3, 27] [(2, (.pointer (some ⟨g71, 0, none⟩))), (3, (.pointer (some ⟨g75, 0, none⟩))), (27, (.bool false))] [] (fun fb => by kernel_rfl) rfl trivial ?_
    exact WL.toV K false [27, 2, 3] rfl (by rw [h82]; rfl)
  rintro b83 rfl
  refine seg 11 [] [2, 3, 28] [(2, (.pointer (some ⟨g71, 0, none⟩))), (3, (.pointer (some ⟨g75, 0, none⟩))), (28, (.bool ((decide (p1.Write ≥ 0)) && (decide (p1.Write < p0.Symbols)))))] [] (fun fb => by kernel_rfl) rfl trivial ?_
  refine WL.cutV (T := Bool) 15 (fun t => [(32, (.bool t)), (2, (.pointer (some ⟨g71, 0, none⟩))), (3, (.pointer (some ⟨g75, 0, none⟩)))]) (fun t => t = (((decide (p1.Write ≥ 0)) && (decide (p1.Write < p0.Symbols))) && (decide (p1.Move ≥ 0)))) (fun K => ?_) ?_
  ·
    rcases Bool.eq_false_or_eq_true ((decide (p1.Write ≥ 0)) && (decide (p1.Write < p0.Symbols))) with h84 | h84
    ·
      refine WL.setB 28 h84 rfl ?_
      refine seg 15 [.v (.int .i64 p1.Move)] [2, 3, 32] [(2, (.pointer (some ⟨g71, 0, none⟩))), (3, (.pointer (some ⟨g75, 0, none⟩))), (32, (.bool (decide (p1.Move ≥ 0))))] [.cell ⟨g75, 1, none⟩ (.int .i64 p1.Move)] (fun fb => by kernel_rfl) rfl ⟨hS77.cell 0 rfl 1 rfl, trivial⟩ ?_
      exact WL.toV K (decide (p1.Move ≥ 0)) [32, 2, 3] rfl (by rw [h84]; rfl)
    refine WL.setB 28 h84 rfl ?_
    refine seg 15 [] [2, 3, 32] [(2, (.pointer (some ⟨g71, 0, none⟩))), (3, (.pointer (some ⟨g75, 0, none⟩))), (32, (.bool false))] [] (fun fb => by kernel_rfl) rfl trivial ?_
    exact WL.toV K false [32, 2, 3] rfl (by rw [h84]; rfl)
  rintro b85 rfl
  refine seg 16 [] [2, 3, 33] [(2, (.pointer (some ⟨g71, 0, none⟩))), (3, (.pointer (some ⟨g75, 0, none⟩))), (33, (.bool (((decide (p1.Write ≥ 0)) && (decide (p1.Write < p0.Symbols))) && (decide (p1.Move ≥ 0)))))] [] (fun fb => by kernel_rfl) rfl trivial ?_
  refine WL.cutV (T := Bool) 20 (fun t => [(37, (.bool t)), (2, (.pointer (some ⟨g71, 0, none⟩))), (3, (.pointer (some ⟨g75, 0, none⟩)))]) (fun t => t = ((((decide (p1.Write ≥ 0)) && (decide (p1.Write < p0.Symbols))) && (decide (p1.Move ≥ 0))) && (decide (p1.Move < 2)))) (fun K => ?_) ?_
  ·
    rcases Bool.eq_false_or_eq_true (((decide (p1.Write ≥ 0)) && (decide (p1.Write < p0.Symbols))) && (decide (p1.Move ≥ 0))) with h86 | h86
    ·
      refine WL.setB 33 h86 rfl ?_
      refine seg 20 [.v (.int .i64 p1.Move)] [2, 3, 37] [(2, (.pointer (some ⟨g71, 0, none⟩))), (3, (.pointer (some ⟨g75, 0, none⟩))), (37, (.bool (decide (p1.Move < 2))))] [.cell ⟨g75, 1, none⟩ (.int .i64 p1.Move)] (fun fb => by kernel_rfl) rfl ⟨hS77.cell 0 rfl 1 rfl, trivial⟩ ?_
      exact WL.toV K (decide (p1.Move < 2)) [37, 2, 3] rfl (by rw [h86]; rfl)
    refine WL.setB 33 h86 rfl ?_
    refine seg 20 [] [2, 3, 37] [(2, (.pointer (some ⟨g71, 0, none⟩))), (3, (.pointer (some ⟨g75, 0, none⟩))), (37, (.bool false))] [] (fun fb => by kernel_rfl) rfl trivial ?_
    exact WL.toV K false [37, 2, 3] rfl (by rw [h86]; rfl)
  rintro b87 rfl
  refine seg 21 [] [2, 3, 38] [(2, (.pointer (some ⟨g71, 0, none⟩))), (3, (.pointer (some ⟨g75, 0, none⟩))), (38, (.bool ((((decide (p1.Write ≥ 0)) && (decide (p1.Write < p0.Symbols))) && (decide (p1.Move ≥ 0))) && (decide (p1.Move < 2)))))] [] (fun fb => by kernel_rfl) rfl trivial ?_
  refine WL.cutV (T := Bool) 25 (fun t => [(42, (.bool t)), (2, (.pointer (some ⟨g71, 0, none⟩))), (3, (.pointer (some ⟨g75, 0, none⟩)))]) (fun t => t = (((((decide (p1.Write ≥ 0)) && (decide (p1.Write < p0.Symbols))) && (decide (p1.Move ≥ 0))) && (decide (p1.Move < 2))) && (decide (p1.Next ≥ 0)))) (fun K => ?_) ?_
  ·
    rcases Bool.eq_false_or_eq_true ((((decide (p1.Write ≥ 0)) && (decide (p1.Write < p0.Symbols))) && (decide (p1.Move ≥ 0))) && (decide (p1.Move < 2))) with h88 | h88
    ·
      refine WL.setB 38 h88 rfl ?_
      refine seg 25 [.v (.int .i64 p1.Next)] [2, 3, 42] [(2, (.pointer (some ⟨g71, 0, none⟩))), (3, (.pointer (some ⟨g75, 0, none⟩))), (42, (.bool (decide (p1.Next ≥ 0))))] [.cell ⟨g75, 2, none⟩ (.int .i64 p1.Next)] (fun fb => by kernel_rfl) rfl ⟨hS77.cell 0 rfl 2 rfl, trivial⟩ ?_
      exact WL.toV K (decide (p1.Next ≥ 0)) [42, 2, 3] rfl (by rw [h88]; rfl)
    refine WL.setB 38 h88 rfl ?_
    refine seg 25 [] [2, 3, 42] [(2, (.pointer (some ⟨g71, 0, none⟩))), (3, (.pointer (some ⟨g75, 0, none⟩))), (42, (.bool false))] [] (fun fb => by kernel_rfl) rfl trivial ?_
    exact WL.toV K false [42, 2, 3] rfl (by rw [h88]; rfl)
  rintro b89 rfl
  refine seg 26 [] [2, 3, 43] [(2, (.pointer (some ⟨g71, 0, none⟩))), (3, (.pointer (some ⟨g75, 0, none⟩))), (43, (.bool (((((decide (p1.Write ≥ 0)) && (decide (p1.Write < p0.Symbols))) && (decide (p1.Move ≥ 0))) && (decide (p1.Move < 2))) && (decide (p1.Next ≥ 0)))))] [] (fun fb => by kernel_rfl) rfl trivial ?_
  refine WL.cutV (T := Bool) 32 (fun t => [(49, (.bool t))]) (fun t => t = ((((((decide (p1.Write ≥ 0)) && (decide (p1.Write < p0.Symbols))) && (decide (p1.Move ≥ 0))) && (decide (p1.Move < 2))) && (decide (p1.Next ≥ 0))) && (decide (p1.Next < p0.States)))) (fun K => ?_) ?_
  ·
    rcases Bool.eq_false_or_eq_true (((((decide (p1.Write ≥ 0)) && (decide (p1.Write < p0.Symbols))) && (decide (p1.Move ≥ 0))) && (decide (p1.Move < 2))) && (decide (p1.Next ≥ 0))) with h90 | h90
    ·
      refine WL.setB 43 h90 rfl ?_
      refine seg 32 [.v (.int .i64 p1.Next), .v (.int .i64 p0.States)] [49] [(49, (.bool (decide (p1.Next < p0.States))))] [.cell ⟨g75, 2, none⟩ (.int .i64 p1.Next), .cell ⟨g71, 0, none⟩ (.int .i64 p0.States)] (fun fb => by kernel_rfl) rfl ⟨hS77.cell 0 rfl 2 rfl, hS77.cell 1 rfl 0 rfl, trivial⟩ ?_
      exact WL.toV K (decide (p1.Next < p0.States)) [49] rfl (by rw [h90]; rfl)
    refine WL.setB 43 h90 rfl ?_
    refine seg 32 [] [49] [(49, (.bool false))] [] (fun fb => by kernel_rfl) rfl trivial ?_
    exact WL.toV K false [49] rfl (by rw [h90]; rfl)
  rintro b91 rfl
  refine seg 33 [] [4] [(4, (.bool ((((((decide (p1.Write ≥ 0)) && (decide (p1.Write < p0.Symbols))) && (decide (p1.Move ≥ 0))) && (decide (p1.Move < 2))) && (decide (p1.Next ≥ 0))) && (decide (p1.Next < p0.States)))))] [] (fun fb => by kernel_rfl) rfl trivial ?_
  refine WL.done rfl ?_
  refine WX.next ?_
  refine WC.ret ?_
  injection hf with hf
  subst hf
  exact WX.ret_ [] (.bool ((((((decide (p1.Write ≥ 0)) && (decide (p1.Write < p0.Symbols))) && (decide (p1.Move ≥ 0))) && (decide (p1.Move < 2))) && (decide (p1.Next ≥ 0))) && (decide (p1.Next < p0.States)))) [] (fun fb => by kernel_rfl) trivial ⟨_, rfl, rfl, hS77.keep⟩
theorem machine_Valid_1_calls (p0 : Action) (f0 : Machine) (g_f0 : Nat) (A_f0_Actions : Option Addr) (c_f0_Actions : Nat) (r : Bool) (w : World) (hR0 : RO NoS w (blk g_f0 (.cells #[(.int .i64 f0.States), (.int .i64 f0.Symbols), (.slice A_f0_Actions f0.Actions.length c_f0_Actions)] 24 (0, 0)))) (hR1 : RO NoS w (rowR enc_Action A_f0_Actions c_f0_Actions f0.Actions)) (hf : machine_Valid_1 p0 f0 = some r) :
    CallsR Try.prog 47 #[(.agg #[(.int .i64 p0.Write), (.int .i64 p0.Move), (.int .i64 p0.Next)]), (.pointer (some ⟨g_f0, 0, none⟩))] w (fun v w' => v = (.bool r) ∧ Keeps NoS w w') := by
  have hS : St NoS w w [blk g_f0 (.cells #[(.int .i64 f0.States), (.int .i64 f0.Symbols), (.slice A_f0_Actions f0.Actions.length c_f0_Actions)] 24 (0, 0)), rowR enc_Action A_f0_Actions c_f0_Actions f0.Actions] [] := St.init (ro_cons hR0 (ro_cons hR1 (ro_nil _ _)))
  refine enter 8 Try.func47 rfl Try.ntmps47 rfl ?_
  unfold machine_Valid_1 at hf
  refine WC.seq ?_
  refine WC.region ?_
  refine WL.new hS 2 [] (fun g => (.pointer (some ⟨g, 0, none⟩))) (.cells #[(.int .i64 p0.Write), (.int .i64 p0.Move), (.int .i64 p0.Next)] 88 (0, 0)) [] (fun fb g => by kernel_rfl) trivial (fun g67 w68 hS69 => ?_)
  refine ⟨trivial, ?_⟩
  refine seg 2 [] [1, 2] [(1, (.pointer (some ⟨g_f0, 0, none⟩))), (2, (.pointer (some ⟨g67, 0, none⟩)))] [] (fun fb => by kernel_rfl) rfl trivial ?_
  refine WL.done rfl ?_
  refine WX.next ?_
  refine WC.seq ?_
  refine WC.region ?_
  refine seg 2 [.v (.int .i64 f0.States), .v (.int .i64 f0.Symbols), .v (.slice A_f0_Actions f0.Actions.length c_f0_Actions), .v (.int .i64 p0.Write), .v (.int .i64 p0.Move), .v (.int .i64 p0.Next)] [4, 5] [(4, (.agg #[(.int .i64 f0.States), (.int .i64 f0.Symbols), (.slice A_f0_Actions f0.Actions.length c_f0_Actions)])), (5, (.agg #[(.int .i64 p0.Write), (.int .i64 p0.Move), (.int .i64 p0.Next)]))] [.cell ⟨g_f0, 0, none⟩ (.int .i64 f0.States), .cell ⟨g_f0, 1, none⟩ (.int .i64 f0.Symbols), .cell ⟨g_f0, 2, none⟩ (.slice A_f0_Actions f0.Actions.length c_f0_Actions), .cell ⟨g67, 0, none⟩ (.int .i64 p0.Write), .cell ⟨g67, 1, none⟩ (.int .i64 p0.Move), .cell ⟨g67, 2, none⟩ (.int .i64 p0.Next)] (fun fb => by kernel_rfl) rfl ⟨blk_cell (hS69.rd 0).1 0 rfl, blk_cell (hS69.rd 0).1 1 rfl, blk_cell (hS69.rd 0).1 2 rfl, hS69.cell 0 rfl 0 rfl, hS69.cell 0 rfl 1 rfl, hS69.cell 0 rfl 2 rfl, trivial⟩ ?_
  obtain ⟨t92, ht93, hf⟩ := bind_some hf
  refine WL.call (some 6) 48 #[(.agg #[(.int .i64 f0.States), (.int .i64 f0.Symbols), (.slice A_f0_Actions f0.Actions.length c_f0_Actions)]), (.agg #[(.int .i64 p0.Write), (.int .i64 p0.Move), (.int .i64 p0.Next)])] (fun fb => by kernel_rfl) (machine_action_calls f0 p0 A_f0_Actions c_f0_Actions t92 _ (hS69.rd 1) ht93) (fun v w94 hR95 => ?_)
  obtain ⟨rfl, hk_⟩ := hR95
  have hS96 := hS69.keepN hk_
  refine ⟨trivial, ?_⟩
  refine seg 5 [] [3] [(3, (.bool (!t92)))] [] (fun fb => by kernel_rfl) rfl trivial ?_
  refine WL.done rfl ?_
  refine WX.next ?_
  refine WC.ret ?_
  injection hf with hf
  subst hf
  exact WX.ret_ [] (.bool (!t92)) [] (fun fb => by kernel_rfl) trivial ⟨_, rfl, rfl, hS96.keep⟩
theorem slices_IndexFunc_api_Action_api_Action_with_machine_Valid_1_calls (k : Nat) (p0 : List Action) (p1_0 : Machine) (A_p0 : Option Addr) (c_p0 : Nat) (g_p1_0 : Nat) (A_p1_0_Actions : Option Addr) (c_p1_0_Actions : Nat) (r : Int) (w : World) (hR0 : RO NoS w (rowR enc_Action A_p0 c_p0 p0)) (hR1 : RO NoS w (blk g_p1_0 (.cells #[(.int .i64 p1_0.States), (.int .i64 p1_0.Symbols), (.slice A_p1_0_Actions p1_0.Actions.length c_p1_0_Actions)] 24 (0, 0)))) (hR2 : RO NoS w (rowR enc_Action A_p1_0_Actions c_p1_0_Actions p1_0.Actions)) (hf : slices_IndexFunc_api_Action_api_Action_with_machine_Valid_1 k p0 p1_0 = some r) :
    CallsR Try.prog 64 #[(.slice A_p0 p0.length c_p0), (.func (.func 47) #[] #[(.pointer (some ⟨g_p1_0, 0, none⟩))])] w (fun v w' => v = (.int .i64 r) ∧ Keeps NoS w w') := by
  have hS : St NoS w w [rowR enc_Action A_p0 c_p0 p0, blk g_p1_0 (.cells #[(.int .i64 p1_0.States), (.int .i64 p1_0.Symbols), (.slice A_p1_0_Actions p1_0.Actions.length c_p1_0_Actions)] 24 (0, 0)), rowR enc_Action A_p1_0_Actions c_p1_0_Actions p1_0.Actions] [] := St.init (ro_cons hR0 (ro_cons hR1 (ro_cons hR2 (ro_nil _ _))))
  refine enter 19 Try.func64 rfl Try.ntmps64 rfl ?_
  unfold slices_IndexFunc_api_Action_api_Action_with_machine_Valid_1 at hf
  refine WC.seq ?_
  refine WC.region ?_
  refine seg 1 [] [0, 1] [(0, (.slice A_p0 p0.length c_p0)), (1, (.func (.func 47) #[] #[(.pointer (some ⟨g_p1_0, 0, none⟩))]))] [] (fun fb => by kernel_rfl) rfl trivial ?_
  refine WL.done rfl ?_
  refine WX.next ?_
  refine WC.seq ?_
  refine WC.seq ?_
  refine WC.region ?_
  refine seg 3 [] [0, 1, 7, 8] [(0, (.slice A_p0 p0.length c_p0)), (1, (.func (.func 47) #[] #[(.pointer (some ⟨g_p1_0, 0, none⟩))])), (7, (.int .i64 (p0.length : Int))), (8, (.int .i64 0))] [] (fun fb => by kernel_rfl) rfl trivial ?_
  refine WL.done rfl ?_
  refine WX.next ?_
  obtain ⟨x113, hx114, hf⟩ := bind_some hf
  refine WC.cutN (T := Unit) (fun t => []) (fun t w1 => St NoS w w1 [rowR enc_Action A_p0 c_p0 p0, blk g_p1_0 (.cells #[(.int .i64 p1_0.States), (.int .i64 p1_0.Symbols), (.slice A_p1_0_Actions p1_0.Actions.length c_p1_0_Actions)] 24 (0, 0)), rowR enc_Action A_p1_0_Actions c_p1_0_Actions p1_0.Actions] [] ∧ x113 = .inr t) (fun Kx113 => ?_) ?_
  ·
    refine WC.block ?_
    refine WC.loop (T := Int) (fun t => [(0, (.slice A_p0 p0.length c_p0)), (1, (.func (.func 47) #[] #[(.pointer (some ⟨g_p1_0, 0, none⟩))])), (7, (.int .i64 (p0.length : Int))), (8, (.int .i64 t))]) (fun n t w1 => St NoS w w1 [rowR enc_Action A_p0 c_p0 p0, blk g_p1_0 (.cells #[(.int .i64 p1_0.States), (.int .i64 p1_0.Symbols), (.slice A_p1_0_Actions p1_0.Actions.length c_p1_0_Actions)] 24 (0, 0)), rowR enc_Action A_p1_0_Actions c_p1_0_Actions p1_0.Actions] [] ∧ slices_IndexFunc_api_Action_api_Action_with_machine_Valid_1.l0 n t p0 p1_0 = some x113) k 0 [0, 1, 7, 8] rfl ⟨(hS.subR [0, 1, 2]).sub [] (by decide), hx114⟩ ?_
    rintro k115 x112 w116 ⟨hS117, hl118⟩
    cases k115 with
    | zero => rw [slices_IndexFunc_api_Action_api_Action_with_machine_Valid_1.l0] at hl118; cases hl118
    | succ k115 =>
      rw [slices_IndexFunc_api_Action_api_Action_with_machine_Valid_1.l0] at hl118
      refine WC.seq ?_
      refine WC.region ?_
      refine seg 1 [] [0, 1, 7, 8, 9] [(0, (.slice A_p0 p0.length c_p0)), (1, (.func (.func 47) #[] #[(.pointer (some ⟨g_p1_0, 0, none⟩))])), (7, (.int .i64 (p0.length : Int))), (8, (.int .i64 x112)), (9, (.bool (decide (x112 < (p0.length : Int)))))] [] (fun fb => by kernel_rfl) rfl trivial ?_
      refine WL.done rfl ?_
      refine WX.next ?_
      refine WC.seq ?_
      rcases br_some hl118 with ⟨h119, hl118⟩ | ⟨h119, hl118⟩
      · refine WC.condT2 (fun fb => by kernel_rfl) h119 ?_
        refine WC.skip ?_
        refine WX.next ?_
        refine WC.seq ?_
        refine WC.block ?_
        refine WC.seq ?_
        refine WC.region ?_
        refine seg 2 [] [0, 1, 5, 7, 8] [(0, (.slice A_p0 p0.length c_p0)), (1, (.func (.func 47) #[] #[(.pointer (some ⟨g_p1_0, 0, none⟩))])), (5, (.int .i64 x112)), (7, (.int .i64 (p0.length : Int))), (8, (.int .i64 x112))] [] (fun fb => by kernel_rfl) rfl trivial ?_
        refine WL.done rfl ?_
        refine WX.next ?_
        refine WC.seq ?_
        refine WC.region ?_
        refine seg 3 [] [0, 1, 5, 7, 8, 11, 12, 13] [(0, (.slice A_p0 p0.length c_p0)), (1, (.func (.func 47) #[] #[(.pointer (some ⟨g_p1_0, 0, none⟩))])), (5, (.int .i64 x112)), (7, (.int .i64 (p0.length : Int))), (8, (.int .i64 x112)), (11, (.func (.func 47) #[] #[(.pointer (some ⟨g_p1_0, 0, none⟩))])), (12, (.slice A_p0 p0.length c_p0)), (13, (.int .i64 x112))] [] (fun fb => by kernel_rfl) rfl trivial ?_
        obtain ⟨h120, hl118⟩ := as_some hl118
        refine seg 5 [.v (.int .i64 ((rdD p0 x112 z_Action).Write)), .v (.int .i64 ((rdD p0 x112 z_Action).Move)), .v (.int .i64 ((rdD p0 x112 z_Action).Next))] [0, 1, 5, 7, 8, 11, 15] [(0, (.slice A_p0 p0.length c_p0)), (1, (.func (.func 47) #[] #[(.pointer (some ⟨g_p1_0, 0, none⟩))])), (5, (.int .i64 x112)), (7, (.int .i64 (p0.length : Int))), (8, (.int .i64 x112)), (11, (.func (.func 47) #[] #[(.pointer (some ⟨g_p1_0, 0, none⟩))])), (15, (.agg #[(.int .i64 ((rdD p0 x112 z_Action).Write)), (.int .i64 ((rdD p0 x112 z_Action).Move)), (.int .i64 ((rdD p0 x112 z_Action).Next))]))] [.idx A_p0 x112 p0.length, .cell ((adr A_p0).add ((x112).toNat * 3)) (.int .i64 ((rdD p0 x112 z_Action).Write)), .cell (((adr A_p0).add ((x112).toNat * 3)).add 1) (.int .i64 ((rdD p0 x112 z_Action).Move)), .cell (((adr A_p0).add ((x112).toNat * 3)).add 2) (.int .i64 ((rdD p0 x112 z_Action).Next))] (fun fb => by kernel_rfl) rfl ⟨rowR.adr (hS117.rd 0).1 h120.1 h120.2, rowR.cell (hS117.rd 0).1 z_Action h120.1 h120.2 0 rfl, rowR.cell (hS117.rd 0).1 z_Action h120.1 h120.2 1 rfl, rowR.cell (hS117.rd 0).1 z_Action h120.1 h120.2 2 rfl, trivial⟩ ?_
        obtain ⟨t121, ht122, hl118⟩ := bind_some hl118
        refine WL.call (some 16) 47 #[(.agg #[(.int .i64 ((rdD p0 x112 z_Action).Write)), (.int .i64 ((rdD p0 x112 z_Action).Move)), (.int .i64 ((rdD p0 x112 z_Action).Next))]), (.pointer (some ⟨g_p1_0, 0, none⟩))] (fun fb => by kernel_rfl) (machine_Valid_1_calls (rdD p0 x112 z_Action) p1_0 g_p1_0 A_p1_0_Actions c_p1_0_Actions t121 _ (hS117.rd 1) (hS117.rd 2) ht122) (fun v w123 hR124 => ?_)
        obtain ⟨rfl, hk_⟩ := hR124
        have hS125 := hS117.keepN hk_
        refine ⟨trivial, ?_⟩
        refine WL.done rfl ?_
        refine WX.next ?_
        rcases br_some hl118 with ⟨h126, hl118⟩ | ⟨h126, hl118⟩
        · refine WC.condT2 (fun fb => by kernel_rfl) h126 ?_
          refine WC.seq ?_
          refine WC.region ?_
          refine seg 2 [] [4] [(4, (.int .i64 x112))] [] (fun fb => by kernel_rfl) rfl trivial ?_
          refine WL.done rfl ?_
          refine WX.next ?_
          refine WC.ret ?_
          injection hl118 with hl118
          subst hl118
          injection hf with hf
          subst hf
          exact WX.blockR (WX.thenR (WX.thenR (WX.blockR (WX.thenR (WX.ret_ [] (.int .i64 x112) [] (fun fb => by kernel_rfl) trivial ⟨_, rfl, rfl, hS125.keep⟩)))))
        refine WC.condF2 (fun fb => by kernel_rfl) h126 ?_
        refine WC.skip ?_
        refine WX.blockN (WX.next ?_)
        refine WC.region ?_
        refine seg 2 [] [0, 1, 7, 8] [(0, (.slice A_p0 p0.length c_p0)), (1, (.func (.func 47) #[] #[(.pointer (some ⟨g_p1_0, 0, none⟩))])), (7, (.int .i64 (p0.length : Int))), (8, (.int .i64 (w64 (x112 + 1))))] [] (fun fb => by kernel_rfl) rfl trivial ?_
        refine WL.done rfl ?_
        exact WX.again k115 (Nat.lt_succ_self _) (w64 (x112 + 1)) [0, 1, 7, 8] rfl ⟨(hS125.subR [0, 1, 2]).sub [] (by decide), hl118⟩
      refine WC.condF2 (fun fb => by kernel_rfl) h119 ?_
      refine WC.exit ?_
      injection hl118 with hl118
      exact WX.thenX (WX.thenX (WX.blockHere (WX.to Kx113 () [] rfl ⟨(hS117.subR [0, 1, 2]).sub [] (by decide), hl118.symm⟩)))
  rintro y130 w127 ⟨hS128, hq129⟩
  subst hq129
  have hf := sum_inr hf
  refine WX.next ?_
  refine WC.seq ?_
  refine WC.region ?_
  refine seg 1 [] [4] [(4, (.int .i64 (-1)))] [] (fun fb => by kernel_rfl) rfl trivial ?_
  refine WL.done rfl ?_
  refine WX.next ?_
  refine WC.ret ?_
  injection hf with hf
  subst hf
  exact WX.ret_ [] (.int .i64 (-1)) [] (fun fb => by kernel_rfl) trivial ⟨_, rfl, rfl, hS128.keep⟩
theorem slices_ContainsFunc_api_Action_api_Action_with_machine_Valid_1_calls (k : Nat) (p0 : List Action) (p1_0 : Machine) (A_p0 : Option Addr) (c_p0 : Nat) (g_p1_0 : Nat) (A_p1_0_Actions : Option Addr) (c_p1_0_Actions : Nat) (r : Bool) (w : World) (hR0 : RO NoS w (rowR enc_Action A_p0 c_p0 p0)) (hR1 : RO NoS w (blk g_p1_0 (.cells #[(.int .i64 p1_0.States), (.int .i64 p1_0.Symbols), (.slice A_p1_0_Actions p1_0.Actions.length c_p1_0_Actions)] 24 (0, 0)))) (hR2 : RO NoS w (rowR enc_Action A_p1_0_Actions c_p1_0_Actions p1_0.Actions)) (hf : slices_ContainsFunc_api_Action_api_Action_with_machine_Valid_1 k p0 p1_0 = some r) :
    CallsR Try.prog 46 #[(.slice A_p0 p0.length c_p0), (.func (.func 47) #[] #[(.pointer (some ⟨g_p1_0, 0, none⟩))])] w (fun v w' => v = (.bool r) ∧ Keeps NoS w w') := by
  have hS : St NoS w w [rowR enc_Action A_p0 c_p0 p0, blk g_p1_0 (.cells #[(.int .i64 p1_0.States), (.int .i64 p1_0.Symbols), (.slice A_p1_0_Actions p1_0.Actions.length c_p1_0_Actions)] 24 (0, 0)), rowR enc_Action A_p1_0_Actions c_p1_0_Actions p1_0.Actions] [] := St.init (ro_cons hR0 (ro_cons hR1 (ro_cons hR2 (ro_nil _ _))))
  refine enter 9 Try.func46 rfl Try.ntmps46 rfl ?_
  unfold slices_ContainsFunc_api_Action_api_Action_with_machine_Valid_1 at hf
  refine WC.seq ?_
  refine WC.region ?_
  refine seg 1 [] [0, 1] [(0, (.slice A_p0 p0.length c_p0)), (1, (.func (.func 47) #[] #[(.pointer (some ⟨g_p1_0, 0, none⟩))]))] [] (fun fb => by kernel_rfl) rfl trivial ?_
  refine WL.done rfl ?_
  refine WX.next ?_
  refine WC.seq ?_
  refine WC.region ?_
  refine seg 2 [] [5, 6] [(5, (.slice A_p0 p0.length c_p0)), (6, (.func (.func 47) #[] #[(.pointer (some ⟨g_p1_0, 0, none⟩))]))] [] (fun fb => by kernel_rfl) rfl trivial ?_
  obtain ⟨t132, ht133, hf⟩ := bind_some hf
  refine WL.call (some 7) 64 #[(.slice A_p0 p0.length c_p0), (.func (.func 47) #[] #[(.pointer (some ⟨g_p1_0, 0, none⟩))])] (fun fb => by kernel_rfl) (slices_IndexFunc_api_Action_api_Action_with_machine_Valid_1_calls _ p0 p1_0 A_p0 c_p0 g_p1_0 A_p1_0_Actions c_p1_0_Actions t132 _ (hS.rd 0) (hS.rd 1) (hS.rd 2) ht133) (fun v w134 hR135 => ?_)
  obtain ⟨rfl, hk_⟩ := hR135
  have hS136 := hS.keepN hk_
  refine ⟨trivial, ?_⟩
  refine seg 5 [] [4] [(4, (.bool (decide (t132 ≥ 0))))] [] (fun fb => by kernel_rfl) rfl trivial ?_
  refine WL.done rfl ?_
  refine WX.next ?_
  refine WC.ret ?_
  injection hf with hf
  subst hf
  exact WX.ret_ [] (.bool (decide (t132 ≥ 0))) [] (fun fb => by kernel_rfl) trivial ⟨_, rfl, rfl, hS136.keep⟩
theorem machine_Valid_calls (k : Nat) (p0 : Machine) (A_p0_Actions : Option Addr) (c_p0_Actions : Nat) (r : Bool) (w : World) (hR0 : RO NoS w (rowR enc_Action A_p0_Actions c_p0_Actions p0.Actions)) (hf : machine_Valid k p0 = some r) :
    CallsR Try.prog 16 #[(.agg #[(.int .i64 p0.States), (.int .i64 p0.Symbols), (.slice A_p0_Actions p0.Actions.length c_p0_Actions)])] w (fun v w' => v = (.bool r) ∧ Keeps NoS w w') := by
  have hS : St NoS w w [rowR enc_Action A_p0_Actions c_p0_Actions p0.Actions] [] := St.init (ro_cons hR0 (ro_nil _ _))
  refine enter 39 Try.func16 rfl Try.ntmps16 rfl ?_
  unfold machine_Valid at hf
  refine WC.seq ?_
  refine WC.region ?_
  refine WL.new hS 1 [] (fun g => (.pointer (some ⟨g, 0, none⟩))) (.cells #[(.int .i64 p0.States), (.int .i64 p0.Symbols), (.slice A_p0_Actions p0.Actions.length c_p0_Actions)] 24 (0, 0)) [] (fun fb g => by kernel_rfl) trivial (fun g53 w54 hS55 => ?_)
  refine ⟨trivial, ?_⟩
  refine seg 2 [] [1] [(1, (.pointer (some ⟨g53, 0, none⟩)))] [] (fun fb => by kernel_rfl) rfl trivial ?_
  refine WL.done rfl ?_
  refine WX.next ?_
  refine WC.seq ?_
  refine WC.region ?_
  refine seg 4 [.v (.int .i64 p0.States)] [1, 6] [(1, (.pointer (some ⟨g53, 0, none⟩))), (6, (.bool (decide (p0.States ≥ 1))))] [.cell ⟨g53, 0, none⟩ (.int .i64 p0.States)] (fun fb => by kernel_rfl) rfl ⟨hS55.cell 0 rfl 0 rfl, trivial⟩ ?_
  refine WL.cutV (T := Bool) 8 (fun t => [(10, (.bool t)), (1, (.pointer (some ⟨g53, 0, none⟩)))]) (fun t => t = ((decide (p0.States ≥ 1)) && (decide (p0.States ≤ 6)))) (fun K => ?_) ?_
  ·
    rcases Bool.eq_false_or_eq_true (decide (p0.States ≥ 1)) with h57 | h57
    ·
      refine WL.setB 6 h57 rfl ?_
      refine seg 8 [.v (.int .i64 p0.States)] [1, 10] [(1, (.pointer (some ⟨g53, 0, none⟩))), (10, (.bool (decide (p0.States ≤ 6))))] [.cell ⟨g53, 0, none⟩ (.int .i64 p0.States)] (fun fb => by kernel_rfl) rfl ⟨hS55.cell 0 rfl 0 rfl, trivial⟩ ?_
      exact WL.toV K (decide (p0.States ≤ 6)) [10, 1] rfl (by rw [h57]; rfl)
    refine WL.setB 6 h57 rfl ?_
    refine seg 8 [] [1, 10] [(1, (.pointer (some ⟨g53, 0, none⟩))), (10, (.bool false))] [] (fun fb => by kernel_rfl) rfl trivial ?_
    exact WL.toV K false [10, 1] rfl (by rw [h57]; rfl)
  rintro b58 rfl
  refine seg 9 [] [1, 11] [(1, (.pointer (some ⟨g53, 0, none⟩))), (11, (.bool ((decide (p0.States ≥ 1)) && (decide (p0.States ≤ 6)))))] [] (fun fb => by kernel_rfl) rfl trivial ?_
  refine WL.cutV (T := Bool) 13 (fun t => [(15, (.bool t)), (1, (.pointer (some ⟨g53, 0, none⟩)))]) (fun t => t = (((decide (p0.States ≥ 1)) && (decide (p0.States ≤ 6))) && (decide (p0.Symbols ≥ 2)))) (fun K => ?_) ?_
  ·
    rcases Bool.eq_false_or_eq_true ((decide (p0.States ≥ 1)) && (decide (p0.States ≤ 6))) with h59 | h59
    ·
      refine WL.setB 11 h59 rfl ?_
      refine seg 13 [.v (.int .i64 p0.Symbols)] [1, 15] [(1, (.pointer (some ⟨g53, 0, none⟩))), (15, (.bool (decide (p0.Symbols ≥ 2))))] [.cell ⟨g53, 1, none⟩ (.int .i64 p0.Symbols)] (fun fb => by kernel_rfl) rfl ⟨hS55.cell 0 rfl 1 rfl, trivial⟩ ?_
      exact WL.toV K (decide (p0.Symbols ≥ 2)) [15, 1] rfl (by rw [h59]; rfl)
    refine WL.setB 11 h59 rfl ?_
    refine seg 13 [] [1, 15] [(1, (.pointer (some ⟨g53, 0, none⟩))), (15, (.bool false))] [] (fun fb => by kernel_rfl) rfl trivial ?_
    exact WL.toV K false [15, 1] rfl (by rw [h59]; rfl)
  rintro b60 rfl
  refine seg 14 [] [1, 16] [(1, (.pointer (some ⟨g53, 0, none⟩))), (16, (.bool (((decide (p0.States ≥ 1)) && (decide (p0.States ≤ 6))) && (decide (p0.Symbols ≥ 2)))))] [] (fun fb => by kernel_rfl) rfl trivial ?_
  refine WL.cutV (T := Bool) 18 (fun t => [(20, (.bool t)), (1, (.pointer (some ⟨g53, 0, none⟩)))]) (fun t => t = ((((decide (p0.States ≥ 1)) && (decide (p0.States ≤ 6))) && (decide (p0.Symbols ≥ 2))) && (decide (p0.Symbols ≤ 4)))) (fun K => ?_) ?_
  ·
    rcases Bool.eq_false_or_eq_true (((decide (p0.States ≥ 1)) && (decide (p0.States ≤ 6))) && (decide (p0.Symbols ≥ 2))) with h61 | h61
    ·
      refine WL.setB 16 h61 rfl ?_
      refine seg 18 [.v (.int .i64 p0.Symbols)] [1, 20] [(1, (.pointer (some ⟨g53, 0, none⟩))), (20, (.bool (decide (p0.Symbols ≤ 4))))] [.cell ⟨g53, 1, none⟩ (.int .i64 p0.Symbols)] (fun fb => by kernel_rfl) rfl ⟨hS55.cell 0 rfl 1 rfl, trivial⟩ ?_
      exact WL.toV K (decide (p0.Symbols ≤ 4)) [20, 1] rfl (by rw [h61]; rfl)
    refine WL.setB 16 h61 rfl ?_
    refine seg 18 [] [1, 20] [(1, (.pointer (some ⟨g53, 0, none⟩))), (20, (.bool false))] [] (fun fb => by kernel_rfl) rfl trivial ?_
    exact WL.toV K false [20, 1] rfl (by rw [h61]; rfl)
  rintro b62 rfl
  refine seg 19 [] [1, 21] [(1, (.pointer (some ⟨g53, 0, none⟩))), (21, (.bool ((((decide (p0.States ≥ 1)) && (decide (p0.States ≤ 6))) && (decide (p0.Symbols ≥ 2))) && (decide (p0.Symbols ≤ 4)))))] [] (fun fb => by kernel_rfl) rfl trivial ?_
  refine WL.cutV (T := Bool) 29 (fun t => [(31, (.bool t)), (1, (.pointer (some ⟨g53, 0, none⟩)))]) (fun t => t = (((((decide (p0.States ≥ 1)) && (decide (p0.States ≤ 6))) && (decide (p0.Symbols ≥ 2))) && (decide (p0.Symbols ≤ 4))) && ((p0.Actions.length : Int) == (w64 (p0.States * p0.Symbols))))) (fun K => ?_) ?_
  ·
    rcases Bool.eq_false_or_eq_true ((((decide (p0.States ≥ 1)) && (decide (p0.States ≤ 6))) && (decide (p0.Symbols ≥ 2))) && (decide (p0.Symbols ≤ 4))) with h63 | h63
    ·
      refine WL.setB 21 h63 rfl ?_
      refine seg 29 [.v (.slice A_p0_Actions p0.Actions.length c_p0_Actions), .v (.int .i64 p0.States), .v (.int .i64 p0.Symbols)] [1, 31] [(1, (.pointer (some ⟨g53, 0, none⟩))), (31, (.bool ((p0.Actions.length : Int) == (w64 (p0.States * p0.Symbols)))))] [.cell ⟨g53, 2, none⟩ (.slice A_p0_Actions p0.Actions.length c_p0_Actions), .cell ⟨g53, 0, none⟩ (.int .i64 p0.States), .cell ⟨g53, 1, none⟩ (.int .i64 p0.Symbols)] (fun fb => by kernel_rfl) rfl ⟨hS55.cell 0 rfl 2 rfl, hS55.cell 0 rfl 0 rfl, hS55.cell 0 rfl 1 rfl, trivial⟩ ?_
      exact WL.toV K ((p0.Actions.length : Int) == (w64 (p0.States * p0.Symbols))) [31, 1] rfl (by rw [h63]; rfl)
    refine WL.setB 21 h63 rfl ?_
    refine seg 29 [] [1, 31] [(1, (.pointer (some ⟨g53, 0, none⟩))), (31, (.bool false))] [] (fun fb => by kernel_rfl) rfl trivial ?_
    exact WL.toV K false [31, 1] rfl (by rw [h63]; rfl)
  rintro b64 rfl
  refine seg 30 [] [1, 32] [(1, (.pointer (some ⟨g53, 0, none⟩))), (32, (.bool (((((decide (p0.States ≥ 1)) && (decide (p0.States ≤ 6))) && (decide (p0.Symbols ≥ 2))) && (decide (p0.Symbols ≤ 4))) && ((p0.Actions.length : Int) == (w64 (p0.States * p0.Symbols))))))] [] (fun fb => by kernel_rfl) rfl trivial ?_
  obtain ⟨x143, hx144, hf⟩ := bind_some hf
  refine WL.cutW (T := Bool) 36 (fun t => [(38, (.bool t))]) (fun t w1 => (St NoS w w1 [rowR enc_Action A_p0_Actions c_p0_Actions p0.Actions] [] ∧ x143 = t) ∧ CellsOK [] w1) (fun K => ?_) ?_
  ·
    rcases br_some hx144 with ⟨h145, hx144⟩ | ⟨h145, hx144⟩
    ·
      refine WL.setB 32 h145 rfl ?_
      refine seg 33 [.v (.slice A_p0_Actions p0.Actions.length c_p0_Actions)] [32, 34, 35] [(32, (.bool true)), (34, (.slice A_p0_Actions p0.Actions.length c_p0_Actions)), (35, (.func (.func 47) #[] #[(.pointer (some ⟨g53, 0, none⟩))]))] [.cell ⟨g53, 2, none⟩ (.slice A_p0_Actions p0.Actions.length c_p0_Actions)] (fun fb => by kernel_rfl) rfl ⟨hS55.cell 0 rfl 2 rfl, trivial⟩ ?_
      obtain ⟨t146, ht147, hx144⟩ := bind_some hx144
      refine WL.call (some 36) 46 #[(.slice A_p0_Actions p0.Actions.length c_p0_Actions), (.func (.func 47) #[] #[(.pointer (some ⟨g53, 0, none⟩))])] (fun fb => by kernel_rfl) (slices_ContainsFunc_api_Action_api_Action_with_machine_Valid_1_calls _ p0.Actions p0 A_p0_Actions c_p0_Actions g53 A_p0_Actions c_p0_Actions t146 _ (hS55.rd 0) (hS55.ow 0) (hS55.rd 0) ht147) (fun v w148 hR149 => ?_)
      obtain ⟨rfl, hk_⟩ := hR149
      have hS150 := hS55.keepN hk_
      refine ⟨trivial, ?_⟩
      refine seg 36 [] [38] [(38, (.bool (!t146)))] [] (fun fb => by kernel_rfl) rfl trivial ?_
      injection hx144 with hx144
      exact WL.to K (!t146) [38] rfl ⟨⟨(hS150.subR [0]).sub [] (by decide), hx144.symm⟩, trivial⟩
    refine WL.setB 32 h145 rfl ?_
    refine seg 36 [] [38] [(38, (.bool false))] [] (fun fb => by kernel_rfl) rfl trivial ?_
    injection hx144 with hx144
    exact WL.to K false [38] rfl ⟨⟨(hS55.subR [0]).sub [] (by decide), hx144.symm⟩, trivial⟩
  rintro y151 w153 ⟨⟨hS154, hq152⟩, hF155⟩
  subst hq152
  refine seg 37 [] [2] [(2, (.bool x143))] [] (fun fb => by kernel_rfl) rfl trivial ?_
  refine WL.done rfl ?_
  refine WX.next ?_
  refine WC.ret ?_
  injection hf with hf
  subst hf
  exact WX.ret_ [] (.bool x143) [] (fun fb => by kernel_rfl) trivial ⟨_, rfl, rfl, hS154.keep⟩
theorem machine_head_calls (p0 : Machine) (p1 : Int) (p2 : Int) (A_p0_Actions : Option Addr) (c_p0_Actions : Nat) (r : Int) (w : World) (hR0 : RO NoS w (rowR enc_Action A_p0_Actions c_p0_Actions p0.Actions)) (hf : machine_head p0 p1 p2 = some r) :
    CallsR Try.prog 61 #[(.agg #[(.int .i64 p0.States), (.int .i64 p0.Symbols), (.slice A_p0_Actions p0.Actions.length c_p0_Actions)]), (.int .i64 p1), (.int .i64 p2)] w (fun v w' => v = (.int .i64 r) ∧ Keeps NoS w w') := by
  have hS : St NoS w w [rowR enc_Action A_p0_Actions c_p0_Actions p0.Actions] [] := St.init (ro_cons hR0 (ro_nil _ _))
  refine enter 16 Try.func61 rfl Try.ntmps61 rfl ?_
  unfold machine_head at hf
  refine WC.seq ?_
  refine WC.region ?_
  refine WL.new hS 3 [] (fun g => (.pointer (some ⟨g, 0, none⟩))) (.cells #[(.int .i64 p0.States), (.int .i64 p0.Symbols), (.slice A_p0_Actions p0.Actions.length c_p0_Actions)] 24 (0, 0)) [] (fun fb g => by kernel_rfl) trivial (fun g293 w294 hS295 => ?_)
  refine ⟨trivial, ?_⟩
  refine seg 2 [] [1, 2, 3] [(1, (.int .i64 p1)), (2, (.int .i64 p2)), (3, (.pointer (some ⟨g293, 0, none⟩)))] [] (fun fb => by kernel_rfl) rfl trivial ?_
  refine WL.done rfl ?_
  refine WX.next ?_
  refine WC.seq ?_
  refine WC.region ?_
  refine seg 10 [.v (.int .i64 p0.Symbols), .v (.int .i64 p0.Symbols)] [6] [(6, (.int .i64 (w64 ((w64 (p0.Symbols + (w64 (p1 * p0.Symbols)))) + p2))))] [.cell ⟨g293, 1, none⟩ (.int .i64 p0.Symbols), .cell ⟨g293, 1, none⟩ (.int .i64 p0.Symbols)] (fun fb => by kernel_rfl) rfl ⟨hS295.cell 0 rfl 1 rfl, hS295.cell 0 rfl 1 rfl, trivial⟩ ?_
  refine WL.done rfl ?_
  refine WX.next ?_
  refine WC.ret ?_
  injection hf with hf
  subst hf
  exact WX.ret_ [] (.int .i64 (w64 ((w64 (p0.Symbols + (w64 (p1 * p0.Symbols)))) + p2))) [] (fun fb => by kernel_rfl) trivial ⟨_, rfl, rfl, hS295.keep⟩
theorem machine_kit_signal_calls (p0 : Kit) (p1 : Int) (p2 : Int) (g_p0 : Nat) (A_p0_m_Actions : Option Addr) (c_p0_m_Actions : Nat) (A_p0_set : Option Addr) (c_p0_set : Nat) (A_p0_does : Option Addr) (c_p0_does : Nat) (r : Int) (w : World) (hR0 : RO NoS w (blk g_p0 (.cells #[(.int .i64 p0.m.States), (.int .i64 p0.m.Symbols), (.slice A_p0_m_Actions p0.m.Actions.length c_p0_m_Actions), (.slice A_p0_set p0.set.length c_p0_set), (.slice A_p0_does p0.does.length c_p0_does), (.int .i64 p0.base)] 96 (0, 0)))) (hR1 : RO NoS w (rowR enc_Action A_p0_m_Actions c_p0_m_Actions p0.m.Actions)) (hR2 : RO NoS w (rowR enc_Tile A_p0_set c_p0_set p0.set)) (hR3 : RO NoS w (rowR encInt A_p0_does c_p0_does p0.does)) (hf : machine_kit_signal p0 p1 p2 = some r) :
    CallsR Try.prog 62 #[(.pointer (some ⟨g_p0, 0, none⟩)), (.int .i64 p1), (.int .i64 p2)] w (fun v w' => v = (.int .i64 r) ∧ Keeps NoS w w') := by
  have hS : St NoS w w [blk g_p0 (.cells #[(.int .i64 p0.m.States), (.int .i64 p0.m.Symbols), (.slice A_p0_m_Actions p0.m.Actions.length c_p0_m_Actions), (.slice A_p0_set p0.set.length c_p0_set), (.slice A_p0_does p0.does.length c_p0_does), (.int .i64 p0.base)] 96 (0, 0)), rowR enc_Action A_p0_m_Actions c_p0_m_Actions p0.m.Actions, rowR enc_Tile A_p0_set c_p0_set p0.set, rowR encInt A_p0_does c_p0_does p0.does] [] := St.init (ro_cons hR0 (ro_cons hR1 (ro_cons hR2 (ro_cons hR3 (ro_nil _ _)))))
  refine enter 19 Try.func62 rfl Try.ntmps62 rfl ?_
  unfold machine_kit_signal at hf
  refine WC.seq ?_
  refine WC.region ?_
  refine seg 1 [] [0, 1, 2] [(0, (.pointer (some ⟨g_p0, 0, none⟩))), (1, (.int .i64 p1)), (2, (.int .i64 p2))] [] (fun fb => by kernel_rfl) rfl trivial ?_
  refine WL.done rfl ?_
  refine WX.next ?_
  refine WC.seq ?_
  refine WC.seq ?_
  refine WC.region ?_
  refine seg 2 [] [0, 2, 8] [(0, (.pointer (some ⟨g_p0, 0, none⟩))), (2, (.int .i64 p2)), (8, (.bool (p1 == 1)))] [] (fun fb => by kernel_rfl) rfl trivial ?_
  refine WL.done rfl ?_
  refine WX.next ?_
  rcases br_some hf with ⟨h368, hf⟩ | ⟨h368, hf⟩
  · refine WC.condT2 (fun fb => by kernel_rfl) h368 ?_
    refine WC.seq ?_
    refine WC.region ?_
    refine seg 3 [] [6] [(6, (.int .i64 (w64 (1 + p2))))] [] (fun fb => by kernel_rfl) rfl trivial ?_
    refine WL.done rfl ?_
    refine WX.next ?_
    refine WC.ret ?_
    injection hf with hf
    subst hf
    exact WX.thenR (WX.ret_ [] (.int .i64 (w64 (1 + p2))) [] (fun fb => by kernel_rfl) trivial ⟨_, rfl, rfl, hS.keep⟩)
  refine WC.condF2 (fun fb => by kernel_rfl) h368 ?_
  refine WC.skip ?_
  refine WX.next ?_
  refine WC.seq ?_
  refine WC.region ?_
  refine seg 9 [.v (.int .i64 p0.m.States)] [6] [(6, (.int .i64 (w64 ((w64 (1 + p0.m.States)) + p2))))] [.cell ⟨g_p0, 0, none⟩ (.int .i64 p0.m.States)] (fun fb => by kernel_rfl) rfl ⟨blk_cell (hS.rd 0).1 0 rfl, trivial⟩ ?_
  refine WL.done rfl ?_
  refine WX.next ?_
  refine WC.ret ?_
  injection hf with hf
  subst hf
  exact WX.ret_ [] (.int .i64 (w64 ((w64 (1 + p0.m.States)) + p2))) [] (fun fb => by kernel_rfl) trivial ⟨_, rfl, rfl, hS.keep⟩
theorem machine_kit_acts_calls (p0 : Kit) (p1 : Int) (p2 : Int) (p3 : Action) (g_p0 : Nat) (A_p0_m_Actions : Option Addr) (c_p0_m_Actions : Nat) (A_p0_set : Option Addr) (c_p0_set : Nat) (A_p0_does : Option Addr) (c_p0_does : Nat) (r : Tile) (w : World) (hR0 : RO NoS w (blk g_p0 (.cells #[(.int .i64 p0.m.States), (.int .i64 p0.m.Symbols), (.slice A_p0_m_Actions p0.m.Actions.length c_p0_m_Actions), (.slice A_p0_set p0.set.length c_p0_set), (.slice A_p0_does p0.does.length c_p0_does), (.int .i64 p0.base)] 96 (0, 0)))) (hR1 : RO NoS w (rowR enc_Action A_p0_m_Actions c_p0_m_Actions p0.m.Actions)) (hR2 : RO NoS w (rowR enc_Tile A_p0_set c_p0_set p0.set)) (hR3 : RO NoS w (rowR encInt A_p0_does c_p0_does p0.does)) (hf : machine_kit_acts p0 p1 p2 p3 = some r) :
    CallsR Try.prog 60 #[(.pointer (some ⟨g_p0, 0, none⟩)), (.int .i64 p1), (.int .i64 p2), (.agg #[(.int .i64 p3.Write), (.int .i64 p3.Move), (.int .i64 p3.Next)])] w (fun v w' => v = (.agg #[(.int .i64 r.N), (.int .i64 r.E), (.int .i64 r.S), (.int .i64 r.W)]) ∧ Keeps NoS w w') := by
  have hS : St NoS w w [blk g_p0 (.cells #[(.int .i64 p0.m.States), (.int .i64 p0.m.Symbols), (.slice A_p0_m_Actions p0.m.Actions.length c_p0_m_Actions), (.slice A_p0_set p0.set.length c_p0_set), (.slice A_p0_does p0.does.length c_p0_does), (.int .i64 p0.base)] 96 (0, 0)), rowR enc_Action A_p0_m_Actions c_p0_m_Actions p0.m.Actions, rowR enc_Tile A_p0_set c_p0_set p0.set, rowR encInt A_p0_does c_p0_does p0.does] [] := St.init (ro_cons hR0 (ro_cons hR1 (ro_cons hR2 (ro_cons hR3 (ro_nil _ _)))))
  refine enter 36 Try.func60 rfl Try.ntmps60 rfl ?_
  unfold machine_kit_acts at hf
  refine WC.seq ?_
  refine WC.region ?_
  refine WL.new hS 7 [] (fun g => (.pointer (some ⟨g, 0, none⟩))) (.cells #[(.int .i64 p3.Write), (.int .i64 p3.Move), (.int .i64 p3.Next)] 88 (0, 0)) [] (fun fb g => by kernel_rfl) trivial (fun g285 w286 hS287 => ?_)
  refine ⟨trivial, ?_⟩
  refine WL.new hS287 8 [] (fun g => (.pointer (some ⟨g, 0, none⟩))) (.cells #[(.int .i64 0), (.int .i64 0), (.int .i64 0), (.int .i64 0)] 65 (0, 0)) [] (fun fb g => by kernel_rfl) trivial (fun g289 w290 hS291 => ?_)
  refine ⟨trivial, ?_⟩
  refine WL.done rfl ?_
  refine WX.next ?_
  refine WC.seq ?_
  obtain ⟨x337, hx338, hf⟩ := bind_some hf
  refine WC.cutN (T := (Int × Int × Int × Int) × Nat) (fun t => [(0, (.pointer (some ⟨g_p0, 0, none⟩))), (7, (.pointer (some ⟨g285, 0, none⟩))), (8, (.pointer (some ⟨g289, 0, none⟩))), (9, (.pointer (some ⟨t.2, 0, none⟩)))]) (fun t w1 => St NoS w w1 [blk g_p0 (.cells #[(.int .i64 p0.m.States), (.int .i64 p0.m.Symbols), (.slice A_p0_m_Actions p0.m.Actions.length c_p0_m_Actions), (.slice A_p0_set p0.set.length c_p0_set), (.slice A_p0_does p0.does.length c_p0_does), (.int .i64 p0.base)] 96 (0, 0)), rowR enc_Action A_p0_m_Actions c_p0_m_Actions p0.m.Actions, rowR enc_Tile A_p0_set c_p0_set p0.set, rowR encInt A_p0_does c_p0_does p0.does] [blk g285 (.cells #[(.int .i64 p3.Write), (.int .i64 p3.Move), (.int .i64 p3.Next)] 88 (0, 0)), blk g289 (.cells #[(.int .i64 0), (.int .i64 0), (.int .i64 0), (.int .i64 0)] 65 (0, 0)), blk t.2 (.cells #[(.int .i64 t.1.1), (.int .i64 t.1.2.1), (.int .i64 t.1.2.2.1), (.int .i64 t.1.2.2.2)] 65 (0, 0))] ∧ x337 = t.1) (fun Kx337 => ?_) ?_
  ·
    refine WC.regionD ([(1, ⟨g285, 0, none⟩, (.int .i64 p3.Write)), (5, ⟨g_p0, 0, none⟩, (.int .i64 p0.m.States)), (5, ⟨g_p0, 1, none⟩, (.int .i64 p0.m.Symbols)), (5, ⟨g_p0, 2, none⟩, (.slice A_p0_m_Actions p0.m.Actions.length c_p0_m_Actions))], [0, 1, 2, 3, 4, 5, 6, 7, 9], [[], [0], [], [2], [2, 3], [2, 3, 4], [], [], [2, 3, 4, 5, 6, 7], [0, 1, 2, 3, 4, 5, 6, 7, 8], [], [0, 1, 2, 3, 4, 5, 6, 7, 8, 9, 10]]) [[0, 1, 2, 3, 4, 5, 6, 7, 8, 9, 10, 11], [0, 1, 2, 3, 4, 5, 6, 7, 10, 8, 9, 11]] (by kernel_rfl) (by kernel_rfl) (NoPanic.seq (NoPanic.body)) ?_
    have hS340 := hS291.drew
    revert hS340
    generalize World.drew w290 = w339
    intro hS340
    refine ⟨⟨hS340.cell 1 rfl 0 rfl, blk_cell (hS340.rd 0).1 0 rfl, blk_cell (hS340.rd 0).1 1 rfl, blk_cell (hS340.rd 0).1 2 rfl, trivial⟩, forallC ?_ (forallC ?_ (forallN))⟩
    ·
      refine segF 8 [.v (.int .i64 p3.Write), .v (.int .i64 p0.m.States), .v (.int .i64 p0.m.Symbols), .v (.slice A_p0_m_Actions p0.m.Actions.length c_p0_m_Actions)] [0, 7, 8, 12, 16, 17, 18] [(0, (.pointer (some ⟨g_p0, 0, none⟩))), (7, (.pointer (some ⟨g285, 0, none⟩))), (8, (.pointer (some ⟨g289, 0, none⟩))), (12, (.int .i64 p3.Write)), (16, (.agg #[(.int .i64 p0.m.States), (.int .i64 p0.m.Symbols), (.slice A_p0_m_Actions p0.m.Actions.length c_p0_m_Actions)])), (17, (.int .i64 p1)), (18, (.int .i64 p2))] [] [0, 1, 2, 3] [(1, ⟨g285, 0, none⟩, (.int .i64 p3.Write)), (5, ⟨g_p0, 0, none⟩, (.int .i64 p0.m.States)), (5, ⟨g_p0, 1, none⟩, (.int .i64 p0.m.Symbols)), (5, ⟨g_p0, 2, none⟩, (.slice A_p0_m_Actions p0.m.Actions.length c_p0_m_Actions))] (fun fb => by kernel_rfl) rfl trivial rfl ?_
      obtain ⟨t341, ht342, hx338⟩ := bind_some hx338
      refine WL.call (some 19) 61 #[(.agg #[(.int .i64 p0.m.States), (.int .i64 p0.m.Symbols), (.slice A_p0_m_Actions p0.m.Actions.length c_p0_m_Actions)]), (.int .i64 p1), (.int .i64 p2)] (fun fb => by kernel_rfl) (machine_head_calls p0.m p1 p2 A_p0_m_Actions c_p0_m_Actions t341 _ (hS340.rd 1) ht342) (fun v w343 hR344 => ?_)
      obtain ⟨rfl, hk_⟩ := hR344
      have hS345 := hS340.keepN hk_
      refine ⟨⟨hS345.cell 1 rfl 0 rfl, trivial⟩, ?_⟩
      refine seg 10 [] [0, 7, 8, 20] [(0, (.pointer (some ⟨g_p0, 0, none⟩))), (7, (.pointer (some ⟨g285, 0, none⟩))), (8, (.pointer (some ⟨g289, 0, none⟩))), (20, (.agg #[(.int .i64 p3.Write), (.int .i64 0), (.int .i64 t341), (.int .i64 0)]))] [] (fun fb => by kernel_rfl) rfl trivial ?_
      refine WL.new hS345 9 [] (fun g => (.pointer (some ⟨g, 0, none⟩))) (.cells #[(.int .i64 0), (.int .i64 0), (.int .i64 0), (.int .i64 0)] 65 (0, 0)) [] (fun fb g => by kernel_rfl) trivial (fun g346 w347 hS348 => ?_)
      refine ⟨⟨hS348.cell 2 rfl 0 rfl, blk_cell (hS348.rd 0).1 0 rfl, blk_cell (hS348.rd 0).1 1 rfl, blk_cell (hS348.rd 0).1 2 rfl, trivial⟩, ?_⟩
      refine WL.store hS348 0 rfl [(0, (.int .i64 p3.Write)), (1, (.int .i64 0)), (2, (.int .i64 t341)), (3, (.int .i64 0))] #[(.int .i64 p3.Write), (.int .i64 0), (.int .i64 t341), (.int .i64 0)] (fun fb => by kernel_rfl) (by kernel_rfl) rfl [1, 2] (by decide) (by decide) (fun w350 hS351 => ?_)
      refine ⟨trivial, ?_⟩
      refine WL.done rfl ?_
      injection hx338 with hx338
      exact WX.to Kx337 ((p3.Write, 0, t341, 0), g346) [0, 7, 8, 9] rfl ⟨(hS351.subR [0, 1, 2, 3]).sub [2, 1, 0] (by decide), hx338.symm⟩
    refine segF 8 [.v (.int .i64 p3.Write), .v (.int .i64 p0.m.States), .v (.int .i64 p0.m.Symbols), .v (.slice A_p0_m_Actions p0.m.Actions.length c_p0_m_Actions)] [0, 7, 8, 12, 16, 17, 18] [(0, (.pointer (some ⟨g_p0, 0, none⟩))), (7, (.pointer (some ⟨g285, 0, none⟩))), (8, (.pointer (some ⟨g289, 0, none⟩))), (12, (.int .i64 p3.Write)), (16, (.agg #[(.int .i64 p0.m.States), (.int .i64 p0.m.Symbols), (.slice A_p0_m_Actions p0.m.Actions.length c_p0_m_Actions)])), (17, (.int .i64 p1)), (18, (.int .i64 p2))] [] [0, 1, 2, 3] [(1, ⟨g285, 0, none⟩, (.int .i64 p3.Write)), (5, ⟨g_p0, 0, none⟩, (.int .i64 p0.m.States)), (5, ⟨g_p0, 1, none⟩, (.int .i64 p0.m.Symbols)), (5, ⟨g_p0, 2, none⟩, (.slice A_p0_m_Actions p0.m.Actions.length c_p0_m_Actions))] (fun fb => by kernel_rfl) rfl trivial rfl ?_
    refine WL.new hS340 9 [] (fun g => (.pointer (some ⟨g, 0, none⟩))) (.cells #[(.int .i64 0), (.int .i64 0), (.int .i64 0), (.int .i64 0)] 65 (0, 0)) [] (fun fb g => by kernel_rfl) trivial (fun g352 w353 hS354 => ?_)
    refine ⟨⟨hS354.cell 2 rfl 0 rfl, blk_cell (hS354.rd 0).1 0 rfl, blk_cell (hS354.rd 0).1 1 rfl, blk_cell (hS354.rd 0).1 2 rfl, trivial⟩, ?_⟩
    obtain ⟨t356, ht357, hx338⟩ := bind_some hx338
    refine WL.call (some 19) 61 #[(.agg #[(.int .i64 p0.m.States), (.int .i64 p0.m.Symbols), (.slice A_p0_m_Actions p0.m.Actions.length c_p0_m_Actions)]), (.int .i64 p1), (.int .i64 p2)] (fun fb => by kernel_rfl) (machine_head_calls p0.m p1 p2 A_p0_m_Actions c_p0_m_Actions t356 _ (hS354.rd 1) ht357) (fun v w358 hR359 => ?_)
    obtain ⟨rfl, hk_⟩ := hR359
    have hS360 := hS354.keepN hk_
    refine ⟨⟨hS360.cell 2 rfl 0 rfl, trivial⟩, ?_⟩
    refine seg 11 [] [0, 7, 8, 9, 20] [(0, (.pointer (some ⟨g_p0, 0, none⟩))), (7, (.pointer (some ⟨g285, 0, none⟩))), (8, (.pointer (some ⟨g289, 0, none⟩))), (9, (.pointer (some ⟨g352, 0, none⟩))), (20, (.agg #[(.int .i64 p3.Write), (.int .i64 0), (.int .i64 t356), (.int .i64 0)]))] [] (fun fb => by kernel_rfl) rfl trivial ?_
    refine WL.store hS360 0 rfl [(0, (.int .i64 p3.Write)), (1, (.int .i64 0)), (2, (.int .i64 t356)), (3, (.int .i64 0))] #[(.int .i64 p3.Write), (.int .i64 0), (.int .i64 t356), (.int .i64 0)] (fun fb => by kernel_rfl) (by kernel_rfl) rfl [1, 2] (by decide) (by decide) (fun w361 hS362 => ?_)
    refine ⟨trivial, ?_⟩
    refine WL.done rfl ?_
    injection hx338 with hx338
    exact WX.to Kx337 ((p3.Write, 0, t356, 0), g352) [0, 7, 8, 9] rfl ⟨(hS362.subR [0, 1, 2, 3]).sub [2, 1, 0] (by decide), hx338.symm⟩
  rintro ⟨y366, g332⟩ w363 ⟨hS364, hq365⟩
  subst hq365
  refine WX.next ?_
  refine WC.seq ?_
  refine WC.region ?_
  refine seg 5 [.v (.int .i64 p3.Move)] [0, 7, 8, 9, 23, 25] [(0, (.pointer (some ⟨g_p0, 0, none⟩))), (7, (.pointer (some ⟨g285, 0, none⟩))), (8, (.pointer (some ⟨g289, 0, none⟩))), (9, (.pointer (some ⟨g332, 0, none⟩))), (23, (.agg #[(.pointer (some ⟨g332, 3, none⟩)), (.pointer (some ⟨g332, 1, none⟩))])), (25, (.int .i64 p3.Move))] [.cell ⟨g285, 1, none⟩ (.int .i64 p3.Move)] (fun fb => by kernel_rfl) rfl ⟨hS364.cell 0 rfl 1 rfl, trivial⟩ ?_
  rcases br_some hf with ⟨h367, hf⟩ | ⟨h367, hf⟩
  ·
    refine WL.setI 25 (eq_of_beq h367) rfl ?_
    refine seg 7 [] [0, 7, 8, 9, 10] [(0, (.pointer (some ⟨g_p0, 0, none⟩))), (7, (.pointer (some ⟨g285, 0, none⟩))), (8, (.pointer (some ⟨g289, 0, none⟩))), (9, (.pointer (some ⟨g332, 0, none⟩))), (10, (.pointer (some ⟨g332, 3, none⟩)))] [] (fun fb => by kernel_rfl) rfl trivial ?_
    refine WL.done rfl ?_
    refine WX.next ?_
    refine WC.seq ?_
    refine WC.region ?_
    refine seg 6 [.v (.int .i64 p3.Move), .v (.int .i64 p3.Next)] [8, 9, 27, 28, 30, 32] [(8, (.pointer (some ⟨g289, 0, none⟩))), (9, (.pointer (some ⟨g332, 0, none⟩))), (27, (.pointer (some ⟨g332, 3, none⟩))), (28, (.pointer (some ⟨g_p0, 0, none⟩))), (30, (.int .i64 p3.Move)), (32, (.int .i64 p3.Next))] [.cell ⟨g285, 1, none⟩ (.int .i64 p3.Move), .cell ⟨g285, 2, none⟩ (.int .i64 p3.Next)] (fun fb => by kernel_rfl) rfl ⟨hS364.cell 0 rfl 1 rfl, hS364.cell 0 rfl 2 rfl, trivial⟩ ?_
    obtain ⟨t369, ht370, hf⟩ := bind_some hf
    refine WL.call (some 33) 62 #[(.pointer (some ⟨g_p0, 0, none⟩)), (.int .i64 p3.Move), (.int .i64 p3.Next)] (fun fb => by kernel_rfl) (machine_kit_signal_calls p0 p3.Move p3.Next g_p0 A_p0_m_Actions c_p0_m_Actions A_p0_set c_p0_set A_p0_does c_p0_does t369 _ (hS364.rd 0) (hS364.rd 1) (hS364.rd 2) (hS364.rd 3) ht370) (fun v w371 hR372 => ?_)
    obtain ⟨rfl, hk_⟩ := hR372
    have hS373 := hS364.keepN hk_
    refine ⟨trivial, ?_⟩
    refine seg 8 [] [8, 9, 33, 34] [(8, (.pointer (some ⟨g289, 0, none⟩))), (9, (.pointer (some ⟨g332, 0, none⟩))), (33, (.int .i64 t369)), (34, (.pointer (some ⟨g332, 3, none⟩)))] [] (fun fb => by kernel_rfl) rfl trivial ?_
    refine WL.store hS373 2 rfl [(3, (.int .i64 t369))] #[(.int .i64 x337.1), (.int .i64 x337.2.1), (.int .i64 x337.2.2.1), (.int .i64 t369)] (fun fb => by kernel_rfl) (by kernel_rfl) rfl [0, 1] (by decide) (by decide) (fun w374 hS375 => ?_)
    refine ⟨trivial, ?_⟩
    refine WL.done rfl ?_
    refine WX.next ?_
    refine WC.seq ?_
    refine WC.region ?_
    refine seg 1 [.v (.int .i64 x337.1), .v (.int .i64 x337.2.1), .v (.int .i64 x337.2.2.1), .v (.int .i64 t369)] [8, 35] [(8, (.pointer (some ⟨g289, 0, none⟩))), (35, (.agg #[(.int .i64 x337.1), (.int .i64 x337.2.1), (.int .i64 x337.2.2.1), (.int .i64 t369)]))] [.cell ⟨g332, 0, none⟩ (.int .i64 x337.1), .cell ⟨g332, 1, none⟩ (.int .i64 x337.2.1), .cell ⟨g332, 2, none⟩ (.int .i64 x337.2.2.1), .cell ⟨g332, 3, none⟩ (.int .i64 t369)] (fun fb => by kernel_rfl) rfl ⟨hS375.cell 0 rfl 0 rfl, hS375.cell 0 rfl 1 rfl, hS375.cell 0 rfl 2 rfl, hS375.cell 0 rfl 3 rfl, trivial⟩ ?_
    refine WL.store hS375 2 rfl [(0, (.int .i64 x337.1)), (1, (.int .i64 x337.2.1)), (2, (.int .i64 x337.2.2.1)), (3, (.int .i64 t369))] #[(.int .i64 x337.1), (.int .i64 x337.2.1), (.int .i64 x337.2.2.1), (.int .i64 t369)] (fun fb => by kernel_rfl) (by kernel_rfl) rfl [0, 1] (by decide) (by decide) (fun w376 hS377 => ?_)
    refine ⟨trivial, ?_⟩
    refine WL.done rfl ?_
    refine WX.next ?_
    refine WC.ret ?_
    injection hf with hf
    subst hf
    exact WX.ret_ [.v (.int .i64 x337.1), .v (.int .i64 x337.2.1), .v (.int .i64 x337.2.2.1), .v (.int .i64 t369)] (.agg #[(.int .i64 x337.1), (.int .i64 x337.2.1), (.int .i64 x337.2.2.1), (.int .i64 t369)]) [.cell ⟨g289, 0, none⟩ (.int .i64 x337.1), .cell ⟨g289, 1, none⟩ (.int .i64 x337.2.1), .cell ⟨g289, 2, none⟩ (.int .i64 x337.2.2.1), .cell ⟨g289, 3, none⟩ (.int .i64 t369)] (fun fb => by kernel_rfl) ⟨hS377.cell 0 rfl 0 rfl, hS377.cell 0 rfl 1 rfl, hS377.cell 0 rfl 2 rfl, hS377.cell 0 rfl 3 rfl, trivial⟩ ⟨_, rfl, rfl, hS377.keep⟩
  rcases br_some hf with ⟨h378, hf⟩ | ⟨h378, hf⟩
  ·
    refine WL.setI 25 (eq_of_beq h378) rfl ?_
    refine seg 7 [] [0, 7, 8, 9, 10] [(0, (.pointer (some ⟨g_p0, 0, none⟩))), (7, (.pointer (some ⟨g285, 0, none⟩))), (8, (.pointer (some ⟨g289, 0, none⟩))), (9, (.pointer (some ⟨g332, 0, none⟩))), (10, (.pointer (some ⟨g332, 1, none⟩)))] [] (fun fb => by kernel_rfl) rfl trivial ?_
    refine WL.done rfl ?_
    refine WX.next ?_
    refine WC.seq ?_
    refine WC.region ?_
    refine seg 6 [.v (.int .i64 p3.Move), .v (.int .i64 p3.Next)] [8, 9, 27, 28, 30, 32] [(8, (.pointer (some ⟨g289, 0, none⟩))), (9, (.pointer (some ⟨g332, 0, none⟩))), (27, (.pointer (some ⟨g332, 1, none⟩))), (28, (.pointer (some ⟨g_p0, 0, none⟩))), (30, (.int .i64 p3.Move)), (32, (.int .i64 p3.Next))] [.cell ⟨g285, 1, none⟩ (.int .i64 p3.Move), .cell ⟨g285, 2, none⟩ (.int .i64 p3.Next)] (fun fb => by kernel_rfl) rfl ⟨hS364.cell 0 rfl 1 rfl, hS364.cell 0 rfl 2 rfl, trivial⟩ ?_
    obtain ⟨t379, ht380, hf⟩ := bind_some hf
    refine WL.call (some 33) 62 #[(.pointer (some ⟨g_p0, 0, none⟩)), (.int .i64 p3.Move), (.int .i64 p3.Next)] (fun fb => by kernel_rfl) (machine_kit_signal_calls p0 p3.Move p3.Next g_p0 A_p0_m_Actions c_p0_m_Actions A_p0_set c_p0_set A_p0_does c_p0_does t379 _ (hS364.rd 0) (hS364.rd 1) (hS364.rd 2) (hS364.rd 3) ht380) (fun v w381 hR382 => ?_)
    obtain ⟨rfl, hk_⟩ := hR382
    have hS383 := hS364.keepN hk_
    refine ⟨trivial, ?_⟩
    refine seg 8 [] [8, 9, 33, 34] [(8, (.pointer (some ⟨g289, 0, none⟩))), (9, (.pointer (some ⟨g332, 0, none⟩))), (33, (.int .i64 t379)), (34, (.pointer (some ⟨g332, 1, none⟩)))] [] (fun fb => by kernel_rfl) rfl trivial ?_
    refine WL.store hS383 2 rfl [(1, (.int .i64 t379))] #[(.int .i64 x337.1), (.int .i64 t379), (.int .i64 x337.2.2.1), (.int .i64 x337.2.2.2)] (fun fb => by kernel_rfl) (by kernel_rfl) rfl [0, 1] (by decide) (by decide) (fun w384 hS385 => ?_)
    refine ⟨trivial, ?_⟩
    refine WL.done rfl ?_
    refine WX.next ?_
    refine WC.seq ?_
    refine WC.region ?_
    refine seg 1 [.v (.int .i64 x337.1), .v (.int .i64 t379), .v (.int .i64 x337.2.2.1), .v (.int .i64 x337.2.2.2)] [8, 35] [(8, (.pointer (some ⟨g289, 0, none⟩))), (35, (.agg #[(.int .i64 x337.1), (.int .i64 t379), (.int .i64 x337.2.2.1), (.int .i64 x337.2.2.2)]))] [.cell ⟨g332, 0, none⟩ (.int .i64 x337.1), .cell ⟨g332, 1, none⟩ (.int .i64 t379), .cell ⟨g332, 2, none⟩ (.int .i64 x337.2.2.1), .cell ⟨g332, 3, none⟩ (.int .i64 x337.2.2.2)] (fun fb => by kernel_rfl) rfl ⟨hS385.cell 0 rfl 0 rfl, hS385.cell 0 rfl 1 rfl, hS385.cell 0 rfl 2 rfl, hS385.cell 0 rfl 3 rfl, trivial⟩ ?_
    refine WL.store hS385 2 rfl [(0, (.int .i64 x337.1)), (1, (.int .i64 t379)), (2, (.int .i64 x337.2.2.1)), (3, (.int .i64 x337.2.2.2))] #[(.int .i64 x337.1), (.int .i64 t379), (.int .i64 x337.2.2.1), (.int .i64 x337.2.2.2)] (fun fb => by kernel_rfl) (by kernel_rfl) rfl [0, 1] (by decide) (by decide) (fun w386 hS387 => ?_)
    refine ⟨trivial, ?_⟩
    refine WL.done rfl ?_
    refine WX.next ?_
    refine WC.ret ?_
    injection hf with hf
    subst hf
    exact WX.ret_ [.v (.int .i64 x337.1), .v (.int .i64 t379), .v (.int .i64 x337.2.2.1), .v (.int .i64 x337.2.2.2)] (.agg #[(.int .i64 x337.1), (.int .i64 t379), (.int .i64 x337.2.2.1), (.int .i64 x337.2.2.2)]) [.cell ⟨g289, 0, none⟩ (.int .i64 x337.1), .cell ⟨g289, 1, none⟩ (.int .i64 t379), .cell ⟨g289, 2, none⟩ (.int .i64 x337.2.2.1), .cell ⟨g289, 3, none⟩ (.int .i64 x337.2.2.2)] (fun fb => by kernel_rfl) ⟨hS387.cell 0 rfl 0 rfl, hS387.cell 0 rfl 1 rfl, hS387.cell 0 rfl 2 rfl, hS387.cell 0 rfl 3 rfl, trivial⟩ ⟨_, rfl, rfl, hS387.keep⟩
  cases hf
theorem machine_kitOf_calls (k : Nat) (p0 : Machine) (A_p0_Actions : Option Addr) (c_p0_Actions : Nat) (r : Kit) (w : World) (hR0 : RO NoS w (rowR enc_Action A_p0_Actions c_p0_Actions p0.Actions)) (hf : machine_kitOf k p0 = some r) :
    CallsR Try.prog 41 #[(.agg #[(.int .i64 p0.States), (.int .i64 p0.Symbols), (.slice A_p0_Actions p0.Actions.length c_p0_Actions)])] w (fun v w' => ∃ (g1_ : Nat), ∃ (A2_ : Option Addr), ∃ (c2_ : Nat), ∃ (A3_ : Option Addr), ∃ (c3_ : Nat), v = (.pointer (some ⟨g1_, 0, none⟩)) ∧ St NoS w w' [] [blk g1_ (.cells #[(.int .i64 r.m.States), (.int .i64 r.m.Symbols), (.slice A_p0_Actions p0.Actions.length c_p0_Actions), (.slice A2_ r.set.length c2_), (.slice A3_ r.does.length c3_), (.int .i64 r.base)] 96 (0, 0)), rowO 65 enc_Tile A2_ c2_ r.set, rowO 3 encInt A3_ c3_ r.does]) := by
  have hS : St NoS w w [rowR enc_Action A_p0_Actions c_p0_Actions p0.Actions] [] := St.init (ro_cons hR0 (ro_nil _ _))
  refine enter 134 Try.func41 rfl Try.ntmps41 rfl ?_
  unfold machine_kitOf at hf
  refine WC.seq ?_
  refine WC.region ?_
  refine WL.new hS 1 [] (fun g => (.pointer (some ⟨g, 0, none⟩))) (.cells #[(.int .i64 p0.States), (.int .i64 p0.Symbols), (.slice A_p0_Actions p0.Actions.length c_p0_Actions)] 24 (0, 0)) [] (fun fb g => by kernel_rfl) trivial (fun g163 w164 hS165 => ?_)
  refine ⟨trivial, ?_⟩
  refine seg 2 [] [1] [(1, (.pointer (some ⟨g163, 0, none⟩)))] [] (fun fb => by kernel_rfl) rfl trivial ?_
  refine WL.done rfl ?_
  refine WX.next ?_
  refine WC.seq ?_
  refine WC.region ?_
  refine seg 2 [.v (.int .i64 p0.States), .v (.int .i64 p0.Symbols), .v (.slice A_p0_Actions p0.Actions.length c_p0_Actions)] [1, 11] [(1, (.pointer (some ⟨g163, 0, none⟩))), (11, (.agg #[(.int .i64 p0.States), (.int .i64 p0.Symbols), (.slice A_p0_Actions p0.Actions.length c_p0_Actions), (.slice none 0 0), (.slice none 0 0), (.int .i64 0)]))] [.cell ⟨g163, 0, none⟩ (.int .i64 p0.States), .cell ⟨g163, 1, none⟩ (.int .i64 p0.Symbols), .cell ⟨g163, 2, none⟩ (.slice A_p0_Actions p0.Actions.length c_p0_Actions)] (fun fb => by kernel_rfl) rfl ⟨hS165.cell 0 rfl 0 rfl, hS165.cell 0 rfl 1 rfl, hS165.cell 0 rfl 2 rfl, trivial⟩ ?_
  refine WL.new hS165 12 [] (fun g => (.pointer (some ⟨g, 0, none⟩))) (.cells #[(.int .i64 p0.States), (.int .i64 p0.Symbols), (.slice A_p0_Actions p0.Actions.length c_p0_Actions), (.slice none 0 0), (.slice none 0 0), (.int .i64 0)] 96 (0, 0)) [] (fun fb g => by kernel_rfl) trivial (fun g167 w168 hS169 => ?_)
  refine ⟨trivial, ?_⟩
  refine seg 4 [] [1, 3] [(1, (.pointer (some ⟨g163, 0, none⟩))), (3, (.pointer (some ⟨g167, 0, none⟩)))] [] (fun fb => by kernel_rfl) rfl trivial ?_
  refine WL.done rfl ?_
  refine WX.next ?_
  refine WC.seq ?_
  refine WC.seq ?_
  refine WC.region ?_
  refine seg 3 [.v (.int .i64 p0.Symbols)] [1, 3, 14, 15] [(1, (.pointer (some ⟨g163, 0, none⟩))), (3, (.pointer (some ⟨g167, 0, none⟩))), (14, (.int .i64 p0.Symbols)), (15, (.int .i64 0))] [.cell ⟨g163, 1, none⟩ (.int .i64 p0.Symbols)] (fun fb => by kernel_rfl) rfl ⟨hS169.cell 1 rfl 1 rfl, trivial⟩ ?_
  refine WL.done rfl ?_
  refine WX.next ?_
  have hS203 := hS169.nilrow 65 enc_Tile
  obtain ⟨x211, hx212, hf⟩ := bind_some hf
  refine WC.cutN (T := (List Tile) × (Option Addr) × Nat) (fun t => [(1, (.pointer (some ⟨g163, 0, none⟩))), (3, (.pointer (some ⟨g167, 0, none⟩)))]) (fun t w1 => St NoS w w1 [rowR enc_Action A_p0_Actions c_p0_Actions p0.Actions] [blk g163 (.cells #[(.int .i64 p0.States), (.int .i64 p0.Symbols), (.slice A_p0_Actions p0.Actions.length c_p0_Actions)] 24 (0, 0)), blk g167 (.cells #[(.int .i64 p0.States), (.int .i64 p0.Symbols), (.slice A_p0_Actions p0.Actions.length c_p0_Actions), (.slice t.2.1 t.1.length t.2.2), (.slice none 0 0), (.int .i64 0)] 96 (0, 0)), rowO 65 enc_Tile t.2.1 t.2.2 t.1] ∧ x211 = t.1) (fun Kx211 => ?_) ?_
  ·
    refine WC.block ?_
    refine WC.loop (T := ((List Tile) × Int) × (Option Addr) × Nat) (fun t => [(1, (.pointer (some ⟨g163, 0, none⟩))), (3, (.pointer (some ⟨g167, 0, none⟩))), (14, (.int .i64 p0.Symbols)), (15, (.int .i64 t.1.2))]) (fun n t w1 => St NoS w w1 [rowR enc_Action A_p0_Actions c_p0_Actions p0.Actions] [blk g163 (.cells #[(.int .i64 p0.States), (.int .i64 p0.Symbols), (.slice A_p0_Actions p0.Actions.length c_p0_Actions)] 24 (0, 0)), blk g167 (.cells #[(.int .i64 p0.States), (.int .i64 p0.Symbols), (.slice A_p0_Actions p0.Actions.length c_p0_Actions), (.slice t.2.1 t.1.1.length t.2.2), (.slice none 0 0), (.int .i64 0)] 96 (0, 0)), rowO 65 enc_Tile t.2.1 t.2.2 t.1.1] ∧ machine_kitOf.l0 n t.1.1 t.1.2 p0 = some x211) k ((([] : List Tile), 0), none, 0) [1, 3, 14, 15] rfl ⟨(hS203.subR [0]).sub [2, 1, 0] (by decide), hx212⟩ ?_
    rintro k213 ⟨⟨l206, x207⟩, A204, c205⟩ w214 ⟨hS215, hl216⟩
    cases k213 with
    | zero => rw [machine_kitOf.l0] at hl216; cases hl216
    | succ k213 =>
      rw [machine_kitOf.l0] at hl216
      refine WC.seq ?_
      refine WC.region ?_
      refine seg 1 [] [1, 3, 14, 15, 16] [(1, (.pointer (some ⟨g163, 0, none⟩))), (3, (.pointer (some ⟨g167, 0, none⟩))), (14, (.int .i64 p0.Symbols)), (15, (.int .i64 x207)), (16, (.bool (decide (x207 < p0.Symbols))))] [] (fun fb => by kernel_rfl) rfl trivial ?_
      refine WL.done rfl ?_
      refine WX.next ?_
      refine WC.seq ?_
      rcases br_some hl216 with ⟨h217, hl216⟩ | ⟨h217, hl216⟩
      · refine WC.condT2 (fun fb => by kernel_rfl) h217 ?_
        refine WC.skip ?_
        refine WX.next ?_
        refine WC.seq ?_
        refine WC.block ?_
        refine WC.seq ?_
        refine WC.region ?_
        refine seg 2 [] [1, 3, 4, 14, 15] [(1, (.pointer (some ⟨g163, 0, none⟩))), (3, (.pointer (some ⟨g167, 0, none⟩))), (4, (.int .i64 x207)), (14, (.int .i64 p0.Symbols)), (15, (.int .i64 x207))] [] (fun fb => by kernel_rfl) rfl trivial ?_
        refine WL.done rfl ?_
        refine WX.next ?_
        refine WC.region ?_
        refine seg 8 [.v (.slice A204 l206.length c205)] [1, 3, 14, 15, 18, 22, 25] [(1, (.pointer (some ⟨g163, 0, none⟩))), (3, (.pointer (some ⟨g167, 0, none⟩))), (14, (.int .i64 p0.Symbols)), (15, (.int .i64 x207)), (18, (.pointer (some ⟨g167, 0, none⟩))), (22, (.slice A204 l206.length c205)), (25, (.agg #[(.int .i64 x207), (.int .i64 0), (.int .i64 x207), (.int .i64 0)]))] [.cell ⟨g167, 3, none⟩ (.slice A204 l206.length c205)] (fun fb => by kernel_rfl) rfl ⟨hS215.cell 1 rfl 3 rfl, trivial⟩ ?_
        refine WL.new hS215 26 [] (fun g => (.slice (some ⟨g, 0, none⟩) 1 1)) (.cells #[(.int .i64 x207), (.int .i64 0), (.int .i64 x207), (.int .i64 0)] 65 (0, 0)) [] (fun fb g => by kernel_rfl) trivial (fun g218 w219 hS220 => ?_)
        refine ⟨trivial, ?_⟩
        have hS222 : St NoS w w219 [rowR enc_Action A_p0_Actions c_p0_Actions p0.Actions] [rowO 65 enc_Tile (some ⟨g218, 0, none⟩) 1 [(Tile.mk x207 0 x207 0)], blk g163 (.cells #[(.int .i64 p0.States), (.int .i64 p0.Symbols), (.slice A_p0_Actions p0.Actions.length c_p0_Actions)] 24 (0, 0)), blk g167 (.cells #[(.int .i64 p0.States), (.int .i64 p0.Symbols), (.slice A_p0_Actions p0.Actions.length c_p0_Actions), (.slice A204 l206.length c205), (.slice none 0 0), (.int .i64 0)] 96 (0, 0)), rowO 65 enc_Tile A204 c205 l206] := hS220.map1 0 _ (fun h => rowO.ofBlk h rfl (Nat.le_of_ble_eq_true (by kernel_rfl))) (fun _ h => by obtain ⟨_, h1, h2⟩ := h; injection h1 with h1; subst h1; exact h2) [1, 2, 3] (by decide) (by decide)
        obtain ⟨h223, hl216⟩ := as_some hl216
        refine WL.append hS222 3 (d := 27) (tS := 50) (z := (.agg #[(.int .i64 0), (.int .i64 0), (.int .i64 0), (.int .i64 0)])) (bytes := 32) (c2 := 1) rfl (fun fb => by kernel_rfl) (rowO.rd (hS222.own 0).1) (by kernel_rfl) (by kernel_rfl) rfl (by decide) h223 (by decide) [0, 1, 2] (by decide) (by decide) (fun A224 c225 w226 hS227 => ?_)
        refine ⟨trivial, ?_⟩
        refine seg 12 [] [1, 3, 14, 15, 27, 29] [(1, (.pointer (some ⟨g163, 0, none⟩))), (3, (.pointer (some ⟨g167, 0, none⟩))), (14, (.int .i64 p0.Symbols)), (15, (.int .i64 x207)), (27, (.slice A224 (l206 ++ [(Tile.mk x207 0 x207 0)]).length c225)), (29, (.pointer (some ⟨g167, 3, none⟩)))] [] (fun fb => by kernel_rfl) rfl trivial ?_
        refine WL.store hS227 3 rfl [(3, (.slice A224 (l206 ++ [(Tile.mk x207 0 x207 0)]).length c225))] #[(.int .i64 p0.States), (.int .i64 p0.Symbols), (.slice A_p0_Actions p0.Actions.length c_p0_Actions), (.slice A224 (l206 ++ [(Tile.mk x207 0 x207 0)]).length c225), (.slice none 0 0), (.int .i64 0)] (fun fb => by kernel_rfl) (by kernel_rfl) rfl [0, 1, 2] (by decide) (by decide) (fun w228 hS229 => ?_)
        refine ⟨trivial, ?_⟩
        refine WL.done rfl ?_
        refine WX.blockN (WX.next ?_)
        refine WC.region ?_
        refine seg 2 [] [1, 3, 14, 15] [(1, (.pointer (some ⟨g163, 0, none⟩))), (3, (.pointer (some ⟨g167, 0, none⟩))), (14, (.int .i64 p0.Symbols)), (15, (.int .i64 (w64 (x207 + 1))))] [] (fun fb => by kernel_rfl) rfl trivial ?_
        refine WL.done rfl ?_
        exact WX.again k213 (Nat.lt_succ_self _) ((l206 ++ [(Tile.mk x207 0 x207 0)], w64 (x207 + 1)), A224, c225) [1, 3, 14, 15] rfl ⟨(hS229.subR [0]).sub [3, 0, 1] (by decide), hl216⟩
      refine WC.condF2 (fun fb => by kernel_rfl) h217 ?_
      refine WC.exit ?_
      injection hl216 with hl216
      exact WX.thenX (WX.thenX (WX.blockHere (WX.to Kx211 (l206, A204, c205) [1, 3] rfl ⟨(hS215.subR [0]).sub [0, 1, 2] (by decide), hl216.symm⟩)))
  rintro ⟨y233, A208, c209⟩ w230 ⟨hS231, hq232⟩
  subst hq232
  refine WX.next ?_
  refine WC.seq ?_
  refine WC.seq ?_
  refine WC.region ?_
  refine seg 4 [.v (.slice A_p0_Actions p0.Actions.length c_p0_Actions)] [1, 3, 32, 33, 34] [(1, (.pointer (some ⟨g163, 0, none⟩))), (3, (.pointer (some ⟨g167, 0, none⟩))), (32, (.slice A_p0_Actions p0.Actions.length c_p0_Actions)), (33, (.int .i64 (p0.Actions.length : Int))), (34, (.int .i64 0))] [.cell ⟨g163, 2, none⟩ (.slice A_p0_Actions p0.Actions.length c_p0_Actions)] (fun fb => by kernel_rfl) rfl ⟨hS231.cell 0 rfl 2 rfl, trivial⟩ ?_
  refine WL.done rfl ?_
  refine WX.next ?_
  have hS717 := hS231.nilrow 3 encInt
  obtain ⟨x731, hx732, hf⟩ := bind_some hf
  refine WC.cutN (T := ((List Tile) × (List Int)) × (Option Addr) × Nat × (Option Addr) × Nat) (fun t => [(1, (.pointer (some ⟨g163, 0, none⟩))), (3, (.pointer (some ⟨g167, 0, none⟩)))]) (fun t w1 => St NoS w w1 [rowR enc_Action A_p0_Actions c_p0_Actions p0.Actions] [blk g163 (.cells #[(.int .i64 p0.States), (.int .i64 p0.Symbols), (.slice A_p0_Actions p0.Actions.length c_p0_Actions)] 24 (0, 0)), blk g167 (.cells #[(.int .i64 p0.States), (.int .i64 p0.Symbols), (.slice A_p0_Actions p0.Actions.length c_p0_Actions), (.slice t.2.1 t.1.1.length t.2.2.1), (.slice t.2.2.2.1 t.1.2.length t.2.2.2.2), (.int .i64 0)] 96 (0, 0)), rowO 65 enc_Tile t.2.1 t.2.2.1 t.1.1, rowO 3 encInt t.2.2.2.1 t.2.2.2.2 t.1.2] ∧ x731 = t.1) (fun Kx731 => ?_) ?_
  ·
    refine WC.block ?_
    refine WC.loop (T := ((List Tile) × (List Int) × Int) × (Option Addr) × Nat × (Option Addr) × Nat) (fun t => [(1, (.pointer (some ⟨g163, 0, none⟩))), (3, (.pointer (some ⟨g167, 0, none⟩))), (32, (.slice A_p0_Actions p0.Actions.length c_p0_Actions)), (33, (.int .i64 (p0.Actions.length : Int))), (34, (.int .i64 t.1.2.2))]) (fun n t w1 => St NoS w w1 [rowR enc_Action A_p0_Actions c_p0_Actions p0.Actions] [blk g163 (.cells #[(.int .i64 p0.States), (.int .i64 p0.Symbols), (.slice A_p0_Actions p0.Actions.length c_p0_Actions)] 24 (0, 0)), blk g167 (.cells #[(.int .i64 p0.States), (.int .i64 p0.Symbols), (.slice A_p0_Actions p0.Actions.length c_p0_Actions), (.slice t.2.1 t.1.1.length t.2.2.1), (.slice t.2.2.2.1 t.1.2.1.length t.2.2.2.2), (.int .i64 0)] 96 (0, 0)), rowO 65 enc_Tile t.2.1 t.2.2.1 t.1.1, rowO 3 encInt t.2.2.2.1 t.2.2.2.2 t.1.2.1] ∧ machine_kitOf.l1 n t.1.1 t.1.2.1 t.1.2.2 p0 = some x731) k ((x211, ([] : List Int), 0), A208, c209, none, 0) [1, 3, 32, 33, 34] rfl ⟨(hS717.subR [0]).sub [1, 2, 3, 0] (by decide), hx732⟩ ?_
    rintro k733 ⟨⟨l720, l723, x724⟩, A718, c719, A721, c722⟩ w734 ⟨hS735, hl736⟩
    cases k733 with
    | zero => rw [machine_kitOf.l1] at hl736; cases hl736
    | succ k733 =>
      rw [machine_kitOf.l1] at hl736
      refine WC.seq ?_
      refine WC.region ?_
      refine seg 1 [] [1, 3, 32, 33, 34, 35] [(1, (.pointer (some ⟨g163, 0, none⟩))), (3, (.pointer (some ⟨g167, 0, none⟩))), (32, (.slice A_p0_Actions p0.Actions.length c_p0_Actions)), (33, (.int .i64 (p0.Actions.length : Int))), (34, (.int .i64 x724)), (35, (.bool (decide (x724 < (p0.Actions.length : Int)))))] [] (fun fb => by kernel_rfl) rfl trivial ?_
      refine WL.done rfl ?_
      refine WX.next ?_
      refine WC.seq ?_
      rcases br_some hl736 with ⟨h737, hl736⟩ | ⟨h737, hl736⟩
      · refine WC.condT2 (fun fb => by kernel_rfl) h737 ?_
        refine WC.skip ?_
        refine WX.next ?_
        refine WC.seq ?_
        obtain ⟨x829, hx830, hl736⟩ := bind_some hl736
        refine WC.cutN (T := ((List Tile) × (List Int)) × (Option Addr) × Nat × (Option Addr) × Nat) (fun t => [(1, (.pointer (some ⟨g163, 0, none⟩))), (3, (.pointer (some ⟨g167, 0, none⟩))), (32, (.slice A_p0_Actions p0.Actions.length c_p0_Actions)), (33, (.int .i64 (p0.Actions.length : Int))), (34, (.int .i64 x724))]) (fun t w1 => St NoS w w1 [rowR enc_Action A_p0_Actions c_p0_Actions p0.Actions] [blk g163 (.cells #[(.int .i64 p0.States), (.int .i64 p0.Symbols), (.slice A_p0_Actions p0.Actions.length c_p0_Actions)] 24 (0, 0)), blk g167 (.cells #[(.int .i64 p0.States), (.int .i64 p0.Symbols), (.slice A_p0_Actions p0.Actions.length c_p0_Actions), (.slice t.2.1 t.1.1.length t.2.2.1), (.slice t.2.2.2.1 t.1.2.length t.2.2.2.2), (.int .i64 0)] 96 (0, 0)), rowO 65 enc_Tile t.2.1 t.2.2.1 t.1.1, rowO 3 encInt t.2.2.2.1 t.2.2.2.2 t.1.2] ∧ x829 = t.1) (fun Kx829 => ?_) ?_
        ·
          refine WC.block ?_
          refine WC.seq ?_
          refine WC.region ?_
          refine seg 1 [] [1, 3, 32, 33, 34, 36] [(1, (.pointer (some ⟨g163, 0, none⟩))), (3, (.pointer (some ⟨g167, 0, none⟩))), (32, (.slice A_p0_Actions p0.Actions.length c_p0_Actions)), (33, (.int .i64 (p0.Actions.length : Int))), (34, (.int .i64 x724)), (36, (.int .i64 x724))] [] (fun fb => by kernel_rfl) rfl trivial ?_
          obtain ⟨h831, hx830⟩ := as_some hx830
          refine seg 3 [.v (.int .i64 ((rdD p0.Actions x724 z_Action).Write)), .v (.int .i64 ((rdD p0.Actions x724 z_Action).Move)), .v (.int .i64 ((rdD p0.Actions x724 z_Action).Next))] [1, 3, 32, 33, 34, 36, 38] [(1, (.pointer (some ⟨g163, 0, none⟩))), (3, (.pointer (some ⟨g167, 0, none⟩))), (32, (.slice A_p0_Actions p0.Actions.length c_p0_Actions)), (33, (.int .i64 (p0.Actions.length : Int))), (34, (.int .i64 x724)), (36, (.int .i64 x724)), (38, (.agg #[(.int .i64 ((rdD p0.Actions x724 z_Action).Write)), (.int .i64 ((rdD p0.Actions x724 z_Action).Move)), (.int .i64 ((rdD p0.Actions x724 z_Action).Next))]))] [.idx A_p0_Actions x724 p0.Actions.length, .cell ((adr A_p0_Actions).add ((x724).toNat * 3)) (.int .i64 ((rdD p0.Actions x724 z_Action).Write)), .cell (((adr A_p0_Actions).add ((x724).toNat * 3)).add 1) (.int .i64 ((rdD p0.Actions x724 z_Action).Move)), .cell (((adr A_p0_Actions).add ((x724).toNat * 3)).add 2) (.int .i64 ((rdD p0.Actions x724 z_Action).Next))] (fun fb => by kernel_rfl) rfl ⟨rowR.adr (hS735.rd 0).1 h831.1 h831.2, rowR.cell (hS735.rd 0).1 z_Action h831.1 h831.2 0 rfl, rowR.cell (hS735.rd 0).1 z_Action h831.1 h831.2 1 rfl, rowR.cell (hS735.rd 0).1 z_Action h831.1 h831.2 2 rfl, trivial⟩ ?_
          refine WL.new hS735 6 [] (fun g => (.pointer (some ⟨g, 0, none⟩))) (.cells #[(.int .i64 0), (.int .i64 0), (.int .i64 0)] 88 (0, 0)) [] (fun fb g => by kernel_rfl) trivial (fun g832 w833 hS834 => ?_)
          refine ⟨trivial, ?_⟩
          refine seg 5 [] [1, 3, 5, 6, 32, 33, 34, 38] [(1, (.pointer (some ⟨g163, 0, none⟩))), (3, (.pointer (some ⟨g167, 0, none⟩))), (5, (.int .i64 x724)), (6, (.pointer (some ⟨g832, 0, none⟩))), (32, (.slice A_p0_Actions p0.Actions.length c_p0_Actions)), (33, (.int .i64 (p0.Actions.length : Int))), (34, (.int .i64 x724)), (38, (.agg #[(.int .i64 ((rdD p0.Actions x724 z_Action).Write)), (.int .i64 ((rdD p0.Actions x724 z_Action).Move)), (.int .i64 ((rdD p0.Actions x724 z_Action).Next))]))] [] (fun fb => by kernel_rfl) rfl trivial ?_
          refine WL.store hS834 0 rfl [(0, (.int .i64 ((rdD p0.Actions x724 z_Action).Write))), (1, (.int .i64 ((rdD p0.Actions x724 z_Action).Move))), (2, (.int .i64 ((rdD p0.Actions x724 z_Action).Next)))] #[(.int .i64 ((rdD p0.Actions x724 z_Action).Write)), (.int .i64 ((rdD p0.Actions x724 z_Action).Move)), (.int .i64 ((rdD p0.Actions x724 z_Action).Next))] (fun fb => by kernel_rfl) (by kernel_rfl) rfl [1, 2, 3, 4] (by decide) (by decide) (fun w836 hS837 => ?_)
          refine ⟨trivial, ?_⟩
          refine WL.done rfl ?_
          refine WX.next ?_
          refine WC.seq ?_
          refine WC.seq ?_
          refine WC.region ?_
          refine seg 5 [.v (.int .i64 ((rdD p0.Actions x724 z_Action).Next)), .v (.int .i64 p0.States)] [1, 3, 5, 6, 32, 33, 34, 43] [(1, (.pointer (some ⟨g163, 0, none⟩))), (3, (.pointer (some ⟨g167, 0, none⟩))), (5, (.int .i64 x724)), (6, (.pointer (some ⟨g832, 0, none⟩))), (32, (.slice A_p0_Actions p0.Actions.length c_p0_Actions)), (33, (.int .i64 (p0.Actions.length : Int))), (34, (.int .i64 x724)), (43, (.bool (((rdD p0.Actions x724 z_Action).Next) == p0.States)))] [.cell ⟨g832, 2, none⟩ (.int .i64 ((rdD p0.Actions x724 z_Action).Next)), .cell ⟨g163, 0, none⟩ (.int .i64 p0.States)] (fun fb => by kernel_rfl) rfl ⟨hS837.cell 0 rfl 2 rfl, hS837.cell 1 rfl 0 rfl, trivial⟩ ?_
          refine WL.done rfl ?_
          refine WX.next ?_
          rcases br_some hx830 with ⟨h838, hx830⟩ | ⟨h838, hx830⟩
          · refine WC.condT2 (fun fb => by kernel_rfl) h838 ?_
            refine WC.seq ?_
            refine WC.region ?_
            refine seg 5 [.v (.slice A721 l723.length c722)] [1, 3, 32, 33, 34, 44, 48] [(1, (.pointer (some ⟨g163, 0, none⟩))), (3, (.pointer (some ⟨g167, 0, none⟩))), (32, (.slice A_p0_Actions p0.Actions.length c_p0_Actions)), (33, (.int .i64 (p0.Actions.length : Int))), (34, (.int .i64 x724)), (44, (.pointer (some ⟨g167, 0, none⟩))), (48, (.slice A721 l723.length c722))] [.cell ⟨g167, 4, none⟩ (.slice A721 l723.length c722)] (fun fb => by kernel_rfl) rfl ⟨hS837.cell 2 rfl 4 rfl, trivial⟩ ?_
            refine WL.new hS837 49 [] (fun g => (.slice (some ⟨g, 0, none⟩) 1 1)) (.cells #[(.int .i64 (-1))] 3 (0, 0)) [] (fun fb g => by kernel_rfl) trivial (fun g839 w840 hS841 => ?_)
            refine ⟨trivial, ?_⟩
            have hS843 : St NoS w w840 [rowR enc_Action A_p0_Actions c_p0_Actions p0.Actions] [rowO 3 encInt (some ⟨g839, 0, none⟩) 1 [(-1)], blk g832 (.cells #[(.int .i64 ((rdD p0.Actions x724 z_Action).Write)), (.int .i64 ((rdD p0.Actions x724 z_Action).Move)), (.int .i64 ((rdD p0.Actions x724 z_Action).Next))] 88 (0, 0)), blk g163 (.cells #[(.int .i64 p0.States), (.int .i64 p0.Symbols), (.slice A_p0_Actions p0.Actions.length c_p0_Actions)] 24 (0, 0)), blk g167 (.cells #[(.int .i64 p0.States), (.int .i64 p0.Symbols), (.slice A_p0_Actions p0.Actions.length c_p0_Actions), (.slice A718 l720.length c719), (.slice A721 l723.length c722), (.int .i64 0)] 96 (0, 0)), rowO 65 enc_Tile A718 c719 l720, rowO 3 encInt A721 c722 l723] := hS841.map1 0 _ (fun h => rowO.ofBlk h rfl (Nat.le_of_ble_eq_true (by kernel_rfl))) (fun _ h => by obtain ⟨_, h1, h2⟩ := h; injection h1 with h1; subst h1; exact h2) [1, 2, 3, 4, 5] (by decide) (by decide)
            obtain ⟨h844, hx830⟩ := as_some hx830
            refine WL.append hS843 5 (d := 50) (tS := 25) (z := (.int .i64 0)) (bytes := 8) (c2 := 1) rfl (fun fb => by kernel_rfl) (rowO.rd (hS843.own 0).1) (by kernel_rfl) (by kernel_rfl) rfl (by decide) h844 (by decide) [0, 1, 2, 3, 4] (by decide) (by decide) (fun A845 c846 w847 hS848 => ?_)
            refine ⟨trivial, ?_⟩
            refine seg 9 [] [1, 3, 32, 33, 34, 50, 52] [(1, (.pointer (some ⟨g163, 0, none⟩))), (3, (.pointer (some ⟨g167, 0, none⟩))), (32, (.slice A_p0_Actions p0.Actions.length c_p0_Actions)), (33, (.int .i64 (p0.Actions.length : Int))), (34, (.int .i64 x724)), (50, (.slice A845 (l723 ++ [(-1)]).length c846)), (52, (.pointer (some ⟨g167, 4, none⟩)))] [] (fun fb => by kernel_rfl) rfl trivial ?_
            refine WL.store hS848 4 rfl [(4, (.slice A845 (l723 ++ [(-1)]).length c846))] #[(.int .i64 p0.States), (.int .i64 p0.Symbols), (.slice A_p0_Actions p0.Actions.length c_p0_Actions), (.slice A718 l720.length c719), (.slice A845 (l723 ++ [(-1)]).length c846), (.int .i64 0)] (fun fb => by kernel_rfl) (by kernel_rfl) rfl [0, 1, 2, 3, 5] (by decide) (by decide) (fun w849 hS850 => ?_)
            refine ⟨trivial, ?_⟩
            refine WL.done rfl ?_
            refine WX.next ?_
            refine WC.exit ?_
            injection hx830 with hx830
            exact WX.thenX (WX.blockHere (WX.to Kx829 ((l720, l723 ++ [(-1)]), A718, c719, A845, c846) [1, 3, 32, 33, 34] rfl ⟨(hS850.subR [0]).sub [4, 0, 5, 1] (by decide), hx830.symm⟩))
          refine WC.condF2 (fun fb => by kernel_rfl) h838 ?_
          refine WC.skip ?_
          refine WX.next ?_
          refine WC.seq ?_
          refine WC.regionD ([(4, ⟨g167, 4, none⟩, (.slice A721 l723.length c722)), (8, ⟨g167, 3, none⟩, (.slice A718 l720.length c719))], [0, 1, 2, 3, 4, 5, 6, 7, 8, 9, 12, 13], [[], [], [1], [1, 2], [1, 2, 3], [], [5], [5, 6], [5, 6, 7], [5, 6, 7, 8], [5, 6, 7, 8, 9], [1, 2, 3, 4, 5, 6, 7, 8, 9, 10], [0, 1, 2, 3, 4, 5, 6, 7, 8, 9, 10, 11], [0, 1, 2, 3, 4, 5, 6, 7, 8, 9, 10, 11, 12], [0, 1, 2, 3, 4, 5, 6, 7, 8, 9, 10, 11, 12, 13]]) [[0, 1, 2, 3, 4, 5, 6, 7, 8, 9, 10, 11, 12, 13, 14]] (by kernel_rfl) (by kernel_rfl) (NoPanic.seq (NoPanic.block (NoPanic.seq (NoPanic.seq (NoPanic.block (NoPanic.seq (NoPanic.body))))))) ?_
          have hS864 := hS837.drew
          revert hS864
          generalize World.drew w836 = w863
          intro hS864
          refine ⟨⟨hS864.cell 2 rfl 4 rfl, hS864.cell 2 rfl 3 rfl, trivial⟩, forallC ?_ (forallN)⟩
          refine segF 10 [.v (.slice A721 l723.length c722), .v (.slice A718 l720.length c719)] [1, 3, 5, 6, 32, 33, 34, 53, 57, 62] [(1, (.pointer (some ⟨g163, 0, none⟩))), (3, (.pointer (some ⟨g167, 0, none⟩))), (5, (.int .i64 x724)), (6, (.pointer (some ⟨g832, 0, none⟩))), (32, (.slice A_p0_Actions p0.Actions.length c_p0_Actions)), (33, (.int .i64 (p0.Actions.length : Int))), (34, (.int .i64 x724)), (53, (.pointer (some ⟨g167, 0, none⟩))), (57, (.slice A721 l723.length c722)), (62, (.int .i64 (l720.length : Int)))] [] [0, 1] [(4, ⟨g167, 4, none⟩, (.slice A721 l723.length c722)), (8, ⟨g167, 3, none⟩, (.slice A718 l720.length c719))] (fun fb => by kernel_rfl) rfl trivial rfl ?_
          refine WL.new hS864 63 [] (fun g => (.slice (some ⟨g, 0, none⟩) 1 1)) (.cells #[(.int .i64 (l720.length : Int))] 3 (0, 0)) [] (fun fb g => by kernel_rfl) trivial (fun g865 w866 hS867 => ?_)
          refine ⟨⟨hS867.cell 3 rfl 4 rfl, trivial⟩, ?_⟩
          have hS869 : St NoS w w866 [rowR enc_Action A_p0_Actions c_p0_Actions p0.Actions] [rowO 3 encInt (some ⟨g865, 0, none⟩) 1 [(l720.length : Int)], blk g832 (.cells #[(.int .i64 ((rdD p0.Actions x724 z_Action).Write)), (.int .i64 ((rdD p0.Actions x724 z_Action).Move)), (.int .i64 ((rdD p0.Actions x724 z_Action).Next))] 88 (0, 0)), blk g163 (.cells #[(.int .i64 p0.States), (.int .i64 p0.Symbols), (.slice A_p0_Actions p0.Actions.length c_p0_Actions)] 24 (0, 0)), blk g167 (.cells #[(.int .i64 p0.States), (.int .i64 p0.Symbols), (.slice A_p0_Actions p0.Actions.length c_p0_Actions), (.slice A718 l720.length c719), (.slice A721 l723.length c722), (.int .i64 0)] 96 (0, 0)), rowO 65 enc_Tile A718 c719 l720, rowO 3 encInt A721 c722 l723] := hS867.map1 0 _ (fun h => rowO.ofBlk h rfl (Nat.le_of_ble_eq_true (by kernel_rfl))) (fun _ h => by obtain ⟨_, h1, h2⟩ := h; injection h1 with h1; subst h1; exact h2) [1, 2, 3, 4, 5] (by decide) (by decide)
          obtain ⟨h870, hx830⟩ := as_some hx830
          refine WL.append hS869 5 (d := 64) (tS := 25) (z := (.int .i64 0)) (bytes := 8) (c2 := 1) rfl (fun fb => by kernel_rfl) (rowO.rd (hS869.own 0).1) (by kernel_rfl) (by kernel_rfl) rfl (by decide) h870 (by decide) [0, 1, 2, 3, 4] (by decide) (by decide) (fun A871 c872 w873 hS874 => ?_)
          refine ⟨trivial, ?_⟩
          refine seg 14 [] [1, 3, 5, 6, 32, 33, 34, 64, 66] [(1, (.pointer (some ⟨g163, 0, none⟩))), (3, (.pointer (some ⟨g167, 0, none⟩))), (5, (.int .i64 x724)), (6, (.pointer (some ⟨g832, 0, none⟩))), (32, (.slice A_p0_Actions p0.Actions.length c_p0_Actions)), (33, (.int .i64 (p0.Actions.length : Int))), (34, (.int .i64 x724)), (64, (.slice A871 (l723 ++ [(l720.length : Int)]).length c872)), (66, (.pointer (some ⟨g167, 4, none⟩)))] [] (fun fb => by kernel_rfl) rfl trivial ?_
          refine WL.store hS874 4 rfl [(4, (.slice A871 (l723 ++ [(l720.length : Int)]).length c872))] #[(.int .i64 p0.States), (.int .i64 p0.Symbols), (.slice A_p0_Actions p0.Actions.length c_p0_Actions), (.slice A718 l720.length c719), (.slice A871 (l723 ++ [(l720.length : Int)]).length c872), (.int .i64 0)] (fun fb => by kernel_rfl) (by kernel_rfl) rfl [0, 1, 2, 3, 5] (by decide) (by decide) (fun w875 hS876 => ?_)
          refine ⟨trivial, ?_⟩
          refine WL.done rfl ?_
          refine WX.next ?_
          obtain ⟨h898, hx830⟩ := as_some hx830
          refine WC.regionD ([(4, ⟨g167, 3, none⟩, (.slice A718 l720.length c719)), (8, ⟨g163, 1, none⟩, (.int .i64 p0.Symbols)), (12, ⟨g163, 1, none⟩, (.int .i64 p0.Symbols)), (14, ⟨g832, 0, none⟩, (.int .i64 ((rdD p0.Actions x724 z_Action).Write))), (14, ⟨g832, 1, none⟩, (.int .i64 ((rdD p0.Actions x724 z_Action).Move))), (14, ⟨g832, 2, none⟩, (.int .i64 ((rdD p0.Actions x724 z_Action).Next)))], [0, 1, 2, 3, 4, 5, 6, 7, 8, 9, 10, 11, 12, 13, 14, 18, 19], [[], [], [1], [1, 2], [1, 2, 3], [], [], [], [7], [6, 7, 8], [], [], [11], [10, 11, 12], [], [5, 6, 7, 8, 9, 10, 11, 12, 13, 14], [5, 6, 7, 8, 9, 10, 11, 12, 13, 14, 15], [1, 2, 3, 4, 5, 6, 7, 8, 9, 10, 11, 12, 13, 14, 15, 16], [0, 1, 2, 3, 4, 5, 6, 7, 8, 9, 10, 11, 12, 13, 14, 15, 16, 17], [0, 1, 2, 3, 4, 5, 6, 7, 8, 9, 10, 11, 12, 13, 14, 15, 16, 17, 18], [0, 1, 2, 3, 4, 5, 6, 7, 8, 9, 10, 11, 12, 13, 14, 15, 16, 17, 18, 19]]) [[0, 1, 2, 3, 4, 5, 6, 7, 8, 9, 10, 11, 12, 13, 14, 15, 16, 17, 18, 19, 20]] (by kernel_rfl) (by kernel_rfl) (NoPanic.block (NoPanic.seq (NoPanic.seq (NoPanic.block (NoPanic.seq (NoPanic.body)))))) ?_
          have hS896 := hS876.drew
          revert hS896
          generalize World.drew w875 = w895
          intro hS896
          refine ⟨⟨hS896.cell 0 rfl 3 rfl, hS896.cell 4 rfl 1 rfl, hS896.cell 4 rfl 1 rfl, hS896.cell 3 rfl 0 rfl, hS896.cell 3 rfl 1 rfl, hS896.cell 3 rfl 2 rfl, trivial⟩, forallC ?_ (forallN)⟩
          refine segF 15 [.v (.slice A718 l720.length c719), .v (.int .i64 p0.Symbols), .v (.int .i64 p0.Symbols), .v (.int .i64 ((rdD p0.Actions x724 z_Action).Write)), .v (.int .i64 ((rdD p0.Actions x724 z_Action).Move)), .v (.int .i64 ((rdD p0.Actions x724 z_Action).Next))] [1, 3, 32, 33, 34, 67, 71, 72, 76, 80, 81] [(1, (.pointer (some ⟨g163, 0, none⟩))), (3, (.pointer (some ⟨g167, 0, none⟩))), (32, (.slice A_p0_Actions p0.Actions.length c_p0_Actions)), (33, (.int .i64 (p0.Actions.length : Int))), (34, (.int .i64 x724)), (67, (.pointer (some ⟨g167, 0, none⟩))), (71, (.slice A718 l720.length c719)), (72, (.pointer (some ⟨g167, 0, none⟩))), (76, (.int .i64 (w64 (Int.tdiv x724 p0.Symbols)))), (80, (.int .i64 (Int.tmod x724 p0.Symbols))), (81, (.agg #[(.int .i64 ((rdD p0.Actions x724 z_Action).Write)), (.int .i64 ((rdD p0.Actions x724 z_Action).Move)), (.int .i64 ((rdD p0.Actions x724 z_Action).Next))]))] [.ne p0.Symbols, .ne p0.Symbols] [0, 1, 2, 3, 4, 5] [(4, ⟨g167, 3, none⟩, (.slice A718 l720.length c719)), (8, ⟨g163, 1, none⟩, (.int .i64 p0.Symbols)), (12, ⟨g163, 1, none⟩, (.int .i64 p0.Symbols)), (14, ⟨g832, 0, none⟩, (.int .i64 ((rdD p0.Actions x724 z_Action).Write))), (14, ⟨g832, 1, none⟩, (.int .i64 ((rdD p0.Actions x724 z_Action).Move))), (14, ⟨g832, 2, none⟩, (.int .i64 ((rdD p0.Actions x724 z_Action).Next)))] (fun fb => by kernel_rfl) rfl ⟨h898, h898, trivial⟩ rfl ?_
          obtain ⟨t899, ht900, hx830⟩ := bind_some hx830
          refine WL.call (some 82) 60 #[(.pointer (some ⟨g167, 0, none⟩)), (.int .i64 (w64 (Int.tdiv x724 p0.Symbols))), (.int .i64 (Int.tmod x724 p0.Symbols)), (.agg #[(.int .i64 ((rdD p0.Actions x724 z_Action).Write)), (.int .i64 ((rdD p0.Actions x724 z_Action).Move)), (.int .i64 ((rdD p0.Actions x724 z_Action).Next))])] (fun fb => by kernel_rfl) (machine_kit_acts_calls (Kit.mk p0 l720 (l723 ++ [(l720.length : Int)]) 0) (w64 (Int.tdiv x724 p0.Symbols)) (Int.tmod x724 p0.Symbols) (rdD p0.Actions x724 z_Action) g167 A_p0_Actions c_p0_Actions A718 c719 A871 c872 t899 _ (hS896.ow 0) (hS896.rd 0) (hS896.ow 5).ofO (hS896.ow 1).ofO ht900) (fun v w901 hR902 => ?_)
          obtain ⟨rfl, hk_⟩ := hR902
          have hS903 := hS896.keepN hk_
          refine ⟨⟨hS903.cell 0 rfl 3 rfl, trivial⟩, ?_⟩
          refine WL.new hS903 83 [] (fun g => (.slice (some ⟨g, 0, none⟩) 1 1)) (.cells #[(.int .i64 t899.N), (.int .i64 t899.E), (.int .i64 t899.S), (.int .i64 t899.W)] 65 (0, 0)) [] (fun fb g => by kernel_rfl) trivial (fun g904 w905 hS906 => ?_)
          refine ⟨⟨hS906.cell 1 rfl 3 rfl, trivial⟩, ?_⟩
          have hS908 : St NoS w w905 [rowR enc_Action A_p0_Actions c_p0_Actions p0.Actions] [rowO 65 enc_Tile (some ⟨g904, 0, none⟩) 1 [t899], blk g167 (.cells #[(.int .i64 p0.States), (.int .i64 p0.Symbols), (.slice A_p0_Actions p0.Actions.length c_p0_Actions), (.slice A718 l720.length c719), (.slice A871 (l723 ++ [(l720.length : Int)]).length c872), (.int .i64 0)] 96 (0, 0)), rowO 3 encInt A871 c872 (l723 ++ [(l720.length : Int)]), rowO 3 encInt (some ⟨g865, 0, none⟩) 1 [(l720.length : Int)], blk g832 (.cells #[(.int .i64 ((rdD p0.Actions x724 z_Action).Write)), (.int .i64 ((rdD p0.Actions x724 z_Action).Move)), (.int .i64 ((rdD p0.Actions x724 z_Action).Next))] 88 (0, 0)), blk g163 (.cells #[(.int .i64 p0.States), (.int .i64 p0.Symbols), (.slice A_p0_Actions p0.Actions.length c_p0_Actions)] 24 (0, 0)), rowO 65 enc_Tile A718 c719 l720] := hS906.map1 0 _ (fun h => rowO.ofBlk h rfl (Nat.le_of_ble_eq_true (by kernel_rfl))) (fun _ h => by obtain ⟨_, h1, h2⟩ := h; injection h1 with h1; subst h1; exact h2) [1, 2, 3, 4, 5, 6] (by decide) (by decide)
          obtain ⟨h909, hx830⟩ := as_some hx830
          refine WL.append hS908 6 (d := 84) (tS := 50) (z := (.agg #[(.int .i64 0), (.int .i64 0), (.int .i64 0), (.int .i64 0)])) (bytes := 32) (c2 := 1) rfl (fun fb => by kernel_rfl) (rowO.rd (hS908.own 0).1) (by kernel_rfl) (by kernel_rfl) rfl (by decide) h909 (by decide) [0, 1, 2, 3, 4, 5] (by decide) (by decide) (fun A910 c911 w912 hS913 => ?_)
          refine ⟨trivial, ?_⟩
          refine seg 20 [] [1, 3, 32, 33, 34, 84, 86] [(1, (.pointer (some ⟨g163, 0, none⟩))), (3, (.pointer (some ⟨g167, 0, none⟩))), (32, (.slice A_p0_Actions p0.Actions.length c_p0_Actions)), (33, (.int .i64 (p0.Actions.length : Int))), (34, (.int .i64 x724)), (84, (.slice A910 (l720 ++ [t899]).length c911)), (86, (.pointer (some ⟨g167, 3, none⟩)))] [] (fun fb => by kernel_rfl) rfl trivial ?_
          refine WL.store hS913 2 rfl [(3, (.slice A910 (l720 ++ [t899]).length c911))] #[(.int .i64 p0.States), (.int .i64 p0.Symbols), (.slice A_p0_Actions p0.Actions.length c_p0_Actions), (.slice A910 (l720 ++ [t899]).length c911), (.slice A871 (l723 ++ [(l720.length : Int)]).length c872), (.int .i64 0)] (fun fb => by kernel_rfl) (by kernel_rfl) rfl [0, 1, 3, 4, 5, 6] (by decide) (by decide) (fun w914 hS915 => ?_)
          refine ⟨trivial, ?_⟩
          refine WL.done rfl ?_
          injection hx830 with hx830
          exact WX.blockN (WX.to Kx829 ((l720 ++ [t899], l723 ++ [(l720.length : Int)]), A910, c911, A871, c872) [1, 3, 32, 33, 34] rfl ⟨(hS915.subR [0]).sub [6, 0, 1, 3] (by decide), hx830.symm⟩)
        rintro ⟨y919, A823, c824, A826, c827⟩ w916 ⟨hS917, hq918⟩
        subst hq918
        refine WX.next ?_
        refine WC.region ?_
        refine seg 2 [] [1, 3, 32, 33, 34] [(1, (.pointer (some ⟨g163, 0, none⟩))), (3, (.pointer (some ⟨g167, 0, none⟩))), (32, (.slice A_p0_Actions p0.Actions.length c_p0_Actions)), (33, (.int .i64 (p0.Actions.length : Int))), (34, (.int .i64 (w64 (x724 + 1))))] [] (fun fb => by kernel_rfl) rfl trivial ?_
        refine WL.done rfl ?_
        exact WX.again k733 (Nat.lt_succ_self _) ((x829.1, x829.2, w64 (x724 + 1)), A823, c824, A826, c827) [1, 3, 32, 33, 34] rfl ⟨(hS917.subR [0]).sub [0, 1, 2, 3] (by decide), hl736⟩
      refine WC.condF2 (fun fb => by kernel_rfl) h737 ?_
      refine WC.exit ?_
      injection hl736 with hl736
      exact WX.thenX (WX.thenX (WX.blockHere (WX.to Kx731 ((l720, l723), A718, c719, A721, c722) [1, 3] rfl ⟨(hS735.subR [0]).sub [0, 1, 2, 3] (by decide), hl736.symm⟩)))
  rintro ⟨y923, A725, c726, A728, c729⟩ w920 ⟨hS921, hq922⟩
  subst hq922
  refine WX.next ?_
  refine WC.seq ?_
  refine WC.region ?_
  refine seg 8 [.v (.slice A725 x731.1.length c726)] [1, 3, 93, 95] [(1, (.pointer (some ⟨g163, 0, none⟩))), (3, (.pointer (some ⟨g167, 0, none⟩))), (93, (.int .i64 (x731.1.length : Int))), (95, (.pointer (some ⟨g167, 5, none⟩)))] [.cell ⟨g167, 3, none⟩ (.slice A725 x731.1.length c726)] (fun fb => by kernel_rfl) rfl ⟨hS921.cell 1 rfl 3 rfl, trivial⟩ ?_
  refine WL.store hS921 1 rfl [(5, (.int .i64 (x731.1.length : Int)))] #[(.int .i64 p0.States), (.int .i64 p0.Symbols), (.slice A_p0_Actions p0.Actions.length c_p0_Actions), (.slice A725 x731.1.length c726), (.slice A728 x731.2.length c729), (.int .i64 (x731.1.length : Int))] (fun fb => by kernel_rfl) (by kernel_rfl) rfl [0, 2, 3] (by decide) (by decide) (fun w924 hS925 => ?_)
  refine ⟨trivial, ?_⟩
  refine WL.done rfl ?_
  refine WX.next ?_
  refine WC.seq ?_
  refine WC.seq ?_
  refine WC.region ?_
  refine seg 3 [.v (.int .i64 p0.States)] [1, 3, 97, 98] [(1, (.pointer (some ⟨g163, 0, none⟩))), (3, (.pointer (some ⟨g167, 0, none⟩))), (97, (.int .i64 p0.States)), (98, (.int .i64 0))] [.cell ⟨g163, 0, none⟩ (.int .i64 p0.States)] (fun fb => by kernel_rfl) rfl ⟨hS925.cell 1 rfl 0 rfl, trivial⟩ ?_
  refine WL.done rfl ?_
  refine WX.next ?_
  obtain ⟨x1293, hx1294, hf⟩ := bind_some hf
  refine WC.cutN (T := (List Tile) × (Option Addr) × Nat) (fun t => [(3, (.pointer (some ⟨g167, 0, none⟩)))]) (fun t w1 => St NoS w w1 [rowR enc_Action A_p0_Actions c_p0_Actions p0.Actions] [blk g167 (.cells #[(.int .i64 p0.States), (.int .i64 p0.Symbols), (.slice A_p0_Actions p0.Actions.length c_p0_Actions), (.slice t.2.1 t.1.length t.2.2), (.slice A728 x731.2.length c729), (.int .i64 (x731.1.length : Int))] 96 (0, 0)), rowO 65 enc_Tile t.2.1 t.2.2 t.1, rowO 3 encInt A728 c729 x731.2] ∧ x1293 = t.1) (fun Kx1293 => ?_) ?_
  ·
    refine WC.block ?_
    refine WC.loop (T := ((List Tile) × Int) × (Option Addr) × Nat) (fun t => [(1, (.pointer (some ⟨g163, 0, none⟩))), (3, (.pointer (some ⟨g167, 0, none⟩))), (97, (.int .i64 p0.States)), (98, (.int .i64 t.1.2))]) (fun n t w1 => St NoS w w1 [rowR enc_Action A_p0_Actions c_p0_Actions p0.Actions] [blk g163 (.cells #[(.int .i64 p0.States), (.int .i64 p0.Symbols), (.slice A_p0_Actions p0.Actions.length c_p0_Actions)] 24 (0, 0)), blk g167 (.cells #[(.int .i64 p0.States), (.int .i64 p0.Symbols), (.slice A_p0_Actions p0.Actions.length c_p0_Actions), (.slice t.2.1 t.1.1.length t.2.2), (.slice A728 x731.2.length c729), (.int .i64 (x731.1.length : Int))] 96 (0, 0)), rowO 65 enc_Tile t.2.1 t.2.2 t.1.1, rowO 3 encInt A728 c729 x731.2] ∧ machine_kitOf.l2 n t.1.1 t.1.2 p0 x731 = some x1293) k ((x731.1, 0), A725, c726) [1, 3, 97, 98] rfl ⟨(hS925.subR [0]).sub [1, 0, 2, 3] (by decide), hx1294⟩ ?_
    rintro k1295 ⟨⟨l1288, x1289⟩, A1286, c1287⟩ w1296 ⟨hS1297, hl1298⟩
    cases k1295 with
    | zero => rw [machine_kitOf.l2] at hl1298; cases hl1298
    | succ k1295 =>
      rw [machine_kitOf.l2] at hl1298
      refine WC.seq ?_
      refine WC.region ?_
      refine seg 1 [] [1, 3, 97, 98, 99] [(1, (.pointer (some ⟨g163, 0, none⟩))), (3, (.pointer (some ⟨g167, 0, none⟩))), (97, (.int .i64 p0.States)), (98, (.int .i64 x1289)), (99, (.bool (decide (x1289 < p0.States))))] [] (fun fb => by kernel_rfl) rfl trivial ?_
      refine WL.done rfl ?_
      refine WX.next ?_
      refine WC.seq ?_
      rcases br_some hl1298 with ⟨h1299, hl1298⟩ | ⟨h1299, hl1298⟩
      · refine WC.condT2 (fun fb => by kernel_rfl) h1299 ?_
        refine WC.skip ?_
        refine WX.next ?_
        refine WC.seq ?_
        refine WC.block ?_
        refine WC.seq ?_
        refine WC.region ?_
        refine seg 2 [] [1, 3, 7, 97, 98] [(1, (.pointer (some ⟨g163, 0, none⟩))), (3, (.pointer (some ⟨g167, 0, none⟩))), (7, (.int .i64 x1289)), (97, (.int .i64 p0.States)), (98, (.int .i64 x1289))] [] (fun fb => by kernel_rfl) rfl trivial ?_
        refine WL.done rfl ?_
        refine WX.next ?_
        refine WC.seq ?_
        refine WC.region ?_
        refine seg 3 [.v (.int .i64 p0.Symbols)] [1, 3, 7, 97, 98, 102, 103] [(1, (.pointer (some ⟨g163, 0, none⟩))), (3, (.pointer (some ⟨g167, 0, none⟩))), (7, (.int .i64 x1289)), (97, (.int .i64 p0.States)), (98, (.int .i64 x1289)), (102, (.int .i64 p0.Symbols)), (103, (.int .i64 0))] [.cell ⟨g163, 1, none⟩ (.int .i64 p0.Symbols)] (fun fb => by kernel_rfl) rfl ⟨hS1297.cell 0 rfl 1 rfl, trivial⟩ ?_
        refine WL.done rfl ?_
        refine WX.next ?_
        obtain ⟨x1415, hx1416, hl1298⟩ := bind_some hl1298
        refine WC.cutN (T := (List Tile) × (Option Addr) × Nat) (fun t => [(1, (.pointer (some ⟨g163, 0, none⟩))), (3, (.pointer (some ⟨g167, 0, none⟩))), (97, (.int .i64 p0.States)), (98, (.int .i64 x1289))]) (fun t w1 => St NoS w w1 [rowR enc_Action A_p0_Actions c_p0_Actions p0.Actions] [blk g163 (.cells #[(.int .i64 p0.States), (.int .i64 p0.Symbols), (.slice A_p0_Actions p0.Actions.length c_p0_Actions)] 24 (0, 0)), blk g167 (.cells #[(.int .i64 p0.States), (.int .i64 p0.Symbols), (.slice A_p0_Actions p0.Actions.length c_p0_Actions), (.slice t.2.1 t.1.length t.2.2), (.slice A728 x731.2.length c729), (.int .i64 (x731.1.length : Int))] 96 (0, 0)), rowO 65 enc_Tile t.2.1 t.2.2 t.1, rowO 3 encInt A728 c729 x731.2] ∧ x1415 = t.1) (fun Kx1415 => ?_) ?_
        ·
          refine WC.block ?_
          refine WC.loop (T := ((List Tile) × Int) × (Option Addr) × Nat) (fun t => [(1, (.pointer (some ⟨g163, 0, none⟩))), (3, (.pointer (some ⟨g167, 0, none⟩))), (7, (.int .i64 x1289)), (97, (.int .i64 p0.States)), (98, (.int .i64 x1289)), (102, (.int .i64 p0.Symbols)), (103, (.int .i64 t.1.2))]) (fun n t w1 => St NoS w w1 [rowR enc_Action A_p0_Actions c_p0_Actions p0.Actions] [blk g163 (.cells #[(.int .i64 p0.States), (.int .i64 p0.Symbols), (.slice A_p0_Actions p0.Actions.length c_p0_Actions)] 24 (0, 0)), blk g167 (.cells #[(.int .i64 p0.States), (.int .i64 p0.Symbols), (.slice A_p0_Actions p0.Actions.length c_p0_Actions), (.slice t.2.1 t.1.1.length t.2.2), (.slice A728 x731.2.length c729), (.int .i64 (x731.1.length : Int))] 96 (0, 0)), rowO 65 enc_Tile t.2.1 t.2.2 t.1.1, rowO 3 encInt A728 c729 x731.2] ∧ machine_kitOf.l3 n t.1.1 t.1.2 p0 x731 x1289 = some x1415) k1295 ((l1288, 0), A1286, c1287) [1, 3, 7, 97, 98, 102, 103] rfl ⟨(hS1297.subR [0]).sub [0, 1, 2, 3] (by decide), hx1416⟩ ?_
          rintro k1417 ⟨⟨l1410, x1411⟩, A1408, c1409⟩ w1418 ⟨hS1419, hl1420⟩
          cases k1417 with
          | zero => rw [machine_kitOf.l3] at hl1420; cases hl1420
          | succ k1417 =>
            rw [machine_kitOf.l3] at hl1420
            refine WC.seq ?_
            refine WC.region ?_
            refine seg 1 [] [1, 3, 7, 97, 98, 102, 103, 104] [(1, (.pointer (some ⟨g163, 0, none⟩))), (3, (.pointer (some ⟨g167, 0, none⟩))), (7, (.int .i64 x1289)), (97, (.int .i64 p0.States)), (98, (.int .i64 x1289)), (102, (.int .i64 p0.Symbols)), (103, (.int .i64 x1411)), (104, (.bool (decide (x1411 < p0.Symbols))))] [] (fun fb => by kernel_rfl) rfl trivial ?_
            refine WL.done rfl ?_
            refine WX.next ?_
            refine WC.seq ?_
            rcases br_some hl1420 with ⟨h1421, hl1420⟩ | ⟨h1421, hl1420⟩
            · refine WC.condT2 (fun fb => by kernel_rfl) h1421 ?_
              refine WC.skip ?_
              refine WX.next ?_
              refine WC.seq ?_
              refine WC.block ?_
              refine WC.seq ?_
              refine WC.region ?_
              refine seg 2 [] [1, 3, 7, 8, 97, 98, 102, 103] [(1, (.pointer (some ⟨g163, 0, none⟩))), (3, (.pointer (some ⟨g167, 0, none⟩))), (7, (.int .i64 x1289)), (8, (.int .i64 x1411)), (97, (.int .i64 p0.States)), (98, (.int .i64 x1289)), (102, (.int .i64 p0.Symbols)), (103, (.int .i64 x1411))] [] (fun fb => by kernel_rfl) rfl trivial ?_
              refine WL.done rfl ?_
              refine WX.next ?_
              refine WC.seq ?_
              refine WC.region ?_
              refine seg 3 [.v (.int .i64 p0.States), .v (.int .i64 p0.Symbols), .v (.slice A_p0_Actions p0.Actions.length c_p0_Actions)] [1, 3, 7, 8, 97, 98, 102, 103, 106, 107, 108] [(1, (.pointer (some ⟨g163, 0, none⟩))), (3, (.pointer (some ⟨g167, 0, none⟩))), (7, (.int .i64 x1289)), (8, (.int .i64 x1411)), (97, (.int .i64 p0.States)), (98, (.int .i64 x1289)), (102, (.int .i64 p0.Symbols)), (103, (.int .i64 x1411)), (106, (.agg #[(.int .i64 p0.States), (.int .i64 p0.Symbols), (.slice A_p0_Actions p0.Actions.length c_p0_Actions)])), (107, (.int .i64 x1289)), (108, (.int .i64 x1411))] [.cell ⟨g163, 0, none⟩ (.int .i64 p0.States), .cell ⟨g163, 1, none⟩ (.int .i64 p0.Symbols), .cell ⟨g163, 2, none⟩ (.slice A_p0_Actions p0.Actions.length c_p0_Actions)] (fun fb => by kernel_rfl) rfl ⟨hS1419.cell 0 rfl 0 rfl, hS1419.cell 0 rfl 1 rfl, hS1419.cell 0 rfl 2 rfl, trivial⟩ ?_
              obtain ⟨t1422, ht1423, hl1420⟩ := bind_some hl1420
              refine WL.call (some 109) 61 #[(.agg #[(.int .i64 p0.States), (.int .i64 p0.Symbols), (.slice A_p0_Actions p0.Actions.length c_p0_Actions)]), (.int .i64 x1289), (.int .i64 x1411)] (fun fb => by kernel_rfl) (machine_head_calls p0 x1289 x1411 A_p0_Actions c_p0_Actions t1422 _ (hS1419.rd 0) ht1423) (fun v w1424 hR1425 => ?_)
              obtain ⟨rfl, hk_⟩ := hR1425
              have hS1426 := hS1419.keepN hk_
              refine ⟨trivial, ?_⟩
              refine seg 5 [] [1, 3, 7, 8, 9, 97, 98, 102, 103] [(1, (.pointer (some ⟨g163, 0, none⟩))), (3, (.pointer (some ⟨g167, 0, none⟩))), (7, (.int .i64 x1289)), (8, (.int .i64 x1411)), (9, (.int .i64 t1422)), (97, (.int .i64 p0.States)), (98, (.int .i64 x1289)), (102, (.int .i64 p0.Symbols)), (103, (.int .i64 x1411))] [] (fun fb => by kernel_rfl) rfl trivial ?_
              refine WL.done rfl ?_
              refine WX.next ?_
              refine WC.regionD ([(4, ⟨g167, 3, none⟩, (.slice A1408 l1410.length c1409))], [0, 1, 2, 3, 4, 5, 6, 7, 8, 10, 11, 12, 13, 14, 16, 19, 20], [[], [], [1], [1, 2], [1, 2, 3], [], [], [], [], [7, 8], [5, 6, 7, 8, 9], [], [], [], [], [7, 8, 9, 13, 14], [7, 8, 9, 11, 12, 13, 14, 15], [5, 6, 7, 8, 9, 10, 11, 12, 13, 14, 15, 16], [1, 2, 3, 4, 5, 6, 7, 8, 9, 10, 11, 12, 13, 14, 15, 16, 17], [0, 1, 2, 3, 4, 5, 6, 7, 8, 9, 10, 11, 12, 13, 14, 15, 16, 17, 18], [0, 1, 2, 3, 4, 5, 6, 7, 8, 9, 10, 11, 12, 13, 14, 15, 16, 17, 18, 19], [0, 1, 2, 3, 4, 5, 6, 7, 8, 9, 10, 11, 12, 13, 14, 15, 16, 17, 18, 19, 20]]) [[0, 1, 2, 3, 4, 5, 6, 7, 8, 11, 12, 13, 14, 9, 10, 15, 16, 17, 18, 19, 20, 21]] (by kernel_rfl) (by kernel_rfl) (NoPanic.block (NoPanic.seq (NoPanic.seq (NoPanic.block (NoPanic.block (NoPanic.seq (NoPanic.seq (NoPanic.block (NoPanic.seq (NoPanic.body)))))))))) ?_
              have hS1450 := hS1426.drew
              revert hS1450
              generalize World.drew w1424 = w1449
              intro hS1450
              refine ⟨⟨hS1450.cell 1 rfl 3 rfl, trivial⟩, forallC ?_ (forallN)⟩
              refine segF 13 [.v (.slice A1408 l1410.length c1409)] [1, 3, 7, 97, 98, 102, 103, 110, 114, 115, 116, 117, 118, 121, 122, 123, 124] [(1, (.pointer (some ⟨g163, 0, none⟩))), (3, (.pointer (some ⟨g167, 0, none⟩))), (7, (.int .i64 x1289)), (97, (.int .i64 p0.States)), (98, (.int .i64 x1289)), (102, (.int .i64 p0.Symbols)), (103, (.int .i64 x1411)), (110, (.pointer (some ⟨g167, 0, none⟩))), (114, (.slice A1408 l1410.length c1409)), (115, (.int .i64 t1422)), (116, (.int .i64 x1411)), (117, (.pointer (some ⟨g167, 0, none⟩))), (118, (.int .i64 x1289)), (121, (.int .i64 t1422)), (122, (.int .i64 x1411)), (123, (.pointer (some ⟨g167, 0, none⟩))), (124, (.int .i64 x1289))] [] [0] [(4, ⟨g167, 3, none⟩, (.slice A1408 l1410.length c1409))] (fun fb => by kernel_rfl) rfl trivial rfl ?_
              obtain ⟨t1451, ht1452, hl1420⟩ := bind_some hl1420
              refine WL.call (some 119) 62 #[(.pointer (some ⟨g167, 0, none⟩)), (.int .i64 1), (.int .i64 x1289)] (fun fb => by kernel_rfl) (machine_kit_signal_calls (Kit.mk p0 l1410 x731.2 (x731.1.length : Int)) 1 x1289 g167 A_p0_Actions c_p0_Actions A1408 c1409 A728 c729 t1451 _ (hS1450.ow 1) (hS1450.rd 0) (hS1450.ow 2).ofO (hS1450.ow 3).ofO ht1452) (fun v w1453 hR1454 => ?_)
              obtain ⟨rfl, hk_⟩ := hR1454
              have hS1455 := hS1450.keepN hk_
              refine ⟨⟨hS1455.cell 1 rfl 3 rfl, trivial⟩, ?_⟩
              refine seg 15 [] [1, 3, 7, 97, 98, 102, 103, 110, 114, 120, 121, 122, 123, 124] [(1, (.pointer (some ⟨g163, 0, none⟩))), (3, (.pointer (some ⟨g167, 0, none⟩))), (7, (.int .i64 x1289)), (97, (.int .i64 p0.States)), (98, (.int .i64 x1289)), (102, (.int .i64 p0.Symbols)), (103, (.int .i64 x1411)), (110, (.pointer (some ⟨g167, 0, none⟩))), (114, (.slice A1408 l1410.length c1409)), (120, (.agg #[(.int .i64 t1422), (.int .i64 0), (.int .i64 x1411), (.int .i64 t1451)])), (121, (.int .i64 t1422)), (122, (.int .i64 x1411)), (123, (.pointer (some ⟨g167, 0, none⟩))), (124, (.int .i64 x1289))] [] (fun fb => by kernel_rfl) rfl trivial ?_
              obtain ⟨t1456, ht1457, hl1420⟩ := bind_some hl1420
              refine WL.call (some 125) 62 #[(.pointer (some ⟨g167, 0, none⟩)), (.int .i64 0), (.int .i64 x1289)] (fun fb => by kernel_rfl) (machine_kit_signal_calls (Kit.mk p0 l1410 x731.2 (x731.1.length : Int)) 0 x1289 g167 A_p0_Actions c_p0_Actions A1408 c1409 A728 c729 t1456 _ (hS1455.ow 1) (hS1455.rd 0) (hS1455.ow 2).ofO (hS1455.ow 3).ofO ht1457) (fun v w1458 hR1459 => ?_)
              obtain ⟨rfl, hk_⟩ := hR1459
              have hS1460 := hS1455.keepN hk_
              refine ⟨⟨hS1460.cell 1 rfl 3 rfl, trivial⟩, ?_⟩
              refine seg 17 [] [1, 3, 7, 97, 98, 102, 103, 110, 114, 120, 126] [(1, (.pointer (some ⟨g163, 0, none⟩))), (3, (.pointer (some ⟨g167, 0, none⟩))), (7, (.int .i64 x1289)), (97, (.int .i64 p0.States)), (98, (.int .i64 x1289)), (102, (.int .i64 p0.Symbols)), (103, (.int .i64 x1411)), (110, (.pointer (some ⟨g167, 0, none⟩))), (114, (.slice A1408 l1410.length c1409)), (120, (.agg #[(.int .i64 t1422), (.int .i64 0), (.int .i64 x1411), (.int .i64 t1451)])), (126, (.agg #[(.int .i64 t1422), (.int .i64 t1456), (.int .i64 x1411), (.int .i64 0)]))] [] (fun fb => by kernel_rfl) rfl trivial ?_
              refine WL.new hS1460 127 [] (fun g => (.slice (some ⟨g, 0, none⟩) 2 2)) (.cells #[(.int .i64 t1422), (.int .i64 0), (.int .i64 x1411), (.int .i64 t1451), (.int .i64 t1422), (.int .i64 t1456), (.int .i64 x1411), (.int .i64 0)] 65 (0, 0)) [] (fun fb g => by kernel_rfl) trivial (fun g1461 w1462 hS1463 => ?_)
              refine ⟨⟨hS1463.cell 2 rfl 3 rfl, trivial⟩, ?_⟩
              have hS1465 : St NoS w w1462 [rowR enc_Action A_p0_Actions c_p0_Actions p0.Actions] [rowO 65 enc_Tile (some ⟨g1461, 0, none⟩) 2 [(Tile.mk t1422 0 x1411 t1451), (Tile.mk t1422 t1456 x1411 0)], blk g163 (.cells #[(.int .i64 p0.States), (.int .i64 p0.Symbols), (.slice A_p0_Actions p0.Actions.length c_p0_Actions)] 24 (0, 0)), blk g167 (.cells #[(.int .i64 p0.States), (.int .i64 p0.Symbols), (.slice A_p0_Actions p0.Actions.length c_p0_Actions), (.slice A1408 l1410.length c1409), (.slice A728 x731.2.length c729), (.int .i64 (x731.1.length : Int))] 96 (0, 0)), rowO 65 enc_Tile A1408 c1409 l1410, rowO 3 encInt A728 c729 x731.2] := hS1463.map1 0 _ (fun h => rowO.ofBlk h rfl (Nat.le_of_ble_eq_true (by kernel_rfl))) (fun _ h => by obtain ⟨_, h1, h2⟩ := h; injection h1 with h1; subst h1; exact h2) [1, 2, 3, 4] (by decide) (by decide)
              obtain ⟨h1466, hl1420⟩ := as_some hl1420
              refine WL.append hS1465 3 (d := 128) (tS := 50) (z := (.agg #[(.int .i64 0), (.int .i64 0), (.int .i64 0), (.int .i64 0)])) (bytes := 32) (c2 := 2) rfl (fun fb => by kernel_rfl) (rowO.rd (hS1465.own 0).1) (by kernel_rfl) (by kernel_rfl) rfl (by decide) h1466 (by decide) [0, 1, 2, 4] (by decide) (by decide) (fun A1467 c1468 w1469 hS1470 => ?_)
              refine ⟨trivial, ?_⟩
              refine seg 21 [] [1, 3, 7, 97, 98, 102, 103, 128, 130] [(1, (.pointer (some ⟨g163, 0, none⟩))), (3, (.pointer (some ⟨g167, 0, none⟩))), (7, (.int .i64 x1289)), (97, (.int .i64 p0.States)), (98, (.int .i64 x1289)), (102, (.int .i64 p0.Symbols)), (103, (.int .i64 x1411)), (128, (.slice A1467 (l1410 ++ [(Tile.mk t1422 0 x1411 t1451), (Tile.mk t1422 t1456 x1411 0)]).length c1468)), (130, (.pointer (some ⟨g167, 3, none⟩)))] [] (fun fb => by kernel_rfl) rfl trivial ?_
              refine WL.store hS1470 3 rfl [(3, (.slice A1467 (l1410 ++ [(Tile.mk t1422 0 x1411 t1451), (Tile.mk t1422 t1456 x1411 0)]).length c1468))] #[(.int .i64 p0.States), (.int .i64 p0.Symbols), (.slice A_p0_Actions p0.Actions.length c_p0_Actions), (.slice A1467 (l1410 ++ [(Tile.mk t1422 0 x1411 t1451), (Tile.mk t1422 t1456 x1411 0)]).length c1468), (.slice A728 x731.2.length c729), (.int .i64 (x731.1.length : Int))] (fun fb => by kernel_rfl) (by kernel_rfl) rfl [0, 1, 2, 4] (by decide) (by decide) (fun w1471 hS1472 => ?_)
              refine ⟨trivial, ?_⟩
              refine WL.done rfl ?_
              refine WX.blockN (WX.next ?_)
              refine WC.region ?_
              refine seg 2 [] [1, 3, 7, 97, 98, 102, 103] [(1, (.pointer (some ⟨g163, 0, none⟩))), (3, (.pointer (some ⟨g167, 0, none⟩))), (7, (.int .i64 x1289)), (97, (.int .i64 p0.States)), (98, (.int .i64 x1289)), (102, (.int .i64 p0.Symbols)), (103, (.int .i64 (w64 (x1411 + 1))))] [] (fun fb => by kernel_rfl) rfl trivial ?_
              refine WL.done rfl ?_
              exact WX.again k1417 (Nat.lt_succ_self _) ((l1410 ++ [(Tile.mk t1422 0 x1411 t1451), (Tile.mk t1422 t1456 x1411 0)], w64 (x1411 + 1)), A1467, c1468) [1, 3, 7, 97, 98, 102, 103] rfl ⟨(hS1472.subR [0]).sub [3, 0, 1, 4] (by decide), hl1420⟩
            refine WC.condF2 (fun fb => by kernel_rfl) h1421 ?_
            refine WC.exit ?_
            injection hl1420 with hl1420
            exact WX.thenX (WX.thenX (WX.blockHere (WX.to Kx1415 (l1410, A1408, c1409) [1, 3, 97, 98] rfl ⟨(hS1419.subR [0]).sub [0, 1, 2, 3] (by decide), hl1420.symm⟩)))
        rintro ⟨y1476, A1412, c1413⟩ w1473 ⟨hS1474, hq1475⟩
        subst hq1475
        refine WX.blockN (WX.next ?_)
        refine WC.region ?_
        refine seg 2 [] [1, 3, 97, 98] [(1, (.pointer (some ⟨g163, 0, none⟩))), (3, (.pointer (some ⟨g167, 0, none⟩))), (97, (.int .i64 p0.States)), (98, (.int .i64 (w64 (x1289 + 1))))] [] (fun fb => by kernel_rfl) rfl trivial ?_
        refine WL.done rfl ?_
        exact WX.again k1295 (Nat.lt_succ_self _) ((x1415, w64 (x1289 + 1)), A1412, c1413) [1, 3, 97, 98] rfl ⟨(hS1474.subR [0]).sub [0, 1, 2, 3] (by decide), hl1298⟩
      refine WC.condF2 (fun fb => by kernel_rfl) h1299 ?_
      refine WC.exit ?_
      injection hl1298 with hl1298
      exact WX.thenX (WX.thenX (WX.blockHere (WX.to Kx1293 (l1288, A1286, c1287) [3] rfl ⟨(hS1297.subR [0]).sub [1, 2, 3] (by decide), hl1298.symm⟩)))
  rintro ⟨y1480, A1290, c1291⟩ w1477 ⟨hS1478, hq1479⟩
  subst hq1479
  refine WX.next ?_
  refine WC.seq ?_
  refine WC.region ?_
  refine seg 2 [] [2] [(2, (.pointer (some ⟨g167, 0, none⟩)))] [] (fun fb => by kernel_rfl) rfl trivial ?_
  refine WL.done rfl ?_
  refine WX.next ?_
  refine WC.ret ?_
  injection hf with hf
  subst hf
  exact WX.ret_ [] (.pointer (some ⟨g167, 0, none⟩)) [] (fun fb => by kernel_rfl) trivial ⟨_, rfl, g167, A1290, c1291, A728, c729, rfl, (hS1478.sub [0, 1, 2] (by decide)).noR⟩
theorem machine_Tiles_calls (k : Nat) (p0 : Machine) (A_p0_Actions : Option Addr) (c_p0_Actions : Nat) (r : (List Tile) × Int) (w : World) (hR0 : RO NoS w (rowR enc_Action A_p0_Actions c_p0_Actions p0.Actions)) (hf : machine_Tiles k p0 = some r) :
    CallsR Try.prog 25 #[(.agg #[(.int .i64 p0.States), (.int .i64 p0.Symbols), (.slice A_p0_Actions p0.Actions.length c_p0_Actions)])] w (fun v w' => ∃ (A1_ : Option Addr), ∃ (c1_ : Nat), v = (.tuple #[(.slice A1_ r.1.length c1_), (.int .i64 r.2)]) ∧ St NoS w w' [] [rowO 65 enc_Tile A1_ c1_ r.1]) := by
  have hS : St NoS w w [rowR enc_Action A_p0_Actions c_p0_Actions p0.Actions] [] := St.init (ro_cons hR0 (ro_nil _ _))
  refine enter 12 Try.func25 rfl Try.ntmps25 rfl ?_
  unfold machine_Tiles at hf
  refine WC.seq ?_
  refine WC.region ?_
  refine WL.new hS 1 [] (fun g => (.pointer (some ⟨g, 0, none⟩))) (.cells #[(.int .i64 p0.States), (.int .i64 p0.Symbols), (.slice A_p0_Actions p0.Actions.length c_p0_Actions)] 24 (0, 0)) [] (fun fb g => by kernel_rfl) trivial (fun g49 w50 hS51 => ?_)
  refine ⟨trivial, ?_⟩
  refine seg 3 [] [1] [(1, (.pointer (some ⟨g49, 0, none⟩)))] [] (fun fb => by kernel_rfl) rfl trivial ?_
  refine WL.done rfl ?_
  refine WX.next ?_
  refine WC.seq ?_
  refine WC.seq ?_
  refine WC.region ?_
  refine seg 1 [.v (.int .i64 p0.States), .v (.int .i64 p0.Symbols), .v (.slice A_p0_Actions p0.Actions.length c_p0_Actions)] [1, 4] [(1, (.pointer (some ⟨g49, 0, none⟩))), (4, (.agg #[(.int .i64 p0.States), (.int .i64 p0.Symbols), (.slice A_p0_Actions p0.Actions.length c_p0_Actions)]))] [.cell ⟨g49, 0, none⟩ (.int .i64 p0.States), .cell ⟨g49, 1, none⟩ (.int .i64 p0.Symbols), .cell ⟨g49, 2, none⟩ (.slice A_p0_Actions p0.Actions.length c_p0_Actions)] (fun fb => by kernel_rfl) rfl ⟨hS51.cell 0 rfl 0 rfl, hS51.cell 0 rfl 1 rfl, hS51.cell 0 rfl 2 rfl, trivial⟩ ?_
  obtain ⟨t156, ht157, hf⟩ := bind_some hf
  refine WL.call (some 5) 16 #[(.agg #[(.int .i64 p0.States), (.int .i64 p0.Symbols), (.slice A_p0_Actions p0.Actions.length c_p0_Actions)])] (fun fb => by kernel_rfl) (machine_Valid_calls _ p0 A_p0_Actions c_p0_Actions t156 _ (hS51.rd 0) ht157) (fun v w158 hR159 => ?_)
  obtain ⟨rfl, hk_⟩ := hR159
  have hS160 := hS51.keepN hk_
  refine ⟨trivial, ?_⟩
  refine seg 3 [] [1, 6] [(1, (.pointer (some ⟨g49, 0, none⟩))), (6, (.bool (!t156)))] [] (fun fb => by kernel_rfl) rfl trivial ?_
  refine WL.done rfl ?_
  refine WX.next ?_
  rcases br_some hf with ⟨h161, hf⟩ | ⟨h161, hf⟩
  · refine WC.condT2 (fun fb => by kernel_rfl) h161 ?_
    refine WC.seq ?_
    refine WC.region ?_
    refine seg 2 [] [2, 3] [(2, (.slice none 0 0)), (3, (.int .i64 1))] [] (fun fb => by kernel_rfl) rfl trivial ?_
    refine WL.done rfl ?_
    refine WX.next ?_
    refine WC.ret ?_
    have hS162 := hS160.nilrow 65 enc_Tile
    injection hf with hf
    subst hf
    exact WX.thenR (WX.ret_ [] (.tuple #[(.slice none ([] : List Tile).length 0), (.int .i64 1)]) [] (fun fb => by kernel_rfl) trivial ⟨_, rfl, none, 0, rfl, (hS162.sub [0] (by decide)).noR⟩)
  refine WC.condF2 (fun fb => by kernel_rfl) h161 ?_
  refine WC.skip ?_
  refine WX.next ?_
  refine WC.seq ?_
  refine WC.region ?_
  refine seg 1 [.v (.int .i64 p0.States), .v (.int .i64 p0.Symbols), .v (.slice A_p0_Actions p0.Actions.length c_p0_Actions)] [7] [(7, (.agg #[(.int .i64 p0.States), (.int .i64 p0.Symbols), (.slice A_p0_Actions p0.Actions.length c_p0_Actions)]))] [.cell ⟨g49, 0, none⟩ (.int .i64 p0.States), .cell ⟨g49, 1, none⟩ (.int .i64 p0.Symbols), .cell ⟨g49, 2, none⟩ (.slice A_p0_Actions p0.Actions.length c_p0_Actions)] (fun fb => by kernel_rfl) rfl ⟨hS160.cell 0 rfl 0 rfl, hS160.cell 0 rfl 1 rfl, hS160.cell 0 rfl 2 rfl, trivial⟩ ?_
  obtain ⟨t1481, ht1482, hf⟩ := bind_some hf
  refine WL.call (some 8) 41 #[(.agg #[(.int .i64 p0.States), (.int .i64 p0.Symbols), (.slice A_p0_Actions p0.Actions.length c_p0_Actions)])] (fun fb => by kernel_rfl) (machine_kitOf_calls _ p0 A_p0_Actions c_p0_Actions t1481 _ (hS160.rd 0) ht1482) (fun v w1483 hR1484 => ?_)
  obtain ⟨g1486, A1487, c1488, A1489, c1490, rfl, hk_⟩ := hR1484
  have hS1485 : St NoS w w1483 [rowR enc_Action A_p0_Actions c_p0_Actions p0.Actions] [blk g1486 (.cells #[(.int .i64 t1481.m.States), (.int .i64 t1481.m.Symbols), (.slice A_p0_Actions p0.Actions.length c_p0_Actions), (.slice A1487 t1481.set.length c1488), (.slice A1489 t1481.does.length c1490), (.int .i64 t1481.base)] 96 (0, 0)), rowO 65 enc_Tile A1487 c1488 t1481.set, rowO 3 encInt A1489 c1490 t1481.does, blk g49 (.cells #[(.int .i64 p0.States), (.int .i64 p0.Symbols), (.slice A_p0_Actions p0.Actions.length c_p0_Actions)] 24 (0, 0))] := hS160.call hk_ [] [0] (fun g hg => hg.elim) (by simp) (by decide)
  refine ⟨trivial, ?_⟩
  refine seg 7 [.v (.slice A1487 t1481.set.length c1488)] [2, 3] [(2, (.slice A1487 t1481.set.length c1488)), (3, (.int .i64 0))] [.cell ⟨g1486, 3, none⟩ (.slice A1487 t1481.set.length c1488)] (fun fb => by kernel_rfl) rfl ⟨hS1485.cell 0 rfl 3 rfl, trivial⟩ ?_
  refine WL.done rfl ?_
  refine WX.next ?_
  refine WC.ret ?_
  injection hf with hf
  subst hf
  exact WX.ret_ [] (.tuple #[(.slice A1487 t1481.set.length c1488), (.int .i64 0)]) [] (fun fb => by kernel_rfl) trivial ⟨_, rfl, A1487, c1488, rfl, (hS1485.sub [1] (by decide)).noR⟩
theorem machine_Fits_1_calls (p0 : Int) (f0 : Machine) (g_f0 : Nat) (A_f0_Actions : Option Addr) (c_f0_Actions : Nat) (r : Bool) (w : World) (hR0 : RO NoS w (blk g_f0 (.cells #[(.int .i64 f0.States), (.int .i64 f0.Symbols), (.slice A_f0_Actions f0.Actions.length c_f0_Actions)] 24 (0, 0)))) (hR1 : RO NoS w (rowR enc_Action A_f0_Actions c_f0_Actions f0.Actions)) (hf : machine_Fits_1 p0 f0 = some r) :
    CallsR Try.prog 50 #[(.int .i64 p0), (.pointer (some ⟨g_f0, 0, none⟩))] w (fun v w' => v = (.bool r) ∧ Keeps NoS w w') := by
  have hS : St NoS w w [blk g_f0 (.cells #[(.int .i64 f0.States), (.int .i64 f0.Symbols), (.slice A_f0_Actions f0.Actions.length c_f0_Actions)] 24 (0, 0)), rowR enc_Action A_f0_Actions c_f0_Actions f0.Actions] [] := St.init (ro_cons hR0 (ro_cons hR1 (ro_nil _ _)))
  refine enter 12 Try.func50 rfl Try.ntmps50 rfl ?_
  unfold machine_Fits_1 at hf
  refine WC.seq ?_
  refine WC.region ?_
  refine seg 1 [] [0, 1] [(0, (.int .i64 p0)), (1, (.pointer (some ⟨g_f0, 0, none⟩)))] [] (fun fb => by kernel_rfl) rfl trivial ?_
  refine WL.done rfl ?_
  refine WX.next ?_
  refine WC.seq ?_
  refine WC.region ?_
  refine seg 3 [] [0, 1, 6] [(0, (.int .i64 p0)), (1, (.pointer (some ⟨g_f0, 0, none⟩))), (6, (.bool (decide (p0 < 0))))] [] (fun fb => by kernel_rfl) rfl trivial ?_
  refine WL.cutV (T := Bool) 8 (fun t => [(11, (.bool t))]) (fun t => t = ((decide (p0 < 0)) || (decide (p0 ≥ f0.Symbols)))) (fun K => ?_) ?_
  ·
    rcases Bool.eq_false_or_eq_true (decide (p0 < 0)) with h1549 | h1549
    ·
      refine WL.setB 6 h1549 rfl ?_
      refine seg 8 [] [11] [(11, (.bool true))] [] (fun fb => by kernel_rfl) rfl trivial ?_
      exact WL.toV K true [11] rfl (by rw [h1549]; rfl)
    refine WL.setB 6 h1549 rfl ?_
    refine seg 8 [.v (.int .i64 f0.Symbols)] [11] [(11, (.bool (decide (p0 ≥ f0.Symbols))))] [.cell ⟨g_f0, 1, none⟩ (.int .i64 f0.Symbols)] (fun fb => by kernel_rfl) rfl ⟨blk_cell (hS.rd 0).1 1 rfl, trivial⟩ ?_
    exact WL.toV K (decide (p0 ≥ f0.Symbols)) [11] rfl (by rw [h1549]; rfl)
  rintro b1550 rfl
  refine seg 9 [] [3] [(3, (.bool ((decide (p0 < 0)) || (decide (p0 ≥ f0.Symbols)))))] [] (fun fb => by kernel_rfl) rfl trivial ?_
  refine WL.done rfl ?_
  refine WX.next ?_
  refine WC.ret ?_
  injection hf with hf
  subst hf
  exact WX.ret_ [] (.bool ((decide (p0 < 0)) || (decide (p0 ≥ f0.Symbols)))) [] (fun fb => by kernel_rfl) trivial ⟨_, rfl, rfl, hS.keep⟩
theorem slices_IndexFunc_int_int_with_machine_Fits_1_calls (k : Nat) (p0 : List Int) (p1_0 : Machine) (A_p0 : Option Addr) (c_p0 : Nat) (g_p1_0 : Nat) (A_p1_0_Actions : Option Addr) (c_p1_0_Actions : Nat) (r : Int) (w : World) (hR0 : RO NoS w (rowR encInt A_p0 c_p0 p0)) (hR1 : RO NoS w (blk g_p1_0 (.cells #[(.int .i64 p1_0.States), (.int .i64 p1_0.Symbols), (.slice A_p1_0_Actions p1_0.Actions.length c_p1_0_Actions)] 24 (0, 0)))) (hR2 : RO NoS w (rowR enc_Action A_p1_0_Actions c_p1_0_Actions p1_0.Actions)) (hf : slices_IndexFunc_int_int_with_machine_Fits_1 k p0 p1_0 = some r) :
    CallsR Try.prog 65 #[(.slice A_p0 p0.length c_p0), (.func (.func 50) #[] #[(.pointer (some ⟨g_p1_0, 0, none⟩))])] w (fun v w' => v = (.int .i64 r) ∧ Keeps NoS w w') := by
  have hS : St NoS w w [rowR encInt A_p0 c_p0 p0, blk g_p1_0 (.cells #[(.int .i64 p1_0.States), (.int .i64 p1_0.Symbols), (.slice A_p1_0_Actions p1_0.Actions.length c_p1_0_Actions)] 24 (0, 0)), rowR enc_Action A_p1_0_Actions c_p1_0_Actions p1_0.Actions] [] := St.init (ro_cons hR0 (ro_cons hR1 (ro_cons hR2 (ro_nil _ _))))
  refine enter 19 Try.func65 rfl Try.ntmps65 rfl ?_
  unfold slices_IndexFunc_int_int_with_machine_Fits_1 at hf
  refine WC.seq ?_
  refine WC.region ?_
  refine seg 1 [] [0, 1] [(0, (.slice A_p0 p0.length c_p0)), (1, (.func (.func 50) #[] #[(.pointer (some ⟨g_p1_0, 0, none⟩))]))] [] (fun fb => by kernel_rfl) rfl trivial ?_
  refine WL.done rfl ?_
  refine WX.next ?_
  refine WC.seq ?_
  refine WC.seq ?_
  refine WC.region ?_
  refine seg 3 [] [0, 1, 7, 8] [(0, (.slice A_p0 p0.length c_p0)), (1, (.func (.func 50) #[] #[(.pointer (some ⟨g_p1_0, 0, none⟩))])), (7, (.int .i64 (p0.length : Int))), (8, (.int .i64 0))] [] (fun fb => by kernel_rfl) rfl trivial ?_
  refine WL.done rfl ?_
  refine WX.next ?_
  obtain ⟨x1567, hx1568, hf⟩ := bind_some hf
  refine WC.cutN (T := Unit) (fun t => []) (fun t w1 => St NoS w w1 [rowR encInt A_p0 c_p0 p0, blk g_p1_0 (.cells #[(.int .i64 p1_0.States), (.int .i64 p1_0.Symbols), (.slice A_p1_0_Actions p1_0.Actions.length c_p1_0_Actions)] 24 (0, 0)), rowR enc_Action A_p1_0_Actions c_p1_0_Actions p1_0.Actions] [] ∧ x1567 = .inr t) (fun Kx1567 => ?_) ?_
  ·
    refine WC.block ?_
    refine WC.loop (T := Int) (fun t => [(0, (.slice A_p0 p0.length c_p0)), (1, (.func (.func 50) #[] #[(.pointer (some ⟨g_p1_0, 0, none⟩))])), (7, (.int .i64 (p0.length : Int))), (8, (.int .i64 t))]) (fun n t w1 => St NoS w w1 [rowR encInt A_p0 c_p0 p0, blk g_p1_0 (.cells #[(.int .i64 p1_0.States), (.int .i64 p1_0.Symbols), (.slice A_p1_0_Actions p1_0.Actions.length c_p1_0_Actions)] 24 (0, 0)), rowR enc_Action A_p1_0_Actions c_p1_0_Actions p1_0.Actions] [] ∧ slices_IndexFunc_int_int_with_machine_Fits_1.l0 n t p0 p1_0 = some x1567) k 0 [0, 1, 7, 8] rfl ⟨(hS.subR [0, 1, 2]).sub [] (by decide), hx1568⟩ ?_
    rintro k1569 x1566 w1570 ⟨hS1571, hl1572⟩
    cases k1569 with
    | zero => rw [slices_IndexFunc_int_int_with_machine_Fits_1.l0] at hl1572; cases hl1572
    | succ k1569 =>
      rw [slices_IndexFunc_int_int_with_machine_Fits_1.l0] at hl1572
      refine WC.seq ?_
      refine WC.region ?_
      refine seg 1 [] [0, 1, 7, 8, 9] [(0, (.slice A_p0 p0.length c_p0)), (1, (.func (.func 50) #[] #[(.pointer (some ⟨g_p1_0, 0, none⟩))])), (7, (.int .i64 (p0.length : Int))), (8, (.int .i64 x1566)), (9, (.bool (decide (x1566 < (p0.length : Int)))))] [] (fun fb => by kernel_rfl) rfl trivial ?_
      refine WL.done rfl ?_
      refine WX.next ?_
      refine WC.seq ?_
      rcases br_some hl1572 with ⟨h1573, hl1572⟩ | ⟨h1573, hl1572⟩
      · refine WC.condT2 (fun fb => by kernel_rfl) h1573 ?_
        refine WC.skip ?_
        refine WX.next ?_
        refine WC.seq ?_
        refine WC.block ?_
        refine WC.seq ?_
        refine WC.region ?_
        refine seg 2 [] [0, 1, 5, 7, 8] [(0, (.slice A_p0 p0.length c_p0)), (1, (.func (.func 50) #[] #[(.pointer (some ⟨g_p1_0, 0, none⟩))])), (5, (.int .i64 x1566)), (7, (.int .i64 (p0.length : Int))), (8, (.int .i64 x1566))] [] (fun fb => by kernel_rfl) rfl trivial ?_
        refine WL.done rfl ?_
        refine WX.next ?_
        refine WC.seq ?_
        refine WC.region ?_
        refine seg 3 [] [0, 1, 5, 7, 8, 11, 12, 13] [(0, (.slice A_p0 p0.length c_p0)), (1, (.func (.func 50) #[] #[(.pointer (some ⟨g_p1_0, 0, none⟩))])), (5, (.int .i64 x1566)), (7, (.int .i64 (p0.length : Int))), (8, (.int .i64 x1566)), (11, (.func (.func 50) #[] #[(.pointer (some ⟨g_p1_0, 0, none⟩))])), (12, (.slice A_p0 p0.length c_p0)), (13, (.int .i64 x1566))] [] (fun fb => by kernel_rfl) rfl trivial ?_
        obtain ⟨h1574, hl1572⟩ := as_some hl1572
        refine seg 5 [.v (.int .i64 (rdD p0 x1566 0))] [0, 1, 5, 7, 8, 11, 15] [(0, (.slice A_p0 p0.length c_p0)), (1, (.func (.func 50) #[] #[(.pointer (some ⟨g_p1_0, 0, none⟩))])), (5, (.int .i64 x1566)), (7, (.int .i64 (p0.length : Int))), (8, (.int .i64 x1566)), (11, (.func (.func 50) #[] #[(.pointer (some ⟨g_p1_0, 0, none⟩))])), (15, (.int .i64 (rdD p0 x1566 0)))] [.idx A_p0 x1566 p0.length, .cell ((adr A_p0).add ((x1566).toNat * 1)) (.int .i64 (rdD p0 x1566 0))] (fun fb => by kernel_rfl) rfl ⟨rowR.adr (hS1571.rd 0).1 h1574.1 h1574.2, rowR.cell (hS1571.rd 0).1 0 h1574.1 h1574.2 0 rfl, trivial⟩ ?_
        obtain ⟨t1575, ht1576, hl1572⟩ := bind_some hl1572
        refine WL.call (some 16) 50 #[(.int .i64 (rdD p0 x1566 0)), (.pointer (some ⟨g_p1_0, 0, none⟩))] (fun fb => by kernel_rfl) (machine_Fits_1_calls (rdD p0 x1566 0) p1_0 g_p1_0 A_p1_0_Actions c_p1_0_Actions t1575 _ (hS1571.rd 1) (hS1571.rd 2) ht1576) (fun v w1577 hR1578 => ?_)
        obtain ⟨rfl, hk_⟩ := hR1578
        have hS1579 := hS1571.keepN hk_
        refine ⟨trivial, ?_⟩
        refine WL.done rfl ?_
        refine WX.next ?_
        rcases br_some hl1572 with ⟨h1580, hl1572⟩ | ⟨h1580, hl1572⟩
        · refine WC.condT2 (fun fb => by kernel_rfl) h1580 ?_
          refine WC.seq ?_
          refine WC.region ?_
          refine seg 2 [] [4] [(4, (.int .i64 x1566))] [] (fun fb => by kernel_rfl) rfl trivial ?_
          refine WL.done rfl ?_
          refine WX.next ?_
          refine WC.ret ?_
          injection hl1572 with hl1572
          subst hl1572
          injection hf with hf
          subst hf
          exact WX.blockR (WX.thenR (WX.thenR (WX.blockR (WX.thenR (WX.ret_ [] (.int .i64 x1566) [] (fun fb => by kernel_rfl) trivial ⟨_, rfl, rfl, hS1579.keep⟩)))))
        refine WC.condF2 (fun fb => by kernel_rfl) h1580 ?_
        refine WC.skip ?_
        refine WX.blockN (WX.next ?_)
        refine WC.region ?_
        refine seg 2 [] [0, 1, 7, 8] [(0, (.slice A_p0 p0.length c_p0)), (1, (.func (.func 50) #[] #[(.pointer (some ⟨g_p1_0, 0, none⟩))])), (7, (.int .i64 (p0.length : Int))), (8, (.int .i64 (w64 (x1566 + 1))))] [] (fun fb => by kernel_rfl) rfl trivial ?_
        refine WL.done rfl ?_
        exact WX.again k1569 (Nat.lt_succ_self _) (w64 (x1566 + 1)) [0, 1, 7, 8] rfl ⟨(hS1579.subR [0, 1, 2]).sub [] (by decide), hl1572⟩
      refine WC.condF2 (fun fb => by kernel_rfl) h1573 ?_
      refine WC.exit ?_
      injection hl1572 with hl1572
      exact WX.thenX (WX.thenX (WX.blockHere (WX.to Kx1567 () [] rfl ⟨(hS1571.subR [0, 1, 2]).sub [] (by decide), hl1572.symm⟩)))
  rintro y1584 w1581 ⟨hS1582, hq1583⟩
  subst hq1583
  have hf := sum_inr hf
  refine WX.next ?_
  refine WC.seq ?_
  refine WC.region ?_
  refine seg 1 [] [4] [(4, (.int .i64 (-1)))] [] (fun fb => by kernel_rfl) rfl trivial ?_
  refine WL.done rfl ?_
  refine WX.next ?_
  refine WC.ret ?_
  injection hf with hf
  subst hf
  exact WX.ret_ [] (.int .i64 (-1)) [] (fun fb => by kernel_rfl) trivial ⟨_, rfl, rfl, hS1582.keep⟩
theorem slices_ContainsFunc_int_int_with_machine_Fits_1_calls (k : Nat) (p0 : List Int) (p1_0 : Machine) (A_p0 : Option Addr) (c_p0 : Nat) (g_p1_0 : Nat) (A_p1_0_Actions : Option Addr) (c_p1_0_Actions : Nat) (r : Bool) (w : World) (hR0 : RO NoS w (rowR encInt A_p0 c_p0 p0)) (hR1 : RO NoS w (blk g_p1_0 (.cells #[(.int .i64 p1_0.States), (.int .i64 p1_0.Symbols), (.slice A_p1_0_Actions p1_0.Actions.length c_p1_0_Actions)] 24 (0, 0)))) (hR2 : RO NoS w (rowR enc_Action A_p1_0_Actions c_p1_0_Actions p1_0.Actions)) (hf : slices_ContainsFunc_int_int_with_machine_Fits_1 k p0 p1_0 = some r) :
    CallsR Try.prog 49 #[(.slice A_p0 p0.length c_p0), (.func (.func 50) #[] #[(.pointer (some ⟨g_p1_0, 0, none⟩))])] w (fun v w' => v = (.bool r) ∧ Keeps NoS w w') := by
  have hS : St NoS w w [rowR encInt A_p0 c_p0 p0, blk g_p1_0 (.cells #[(.int .i64 p1_0.States), (.int .i64 p1_0.Symbols), (.slice A_p1_0_Actions p1_0.Actions.length c_p1_0_Actions)] 24 (0, 0)), rowR enc_Action A_p1_0_Actions c_p1_0_Actions p1_0.Actions] [] := St.init (ro_cons hR0 (ro_cons hR1 (ro_cons hR2 (ro_nil _ _))))
  refine enter 9 Try.func49 rfl Try.ntmps49 rfl ?_
  unfold slices_ContainsFunc_int_int_with_machine_Fits_1 at hf
  refine WC.seq ?_
  refine WC.region ?_
  refine seg 1 [] [0, 1] [(0, (.slice A_p0 p0.length c_p0)), (1, (.func (.func 50) #[] #[(.pointer (some ⟨g_p1_0, 0, none⟩))]))] [] (fun fb => by kernel_rfl) rfl trivial ?_
  refine WL.done rfl ?_
  refine WX.next ?_
  refine WC.seq ?_
  refine WC.region ?_
  refine seg 2 [] [5, 6] [(5, (.slice A_p0 p0.length c_p0)), (6, (.func (.func 50) #[] #[(.pointer (some ⟨g_p1_0, 0, none⟩))]))] [] (fun fb => by kernel_rfl) rfl trivial ?_
  obtain ⟨t1586, ht1587, hf⟩ := bind_some hf
  refine WL.call (some 7) 65 #[(.slice A_p0 p0.length c_p0), (.func (.func 50) #[] #[(.pointer (some ⟨g_p1_0, 0, none⟩))])] (fun fb => by kernel_rfl) (slices_IndexFunc_int_int_with_machine_Fits_1_calls _ p0 p1_0 A_p0 c_p0 g_p1_0 A_p1_0_Actions c_p1_0_Actions t1586 _ (hS.rd 0) (hS.rd 1) (hS.rd 2) ht1587) (fun v w1588 hR1589 => ?_)
  obtain ⟨rfl, hk_⟩ := hR1589
  have hS1590 := hS.keepN hk_
  refine ⟨trivial, ?_⟩
  refine seg 5 [] [4] [(4, (.bool (decide (t1586 ≥ 0))))] [] (fun fb => by kernel_rfl) rfl trivial ?_
  refine WL.done rfl ?_
  refine WX.next ?_
  refine WC.ret ?_
  injection hf with hf
  subst hf
  exact WX.ret_ [] (.bool (decide (t1586 ≥ 0))) [] (fun fb => by kernel_rfl) trivial ⟨_, rfl, rfl, hS1590.keep⟩
theorem machine_Fits_calls (k : Nat) (p0 : Machine) (p1 : Config) (A_p0_Actions : Option Addr) (c_p0_Actions : Nat) (A_p1_Cells : Option Addr) (c_p1_Cells : Nat) (r : Bool) (w : World) (hR0 : RO NoS w (rowR enc_Action A_p0_Actions c_p0_Actions p0.Actions)) (hR1 : RO NoS w (rowR encInt A_p1_Cells c_p1_Cells p1.Cells)) (hf : machine_Fits k p0 p1 = some r) :
    CallsR Try.prog 18 #[(.agg #[(.int .i64 p0.States), (.int .i64 p0.Symbols), (.slice A_p0_Actions p0.Actions.length c_p0_Actions)]), (.agg #[(.int .i64 p1.State), (.int .i64 p1.At), (.slice A_p1_Cells p1.Cells.length c_p1_Cells)])] w (fun v w' => v = (.bool r) ∧ Keeps NoS w w') := by
  have hS : St NoS w w [rowR enc_Action A_p0_Actions c_p0_Actions p0.Actions, rowR encInt A_p1_Cells c_p1_Cells p1.Cells] [] := St.init (ro_cons hR0 (ro_cons hR1 (ro_nil _ _)))
  refine enter 51 Try.func18 rfl Try.ntmps18 rfl ?_
  unfold machine_Fits at hf
  refine WC.seq ?_
  refine WC.region ?_
  refine WL.new hS 2 [] (fun g => (.pointer (some ⟨g, 0, none⟩))) (.cells #[(.int .i64 p0.States), (.int .i64 p0.Symbols), (.slice A_p0_Actions p0.Actions.length c_p0_Actions)] 24 (0, 0)) [] (fun fb g => by kernel_rfl) trivial (fun g1522 w1523 hS1524 => ?_)
  refine ⟨trivial, ?_⟩
  refine WL.new hS1524 3 [] (fun g => (.pointer (some ⟨g, 0, none⟩))) (.cells #[(.int .i64 p1.State), (.int .i64 p1.At), (.slice A_p1_Cells p1.Cells.length c_p1_Cells)] 27 (0, 0)) [] (fun fb g => by kernel_rfl) trivial (fun g1526 w1527 hS1528 => ?_)
  refine ⟨trivial, ?_⟩
  refine seg 3 [] [2, 3] [(2, (.pointer (some ⟨g1522, 0, none⟩))), (3, (.pointer (some ⟨g1526, 0, none⟩)))] [] (fun fb => by kernel_rfl) rfl trivial ?_
  refine WL.done rfl ?_
  refine WX.next ?_
  refine WC.seq ?_
  refine WC.region ?_
  refine seg 1 [.v (.int .i64 p0.States), .v (.int .i64 p0.Symbols), .v (.slice A_p0_Actions p0.Actions.length c_p0_Actions)] [2, 3, 5] [(2, (.pointer (some ⟨g1522, 0, none⟩))), (3, (.pointer (some ⟨g1526, 0, none⟩))), (5, (.agg #[(.int .i64 p0.States), (.int .i64 p0.Symbols), (.slice A_p0_Actions p0.Actions.length c_p0_Actions)]))] [.cell ⟨g1522, 0, none⟩ (.int .i64 p0.States), .cell ⟨g1522, 1, none⟩ (.int .i64 p0.Symbols), .cell ⟨g1522, 2, none⟩ (.slice A_p0_Actions p0.Actions.length c_p0_Actions)] (fun fb => by kernel_rfl) rfl ⟨hS1528.cell 1 rfl 0 rfl, hS1528.cell 1 rfl 1 rfl, hS1528.cell 1 rfl 2 rfl, trivial⟩ ?_
  obtain ⟨t1530, ht1531, hf⟩ := bind_some hf
  refine WL.call (some 6) 16 #[(.agg #[(.int .i64 p0.States), (.int .i64 p0.Symbols), (.slice A_p0_Actions p0.Actions.length c_p0_Actions)])] (fun fb => by kernel_rfl) (machine_Valid_calls _ p0 A_p0_Actions c_p0_Actions t1530 _ (hS1528.rd 0) ht1531) (fun v w1532 hR1533 => ?_)
  obtain ⟨rfl, hk_⟩ := hR1533
  have hS1534 := hS1528.keepN hk_
  refine ⟨trivial, ?_⟩
  refine seg 3 [] [2, 3, 7] [(2, (.pointer (some ⟨g1522, 0, none⟩))), (3, (.pointer (some ⟨g1526, 0, none⟩))), (7, (.bool t1530))] [] (fun fb => by kernel_rfl) rfl trivial ?_
  refine WL.cutV (T := Bool) 7 (fun t => [(11, (.bool t)), (2, (.pointer (some ⟨g1522, 0, none⟩))), (3, (.pointer (some ⟨g1526, 0, none⟩)))]) (fun t => t = (t1530 && (decide (p1.State ≥ 0)))) (fun K => ?_) ?_
  ·
    rcases Bool.eq_false_or_eq_true t1530 with h1535 | h1535
    ·
      refine WL.setB 7 h1535 rfl ?_
      refine seg 7 [.v (.int .i64 p1.State)] [2, 3, 11] [(2, (.pointer (some ⟨g1522, 0, none⟩))), (3, (.pointer (some ⟨g1526, 0, none⟩))), (11, (.bool (decide (p1.State ≥ 0))))] [.cell ⟨g1526, 0, none⟩ (.int .i64 p1.State)] (fun fb => by kernel_rfl) rfl ⟨hS1534.cell 0 rfl 0 rfl, trivial⟩ ?_
      exact WL.toV K (decide (p1.State ≥ 0)) [11, 2, 3] rfl (by rw [h1535]; rfl)
    refine WL.setB 7 h1535 rfl ?_
    refine seg 7 [] [2, 3, 11] [(2, (.pointer (some ⟨g1522, 0, none⟩))), (3, (.pointer (some ⟨g1526, 0, none⟩))), (11, (.bool false))] [] (fun fb => by kernel_rfl) rfl trivial ?_
    exact WL.toV K false [11, 2, 3] rfl (by rw [h1535]; rfl)
  rintro b1536 rfl
  refine seg 8 [] [2, 3, 12] [(2, (.pointer (some ⟨g1522, 0, none⟩))), (3, (.pointer (some ⟨g1526, 0, none⟩))), (12, (.bool (t1530 && (decide (p1.State ≥ 0)))))] [] (fun fb => by kernel_rfl) rfl trivial ?_
  refine WL.cutV (T := Bool) 14 (fun t => [(18, (.bool t)), (2, (.pointer (some ⟨g1522, 0, none⟩))), (3, (.pointer (some ⟨g1526, 0, none⟩)))]) (fun t => t = ((t1530 && (decide (p1.State ≥ 0))) && (decide (p1.State < p0.States)))) (fun K => ?_) ?_
  ·
    rcases Bool.eq_false_or_eq_true (t1530 && (decide (p1.State ≥ 0))) with h1537 | h1537
    ·
      refine WL.setB 12 h1537 rfl ?_
      refine seg 14 [.v (.int .i64 p1.State), .v (.int .i64 p0.States)] [2, 3, 18] [(2, (.pointer (some ⟨g1522, 0, none⟩))), (3, (.pointer (some ⟨g1526, 0, none⟩))), (18, (.bool (decide (p1.State < p0.States))))] [.cell ⟨g1526, 0, none⟩ (.int .i64 p1.State), .cell ⟨g1522, 0, none⟩ (.int .i64 p0.States)] (fun fb => by kernel_rfl) rfl ⟨hS1534.cell 0 rfl 0 rfl, hS1534.cell 1 rfl 0 rfl, trivial⟩ ?_
      exact WL.toV K (decide (p1.State < p0.States)) [18, 2, 3] rfl (by rw [h1537]; rfl)
    refine WL.setB 12 h1537 rfl ?_
    refine seg 14 [] [2, 3, 18] [(2, (.pointer (some ⟨g1522, 0, none⟩))), (3, (.pointer (some ⟨g1526, 0, none⟩))), (18, (.bool false))] [] (fun fb => by kernel_rfl) rfl trivial ?_
    exact WL.toV K false [18, 2, 3] rfl (by rw [h1537]; rfl)
  rintro b1538 rfl
  refine seg 15 [] [2, 3, 19] [(2, (.pointer (some ⟨g1522, 0, none⟩))), (3, (.pointer (some ⟨g1526, 0, none⟩))), (19, (.bool ((t1530 && (decide (p1.State ≥ 0))) && (decide (p1.State < p0.States)))))] [] (fun fb => by kernel_rfl) rfl trivial ?_
  refine WL.cutV (T := Bool) 20 (fun t => [(24, (.bool t)), (2, (.pointer (some ⟨g1522, 0, none⟩))), (3, (.pointer (some ⟨g1526, 0, none⟩)))]) (fun t => t = (((t1530 && (decide (p1.State ≥ 0))) && (decide (p1.State < p0.States))) && (decide ((p1.Cells.length : Int) ≥ 1)))) (fun K => ?_) ?_
  ·
    rcases Bool.eq_false_or_eq_true ((t1530 && (decide (p1.State ≥ 0))) && (decide (p1.State < p0.States))) with h1539 | h1539
    ·
      refine WL.setB 19 h1539 rfl ?_
      refine seg 20 [.v (.slice A_p1_Cells p1.Cells.length c_p1_Cells)] [2, 3, 24] [(2, (.pointer (some ⟨g1522, 0, none⟩))), (3, (.pointer (some ⟨g1526, 0, none⟩))), (24, (.bool (decide ((p1.Cells.length : Int) ≥ 1))))] [.cell ⟨g1526, 2, none⟩ (.slice A_p1_Cells p1.Cells.length c_p1_Cells)] (fun fb => by kernel_rfl) rfl ⟨hS1534.cell 0 rfl 2 rfl, trivial⟩ ?_
      exact WL.toV K (decide ((p1.Cells.length : Int) ≥ 1)) [24, 2, 3] rfl (by rw [h1539]; rfl)
    refine WL.setB 19 h1539 rfl ?_
    refine seg 20 [] [2, 3, 24] [(2, (.pointer (some ⟨g1522, 0, none⟩))), (3, (.pointer (some ⟨g1526, 0, none⟩))), (24, (.bool false))] [] (fun fb => by kernel_rfl) rfl trivial ?_
    exact WL.toV K false [24, 2, 3] rfl (by rw [h1539]; rfl)
  rintro b1540 rfl
  refine seg 21 [] [2, 3, 25] [(2, (.pointer (some ⟨g1522, 0, none⟩))), (3, (.pointer (some ⟨g1526, 0, none⟩))), (25, (.bool (((t1530 && (decide (p1.State ≥ 0))) && (decide (p1.State < p0.States))) && (decide ((p1.Cells.length : Int) ≥ 1)))))] [] (fun fb => by kernel_rfl) rfl trivial ?_
  refine WL.cutV (T := Bool) 26 (fun t => [(30, (.bool t)), (2, (.pointer (some ⟨g1522, 0, none⟩))), (3, (.pointer (some ⟨g1526, 0, none⟩)))]) (fun t => t = ((((t1530 && (decide (p1.State ≥ 0))) && (decide (p1.State < p0.States))) && (decide ((p1.Cells.length : Int) ≥ 1))) && (decide ((p1.Cells.length : Int) ≤ 200)))) (fun K => ?_) ?_
  ·
    rcases Bool.eq_false_or_eq_true (((t1530 && (decide (p1.State ≥ 0))) && (decide (p1.State < p0.States))) && (decide ((p1.Cells.length : Int) ≥ 1))) with h1541 | h1541
    ·
      refine WL.setB 25 h1541 rfl ?_
      refine seg 26 [.v (.slice A_p1_Cells p1.Cells.length c_p1_Cells)] [2, 3, 30] [(2, (.pointer (some ⟨g1522, 0, none⟩))), (3, (.pointer (some ⟨g1526, 0, none⟩))), (30, (.bool (decide ((p1.Cells.length : Int) ≤ 200))))] [.cell ⟨g1526, 2, none⟩ (.slice A_p1_Cells p1.Cells.length c_p1_Cells)] (fun fb => by kernel_rfl) rfl ⟨hS1534.cell 0 rfl 2 rfl, trivial⟩ ?_
      exact WL.toV K (decide ((p1.Cells.length : Int) ≤ 200)) [30, 2, 3] rfl (by rw [h1541]; rfl)
    refine WL.setB 25 h1541 rfl ?_
    refine seg 26 [] [2, 3, 30] [(2, (.pointer (some ⟨g1522, 0, none⟩))), (3, (.pointer (some ⟨g1526, 0, none⟩))), (30, (.bool false))] [] (fun fb => by kernel_rfl) rfl trivial ?_
    exact WL.toV K false [30, 2, 3] rfl (by rw [h1541]; rfl)
  rintro b1542 rfl
  refine seg 27 [] [2, 3, 31] [(2, (.pointer (some ⟨g1522, 0, none⟩))), (3, (.pointer (some ⟨g1526, 0, none⟩))), (31, (.bool ((((t1530 && (decide (p1.State ≥ 0))) && (decide (p1.State < p0.States))) && (decide ((p1.Cells.length : Int) ≥ 1))) && (decide ((p1.Cells.length : Int) ≤ 200)))))] [] (fun fb => by kernel_rfl) rfl trivial ?_
  refine WL.cutV (T := Bool) 31 (fun t => [(35, (.bool t)), (2, (.pointer (some ⟨g1522, 0, none⟩))), (3, (.pointer (some ⟨g1526, 0, none⟩)))]) (fun t => t = (((((t1530 && (decide (p1.State ≥ 0))) && (decide (p1.State < p0.States))) && (decide ((p1.Cells.length : Int) ≥ 1))) && (decide ((p1.Cells.length : Int) ≤ 200))) && (decide (p1.At ≥ 0)))) (fun K => ?_) ?_
  ·
    rcases Bool.eq_false_or_eq_true ((((t1530 && (decide (p1.State ≥ 0))) && (decide (p1.State < p0.States))) && (decide ((p1.Cells.length : Int) ≥ 1))) && (decide ((p1.Cells.length : Int) ≤ 200))) with h1543 | h1543
    ·
      refine WL.setB 31 h1543 rfl ?_
      refine seg 31 [.v (.int .i64 p1.At)] [2, 3, 35] [(2, (.pointer (some ⟨g1522, 0, none⟩))), (3, (.pointer (some ⟨g1526, 0, none⟩))), (35, (.bool (decide (p1.At ≥ 0))))] [.cell ⟨g1526, 1, none⟩ (.int .i64 p1.At)] (fun fb => by kernel_rfl) rfl ⟨hS1534.cell 0 rfl 1 rfl, trivial⟩ ?_
      exact WL.toV K (decide (p1.At ≥ 0)) [35, 2, 3] rfl (by rw [h1543]; rfl)
    refine WL.setB 31 h1543 rfl ?_
    refine seg 31 [] [2, 3, 35] [(2, (.pointer (some ⟨g1522, 0, none⟩))), (3, (.pointer (some ⟨g1526, 0, none⟩))), (35, (.bool false))] [] (fun fb => by kernel_rfl) rfl trivial ?_
    exact WL.toV K false [35, 2, 3] rfl (by rw [h1543]; rfl)
  rintro b1544 rfl
  refine seg 32 [] [2, 3, 36] [(2, (.pointer (some ⟨g1522, 0, none⟩))), (3, (.pointer (some ⟨g1526, 0, none⟩))), (36, (.bool (((((t1530 && (decide (p1.State ≥ 0))) && (decide (p1.State < p0.States))) && (decide ((p1.Cells.length : Int) ≥ 1))) && (decide ((p1.Cells.length : Int) ≤ 200))) && (decide (p1.At ≥ 0)))))] [] (fun fb => by kernel_rfl) rfl trivial ?_
  refine WL.cutV (T := Bool) 39 (fun t => [(43, (.bool t)), (2, (.pointer (some ⟨g1522, 0, none⟩))), (3, (.pointer (some ⟨g1526, 0, none⟩)))]) (fun t => t = ((((((t1530 && (decide (p1.State ≥ 0))) && (decide (p1.State < p0.States))) && (decide ((p1.Cells.length : Int) ≥ 1))) && (decide ((p1.Cells.length : Int) ≤ 200))) && (decide (p1.At ≥ 0))) && (decide (p1.At < (p1.Cells.length : Int))))) (fun K => ?_) ?_
  ·
    rcases Bool.eq_false_or_eq_true (((((t1530 && (decide (p1.State ≥ 0))) && (decide (p1.State < p0.States))) && (decide ((p1.Cells.length : Int) ≥ 1))) && (decide ((p1.Cells.length : Int) ≤ 200))) && (decide (p1.At ≥ 0))) with h1545 | h1545
    ·
      refine WL.setB 36 h1545 rfl ?_
      refine seg 39 [.v (.int .i64 p1.At), .v (.slice A_p1_Cells p1.Cells.length c_p1_Cells)] [2, 3, 43] [(2, (.pointer (some ⟨g1522, 0, none⟩))), (3, (.pointer (some ⟨g1526, 0, none⟩))), (43, (.bool (decide (p1.At < (p1.Cells.length : Int)))))] [.cell ⟨g1526, 1, none⟩ (.int .i64 p1.At), .cell ⟨g1526, 2, none⟩ (.slice A_p1_Cells p1.Cells.length c_p1_Cells)] (fun fb => by kernel_rfl) rfl ⟨hS1534.cell 0 rfl 1 rfl, hS1534.cell 0 rfl 2 rfl, trivial⟩ ?_
      exact WL.toV K (decide (p1.At < (p1.Cells.length : Int))) [43, 2, 3] rfl (by rw [h1545]; rfl)
    refine WL.setB 36 h1545 rfl ?_
    refine seg 39 [] [2, 3, 43] [(2, (.pointer (some ⟨g1522, 0, none⟩))), (3, (.pointer (some ⟨g1526, 0, none⟩))), (43, (.bool false))] [] (fun fb => by kernel_rfl) rfl trivial ?_
    exact WL.toV K false [43, 2, 3] rfl (by rw [h1545]; rfl)
  rintro b1546 rfl
  refine seg 40 [] [2, 3, 44] [(2, (.pointer (some ⟨g1522, 0, none⟩))), (3, (.pointer (some ⟨g1526, 0, none⟩))), (44, (.bool ((((((t1530 && (decide (p1.State ≥ 0))) && (decide (p1.State < p0.States))) && (decide ((p1.Cells.length : Int) ≥ 1))) && (decide ((p1.Cells.length : Int) ≤ 200))) && (decide (p1.At ≥ 0))) && (decide (p1.At < (p1.Cells.length : Int))))))] [] (fun fb => by kernel_rfl) rfl trivial ?_
  obtain ⟨x1597, hx1598, hf⟩ := bind_some hf
  refine WL.cutW (T := Bool) 46 (fun t => [(50, (.bool t))]) (fun t w1 => (St NoS w w1 [rowR enc_Action A_p0_Actions c_p0_Actions p0.Actions, rowR encInt A_p1_Cells c_p1_Cells p1.Cells] [] ∧ x1597 = t) ∧ CellsOK [] w1) (fun K => ?_) ?_
  ·
    rcases br_some hx1598 with ⟨h1599, hx1598⟩ | ⟨h1599, hx1598⟩
    ·
      refine WL.setB 44 h1599 rfl ?_
      refine seg 43 [.v (.slice A_p1_Cells p1.Cells.length c_p1_Cells)] [44, 46, 47] [(44, (.bool true)), (46, (.slice A_p1_Cells p1.Cells.length c_p1_Cells)), (47, (.func (.func 50) #[] #[(.pointer (some ⟨g1522, 0, none⟩))]))] [.cell ⟨g1526, 2, none⟩ (.slice A_p1_Cells p1.Cells.length c_p1_Cells)] (fun fb => by kernel_rfl) rfl ⟨hS1534.cell 0 rfl 2 rfl, trivial⟩ ?_
      obtain ⟨t1600, ht1601, hx1598⟩ := bind_some hx1598
      refine WL.call (some 48) 49 #[(.slice A_p1_Cells p1.Cells.length c_p1_Cells), (.func (.func 50) #[] #[(.pointer (some ⟨g1522, 0, none⟩))])] (fun fb => by kernel_rfl) (slices_ContainsFunc_int_int_with_machine_Fits_1_calls _ p1.Cells p0 A_p1_Cells c_p1_Cells g1522 A_p0_Actions c_p0_Actions t1600 _ (hS1534.rd 1) (hS1534.ow 1) (hS1534.rd 0) ht1601) (fun v w1602 hR1603 => ?_)
      obtain ⟨rfl, hk_⟩ := hR1603
      have hS1604 := hS1534.keepN hk_
      refine ⟨trivial, ?_⟩
      refine seg 46 [] [50] [(50, (.bool (!t1600)))] [] (fun fb => by kernel_rfl) rfl trivial ?_
      injection hx1598 with hx1598
      exact WL.to K (!t1600) [50] rfl ⟨⟨(hS1604.subR [0, 1]).sub [] (by decide), hx1598.symm⟩, trivial⟩
    refine WL.setB 44 h1599 rfl ?_
    refine seg 46 [] [50] [(50, (.bool false))] [] (fun fb => by kernel_rfl) rfl trivial ?_
    injection hx1598 with hx1598
    exact WL.to K false [50] rfl ⟨⟨(hS1534.subR [0, 1]).sub [] (by decide), hx1598.symm⟩, trivial⟩
  rintro y1605 w1607 ⟨⟨hS1608, hq1606⟩, hF1609⟩
  subst hq1606
  refine seg 47 [] [4] [(4, (.bool x1597))] [] (fun fb => by kernel_rfl) rfl trivial ?_
  refine WL.done rfl ?_
  refine WX.next ?_
  refine WC.ret ?_
  injection hf with hf
  subst hf
  exact WX.ret_ [] (.bool x1597) [] (fun fb => by kernel_rfl) trivial ⟨_, rfl, rfl, hS1608.keep⟩
theorem slices_Clone_int_int_nil_calls (p0 : List Int) (c_p0 : Nat) (r : (List Int)) (w : World) (hR0 : RO NoS w (rowR encInt none c_p0 ([] : List Int))) (hf : slices_Clone_int_int_nil p0 = some r) :
    CallsR Try.prog 54 #[(.slice none ([] : List Int).length c_p0)] w (fun v w' => ∃ (A1_ : Option Addr), ∃ (c1_ : Nat), v = (.slice A1_ r.length c1_) ∧ St NoS w w' [] [rowO 3 encInt A1_ c1_ r]) := by
  have hS : St NoS w w [rowR encInt none c_p0 ([] : List Int)] [] := St.init (ro_cons hR0 (ro_nil _ _))
  refine enter 8 Try.func54 rfl Try.ntmps54 rfl ?_
  unfold slices_Clone_int_int_nil at hf
  refine WC.seq ?_
  refine WC.region ?_
  refine seg 1 [] [0] [(0, (.slice none ([] : List Int).length c_p0))] [] (fun fb => by kernel_rfl) rfl trivial ?_
  refine WL.done rfl ?_
  refine WX.next ?_
  refine WC.seq ?_
  refine WC.seq ?_
  refine WC.region ?_
  refine seg 2 [] [0, 4] [(0, (.slice none ([] : List Int).length c_p0)), (4, (.bool true))] [] (fun fb => by kernel_rfl) rfl trivial ?_
  refine WL.done rfl ?_
  refine WX.next ?_
  refine WC.condT (fun fb => by kernel_rfl) ?_
  refine WC.seq ?_
  refine WC.region ?_
  refine seg 1 [] [2] [(2, (.slice none 0 0))] [] (fun fb => by kernel_rfl) rfl trivial ?_
  refine WL.done rfl ?_
  refine WX.next ?_
  refine WC.ret ?_
  have hS1633 := hS.nilrow 3 encInt
  injection hf with hf
  subst hf
  exact WX.thenR (WX.ret_ [] (.slice none ([] : List Int).length 0) [] (fun fb => by kernel_rfl) trivial ⟨_, rfl, none, 0, rfl, (hS1633.sub [0] (by decide)).noR⟩)
theorem slices_Clone_int_int_some_calls (p0 : List Int) (a_p0 : Addr) (c_p0 : Nat) (r : (List Int)) (w : World) (hR0 : RO NoS w (rowR encInt (some a_p0) c_p0 p0)) (hf : slices_Clone_int_int_some p0 = some r) :
    CallsR Try.prog 54 #[(.slice (some a_p0) p0.length c_p0)] w (fun v w' => ∃ (A1_ : Option Addr), ∃ (c1_ : Nat), v = (.slice A1_ r.length c1_) ∧ St NoS w w' [] [rowO 3 encInt A1_ c1_ r]) := by
  have hS : St NoS w w [rowR encInt (some a_p0) c_p0 p0] [] := St.init (ro_cons hR0 (ro_nil _ _))
  refine enter 8 Try.func54 rfl Try.ntmps54 rfl ?_
  unfold slices_Clone_int_int_some at hf
  refine WC.seq ?_
  refine WC.region ?_
  refine seg 1 [] [0] [(0, (.slice (some a_p0) p0.length c_p0))] [] (fun fb => by kernel_rfl) rfl trivial ?_
  refine WL.done rfl ?_
  refine WX.next ?_
  refine WC.seq ?_
  refine WC.seq ?_
  refine WC.region ?_
  refine seg 2 [] [0, 4] [(0, (.slice (some a_p0) p0.length c_p0)), (4, (.bool false))] [] (fun fb => by kernel_rfl) rfl trivial ?_
  refine WL.done rfl ?_
  refine WX.next ?_
  refine WC.condF (fun fb => by kernel_rfl) ?_
  refine WC.skip ?_
  refine WX.next ?_
  refine WC.seq ?_
  refine WC.region ?_
  refine WL.new hS 5 [] (fun g => (.slice (some ⟨g, 0, none⟩) 0 0)) (.cells #[] 3 (0, 0)) [] (fun fb g => by kernel_rfl) trivial (fun g1634 w1635 hS1636 => ?_)
  refine ⟨trivial, ?_⟩
  have hS1638 : St NoS w w1635 [rowR encInt (some a_p0) c_p0 p0] [rowO 3 encInt (some ⟨g1634, 0, none⟩) 0 ([] : List Int)] := hS1636.map1 0 _ (fun h => rowO.ofBlk h rfl (Nat.le_of_ble_eq_true (by kernel_rfl))) (fun _ h => by obtain ⟨_, h1, h2⟩ := h; injection h1 with h1; subst h1; exact h2) [] (by decide) (by decide)
  refine seg 2 [] [5, 6] [(5, (.slice (some ⟨g1634, 0, none⟩) ([] : List Int).length 0)), (6, (.slice (some a_p0) p0.length c_p0))] [] (fun fb => by kernel_rfl) rfl trivial ?_
  obtain ⟨h1639, hf⟩ := as_some hf
  refine WL.append hS1638 0 (d := 7) (tS := 25) (z := (.int .i64 0)) (bytes := 8) (c2 := c_p0) rfl (fun fb => by kernel_rfl) (hS1638.rd 0).1 (by kernel_rfl) (by kernel_rfl) rfl (by decide) h1639 (by decide) [] (by decide) (by decide) (fun A1640 c1641 w1642 hS1643 => ?_)
  refine ⟨trivial, ?_⟩
  refine seg 4 [] [2] [(2, (.slice A1640 (([] : List Int) ++ p0).length c1641))] [] (fun fb => by kernel_rfl) rfl trivial ?_
  refine WL.done rfl ?_
  refine WX.next ?_
  refine WC.ret ?_
  injection hf with hf
  subst hf
  exact WX.ret_ [] (.slice A1640 (([] : List Int) ++ p0).length c1641) [] (fun fb => by kernel_rfl) trivial ⟨_, rfl, A1640, c1641, rfl, (hS1643.sub [0] (by decide)).noR⟩
theorem slices_Clone_int_int_calls (p0 : List Int) (A_p0 : Option Addr) (c_p0 : Nat) (r : List Int) (w : World) (hR0 : RO NoS w (rowR encInt A_p0 c_p0 p0)) (hf : slices_Clone_int_int p0 = some r) :
    CallsR Try.prog 54 #[(.slice A_p0 p0.length c_p0)] w (fun v w' => ∃ (A1_ : Option Addr), ∃ (c1_ : Nat), v = (.slice A1_ r.length c1_) ∧ St NoS w w' [] [rowO 3 encInt A1_ c1_ r]) := by
  unfold slices_Clone_int_int at hf
  cases A_p0 with
  | none =>
    have h3 : p0 = [] := by
      cases p0 with
      | nil => rfl
      | cons x xs => exact absurd (hR0.1.1 0 x rfl).1 (by simp)
    subst h3
    rw [slices_Clone_int_int_some] at hf
    obtain ⟨h4, hf⟩ := as_some hf
    injection hf with hf; subst hf
    exact slices_Clone_int_int_nil_calls [] c_p0 [] w hR0 rfl
  | some a => exact slices_Clone_int_int_some_calls p0 a c_p0 r w hR0 hf
theorem machine_begin_calls (p0 : Machine) (p1 : Config) (A_p0_Actions : Option Addr) (c_p0_Actions : Nat) (A_p1_Cells : Option Addr) (c_p1_Cells : Nat) (r : Runner) (w : World) (hR0 : RO NoS w (rowR enc_Action A_p0_Actions c_p0_Actions p0.Actions)) (hR1 : RO NoS w (rowR encInt A_p1_Cells c_p1_Cells p1.Cells)) (hf : machine_begin p0 p1 = some r) :
    CallsR Try.prog 42 #[(.agg #[(.int .i64 p0.States), (.int .i64 p0.Symbols), (.slice A_p0_Actions p0.Actions.length c_p0_Actions)]), (.agg #[(.int .i64 p1.State), (.int .i64 p1.At), (.slice A_p1_Cells p1.Cells.length c_p1_Cells)])] w (fun v w' => ∃ (g1_ : Nat), ∃ (A2_ : Option Addr), ∃ (c2_ : Nat), v = (.pointer (some ⟨g1_, 0, none⟩)) ∧ St NoS w w' [] [blk g1_ (.cells #[(.int .i64 r.m.States), (.int .i64 r.m.Symbols), (.slice A_p0_Actions p0.Actions.length c_p0_Actions), (.int .i64 r.Config.State), (.int .i64 r.Config.At), (.slice A2_ r.Config.Cells.length c2_)] 82 (0, 0)), rowO 3 encInt A2_ c2_ r.Config.Cells]) := by
  have hS : St NoS w w [rowR enc_Action A_p0_Actions c_p0_Actions p0.Actions, rowR encInt A_p1_Cells c_p1_Cells p1.Cells] [] := St.init (ro_cons hR0 (ro_cons hR1 (ro_nil _ _)))
  refine enter 13 Try.func42 rfl Try.ntmps42 rfl ?_
  unfold machine_begin at hf
  refine WC.seq ?_
  refine WC.region ?_
  refine WL.new hS 2 [] (fun g => (.pointer (some ⟨g, 0, none⟩))) (.cells #[(.int .i64 p0.States), (.int .i64 p0.Symbols), (.slice A_p0_Actions p0.Actions.length c_p0_Actions)] 24 (0, 0)) [] (fun fb g => by kernel_rfl) trivial (fun g1625 w1626 hS1627 => ?_)
  refine ⟨trivial, ?_⟩
  refine WL.new hS1627 3 [] (fun g => (.pointer (some ⟨g, 0, none⟩))) (.cells #[(.int .i64 p1.State), (.int .i64 p1.At), (.slice A_p1_Cells p1.Cells.length c_p1_Cells)] 27 (0, 0)) [] (fun fb g => by kernel_rfl) trivial (fun g1629 w1630 hS1631 => ?_)
  refine ⟨trivial, ?_⟩
  refine seg 3 [] [2, 3] [(2, (.pointer (some ⟨g1625, 0, none⟩))), (3, (.pointer (some ⟨g1629, 0, none⟩)))] [] (fun fb => by kernel_rfl) rfl trivial ?_
  refine WL.done rfl ?_
  refine WX.next ?_
  refine WC.seq ?_
  refine WC.region ?_
  refine seg 2 [.v (.slice A_p1_Cells p1.Cells.length c_p1_Cells)] [2, 3, 6] [(2, (.pointer (some ⟨g1625, 0, none⟩))), (3, (.pointer (some ⟨g1629, 0, none⟩))), (6, (.slice A_p1_Cells p1.Cells.length c_p1_Cells))] [.cell ⟨g1629, 2, none⟩ (.slice A_p1_Cells p1.Cells.length c_p1_Cells)] (fun fb => by kernel_rfl) rfl ⟨hS1631.cell 0 rfl 2 rfl, trivial⟩ ?_
  obtain ⟨t1644, ht1645, hf⟩ := bind_some hf
  refine WL.call (some 7) 54 #[(.slice A_p1_Cells p1.Cells.length c_p1_Cells)] (fun fb => by kernel_rfl) (slices_Clone_int_int_calls p1.Cells A_p1_Cells c_p1_Cells t1644 _ (hS1631.rd 1) ht1645) (fun v w1646 hR1647 => ?_)
  obtain ⟨A1649, c1650, rfl, hk_⟩ := hR1647
  have hS1648 : St NoS w w1646 [rowR enc_Action A_p0_Actions c_p0_Actions p0.Actions, rowR encInt A_p1_Cells c_p1_Cells p1.Cells] [rowO 3 encInt A1649 c1650 t1644, blk g1629 (.cells #[(.int .i64 p1.State), (.int .i64 p1.At), (.slice A_p1_Cells p1.Cells.length c_p1_Cells)] 27 (0, 0)), blk g1625 (.cells #[(.int .i64 p0.States), (.int .i64 p0.Symbols), (.slice A_p0_Actions p0.Actions.length c_p0_Actions)] 24 (0, 0))] := hS1631.call hk_ [] [0, 1] (fun g hg => hg.elim) (by simp) (by decide)
  refine ⟨trivial, ?_⟩
  refine seg 4 [] [2, 3, 7, 8] [(2, (.pointer (some ⟨g1625, 0, none⟩))), (3, (.pointer (some ⟨g1629, 0, none⟩))), (7, (.slice A1649 t1644.length c1650)), (8, (.pointer (some ⟨g1629, 2, none⟩)))] [] (fun fb => by kernel_rfl) rfl trivial ?_
  refine WL.store hS1648 1 rfl [(2, (.slice A1649 t1644.length c1650))] #[(.int .i64 p1.State), (.int .i64 p1.At), (.slice A1649 t1644.length c1650)] (fun fb => by kernel_rfl) (by kernel_rfl) rfl [0, 2] (by decide) (by decide) (fun w1651 hS1652 => ?_)
  refine ⟨trivial, ?_⟩
  refine WL.done rfl ?_
  refine WX.next ?_
  refine WC.seq ?_
  refine WC.region ?_
  refine seg 3 [.v (.int .i64 p0.States), .v (.int .i64 p0.Symbols), .v (.slice A_p0_Actions p0.Actions.length c_p0_Actions), .v (.int .i64 p1.State), .v (.int .i64 p1.At), .v (.slice A1649 t1644.length c1650)] [11] [(11, (.agg #[(.int .i64 p0.States), (.int .i64 p0.Symbols), (.slice A_p0_Actions p0.Actions.length c_p0_Actions), (.int .i64 p1.State), (.int .i64 p1.At), (.slice A1649 t1644.length c1650)]))] [.cell ⟨g1625, 0, none⟩ (.int .i64 p0.States), .cell ⟨g1625, 1, none⟩ (.int .i64 p0.Symbols), .cell ⟨g1625, 2, none⟩ (.slice A_p0_Actions p0.Actions.length c_p0_Actions), .cell ⟨g1629, 0, none⟩ (.int .i64 p1.State), .cell ⟨g1629, 1, none⟩ (.int .i64 p1.At), .cell ⟨g1629, 2, none⟩ (.slice A1649 t1644.length c1650)] (fun fb => by kernel_rfl) rfl ⟨hS1652.cell 2 rfl 0 rfl, hS1652.cell 2 rfl 1 rfl, hS1652.cell 2 rfl 2 rfl, hS1652.cell 0 rfl 0 rfl, hS1652.cell 0 rfl 1 rfl, hS1652.cell 0 rfl 2 rfl, trivial⟩ ?_
  refine WL.new hS1652 12 [] (fun g => (.pointer (some ⟨g, 0, none⟩))) (.cells #[(.int .i64 p0.States), (.int .i64 p0.Symbols), (.slice A_p0_Actions p0.Actions.length c_p0_Actions), (.int .i64 p1.State), (.int .i64 p1.At), (.slice A1649 t1644.length c1650)] 82 (0, 0)) [] (fun fb g => by kernel_rfl) trivial (fun g1653 w1654 hS1655 => ?_)
  refine ⟨trivial, ?_⟩
  refine seg 5 [] [4] [(4, (.pointer (some ⟨g1653, 0, none⟩)))] [] (fun fb => by kernel_rfl) rfl trivial ?_
  refine WL.done rfl ?_
  refine WX.next ?_
  refine WC.ret ?_
  injection hf with hf
  subst hf
  exact WX.ret_ [] (.pointer (some ⟨g1653, 0, none⟩)) [] (fun fb => by kernel_rfl) trivial ⟨_, rfl, g1653, A1649, c1650, rfl, (hS1655.sub [0, 2] (by decide)).noR⟩
theorem machine_runner_does_calls (p0 : Runner) (g_p0 : Nat) (A_p0_m_Actions : Option Addr) (c_p0_m_Actions : Nat) (A_p0_Config_Cells : Option Addr) (c_p0_Config_Cells : Nat) (r : Int) (w : World) (hR0 : RO NoS w (blk g_p0 (.cells #[(.int .i64 p0.m.States), (.int .i64 p0.m.Symbols), (.slice A_p0_m_Actions p0.m.Actions.length c_p0_m_Actions), (.int .i64 p0.Config.State), (.int .i64 p0.Config.At), (.slice A_p0_Config_Cells p0.Config.Cells.length c_p0_Config_Cells)] 82 (0, 0)))) (hR1 : RO NoS w (rowR enc_Action A_p0_m_Actions c_p0_m_Actions p0.m.Actions)) (hR2 : RO NoS w (rowR encInt A_p0_Config_Cells c_p0_Config_Cells p0.Config.Cells)) (hf : machine_runner_does p0 = some r) :
    CallsR Try.prog 63 #[(.pointer (some ⟨g_p0, 0, none⟩))] w (fun v w' => v = (.int .i64 r) ∧ Keeps NoS w w') := by
  have hS : St NoS w w [blk g_p0 (.cells #[(.int .i64 p0.m.States), (.int .i64 p0.m.Symbols), (.slice A_p0_m_Actions p0.m.Actions.length c_p0_m_Actions), (.int .i64 p0.Config.State), (.int .i64 p0.Config.At), (.slice A_p0_Config_Cells p0.Config.Cells.length c_p0_Config_Cells)] 82 (0, 0)), rowR enc_Action A_p0_m_Actions c_p0_m_Actions p0.m.Actions, rowR encInt A_p0_Config_Cells c_p0_Config_Cells p0.Config.Cells] [] := St.init (ro_cons hR0 (ro_cons hR1 (ro_cons hR2 (ro_nil _ _))))
  refine enter 27 Try.func63 rfl Try.ntmps63 rfl ?_
  unfold machine_runner_does at hf
  refine WC.seq ?_
  refine WC.region ?_
  refine seg 1 [] [0] [(0, (.pointer (some ⟨g_p0, 0, none⟩)))] [] (fun fb => by kernel_rfl) rfl trivial ?_
  refine WL.done rfl ?_
  refine WX.next ?_
  refine WC.seq ?_
  obtain ⟨h1669, hf⟩ := as_some hf
  refine WC.regionD ([(4, ⟨g_p0, 3, none⟩, (.int .i64 p0.Config.State)), (9, ⟨g_p0, 1, none⟩, (.int .i64 p0.m.Symbols)), (15, ⟨g_p0, 5, none⟩, (.slice A_p0_Config_Cells p0.Config.Cells.length c_p0_Config_Cells)), (20, ⟨g_p0, 4, none⟩, (.int .i64 p0.Config.At)), (22, ((adr A_p0_Config_Cells).add ((p0.Config.At).toNat * 1)), (.int .i64 (rdD p0.Config.Cells p0.Config.At 0)))], [0, 1, 2, 3, 4, 5, 6, 7, 8, 9, 10, 11, 12, 13, 14, 15, 16, 17, 18, 19, 20, 21, 22, 23, 24], [[], [0], [0, 1], [0, 1, 2], [0, 1, 2, 3], [], [5], [5, 6], [5, 6, 7], [5, 6, 7, 8], [0, 1, 2, 3, 4, 5, 6, 7, 8, 9], [], [11], [11, 12], [11, 12, 13], [11, 12, 13, 14], [], [16], [16, 17], [16, 17, 18], [16, 17, 18, 19], [11, 12, 13, 14, 15, 16, 17, 18, 19, 20], [11, 12, 13, 14, 15, 16, 17, 18, 19, 20, 21], [0, 1, 2, 3, 4, 5, 6, 7, 8, 9, 10, 11, 12, 13, 14, 15, 16, 17, 18, 19, 20, 21, 22], [0, 1, 2, 3, 4, 5, 6, 7, 8, 9, 10, 11, 12, 13, 14, 15, 16, 17, 18, 19, 20, 21, 22, 23]]) [[0, 1, 2, 3, 4, 5, 6, 7, 8, 9, 10, 11, 12, 13, 14, 15, 16, 17, 18, 19, 20, 21, 22, 23, 24]] (by kernel_rfl) (by kernel_rfl) (NoPanic.seq (NoPanic.body)) ?_
  have hS1667 := hS.drew
  revert hS1667
  generalize World.drew w = w1666
  intro hS1667
  refine ⟨⟨blk_cell (hS1667.rd 0).1 3 rfl, blk_cell (hS1667.rd 0).1 1 rfl, blk_cell (hS1667.rd 0).1 5 rfl, blk_cell (hS1667.rd 0).1 4 rfl, rowR.cell (hS1667.rd 2).1 0 h1669.1 h1669.2 0 rfl, trivial⟩, forallC ?_ (forallN)⟩
  refine segF 25 [.v (.int .i64 p0.Config.State), .v (.int .i64 p0.m.Symbols), .v (.slice A_p0_Config_Cells p0.Config.Cells.length c_p0_Config_Cells), .v (.int .i64 p0.Config.At), .v (.int .i64 (rdD p0.Config.Cells p0.Config.At 0))] [2] [(2, (.int .i64 (w64 ((w64 (p0.Config.State * p0.m.Symbols)) + (rdD p0.Config.Cells p0.Config.At 0)))))] [.idx A_p0_Config_Cells p0.Config.At p0.Config.Cells.length] [0, 1, 2, 3, 4] [(4, ⟨g_p0, 3, none⟩, (.int .i64 p0.Config.State)), (9, ⟨g_p0, 1, none⟩, (.int .i64 p0.m.Symbols)), (15, ⟨g_p0, 5, none⟩, (.slice A_p0_Config_Cells p0.Config.Cells.length c_p0_Config_Cells)), (20, ⟨g_p0, 4, none⟩, (.int .i64 p0.Config.At)), (22, ((adr A_p0_Config_Cells).add ((p0.Config.At).toNat * 1)), (.int .i64 (rdD p0.Config.Cells p0.Config.At 0)))] (fun fb => by kernel_rfl) rfl ⟨rowR.adr (hS1667.rd 2).1 h1669.1 h1669.2, trivial⟩ rfl ?_
  refine WL.done rfl ?_
  refine WX.next ?_
  refine WC.ret ?_
  injection hf with hf
  subst hf
  exact WX.ret_ [] (.int .i64 (w64 ((w64 (p0.Config.State * p0.m.Symbols)) + (rdD p0.Config.Cells p0.Config.At 0)))) [] (fun fb => by kernel_rfl) trivial ⟨_, rfl, rfl, hS1667.keep⟩
theorem machine_runner_step_calls (p0 : Runner) (g_p0 : Nat) (A_p0_m_Actions : Option Addr) (c_p0_m_Actions : Nat) (A_p0_Config_Cells : Option Addr) (c_p0_Config_Cells : Nat) (r : Int × Runner) (w : World) (hR0 : RO (fpL [blk g_p0 (.cells #[(.int .i64 p0.m.States), (.int .i64 p0.m.Symbols), (.slice A_p0_m_Actions p0.m.Actions.length c_p0_m_Actions), (.int .i64 p0.Config.State), (.int .i64 p0.Config.At), (.slice A_p0_Config_Cells p0.Config.Cells.length c_p0_Config_Cells)] 82 (0, 0)), rowO 3 encInt A_p0_Config_Cells c_p0_Config_Cells p0.Config.Cells]) w (rowR enc_Action A_p0_m_Actions c_p0_m_Actions p0.m.Actions)) (hI : IoOK w [blk g_p0 (.cells #[(.int .i64 p0.m.States), (.int .i64 p0.m.Symbols), (.slice A_p0_m_Actions p0.m.Actions.length c_p0_m_Actions), (.int .i64 p0.Config.State), (.int .i64 p0.Config.At), (.slice A_p0_Config_Cells p0.Config.Cells.length c_p0_Config_Cells)] 82 (0, 0)), rowO 3 encInt A_p0_Config_Cells c_p0_Config_Cells p0.Config.Cells]) (hf : machine_runner_step p0 = some r) :
    CallsR Try.prog 43 #[(.pointer (some ⟨g_p0, 0, none⟩))] w (fun v w' => ∃ (A1_ : Option Addr), ∃ (c1_ : Nat), v = (.int .i64 r.1) ∧ St (fpL [blk g_p0 (.cells #[(.int .i64 p0.m.States), (.int .i64 p0.m.Symbols), (.slice A_p0_m_Actions p0.m.Actions.length c_p0_m_Actions), (.int .i64 p0.Config.State), (.int .i64 p0.Config.At), (.slice A_p0_Config_Cells p0.Config.Cells.length c_p0_Config_Cells)] 82 (0, 0)), rowO 3 encInt A_p0_Config_Cells c_p0_Config_Cells p0.Config.Cells]) w w' [] [blk g_p0 (.cells #[(.int .i64 r.2.m.States), (.int .i64 r.2.m.Symbols), (.slice A_p0_m_Actions p0.m.Actions.length c_p0_m_Actions), (.int .i64 r.2.Config.State), (.int .i64 r.2.Config.At), (.slice A1_ r.2.Config.Cells.length c1_)] 82 (0, 0)), rowO 3 encInt A1_ c1_ r.2.Config.Cells]) := by
  have hS : St (fpL [blk g_p0 (.cells #[(.int .i64 p0.m.States), (.int .i64 p0.m.Symbols), (.slice A_p0_m_Actions p0.m.Actions.length c_p0_m_Actions), (.int .i64 p0.Config.State), (.int .i64 p0.Config.At), (.slice A_p0_Config_Cells p0.Config.Cells.length c_p0_Config_Cells)] 82 (0, 0)), rowO 3 encInt A_p0_Config_Cells c_p0_Config_Cells p0.Config.Cells]) w w [rowR enc_Action A_p0_m_Actions c_p0_m_Actions p0.m.Actions] [blk g_p0 (.cells #[(.int .i64 p0.m.States), (.int .i64 p0.m.Symbols), (.slice A_p0_m_Actions p0.m.Actions.length c_p0_m_Actions), (.int .i64 p0.Config.State), (.int .i64 p0.Config.At), (.slice A_p0_Config_Cells p0.Config.Cells.length c_p0_Config_Cells)] 82 (0, 0)), rowO 3 encInt A_p0_Config_Cells c_p0_Config_Cells p0.Config.Cells] := St.initIO (ro_cons hR0 (ro_nil _ _)) hI
  refine enter 70 Try.func43 rfl Try.ntmps43 rfl ?_
  unfold machine_runner_step at hf
  refine WC.seq ?_
  refine WC.region ?_
  refine seg 1 [] [0] [(0, (.pointer (some ⟨g_p0, 0, none⟩)))] [] (fun fb => by kernel_rfl) rfl trivial ?_
  refine WL.done rfl ?_
  refine WX.next ?_
  refine WC.seq ?_
  obtain ⟨x1831, hx1832, hf⟩ := bind_some hf
  refine WC.cutN (T := (Int × Int × Int) × Nat) (fun t => [(0, (.pointer (some ⟨g_p0, 0, none⟩))), (3, (.pointer (some ⟨t.2, 0, none⟩)))]) (fun t w1 => St (fpL [blk g_p0 (.cells #[(.int .i64 p0.m.States), (.int .i64 p0.m.Symbols), (.slice A_p0_m_Actions p0.m.Actions.length c_p0_m_Actions), (.int .i64 p0.Config.State), (.int .i64 p0.Config.At), (.slice A_p0_Config_Cells p0.Config.Cells.length c_p0_Config_Cells)] 82 (0, 0)), rowO 3 encInt A_p0_Config_Cells c_p0_Config_Cells p0.Config.Cells]) w w1 [rowR enc_Action A_p0_m_Actions c_p0_m_Actions p0.m.Actions] [blk g_p0 (.cells #[(.int .i64 p0.m.States), (.int .i64 p0.m.Symbols), (.slice A_p0_m_Actions p0.m.Actions.length c_p0_m_Actions), (.int .i64 p0.Config.State), (.int .i64 p0.Config.At), (.slice A_p0_Config_Cells p0.Config.Cells.length c_p0_Config_Cells)] 82 (0, 0)), rowO 3 encInt A_p0_Config_Cells c_p0_Config_Cells p0.Config.Cells, blk t.2 (.cells #[(.int .i64 t.1.1), (.int .i64 t.1.2.1), (.int .i64 t.1.2.2)] 88 (0, 0))] ∧ x1831 = t.1) (fun Kx1831 => ?_) ?_
  ·
    refine WC.regionD ([(4, ⟨g_p0, 2, none⟩, (.slice A_p0_m_Actions p0.m.Actions.length c_p0_m_Actions))], [0, 1, 2, 3, 4, 5, 7], [[], [0], [0, 1], [0, 1, 2], [0, 1, 2, 3], [], [5], [0, 1, 2, 3, 4, 5, 6], [0, 1, 2, 3, 4, 5, 6, 7], [], [0, 1, 2, 3, 4, 5, 6, 7, 8, 9]]) [[0, 1, 2, 3, 4, 5, 6, 7, 8, 9, 10], [0, 1, 2, 3, 4, 5, 6, 7, 9, 8, 10], [0, 1, 2, 3, 4, 5, 9, 6, 7, 8, 10]] (by kernel_rfl) (by kernel_rfl) (NoPanic.seq (NoPanic.body)) ?_
    have hS1834 := hS.drew
    revert hS1834
    generalize World.drew w = w1833
    intro hS1834
    refine ⟨⟨hS1834.cell 0 rfl 2 rfl, trivial⟩, forallC ?_ (forallC ?_ (forallC ?_ (forallN)))⟩
    ·
      refine segF 6 [.v (.slice A_p0_m_Actions p0.m.Actions.length c_p0_m_Actions)] [0, 9, 10] [(0, (.pointer (some ⟨g_p0, 0, none⟩))), (9, (.slice A_p0_m_Actions p0.m.Actions.length c_p0_m_Actions)), (10, (.pointer (some ⟨g_p0, 0, none⟩)))] [] [0] [(4, ⟨g_p0, 2, none⟩, (.slice A_p0_m_Actions p0.m.Actions.length c_p0_m_Actions))] (fun fb => by kernel_rfl) rfl trivial rfl ?_
      obtain ⟨t1835, ht1836, hx1832⟩ := bind_some hx1832
      refine WL.call (some 11) 63 #[(.pointer (some ⟨g_p0, 0, none⟩))] (fun fb => by kernel_rfl) (machine_runner_does_calls p0 g_p0 A_p0_m_Actions c_p0_m_Actions A_p0_Config_Cells c_p0_Config_Cells t1835 _ (hS1834.ow 0) (hS1834.rd 0) (hS1834.ow 1).ofO ht1836) (fun v w1837 hR1838 => ?_)
      obtain ⟨rfl, hk_⟩ := hR1838
      have hS1839 := hS1834.keepN hk_
      refine ⟨⟨hS1839.cell 0 rfl 2 rfl, trivial⟩, ?_⟩
      obtain ⟨h1840, hx1832⟩ := as_some hx1832
      refine seg 9 [.v (.int .i64 ((rdD p0.m.Actions t1835 z_Action).Write)), .v (.int .i64 ((rdD p0.m.Actions t1835 z_Action).Move)), .v (.int .i64 ((rdD p0.m.Actions t1835 z_Action).Next))] [0, 13] [(0, (.pointer (some ⟨g_p0, 0, none⟩))), (13, (.agg #[(.int .i64 ((rdD p0.m.Actions t1835 z_Action).Write)), (.int .i64 ((rdD p0.m.Actions t1835 z_Action).Move)), (.int .i64 ((rdD p0.m.Actions t1835 z_Action).Next))]))] [.idx A_p0_m_Actions t1835 p0.m.Actions.length, .cell ((adr A_p0_m_Actions).add ((t1835).toNat * 3)) (.int .i64 ((rdD p0.m.Actions t1835 z_Action).Write)), .cell (((adr A_p0_m_Actions).add ((t1835).toNat * 3)).add 1) (.int .i64 ((rdD p0.m.Actions t1835 z_Action).Move)), .cell (((adr A_p0_m_Actions).add ((t1835).toNat * 3)).add 2) (.int .i64 ((rdD p0.m.Actions t1835 z_Action).Next))] (fun fb => by kernel_rfl) rfl ⟨rowR.adr (hS1839.rd 0).1 h1840.1 h1840.2, rowR.cell (hS1839.rd 0).1 z_Action h1840.1 h1840.2 0 rfl, rowR.cell (hS1839.rd 0).1 z_Action h1840.1 h1840.2 1 rfl, rowR.cell (hS1839.rd 0).1 z_Action h1840.1 h1840.2 2 rfl, trivial⟩ ?_
      refine WL.new hS1839 3 [] (fun g => (.pointer (some ⟨g, 0, none⟩))) (.cells #[(.int .i64 0), (.int .i64 0), (.int .i64 0)] 88 (0, 0)) [] (fun fb g => by kernel_rfl) trivial (fun g1841 w1842 hS1843 => ?_)
      refine ⟨⟨hS1843.cell 1 rfl 2 rfl, trivial⟩, ?_⟩
      refine WL.store hS1843 0 rfl [(0, (.int .i64 ((rdD p0.m.Actions t1835 z_Action).Write))), (1, (.int .i64 ((rdD p0.m.Actions t1835 z_Action).Move))), (2, (.int .i64 ((rdD p0.m.Actions t1835 z_Action).Next)))] #[(.int .i64 ((rdD p0.m.Actions t1835 z_Action).Write)), (.int .i64 ((rdD p0.m.Actions t1835 z_Action).Move)), (.int .i64 ((rdD p0.m.Actions t1835 z_Action).Next))] (fun fb => by kernel_rfl) (by kernel_rfl) rfl [1, 2] (by decide) (by decide) (fun w1845 hS1846 => ?_)
      refine ⟨trivial, ?_⟩
      refine WL.done rfl ?_
      injection hx1832 with hx1832
      exact WX.to Kx1831 (((rdD p0.m.Actions t1835 z_Action).Write, (rdD p0.m.Actions t1835 z_Action).Move, (rdD p0.m.Actions t1835 z_Action).Next), g1841) [0, 3] rfl ⟨(hS1846.subR [0]).sub [1, 2, 0] (by decide), hx1832.symm⟩
    ·
      refine segF 6 [.v (.slice A_p0_m_Actions p0.m.Actions.length c_p0_m_Actions)] [0, 9, 10] [(0, (.pointer (some ⟨g_p0, 0, none⟩))), (9, (.slice A_p0_m_Actions p0.m.Actions.length c_p0_m_Actions)), (10, (.pointer (some ⟨g_p0, 0, none⟩)))] [] [0] [(4, ⟨g_p0, 2, none⟩, (.slice A_p0_m_Actions p0.m.Actions.length c_p0_m_Actions))] (fun fb => by kernel_rfl) rfl trivial rfl ?_
      obtain ⟨t1847, ht1848, hx1832⟩ := bind_some hx1832
      refine WL.call (some 11) 63 #[(.pointer (some ⟨g_p0, 0, none⟩))] (fun fb => by kernel_rfl) (machine_runner_does_calls p0 g_p0 A_p0_m_Actions c_p0_m_Actions A_p0_Config_Cells c_p0_Config_Cells t1847 _ (hS1834.ow 0) (hS1834.rd 0) (hS1834.ow 1).ofO ht1848) (fun v w1849 hR1850 => ?_)
      obtain ⟨rfl, hk_⟩ := hR1850
      have hS1851 := hS1834.keepN hk_
      refine ⟨⟨hS1851.cell 0 rfl 2 rfl, trivial⟩, ?_⟩
      obtain ⟨h1852, hx1832⟩ := as_some hx1832
      refine seg 8 [] [0, 12] [(0, (.pointer (some ⟨g_p0, 0, none⟩))), (12, (.pointer (some ((adr A_p0_m_Actions).add ((t1847).toNat * 3)))))] [.idx A_p0_m_Actions t1847 p0.m.Actions.length] (fun fb => by kernel_rfl) rfl ⟨rowR.adr (hS1851.rd 0).1 h1852.1 h1852.2, trivial⟩ ?_
      refine WL.new hS1851 3 [] (fun g => (.pointer (some ⟨g, 0, none⟩))) (.cells #[(.int .i64 0), (.int .i64 0), (.int .i64 0)] 88 (0, 0)) [] (fun fb g => by kernel_rfl) trivial (fun g1853 w1854 hS1855 => ?_)
      refine ⟨⟨hS1855.cell 1 rfl 2 rfl, trivial⟩, ?_⟩
      refine seg 10 [.v (.int .i64 ((rdD p0.m.Actions t1847 z_Action).Write)), .v (.int .i64 ((rdD p0.m.Actions t1847 z_Action).Move)), .v (.int .i64 ((rdD p0.m.Actions t1847 z_Action).Next))] [0, 3, 13] [(0, (.pointer (some ⟨g_p0, 0, none⟩))), (3, (.pointer (some ⟨g1853, 0, none⟩))), (13, (.agg #[(.int .i64 ((rdD p0.m.Actions t1847 z_Action).Write)), (.int .i64 ((rdD p0.m.Actions t1847 z_Action).Move)), (.int .i64 ((rdD p0.m.Actions t1847 z_Action).Next))]))] [.cell ((adr A_p0_m_Actions).add ((t1847).toNat * 3)) (.int .i64 ((rdD p0.m.Actions t1847 z_Action).Write)), .cell (((adr A_p0_m_Actions).add ((t1847).toNat * 3)).add 1) (.int .i64 ((rdD p0.m.Actions t1847 z_Action).Move)), .cell (((adr A_p0_m_Actions).add ((t1847).toNat * 3)).add 2) (.int .i64 ((rdD p0.m.Actions t1847 z_Action).Next))] (fun fb => by kernel_rfl) rfl ⟨rowR.cell (hS1855.rd 0).1 z_Action h1852.1 h1852.2 0 rfl, rowR.cell (hS1855.rd 0).1 z_Action h1852.1 h1852.2 1 rfl, rowR.cell (hS1855.rd 0).1 z_Action h1852.1 h1852.2 2 rfl, trivial⟩ ?_
      refine WL.store hS1855 0 rfl [(0, (.int .i64 ((rdD p0.m.Actions t1847 z_Action).Write))), (1, (.int .i64 ((rdD p0.m.Actions t1847 z_Action).Move))), (2, (.int .i64 ((rdD p0.m.Actions t1847 z_Action).Next)))] #[(.int .i64 ((rdD p0.m.Actions t1847 z_Action).Write)), (.int .i64 ((rdD p0.m.Actions t1847 z_Action).Move)), (.int .i64 ((rdD p0.m.Actions t1847 z_Action).Next))] (fun fb => by kernel_rfl) (by kernel_rfl) rfl [1, 2] (by decide) (by decide) (fun w1857 hS1858 => ?_)
      refine ⟨trivial, ?_⟩
      refine WL.done rfl ?_
      injection hx1832 with hx1832
      exact WX.to Kx1831 (((rdD p0.m.Actions t1847 z_Action).Write, (rdD p0.m.Actions t1847 z_Action).Move, (rdD p0.m.Actions t1847 z_Action).Next), g1853) [0, 3] rfl ⟨(hS1858.subR [0]).sub [1, 2, 0] (by decide), hx1832.symm⟩
    refine segF 6 [.v (.slice A_p0_m_Actions p0.m.Actions.length c_p0_m_Actions)] [0, 9, 10] [(0, (.pointer (some ⟨g_p0, 0, none⟩))), (9, (.slice A_p0_m_Actions p0.m.Actions.length c_p0_m_Actions)), (10, (.pointer (some ⟨g_p0, 0, none⟩)))] [] [0] [(4, ⟨g_p0, 2, none⟩, (.slice A_p0_m_Actions p0.m.Actions.length c_p0_m_Actions))] (fun fb => by kernel_rfl) rfl trivial rfl ?_
    refine WL.new hS1834 3 [] (fun g => (.pointer (some ⟨g, 0, none⟩))) (.cells #[(.int .i64 0), (.int .i64 0), (.int .i64 0)] 88 (0, 0)) [] (fun fb g => by kernel_rfl) trivial (fun g1859 w1860 hS1861 => ?_)
    refine ⟨⟨hS1861.cell 1 rfl 2 rfl, trivial⟩, ?_⟩
    obtain ⟨t1863, ht1864, hx1832⟩ := bind_some hx1832
    refine WL.call (some 11) 63 #[(.pointer (some ⟨g_p0, 0, none⟩))] (fun fb => by kernel_rfl) (machine_runner_does_calls p0 g_p0 A_p0_m_Actions c_p0_m_Actions A_p0_Config_Cells c_p0_Config_Cells t1863 _ (hS1861.ow 1) (hS1861.rd 0) (hS1861.ow 2).ofO ht1864) (fun v w1865 hR1866 => ?_)
    obtain ⟨rfl, hk_⟩ := hR1866
    have hS1867 := hS1861.keepN hk_
    refine ⟨⟨hS1867.cell 1 rfl 2 rfl, trivial⟩, ?_⟩
    obtain ⟨h1868, hx1832⟩ := as_some hx1832
    refine seg 10 [.v (.int .i64 ((rdD p0.m.Actions t1863 z_Action).Write)), .v (.int .i64 ((rdD p0.m.Actions t1863 z_Action).Move)), .v (.int .i64 ((rdD p0.m.Actions t1863 z_Action).Next))] [0, 3, 13] [(0, (.pointer (some ⟨g_p0, 0, none⟩))), (3, (.pointer (some ⟨g1859, 0, none⟩))), (13, (.agg #[(.int .i64 ((rdD p0.m.Actions t1863 z_Action).Write)), (.int .i64 ((rdD p0.m.Actions t1863 z_Action).Move)), (.int .i64 ((rdD p0.m.Actions t1863 z_Action).Next))]))] [.idx A_p0_m_Actions t1863 p0.m.Actions.length, .cell ((adr A_p0_m_Actions).add ((t1863).toNat * 3)) (.int .i64 ((rdD p0.m.Actions t1863 z_Action).Write)), .cell (((adr A_p0_m_Actions).add ((t1863).toNat * 3)).add 1) (.int .i64 ((rdD p0.m.Actions t1863 z_Action).Move)), .cell (((adr A_p0_m_Actions).add ((t1863).toNat * 3)).add 2) (.int .i64 ((rdD p0.m.Actions t1863 z_Action).Next))] (fun fb => by kernel_rfl) rfl ⟨rowR.adr (hS1867.rd 0).1 h1868.1 h1868.2, rowR.cell (hS1867.rd 0).1 z_Action h1868.1 h1868.2 0 rfl, rowR.cell (hS1867.rd 0).1 z_Action h1868.1 h1868.2 1 rfl, rowR.cell (hS1867.rd 0).1 z_Action h1868.1 h1868.2 2 rfl, trivial⟩ ?_
    refine WL.store hS1867 0 rfl [(0, (.int .i64 ((rdD p0.m.Actions t1863 z_Action).Write))), (1, (.int .i64 ((rdD p0.m.Actions t1863 z_Action).Move))), (2, (.int .i64 ((rdD p0.m.Actions t1863 z_Action).Next)))] #[(.int .i64 ((rdD p0.m.Actions t1863 z_Action).Write)), (.int .i64 ((rdD p0.m.Actions t1863 z_Action).Move)), (.int .i64 ((rdD p0.m.Actions t1863 z_Action).Next))] (fun fb => by kernel_rfl) (by kernel_rfl) rfl [1, 2] (by decide) (by decide) (fun w1869 hS1870 => ?_)
    refine ⟨trivial, ?_⟩
    refine WL.done rfl ?_
    injection hx1832 with hx1832
    exact WX.to Kx1831 (((rdD p0.m.Actions t1863 z_Action).Write, (rdD p0.m.Actions t1863 z_Action).Move, (rdD p0.m.Actions t1863 z_Action).Next), g1859) [0, 3] rfl ⟨(hS1870.subR [0]).sub [1, 2, 0] (by decide), hx1832.symm⟩
  rintro ⟨y1874, g1827⟩ w1871 ⟨hS1872, hq1873⟩
  subst hq1873
  refine WX.next ?_
  refine WC.seq ?_
  refine WC.regionD ([(4, ⟨g_p0, 4, none⟩, (.int .i64 p0.Config.At)), (6, ⟨g1827, 1, none⟩, (.int .i64 x1831.2.1))], [0, 1, 2, 3, 4, 5, 6, 7, 8, 9, 10], [[], [0], [0, 1], [0, 1, 2], [0, 1, 2, 3], [], [5], [5, 6], [0, 1, 2, 3, 4, 5, 6, 7], [0, 1, 2, 3, 4, 5, 6, 7, 8], [0, 1, 2, 3, 4, 5, 6, 7, 8, 9]]) [[0, 1, 2, 3, 4, 5, 6, 7, 8, 9, 10]] (by kernel_rfl) (by kernel_rfl) (NoPanic.seq (NoPanic.body)) ?_
  have hS1876 := hS1872.drew
  revert hS1876
  generalize World.drew w1871 = w1875
  intro hS1876
  refine ⟨⟨hS1876.cell 0 rfl 4 rfl, hS1876.cell 2 rfl 1 rfl, trivial⟩, forallC ?_ (forallN)⟩
  refine segF 11 [.v (.int .i64 p0.Config.At), .v (.int .i64 x1831.2.1)] [0, 3, 4] [(0, (.pointer (some ⟨g_p0, 0, none⟩))), (3, (.pointer (some ⟨g1827, 0, none⟩))), (4, (.int .i64 (w64 ((w64 (p0.Config.At + (w64 (2 * x1831.2.1)))) - 1))))] [] [0, 1] [(4, ⟨g_p0, 4, none⟩, (.int .i64 p0.Config.At)), (6, ⟨g1827, 1, none⟩, (.int .i64 x1831.2.1))] (fun fb => by kernel_rfl) rfl trivial rfl ?_
  refine WL.done rfl ?_
  refine WX.next ?_
  refine WC.seq ?_
  refine WC.block ?_
  refine WC.seq ?_
  refine WC.regionD ([(1, ⟨g1827, 2, none⟩, (.int .i64 x1831.2.2)), (6, ⟨g_p0, 0, none⟩, (.int .i64 p0.m.States))], [0, 1, 2, 3, 4, 5, 6, 7, 8], [[], [0], [], [2], [2, 3], [2, 3, 4], [2, 3, 4, 5], [0, 1, 2, 3, 4, 5, 6], [0, 1, 2, 3, 4, 5, 6, 7]]) [[0, 1, 2, 3, 4, 5, 6, 7, 8]] (by kernel_rfl) (by kernel_rfl) (NoPanic.seq (NoPanic.block (NoPanic.seq (NoPanic.body)))) ?_
  have hS1878 := hS1876.drew
  revert hS1878
  generalize World.drew w1875 = w1877
  intro hS1878
  refine ⟨⟨hS1878.cell 2 rfl 2 rfl, hS1878.cell 0 rfl 0 rfl, trivial⟩, forallC ?_ (forallN)⟩
  refine segF 9 [.v (.int .i64 x1831.2.2), .v (.int .i64 p0.m.States)] [0, 3, 4, 24] [(0, (.pointer (some ⟨g_p0, 0, none⟩))), (3, (.pointer (some ⟨g1827, 0, none⟩))), (4, (.int .i64 (w64 ((w64 (p0.Config.At + (w64 (2 * x1831.2.1)))) - 1)))), (24, (.bool (x1831.2.2 == p0.m.States)))] [] [0, 1] [(1, ⟨g1827, 2, none⟩, (.int .i64 x1831.2.2)), (6, ⟨g_p0, 0, none⟩, (.int .i64 p0.m.States))] (fun fb => by kernel_rfl) rfl trivial rfl ?_
  refine WL.done rfl ?_
  refine WX.next ?_
  rcases br_some hf with ⟨h1879, hf⟩ | ⟨h1879, hf⟩
  · refine WC.condT2 (fun fb => by kernel_rfl) h1879 ?_
    refine WC.seq ?_
    refine WC.region ?_
    refine seg 1 [] [0, 2] [(0, (.pointer (some ⟨g_p0, 0, none⟩))), (2, (.int .i64 5))] [] (fun fb => by kernel_rfl) rfl trivial ?_
    refine WL.done rfl ?_
    refine WX.next ?_
    refine WC.ret ?_
    injection hf with hf
    subst hf
    exact WX.blockR (WX.thenR (WX.ret_ [] (.int .i64 5) [] (fun fb => by kernel_rfl) trivial ⟨_, rfl, A_p0_Config_Cells, c_p0_Config_Cells, rfl, (hS1878.sub [0, 1] (by decide)).noR⟩))
  refine WC.condF2 (fun fb => by kernel_rfl) h1879 ?_
  refine WC.seq ?_
  refine WC.region ?_
  refine seg 3 [] [0, 3, 4, 36] [(0, (.pointer (some ⟨g_p0, 0, none⟩))), (3, (.pointer (some ⟨g1827, 0, none⟩))), (4, (.int .i64 (w64 ((w64 (p0.Config.At + (w64 (2 * x1831.2.1)))) - 1)))), (36, (.bool (decide (w64 ((w64 (p0.Config.At + (w64 (2 * x1831.2.1)))) - 1) < 0))))] [] (fun fb => by kernel_rfl) rfl trivial ?_
  refine WL.cutV (T := Bool) 12 (fun t => [(45, (.bool t)), (0, (.pointer (some ⟨g_p0, 0, none⟩))), (3, (.pointer (some ⟨g1827, 0, none⟩))), (4, (.int .i64 (w64 ((w64 (p0.Config.At + (w64 (2 * x1831.2.1)))) - 1))))]) (fun t => t = ((decide (w64 ((w64 (p0.Config.At + (w64 (2 * x1831.2.1)))) - 1) < 0)) || (decide (w64 ((w64 (p0.Config.At + (w64 (2 * x1831.2.1)))) - 1) ≥ (p0.Config.Cells.length : Int))))) (fun K => ?_) ?_
  ·
    rcases Bool.eq_false_or_eq_true (decide (w64 ((w64 (p0.Config.At + (w64 (2 * x1831.2.1)))) - 1) < 0)) with h1880 | h1880
    ·
      refine WL.setB 36 h1880 rfl ?_
      refine seg 12 [] [0, 3, 4, 45] [(0, (.pointer (some ⟨g_p0, 0, none⟩))), (3, (.pointer (some ⟨g1827, 0, none⟩))), (4, (.int .i64 (w64 ((w64 (p0.Config.At + (w64 (2 * x1831.2.1)))) - 1)))), (45, (.bool true))] [] (fun fb => by kernel_rfl) rfl trivial ?_
      exact WL.toV K true [45, 0, 3, 4] rfl (by rw [h1880]; rfl)
    refine WL.setB 36 h1880 rfl ?_
    refine seg 12 [.v (.slice A_p0_Config_Cells p0.Config.Cells.length c_p0_Config_Cells)] [0, 3, 4, 45] [(0, (.pointer (some ⟨g_p0, 0, none⟩))), (3, (.pointer (some ⟨g1827, 0, none⟩))), (4, (.int .i64 (w64 ((w64 (p0.Config.At + (w64 (2 * x1831.2.1)))) - 1)))), (45, (.bool (decide (w64 ((w64 (p0.Config.At + (w64 (2 * x1831.2.1)))) - 1) ≥ (p0.Config.Cells.length : Int)))))] [.cell ⟨g_p0, 5, none⟩ (.slice A_p0_Config_Cells p0.Config.Cells.length c_p0_Config_Cells)] (fun fb => by kernel_rfl) rfl ⟨hS1878.cell 0 rfl 5 rfl, trivial⟩ ?_
    exact WL.toV K (decide (w64 ((w64 (p0.Config.At + (w64 (2 * x1831.2.1)))) - 1) ≥ (p0.Config.Cells.length : Int))) [45, 0, 3, 4] rfl (by rw [h1880]; rfl)
  rintro b1881 rfl
  refine seg 13 [] [0, 3, 4, 33] [(0, (.pointer (some ⟨g_p0, 0, none⟩))), (3, (.pointer (some ⟨g1827, 0, none⟩))), (4, (.int .i64 (w64 ((w64 (p0.Config.At + (w64 (2 * x1831.2.1)))) - 1)))), (33, (.bool ((decide (w64 ((w64 (p0.Config.At + (w64 (2 * x1831.2.1)))) - 1) < 0)) || (decide (w64 ((w64 (p0.Config.At + (w64 (2 * x1831.2.1)))) - 1) ≥ (p0.Config.Cells.length : Int))))))] [] (fun fb => by kernel_rfl) rfl trivial ?_
  refine WL.done rfl ?_
  refine WX.next ?_
  rcases br_some hf with ⟨h1882, hf⟩ | ⟨h1882, hf⟩
  · refine WC.condT2 (fun fb => by kernel_rfl) h1882 ?_
    refine WC.seq ?_
    refine WC.region ?_
    refine seg 1 [] [0, 2] [(0, (.pointer (some ⟨g_p0, 0, none⟩))), (2, (.int .i64 6))] [] (fun fb => by kernel_rfl) rfl trivial ?_
    refine WL.done rfl ?_
    refine WX.next ?_
    refine WC.ret ?_
    injection hf with hf
    subst hf
    exact WX.blockR (WX.thenR (WX.ret_ [] (.int .i64 6) [] (fun fb => by kernel_rfl) trivial ⟨_, rfl, A_p0_Config_Cells, c_p0_Config_Cells, rfl, (hS1878.sub [0, 1] (by decide)).noR⟩))
  refine WC.condF2 (fun fb => by kernel_rfl) h1882 ?_
  refine WC.skip ?_
  refine WX.blockN (WX.next ?_)
  refine WC.seq ?_
  obtain ⟨h1890, hf⟩ := as_some hf
  refine WC.regionD ([(4, ⟨g_p0, 5, none⟩, (.slice A_p0_Config_Cells p0.Config.Cells.length c_p0_Config_Cells)), (9, ⟨g_p0, 4, none⟩, (.int .i64 p0.Config.At)), (11, ⟨g1827, 0, none⟩, (.int .i64 x1831.1))], [0, 1, 2, 3, 4, 5, 6, 7, 8, 9, 10, 11, 12], [[], [0], [0, 1], [0, 1, 2], [0, 1, 2, 3], [], [5], [5, 6], [5, 6, 7], [5, 6, 7, 8], [], [10], [0, 1, 2, 3, 4, 5, 6, 7, 8, 9, 10, 11], [0, 1, 2, 3, 4, 5, 6, 7, 8, 9, 10, 11, 12]]) [[0, 1, 2, 3, 4, 5, 6, 7, 8, 9, 10, 11, 12, 13]] (by kernel_rfl) (by kernel_rfl) (NoPanic.seq (NoPanic.body)) ?_
  have hS1888 := hS1878.drew
  revert hS1888
  generalize World.drew w1877 = w1887
  intro hS1888
  refine ⟨⟨hS1888.cell 0 rfl 5 rfl, hS1888.cell 0 rfl 4 rfl, hS1888.cell 2 rfl 0 rfl, trivial⟩, forallC ?_ (forallN)⟩
  refine segF 13 [.v (.slice A_p0_Config_Cells p0.Config.Cells.length c_p0_Config_Cells), .v (.int .i64 p0.Config.At), .v (.int .i64 x1831.1)] [0, 3, 4, 57, 58] [(0, (.pointer (some ⟨g_p0, 0, none⟩))), (3, (.pointer (some ⟨g1827, 0, none⟩))), (4, (.int .i64 (w64 ((w64 (p0.Config.At + (w64 (2 * x1831.2.1)))) - 1)))), (57, (.int .i64 x1831.1)), (58, (.pointer (some ((adr A_p0_Config_Cells).add ((p0.Config.At).toNat * 1)))))] [.idx A_p0_Config_Cells p0.Config.At p0.Config.Cells.length] [0, 1, 2] [(4, ⟨g_p0, 5, none⟩, (.slice A_p0_Config_Cells p0.Config.Cells.length c_p0_Config_Cells)), (9, ⟨g_p0, 4, none⟩, (.int .i64 p0.Config.At)), (11, ⟨g1827, 0, none⟩, (.int .i64 x1831.1))] (fun fb => by kernel_rfl) rfl ⟨rowR.adr (rowO.rd (hS1888.own 1).1) h1890.1 h1890.2, trivial⟩ rfl ?_
  refine WL.storeRow hS1888 1 rfl (p0.Config.At) (x1831.1) (0) [(0, (.int .i64 x1831.1))] (fun fb => by kernel_rfl) h1890.1 h1890.2 (by kernel_rfl) rfl [0, 2] (by decide) (by decide) (fun w1891 hS1892 => ?_)
  refine ⟨trivial, ?_⟩
  have hS1893 : St (fpL [blk g_p0 (.cells #[(.int .i64 p0.m.States), (.int .i64 p0.m.Symbols), (.slice A_p0_m_Actions p0.m.Actions.length c_p0_m_Actions), (.int .i64 p0.Config.State), (.int .i64 p0.Config.At), (.slice A_p0_Config_Cells p0.Config.Cells.length c_p0_Config_Cells)] 82 (0, 0)), rowO 3 encInt A_p0_Config_Cells c_p0_Config_Cells p0.Config.Cells]) w w1891 [rowR enc_Action A_p0_m_Actions c_p0_m_Actions p0.m.Actions] [rowO 3 encInt A_p0_Config_Cells c_p0_Config_Cells (p0.Config.Cells.set (p0.Config.At).toNat x1831.1), blk g_p0 (.cells #[(.int .i64 p0.m.States), (.int .i64 p0.m.Symbols), (.slice A_p0_m_Actions p0.m.Actions.length c_p0_m_Actions), (.int .i64 p0.Config.State), (.int .i64 p0.Config.At), (.slice A_p0_Config_Cells (p0.Config.Cells.set (p0.Config.At).toNat x1831.1).length c_p0_Config_Cells)] 82 (0, 0)), blk g1827 (.cells #[(.int .i64 x1831.1), (.int .i64 x1831.2.1), (.int .i64 x1831.2.2)] 88 (0, 0))] := by simpa only [List.length_set] using (show St (fpL [blk g_p0 (.cells #[(.int .i64 p0.m.States), (.int .i64 p0.m.Symbols), (.slice A_p0_m_Actions p0.m.Actions.length c_p0_m_Actions), (.int .i64 p0.Config.State), (.int .i64 p0.Config.At), (.slice A_p0_Config_Cells p0.Config.Cells.length c_p0_Config_Cells)] 82 (0, 0)), rowO 3 encInt A_p0_Config_Cells c_p0_Config_Cells p0.Config.Cells]) w w1891 [rowR enc_Action A_p0_m_Actions c_p0_m_Actions p0.m.Actions] [rowO 3 encInt A_p0_Config_Cells c_p0_Config_Cells (p0.Config.Cells.set (p0.Config.At).toNat x1831.1), blk g_p0 (.cells #[(.int .i64 p0.m.States), (.int .i64 p0.m.Symbols), (.slice A_p0_m_Actions p0.m.Actions.length c_p0_m_Actions), (.int .i64 p0.Config.State), (.int .i64 p0.Config.At), (.slice A_p0_Config_Cells p0.Config.Cells.length c_p0_Config_Cells)] 82 (0, 0)), blk g1827 (.cells #[(.int .i64 x1831.1), (.int .i64 x1831.2.1), (.int .i64 x1831.2.2)] 88 (0, 0))] from hS1892)
  refine WL.done rfl ?_
  refine WX.next ?_
  refine WC.seq ?_
  refine WC.regionD ([(4, ⟨g1827, 2, none⟩, (.int .i64 x1831.2.2))], [0, 1, 2, 3, 4, 5, 6, 7, 9, 10, 11], [[], [], [], [], [3], [0, 2], [0, 2, 5], [0, 2, 5, 6], [0, 2, 5, 6, 7], [0, 1, 2, 3, 4, 5, 6, 7, 8], [0, 1, 2, 3, 4, 5, 6, 7, 8, 9], [0, 1, 2, 3, 4, 5, 6, 7, 8, 9, 10], [0, 1, 2, 3, 4, 5, 6, 7, 8, 9, 10, 11]]) [[0, 1, 2, 3, 4, 5, 6, 7, 8, 9, 10, 11, 12]] (by kernel_rfl) (by kernel_rfl) (NoPanic.seq (NoPanic.body)) ?_
  have hS1899 := hS1893.drew
  revert hS1899
  generalize World.drew w1891 = w1898
  intro hS1899
  refine ⟨⟨hS1899.cell 2 rfl 2 rfl, trivial⟩, forallC ?_ (forallN)⟩
  refine segF 8 [.v (.int .i64 x1831.2.2)] [0, 60, 61, 63, 66] [(0, (.pointer (some ⟨g_p0, 0, none⟩))), (60, (.pointer (some ⟨g_p0, 0, none⟩))), (61, (.int .i64 (w64 ((w64 (p0.Config.At + (w64 (2 * x1831.2.1)))) - 1)))), (63, (.int .i64 x1831.2.2)), (66, (.pointer (some ⟨g_p0, 4, none⟩)))] [] [0] [(4, ⟨g1827, 2, none⟩, (.int .i64 x1831.2.2))] (fun fb => by kernel_rfl) rfl trivial rfl ?_
  refine WL.store hS1899 1 rfl [(4, (.int .i64 (w64 ((w64 (p0.Config.At + (w64 (2 * x1831.2.1)))) - 1))))] #[(.int .i64 p0.m.States), (.int .i64 p0.m.Symbols), (.slice A_p0_m_Actions p0.m.Actions.length c_p0_m_Actions), (.int .i64 p0.Config.State), (.int .i64 (w64 ((w64 (p0.Config.At + (w64 (2 * x1831.2.1)))) - 1))), (.slice A_p0_Config_Cells (p0.Config.Cells.set (p0.Config.At).toNat x1831.1).length c_p0_Config_Cells)] (fun fb => by kernel_rfl) (by kernel_rfl) rfl [0, 2] (by decide) (by decide) (fun w1900 hS1901 => ?_)
  refine ⟨⟨hS1901.cell 2 rfl 2 rfl, trivial⟩, ?_⟩
  refine seg 12 [] [0, 63, 69] [(0, (.pointer (some ⟨g_p0, 0, none⟩))), (63, (.int .i64 x1831.2.2)), (69, (.pointer (some ⟨g_p0, 3, none⟩)))] [] (fun fb => by kernel_rfl) rfl trivial ?_
  refine WL.store hS1901 0 rfl [(3, (.int .i64 x1831.2.2))] #[(.int .i64 p0.m.States), (.int .i64 p0.m.Symbols), (.slice A_p0_m_Actions p0.m.Actions.length c_p0_m_Actions), (.int .i64 x1831.2.2), (.int .i64 (w64 ((w64 (p0.Config.At + (w64 (2 * x1831.2.1)))) - 1))), (.slice A_p0_Config_Cells (p0.Config.Cells.set (p0.Config.At).toNat x1831.1).length c_p0_Config_Cells)] (fun fb => by kernel_rfl) (by kernel_rfl) rfl [1, 2] (by decide) (by decide) (fun w1902 hS1903 => ?_)
  refine ⟨trivial, ?_⟩
  refine WL.done rfl ?_
  refine WX.next ?_
  refine WC.seq ?_
  refine WC.region ?_
  refine seg 1 [] [0, 2] [(0, (.pointer (some ⟨g_p0, 0, none⟩))), (2, (.int .i64 0))] [] (fun fb => by kernel_rfl) rfl trivial ?_
  refine WL.done rfl ?_
  refine WX.next ?_
  refine WC.ret ?_
  injection hf with hf
  subst hf
  exact WX.ret_ [] (.int .i64 0) [] (fun fb => by kernel_rfl) trivial ⟨_, rfl, A_p0_Config_Cells, c_p0_Config_Cells, rfl, (hS1903.sub [0, 1] (by decide)).noR⟩
theorem machine_Run_calls (k : Nat) (p0 : Machine) (p1 : Config) (p2 : Int) (A_p0_Actions : Option Addr) (c_p0_Actions : Nat) (A_p1_Cells : Option Addr) (c_p1_Cells : Nat) (r : Config × Int × Int) (w : World) (hR0 : RO NoS w (rowR enc_Action A_p0_Actions c_p0_Actions p0.Actions)) (hR1 : RO NoS w (rowR encInt A_p1_Cells c_p1_Cells p1.Cells)) (hf : machine_Run k p0 p1 p2 = some r) :
    CallsR Try.prog 20 #[(.agg #[(.int .i64 p0.States), (.int .i64 p0.Symbols), (.slice A_p0_Actions p0.Actions.length c_p0_Actions)]), (.agg #[(.int .i64 p1.State), (.int .i64 p1.At), (.slice A_p1_Cells p1.Cells.length c_p1_Cells)]), (.int .i64 p2)] w (fun v w' => ∃ (A1_ : Option Addr), ∃ (c1_ : Nat), v = (.tuple #[(.agg #[(.int .i64 r.1.State), (.int .i64 r.1.At), (.slice A1_ r.1.Cells.length c1_)]), (.int .i64 r.2.1), (.int .i64 r.2.2)]) ∧ St NoS w w' [] [rowO 3 encInt A1_ c1_ r.1.Cells]) := by
  have hS : St NoS w w [rowR enc_Action A_p0_Actions c_p0_Actions p0.Actions, rowR encInt A_p1_Cells c_p1_Cells p1.Cells] [] := St.init (ro_cons hR0 (ro_cons hR1 (ro_nil _ _)))
  refine enter 41 Try.func20 rfl Try.ntmps20 rfl ?_
  unfold machine_Run at hf
  refine WC.seq ?_
  refine WC.region ?_
  refine WL.new hS 3 [] (fun g => (.pointer (some ⟨g, 0, none⟩))) (.cells #[(.int .i64 p0.States), (.int .i64 p0.Symbols), (.slice A_p0_Actions p0.Actions.length c_p0_Actions)] 24 (0, 0)) [] (fun fb g => by kernel_rfl) trivial (fun g1510 w1511 hS1512 => ?_)
  refine ⟨trivial, ?_⟩
  refine WL.new hS1512 4 [] (fun g => (.pointer (some ⟨g, 0, none⟩))) (.cells #[(.int .i64 p1.State), (.int .i64 p1.At), (.slice A_p1_Cells p1.Cells.length c_p1_Cells)] 27 (0, 0)) [] (fun fb g => by kernel_rfl) trivial (fun g1514 w1515 hS1516 => ?_)
  refine ⟨trivial, ?_⟩
  refine WL.new hS1516 6 [] (fun g => (.pointer (some ⟨g, 0, none⟩))) (.cells #[(.int .i64 0), (.int .i64 0), (.slice none 0 0)] 27 (0, 0)) [] (fun fb g => by kernel_rfl) trivial (fun g1518 w1519 hS1520 => ?_)
  refine ⟨trivial, ?_⟩
  refine seg 5 [] [2, 3, 4, 6] [(2, (.int .i64 p2)), (3, (.pointer (some ⟨g1510, 0, none⟩))), (4, (.pointer (some ⟨g1514, 0, none⟩))), (6, (.pointer (some ⟨g1518, 0, none⟩)))] [] (fun fb => by kernel_rfl) rfl trivial ?_
  refine WL.done rfl ?_
  refine WX.next ?_
  refine WC.seq ?_
  refine WC.seq ?_
  refine WC.region ?_
  refine seg 2 [.v (.int .i64 p0.States), .v (.int .i64 p0.Symbols), .v (.slice A_p0_Actions p0.Actions.length c_p0_Actions), .v (.int .i64 p1.State), .v (.int .i64 p1.At), .v (.slice A_p1_Cells p1.Cells.length c_p1_Cells)] [2, 3, 4, 6, 11, 12] [(2, (.int .i64 p2)), (3, (.pointer (some ⟨g1510, 0, none⟩))), (4, (.pointer (some ⟨g1514, 0, none⟩))), (6, (.pointer (some ⟨g1518, 0, none⟩))), (11, (.agg #[(.int .i64 p0.States), (.int .i64 p0.Symbols), (.slice A_p0_Actions p0.Actions.length c_p0_Actions)])), (12, (.agg #[(.int .i64 p1.State), (.int .i64 p1.At), (.slice A_p1_Cells p1.Cells.length c_p1_Cells)]))] [.cell ⟨g1510, 0, none⟩ (.int .i64 p0.States), .cell ⟨g1510, 1, none⟩ (.int .i64 p0.Symbols), .cell ⟨g1510, 2, none⟩ (.slice A_p0_Actions p0.Actions.length c_p0_Actions), .cell ⟨g1514, 0, none⟩ (.int .i64 p1.State), .cell ⟨g1514, 1, none⟩ (.int .i64 p1.At), .cell ⟨g1514, 2, none⟩ (.slice A_p1_Cells p1.Cells.length c_p1_Cells)] (fun fb => by kernel_rfl) rfl ⟨hS1520.cell 2 rfl 0 rfl, hS1520.cell 2 rfl 1 rfl, hS1520.cell 2 rfl 2 rfl, hS1520.cell 1 rfl 0 rfl, hS1520.cell 1 rfl 1 rfl, hS1520.cell 1 rfl 2 rfl, trivial⟩ ?_
  obtain ⟨t1610, ht1611, hf⟩ := bind_some hf
  refine WL.call (some 13) 18 #[(.agg #[(.int .i64 p0.States), (.int .i64 p0.Symbols), (.slice A_p0_Actions p0.Actions.length c_p0_Actions)]), (.agg #[(.int .i64 p1.State), (.int .i64 p1.At), (.slice A_p1_Cells p1.Cells.length c_p1_Cells)])] (fun fb => by kernel_rfl) (machine_Fits_calls _ p0 p1 A_p0_Actions c_p0_Actions A_p1_Cells c_p1_Cells t1610 _ (hS1520.rd 0) (hS1520.rd 1) ht1611) (fun v w1612 hR1613 => ?_)
  obtain ⟨rfl, hk_⟩ := hR1613
  have hS1614 := hS1520.keepN hk_
  refine ⟨trivial, ?_⟩
  refine seg 4 [] [2, 3, 4, 6, 14] [(2, (.int .i64 p2)), (3, (.pointer (some ⟨g1510, 0, none⟩))), (4, (.pointer (some ⟨g1514, 0, none⟩))), (6, (.pointer (some ⟨g1518, 0, none⟩))), (14, (.bool (!t1610)))] [] (fun fb => by kernel_rfl) rfl trivial ?_
  refine WL.done rfl ?_
  refine WX.next ?_
  rcases br_some hf with ⟨h1615, hf⟩ | ⟨h1615, hf⟩
  · refine WC.condT2 (fun fb => by kernel_rfl) h1615 ?_
    refine WC.seq ?_
    refine WC.region ?_
    refine seg 1 [] [6, 15] [(6, (.pointer (some ⟨g1518, 0, none⟩))), (15, (.agg #[(.int .i64 0), (.int .i64 0), (.slice none 0 0)]))] [] (fun fb => by kernel_rfl) rfl trivial ?_
    refine WL.store hS1614 0 rfl [(0, (.int .i64 0)), (1, (.int .i64 0)), (2, (.slice none 0 0))] #[(.int .i64 0), (.int .i64 0), (.slice none 0 0)] (fun fb => by kernel_rfl) (by kernel_rfl) rfl [1, 2] (by decide) (by decide) (fun w1616 hS1617 => ?_)
    refine ⟨trivial, ?_⟩
    refine seg 4 [] [6, 7, 8] [(6, (.pointer (some ⟨g1518, 0, none⟩))), (7, (.int .i64 0)), (8, (.int .i64 1))] [] (fun fb => by kernel_rfl) rfl trivial ?_
    refine WL.done rfl ?_
    refine WX.next ?_
    refine WC.ret ?_
    have hS1618 := hS1617.nilrow 3 encInt
    injection hf with hf
    subst hf
    exact WX.thenR (WX.ret_ [.v (.int .i64 0), .v (.int .i64 0), .v (.slice none 0 0)] (.tuple #[(.agg #[(.int .i64 0), (.int .i64 0), (.slice none ([] : List Int).length 0)]), (.int .i64 0), (.int .i64 1)]) [.cell ⟨g1518, 0, none⟩ (.int .i64 0), .cell ⟨g1518, 1, none⟩ (.int .i64 0), .cell ⟨g1518, 2, none⟩ (.slice none 0 0)] (fun fb => by kernel_rfl) ⟨hS1617.cell 0 rfl 0 rfl, hS1617.cell 0 rfl 1 rfl, hS1617.cell 0 rfl 2 rfl, trivial⟩ ⟨_, rfl, none, 0, rfl, (hS1618.sub [0] (by decide)).noR⟩)
  refine WC.condF2 (fun fb => by kernel_rfl) h1615 ?_
  refine WC.skip ?_
  refine WX.next ?_
  refine WC.seq ?_
  refine WC.seq ?_
  refine WC.region ?_
  refine seg 3 [] [2, 3, 4, 6, 18] [(2, (.int .i64 p2)), (3, (.pointer (some ⟨g1510, 0, none⟩))), (4, (.pointer (some ⟨g1514, 0, none⟩))), (6, (.pointer (some ⟨g1518, 0, none⟩))), (18, (.bool (decide (p2 < 0))))] [] (fun fb => by kernel_rfl) rfl trivial ?_
  refine WL.cutV (T := Bool) 6 (fun t => [(21, (.bool t)), (2, (.int .i64 p2)), (3, (.pointer (some ⟨g1510, 0, none⟩))), (4, (.pointer (some ⟨g1514, 0, none⟩))), (6, (.pointer (some ⟨g1518, 0, none⟩)))]) (fun t => t = ((decide (p2 < 0)) || (decide (p2 > 100000)))) (fun K => ?_) ?_
  ·
    rcases Bool.eq_false_or_eq_true (decide (p2 < 0)) with h1619 | h1619
    ·
      refine WL.setB 18 h1619 rfl ?_
      refine seg 6 [] [2, 3, 4, 6, 21] [(2, (.int .i64 p2)), (3, (.pointer (some ⟨g1510, 0, none⟩))), (4, (.pointer (some ⟨g1514, 0, none⟩))), (6, (.pointer (some ⟨g1518, 0, none⟩))), (21, (.bool true))] [] (fun fb => by kernel_rfl) rfl trivial ?_
      exact WL.toV K true [21, 2, 3, 4, 6] rfl (by rw [h1619]; rfl)
    refine WL.setB 18 h1619 rfl ?_
    refine seg 6 [] [2, 3, 4, 6, 21] [(2, (.int .i64 p2)), (3, (.pointer (some ⟨g1510, 0, none⟩))), (4, (.pointer (some ⟨g1514, 0, none⟩))), (6, (.pointer (some ⟨g1518, 0, none⟩))), (21, (.bool (decide (p2 > 100000))))] [] (fun fb => by kernel_rfl) rfl trivial ?_
    exact WL.toV K (decide (p2 > 100000)) [21, 2, 3, 4, 6] rfl (by rw [h1619]; rfl)
  rintro b1620 rfl
  refine WL.done rfl ?_
  refine WX.next ?_
  rcases br_some hf with ⟨h1621, hf⟩ | ⟨h1621, hf⟩
  · refine WC.condT2 (fun fb => by kernel_rfl) h1621 ?_
    refine WC.seq ?_
    refine WC.region ?_
    refine seg 1 [] [6, 22] [(6, (.pointer (some ⟨g1518, 0, none⟩))), (22, (.agg #[(.int .i64 0), (.int .i64 0), (.slice none 0 0)]))] [] (fun fb => by kernel_rfl) rfl trivial ?_
    refine WL.store hS1614 0 rfl [(0, (.int .i64 0)), (1, (.int .i64 0)), (2, (.slice none 0 0))] #[(.int .i64 0), (.int .i64 0), (.slice none 0 0)] (fun fb => by kernel_rfl) (by kernel_rfl) rfl [1, 2] (by decide) (by decide) (fun w1622 hS1623 => ?_)
    refine ⟨trivial, ?_⟩
    refine seg 4 [] [6, 7, 8] [(6, (.pointer (some ⟨g1518, 0, none⟩))), (7, (.int .i64 0)), (8, (.int .i64 2))] [] (fun fb => by kernel_rfl) rfl trivial ?_
    refine WL.done rfl ?_
    refine WX.next ?_
    refine WC.ret ?_
    have hS1624 := hS1623.nilrow 3 encInt
    injection hf with hf
    subst hf
    exact WX.thenR (WX.ret_ [.v (.int .i64 0), .v (.int .i64 0), .v (.slice none 0 0)] (.tuple #[(.agg #[(.int .i64 0), (.int .i64 0), (.slice none ([] : List Int).length 0)]), (.int .i64 0), (.int .i64 2)]) [.cell ⟨g1518, 0, none⟩ (.int .i64 0), .cell ⟨g1518, 1, none⟩ (.int .i64 0), .cell ⟨g1518, 2, none⟩ (.slice none 0 0)] (fun fb => by kernel_rfl) ⟨hS1623.cell 0 rfl 0 rfl, hS1623.cell 0 rfl 1 rfl, hS1623.cell 0 rfl 2 rfl, trivial⟩ ⟨_, rfl, none, 0, rfl, (hS1624.sub [0] (by decide)).noR⟩)
  refine WC.condF2 (fun fb => by kernel_rfl) h1621 ?_
  refine WC.skip ?_
  refine WX.next ?_
  refine WC.seq ?_
  refine WC.region ?_
  refine seg 2 [.v (.int .i64 p0.States), .v (.int .i64 p0.Symbols), .v (.slice A_p0_Actions p0.Actions.length c_p0_Actions), .v (.int .i64 p1.State), .v (.int .i64 p1.At), .v (.slice A_p1_Cells p1.Cells.length c_p1_Cells)] [2, 6, 23, 24] [(2, (.int .i64 p2)), (6, (.pointer (some ⟨g1518, 0, none⟩))), (23, (.agg #[(.int .i64 p0.States), (.int .i64 p0.Symbols), (.slice A_p0_Actions p0.Actions.length c_p0_Actions)])), (24, (.agg #[(.int .i64 p1.State), (.int .i64 p1.At), (.slice A_p1_Cells p1.Cells.length c_p1_Cells)]))] [.cell ⟨g1510, 0, none⟩ (.int .i64 p0.States), .cell ⟨g1510, 1, none⟩ (.int .i64 p0.Symbols), .cell ⟨g1510, 2, none⟩ (.slice A_p0_Actions p0.Actions.length c_p0_Actions), .cell ⟨g1514, 0, none⟩ (.int .i64 p1.State), .cell ⟨g1514, 1, none⟩ (.int .i64 p1.At), .cell ⟨g1514, 2, none⟩ (.slice A_p1_Cells p1.Cells.length c_p1_Cells)] (fun fb => by kernel_rfl) rfl ⟨hS1614.cell 2 rfl 0 rfl, hS1614.cell 2 rfl 1 rfl, hS1614.cell 2 rfl 2 rfl, hS1614.cell 1 rfl 0 rfl, hS1614.cell 1 rfl 1 rfl, hS1614.cell 1 rfl 2 rfl, trivial⟩ ?_
  obtain ⟨t1657, ht1658, hf⟩ := bind_some hf
  refine WL.call (some 25) 42 #[(.agg #[(.int .i64 p0.States), (.int .i64 p0.Symbols), (.slice A_p0_Actions p0.Actions.length c_p0_Actions)]), (.agg #[(.int .i64 p1.State), (.int .i64 p1.At), (.slice A_p1_Cells p1.Cells.length c_p1_Cells)])] (fun fb => by kernel_rfl) (machine_begin_calls p0 p1 A_p0_Actions c_p0_Actions A_p1_Cells c_p1_Cells t1657 _ (hS1614.rd 0) (hS1614.rd 1) ht1658) (fun v w1659 hR1660 => ?_)
  obtain ⟨g1662, A1663, c1664, rfl, hk_⟩ := hR1660
  have hS1661 : St NoS w w1659 [rowR enc_Action A_p0_Actions c_p0_Actions p0.Actions, rowR encInt A_p1_Cells c_p1_Cells p1.Cells] [blk g1662 (.cells #[(.int .i64 t1657.m.States), (.int .i64 t1657.m.Symbols), (.slice A_p0_Actions p0.Actions.length c_p0_Actions), (.int .i64 t1657.Config.State), (.int .i64 t1657.Config.At), (.slice A1663 t1657.Config.Cells.length c1664)] 82 (0, 0)), rowO 3 encInt A1663 c1664 t1657.Config.Cells, blk g1518 (.cells #[(.int .i64 0), (.int .i64 0), (.slice none 0 0)] 27 (0, 0)), blk g1514 (.cells #[(.int .i64 p1.State), (.int .i64 p1.At), (.slice A_p1_Cells p1.Cells.length c_p1_Cells)] 27 (0, 0)), blk g1510 (.cells #[(.int .i64 p0.States), (.int .i64 p0.Symbols), (.slice A_p0_Actions p0.Actions.length c_p0_Actions)] 24 (0, 0))] := hS1614.call hk_ [] [0, 1, 2] (fun g hg => hg.elim) (by simp) (by decide)
  refine ⟨trivial, ?_⟩
  refine seg 4 [] [2, 6, 9] [(2, (.int .i64 p2)), (6, (.pointer (some ⟨g1518, 0, none⟩))), (9, (.pointer (some ⟨g1662, 0, none⟩)))] [] (fun fb => by kernel_rfl) rfl trivial ?_
  refine WL.done rfl ?_
  refine WX.next ?_
  refine WC.seq ?_
  refine WC.region ?_
  refine seg 1 [] [2, 6, 9, 10] [(2, (.int .i64 p2)), (6, (.pointer (some ⟨g1518, 0, none⟩))), (9, (.pointer (some ⟨g1662, 0, none⟩))), (10, (.int .i64 0))] [] (fun fb => by kernel_rfl) rfl trivial ?_
  refine WL.done rfl ?_
  refine WX.next ?_
  refine WC.seq ?_
  obtain ⟨x1990, hx1991, hf⟩ := bind_some hf
  refine WC.cutN (T := (Int × Int × Int × Int × (List Int) × Int) × (Option Addr) × Nat) (fun t => [(6, (.pointer (some ⟨g1518, 0, none⟩))), (9, (.pointer (some ⟨g1662, 0, none⟩))), (10, (.int .i64 t.1.2.2.2.2.2))]) (fun t w1 => St NoS w w1 [rowR enc_Action A_p0_Actions c_p0_Actions p0.Actions, rowR encInt A_p1_Cells c_p1_Cells p1.Cells] [blk g1518 (.cells #[(.int .i64 0), (.int .i64 0), (.slice none 0 0)] 27 (0, 0)), blk g1662 (.cells #[(.int .i64 t.1.1), (.int .i64 t.1.2.1), (.slice A_p0_Actions p0.Actions.length c_p0_Actions), (.int .i64 t.1.2.2.1), (.int .i64 t.1.2.2.2.1), (.slice t.2.1 t.1.2.2.2.2.1.length t.2.2)] 82 (0, 0)), rowO 3 encInt t.2.1 t.2.2 t.1.2.2.2.2.1] ∧ x1990 = t.1) (fun Kx1990 => ?_) ?_
  ·
    refine WC.block ?_
    refine WC.loop (T := (Int × Int × Int × Int × (List Int) × Int) × (Option Addr) × Nat) (fun t => [(2, (.int .i64 p2)), (6, (.pointer (some ⟨g1518, 0, none⟩))), (9, (.pointer (some ⟨g1662, 0, none⟩))), (10, (.int .i64 t.1.2.2.2.2.2))]) (fun n t w1 => St NoS w w1 [rowR enc_Action A_p0_Actions c_p0_Actions p0.Actions, rowR encInt A_p1_Cells c_p1_Cells p1.Cells] [blk g1518 (.cells #[(.int .i64 0), (.int .i64 0), (.slice none 0 0)] 27 (0, 0)), blk g1662 (.cells #[(.int .i64 t.1.1), (.int .i64 t.1.2.1), (.slice A_p0_Actions p0.Actions.length c_p0_Actions), (.int .i64 t.1.2.2.1), (.int .i64 t.1.2.2.2.1), (.slice t.2.1 t.1.2.2.2.2.1.length t.2.2)] 82 (0, 0)), rowO 3 encInt t.2.1 t.2.2 t.1.2.2.2.2.1] ∧ machine_Run.l0 n t.1.1 t.1.2.1 t.1.2.2.1 t.1.2.2.2.1 t.1.2.2.2.2.1 t.1.2.2.2.2.2 p0 p2 = some x1990) k ((t1657.m.States, t1657.m.Symbols, t1657.Config.State, t1657.Config.At, t1657.Config.Cells, 0), A1663, c1664) [2, 6, 9, 10] rfl ⟨(hS1661.subR [0, 1]).sub [2, 0, 1] (by decide), hx1991⟩ ?_
    rintro k1992 ⟨⟨x1974, x1975, x1976, x1977, l1980, x1981⟩, A1978, c1979⟩ w1993 ⟨hS1994, hl1995⟩
    cases k1992 with
    | zero => rw [machine_Run.l0] at hl1995; cases hl1995
    | succ k1992 =>
      rw [machine_Run.l0] at hl1995
      refine WC.seq ?_
      refine WC.seq ?_
      refine WC.region ?_
      refine seg 4 [] [2, 6, 9, 10, 29] [(2, (.int .i64 p2)), (6, (.pointer (some ⟨g1518, 0, none⟩))), (9, (.pointer (some ⟨g1662, 0, none⟩))), (10, (.int .i64 x1981)), (29, (.bool (decide (x1981 < p2))))] [] (fun fb => by kernel_rfl) rfl trivial ?_
      obtain ⟨x2011, hx2012, hl1995⟩ := bind_some hl1995
      refine WL.cutW (T := (Int × Int × Int × Int × (List Int) × Bool) × (Option Addr) × Nat) 8 (fun t => [(2, (.int .i64 p2)), (6, (.pointer (some ⟨g1518, 0, none⟩))), (9, (.pointer (some ⟨g1662, 0, none⟩))), (10, (.int .i64 x1981)), (33, (.bool t.1.2.2.2.2.2))]) (fun t w1 => (St NoS w w1 [rowR enc_Action A_p0_Actions c_p0_Actions p0.Actions, rowR encInt A_p1_Cells c_p1_Cells p1.Cells] [blk g1518 (.cells #[(.int .i64 0), (.int .i64 0), (.slice none 0 0)] 27 (0, 0)), blk g1662 (.cells #[(.int .i64 t.1.1), (.int .i64 t.1.2.1), (.slice A_p0_Actions p0.Actions.length c_p0_Actions), (.int .i64 t.1.2.2.1), (.int .i64 t.1.2.2.2.1), (.slice t.2.1 t.1.2.2.2.2.1.length t.2.2)] 82 (0, 0)), rowO 3 encInt t.2.1 t.2.2 t.1.2.2.2.2.1] ∧ x2011 = t.1) ∧ CellsOK [] w1) (fun K => ?_) ?_
      ·
        rcases br_some hx2012 with ⟨h2013, hx2012⟩ | ⟨h2013, hx2012⟩
        ·
          refine WL.setB 29 h2013 rfl ?_
          refine seg 5 [] [2, 6, 9, 10, 29, 30] [(2, (.int .i64 p2)), (6, (.pointer (some ⟨g1518, 0, none⟩))), (9, (.pointer (some ⟨g1662, 0, none⟩))), (10, (.int .i64 x1981)), (29, (.bool true)), (30, (.pointer (some ⟨g1662, 0, none⟩)))] [] (fun fb => by kernel_rfl) rfl trivial ?_
          obtain ⟨t2014, ht2015, hx2012⟩ := bind_some hx2012
          refine WL.call (some 31) 43 #[(.pointer (some ⟨g1662, 0, none⟩))] (fun fb => by kernel_rfl) (machine_runner_step_calls (Runner.mk (Machine.mk x1974 x1975 p0.Actions) (Config.mk x1976 x1977 l1980)) g1662 A_p0_Actions c_p0_Actions A1978 c1979 t2014 _ (hS1994.rdT [1, 2] 0) (hS1994.io [1, 2] (by decide)) ht2015) (fun v w2016 hR2017 => ?_)
          obtain ⟨A2019, c2020, rfl, hk_⟩ := hR2017
          have hS2018 : St NoS w w2016 [rowR enc_Action A_p0_Actions c_p0_Actions p0.Actions, rowR encInt A_p1_Cells c_p1_Cells p1.Cells] [blk g1662 (.cells #[(.int .i64 t2014.2.m.States), (.int .i64 t2014.2.m.Symbols), (.slice A_p0_Actions p0.Actions.length c_p0_Actions), (.int .i64 t2014.2.Config.State), (.int .i64 t2014.2.Config.At), (.slice A2019 t2014.2.Config.Cells.length c2020)] 82 (0, 0)), rowO 3 encInt A2019 c2020 t2014.2.Config.Cells, blk g1518 (.cells #[(.int .i64 0), (.int .i64 0), (.slice none 0 0)] 27 (0, 0))] := hS1994.call hk_ [1, 2] [0] (fun g hg => fpL_sel g hg) (by decide) (by decide)
          refine ⟨trivial, ?_⟩
          refine seg 8 [] [2, 6, 9, 10, 33] [(2, (.int .i64 p2)), (6, (.pointer (some ⟨g1518, 0, none⟩))), (9, (.pointer (some ⟨g1662, 0, none⟩))), (10, (.int .i64 x1981)), (33, (.bool (t2014.1 == 0)))] [] (fun fb => by kernel_rfl) rfl trivial ?_
          injection hx2012 with hx2012
          exact WL.to K ((t2014.2.m.States, t2014.2.m.Symbols, t2014.2.Config.State, t2014.2.Config.At, t2014.2.Config.Cells, t2014.1 == 0), A2019, c2020) [2, 6, 9, 10, 33] rfl ⟨⟨(hS2018.subR [0, 1]).sub [2, 0, 1] (by decide), hx2012.symm⟩, trivial⟩
        refine WL.setB 29 h2013 rfl ?_
        refine seg 8 [] [2, 6, 9, 10, 33] [(2, (.int .i64 p2)), (6, (.pointer (some ⟨g1518, 0, none⟩))), (9, (.pointer (some ⟨g1662, 0, none⟩))), (10, (.int .i64 x1981)), (33, (.bool false))] [] (fun fb => by kernel_rfl) rfl trivial ?_
        injection hx2012 with hx2012
        exact WL.to K ((x1974, x1975, x1976, x1977, l1980, false), A1978, c1979) [2, 6, 9, 10, 33] rfl ⟨⟨(hS1994.subR [0, 1]).sub [0, 1, 2] (by decide), hx2012.symm⟩, trivial⟩
      rintro ⟨y2021, A2007, c2008⟩ w2023 ⟨⟨hS2024, hq2022⟩, hF2025⟩
      subst hq2022
      refine WL.done rfl ?_
      refine WX.next ?_
      rcases br_some hl1995 with ⟨h2026, hl1995⟩ | ⟨h2026, hl1995⟩
      · refine WC.condT2 (fun fb => by kernel_rfl) h2026 ?_
        refine WC.skip ?_
        refine WX.next ?_
        refine WC.block ?_
        refine WC.region ?_
        refine seg 3 [] [2, 6, 9, 10] [(2, (.int .i64 p2)), (6, (.pointer (some ⟨g1518, 0, none⟩))), (9, (.pointer (some ⟨g1662, 0, none⟩))), (10, (.int .i64 (w64 (x1981 + 1))))] [] (fun fb => by kernel_rfl) rfl trivial ?_
        refine WL.done rfl ?_
        exact WX.blockN (WX.again k1992 (Nat.lt_succ_self _) ((x2011.1, x2011.2.1, x2011.2.2.1, x2011.2.2.2.1, x2011.2.2.2.2.1, w64 (x1981 + 1)), A2007, c2008) [2, 6, 9, 10] rfl ⟨(hS2024.subR [0, 1]).sub [0, 1, 2] (by decide), hl1995⟩)
      refine WC.condF2 (fun fb => by kernel_rfl) h2026 ?_
      refine WC.exit ?_
      injection hl1995 with hl1995
      exact WX.thenX (WX.thenX (WX.blockHere (WX.to Kx1990 ((x2011.1, x2011.2.1, x2011.2.2.1, x2011.2.2.2.1, x2011.2.2.2.2.1, x1981), A2007, c2008) [6, 9, 10] rfl ⟨(hS2024.subR [0, 1]).sub [0, 1, 2] (by decide), hl1995.symm⟩)))
  rintro ⟨y2030, A1986, c1987⟩ w2027 ⟨hS2028, hq2029⟩
  subst hq2029
  refine WX.next ?_
  refine WC.seq ?_
  refine WC.region ?_
  refine seg 5 [.v (.int .i64 x1990.2.2.1), .v (.int .i64 x1990.2.2.2.1), .v (.slice A1986 x1990.2.2.2.2.1.length c1987)] [6, 39, 40] [(6, (.pointer (some ⟨g1518, 0, none⟩))), (39, (.agg #[(.int .i64 x1990.2.2.1), (.int .i64 x1990.2.2.2.1), (.slice A1986 x1990.2.2.2.2.1.length c1987)])), (40, (.int .i64 x1990.2.2.2.2.2))] [.cell ⟨g1662, 3, none⟩ (.int .i64 x1990.2.2.1), .cell ⟨g1662, 4, none⟩ (.int .i64 x1990.2.2.2.1), .cell ⟨g1662, 5, none⟩ (.slice A1986 x1990.2.2.2.2.1.length c1987)] (fun fb => by kernel_rfl) rfl ⟨hS2028.cell 1 rfl 3 rfl, hS2028.cell 1 rfl 4 rfl, hS2028.cell 1 rfl 5 rfl, trivial⟩ ?_
  refine WL.store hS2028 0 rfl [(0, (.int .i64 x1990.2.2.1)), (1, (.int .i64 x1990.2.2.2.1)), (2, (.slice A1986 x1990.2.2.2.2.1.length c1987))] #[(.int .i64 x1990.2.2.1), (.int .i64 x1990.2.2.2.1), (.slice A1986 x1990.2.2.2.2.1.length c1987)] (fun fb => by kernel_rfl) (by kernel_rfl) rfl [1, 2] (by decide) (by decide) (fun w2031 hS2032 => ?_)
  refine ⟨trivial, ?_⟩
  refine seg 8 [] [6, 7, 8] [(6, (.pointer (some ⟨g1518, 0, none⟩))), (7, (.int .i64 x1990.2.2.2.2.2)), (8, (.int .i64 0))] [] (fun fb => by kernel_rfl) rfl trivial ?_
  refine WL.done rfl ?_
  refine WX.next ?_
  refine WC.ret ?_
  injection hf with hf
  subst hf
  exact WX.ret_ [.v (.int .i64 x1990.2.2.1), .v (.int .i64 x1990.2.2.2.1), .v (.slice A1986 x1990.2.2.2.2.1.length c1987)] (.tuple #[(.agg #[(.int .i64 x1990.2.2.1), (.int .i64 x1990.2.2.2.1), (.slice A1986 x1990.2.2.2.2.1.length c1987)]), (.int .i64 x1990.2.2.2.2.2), (.int .i64 0)]) [.cell ⟨g1518, 0, none⟩ (.int .i64 x1990.2.2.1), .cell ⟨g1518, 1, none⟩ (.int .i64 x1990.2.2.2.1), .cell ⟨g1518, 2, none⟩ (.slice A1986 x1990.2.2.2.2.1.length c1987)] (fun fb => by kernel_rfl) ⟨hS2032.cell 0 rfl 0 rfl, hS2032.cell 0 rfl 1 rfl, hS2032.cell 0 rfl 2 rfl, trivial⟩ ⟨_, rfl, A1986, c1987, rfl, (hS2032.sub [2] (by decide)).noR⟩
end Gp
