/- Walks: each function of the program computes its plain function. -/
import Derived.Test.YtamnfcbekogkdaaGp
set_option linter.unusedVariables false
set_option linter.unusedSimpArgs false
namespace Gp
open Go Gw Go.Proofs
theorem law08_wide_calls (p0 : Machine) (p1 : Config) (A_p0_Actions : Option Addr) (c_p0_Actions : Nat) (A_p1_Cells : Option Addr) (c_p1_Cells : Nat) (r : Bool) (w : World) (hR0 : RO NoS w (rowR enc_Action A_p0_Actions c_p0_Actions p0.Actions)) (hR1 : RO NoS w (rowR encInt A_p1_Cells c_p1_Cells p1.Cells)) (hf : law08_wide p0 p1 = some r) :
    CallsR Try.prog 10 #[(.agg #[(.int .i64 p0.States), (.int .i64 p0.Symbols), (.slice A_p0_Actions p0.Actions.length c_p0_Actions)]), (.agg #[(.int .i64 p1.State), (.int .i64 p1.At), (.slice A_p1_Cells p1.Cells.length c_p1_Cells)])] w (fun v w' => v = (.bool r) ∧ Keeps NoS w w') := by
  have hS : St NoS w w [rowR enc_Action A_p0_Actions c_p0_Actions p0.Actions, rowR encInt A_p1_Cells c_p1_Cells p1.Cells] [] := St.init (ro_cons hR0 (ro_cons hR1 (ro_nil _ _)))
  refine enter 15 Try.func10 rfl Try.ntmps10 rfl ?_
  unfold law08_wide at hf
  refine WC.seq ?_
  refine WC.region ?_
  refine WL.new hS 2 [] (fun g => (.pointer (some ⟨g, 0, none⟩))) (.cells #[(.int .i64 p0.States), (.int .i64 p0.Symbols), (.slice A_p0_Actions p0.Actions.length c_p0_Actions)] 24 (0, 0)) [] (fun fb g => by kernel_rfl) trivial (fun g9 w10 hS11 => ?_)
  refine ⟨trivial, ?_⟩
  refine WL.new hS11 3 [] (fun g => (.pointer (some ⟨g, 0, none⟩))) (.cells #[(.int .i64 p1.State), (.int .i64 p1.At), (.slice A_p1_Cells p1.Cells.length c_p1_Cells)] 27 (0, 0)) [] (fun fb g => by kernel_rfl) trivial (fun g13 w14 hS15 => ?_)
  refine ⟨trivial, ?_⟩
  refine seg 3 [] [2, 3] [(2, (.pointer (some ⟨g9, 0, none⟩))), (3, (.pointer (some ⟨g13, 0, none⟩)))] [] (fun fb => by kernel_rfl) rfl trivial ?_
  refine WL.done rfl ?_
  refine WX.next ?_
  refine WC.seq ?_
  refine WC.region ?_
  refine seg 5 [.v (.slice A_p0_Actions p0.Actions.length c_p0_Actions)] [3, 9] [(3, (.pointer (some ⟨g13, 0, none⟩))), (9, (.bool (decide ((p0.Actions.length : Int) > 200))))] [.cell ⟨g9, 2, none⟩ (.slice A_p0_Actions p0.Actions.length c_p0_Actions)] (fun fb => by kernel_rfl) rfl ⟨hS15.cell 1 rfl 2 rfl, trivial⟩ ?_
  refine WL.cutV (T := Bool) 10 (fun t => [(14, (.bool t))]) (fun t => t = ((decide ((p0.Actions.length : Int) > 200)) || (decide ((p1.Cells.length : Int) > 1000)))) (fun K => ?_) ?_
  ·
    rcases Bool.eq_false_or_eq_true (decide ((p0.Actions.length : Int) > 200)) with h17 | h17
    ·
      refine WL.setB 9 h17 rfl ?_
      refine seg 10 [] [14] [(14, (.bool true))] [] (fun fb => by kernel_rfl) rfl trivial ?_
      exact WL.toV K true [14] rfl (by rw [h17]; rfl)
    refine WL.setB 9 h17 rfl ?_
    refine seg 10 [.v (.slice A_p1_Cells p1.Cells.length c_p1_Cells)] [14] [(14, (.bool (decide ((p1.Cells.length : Int) > 1000))))] [.cell ⟨g13, 2, none⟩ (.slice A_p1_Cells p1.Cells.length c_p1_Cells)] (fun fb => by kernel_rfl) rfl ⟨hS15.cell 0 rfl 2 rfl, trivial⟩ ?_
    exact WL.toV K (decide ((p1.Cells.length : Int) > 1000)) [14] rfl (by rw [h17]; rfl)
  rintro b18 rfl
  refine seg 11 [] [4] [(4, (.bool ((decide ((p0.Actions.length : Int) > 200)) || (decide ((p1.Cells.length : Int) > 1000)))))] [] (fun fb => by kernel_rfl) rfl trivial ?_
  refine WL.done rfl ?_
  refine WX.next ?_
  refine WC.ret ?_
  injection hf with hf
  subst hf
  exact WX.ret_ [] (.bool ((decide ((p0.Actions.length : Int) > 200)) || (decide ((p1.Cells.length : Int) > 1000)))) [] (fun fb => by kernel_rfl) trivial ⟨_, rfl, rfl, hS15.keep⟩
theorem law08_goes_calls   (r : Machine) (w : World)  (hf : law08_goes = some r) :
    CallsR Try.prog 40 #[] w (fun v w' => ∃ (A1_ : Option Addr), ∃ (c1_ : Nat), v = (.agg #[(.int .i64 r.States), (.int .i64 r.Symbols), (.slice A1_ r.Actions.length c1_)]) ∧ St NoS w w' [] [rowO 88 enc_Action A1_ c1_ r.Actions]) := by
  have hS : St NoS w w [] [] := St.init (ro_nil _ _)
  refine enter 5 Try.func40 rfl Try.ntmps40 rfl ?_
  unfold law08_goes at hf
  refine WC.seq ?_
  refine WC.region ?_
  refine WL.new hS 0 [] (fun g => (.pointer (some ⟨g, 0, none⟩))) (.cells #[(.int .i64 0), (.int .i64 0), (.slice none 0 0)] 24 (0, 0)) [] (fun fb g => by kernel_rfl) trivial (fun g27 w28 hS29 => ?_)
  refine ⟨trivial, ?_⟩
  refine WL.done rfl ?_
  refine WX.next ?_
  refine WC.seq ?_
  refine WC.region ?_
  refine seg 2 [] [0, 1, 2] [(0, (.pointer (some ⟨g27, 0, none⟩))), (1, (.agg #[(.int .i64 1), (.int .i64 1), (.int .i64 0)])), (2, (.agg #[(.int .i64 1), (.int .i64 1), (.int .i64 0)]))] [] (fun fb => by kernel_rfl) rfl trivial ?_
  refine WL.new hS29 3 [] (fun g => (.slice (some ⟨g, 0, none⟩) 2 2)) (.cells #[(.int .i64 1), (.int .i64 1), (.int .i64 0), (.int .i64 1), (.int .i64 1), (.int .i64 0)] 88 (0, 0)) [] (fun fb g => by kernel_rfl) trivial (fun g31 w32 hS33 => ?_)
  refine ⟨trivial, ?_⟩
  have hS35 : St NoS w w32 [] [rowO 88 enc_Action (some ⟨g31, 0, none⟩) 2 [(Action.mk 1 1 0), (Action.mk 1 1 0)], blk g27 (.cells #[(.int .i64 0), (.int .i64 0), (.slice none 0 0)] 24 (0, 0))] := hS33.map1 0 _ (fun h => rowO.ofBlk h rfl (Nat.le_of_ble_eq_true (by kernel_rfl))) (fun _ h => by obtain ⟨_, h1, h2⟩ := h; injection h1 with h1; subst h1; exact h2) [1] (by decide) (by decide)
  refine seg 4 [] [0, 4] [(0, (.pointer (some ⟨g27, 0, none⟩))), (4, (.agg #[(.int .i64 1), (.int .i64 2), (.slice (some ⟨g31, 0, none⟩) [(Action.mk 1 1 0), (Action.mk 1 1 0)].length 2)]))] [] (fun fb => by kernel_rfl) rfl trivial ?_
  refine WL.store hS35 1 rfl [(0, (.int .i64 1)), (1, (.int .i64 2)), (2, (.slice (some ⟨g31, 0, none⟩) [(Action.mk 1 1 0), (Action.mk 1 1 0)].length 2))] #[(.int .i64 1), (.int .i64 2), (.slice (some ⟨g31, 0, none⟩) [(Action.mk 1 1 0), (Action.mk 1 1 0)].length 2)] (fun fb => by kernel_rfl) (by kernel_rfl) rfl [0] (by decide) (by decide) (fun w36 hS37 => ?_)
  refine ⟨trivial, ?_⟩
  refine WL.done rfl ?_
  refine WX.next ?_
  refine WC.ret ?_
  injection hf with hf
  subst hf
  exact WX.ret_ [.v (.int .i64 1), .v (.int .i64 2), .v (.slice (some ⟨g31, 0, none⟩) [(Action.mk 1 1 0), (Action.mk 1 1 0)].length 2)] (.agg #[(.int .i64 1), (.int .i64 2), (.slice (some ⟨g31, 0, none⟩) [(Action.mk 1 1 0), (Action.mk 1 1 0)].length 2)]) [.cell ⟨g27, 0, none⟩ (.int .i64 1), .cell ⟨g27, 1, none⟩ (.int .i64 2), .cell ⟨g27, 2, none⟩ (.slice (some ⟨g31, 0, none⟩) [(Action.mk 1 1 0), (Action.mk 1 1 0)].length 2)] (fun fb => by kernel_rfl) ⟨hS37.cell 0 rfl 0 rfl, hS37.cell 0 rfl 1 rfl, hS37.cell 0 rfl 2 rfl, trivial⟩ ⟨_, rfl, (some ⟨g31, 0, none⟩), 2, rfl, (hS37.sub [1] (by decide)).noR⟩
theorem machine_action_calls (p0 : Machine) (p1 : Action) (A_p0_Actions : Option Addr) (c_p0_Actions : Nat) (r : Bool) (w : World) (hR0 : RO NoS w (rowR enc_Action A_p0_Actions c_p0_Actions p0.Actions)) (hf : machine_action p0 p1 = some r) :
    CallsR Try.prog 48 #[(.agg #[(.int .i64 p0.States), (.int .i64 p0.Symbols), (.slice A_p0_Actions p0.Actions.length c_p0_Actions)]), (.agg #[(.int .i64 p1.Write), (.int .i64 p1.Move), (.int .i64 p1.Next)])] w (fun v w' => v = (.bool r) ∧ Keeps NoS w w') := by
  have hS : St NoS w w [rowR enc_Action A_p0_Actions c_p0_Actions p0.Actions] [] := St.init (ro_cons hR0 (ro_nil _ _))
  refine enter 50 Try.func48 rfl Try.ntmps48 rfl ?_
  unfold machine_action at hf
  refine WC.seq ?_
  refine WC.region ?_
  refine WL.new hS 2 [] (fun g => (.pointer (some ⟨g, 0, none⟩))) (.cells #[(.int .i64 p0.States), (.int .i64 p0.Symbols), (.slice A_p0_Actions p0.Actions.length c_p0_Actions)] 24 (0, 0)) [] (fun fb g => by kernel_rfl) trivial (fun g67 w68 hS69 => ?_)
  refine ⟨trivial, ?_⟩
  refine WL.new hS69 3 [] (fun g => (.pointer (some ⟨g, 0, none⟩))) (.cells #[(.int .i64 p1.Write), (.int .i64 p1.Move), (.int .i64 p1.Next)] 88 (0, 0)) [] (fun fb g => by kernel_rfl) trivial (fun g71 w72 hS73 => ?_)
  refine ⟨trivial, ?_⟩
  refine seg 3 [] [2, 3] [(2, (.pointer (some ⟨g67, 0, none⟩))), (3, (.pointer (some ⟨g71, 0, none⟩)))] [] (fun fb => by kernel_rfl) rfl trivial ?_
  refine WL.done rfl ?_
  refine WX.next ?_
  refine WC.seq ?_
  refine WC.seq ?_
  refine WC.region ?_
  refine seg 5 [.v (.int .i64 p1.Next), .v (.int .i64 p0.States)] [2, 3, 9] [(2, (.pointer (some ⟨g67, 0, none⟩))), (3, (.pointer (some ⟨g71, 0, none⟩))), (9, (.bool (p1.Next == p0.States)))] [.cell ⟨g71, 2, none⟩ (.int .i64 p1.Next), .cell ⟨g67, 0, none⟩ (.int .i64 p0.States)] (fun fb => by kernel_rfl) rfl ⟨hS73.cell 0 rfl 2 rfl, hS73.cell 1 rfl 0 rfl, trivial⟩ ?_
  refine WL.done rfl ?_
  refine WX.next ?_
  rcases br_some hf with ⟨h75, hf⟩ | ⟨h75, hf⟩
  · refine WC.condT2 (fun fb => by kernel_rfl) h75 ?_
    refine WC.seq ?_
    refine WC.region ?_
    refine seg 4 [.v (.int .i64 p1.Write)] [3, 13] [(3, (.pointer (some ⟨g71, 0, none⟩))), (13, (.bool (p1.Write == 0)))] [.cell ⟨g71, 0, none⟩ (.int .i64 p1.Write)] (fun fb => by kernel_rfl) rfl ⟨hS73.cell 0 rfl 0 rfl, trivial⟩ ?_
    refine WL.cutV (T := Bool) 8 (fun t => [(17, (.bool t))]) (fun t => t = ((p1.Write == 0) && (p1.Move == 0))) (fun K => ?_) ?_
    ·
      rcases Bool.eq_false_or_eq_true (p1.Write == 0) with h76 | h76
      ·
        refine WL.setB 13 h76 rfl ?_
        refine seg 8 [.v (.int .i64 p1.Move)] [17] [(17, (.bool (p1.Move == 0)))] [.cell ⟨g71, 1, none⟩ (.int .i64 p1.Move)] (fun fb => by kernel_rfl) rfl ⟨hS73.cell 0 rfl 1 rfl, trivial⟩ ?_
        exact WL.toV K (p1.Move == 0) [17] rfl (by rw [h76]; rfl)
      refine WL.setB 13 h76 rfl ?_
      refine seg 8 [] [17] [(17, (.bool false))] [] (fun fb => by kernel_rfl) rfl trivial ?_
      exact WL.toV K false [17] rfl (by rw [h76]; rfl)
    rintro b77 rfl
    refine seg 9 [] [4] [(4, (.bool ((p1.Write == 0) && (p1.Move == 0))))] [] (fun fb => by kernel_rfl) rfl trivial ?_
    refine WL.done rfl ?_
    refine WX.next ?_
    refine WC.ret ?_
    injection hf with hf
    subst hf
    exact WX.thenR (WX.ret_ [] (.bool ((p1.Write == 0) && (p1.Move == 0))) [] (fun fb => by kernel_rfl) trivial ⟨_, rfl, rfl, hS73.keep⟩)
  refine WC.condF2 (fun fb => by kernel_rfl) h75 ?_
  refine WC.skip ?_
  refine WX.next ?_
  refine WC.seq ?_
  refine WC.region ?_
  refine seg 4 [.v (.int .i64 p1.Write)] [2, 3, 21] [(2, (.pointer (some ⟨g67, 0, none⟩))), (3, (.pointer (some ⟨g71, 0, none⟩))), (21, (.bool (decide (p1.Write ≥ 0))))] [.cell ⟨g71, 0, none⟩ (.int .i64 p1.Write)] (fun fb => by kernel_rfl) rfl ⟨hS73.cell 0 rfl 0 rfl, trivial⟩ ?_
  refine WL.cutV (T := Bool) 10 (fun t => [(27, (.bool t)), (2, (.pointer (some ⟨g67, 0, none⟩))), (3, (.pointer (some ⟨g71, 0, none⟩)))]) (fun t => t = ((decide (p1.Write ≥ 0)) && (decide (p1.Write < p0.Symbols)))) (fun K => ?_) ?_
  ·
    rcases Bool.eq_false_or_eq_true (decide (p1.Write ≥ 0)) with h78 | h78
    ·
      refine WL.setB 21 h78 rfl ?_
      refine seg 10 [.v (.int .i64 p1.Write), .v (.int .i64 p0.Symbols)] [2, 3, 27] [(2, (.pointer (some ⟨g67, 0, none⟩))), (3, (.pointer (some ⟨g71, 0, none⟩))), (27, (.bool (decide (p1.Write < p0.Symbols))))] [.cell ⟨g71, 0, none⟩ (.int .i64 p1.Write), .cell ⟨g67, 1, none⟩ (.int .i64 p0.Symbols)] (fun fb => by kernel_rfl) rfl ⟨hS73.cell 0 rfl 0 rfl, hS73.cell 1 rfl 1 rfl, trivial⟩ ?_
      exact WL.toV K (decide (p1.Write < p0.Symbols)) [27, 2, 3] rfl (by rw [h78]; rfl)
    refine WL.setB 21 h78 rfl ?_
    refine seg 10 [] [2, 3, 27] [(2, (.pointer (some ⟨g67, 0, none⟩))), (3, (.pointer (some ⟨g71, 0, none⟩))), (27, (.bool false))] [] (fun fb => by kernel_rfl) rfl trivial ?_
    exact WL.toV K false [27, 2, 3] rfl (by rw [h78]; rfl)
  rintro b79 rfl
  refine seg 11 [] [2, 3, 28] [(2, (.pointer (some ⟨g67, 0, none⟩))), (3, (.pointer (some ⟨g71, 0, none⟩))), (28, (.bool ((decide (p1.Write ≥ 0)) && (decide (p1.Write < p0.Symbols)))))] [] (fun fb => by kernel_rfl) rfl trivial ?_
  refine WL.cutV (T := Bool) 15 (fun t => [(32, (.bool t)), (2, (.pointer (some ⟨g67, 0, none⟩))), (3, (.pointer (some ⟨g71, 0, none⟩)))]) (fun t => t = (((decide (p1.Write ≥ 0)) && (decide (p1.Write < p0.Symbols))) && (decide (p1.Move ≥ 0)))) (fun K => ?_) ?_
  ·
    rcases Bool.eq_false_or_eq_true ((decide (p1.Write ≥ 0)) && (decide (p1.Write < p0.Symbols))) with h80 | h80
    ·
      refine WL.setB 28 h80 rfl ?_
      refine seg 15 [.v (.int .i64 p1.Move)] [2, 3, 32] [(2, (.pointer (some ⟨g67, 0, none⟩))), (3, (.pointer (some ⟨g71, 0, none⟩))), (32, (.bool (decide (p1.Move ≥ 0))))] [.cell ⟨g71, 1, none⟩ (.int .i64 p1.Move)] (fun fb => by kernel_rfl) rfl ⟨hS73.cell 0 rfl 1 rfl, trivial⟩ ?_
      exact WL.toV K (decide (p1.Move ≥ 0)) [32, 2, 3] rfl (by rw [h80]; rfl)
    refine WL.setB 28 h80 rfl ?_
    refine seg 15 [] [2, 3, 32] [(2, (.pointer (some ⟨g67, 0, none⟩))), (3, (.pointer (some ⟨g71, 0, none⟩))), (32, (.bool false))] [] (fun fb => by kernel_rfl) rfl trivial ?_
    exact WL.toV K false [32, 2, 3] rfl (by rw [h80]; rfl)
  rintro b81 rfl
  refine seg 16 [] [2, 3, 33] [(2, (.pointer (some ⟨g67, 0, none⟩))), (3, (.pointer (some ⟨g71, 0, none⟩))), (33, (.bool (((decide (p1.Write ≥ 0)) && (decide (p1.Write < p0.Symbols))) && (decide (p1.Move ≥ 0)))))] [] (fun fb => by kernel_rfl) rfl trivial ?_
  refine WL.cutV (T := Bool) 20 (fun t => [(37, (.bool t)), (2, (.pointer (some ⟨g67, 0, none⟩))), (3, (.pointer (some ⟨g71, 0, none⟩)))]) (fun t => t = ((((decide (p1.Write ≥ 0)) && (decide (p1.Write < p0.Symbols))) && (decide (p1.Move ≥ 0))) && (decide (p1.Move < 2)))) (fun K => ?_) ?_
  ·
    rcases Bool.eq_false_or_eq_true (((decide (p1.Write ≥ 0)) && (decide (p1.Write < p0.Symbols))) && (decide (p1.Move ≥ 0))) with h82 | h82
    ·
      refine WL.setB 33 h82 rfl ?_
      refine seg 20 [.v (.int .i64 p1.Move)] [2, 3, 37] [(2, (.pointer (some ⟨g67, 0, none⟩))), (3, (.pointer (some ⟨g71, 0, none⟩))), (37, (.bool (decide (p1.Move < 2))))] [.cell ⟨g71, 1, none⟩ (.int .i64 p1.Move)] (fun fb => by kernel_rfl) rfl ⟨hS73.cell 0 rfl 1 rfl, trivial⟩ ?_
      exact WL.toV K (decide (p1.Move < 2)) [37, 2, 3] rfl (by rw [h82]; rfl)
    refine WL.setB 33 h82 rfl ?_
    refine seg 20 [] [2, 3, 37] [(2, (.pointer (some ⟨g67, 0, none⟩))), (3, (.pointer (some ⟨g71, 0, none⟩))), (37, (.bool false))] [] (fun fb => by kernel_rfl) rfl trivial ?_
    exact WL.toV K false [37, 2, 3] rfl (by rw [h82]; rfl)
  rintro b83 rfl
  refine seg 21 [] [2, 3, 38] [(2, (.pointer (some ⟨g67, 0, none⟩))), (3, (.pointer (some ⟨g71, 0, none⟩))), (38, (.bool ((((decide (p1.Write ≥ 0)) && (decide (p1.Write < p0.Symbols))) && (decide (p1.Move ≥ 0))) && (decide (p1.Move < 2)))))] [] (fun fb => by kernel_rfl) rfl trivial ?_
  refine WL.cutV (T := Bool) 25 (fun t => [(42, (.bool t)), (2, (.pointer (some ⟨g67, 0, none⟩))), (3, (.pointer (some ⟨g71, 0, none⟩)))]) (fun t => t = (((((decide (p1.Write ≥ 0)) && (decide (p1.Write < p0.Symbols))) && (decide (p1.Move ≥ 0))) && (decide (p1.Move < 2))) && (decide (p1.Next ≥ 0)))) (fun K => ?_) ?_
  ·
    rcases Bool.eq_false_or_eq_true ((((decide (p1.Write ≥ 0)) && (decide (p1.Write < p0.Symbols))) && (decide (p1.Move ≥ 0))) && (decide (p1.Move < 2))) with h84 | h84
    ·
      refine WL.setB 38 h84 rfl ?_
      refine seg 25 [.v (.int .i64 p1.Next)] [2, 3, 42] [(2, (.pointer (some ⟨g67, 0, none⟩))), (3, (.pointer (some ⟨g71, 0, none⟩))), (42, (.bool (decide (p1.Next ≥ 0))))] [.cell ⟨g71, 2, none⟩ (.int .i64 p1.Next)] (fun fb => by kernel_rfl) rfl ⟨hS73.cell 0 rfl 2 rfl, trivial⟩ ?_
      exact WL.toV K (decide (p1.Next ≥ 0)) [42, 2, 3] rfl (by rw [h84]; rfl)
    refine WL.setB 38 h84 rfl ?_
    refine seg 25 [] [2, 3, 42] [(2, (.pointer (some ⟨g67, 0, none⟩))), (3, (.pointer (some ⟨g71, 0, none⟩))), (42, (.bool false))] [] (fun fb => by kernel_rfl) rfl trivial ?_
    exact WL.toV K false [42, 2, 3] rfl (by rw [h84]; rfl)
  rintro b85 rfl
  refine seg 26 [] [2, 3, 43] [(2, (.pointer (some ⟨g67, 0, none⟩))), (3, (.pointer (some ⟨g71, 0, none⟩))), (43, (.bool (((((decide (p1.Write ≥ 0)) && (decide (p1.Write < p0.Symbols))) && (decide (p1.Move ≥ 0))) && (decide (p1.Move < 2))) && (decide (p1.Next ≥ 0)))))] [] (fun fb => by kernel_rfl) rfl trivial ?_
  refine WL.cutV (T := Bool) 32 (fun t => [(49, (.bool t))]) (fun t => t = ((((((decide (p1.Write ≥ 0)) && (decide (p1.Write < p0.Symbols))) && (decide (p1.Move ≥ 0))) && (decide (p1.Move < 2))) && (decide (p1.Next ≥ 0))) && (decide (p1.Next < p0.States)))) (fun K => ?_) ?_
  ·
    rcases Bool.eq_false_or_eq_true (((((decide (p1.Write ≥ 0)) && (decide (p1.Write < p0.Symbols))) && (decide (p1.Move ≥ 0))) && (decide (p1.Move < 2))) && (decide (p1.Next ≥ 0))) with h86 | h86
    ·
      refine WL.setB 43 h86 rfl ?_
      refine seg 32 [.v (.int .i64 p1.Next), .v (.int .i64 p0.States)] [49] [(49, (.bool (decide (p1.Next < p0.States))))] [.cell ⟨g71, 2, none⟩ (.int .i64 p1.Next), .cell ⟨g67, 0, none⟩ (.int .i64 p0.States)] (fun fb => by kernel_rfl) rfl ⟨hS73.cell 0 rfl 2 rfl, hS73.cell 1 rfl 0 rfl, trivial⟩ ?_
      exact WL.toV K (decide (p1.Next < p0.States)) [49] rfl (by rw [h86]; rfl)
    refine WL.setB 43 h86 rfl ?_
    refine seg 32 [] [49] [(49, (.bool false))] [] (fun fb => by kernel_rfl) rfl trivial ?_
    exact WL.toV K false [49] rfl (by rw [h86]; rfl)
  rintro b87 rfl
  refine seg 33 [] [4] [(4, (.bool ((((((decide (p1.Write ≥ 0)) && (decide (p1.Write < p0.Symbols))) && (decide (p1.Move ≥ 0))) && (decide (p1.Move < 2))) && (decide (p1.Next ≥ 0))) && (decide (p1.Next < p0.States)))))] [] (fun fb => by kernel_rfl) rfl trivial ?_
  refine WL.done rfl ?_
  refine WX.next ?_
  refine WC.ret ?_
  injection hf with hf
  subst hf
  exact WX.ret_ [] (.bool ((((((decide (p1.Write ≥ 0)) && (decide (p1.Write < p0.Symbols))) && (decide (p1.Move ≥ 0))) && (decide (p1.Move < 2))) && (decide (p1.Next ≥ 0))) && (decide (p1.Next < p0.States)))) [] (fun fb => by kernel_rfl) trivial ⟨_, rfl, rfl, hS73.keep⟩
theorem machine_Valid_1_calls (p0 : Action) (f0 : Machine) (g_f0 : Nat) (A_f0_Actions : Option Addr) (c_f0_Actions : Nat) (r : Bool) (w : World) (hR0 : RO NoS w (blk g_f0 (.cells #[(.int .i64 f0.States), (.int .i64 f0.Symbols), (.slice A_f0_Actions f0.Actions.length c_f0_Actions)] 24 (0, 0)))) (hR1 : RO NoS w (rowR enc_Action A_f0_Actions c_f0_Actions f0.Actions)) (hf : machine_Valid_1 p0 f0 = some r) :
    CallsR Try.prog 47 #[(.agg #[(.int .i64 p0.Write), (.int .i64 p0.Move), (.int .i64 p0.Next)]), (.pointer (some ⟨g_f0, 0, none⟩))] w (fun v w' => v = (.bool r) ∧ Keeps NoS w w') := by
  have hS : St NoS w w [blk g_f0 (.cells #[(.int .i64 f0.States), (.int .i64 f0.Symbols), (.slice A_f0_Actions f0.Actions.length c_f0_Actions)] 24 (0, 0)), rowR enc_Action A_f0_Actions c_f0_Actions f0.Actions] [] := St.init (ro_cons hR0 (ro_cons hR1 (ro_nil _ _)))
  refine enter 8 Try.func47 rfl Try.ntmps47 rfl ?_
  unfold machine_Valid_1 at hf
  refine WC.seq ?_
  refine WC.region ?_
  refine WL.new hS 2 [] (fun g => (.pointer (some ⟨g, 0, none⟩))) (.cells #[(.int .i64 p0.Write), (.int .i64 p0.Move), (.int .i64 p0.Next)] 88 (0, 0)) [] (fun fb g => by kernel_rfl) trivial (fun g63 w64 hS65 => ?_)
  refine ⟨trivial, ?_⟩
  refine seg 2 [] [1, 2] [(1, (.pointer (some ⟨g_f0, 0, none⟩))), (2, (.pointer (some ⟨g63, 0, none⟩)))] [] (fun fb => by kernel_rfl) rfl trivial ?_
  refine WL.done rfl ?_
  refine WX.next ?_
  refine WC.seq ?_
  refine WC.region ?_
  refine seg 2 [.v (.int .i64 f0.States), .v (.int .i64 f0.Symbols), .v (.slice A_f0_Actions f0.Actions.length c_f0_Actions), .v (.int .i64 p0.Write), .v (.int .i64 p0.Move), .v (.int .i64 p0.Next)] [4, 5] [(4, (.agg #[(.int .i64 f0.States), (.int .i64 f0.Symbols), (.slice A_f0_Actions f0.Actions.length c_f0_Actions)])), (5, (.agg #[(.int .i64 p0.Write), (.int .i64 p0.Move), (.int .i64 p0.Next)]))] [.cell ⟨g_f0, 0, none⟩ (.int .i64 f0.States), .cell ⟨g_f0, 1, none⟩ (.int .i64 f0.Symbols), .cell ⟨g_f0, 2, none⟩ (.slice A_f0_Actions f0.Actions.length c_f0_Actions), .cell ⟨g63, 0, none⟩ (.int .i64 p0.Write), .cell ⟨g63, 1, none⟩ (.int .i64 p0.Move), .cell ⟨g63, 2, none⟩ (.int .i64 p0.Next)] (fun fb => by kernel_rfl) rfl ⟨blk_cell (hS65.rd 0).1 0 rfl, blk_cell (hS65.rd 0).1 1 rfl, blk_cell (hS65.rd 0).1 2 rfl, hS65.cell 0 rfl 0 rfl, hS65.cell 0 rfl 1 rfl, hS65.cell 0 rfl 2 rfl, trivial⟩ ?_
  obtain ⟨t88, ht89, hf⟩ := bind_some hf
  refine WL.call (some 6) 48 #[(.agg #[(.int .i64 f0.States), (.int .i64 f0.Symbols), (.slice A_f0_Actions f0.Actions.length c_f0_Actions)]), (.agg #[(.int .i64 p0.Write), (.int .i64 p0.Move), (.int .i64 p0.Next)])] (fun fb => by kernel_rfl) (machine_action_calls f0 p0 A_f0_Actions c_f0_Actions t88 _ (hS65.rd 1) ht89) (fun v w90 hR91 => ?_)
  obtain ⟨rfl, hk_⟩ := hR91
  have hS92 := hS65.keepN hk_
  refine ⟨trivial, ?_⟩
  refine seg 5 [] [3] [(3, (.bool (!t88)))] [] (fun fb => by kernel_rfl) rfl trivial ?_
  refine WL.done rfl ?_
  refine WX.next ?_
  refine WC.ret ?_
  injection hf with hf
  subst hf
  exact WX.ret_ [] (.bool (!t88)) [] (fun fb => by kernel_rfl) trivial ⟨_, rfl, rfl, hS92.keep⟩
theorem slices_IndexFunc_api_Action_api_Action_with_machine_Valid_1_calls (k : Nat) (p0 : List Action) (p1_0 : Machine) (A_p0 : Option Addr) (c_p0 : Nat) (g_p1_0 : Nat) (A_p1_0_Actions : Option Addr) (c_p1_0_Actions : Nat) (r : Int) (w : World) (hR0 : RO NoS w (rowR enc_Action A_p0 c_p0 p0)) (hR1 : RO NoS w (blk g_p1_0 (.cells #[(.int .i64 p1_0.States), (.int .i64 p1_0.Symbols), (.slice A_p1_0_Actions p1_0.Actions.length c_p1_0_Actions)] 24 (0, 0)))) (hR2 : RO NoS w (rowR enc_Action A_p1_0_Actions c_p1_0_Actions p1_0.Actions)) (hf : slices_IndexFunc_api_Action_api_Action_with_machine_Valid_1 k p0 p1_0 = some r) :
    CallsR Try.prog 64 #[(.slice A_p0 p0.length c_p0), (.func (.func 47) #[] #[(.pointer (some ⟨g_p1_0, 0, none⟩))])] w (fun v w' => v = (.int .i64 r) ∧ Keeps NoS w w') := by
  have hS : St NoS w w [rowR enc_Action A_p0 c_p0 p0, blk g_p1_0 (.cells #[(.int .i64 p1_0.States), (.int .i64 p1_0.Symbols), (.slice A_p1_0_Actions p1_0.Actions.length c_p1_0_Actions)] 24 (0, 0)), rowR enc_Action A_p1_0_Actions c_p1_0_Actions p1_0.Actions] [] := St.init (ro_cons hR0 (ro_cons hR1 (ro_cons hR2 (ro_nil _ _))))
  refine enter 19 Try.func64 rfl Try.ntmps64 rfl ?_
  unfold slices_IndexFunc_api_Action_api_Action_with_machine_Valid_1 at hf
  refine WC.seq ?_
  refine WC.region ?_
  refine seg 1 [] [0, 1] [(0, (.slice A_p0 p0.length c_p0)), (1, (.func (.func 47) #[] #[(.pointer (some ⟨g_p1_0, 0, none⟩))]))] [] (fun fb => by kernel_rfl) rfl trivial ?_
  refine WL.done rfl ?_
  refine WX.next ?_
  refine WC.seq ?_
  refine WC.seq ?_
  refine WC.region ?_
  refine seg 3 [] [0, 1, 7, 8] [(0, (.slice A_p0 p0.length c_p0)), (1, (.func (.func 47) #[] #[(.pointer (some ⟨g_p1_0, 0, none⟩))])), (7, (.int .i64 (p0.length : Int))), (8, (.int .i64 0))] [] (fun fb => by kernel_rfl) rfl trivial ?_
  refine WL.done rfl ?_
  refine WX.next ?_
  obtain ⟨x109, hx110, hf⟩ := bind_some hf
  refine WC.cutN (T := Unit) (fun t => []) (fun t w1 => St NoS w w1 [rowR enc_Action A_p0 c_p0 p0, blk g_p1_0 (.cells #[(.int .i64 p1_0.States), (.int .i64 p1_0.Symbols), (.slice A_p1_0_Actions p1_0.Actions.length c_p1_0_Actions)] 24 (0, 0)), rowR enc_Action A_p1_0_Actions c_p1_0_Actions p1_0.Actions] [] ∧ x109 = .inr t) (fun Kx109 => ?_) ?_
  ·
    refine WC.block ?_
    refine WC.loop (T := Int) (fun t => [(0, (.slice A_p0 p0.length c_p0)), (1, (.func (.func 47) #[] #[(.pointer (some ⟨g_p1_0, 0, none⟩))])), (7, (.int .i64 (p0.length : Int))), (8, (.int .i64 t))]) (fun n t w1 => St NoS w w1 [rowR enc_Action A_p0 c_p0 p0, blk g_p1_0 (.cells #[(.int .i64 p1_0.States), (.int .i64 p1_0.Symbols), (.slice A_p1_0_Actions p1_0.Actions.length c_p1_0_Actions)] 24 (0, 0)), rowR enc_Action A_p1_0_Actions c_p1_0_Actions p1_0.Actions] [] ∧ slices_IndexFunc_api_Action_api_Action_with_machine_Valid_1.l0 n t p0 p1_0 = some x109) k 0 [0, 1, 7, 8] rfl ⟨(hS.subR [0, 1, 2]).sub [] (by decide), hx110⟩ ?_
    rintro k111 x108 w112 ⟨hS113, hl114⟩
    cases k111 with
    | zero => rw [slices_IndexFunc_api_Action_api_Action_with_machine_Valid_1.l0] at hl114; cases hl114
    | succ k111 =>
      rw [slices_IndexFunc_api_Action_api_Action_with_machine_Valid_1.l0] at hl114
      refine WC.seq ?_
      refine WC.region ?_
      refine seg 1 [] [0, 1, 7, 8, 9] [(0, (.slice A_p0 p0.length c_p0)), (1, (.func (.func 47) #[] #[(.pointer (some ⟨g_p1_0, 0, none⟩))])), (7, (.int .i64 (p0.length : Int))), (8, (.int .i64 x108)), (9, (.bool (decide (x108 < (p0.length : Int)))))] [] (fun fb => by kernel_rfl) rfl trivial ?_
      refine WL.done rfl ?_
      refine WX.next ?_
      refine WC.seq ?_
      rcases br_some hl114 with ⟨h115, hl114⟩ | ⟨h115, hl114⟩
      · refine WC.condT2 (fun fb => by kernel_rfl) h115 ?_
        refine WC.skip ?_
        refine WX.next ?_
        refine WC.seq ?_
        refine WC.block ?_
        refine WC.seq ?_
        refine WC.region ?_
        refine seg 2 [] [0, 1, 5, 7, 8] [(0, (.slice A_p0 p0.length c_p0)), (1, (.func (.func 47) #[] #[(.pointer (some ⟨g_p1_0, 0, none⟩))])), (5, (.int .i64 x108)), (7, (.int .i64 (p0.length : Int))), (8, (.int .i64 x108))] [] (fun fb => by kernel_rfl) rfl trivial ?_
        refine WL.done rfl ?_
        refine WX.next ?_
        refine WC.seq ?_
        refine WC.region ?_
        refine seg 3 [] [0, 1, 5, 7, 8, 11, 12, 13] [(0, (.slice A_p0 p0.length c_p0)), (1, (.func (.func 47) #[] #[(.pointer (some ⟨g_p1_0, 0, none⟩))])), (5, (.int .i64 x108)), (7, (.int .i64 (p0.length : Int))), (8, (.int .i64 x108)), (11, (.func (.func 47) #[] #[(.pointer (some ⟨g_p1_0, 0, none⟩))])), (12, (.slice A_p0 p0.length c_p0)), (13, (.int .i64 x108))] [] (fun fb => by kernel_rfl) rfl trivial ?_
        obtain ⟨h116, hl114⟩ := as_some hl114
        refine seg 5 [.v (.int .i64 ((rdD p0 x108 z_Action).Write)), .v (.int .i64 ((rdD p0 x108 z_Action).Move)), .v (.int .i64 ((rdD p0 x108 z_Action).Next))] [0, 1, 5, 7, 8, 11, 15] [(0, (.slice A_p0 p0.length c_p0)), (1, (.func (.func 47) #[] #[(.pointer (some ⟨g_p1_0, 0, none⟩))])), (5, (.int .i64 x108)), (7, (.int .i64 (p0.length : Int))), (8, (.int .i64 x108)), (11, (.func (.func 47) #[] #[(.pointer (some ⟨g_p1_0, 0, none⟩))])), (15, (.agg #[(.int .i64 ((rdD p0 x108 z_Action).Write)), (.int .i64 ((rdD p0 x108 z_Action).Move)), (.int .i64 ((rdD p0 x108 z_Action).Next))]))] [.idx A_p0 x108 p0.length, .cell ((adr A_p0).add ((x108).toNat * 3)) (.int .i64 ((rdD p0 x108 z_Action).Write)), .cell (((adr A_p0).add ((x108).toNat * 3)).add 1) (.int .i64 ((rdD p0 x108 z_Action).Move)), .cell (((adr A_p0).add ((x108).toNat * 3)).add 2) (.int .i64 ((rdD p0 x108 z_Action).Next))] (fun fb => by kernel_rfl) rfl ⟨rowR.adr (hS113.rd 0).1 h116.1 h116.2, rowR.cell (hS113.rd 0).1 z_Action h116.1 h116.2 0 rfl, rowR.cell (hS113.rd 0).1 z_Action h116.1 h116.2 1 rfl, rowR.cell (hS113.rd 0).1 z_Action h116.1 h116.2 2 rfl, trivial⟩ ?_
        obtain ⟨t117, ht118, hl114⟩ := bind_some hl114
        refine WL.call (some 16) 47 #[(.agg #[(.int .i64 ((rdD p0 x108 z_Action).Write)), (.int .i64 ((rdD p0 x108 z_Action).Move)), (.int .i64 ((rdD p0 x108 z_Action).Next))]), (.pointer (some ⟨g_p1_0, 0, none⟩))] (fun fb => by kernel_rfl) (machine_Valid_1_calls (rdD p0 x108 z_Action) p1_0 g_p1_0 A_p1_0_Actions c_p1_0_Actions t117 _ (hS113.rd 1) (hS113.rd 2) ht118) (fun v w119 hR120 => ?_)
        obtain ⟨rfl, hk_⟩ := hR120
        have hS121 := hS113.keepN hk_
        refine ⟨trivial, ?_⟩
        refine WL.done rfl ?_
        refine WX.next ?_
        rcases br_some hl114 with ⟨h122, hl114⟩ | ⟨h122, hl114⟩
        · refine WC.condT2 (fun fb => by kernel_rfl) h122 ?_
          refine WC.seq ?_
          refine WC.region ?_
          refine seg 2 [] [4] [(4, (.int .i64 x108))] [] (fun fb => by kernel_rfl) rfl trivial ?_
          refine WL.done rfl ?_
          refine WX.next ?_
          refine WC.ret ?_
          injection hl114 with hl114
          subst hl114
          injection hf with hf
          subst hf
          exact WX.blockR (WX.thenR (WX.thenR (WX.blockR (WX.thenR (WX.ret_ [] (.int .i64 x108) [] (fun fb => by kernel_rfl) trivial ⟨_, rfl, rfl, hS121.keep⟩)))))
        refine WC.condF2 (fun fb => by kernel_rfl) h122 ?_
        refine WC.skip ?_
        refine WX.blockN (WX.next ?_)
        refine WC.region ?_
        refine seg 2 [] [0, 1, 7, 8] [(0, (.slice A_p0 p0.length c_p0)), (1, (.func (.func 47) #[] #[(.pointer (some ⟨g_p1_0, 0, none⟩))])), (7, (.int .i64 (p0.length : Int))), (8, (.int .i64 (w64 (x108 + 1))))] [] (fun fb => by kernel_rfl) rfl trivial ?_
        refine WL.done rfl ?_
        exact WX.again k111 (Nat.lt_succ_self _) (w64 (x108 + 1)) [0, 1, 7, 8] rfl ⟨(hS121.subR [0, 1, 2]).sub [] (by decide), hl114⟩
      refine WC.condF2 (fun fb => by kernel_rfl) h115 ?_
      refine WC.exit ?_
      injection hl114 with hl114
      exact WX.thenX (WX.thenX (WX.blockHere (WX.to Kx109 () [] rfl ⟨(hS113.subR [0, 1, 2]).sub [] (by decide), hl114.symm⟩)))
  rintro y126 w123 ⟨hS124, hq125⟩
  subst hq125
  have hf := sum_inr hf
  refine WX.next ?_
  refine WC.seq ?_
  refine WC.region ?_
  refine seg 1 [] [4] [(4, (.int .i64 (-1)))] [] (fun fb => by kernel_rfl) rfl trivial ?_
  refine WL.done rfl ?_
  refine WX.next ?_
  refine WC.ret ?_
  injection hf with hf
  subst hf
  exact WX.ret_ [] (.int .i64 (-1)) [] (fun fb => by kernel_rfl) trivial ⟨_, rfl, rfl, hS124.keep⟩
theorem slices_ContainsFunc_api_Action_api_Action_with_machine_Valid_1_calls (k : Nat) (p0 : List Action) (p1_0 : Machine) (A_p0 : Option Addr) (c_p0 : Nat) (g_p1_0 : Nat) (A_p1_0_Actions : Option Addr) (c_p1_0_Actions : Nat) (r : Bool) (w : World) (hR0 : RO NoS w (rowR enc_Action A_p0 c_p0 p0)) (hR1 : RO NoS w (blk g_p1_0 (.cells #[(.int .i64 p1_0.States), (.int .i64 p1_0.Symbols), (.slice A_p1_0_Actions p1_0.Actions.length c_p1_0_Actions)] 24 (0, 0)))) (hR2 : RO NoS w (rowR enc_Action A_p1_0_Actions c_p1_0_Actions p1_0.Actions)) (hf : slices_ContainsFunc_api_Action_api_Action_with_machine_Valid_1 k p0 p1_0 = some r) :
    CallsR Try.prog 46 #[(.slice A_p0 p0.length c_p0), (.func (.func 47) #[] #[(.pointer (some ⟨g_p1_0, 0, none⟩))])] w (fun v w' => v = (.bool r) ∧ Keeps NoS w w') := by
  have hS : St NoS w w [rowR enc_Action A_p0 c_p0 p0, blk g_p1_0 (.cells #[(.int .i64 p1_0.States), (.int .i64 p1_0.Symbols), (.slice A_p1_0_Actions p1_0.Actions.length c_p1_0_Actions)] 24 (0, 0)), rowR enc_Action A_p1_0_Actions c_p1_0_Actions p1_0.Actions] [] := St.init (ro_cons hR0 (ro_cons hR1 (ro_cons hR2 (ro_nil _ _))))
  refine enter 9 Try.func46 rfl Try.ntmps46 rfl ?_
  unfold slices_ContainsFunc_api_Action_api_Action_with_machine_Valid_1 at hf
  refine WC.seq ?_
  refine WC.region ?_
  refine seg 1 [] [0, 1] [(0, (.slice A_p0 p0.length c_p0)), (1, (.func (.func 47) #[] #[(.pointer (some ⟨g_p1_0, 0, none⟩))]))] [] (fun fb => by kernel_rfl) rfl trivial ?_
  refine WL.done rfl ?_
  refine WX.next ?_
  refine WC.seq ?_
  refine WC.region ?_
  refine seg 2 [] [5, 6] [(5, (.slice A_p0 p0.length c_p0)), (6, (.func (.func 47) #[] #[(.pointer (some ⟨g_p1_0, 0, none⟩))]))] [] (fun fb => by kernel_rfl) rfl trivial ?_
  obtain ⟨t128, ht129, hf⟩ := bind_some hf
  refine WL.call (some 7) 64 #[(.slice A_p0 p0.length c_p0), (.func (.func 47) #[] #[(.pointer (some ⟨g_p1_0, 0, none⟩))])] (fun fb => by kernel_rfl) (slices_IndexFunc_api_Action_api_Action_with_machine_Valid_1_calls _ p0 p1_0 A_p0 c_p0 g_p1_0 A_p1_0_Actions c_p1_0_Actions t128 _ (hS.rd 0) (hS.rd 1) (hS.rd 2) ht129) (fun v w130 hR131 => ?_)
  obtain ⟨rfl, hk_⟩ := hR131
  have hS132 := hS.keepN hk_
  refine ⟨trivial, ?_⟩
  refine seg 5 [] [4] [(4, (.bool (decide (t128 ≥ 0))))] [] (fun fb => by kernel_rfl) rfl trivial ?_
  refine WL.done rfl ?_
  refine WX.next ?_
  refine WC.ret ?_
  injection hf with hf
  subst hf
  exact WX.ret_ [] (.bool (decide (t128 ≥ 0))) [] (fun fb => by kernel_rfl) trivial ⟨_, rfl, rfl, hS132.keep⟩
theorem machine_Valid_calls (k : Nat) (p0 : Machine) (A_p0_Actions : Option Addr) (c_p0_Actions : Nat) (r : Bool) (w : World) (hR0 : RO NoS w (rowR enc_Action A_p0_Actions c_p0_Actions p0.Actions)) (hf : machine_Valid k p0 = some r) :
    CallsR Try.prog 16 #[(.agg #[(.int .i64 p0.States), (.int .i64 p0.Symbols), (.slice A_p0_Actions p0.Actions.length c_p0_Actions)])] w (fun v w' => v = (.bool r) ∧ Keeps NoS w w') := by
  have hS : St NoS w w [rowR enc_Action A_p0_Actions c_p0_Actions p0.Actions] [] := St.init (ro_cons hR0 (ro_nil _ _))
  refine enter 39 Try.func16 rfl Try.ntmps16 rfl ?_
  unfold machine_Valid at hf
  refine WC.seq ?_
  refine WC.region ?_
  refine WL.new hS 1 [] (fun g => (.pointer (some ⟨g, 0, none⟩))) (.cells #[(.int .i64 p0.States), (.int .i64 p0.Symbols), (.slice A_p0_Actions p0.Actions.length c_p0_Actions)] 24 (0, 0)) [] (fun fb g => by kernel_rfl) trivial (fun g49 w50 hS51 => ?_)
  refine ⟨trivial, ?_⟩
  refine seg 2 [] [1] [(1, (.pointer (some ⟨g49, 0, none⟩)))] [] (fun fb => by kernel_rfl) rfl trivial ?_
  refine WL.done rfl ?_
  refine WX.next ?_
  refine WC.seq ?_
  refine WC.region ?_
  refine seg 4 [.v (.int .i64 p0.States)] [1, 6] [(1, (.pointer (some ⟨g49, 0, none⟩))), (6, (.bool (decide (p0.States ≥ 1))))] [.cell ⟨g49, 0, none⟩ (.int .i64 p0.States)] (fun fb => by kernel_rfl) rfl ⟨hS51.cell 0 rfl 0 rfl, trivial⟩ ?_
  refine WL.cutV (T := Bool) 8 (fun t => [(10, (.bool t)), (1, (.pointer (some ⟨g49, 0, none⟩)))]) (fun t => t = ((decide (p0.States ≥ 1)) && (decide (p0.States ≤ 6)))) (fun K => ?_) ?_
  ·
    rcases Bool.eq_false_or_eq_true (decide (p0.States ≥ 1)) with h53 | h53
    ·
      refine WL.setB 6 h53 rfl ?_
      refine seg 8 [.v (.int .i64 p0.States)] [1, 10] [(1, (.pointer (some ⟨g49, 0, none⟩))), (10, (.bool (decide (p0.States ≤ 6))))] [.cell ⟨g49, 0, none⟩ (.int .i64 p0.States)] (fun fb => by kernel_rfl) rfl ⟨hS51.cell 0 rfl 0 rfl, trivial⟩ ?_
      exact WL.toV K (decide (p0.States ≤ 6)) [10, 1] rfl (by rw [h53]; rfl)
    refine WL.setB 6 h53 rfl ?_
    refine seg 8 [] [1, 10] [(1, (.pointer (some ⟨g49, 0, none⟩))), (10, (.bool false))] [] (fun fb => by kernel_rfl) rfl trivial ?_
    exact WL.toV K false [10, 1] rfl (by rw [h53]; rfl)
  rintro b54 rfl
  refine seg 9 [] [1, 11] [(1, (.pointer (some ⟨g49, 0, none⟩))), (11, (.bool ((decide (p0.States ≥ 1)) && (decide (p0.States ≤ 6)))))] [] (fun fb => by kernel_rfl) rfl trivial ?_
  refine WL.cutV (T := Bool) 13 (fun t => [(15, (.bool t)), (1, (.pointer (some ⟨g49, 0, none⟩)))]) (fun t => t = (((decide (p0.States ≥ 1)) && (decide (p0.States ≤ 6))) && (decide (p0.Symbols ≥ 2)))) (fun K => ?_) ?_
  ·
    rcases Bool.eq_false_or_eq_true ((decide (p0.States ≥ 1)) && (decide (p0.States ≤ 6))) with h55 | h55
    ·
      refine WL.setB 11 h55 rfl ?_
      refine seg 13 [.v (.int .i64 p0.Symbols)] [1, 15] [(1, (.pointer (some ⟨g49, 0, none⟩))), (15, (.bool (decide (p0.Symbols ≥ 2))))] [.cell ⟨g49, 1, none⟩ (.int .i64 p0.Symbols)] (fun fb => by kernel_rfl) rfl ⟨hS51.cell 0 rfl 1 rfl, trivial⟩ ?_
      exact WL.toV K (decide (p0.Symbols ≥ 2)) [15, 1] rfl (by rw [h55]; rfl)
    refine WL.setB 11 h55 rfl ?_
    refine seg 13 [] [1, 15] [(1, (.pointer (some ⟨g49, 0, none⟩))), (15, (.bool false))] [] (fun fb => by kernel_rfl) rfl trivial ?_
    exact WL.toV K false [15, 1] rfl (by rw [h55]; rfl)
  rintro b56 rfl
  refine seg 14 [] [1, 16] [(1, (.pointer (some ⟨g49, 0, none⟩))), (16, (.bool (((decide (p0.States ≥ 1)) && (decide (p0.States ≤ 6))) && (decide (p0.Symbols ≥ 2)))))] [] (fun fb => by kernel_rfl) rfl trivial ?_
  refine WL.cutV (T := Bool) 18 (fun t => [(20, (.bool t)), (1, (.pointer (some ⟨g49, 0, none⟩)))]) (fun t => t = ((((decide (p0.States ≥ 1)) && (decide (p0.States ≤ 6))) && (decide (p0.Symbols ≥ 2))) && (decide (p0.Symbols ≤ 4)))) (fun K => ?_) ?_
  ·
    rcases Bool.eq_false_or_eq_true (((decide (p0.States ≥ 1)) && (decide (p0.States ≤ 6))) && (decide (p0.Symbols ≥ 2))) with h57 | h57
    ·
      refine WL.setB 16 h57 rfl ?_
      refine seg 18 [.v (.int .i64 p0.Symbols)] [1, 20] [(1, (.pointer (some ⟨g49, 0, none⟩))), (20, (.bool (decide (p0.Symbols ≤ 4))))] [.cell ⟨g49, 1, none⟩ (.int .i64 p0.Symbols)] (fun fb => by kernel_rfl) rfl ⟨hS51.cell 0 rfl 1 rfl, trivial⟩ ?_
      exact WL.toV K (decide (p0.Symbols ≤ 4)) [20, 1] rfl (by rw [h57]; rfl)
    refine WL.setB 16 h57 rfl ?_
    refine seg 18 [] [1, 20] [(1, (.pointer (some ⟨g49, 0, none⟩))), (20, (.bool false))] [] (fun fb => by kernel_rfl) rfl trivial ?_
    exact WL.toV K false [20, 1] rfl (by rw [h57]; rfl)
  rintro b58 rfl
  refine seg 19 [] [1, 21] [(1, (.pointer (some ⟨g49, 0, none⟩))), (21, (.bool ((((decide (p0.States ≥ 1)) && (decide (p0.States ≤ 6))) && (decide (p0.Symbols ≥ 2))) && (decide (p0.Symbols ≤ 4)))))] [] (fun fb => by kernel_rfl) rfl trivial ?_
  refine WL.cutV (T := Bool) 29 (fun t => [(31, (.bool t)), (1, (.pointer (some ⟨g49, 0, none⟩)))]) (fun t => t = (((((decide (p0.States ≥ 1)) && (decide (p0.States ≤ 6))) && (decide (p0.Symbols ≥ 2))) && (decide (p0.Symbols ≤ 4))) && ((p0.Actions.length : Int) == (w64 (p0.States * p0.Symbols))))) (fun K => ?_) ?_
  ·
    rcases Bool.eq_false_or_eq_true ((((decide (p0.States ≥ 1)) && (decide (p0.States ≤ 6))) && (decide (p0.Symbols ≥ 2))) && (decide (p0.Symbols ≤ 4))) with h59 | h59
    ·
      refine WL.setB 21 h59 rfl ?_
      refine seg 29 [.v (.slice A_p0_Actions p0.Actions.length c_p0_Actions), .v (.int .i64 p0.States), .v (.int .i64 p0.Symbols)] [1, 31] [(1, (.pointer (some ⟨g49, 0, none⟩))), (31, (.bool ((p0.Actions.length : Int) == (w64 (p0.States * p0.Symbols)))))] [.cell ⟨g49, 2, none⟩ (.slice A_p0_Actions p0.Actions.length c_p0_Actions), .cell ⟨g49, 0, none⟩ (.int .i64 p0.States), .cell ⟨g49, 1, none⟩ (.int .i64 p0.Symbols)] (fun fb => by kernel_rfl) rfl ⟨hS51.cell 0 rfl 2 rfl, hS51.cell 0 rfl 0 rfl, hS51.cell 0 rfl 1 rfl, trivial⟩ ?_
      exact WL.toV K ((p0.Actions.length : Int) == (w64 (p0.States * p0.Symbols))) [31, 1] rfl (by rw [h59]; rfl)
    refine WL.setB 21 h59 rfl ?_
    refine seg 29 [] [1, 31] [(1, (.pointer (some ⟨g49, 0, none⟩))), (31, (.bool false))] [] (fun fb => by kernel_rfl) rfl trivial ?_
    exact WL.toV K false [31, 1] rfl (by rw [h59]; rfl)
  rintro b60 rfl
  refine seg 30 [] [1, 32] [(1, (.pointer (some ⟨g49, 0, none⟩))), (32, (.bool (((((decide (p0.States ≥ 1)) && (decide (p0.States ≤ 6))) && (decide (p0.Symbols ≥ 2))) && (decide (p0.Symbols ≤ 4))) && ((p0.Actions.length : Int) == (w64 (p0.States * p0.Symbols))))))] [] (fun fb => by kernel_rfl) rfl trivial ?_
  obtain ⟨x139, hx140, hf⟩ := bind_some hf
  refine WL.cutW (T := Bool) 36 (fun t => [(38, (.bool t))]) (fun t w1 => (St NoS w w1 [rowR enc_Action A_p0_Actions c_p0_Actions p0.Actions] [] ∧ x139 = t) ∧ CellsOK [] w1) (fun K => ?_) ?_
  ·
    rcases br_some hx140 with ⟨h141, hx140⟩ | ⟨h141, hx140⟩
    ·
      refine WL.setB 32 h141 rfl ?_
      refine seg 33 [.v (.slice A_p0_Actions p0.Actions.length c_p0_Actions)] [32, 34, 35] [(32, (.bool true)), (34, (.slice A_p0_Actions p0.Actions.length c_p0_Actions)), (35, (.func (.func 47) #[] #[(.pointer (some ⟨g49, 0, none⟩))]))] [.cell ⟨g49, 2, none⟩ (.slice A_p0_Actions p0.Actions.length c_p0_Actions)] (fun fb => by kernel_rfl) rfl ⟨hS51.cell 0 rfl 2 rfl, trivial⟩ ?_
      obtain ⟨t142, ht143, hx140⟩ := bind_some hx140
      refine WL.call (some 36) 46 #[(.slice A_p0_Actions p0.Actions.length c_p0_Actions), (.func (.func 47) #[] #[(.pointer (some ⟨g49, 0, none⟩))])] (fun fb => by kernel_rfl) (slices_ContainsFunc_api_Action_api_Action_with_machine_Valid_1_calls _ p0.Actions p0 A_p0_Actions c_p0_Actions g49 A_p0_Actions c_p0_Actions t142 _ (hS51.rd 0) (hS51.ow 0) (hS51.rd 0) ht143) (fun v w144 hR145 => ?_)
      obtain ⟨rfl, hk_⟩ := hR145
      have hS146 := hS51.keepN hk_
      refine ⟨trivial, ?_⟩
      refine seg 36 [] [38] [(38, (.bool (!t142)))] [] (fun fb => by kernel_rfl) rfl trivial ?_
      injection hx140 with hx140
      exact WL.to K (!t142) [38] rfl ⟨⟨(hS146.subR [0]).sub [] (by decide), hx140.symm⟩, trivial⟩
    refine WL.setB 32 h141 rfl ?_
    refine seg 36 [] [38] [(38, (.bool false))] [] (fun fb => by kernel_rfl) rfl trivial ?_
    injection hx140 with hx140
    exact WL.to K false [38] rfl ⟨⟨(hS51.subR [0]).sub [] (by decide), hx140.symm⟩, trivial⟩
  rintro y147 w149 ⟨⟨hS150, hq148⟩, hF151⟩
  subst hq148
  refine seg 37 [] [2] [(2, (.bool x139))] [] (fun fb => by kernel_rfl) rfl trivial ?_
  refine WL.done rfl ?_
  refine WX.next ?_
  refine WC.ret ?_
  injection hf with hf
  subst hf
  exact WX.ret_ [] (.bool x139) [] (fun fb => by kernel_rfl) trivial ⟨_, rfl, rfl, hS150.keep⟩
theorem machine_head_calls (p0 : Machine) (p1 : Int) (p2 : Int) (A_p0_Actions : Option Addr) (c_p0_Actions : Nat) (r : Int) (w : World) (hR0 : RO NoS w (rowR enc_Action A_p0_Actions c_p0_Actions p0.Actions)) (hf : machine_head p0 p1 p2 = some r) :
    CallsR Try.prog 61 #[(.agg #[(.int .i64 p0.States), (.int .i64 p0.Symbols), (.slice A_p0_Actions p0.Actions.length c_p0_Actions)]), (.int .i64 p1), (.int .i64 p2)] w (fun v w' => v = (.int .i64 r) ∧ Keeps NoS w w') := by
  have hS : St NoS w w [rowR enc_Action A_p0_Actions c_p0_Actions p0.Actions] [] := St.init (ro_cons hR0 (ro_nil _ _))
  refine enter 16 Try.func61 rfl Try.ntmps61 rfl ?_
  unfold machine_head at hf
  refine WC.seq ?_
  refine WC.region ?_
  refine WL.new hS 3 [] (fun g => (.pointer (some ⟨g, 0, none⟩))) (.cells #[(.int .i64 p0.States), (.int .i64 p0.Symbols), (.slice A_p0_Actions p0.Actions.length c_p0_Actions)] 24 (0, 0)) [] (fun fb g => by kernel_rfl) trivial (fun g289 w290 hS291 => ?_)
  refine ⟨trivial, ?_⟩
  refine seg 2 [] [1, 2, 3] [(1, (.int .i64 p1)), (2, (.int .i64 p2)), (3, (.pointer (some ⟨g289, 0, none⟩)))] [] (fun fb => by kernel_rfl) rfl trivial ?_
  refine WL.done rfl ?_
  refine WX.next ?_
  refine WC.seq ?_
  refine WC.region ?_
  refine seg 10 [.v (.int .i64 p0.Symbols), .v (.int .i64 p0.Symbols)] [6] [(6, (.int .i64 (w64 ((w64 (p0.Symbols + (w64 (p1 * p0.Symbols)))) + p2))))] [.cell ⟨g289, 1, none⟩ (.int .i64 p0.Symbols), .cell ⟨g289, 1, none⟩ (.int .i64 p0.Symbols)] (fun fb => by kernel_rfl) rfl ⟨hS291.cell 0 rfl 1 rfl, hS291.cell 0 rfl 1 rfl, trivial⟩ ?_
  refine WL.done rfl ?_
  refine WX.next ?_
  refine WC.ret ?_
  injection hf with hf
  subst hf
  exact WX.ret_ [] (.int .i64 (w64 ((w64 (p0.Symbols + (w64 (p1 * p0.Symbols)))) + p2))) [] (fun fb => by kernel_rfl) trivial ⟨_, rfl, rfl, hS291.keep⟩
theorem machine_kit_signal_calls (p0 : Kit) (p1 : Int) (p2 : Int) (g_p0 : Nat) (A_p0_m_Actions : Option Addr) (c_p0_m_Actions : Nat) (A_p0_set : Option Addr) (c_p0_set : Nat) (A_p0_does : Option Addr) (c_p0_does : Nat) (r : Int) (w : World) (hR0 : RO NoS w (blk g_p0 (.cells #[(.int .i64 p0.m.States), (.int .i64 p0.m.Symbols), (.slice A_p0_m_Actions p0.m.Actions.length c_p0_m_Actions), (.slice A_p0_set p0.set.length c_p0_set), (.slice A_p0_does p0.does.length c_p0_does), (.int .i64 p0.base)] 96 (0, 0)))) (hR1 : RO NoS w (rowR enc_Action A_p0_m_Actions c_p0_m_Actions p0.m.Actions)) (hR2 : RO NoS w (rowR enc_Tile A_p0_set c_p0_set p0.set)) (hR3 : RO NoS w (rowR encInt A_p0_does c_p0_does p0.does)) (hf : machine_kit_signal p0 p1 p2 = some r) :
    CallsR Try.prog 62 #[(.pointer (some ⟨g_p0, 0, none⟩)), (.int .i64 p1), (.int .i64 p2)] w (fun v w' => v = (.int .i64 r) ∧ Keeps NoS w w') := by
  have hS : St NoS w w [blk g_p0 (.cells #[(.int .i64 p0.m.States), (.int .i64 p0.m.Symbols), (.slice A_p0_m_Actions p0.m.Actions.length c_p0_m_Actions), (.slice A_p0_set p0.set.length c_p0_set), (.slice A_p0_does p0.does.length c_p0_does), (.int .i64 p0.base)] 96 (0, 0)), rowR enc_Action A_p0_m_Actions c_p0_m_Actions p0.m.Actions, rowR enc_Tile A_p0_set c_p0_set p0.set, rowR encInt A_p0_does c_p0_does p0.does] [] := St.init (ro_cons hR0 (ro_cons hR1 (ro_cons hR2 (ro_cons hR3 (ro_nil _ _)))))
  refine enter 19 Try.func62 rfl Try.ntmps62 rfl ?_
  unfold machine_kit_signal at hf
  refine WC.seq ?_
  refine WC.region ?_
  refine seg 1 [] [0, 1, 2] [(0, (.pointer (some ⟨g_p0, 0, none⟩))), (1, (.int .i64 p1)), (2, (.int .i64 p2))] [] (fun fb => by kernel_rfl) rfl trivial ?_
  refine WL.done rfl ?_
  refine WX.next ?_
  refine WC.seq ?_
  refine WC.seq ?_
  refine WC.region ?_
  refine seg 2 [] [0, 2, 8] [(0, (.pointer (some ⟨g_p0, 0, none⟩))), (2, (.int .i64 p2)), (8, (.bool (p1 == 1)))] [] (fun fb => by kernel_rfl) rfl trivial ?_
  refine WL.done rfl ?_
  refine WX.next ?_
  rcases br_some hf with ⟨h364, hf⟩ | ⟨h364, hf⟩
  · refine WC.condT2 (fun fb => by kernel_rfl) h364 ?_
    refine WC.seq ?_
    refine WC.region ?_
    refine seg 3 [] [6] [(6, (.int .i64 (w64 (1 + p2))))] [] (fun fb => by kernel_rfl) rfl trivial ?_
    refine WL.done rfl ?_
    refine WX.next ?_
    refine WC.ret ?_
    injection hf with hf
    subst hf
    exact WX.thenR (WX.ret_ [] (.int .i64 (w64 (1 + p2))) [] (fun fb => by kernel_rfl) trivial ⟨_, rfl, rfl, hS.keep⟩)
  refine WC.condF2 (fun fb => by kernel_rfl) h364 ?_
  refine WC.skip ?_
  refine WX.next ?_
  refine WC.seq ?_
  refine WC.region ?_
  refine seg 9 [.v (.int .i64 p0.m.States)] [6] [(6, (.int .i64 (w64 ((w64 (1 + p0.m.States)) + p2))))] [.cell ⟨g_p0, 0, none⟩ (.int .i64 p0.m.States)] (fun fb => by kernel_rfl) rfl ⟨blk_cell (hS.rd 0).1 0 rfl, trivial⟩ ?_
  refine WL.done rfl ?_
  refine WX.next ?_
  refine WC.ret ?_
  injection hf with hf
  subst hf
  exact WX.ret_ [] (.int .i64 (w64 ((w64 (1 + p0.m.States)) + p2))) [] (fun fb => by kernel_rfl) trivial ⟨_, rfl, rfl, hS.keep⟩
theorem machine_kit_acts_calls (p0 : Kit) (p1 : Int) (p2 : Int) (p3 : Action) (g_p0 : Nat) (A_p0_m_Actions : Option Addr) (c_p0_m_Actions : Nat) (A_p0_set : Option Addr) (c_p0_set : Nat) (A_p0_does : Option Addr) (c_p0_does : Nat) (r : Tile) (w : World) (hR0 : RO NoS w (blk g_p0 (.cells #[(.int .i64 p0.m.States), (.int .i64 p0.m.Symbols), (.slice A_p0_m_Actions p0.m.Actions.length c_p0_m_Actions), (.slice A_p0_set p0.set.length c_p0_set), (.slice A_p0_does p0.does.length c_p0_does), (.int .i64 p0.base)] 96 (0, 0)))) (hR1 : RO NoS w (rowR enc_Action A_p0_m_Actions c_p0_m_Actions p0.m.Actions)) (hR2 : RO NoS w (rowR enc_Tile A_p0_set c_p0_set p0.set)) (hR3 : RO NoS w (rowR encInt A_p0_does c_p0_does p0.does)) (hf : machine_kit_acts p0 p1 p2 p3 = some r) :
    CallsR Try.prog 60 #[(.pointer (some ⟨g_p0, 0, none⟩)), (.int .i64 p1), (.int .i64 p2), (.agg #[(.int .i64 p3.Write), (.int .i64 p3.Move), (.int .i64 p3.Next)])] w (fun v w' => v = (.agg #[(.int .i64 r.N), (.int .i64 r.E), (.int .i64 r.S), (.int .i64 r.W)]) ∧ Keeps NoS w w') := by
  have hS : St NoS w w [blk g_p0 (.cells #[(.int .i64 p0.m.States), (.int .i64 p0.m.Symbols), (.slice A_p0_m_Actions p0.m.Actions.length c_p0_m_Actions), (.slice A_p0_set p0.set.length c_p0_set), (.slice A_p0_does p0.does.length c_p0_does), (.int .i64 p0.base)] 96 (0, 0)), rowR enc_Action A_p0_m_Actions c_p0_m_Actions p0.m.Actions, rowR enc_Tile A_p0_set c_p0_set p0.set, rowR encInt A_p0_does c_p0_does p0.does] [] := St.init (ro_cons hR0 (ro_cons hR1 (ro_cons hR2 (ro_cons hR3 (ro_nil _ _)))))
  refine enter 36 Try.func60 rfl Try.ntmps60 rfl ?_
  unfold machine_kit_acts at hf
  refine WC.seq ?_
  refine WC.region ?_
  refine WL.new hS 7 [] (fun g => (.pointer (some ⟨g, 0, none⟩))) (.cells #[(.int .i64 p3.Write), (.int .i64 p3.Move), (.int .i64 p3.Next)] 88 (0, 0)) [] (fun fb g => by kernel_rfl) trivial (fun g281 w282 hS283 => ?_)
  refine ⟨trivial, ?_⟩
  refine WL.new hS283 8 [] (fun g => (.pointer (some ⟨g, 0, none⟩))) (.cells #[(.int .i64 0), (.int .i64 0), (.int .i64 0), (.int .i64 0)] 65 (0, 0)) [] (fun fb g => by kernel_rfl) trivial (fun g285 w286 hS287 => ?_)
  refine ⟨trivial, ?_⟩
  refine WL.done rfl ?_
  refine WX.next ?_
  refine WC.seq ?_
  obtain ⟨x333, hx334, hf⟩ := bind_some hf
  refine WC.cutN (T := (Int × Int × Int × Int) × Nat) (fun t => [(0, (.pointer (some ⟨g_p0, 0, none⟩))), (7, (.pointer (some ⟨g281, 0, none⟩))), (8, (.pointer (some ⟨g285, 0, none⟩))), (9, (.pointer (some ⟨t.2, 0, none⟩)))]) (fun t w1 => St NoS w w1 [blk g_p0 (.cells #[(.int .i64 p0.m.States), (.int .i64 p0.m.Symbols), (.slice A_p0_m_Actions p0.m.Actions.length c_p0_m_Actions), (.slice A_p0_set p0.set.length c_p0_set), (.slice A_p0_does p0.does.length c_p0_does), (.int .i64 p0.base)] 96 (0, 0)), rowR enc_Action A_p0_m_Actions c_p0_m_Actions p0.m.Actions, rowR enc_Tile A_p0_set c_p0_set p0.set, rowR encInt A_p0_does c_p0_does p0.does] [blk g281 (.cells #[(.int .i64 p3.Write), (.int .i64 p3.Move), (.int .i64 p3.Next)] 88 (0, 0)), blk g285 (.cells #[(.int .i64 0), (.int .i64 0), (.int .i64 0), (.int .i64 0)] 65 (0, 0)), blk t.2 (.cells #[(.int .i64 t.1.1), (.int .i64 t.1.2.1), (.int .i64 t.1.2.2.1), (.int .i64 t.1.2.2.2)] 65 (0, 0))] ∧ x333 = t.1) (fun Kx333 => ?_) ?_
  ·
    refine WC.regionD ([(1, ⟨g281, 0, none⟩, (.int .i64 p3.Write)), (5, ⟨g_p0, 0, none⟩, (.int .i64 p0.m.States)), (5, ⟨g_p0, 1, none⟩, (.int .i64 p0.m.Symbols)), (5, ⟨g_p0, 2, none⟩, (.slice A_p0_m_Actions p0.m.Actions.length c_p0_m_Actions))], [0, 1, 2, 3, 4, 5, 6, 7, 9], [[], [0], [], [2], [2, 3], [2, 3, 4], [], [], [2, 3, 4, 5, 6, 7], [0, 1, 2, 3, 4, 5, 6, 7, 8], [], [0, 1, 2, 3, 4, 5, 6, 7, 8, 9, 10]]) [[0, 1, 2, 3, 4, 5, 6, 7, 8, 9, 10, 11], [0, 1, 2, 3, 4, 5, 6, 7, 10, 8, 9, 11]] (by kernel_rfl) (by kernel_rfl) (NoPanic.seq (NoPanic.body)) ?_
    have hS336 := hS287.drew
    revert hS336
    generalize World.drew w286 = w335
    intro hS336
    refine ⟨⟨hS336.cell 1 rfl 0 rfl, blk_cell (hS336.rd 0).1 0 rfl, blk_cell (hS336.rd 0).1 1 rfl, blk_cell (hS336.rd 0).1 2 rfl, trivial⟩, forallC ?_ (forallC ?_ (forallN))⟩
    ·
      refine segF 8 [.v (.int .i64 p3.Write), .v (.int .i64 p0.m.States), .v (.int .i64 p0.m.Symbols), .v (.slice A_p0_m_Actions p0.m.Actions.length c_p0_m_Actions)] [0, 7, 8, 12, 16, 17, 18] [(0, (.pointer (some ⟨g_p0, 0, none⟩))), (7, (.pointer (some ⟨g281, 0, none⟩))), (8, (.pointer (some ⟨g285, 0, none⟩))), (12, (.int .i64 p3.Write)), (16, (.agg #[(.int .i64 p0.m.States), (.int .i64 p0.m.Symbols), (.slice A_p0_m_Actions p0.m.Actions.length c_p0_m_Actions)])), (17, (.int .i64 p1)), (18, (.int .i64 p2))] [] [0, 1, 2, 3] [(1, ⟨g281, 0, none⟩, (.int .i64 p3.Write)), (5, ⟨g_p0, 0, none⟩, (.int .i64 p0.m.States)), (5, ⟨g_p0, 1, none⟩, (.int .i64 p0.m.Symbols)), (5, ⟨g_p0, 2, none⟩, (.slice A_p0_m_Actions p0.m.Actions.length c_p0_m_Actions))] (fun fb => by kernel_rfl) rfl trivial rfl ?_
      obtain ⟨t337, ht338, hx334⟩ := bind_some hx334
      refine WL.call (some 19) 61 #[(.agg #[(.int .i64 p0.m.States), (.int .i64 p0.m.Symbols), (.slice A_p0_m_Actions p0.m.Actions.length c_p0_m_Actions)]), (.int .i64 p1), (.int .i64 p2)] (fun fb => by kernel_rfl) (machine_head_calls p0.m p1 p2 A_p0_m_Actions c_p0_m_Actions t337 _ (hS336.rd 1) ht338) (fun v w339 hR340 => ?_)
      obtain ⟨rfl, hk_⟩ := hR340
      have hS341 := hS336.keepN hk_
      refine ⟨⟨hS341.cell 1 rfl 0 rfl, trivial⟩, ?_⟩
      refine seg 10 [] [0, 7, 8, 20] [(0, (.pointer (some ⟨g_p0, 0, none⟩))), (7, (.pointer (some ⟨g281, 0, none⟩))), (8, (.pointer (some ⟨g285, 0, none⟩))), (20, (.agg #[(.int .i64 p3.Write), (.int .i64 0), (.int .i64 t337), (.int .i64 0)]))] [] (fun fb => by kernel_rfl) rfl trivial ?_
      refine WL.new hS341 9 [] (fun g => (.pointer (some ⟨g, 0, none⟩))) (.cells #[(.int .i64 0), (.int .i64 0), (.int .i64 0), (.int .i64 0)] 65 (0, 0)) [] (fun fb g => by kernel_rfl) trivial (fun g342 w343 hS344 => ?_)
      refine ⟨⟨hS344.cell 2 rfl 0 rfl, blk_cell (hS344.rd 0).1 0 rfl, blk_cell (hS344.rd 0).1 1 rfl, blk_cell (hS344.rd 0).1 2 rfl, trivial⟩, ?_⟩
      refine WL.store hS344 0 rfl [(0, (.int .i64 p3.Write)), (1, (.int .i64 0)), (2, (.int .i64 t337)), (3, (.int .i64 0))] #[(.int .i64 p3.Write), (.int .i64 0), (.int .i64 t337), (.int .i64 0)] (fun fb => by kernel_rfl) (by kernel_rfl) rfl [1, 2] (by decide) (by decide) (fun w346 hS347 => ?_)
      refine ⟨trivial, ?_⟩
      refine WL.done rfl ?_
      injection hx334 with hx334
      exact WX.to Kx333 ((p3.Write, 0, t337, 0), g342) [0, 7, 8, 9] rfl ⟨(hS347.subR [0, 1, 2, 3]).sub [2, 1, 0] (by decide), hx334.symm⟩
    refine segF 8 [.v (.int .i64 p3.Write), .v (.int .i64 p0.m.States), .v (.int .i64 p0.m.Symbols), .v (.slice A_p0_m_Actions p0.m.Actions.length c_p0_m_Actions)] [0, 7, 8, 12, 16, 17, 18] [(0, (.pointer (some ⟨g_p0, 0, none⟩))), (7, (.pointer (some ⟨g281, 0, none⟩))), (8, (.pointer (some ⟨g285, 0, none⟩))), (12, (.int .i64 p3.Write)), (16, (.agg #[(.int .i64 p0.m.States), (.int .i64 p0.m.Symbols), (.slice A_p0_m_Actions p0.m.Actions.length c_p0_m_Actions)])), (17, (.int .i64 p1)), (18, (.int .i64 p2))] [] [0, 1, 2, 3] [(1, ⟨g281, 0, none⟩, (.int .i64 p3.Write)), (5, ⟨g_p0, 0, none⟩, (.int .i64 p0.m.States)), (5, ⟨g_p0, 1, none⟩, (.int .i64 p0.m.Symbols)), (5, ⟨g_p0, 2, none⟩, (.slice A_p0_m_Actions p0.m.Actions.length c_p0_m_Actions))] (fun fb => by kernel_rfl) rfl trivial rfl ?_
    refine WL.new hS336 9 [] (fun g => (.pointer (some ⟨g, 0, none⟩))) (.cells #[(.int .i64 0), (.int .i64 0), (.int .i64 0), (.int .i64 0)] 65 (0, 0)) [] (fun fb g => by kernel_rfl) trivial (fun g348 w349 hS350 => ?_)
    refine ⟨⟨hS350.cell 2 rfl 0 rfl, blk_cell (hS350.rd 0).1 0 rfl, blk_cell (hS350.rd 0).1 1 rfl, blk_cell (hS350.rd 0).1 2 rfl, trivial⟩, ?_⟩
    obtain ⟨t352, ht353, hx334⟩ := bind_some hx334
    refine WL.call (some 19) 61 #[(.agg #[(.int .i64 p0.m.States), (.int .i64 p0.m.Symbols), (.slice A_p0_m_Actions p0.m.Actions.length c_p0_m_Actions)]), (.int .i64 p1), (.int .i64 p2)] (fun fb => by kernel_rfl) (machine_head_calls p0.m p1 p2 A_p0_m_Actions c_p0_m_Actions t352 _ (hS350.rd 1) ht353) (fun v w354 hR355 => ?_)
    obtain ⟨rfl, hk_⟩ := hR355
    have hS356 := hS350.keepN hk_
    refine ⟨⟨hS356.cell 2 rfl 0 rfl, trivial⟩, ?_⟩
    refine seg 11 [] [0, 7, 8, 9, 20] [(0, (.pointer (some ⟨g_p0, 0, none⟩))), (7, (.pointer (some ⟨g281, 0, none⟩))), (8, (.pointer (some ⟨g285, 0, none⟩))), (9, (.pointer (some ⟨g348, 0, none⟩))), (20, (.agg #[(.int .i64 p3.Write), (.int .i64 0), (.int .i64 t352), (.int .i64 0)]))] [] (fun fb => by kernel_rfl) rfl trivial ?_
    refine WL.store hS356 0 rfl [(0, (.int .i64 p3.Write)), (1, (.int .i64 0)), (2, (.int .i64 t352)), (3, (.int .i64 0))] #[(.int .i64 p3.Write), (.int .i64 0), (.int .i64 t352), (.int .i64 0)] (fun fb => by kernel_rfl) (by kernel_rfl) rfl [1, 2] (by decide) (by decide) (fun w357 hS358 => ?_)
    refine ⟨trivial, ?_⟩
    refine WL.done rfl ?_
    injection hx334 with hx334
    exact WX.to Kx333 ((p3.Write, 0, t352, 0), g348) [0, 7, 8, 9] rfl ⟨(hS358.subR [0, 1, 2, 3]).sub [2, 1, 0] (by decide), hx334.symm⟩
  rintro ⟨y362, g328⟩ w359 ⟨hS360, hq361⟩
  subst hq361
  refine WX.next ?_
  refine WC.seq ?_
  refine WC.region ?_
  refine seg 5 [.v (.int .i64 p3.Move)] [0, 7, 8, 9, 23, 25] [(0, (.pointer (some ⟨g_p0, 0, none⟩))), (7, (.pointer (some ⟨g281, 0, none⟩))), (8, (.pointer (some ⟨g285, 0, none⟩))), (9, (.pointer (some ⟨g328, 0, none⟩))), (23, (.agg #[(.pointer (some ⟨g328, 3, none⟩)), (.pointer (some ⟨g328, 1, none⟩))])), (25, (.int .i64 p3.Move))] [.cell ⟨g281, 1, none⟩ (.int .i64 p3.Move)] (fun fb => by kernel_rfl) rfl ⟨hS360.cell 0 rfl 1 rfl, trivial⟩ ?_
  rcases br_some hf with ⟨h363, hf⟩ | ⟨h363, hf⟩
  ·
    refine WL.setI 25 (eq_of_beq h363) rfl ?_
    refine seg 7 [] [0, 7, 8, 9, 10] [(0, (.pointer (some ⟨g_p0, 0, none⟩))), (7, (.pointer (some ⟨g281, 0, none⟩))), (8, (.pointer (some ⟨g285, 0, none⟩))), (9, (.pointer (some ⟨g328, 0, none⟩))), (10, (.pointer (some ⟨g328, 3, none⟩)))] [] (fun fb => by kernel_rfl) rfl trivial ?_
    refine WL.done rfl ?_
    refine WX.next ?_
    refine WC.seq ?_
    refine WC.region ?_
    refine seg 6 [.v (.int .i64 p3.Move), .v (.int .i64 p3.Next)] [8, 9, 27, 28, 30, 32] [(8, (.pointer (some ⟨g285, 0, none⟩))), (9, (.pointer (some ⟨g328, 0, none⟩))), (27, (.pointer (some ⟨g328, 3, none⟩))), (28, (.pointer (some ⟨g_p0, 0, none⟩))), (30, (.int .i64 p3.Move)), (32, (.int .i64 p3.Next))] [.cell ⟨g281, 1, none⟩ (.int .i64 p3.Move), .cell ⟨g281, 2, none⟩ (.int .i64 p3.Next)] (fun fb => by kernel_rfl) rfl ⟨hS360.cell 0 rfl 1 rfl, hS360.cell 0 rfl 2 rfl, trivial⟩ ?_
    obtain ⟨t365, ht366, hf⟩ := bind_some hf
    refine WL.call (some 33) 62 #[(.pointer (some ⟨g_p0, 0, none⟩)), (.int .i64 p3.Move), (.int .i64 p3.Next)] (fun fb => by kernel_rfl) (machine_kit_signal_calls p0 p3.Move p3.Next g_p0 A_p0_m_Actions c_p0_m_Actions A_p0_set c_p0_set A_p0_does c_p0_does t365 _ (hS360.rd 0) (hS360.rd 1) (hS360.rd 2) (hS360.rd 3) ht366) (fun v w367 hR368 => ?_)
    obtain ⟨rfl, hk_⟩ := hR368
    have hS369 := hS360.keepN hk_
    refine ⟨trivial, ?_⟩
    refine seg 8 [] [8, 9, 33, 34] [(8, (.pointer (some ⟨g285, 0, none⟩))), (9, (.pointer (some ⟨g328, 0, none⟩))), (33, (.int .i64 t365)), (34, (.pointer (some ⟨g328, 3, none⟩)))] [] (fun fb => by kernel_rfl) rfl trivial ?_
    refine WL.store hS369 2 rfl [(3, (.int .i64 t365))] #[(.int .i64 x333.1), (.int .i64 x333.2.1), (.int .i64 x333.2.2.1), (.int .i64 t365)] (fun fb => by kernel_rfl) (by kernel_rfl) rfl [0, 1] (by decide) (by decide) (fun w370 hS371 => ?_)
    refine ⟨trivial, ?_⟩
    refine WL.done rfl ?_
    refine WX.next ?_
    refine WC.seq ?_
    refine WC.region ?_
    refine seg 1 [.v (.int .i64 x333.1), .v (.int .i64 x333.2.1), .v (.int .i64 x333.2.2.1), .v (.int .i64 t365)] [8, 35] [(8, (.pointer (some ⟨g285, 0, none⟩))), (35, (.agg #[(.int .i64 x333.1), (.int .i64 x333.2.1), (.int .i64 x333.2.2.1), (.int .i64 t365)]))] [.cell ⟨g328, 0, none⟩ (.int .i64 x333.1), .cell ⟨g328, 1, none⟩ (.int .i64 x333.2.1), .cell ⟨g328, 2, none⟩ (.int .i64 x333.2.2.1), .cell ⟨g328, 3, none⟩ (.int .i64 t365)] (fun fb => by kernel_rfl) rfl ⟨hS371.cell 0 rfl 0 rfl, hS371.cell 0 rfl 1 rfl, hS371.cell 0 rfl 2 rfl, hS371.cell 0 rfl 3 rfl, trivial⟩ ?_
    refine WL.store hS371 2 rfl [(0, (.int .i64 x333.1)), (1, (.int .i64 x333.2.1)), (2, (.int .i64 x333.2.2.1)), (3, (.int .i64 t365))] #[(.int .i64 x333.1), (.int .i64 x333.2.1), (.int .i64 x333.2.2.1), (.int .i64 t365)] (fun fb => by kernel_rfl) (by kernel_rfl) rfl [0, 1] (by decide) (by decide) (fun w372 hS373 => ?_)
    refine ⟨trivial, ?_⟩
    refine WL.done rfl ?_
    refine WX.next ?_
    refine WC.ret ?_
    injection hf with hf
    subst hf
    exact WX.ret_ [.v (.int .i64 x333.1), .v (.int .i64 x333.2.1), .v (.int .i64 x333.2.2.1), .v (.int .i64 t365)] (.agg #[(.int .i64 x333.1), (.int .i64 x333.2.1), (.int .i64 x333.2.2.1), (.int .i64 t365)]) [.cell ⟨g285, 0, none⟩ (.int .i64 x333.1), .cell ⟨g285, 1, none⟩ (.int .i64 x333.2.1), .cell ⟨g285, 2, none⟩ (.int .i64 x333.2.2.1), .cell ⟨g285, 3, none⟩ (.int .i64 t365)] (fun fb => by kernel_rfl) ⟨hS373.cell 0 rfl 0 rfl, hS373.cell 0 rfl 1 rfl, hS373.cell 0 rfl 2 rfl, hS373.cell 0 rfl 3 rfl, trivial⟩ ⟨_, rfl, rfl, hS373.keep⟩
  rcases br_some hf with ⟨h374, hf⟩ | ⟨h374, hf⟩
  ·
    refine WL.setI 25 (eq_of_beq h374) rfl ?_
    refine seg 7 [] [0, 7, 8, 9, 10] [(0, (.pointer (some ⟨g_p0, 0, none⟩))), (7, (.pointer (some ⟨g281, 0, none⟩))), (8, (.pointer (some ⟨g285, 0, none⟩))), (9, (.pointer (some ⟨g328, 0, none⟩))), (10, (.pointer (some ⟨g328, 1, none⟩)))] [] (fun fb => by kernel_rfl) rfl trivial ?_
    refine WL.done rfl ?_
    refine WX.next ?_
    refine WC.seq ?_
    refine WC.region ?_
    refine seg 6 [.v (.int .i64 p3.Move), .v (.int .i64 p3.Next)] [8, 9, 27, 28, 30, 32] [(8, (.pointer (some ⟨g285, 0, none⟩))), (9, (.pointer (some ⟨g328, 0, none⟩))), (27, (.pointer (some ⟨g328, 1, none⟩))), (28, (.pointer (some ⟨g_p0, 0, none⟩))), (30, (.int .i64 p3.Move)), (32, (.int .i64 p3.Next))] [.cell ⟨g281, 1, none⟩ (.int .i64 p3.Move), .cell ⟨g281, 2, none⟩ (.int .i64 p3.Next)] (fun fb => by kernel_rfl) rfl ⟨hS360.cell 0 rfl 1 rfl, hS360.cell 0 rfl 2 rfl, trivial⟩ ?_
    obtain ⟨t375, ht376, hf⟩ := bind_some hf
    refine WL.call (some 33) 62 #[(.pointer (some ⟨g_p0, 0, none⟩)), (.int .i64 p3.Move), (.int .i64 p3.Next)] (fun fb => by kernel_rfl) (machine_kit_signal_calls p0 p3.Move p3.Next g_p0 A_p0_m_Actions c_p0_m_Actions A_p0_set c_p0_set A_p0_does c_p0_does t375 _ (hS360.rd 0) (hS360.rd 1) (hS360.rd 2) (hS360.rd 3) ht376) (fun v w377 hR378 => ?_)
    obtain ⟨rfl, hk_⟩ := hR378
    have hS379 := hS360.keepN hk_
    refine ⟨trivial, ?_⟩
    refine seg 8 [] [8, 9, 33, 34] [(8, (.pointer (some ⟨g285, 0, none⟩))), (9, (.pointer (some ⟨g328, 0, none⟩))), (33, (.int .i64 t375)), (34, (.pointer (some ⟨g328, 1, none⟩)))] [] (fun fb => by kernel_rfl) rfl trivial ?_
    refine WL.store hS379 2 rfl [(1, (.int .i64 t375))] #[(.int .i64 x333.1), (.int .i64 t375), (.int .i64 x333.2.2.1), (.int .i64 x333.2.2.2)] (fun fb => by kernel_rfl) (by kernel_rfl) rfl [0, 1] (by decide) (by decide) (fun w380 hS381 => ?_)
    refine ⟨trivial, ?_⟩
    refine WL.done rfl ?_
    refine WX.next ?_
    refine WC.seq ?_
    refine WC.region ?_
    refine seg 1 [.v (.int .i64 x333.1), .v (.int .i64 t375), .v (.int .i64 x333.2.2.1), .v (.int .i64 x333.2.2.2)] [8, 35] [(8, (.pointer (some ⟨g285, 0, none⟩))), (35, (.agg #[(.int .i64 x333.1), (.int .i64 t375), (.int .i64 x333.2.2.1), (.int .i64 x333.2.2.2)]))] [.cell ⟨g328, 0, none⟩ (.int .i64 x333.1), .cell ⟨g328, 1, none⟩ (.int .i64 t375), .cell ⟨g328, 2, none⟩ (.int .i64 x333.2.2.1), .cell ⟨g328, 3, none⟩ (.int .i64 x333.2.2.2)] (fun fb => by kernel_rfl) rfl ⟨hS381.cell 0 rfl 0 rfl, hS381.cell 0 rfl 1 rfl, hS381.cell 0 rfl 2 rfl, hS381.cell 0 rfl 3 rfl, trivial⟩ ?_
    refine WL.store hS381 2 rfl [(0, (.int .i64 x333.1)), (1, (.int .i64 t375)), (2, (.int .i64 x333.2.2.1)), (3, (.int .i64 x333.2.2.2))] #[(.int .i64 x333.1), (.int .i64 t375), (.int .i64 x333.2.2.1), (.int .i64 x333.2.2.2)] (fun fb => by kernel_rfl) (by kernel_rfl) rfl [0, 1] (by decide) (by decide) (fun w382 hS383 => ?_)
    refine ⟨trivial, ?_⟩
    refine WL.done rfl ?_
    refine WX.next ?_
    refine WC.ret ?_
    injection hf with hf
    subst hf
    exact WX.ret_ [.v (.int .i64 x333.1), .v (.int .i64 t375), .v (.int .i64 x333.2.2.1), .v (.int .i64 x333.2.2.2)] (.agg #[(.int .i64 x333.1), (.int .i64 t375), (.int .i64 x333.2.2.1), (.int .i64 x333.2.2.2)]) [.cell ⟨g285, 0, none⟩ (.int .i64 x333.1), .cell ⟨g285, 1, none⟩ (.int .i64 t375), .cell ⟨g285, 2, none⟩ (.int .i64 x333.2.2.1), .cell ⟨g285, 3, none⟩ (.int .i64 x333.2.2.2)] (fun fb => by kernel_rfl) ⟨hS383.cell 0 rfl 0 rfl, hS383.cell 0 rfl 1 rfl, hS383.cell 0 rfl 2 rfl, hS383.cell 0 rfl 3 rfl, trivial⟩ ⟨_, rfl, rfl, hS383.keep⟩
  cases hf
theorem machine_kitOf_calls (k : Nat) (p0 : Machine) (A_p0_Actions : Option Addr) (c_p0_Actions : Nat) (r : Kit) (w : World) (hR0 : RO NoS w (rowR enc_Action A_p0_Actions c_p0_Actions p0.Actions)) (hf : machine_kitOf k p0 = some r) :
    CallsR Try.prog 41 #[(.agg #[(.int .i64 p0.States), (.int .i64 p0.Symbols), (.slice A_p0_Actions p0.Actions.length c_p0_Actions)])] w (fun v w' => ∃ (g1_ : Nat), ∃ (A2_ : Option Addr), ∃ (c2_ : Nat), ∃ (A3_ : Option Addr), ∃ (c3_ : Nat), v = (.pointer (some ⟨g1_, 0, none⟩)) ∧ St NoS w w' [] [blk g1_ (.cells #[(.int .i64 r.m.States), (.int .i64 r.m.Symbols), (.slice A_p0_Actions p0.Actions.length c_p0_Actions), (.slice A2_ r.set.length c2_), (.slice A3_ r.does.length c3_), (.int .i64 r.base)] 96 (0, 0)), rowO 65 enc_Tile A2_ c2_ r.set, rowO 3 encInt A3_ c3_ r.does]) := by
  have hS : St NoS w w [rowR enc_Action A_p0_Actions c_p0_Actions p0.Actions] [] := St.init (ro_cons hR0 (ro_nil _ _))
  refine enter 134 Try.func41 rfl Try.ntmps41 rfl ?_
  unfold machine_kitOf at hf
  refine WC.seq ?_
  refine WC.region ?_
  refine WL.new hS 1 [] (fun g => (.pointer (some ⟨g, 0, none⟩))) (.cells #[(.int .i64 p0.States), (.int .i64 p0.Symbols), (.slice A_p0_Actions p0.Actions.length c_p0_Actions)] 24 (0, 0)) [] (fun fb g => by kernel_rfl) trivial (fun g159 w160 hS161 => ?_)
  refine ⟨trivial, ?_⟩
  refine seg 2 [] [1] [(1, (.pointer (some ⟨g159, 0, none⟩)))] [] (fun fb => by kernel_rfl) rfl trivial ?_
  refine WL.done rfl ?_
  refine WX.next ?_
  refine WC.seq ?_
  refine WC.region ?_
  refine seg 2 [.v (.int .i64 p0.States), .v (.int .i64 p0.Symbols), .v (.slice A_p0_Actions p0.Actions.length c_p0_Actions)] [1, 11] [(1, (.pointer (some ⟨g159, 0, none⟩))), (11, (.agg #[(.int .i64 p0.States), (.int .i64 p0.Symbols), (.slice A_p0_Actions p0.Actions.length c_p0_Actions), (.slice none 0 0), (.slice none 0 0), (.int .i64 0)]))] [.cell ⟨g159, 0, none⟩ (.int .i64 p0.States), .cell ⟨g159, 1, none⟩ (.int .i64 p0.Symbols), .cell ⟨g159, 2, none⟩ (.slice A_p0_Actions p0.Actions.length c_p0_Actions)] (fun fb => by kernel_rfl) rfl ⟨hS161.cell 0 rfl 0 rfl, hS161.cell 0 rfl 1 rfl, hS161.cell 0 rfl 2 rfl, trivial⟩ ?_
  refine WL.new hS161 12 [] (fun g => (.pointer (some ⟨g, 0, none⟩))) (.cells #[(.int .i64 p0.States), (.int .i64 p0.Symbols), (.slice A_p0_Actions p0.Actions.length c_p0_Actions), (.slice none 0 0), (.slice none 0 0), (.int .i64 0)] 96 (0, 0)) [] (fun fb g => by kernel_rfl) trivial (fun g163 w164 hS165 => ?_)
  refine ⟨trivial, ?_⟩
  refine seg 4 [] [1, 3] [(1, (.pointer (some ⟨g159, 0, none⟩))), (3, (.pointer (some ⟨g163, 0, none⟩)))] [] (fun fb => by kernel_rfl) rfl trivial ?_
  refine WL.done rfl ?_
  refine WX.next ?_
  refine WC.seq ?_
  refine WC.seq ?_
  refine WC.region ?_
  refine seg 3 [.v (.int .i64 p0.Symbols)] [1, 3, 14, 15] [(1, (.pointer (some ⟨g159, 0, none⟩))), (3, (.pointer (some ⟨g163, 0, none⟩))), (14, (.int .i64 p0.Symbols)), (15, (.int .i64 0))] [.cell ⟨g159, 1, none⟩ (.int .i64 p0.Symbols)] (fun fb => by kernel_rfl) rfl ⟨hS165.cell 1 rfl 1 rfl, trivial⟩ ?_
  refine WL.done rfl ?_
  refine WX.next ?_
  have hS199 := hS165.nilrow 65 enc_Tile
  obtain ⟨x207, hx208, hf⟩ := bind_some hf
  refine WC.cutN (T := (List Tile) × (Option Addr) × Nat) (fun t => [(1, (.pointer (some ⟨g159, 0, none⟩))), (3, (.pointer (some ⟨g163, 0, none⟩)))]) (fun t w1 => St NoS w w1 [rowR enc_Action A_p0_Actions c_p0_Actions p0.Actions] [blk g159 (.cells #[(.int .i64 p0.States), (.int .i64 p0.Symbols), (.slice A_p0_Actions p0.Actions.length c_p0_Actions)] 24 (0, 0)), blk g163 (.cells #[(.int .i64 p0.States), (.int .i64 p0.Symbols), (.slice A_p0_Actions p0.Actions.length c_p0_Actions), (.slice t.2.1 t.1.length t.2.2), (.slice none 0 0), (.int .i64 0)] 96 (0, 0)), rowO 65 enc_Tile t.2.1 t.2.2 t.1] ∧ x207 = t.1) (fun Kx207 => ?_) ?_
  ·
    refine WC.block ?_
    refine WC.loop (T := ((List Tile) × Int) × (Option Addr) × Nat) (fun t => [(1, (.pointer (some ⟨g159, 0, none⟩))), (3, (.pointer (some ⟨g163, 0, none⟩))), (14, (.int .i64 p0.Symbols)), (15, (.int .i64 t.1.2))]) (fun n t w1 => St NoS w w1 [rowR enc_Action A_p0_Actions c_p0_Actions p0.Actions] [blk g159 (.cells #[(.int .i64 p0.States), (.int .i64 p0.Symbols), (.slice A_p0_Actions p0.Actions.length c_p0_Actions)] 24 (0, 0)), blk g163 (.cells #[(.int .i64 p0.States), (.int .i64 p0.Symbols), (.slice A_p0_Actions p0.Actions.length c_p0_Actions), (.slice t.2.1 t.1.1.length t.2.2), (.slice none 0 0), (.int .i64 0)] 96 (0, 0)), rowO 65 enc_Tile t.2.1 t.2.2 t.1.1] ∧ machine_kitOf.l0 n t.1.1 t.1.2 p0 = some x207) k ((([] : List Tile), 0), none, 0) [1, 3, 14, 15] rfl ⟨(hS199.subR [0]).sub [2, 1, 0] (by decide), hx208⟩ ?_
    rintro k209 ⟨⟨l202, x203⟩, A200, c201⟩ w210 ⟨hS211, hl212⟩
    cases k209 with
    | zero => rw [machine_kitOf.l0] at hl212; cases hl212
    | succ k209 =>
      rw [machine_kitOf.l0] at hl212
      refine WC.seq ?_
      refine WC.region ?_
      refine seg 1 [] [1, 3, 14, 15, 16] [(1, (.pointer (some ⟨g159, 0, none⟩))), (3, (.pointer (some ⟨g163, 0, none⟩))), (14, (.int .i64 p0.Symbols)), (15, (.int .i64 x203)), (16, (.bool (decide (x203 < p0.Symbols))))] [] (fun fb => by kernel_rfl) rfl trivial ?_
      refine WL.done rfl ?_
      refine WX.next ?_
      refine WC.seq ?_
      rcases br_some hl212 with ⟨h213, hl212⟩ | ⟨h213, hl212⟩
      · refine WC.condT2 (fun fb => by kernel_rfl) h213 ?_
        refine WC.skip ?_
        refine WX.next ?_
        refine WC.seq ?_
        refine WC.block ?_
        refine WC.seq ?_
        refine WC.region ?_
        refine seg 2 [] [1, 3, 4, 14, 15] [(1, (.pointer (some ⟨g159, 0, none⟩))), (3, (.pointer (some ⟨g163, 0, none⟩))), (4, (.int .i64 x203)), (14, (.int .i64 p0.Symbols)), (15, (.int .i64 x203))] [] (fun fb => by kernel_rfl) rfl trivial ?_
        refine WL.done rfl ?_
        refine WX.next ?_
        refine WC.region ?_
        refine seg 8 [.v (.slice A200 l202.length c201)] [1, 3, 14, 15, 18, 22, 25] [(1, (.pointer (some ⟨g159, 0, none⟩))), (3, (.pointer (some ⟨g163, 0, none⟩))), (14, (.int .i64 p0.Symbols)), (15, (.int .i64 x203)), (18, (.pointer (some ⟨g163, 0, none⟩))), (22, (.slice A200 l202.length c201)), (25, (.agg #[(.int .i64 x203), (.int .i64 0), (.int .i64 x203), (.int .i64 0)]))] [.cell ⟨g163, 3, none⟩ (.slice A200 l202.length c201)] (fun fb => by kernel_rfl) rfl ⟨hS211.cell 1 rfl 3 rfl, trivial⟩ ?_
        refine WL.new hS211 26 [] (fun g => (.slice (some ⟨g, 0, none⟩) 1 1)) (.cells #[(.int .i64 x203), (.int .i64 0), (.int .i64 x203), (.int .i64 0)] 65 (0, 0)) [] (fun fb g => by kernel_rfl) trivial (fun g214 w215 hS216 => ?_)
        refine ⟨trivial, ?_⟩
        have hS218 : St NoS w w215 [rowR enc_Action A_p0_Actions c_p0_Actions p0.Actions] [rowO 65 enc_Tile (some ⟨g214, 0, none⟩) 1 [(Tile.mk x203 0 x203 0)], blk g159 (.cells #[(.int .i64 p0.States), (.int .i64 p0.Symbols), (.slice A_p0_Actions p0.Actions.length c_p0_Actions)] 24 (0, 0)), blk g163 (.cells #[(.int .i64 p0.States), (.int .i64 p0.Symbols), (.slice A_p0_Actions p0.Actions.length c_p0_Actions), (.slice A200 l202.length c201), (.slice none 0 0), (.int .i64 0)] 96 (0, 0)), rowO 65 enc_Tile A200 c201 l202] := hS216.map1 0 _ (fun h => rowO.ofBlk h rfl (Nat.le_of_ble_eq_true (by kernel_rfl))) (fun _ h => by obtain ⟨_, h1, h2⟩ := h; injection h1 with h1; subst h1; exact h2) [1, 2, 3] (by decide) (by decide)
        obtain ⟨h219, hl212⟩ := as_some hl212
        refine WL.append hS218 3 (d := 27) (tS := 50) (z := (.agg #[(.int .i64 0), (.int .i64 0), (.int .i64 0), (.int .i64 0)])) (bytes := 32) (c2 := 1) rfl (fun fb => by kernel_rfl) (rowO.rd (hS218.own 0).1) (by kernel_rfl) (by kernel_rfl) rfl (by decide) h219 (by decide) [0, 1, 2] (by decide) (by decide) (fun A220 c221 w222 hS223 => ?_)
        refine ⟨trivial, ?_⟩
        refine seg 12 [] [1, 3, 14, 15, 27, 29] [(1, (.pointer (some ⟨g159, 0, none⟩))), (3, (.pointer (some ⟨g163, 0, none⟩))), (14, (.int .i64 p0.Symbols)), (15, (.int .i64 x203)), (27, (.slice A220 (l202 ++ [(Tile.mk x203 0 x203 0)]).length c221)), (29, (.pointer (some ⟨g163, 3, none⟩)))] [] (fun fb => by kernel_rfl) rfl trivial ?_
        refine WL.store hS223 3 rfl [(3, (.slice A220 (l202 ++ [(Tile.mk x203 0 x203 0)]).length c221))] #[(.int .i64 p0.States), (.int .i64 p0.Symbols), (.slice A_p0_Actions p0.Actions.length c_p0_Actions), (.slice A220 (l202 ++ [(Tile.mk x203 0 x203 0)]).length c221), (.slice none 0 0), (.int .i64 0)] (fun fb => by kernel_rfl) (by kernel_rfl) rfl [0, 1, 2] (by decide) (by decide) (fun w224 hS225 => ?_)
        refine ⟨trivial, ?_⟩
        refine WL.done rfl ?_
        refine WX.blockN (WX.next ?_)
        refine WC.region ?_
        refine seg 2 [] [1, 3, 14, 15] [(1, (.pointer (some ⟨g159, 0, none⟩))), (3, (.pointer (some ⟨g163, 0, none⟩))), (14, (.int .i64 p0.Symbols)), (15, (.int .i64 (w64 (x203 + 1))))] [] (fun fb => by kernel_rfl) rfl trivial ?_
        refine WL.done rfl ?_
        exact WX.again k209 (Nat.lt_succ_self _) ((l202 ++ [(Tile.mk x203 0 x203 0)], w64 (x203 + 1)), A220, c221) [1, 3, 14, 15] rfl ⟨(hS225.subR [0]).sub [3, 0, 1] (by decide), hl212⟩
      refine WC.condF2 (fun fb => by kernel_rfl) h213 ?_
      refine WC.exit ?_
      injection hl212 with hl212
      exact WX.thenX (WX.thenX (WX.blockHere (WX.to Kx207 (l202, A200, c201) [1, 3] rfl ⟨(hS211.subR [0]).sub [0, 1, 2] (by decide), hl212.symm⟩)))
  rintro ⟨y229, A204, c205⟩ w226 ⟨hS227, hq228⟩
  subst hq228
  refine WX.next ?_
  refine WC.seq ?_
  refine WC.seq ?_
  refine WC.region ?_
  refine seg 4 [.v (.slice A_p0_Actions p0.Actions.length c_p0_Actions)] [1, 3, 32, 33, 34] [(1, (.pointer (some ⟨g159, 0, none⟩))), (3, (.pointer (some ⟨g163, 0, none⟩))), (32, (.slice A_p0_Actions p0.Actions.length c_p0_Actions)), (33, (.int .i64 (p0.Actions.length : Int))), (34, (.int .i64 0))] [.cell ⟨g159, 2, none⟩ (.slice A_p0_Actions p0.Actions.length c_p0_Actions)] (fun fb => by kernel_rfl) rfl ⟨hS227.cell 0 rfl 2 rfl, trivial⟩ ?_
  refine WL.done rfl ?_
  refine WX.next ?_
  have hS713 := hS227.nilrow 3 encInt
  obtain ⟨x727, hx728, hf⟩ := bind_some hf
  refine WC.cutN (T := ((List Tile) × (List Int)) × (Option Addr) × Nat × (Option Addr) × Nat) (fun t => [(1, (.pointer (some ⟨g159, 0, none⟩))), (3, (.pointer (some ⟨g163, 0, none⟩)))]) (fun t w1 => St NoS w w1 [rowR enc_Action A_p0_Actions c_p0_Actions p0.Actions] [blk g159 (.cells #[(.int .i64 p0.States), (.int .i64 p0.Symbols), (.slice A_p0_Actions p0.Actions.length c_p0_Actions)] 24 (0, 0)), blk g163 (.cells #[(.int .i64 p0.States), (.int .i64 p0.Symbols), (.slice A_p0_Actions p0.Actions.length c_p0_Actions), (.slice t.2.1 t.1.1.length t.2.2.1), (.slice t.2.2.2.1 t.1.2.length t.2.2.2.2), (.int .i64 0)] 96 (0, 0)), rowO 65 enc_Tile t.2.1 t.2.2.1 t.1.1, rowO 3 encInt t.2.2.2.1 t.2.2.2.2 t.1.2] ∧ x727 = t.1) (fun Kx727 => ?_) ?_
  ·
    refine WC.block ?_
    refine WC.loop (T := ((List Tile) × (List Int) × Int) × (Option Addr) × Nat × (Option Addr) × Nat) (fun t => [(1, (.pointer (some ⟨g159, 0, none⟩))), (3, (.pointer (some ⟨g163, 0, none⟩))), (32, (.slice A_p0_Actions p0.Actions.length c_p0_Actions)), (33, (.int .i64 (p0.Actions.length : Int))), (34, (.int .i64 t.1.2.2))]) (fun n t w1 => St NoS w w1 [rowR enc_Action A_p0_Actions c_p0_Actions p0.Actions] [blk g159 (.cells #[(.int .i64 p0.States), (.int .i64 p0.Symbols), (.slice A_p0_Actions p0.Actions.length c_p0_Actions)] 24 (0, 0)), blk g163 (.cells #[(.int .i64 p0.States), (.int .i64 p0.Symbols), (.slice A_p0_Actions p0.Actions.length c_p0_Actions), (.slice t.2.1 t.1.1.length t.2.2.1), (.slice t.2.2.2.1 t.1.2.1.length t.2.2.2.2), (.int .i64 0)] 96 (0, 0)), rowO 65 enc_Tile t.2.1 t.2.2.1 t.1.1, rowO 3 encInt t.2.2.2.1 t.2.2.2.2 t.1.2.1] ∧ machine_kitOf.l1 n t.1.1 t.1.2.1 t.1.2.2 p0 = some x727) k ((x207, ([] : List Int), 0), A204, c205, none, 0) [1, 3, 32, 33, 34] rfl ⟨(hS713.subR [0]).sub [1, 2, 3, 0] (by decide), hx728⟩ ?_
    rintro k729 ⟨⟨l716, l719, x720⟩, A714, c715, A717, c718⟩ w730 ⟨hS731, hl732⟩
    cases k729 with
    | zero => rw [machine_kitOf.l1] at hl732; cases hl732
    | succ k729 =>
      rw [machine_kitOf.l1] at hl732
      refine WC.seq ?_
      refine WC.region ?_
      refine seg 1 [] [1, 3, 32, 33, 34, 35] [(1, (.pointer (some ⟨g159, 0, none⟩))), (3, (.pointer (some ⟨g163, 0, none⟩))), (32, (.slice A_p0_Actions p0.Actions.length c_p0_Actions)), (33, (.int .i64 (p0.Actions.length : Int))), (34, (.int .i64 x720)), (35, (.bool (decide (x720 < (p0.Actions.length : Int)))))] [] (fun fb => by kernel_rfl) rfl trivial ?_
      refine WL.done rfl ?_
      refine WX.next ?_
      refine WC.seq ?_
      rcases br_some hl732 with ⟨h733, hl732⟩ | ⟨h733, hl732⟩
      · refine WC.condT2 (fun fb => by kernel_rfl) h733 ?_
        refine WC.skip ?_
        refine WX.next ?_
        refine WC.seq ?_
        obtain ⟨x825, hx826, hl732⟩ := bind_some hl732
        refine WC.cutN (T := ((List Tile) × (List Int)) × (Option Addr) × Nat × (Option Addr) × Nat) (fun t => [(1, (.pointer (some ⟨g159, 0, none⟩))), (3, (.pointer (some ⟨g163, 0, none⟩))), (32, (.slice A_p0_Actions p0.Actions.length c_p0_Actions)), (33, (.int .i64 (p0.Actions.length : Int))), (34, (.int .i64 x720))]) (fun t w1 => St NoS w w1 [rowR enc_Action A_p0_Actions c_p0_Actions p0.Actions] [blk g159 (.cells #[(.int .i64 p0.States), (.int .i64 p0.Symbols), (.slice A_p0_Actions p0.Actions.length c_p0_Actions)] 24 (0, 0)), blk g163 (.cells #[(.int .i64 p0.States), (.int .i64 p0.Symbols), (.slice A_p0_Actions p0.Actions.length c_p0_Actions), (.slice t.2.1 t.1.1.length t.2.2.1), (.slice t.2.2.2.1 t.1.2.length t.2.2.2.2), (.int .i64 0)] 96 (0, 0)), rowO 65 enc_Tile t.2.1 t.2.2.1 t.1.1, rowO 3 encInt t.2.2.2.1 t.2.2.2.2 t.1.2] ∧ x825 = t.1) (fun Kx825 => ?_) ?_
        ·
          refine WC.block ?_
          refine WC.seq ?_
          refine WC.region ?_
          refine seg 1 [] [1, 3, 32, 33, 34, 36] [(1, (.pointer (some ⟨g159, 0, none⟩))), (3, (.pointer (some ⟨g163, 0, none⟩))), (32, (.slice A_p0_Actions p0.Actions.length c_p0_Actions)), (33, (.int .i64 (p0.Actions.length : Int))), (34, (.int .i64 x720)), (36, (.int .i64 x720))] [] (fun fb => by kernel_rfl) rfl trivial ?_
          obtain ⟨h827, hx826⟩ := as_some hx826
          refine seg 3 [.v (.int .i64 ((rdD p0.Actions x720 z_Action).Write)), .v (.int .i64 ((rdD p0.Actions x720 z_Action).Move)), .v (.int .i64 ((rdD p0.Actions x720 z_Action).Next))] [1, 3, 32, 33, 34, 36, 38] [(1, (.pointer (some ⟨g159, 0, none⟩))), (3, (.pointer (some ⟨g163, 0, none⟩))), (32, (.slice A_p0_Actions p0.Actions.length c_p0_Actions)), (33, (.int .i64 (p0.Actions.length : Int))), (34, (.int .i64 x720)), (36, (.int .i64 x720)), (38, (.agg #[(.int .i64 ((rdD p0.Actions x720 z_Action).Write)), (.int .i64 ((rdD p0.Actions x720 z_Action).Move)), (.int .i64 ((rdD p0.Actions x720 z_Action).Next))]))] [.idx A_p0_Actions x720 p0.Actions.length, .cell ((adr A_p0_Actions).add ((x720).toNat * 3)) (.int .i64 ((rdD p0.Actions x720 z_Action).Write)), .cell (((adr A_p0_Actions).add ((x720).toNat * 3)).add 1) (.int .i64 ((rdD p0.Actions x720 z_Action).Move)), .cell (((adr A_p0_Actions).add ((x720).toNat * 3)).add 2) (.int .i64 ((rdD p0.Actions x720 z_Action).Next))] (fun fb => by kernel_rfl) rfl ⟨rowR.adr (hS731.rd 0).1 h827.1 h827.2, rowR.cell (hS731.rd 0).1 z_Action h827.1 h827.2 0 rfl, rowR.cell (hS731.rd 0).1 z_Action h827.1 h827.2 1 rfl, rowR.cell (hS731.rd 0).1 z_Action h827.1 h827.2 2 rfl, trivial⟩ ?_
          refine WL.new hS731 6 [] (fun g => (.pointer (some ⟨g, 0, none⟩))) (.cells #[(.int .i64 0), (.int .i64 0), (.int .i64 0)] 88 (0, 0)) [] (fun fb g => by kernel_rfl) trivial (fun g828 w829 hS830 => ?_)
          refine ⟨trivial, ?_⟩
          refine seg 5 [] [1, 3, 5, 6, 32, 33, 34, 38] [(1, (.pointer (some ⟨g159, 0, none⟩))), (3, (.pointer (some ⟨g163, 0, none⟩))), (5, (.int .i64 x720)), (6, (.pointer (some ⟨g828, 0, none⟩))), (32, (.slice A_p0_Actions p0.Actions.length c_p0_Actions)), (33, (.int .i64 (p0.Actions.length : Int))), (34, (.int .i64 x720)), (38, (.agg #[(.int .i64 ((rdD p0.Actions x720 z_Action).Write)), (.int .i64 ((rdD p0.Actions x720 z_Action).Move)), (.int .i64 ((rdD p0.Actions x720 z_Action).Next))]))] [] (fun fb => by kernel_rfl) rfl trivial ?_
          refine WL.store hS830 0 rfl [(0, (.int .i64 ((rdD p0.Actions x720 z_Action).Write))), (1, (.int .i64 ((rdD p0.Actions x720 z_Action).Move))), (2, (.int .i64 ((rdD p0.Actions x720 z_Action).Next)))] #[(.int .i64 ((rdD p0.Actions x720 z_Action).Write)), (.int .i64 ((rdD p0.Actions x720 z_Action).Move)), (.int .i64 ((rdD p0.Actions x720 z_Action).Next))] (fun fb => by kernel_rfl) (by kernel_rfl) rfl [1, 2, 3, 4] (by decide) (by decide) (fun w832 hS833 => ?_)
          refine ⟨trivial, ?_⟩
          refine WL.done rfl ?_
          refine WX.next ?_
          refine WC.seq ?_
          refine WC.seq ?_
          refine WC.region ?_
          refine seg 5 [.v (.int .i64 ((rdD p0.Actions x720 z_Action).Next)), .v (.int .i64 p0.States)] [1, 3, 5, 6, 32, 33, 34, 43] [(1, (.pointer (some ⟨g159, 0, none⟩))), (3, (.pointer (some ⟨g163, 0, none⟩))), (5, (.int .i64 x720)), (6, (.pointer (some ⟨g828, 0, none⟩))), (32, (.slice A_p0_Actions p0.Actions.length c_p0_Actions)), (33, (.int .i64 (p0.Actions.length : Int))), (34, (.int .i64 x720)), (43, (.bool (((rdD p0.Actions x720 z_Action).Next) == p0.States)))] [.cell ⟨g828, 2, none⟩ (.int .i64 ((rdD p0.Actions x720 z_Action).Next)), .cell ⟨g159, 0, none⟩ (.int .i64 p0.States)] (fun fb => by kernel_rfl) rfl ⟨hS833.cell 0 rfl 2 rfl, hS833.cell 1 rfl 0 rfl, trivial⟩ ?_
          refine WL.done rfl ?_
          refine WX.next ?_
          rcases br_some hx826 with ⟨h834, hx826⟩ | ⟨h834, hx826⟩
          · refine WC.condT2 (fun fb => by kernel_rfl) h834 ?_
            refine WC.seq ?_
            refine WC.region ?_
            refine seg 5 [.v (.slice A717 l719.length c718)] [1, 3, 32, 33, 34, 44, 48] [(1, (.pointer (some ⟨g159, 0, none⟩))), (3, (.pointer (some ⟨g163, 0, none⟩))), (32, (.slice A_p0_Actions p0.Actions.length c_p0_Actions)), (33, (.int .i64 (p0.Actions.length : Int))), (34, (.int .i64 x720)), (44, (.pointer (some ⟨g163, 0, none⟩))), (48, (.slice A717 l719.length c718))] [.cell ⟨g163, 4, none⟩ (.slice A717 l719.length c718)] (fun fb => by kernel_rfl) rfl ⟨hS833.cell 2 rfl 4 rfl, trivial⟩ ?_
            refine WL.new hS833 49 [] (fun g => (.slice (some ⟨g, 0, none⟩) 1 1)) (.cells #[(.int .i64 (-1))] 3 (0, 0)) [] (fun fb g => by kernel_rfl) trivial (fun g835 w836 hS837 => ?_)
            refine ⟨trivial, ?_⟩
            have hS839 : St NoS w w836 [rowR enc_Action A_p0_Actions c_p0_Actions p0.Actions] [rowO 3 encInt (some ⟨g835, 0, none⟩) 1 [(-1)], blk g828 (.cells #[(.int .i64 ((rdD p0.Actions x720 z_Action).Write)), (.int .i64 ((rdD p0.Actions x720 z_Action).Move)), (.int .i64 ((rdD p0.Actions x720 z_Action).Next))] 88 (0, 0)), blk g159 (.cells #[(.int .i64 p0.States), (.int .i64 p0.Symbols), (.slice A_p0_Actions p0.Actions.length c_p0_Actions)] 24 (0, 0)), blk g163 (.cells #[(.int .i64 p0.States), (.int .i64 p0.Symbols), (.slice A_p0_Actions p0.Actions.length c_p0_Actions), (.slice A714 l716.length c715), (.slice A717 l719.length c718), (.int .i64 0)] 96 (0, 0)), rowO 65 enc_Tile A714 c715 l716, rowO 3 encInt A717 c718 l719] := hS837.map1 0 _ (fun h => rowO.ofBlk h rfl (Nat.le_of_ble_eq_true (by kernel_rfl))) (fun _ h => by obtain ⟨_, h1, h2⟩ := h; injection h1 with h1; subst h1; exact h2) [1, 2, 3, 4, 5] (by decide) (by decide)
            obtain ⟨h840, hx826⟩ := as_some hx826
            refine WL.append hS839 5 (d := 50) (tS := 25) (z := (.int .i64 0)) (bytes := 8) (c2 := 1) rfl (fun fb => by kernel_rfl) (rowO.rd (hS839.own 0).1) (by kernel_rfl) (by kernel_rfl) rfl (by decide) h840 (by decide) [0, 1, 2, 3, 4] (by decide) (by decide) (fun A841 c842 w843 hS844 => ?_)
            refine ⟨trivial, ?_⟩
            refine seg 9 [] [1, 3, 32, 33, 34, 50, 52] [(1, (.pointer (some ⟨g159, 0, none⟩))), (3, (.pointer (some ⟨g163, 0, none⟩))), (32, (.slice A_p0_Actions p0.Actions.length c_p0_Actions)), (33, (.int .i64 (p0.Actions.length : Int))), (34, (.int .i64 x720)), (50, (.slice A841 (l719 ++ [(-1)]).length c842)), (52, (.pointer (some ⟨g163, 4, none⟩)))] [] (fun fb => by kernel_rfl) rfl trivial ?_
            refine WL.store hS844 4 rfl [(4, (.slice A841 (l719 ++ [(-1)]).length c842))] #[(.int .i64 p0.States), (.int .i64 p0.Symbols), (.slice A_p0_Actions p0.Actions.length c_p0_Actions), (.slice A714 l716.length c715), (.slice A841 (l719 ++ [(-1)]).length c842), (.int .i64 0)] (fun fb => by kernel_rfl) (by kernel_rfl) rfl [0, 1, 2, 3, 5] (by decide) (by decide) (fun w845 hS846 => ?_)
            refine ⟨trivial, ?_⟩
            refine WL.done rfl ?_
            refine WX.next ?_
            refine WC.exit ?_
            injection hx826 with hx826
            exact WX.thenX (WX.blockHere (WX.to Kx825 ((l716, l719 ++ [(-1)]), A714, c715, A841, c842) [1, 3, 32, 33, 34] rfl ⟨(hS846.subR [0]).sub [4, 0, 5, 1] (by decide), hx826.symm⟩))
          refine WC.condF2 (fun fb => by kernel_rfl) h834 ?_
          refine WC.skip ?_
          refine WX.next ?_
          refine WC.seq ?_
          refine WC.regionD ([(4, ⟨g163, 4, none⟩, (.slice A717 l719.length c718)), (8, ⟨g163, 3, none⟩, (.slice A714 l716.length c715))], [0, 1, 2, 3, 4, 5, 6, 7, 8, 9, 12, 13], [[], [], [1], [1, 2], [1, 2, 3], [], [5], [5, 6], [5, 6, 7], [5, 6, 7, 8], [5, 6, 7, 8, 9], [1, 2, 3, 4, 5, 6, 7, 8, 9, 10], [0, 1, 2, 3, 4, 5, 6, 7, 8, 9, 10, 11], [0, 1, 2, 3, 4, 5, 6, 7, 8, 9, 10, 11, 12], [0, 1, 2, 3, 4, 5, 6, 7, 8, 9, 10, 11, 12, 13]]) [[0, 1, 2, 3, 4, 5, 6, 7, 8, 9, 10, 11, 12, 13, 14]] (by kernel_rfl) (by kernel_rfl) (NoPanic.seq (NoPanic.block (NoPanic.seq (NoPanic.seq (NoPanic.block (NoPanic.seq (NoPanic.body))))))) ?_
          have hS860 := hS833.drew
          revert hS860
          generalize World.drew w832 = w859
          intro hS860
          refine ⟨⟨hS860.cell 2 rfl 4 rfl, hS860.cell 2 rfl 3 rfl, trivial⟩, forallC ?_ (forallN)⟩
          refine segF 10 [.v (.slice A717 l719.length c718), .v (.slice A714 l716.length c715)] [1, 3, 5, 6, 32, 33, 34, 53, 57, 62] [(1, (.pointer (some ⟨g159, 0, none⟩))), (3, (.pointer (some ⟨g163, 0, none⟩))), (5, (.int .i64 x720)), (6, (.pointer (some ⟨g828, 0, none⟩))), (32, (.slice A_p0_Actions p0.Actions.length c_p0_Actions)), (33, (.int .i64 (p0.Actions.length : Int))), (34, (.int .i64 x720)), (53, (.pointer (some ⟨g163, 0, none⟩))), (57, (.slice A717 l719.length c718)), (62, (.int .i64 (l716.length : Int)))] [] [0, 1] [(4, ⟨g163, 4, none⟩, (.slice A717 l719.length c718)), (8, ⟨g163, 3, none⟩, (.slice A714 l716.length c715))] (fun fb => by kernel_rfl) rfl trivial rfl ?_
          refine WL.new hS860 63 [] (fun g => (.slice (some ⟨g, 0, none⟩) 1 1)) (.cells #[(.int .i64 (l716.length : Int))] 3 (0, 0)) [] (fun fb g => by kernel_rfl) trivial (fun g861 w862 hS863 => ?_)
          refine ⟨⟨hS863.cell 3 rfl 4 rfl, trivial⟩, ?_⟩
          have hS865 : St NoS w w862 [rowR enc_Action A_p0_Actions c_p0_Actions p0.Actions] [rowO 3 encInt (some ⟨g861, 0, none⟩) 1 [(l716.length : Int)], blk g828 (.cells #[(.int .i64 ((rdD p0.Actions x720 z_Action).Write)), (.int .i64 ((rdD p0.Actions x720 z_Action).Move)), (.int .i64 ((rdD p0.Actions x720 z_Action).Next))] 88 (0, 0)), blk g159 (.cells #[(.int .i64 p0.States), (.int .i64 p0.Symbols), (.slice A_p0_Actions p0.Actions.length c_p0_Actions)] 24 (0, 0)), blk g163 (.cells #[(.int .i64 p0.States), (.int .i64 p0.Symbols), (.slice A_p0_Actions p0.Actions.length c_p0_Actions), (.slice A714 l716.length c715), (.slice A717 l719.length c718), (.int .i64 0)] 96 (0, 0)), rowO 65 enc_Tile A714 c715 l716, rowO 3 encInt A717 c718 l719] := hS863.map1 0 _ (fun h => rowO.ofBlk h rfl (Nat.le_of_ble_eq_true (by kernel_rfl))) (fun _ h => by obtain ⟨_, h1, h2⟩ := h; injection h1 with h1; subst h1; exact h2) [1, 2, 3, 4, 5] (by decide) (by decide)
          obtain ⟨h866, hx826⟩ := as_some hx826
          refine WL.append hS865 5 (d := 64) (tS := 25) (z := (.int .i64 0)) (bytes := 8) (c2 := 1) rfl (fun fb => by kernel_rfl) (rowO.rd (hS865.own 0).1) (by kernel_rfl) (by kernel_rfl) rfl (by decide) h866 (by decide) [0, 1, 2, 3, 4] (by decide) (by decide) (fun A867 c868 w869 hS870 => ?_)
          refine ⟨trivial, ?_⟩
          refine seg 14 [] [1, 3, 5, 6, 32, 33, 34, 64, 66] [(1, (.pointer (some ⟨g159, 0, none⟩))), (3, (.pointer (some ⟨g163, 0, none⟩))), (5, (.int .i64 x720)), (6, (.pointer (some ⟨g828, 0, none⟩))), (32, (.slice A_p0_Actions p0.Actions.length c_p0_Actions)), (33, (.int .i64 (p0.Actions.length : Int))), (34, (.int .i64 x720)), (64, (.slice A867 (l719 ++ [(l716.length : Int)]).length c868)), (66, (.pointer (some ⟨g163, 4, none⟩)))] [] (fun fb => by kernel_rfl) rfl trivial ?_
          refine WL.store hS870 4 rfl [(4, (.slice A867 (l719 ++ [(l716.length : Int)]).length c868))] #[(.int .i64 p0.States), (.int .i64 p0.Symbols), (.slice A_p0_Actions p0.Actions.length c_p0_Actions), (.slice A714 l716.length c715), (.slice A867 (l719 ++ [(l716.length : Int)]).length c868), (.int .i64 0)] (fun fb => by kernel_rfl) (by kernel_rfl) rfl [0, 1, 2, 3, 5] (by decide) (by decide) (fun w871 hS872 => ?_)
          refine ⟨trivial, ?_⟩
          refine WL.done rfl ?_
          refine WX.next ?_
          obtain ⟨h894, hx826⟩ := as_some hx826
          refine WC.regionD ([(4, ⟨g163, 3, none⟩, (.slice A714 l716.length c715)), (8, ⟨g159, 1, none⟩, (.int .i64 p0.Symbols)), (12, ⟨g159, 1, none⟩, (.int .i64 p0.Symbols)), (14, ⟨g828, 0, none⟩, (.int .i64 ((rdD p0.Actions x720 z_Action).Write))), (14, ⟨g828, 1, none⟩, (.int .i64 ((rdD p0.Actions x720 z_Action).Move))), (14, ⟨g828, 2, none⟩, (.int .i64 ((rdD p0.Actions x720 z_Action).Next)))], [0, 1, 2, 3, 4, 5, 6, 7, 8, 9, 10, 11, 12, 13, 14, 18, 19], [[], [], [1], [1, 2], [1, 2, 3], [], [], [], [7], [6, 7, 8], [], [], [11], [10, 11, 12], [], [5, 6, 7, 8, 9, 10, 11, 12, 13, 14], [5, 6, 7, 8, 9, 10, 11, 12, 13, 14, 15], [1, 2, 3, 4, 5, 6, 7, 8, 9, 10, 11, 12, 13, 14, 15, 16], [0, 1, 2, 3, 4, 5, 6, 7, 8, 9, 10, 11, 12, 13, 14, 15, 16, 17], [0, 1, 2, 3, 4, 5, 6, 7, 8, 9, 10, 11, 12, 13, 14, 15, 16, 17, 18], [0, 1, 2, 3, 4, 5, 6, 7, 8, 9, 10, 11, 12, 13, 14, 15, 16, 17, 18, 19]]) [[0, 1, 2, 3, 4, 5, 6, 7, 8, 9, 10, 11, 12, 13, 14, 15, 16, 17, 18, 19, 20]] (by kernel_rfl) (by kernel_rfl) (NoPanic.block (NoPanic.seq (NoPanic.seq (NoPanic.block (NoPanic.seq (NoPanic.body)))))) ?_
          have hS892 := hS872.drew
          revert hS892
          generalize World.drew w871 = w891
          intro hS892
          refine ⟨⟨hS892.cell 0 rfl 3 rfl, hS892.cell 4 rfl 1 rfl, hS892.cell 4 rfl 1 rfl, hS892.cell 3 rfl 0 rfl, hS892.cell 3 rfl 1 rfl, hS892.cell 3 rfl 2 rfl, trivial⟩, forallC ?_ (forallN)⟩
          refine segF 15 [.v (.slice A714 l716.length c715), .v (.int .i64 p0.Symbols), .v (.int .i64 p0.Symbols), .v (.int .i64 ((rdD p0.Actions x720 z_Action).Write)), .v (.int .i64 ((rdD p0.Actions x720 z_Action).Move)), .v (.int .i64 ((rdD p0.Actions x720 z_Action).Next))] [1, 3, 32, 33, 34, 67, 71, 72, 76, 80, 81] [(1, (.pointer (some ⟨g159, 0, none⟩))), (3, (.pointer (some ⟨g163, 0, none⟩))), (32, (.slice A_p0_Actions p0.Actions.length c_p0_Actions)), (33, (.int .i64 (p0.Actions.length : Int))), (34, (.int .i64 x720)), (67, (.pointer (some ⟨g163, 0, none⟩))), (71, (.slice A714 l716.length c715)), (72, (.pointer (some ⟨g163, 0, none⟩))), (76, (.int .i64 (w64 (Int.tdiv x720 p0.Symbols)))), (80, (.int .i64 (Int.tmod x720 p0.Symbols))), (81, (.agg #[(.int .i64 ((rdD p0.Actions x720 z_Action).Write)), (.int .i64 ((rdD p0.Actions x720 z_Action).Move)), (.int .i64 ((rdD p0.Actions x720 z_Action).Next))]))] [.ne p0.Symbols, .ne p0.Symbols] [0, 1, 2, 3, 4, 5] [(4, ⟨g163, 3, none⟩, (.slice A714 l716.length c715)), (8, ⟨g159, 1, none⟩, (.int .i64 p0.Symbols)), (12, ⟨g159, 1, none⟩, (.int .i64 p0.Symbols)), (14, ⟨g828, 0, none⟩, (.int .i64 ((rdD p0.Actions x720 z_Action).Write))), (14, ⟨g828, 1, none⟩, (.int .i64 ((rdD p0.Actions x720 z_Action).Move))), (14, ⟨g828, 2, none⟩, (.int .i64 ((rdD p0.Actions x720 z_Action).Next)))] (fun fb => by kernel_rfl) rfl ⟨h894, h894, trivial⟩ rfl ?_
          obtain ⟨t895, ht896, hx826⟩ := bind_some hx826
          refine WL.call (some 82) 60 #[(.pointer (some ⟨g163, 0, none⟩)), (.int .i64 (w64 (Int.tdiv x720 p0.Symbols))), (.int .i64 (Int.tmod x720 p0.Symbols)), (.agg #[(.int .i64 ((rdD p0.Actions x720 z_Action).Write)), (.int .i64 ((rdD p0.Actions x720 z_Action).Move)), (.int .i64 ((rdD p0.Actions x720 z_Action).Next))])] (fun fb => by kernel_rfl) (machine_kit_acts_calls (Kit.mk p0 l716 (l719 ++ [(l716.length : Int)]) 0) (w64 (Int.tdiv x720 p0.Symbols)) (Int.tmod x720 p0.Symbols) (rdD p0.Actions x720 z_Action) g163 A_p0_Actions c_p0_Actions A714 c715 A867 c868 t895 _ (hS892.ow 0) (hS892.rd 0) (hS892.ow 5).ofO (hS892.ow 1).ofO ht896) (fun v w897 hR898 => ?_)
          obtain ⟨rfl, hk_⟩ := hR898
          have hS899 := hS892.keepN hk_
          refine ⟨⟨hS899.cell 0 rfl 3 rfl, trivial⟩, ?_⟩
          refine WL.new hS899 83 [] (fun g => (.slice (some ⟨g, 0, none⟩) 1 1)) (.cells #[(.int .i64 t895.N), (.int .i64 t895.E), (.int .i64 t895.S), (.int .i64 t895.W)] 65 (0, 0)) [] (fun fb g => by kernel_rfl) trivial (fun g900 w901 hS902 => ?_)
          refine ⟨⟨hS902.cell 1 rfl 3 rfl, trivial⟩, ?_⟩
          have hS904 : St NoS w w901 [rowR enc_Action A_p0_Actions c_p0_Actions p0.Actions] [rowO 65 enc_Tile (some ⟨g900, 0, none⟩) 1 [t895], blk g163 (.cells #[(.int .i64 p0.States), (.int .i64 p0.Symbols), (.slice A_p0_Actions p0.Actions.length c_p0_Actions), (.slice A714 l716.length c715), (.slice A867 (l719 ++ [(l716.length : Int)]).length c868), (.int .i64 0)] 96 (0, 0)), rowO 3 encInt A867 c868 (l719 ++ [(l716.length : Int)]), rowO 3 encInt (some ⟨g861, 0, none⟩) 1 [(l716.length : Int)], blk g828 (.cells #[(.int .i64 ((rdD p0.Actions x720 z_Action).Write)), (.int .i64 ((rdD p0.Actions x720 z_Action).Move)), (.int .i64 ((rdD p0.Actions x720 z_Action).Next))] 88 (0, 0)), blk g159 (.cells #[(.int .i64 p0.States), (.int .i64 p0.Symbols), (.slice A_p0_Actions p0.Actions.length c_p0_Actions)] 24 (0, 0)), rowO 65 enc_Tile A714 c715 l716] := hS902.map1 0 _ (fun h => rowO.ofBlk h rfl (Nat.le_of_ble_eq_true (by kernel_rfl))) (fun _ h => by obtain ⟨_, h1, h2⟩ := h; injection h1 with h1; subst h1; exact h2) [1, 2, 3, 4, 5, 6] (by decide) (by decide)
          obtain ⟨h905, hx826⟩ := as_some hx826
          refine WL.append hS904 6 (d := 84) (tS := 50) (z := (.agg #[(.int .i64 0), (.int .i64 0), (.int .i64 0), (.int .i64 0)])) (bytes := 32) (c2 := 1) rfl (fun fb => by kernel_rfl) (rowO.rd (hS904.own 0).1) (by kernel_rfl) (by kernel_rfl) rfl (by decide) h905 (by decide) [0, 1, 2, 3, 4, 5] (by decide) (by decide) (fun A906 c907 w908 hS909 => ?_)
          refine ⟨trivial, ?_⟩
          refine seg 20 [] [1, 3, 32, 33, 34, 84, 86] [(1, (.pointer (some ⟨g159, 0, none⟩))), (3, (.pointer (some ⟨g163, 0, none⟩))), (32, (.slice A_p0_Actions p0.Actions.length c_p0_Actions)), (33, (.int .i64 (p0.Actions.length : Int))), (34, (.int .i64 x720)), (84, (.slice A906 (l716 ++ [t895]).length c907)), (86, (.pointer (some ⟨g163, 3, none⟩)))] [] (fun fb => by kernel_rfl) rfl trivial ?_
          refine WL.store hS909 2 rfl [(3, (.slice A906 (l716 ++ [t895]).length c907))] #[(.int .i64 p0.States), (.int .i64 p0.Symbols), (.slice A_p0_Actions p0.Actions.length c_p0_Actions), (.slice A906 (l716 ++ [t895]).length c907), (.slice A867 (l719 ++ [(l716.length : Int)]).length c868), (.int .i64 0)] (fun fb => by kernel_rfl) (by kernel_rfl) rfl [0, 1, 3, 4, 5, 6] (by decide) (by decide) (fun w910 hS911 => ?_)
          refine ⟨trivial, ?_⟩
          refine WL.done rfl ?_
          injection hx826 with hx826
          exact WX.blockN (WX.to Kx825 ((l716 ++ [t895], l719 ++ [(l716.length : Int)]), A906, c907, A867, c868) [1, 3, 32, 33, 34] rfl ⟨(hS911.subR [0]).sub [6, 0, 1, 3] (by decide), hx826.symm⟩)
        rintro ⟨y915, A819, c820, A822, c823⟩ w912 ⟨hS913, hq914⟩
        subst hq914
        refine WX.next ?_
        refine WC.region ?_
        refine seg 2 [] [1, 3, 32, 33, 34] [(1, (.pointer (some ⟨g159, 0, none⟩))), (3, (.pointer (some ⟨g163, 0, none⟩))), (32, (.slice A_p0_Actions p0.Actions.length c_p0_Actions)), (33, (.int .i64 (p0.Actions.length : Int))), (34, (.int .i64 (w64 (x720 + 1))))] [] (fun fb => by kernel_rfl) rfl trivial ?_
        refine WL.done rfl ?_
        exact WX.again k729 (Nat.lt_succ_self _) ((x825.1, x825.2, w64 (x720 + 1)), A819, c820, A822, c823) [1, 3, 32, 33, 34] rfl ⟨(hS913.subR [0]).sub [0, 1, 2, 3] (by decide), hl732⟩
      refine WC.condF2 (fun fb => by kernel_rfl) h733 ?_
      refine WC.exit ?_
      injection hl732 with hl732
      exact WX.thenX (WX.thenX (WX.blockHere (WX.to Kx727 ((l716, l719), A714, c715, A717, c718) [1, 3] rfl ⟨(hS731.subR [0]).sub [0, 1, 2, 3] (by decide), hl732.symm⟩)))
  rintro ⟨y919, A721, c722, A724, c725⟩ w916 ⟨hS917, hq918⟩
  subst hq918
  refine WX.next ?_
  refine WC.seq ?_
  refine WC.region ?_
  refine seg 8 [.v (.slice A721 x727.1.length c722)] [1, 3, 93, 95] [(1, (.pointer (some ⟨g159, 0, none⟩))), (3, (.pointer (some ⟨g163, 0, none⟩))), (93, (.int .i64 (x727.1.length : Int))), (95, (.pointer (some ⟨g163, 5, none⟩)))] [.cell ⟨g163, 3, none⟩ (.slice A721 x727.1.length c722)] (fun fb => by kernel_rfl) rfl ⟨hS917.cell 1 rfl 3 rfl, trivial⟩ ?_
  refine WL.store hS917 1 rfl [(5, (.int .i64 (x727.1.length : Int)))] #[(.int .i64 p0.States), (.int .i64 p0.Symbols), (.slice A_p0_Actions p0.Actions.length c_p0_Actions), (.slice A721 x727.1.length c722), (.slice A724 x727.2.length c725), (.int .i64 (x727.1.length : Int))] (fun fb => by kernel_rfl) (by kernel_rfl) rfl [0, 2, 3] (by decide) (by decide) (fun w920 hS921 => ?_)
  refine ⟨trivial, ?_⟩
  refine WL.done rfl ?_
  refine WX.next ?_
  refine WC.seq ?_
  refine WC.seq ?_
  refine WC.region ?_
  refine seg 3 [.v (.int .i64 p0.States)] [1, 3, 97, 98] [(1, (.pointer (some ⟨g159, 0, none⟩))), (3, (.pointer (some ⟨g163, 0, none⟩))), (97, (.int .i64 p0.States)), (98, (.int .i64 0))] [.cell ⟨g159, 0, none⟩ (.int .i64 p0.States)] (fun fb => by kernel_rfl) rfl ⟨hS921.cell 1 rfl 0 rfl, trivial⟩ ?_
  refine WL.done rfl ?_
  refine WX.next ?_
  obtain ⟨x1289, hx1290, hf⟩ := bind_some hf
  refine WC.cutN (T := (List Tile) × (Option Addr) × Nat) (fun t => [(3, (.pointer (some ⟨g163, 0, none⟩)))]) (fun t w1 => St NoS w w1 [rowR enc_Action A_p0_Actions c_p0_Actions p0.Actions] [blk g163 (.cells #[(.int .i64 p0.States), (.int .i64 p0.Symbols), (.slice A_p0_Actions p0.Actions.length c_p0_Actions), (.slice t.2.1 t.1.length t.2.2), (.slice A724 x727.2.length c725), (.int .i64 (x727.1.length : Int))] 96 (0, 0)), rowO 65 enc_Tile t.2.1 t.2.2 t.1, rowO 3 encInt A724 c725 x727.2] ∧ x1289 = t.1) (fun Kx1289 => ?_) ?_
  ·
    refine WC.block ?_
    refine WC.loop (T := ((List Tile) × Int) × (Option Addr) × Nat) (fun t => [(1, (.pointer (some ⟨g159, 0, none⟩))), (3, (.pointer (some ⟨g163, 0, none⟩))), (97, (.int .i64 p0.States)), (98, (.int .i64 t.1.2))]) (fun n t w1 => St NoS w w1 [rowR enc_Action A_p0_Actions c_p0_Actions p0.Actions] [blk g159 (.cells #[(.int .i64 p0.States), (.int .i64 p0.Symbols), (.slice A_p0_Actions p0.Actions.length c_p0_Actions)] 24 (0, 0)), blk g163 (.cells #[(.int .i64 p0.States), (.int .i64 p0.Symbols), (.slice A_p0_Actions p0.Actions.length c_p0_Actions), (.slice t.2.1 t.1.1.length t.2.2), (.slice A724 x727.2.length c725), (.int .i64 (x727.1.length : Int))] 96 (0, 0)), rowO 65 enc_Tile t.2.1 t.2.2 t.1.1, rowO 3 encInt A724 c725 x727.2] ∧ machine_kitOf.l2 n t.1.1 t.1.2 p0 x727 = some x1289) k ((x727.1, 0), A721, c722) [1, 3, 97, 98] rfl ⟨(hS921.subR [0]).sub [1, 0, 2, 3] (by decide), hx1290⟩ ?_
    rintro k1291 ⟨⟨l1284, x1285⟩, A1282, c1283⟩ w1292 ⟨hS1293, hl1294⟩
    cases k1291 with
    | zero => rw [machine_kitOf.l2] at hl1294; cases hl1294
    | succ k1291 =>
      rw [machine_kitOf.l2] at hl1294
      refine WC.seq ?_
      refine WC.region ?_
      refine seg 1 [] [1, 3, 97, 98, 99] [(1, (.pointer (some ⟨g159, 0, none⟩))), (3, (.pointer (some ⟨g163, 0, none⟩))), (97, (.int .i64 p0.States)), (98, (.int .i64 x1285)), (99, (.bool (decide (x1285 < p0.States))))] [] (fun fb => by kernel_rfl) rfl trivial ?_
      refine WL.done rfl ?_
      refine WX.next ?_
      refine WC.seq ?_
      rcases br_some hl1294 with ⟨h1295, hl1294⟩ | ⟨h1295, hl1294⟩
      · refine WC.condT2 (fun fb => by kernel_rfl) h1295 ?_
        refine WC.skip ?_
        refine WX.next ?_
        refine WC.seq ?_
        refine WC.block ?_
        refine WC.seq ?_
        refine WC.region ?_
        refine seg 2 [] [1, 3, 7, 97, 98] [(1, (.pointer (some ⟨g159, 0, none⟩))), (3, (.pointer (some ⟨g163, 0, none⟩))), (7, (.int .i64 x1285)), (97, (.int .i64 p0.States)), (98, (.int .i64 x1285))] [] (fun fb => by kernel_rfl) rfl trivial ?_
        refine WL.done rfl ?_
        refine WX.next ?_
        refine WC.seq ?_
        refine WC.region ?_
        refine seg 3 [.v (.int .i64 p0.Symbols)] [1, 3, 7, 97, 98, 102, 103] [(1, (.pointer (some ⟨g159, 0, none⟩))), (3, (.pointer (some ⟨g163, 0, none⟩))), (7, (.int .i64 x1285)), (97, (.int .i64 p0.States)), (98, (.int .i64 x1285)), (102, (.int .i64 p0.Symbols)), (103, (.int .i64 0))] [.cell ⟨g159, 1, none⟩ (.int .i64 p0.Symbols)] (fun fb => by kernel_rfl) rfl ⟨hS1293.cell 0 rfl 1 rfl, trivial⟩ ?_
        refine WL.done rfl ?_
        refine WX.next ?_
        obtain ⟨x1411, hx1412, hl1294⟩ := bind_some hl1294
        refine WC.cutN (T := (List Tile) × (Option Addr) × Nat) (fun t => [(1, (.pointer (some ⟨g159, 0, none⟩))), (3, (.pointer (some ⟨g163, 0, none⟩))), (97, (.int .i64 p0.States)), (98, (.int .i64 x1285))]) (fun t w1 => St NoS w w1 [rowR enc_Action A_p0_Actions c_p0_Actions p0.Actions] [blk g159 (.cells #[(.int .i64 p0.States), (.int .i64 p0.Symbols), (.slice A_p0_Actions p0.Actions.length c_p0_Actions)] 24 (0, 0)), blk g163 (.cells #[(.int .i64 p0.States), (.int .i64 p0.Symbols), (.slice A_p0_Actions p0.Actions.length c_p0_Actions), (.slice t.2.1 t.1.length t.2.2), (.slice A724 x727.2.length c725), (.int .i64 (x727.1.length : Int))] 96 (0, 0)), rowO 65 enc_Tile t.2.1 t.2.2 t.1, rowO 3 encInt A724 c725 x727.2] ∧ x1411 = t.1) (fun Kx1411 => ?_) ?_
        ·
          refine WC.block ?_
          refine WC.loop (T := ((List Tile) × Int) × (Option Addr) × Nat) (fun t => [(1, (.pointer (some ⟨g159, 0, none⟩))), (3, (.pointer (some ⟨g163, 0, none⟩))), (7, (.int .i64 x1285)), (97, (.int .i64 p0.States)), (98, (.int .i64 x1285)), (102, (.int .i64 p0.Symbols)), (103, (.int .i64 t.1.2))]) (fun n t w1 => St NoS w w1 [rowR enc_Action A_p0_Actions c_p0_Actions p0.Actions] [blk g159 (.cells #[(.int .i64 p0.States), (.int .i64 p0.Symbols), (.slice A_p0_Actions p0.Actions.length c_p0_Actions)] 24 (0, 0)), blk g163 (.cells #[(.int .i64 p0.States), (.int .i64 p0.Symbols), (.slice A_p0_Actions p0.Actions.length c_p0_Actions), (.slice t.2.1 t.1.1.length t.2.2), (.slice A724 x727.2.length c725), (.int .i64 (x727.1.length : Int))] 96 (0, 0)), rowO 65 enc_Tile t.2.1 t.2.2 t.1.1, rowO 3 encInt A724 c725 x727.2] ∧ machine_kitOf.l3 n t.1.1 t.1.2 p0 x727 x1285 = some x1411) k1291 ((l1284, 0), A1282, c1283) [1, 3, 7, 97, 98, 102, 103] rfl ⟨(hS1293.subR [0]).sub [0, 1, 2, 3] (by decide), hx1412⟩ ?_
          rintro k1413 ⟨⟨l1406, x1407⟩, A1404, c1405⟩ w1414 ⟨hS1415, hl1416⟩
          cases k1413 with
          | zero => rw [machine_kitOf.l3] at hl1416; cases hl1416
          | succ k1413 =>
            rw [machine_kitOf.l3] at hl1416
            refine WC.seq ?_
            refine WC.region ?_
            refine seg 1 [] [1, 3, 7, 97, 98, 102, 103, 104] [(1, (.pointer (some ⟨g159, 0, none⟩))), (3, (.pointer (some ⟨g163, 0, none⟩))), (7, (.int .i64 x1285)), (97, (.int .i64 p0.States)), (98, (.int .i64 x1285)), (102, (.int .i64 p0.Symbols)), (103, (.int .i64 x1407)), (104, (.bool (decide (x1407 < p0.Symbols))))] [] (fun fb => by kernel_rfl) rfl trivial ?_
            refine WL.done rfl ?_
            refine WX.next ?_
            refine WC.seq ?_
            rcases br_some hl1416 with ⟨h1417, hl1416⟩ | ⟨h1417, hl1416⟩
            · refine WC.condT2 (fun fb => by kernel_rfl) h1417 ?_
              refine WC.skip ?_
              refine WX.next ?_
              refine WC.seq ?_
              refine WC.block ?_
              refine WC.seq ?_
              refine WC.region ?_
              refine seg 2 [] [1, 3, 7, 8, 97, 98, 102, 103] [(1, (.pointer (some ⟨g159, 0, none⟩))), (3, (.pointer (some ⟨g163, 0, none⟩))), (7, (.int .i64 x1285)), (8, (.int .i64 x1407)), (97, (.int .i64 p0.States)), (98, (.int .i64 x1285)), (102, (.int .i64 p0.Symbols)), (103, (.int .i64 x1407))] [] (fun fb => by kernel_rfl) rfl trivial ?_
              refine WL.done rfl ?_
              refine WX.next ?_
              refine WC.seq ?_
              refine WC.region ?_
              refine seg 3 [.v (.int .i64 p0.States), .v (.int .i64 p0.Symbols), .v (.slice A_p0_Actions p0.Actions.length c_p0_Actions)] [1, 3, 7, 8, 97, 98, 102, 103, 106, 107, 108] [(1, (.pointer (some ⟨g159, 0, none⟩))), (3, (.pointer (some ⟨g163, 0, none⟩))), (7, (.int .i64 x1285)), (8, (.int .i64 x1407)), (97, (.int .i64 p0.States)), (98, (.int .i64 x1285)), (102, (.int .i64 p0.Symbols)), (103, (.int .i64 x1407)), (106, (.agg #[(.int .i64 p0.States), (.int .i64 p0.Symbols), (.slice A_p0_Actions p0.Actions.length c_p0_Actions)])), (107, (.int .i64 x1285)), (108, (.int .i64 x1407))] [.cell ⟨g159, 0, none⟩ (.int .i64 p0.States), .cell ⟨g159, 1, none⟩ (.int .i64 p0.Symbols), .cell ⟨g159, 2, none⟩ (.slice A_p0_Actions p0.Actions.length c_p0_Actions)] (fun fb => by kernel_rfl) rfl ⟨hS1415.cell 0 rfl 0 rfl, hS1415.cell 0 rfl 1 rfl, hS1415.cell 0 rfl 2 rfl, trivial⟩ ?_
              obtain ⟨t1418, ht1419, hl1416⟩ := bind_some hl1416
              refine WL.call (some 109) 61 #[(.agg #[(.int .i64 p0.States), (.int .i64 p0.Symbols), (.slice A_p0_Actions p0.Actions.length c_p0_Actions)]), (.int .i64 x1285), (.int .i64 x1407)] (fun fb => by kernel_rfl) (machine_head_calls p0 x1285 x1407 A_p0_Actions c_p0_Actions t1418 _ (hS1415.rd 0) ht1419) (fun v w1420 hR1421 => ?_)
              obtain ⟨rfl, hk_⟩ := hR1421
              have hS1422 := hS1415.keepN hk_
              refine ⟨trivial, ?_⟩
              refine seg 5 [] [1, 3, 7, 8, 9, 97, 98, 102, 103] [(1, (.pointer (some ⟨g159, 0, none⟩))), (3, (.pointer (some ⟨g163, 0, none⟩))), (7, (.int .i64 x1285)), (8, (.int .i64 x1407)), (9, (.int .i64 t1418)), (97, (.int .i64 p0.States)), (98, (.int .i64 x1285)), (102, (.int .i64 p0.Symbols)), (103, (.int .i64 x1407))] [] (fun fb => by kernel_rfl) rfl trivial ?_
              refine WL.done rfl ?_
              refine WX.next ?_
              refine WC.regionD ([(4, ⟨g163, 3, none⟩, (.slice A1404 l1406.length c1405))], [0, 1, 2, 3, 4, 5, 6, 7, 8, 10, 11, 12, 13, 14, 16, 19, 20], [[], [], [1], [1, 2], [1, 2, 3], [], [], [], [], [7, 8], [5, 6, 7, 8, 9], [], [], [], [], [7, 8, 9, 13, 14], [7, 8, 9, 11, 12, 13, 14, 15], [5, 6, 7, 8, 9, 10, 11, 12, 13, 14, 15, 16], [1, 2, 3, 4, 5, 6, 7, 8, 9, 10, 11, 12, 13, 14, 15, 16, 17], [0, 1, 2, 3, 4, 5, 6, 7, 8, 9, 10, 11, 12, 13, 14, 15, 16, 17, 18], [0, 1, 2, 3, 4, 5, 6, 7, 8, 9, 10, 11, 12, 13, 14, 15, 16, 17, 18, 19], [0, 1, 2, 3, 4, 5, 6, 7, 8, 9, 10, 11, 12, 13, 14, 15, 16, 17, 18, 19, 20]]) [[0, 1, 2, 3, 4, 5, 6, 7, 8, 11, 12, 13, 14, 9, 10, 15, 16, 17, 18, 19, 20, 21]] (by kernel_rfl) (by kernel_rfl) (NoPanic.block (NoPanic.seq (NoPanic.seq (NoPanic.block (NoPanic.block (NoPanic.seq (NoPanic.seq (NoPanic.block (NoPanic.seq (NoPanic.body)))))))))) ?_
              have hS1446 := hS1422.drew
              revert hS1446
              generalize World.drew w1420 = w1445
              intro hS1446
              refine ⟨⟨hS1446.cell 1 rfl 3 rfl, trivial⟩, forallC ?_ (forallN)⟩
              refine segF 13 [.v (.slice A1404 l1406.length c1405)] [1, 3, 7, 97, 98, 102, 103, 110, 114, 115, 116, 117, 118, 121, 122, 123, 124] [(1, (.pointer (some ⟨g159, 0, none⟩))), (3, (.pointer (some ⟨g163, 0, none⟩))), (7, (.int .i64 x1285)), (97, (.int .i64 p0.States)), (98, (.int .i64 x1285)), (102, (.int .i64 p0.Symbols)), (103, (.int .i64 x1407)), (110, (.pointer (some ⟨g163, 0, none⟩))), (114, (.slice A1404 l1406.length c1405)), (115, (.int .i64 t1418)), (116, (.int .i64 x1407)), (117, (.pointer (some ⟨g163, 0, none⟩))), (118, (.int .i64 x1285)), (121, (.int .i64 t1418)), (122, (.int .i64 x1407)), (123, (.pointer (some ⟨g163, 0, none⟩))), (124, (.int .i64 x1285))] [] [0] [(4, ⟨g163, 3, none⟩, (.slice A1404 l1406.length c1405))] (fun fb => by kernel_rfl) rfl trivial rfl ?_
              obtain ⟨t1447, ht1448, hl1416⟩ := bind_some hl1416
              refine WL.call (some 119) 62 #[(.pointer (some ⟨g163, 0, none⟩)), (.int .i64 1), (.int .i64 x1285)] (fun fb => by kernel_rfl) (machine_kit_signal_calls (Kit.mk p0 l1406 x727.2 (x727.1.length : Int)) 1 x1285 g163 A_p0_Actions c_p0_Actions A1404 c1405 A724 c725 t1447 _ (hS1446.ow 1) (hS1446.rd 0) (hS1446.ow 2).ofO (hS1446.ow 3).ofO ht1448) (fun v w1449 hR1450 => ?_)
              obtain ⟨rfl, hk_⟩ := hR1450
              have hS1451 := hS1446.keepN hk_
              refine ⟨⟨hS1451.cell 1 rfl 3 rfl, trivial⟩, ?_⟩
              refine seg 15 [] [1, 3, 7, 97, 98, 102, 103, 110, 114, 120, 121, 122, 123, 124] [(1, (.pointer (some ⟨g159, 0, none⟩))), (3, (.pointer (some ⟨g163, 0, none⟩))), (7, (.int .i64 x1285)), (97, (.int .i64 p0.States)), (98, (.int .i64 x1285)), (102, (.int .i64 p0.Symbols)), (103, (.int .i64 x1407)), (110, (.pointer (some ⟨g163, 0, none⟩))), (114, (.slice A1404 l1406.length c1405)), (120, (.agg #[(.int .i64 t1418), (.int .i64 0), (.int .i64 x1407), (.int .i64 t1447)])), (121, (.int .i64 t1418)), (122, (.int .i64 x1407)), (123, (.pointer (some ⟨g163, 0, none⟩))), (124, (.int .i64 x1285))] [] (fun fb => by kernel_rfl) rfl trivial ?_
              obtain ⟨t1452, ht1453, hl1416⟩ := bind_some hl1416
              refine WL.call (some 125) 62 #[(.pointer (some ⟨g163, 0, none⟩)), (.int .i64 0), (.int .i64 x1285)] (fun fb => by kernel_rfl) (machine_kit_signal_calls (Kit.mk p0 l1406 x727.2 (x727.1.length : Int)) 0 x1285 g163 A_p0_Actions c_p0_Actions A1404 c1405 A724 c725 t1452 _ (hS1451.ow 1) (hS1451.rd 0) (hS1451.ow 2).ofO (hS1451.ow 3).ofO ht1453) (fun v w1454 hR1455 => ?_)
              obtain ⟨rfl, hk_⟩ := hR1455
              have hS1456 := hS1451.keepN hk_
              refine ⟨⟨hS1456.cell 1 rfl 3 rfl, trivial⟩, ?_⟩
              refine seg 17 [] [1, 3, 7, 97, 98, 102, 103, 110, 114, 120, 126] [(1, (.pointer (some ⟨g159, 0, none⟩))), (3, (.pointer (some ⟨g163, 0, none⟩))), (7, (.int .i64 x1285)), (97, (.int .i64 p0.States)), (98, (.int .i64 x1285)), (102, (.int .i64 p0.Symbols)), (103, (.int .i64 x1407)), (110, (.pointer (some ⟨g163, 0, none⟩))), (114, (.slice A1404 l1406.length c1405)), (120, (.agg #[(.int .i64 t1418), (.int .i64 0), (.int .i64 x1407), (.int .i64 t1447)])), (126, (.agg #[(.int .i64 t1418), (.int .i64 t1452), (.int .i64 x1407), (.int .i64 0)]))] [] (fun fb => by kernel_rfl) rfl trivial ?_
              refine WL.new hS1456 127 [] (fun g => (.slice (some ⟨g, 0, none⟩) 2 2)) (.cells #[(.int .i64 t1418), (.int .i64 0), (.int .i64 x1407), (.int .i64 t1447), (.int .i64 t1418), (.int .i64 t1452), (.int .i64 x1407), (.int .i64 0)] 65 (0, 0)) [] (fun fb g => by kernel_rfl) trivial (fun g1457 w1458 hS1459 => ?_)
              refine ⟨⟨hS1459.cell 2 rfl 3 rfl, trivial⟩, ?_⟩
              have hS1461 : St NoS w w1458 [rowR enc_Action A_p0_Actions c_p0_Actions p0.Actions] [rowO 65 enc_Tile (some ⟨g1457, 0, none⟩) 2 [(Tile.mk t1418 0 x1407 t1447), (Tile.mk t1418 t1452 x1407 0)], blk g159 (.cells #[(.int .i64 p0.States), (.int .i64 p0.Symbols), (.slice A_p0_Actions p0.Actions.length c_p0_Actions)] 24 (0, 0)), blk g163 (.cells #[(.int .i64 p0.States), (.int .i64 p0.Symbols), (.slice A_p0_Actions p0.Actions.length c_p0_Actions), (.slice A1404 l1406.length c1405), (.slice A724 x727.2.length c725), (.int .i64 (x727.1.length : Int))] 96 (0, 0)), rowO 65 enc_Tile A1404 c1405 l1406, rowO 3 encInt A724 c725 x727.2] := hS1459.map1 0 _ (fun h => rowO.ofBlk h rfl (Nat.le_of_ble_eq_true (by kernel_rfl))) (fun _ h => by obtain ⟨_, h1, h2⟩ := h; injection h1 with h1; subst h1; exact h2) [1, 2, 3, 4] (by decide) (by decide)
              obtain ⟨h1462, hl1416⟩ := as_some hl1416
              refine WL.append hS1461 3 (d := 128) (tS := 50) (z := (.agg #[(.int .i64 0), (.int .i64 0), (.int .i64 0), (.int .i64 0)])) (bytes := 32) (c2 := 2) rfl (fun fb => by kernel_rfl) (rowO.rd (hS1461.own 0).1) (by kernel_rfl) (by kernel_rfl) rfl (by decide) h1462 (by decide) [0, 1, 2, 4] (by decide) (by decide) (fun A1463 c1464 w1465 hS1466 => ?_)
              refine ⟨trivial, ?_⟩
              refine seg 21 [] [1, 3, 7, 97, 98, 102, 103, 128, 130] [(1, (.pointer (some ⟨g159, 0, none⟩))), (3, (.pointer (some ⟨g163, 0, none⟩))), (7, (.int .i64 x1285)), (97, (.int .i64 p0.States)), (98, (.int .i64 x1285)), (102, (.int .i64 p0.Symbols)), (103, (.int .i64 x1407)), (128, (.slice A1463 (l1406 ++ [(Tile.mk t1418 0 x1407 t1447), (Tile.mk t1418 t1452 x1407 0)]).length c1464)), (130, (.pointer (some ⟨g163, 3, none⟩)))] [] (fun fb => by kernel_rfl) rfl trivial ?_
              refine WL.store hS1466 3 rfl [(3, (.slice A1463 (l1406 ++ [(Tile.mk t1418 0 x1407 t1447), (Tile.mk t1418 t1452 x1407 0)]).length c1464))] #[(.int .i64 p0.States), (.int .i64 p0.Symbols), (.slice A_p0_Actions p0.Actions.length c_p0_Actions), (.slice A1463 (l1406 ++ [(Tile.mk t1418 0 x1407 t1447), (Tile.mk t1418 t1452 x1407 0)]).length c1464), (.slice A724 x727.2.length c725), (.int .i64 (x727.1.length : Int))] (fun fb => by kernel_rfl) (by kernel_rfl) rfl [0, 1, 2, 4] (by decide) (by decide) (fun w1467 hS1468 => ?_)
              refine ⟨trivial, ?_⟩
              refine WL.done rfl ?_
              refine WX.blockN (WX.next ?_)
              refine WC.region ?_
              refine seg 2 [] [1, 3, 7, 97, 98, 102, 103] [(1, (.pointer (some ⟨g159, 0, none⟩))), (3, (.pointer (some ⟨g163, 0, none⟩))), (7, (.int .i64 x1285)), (97, (.int .i64 p0.States)), (98, (.int .i64 x1285)), (102, (.int .i64 p0.Symbols)), (103, (.int .i64 (w64 (x1407 + 1))))] [] (fun fb => by kernel_rfl) rfl trivial ?_
              refine WL.done rfl ?_
              exact WX.again k1413 (Nat.lt_succ_self _) ((l1406 ++ [(Tile.mk t1418 0 x1407 t1447), (Tile.mk t1418 t1452 x1407 0)], w64 (x1407 + 1)), A1463, c1464) [1, 3, 7, 97, 98, 102, 103] rfl ⟨(hS1468.subR [0]).sub [3, 0, 1, 4] (by decide), hl1416⟩
            refine WC.condF2 (fun fb => by kernel_rfl) h1417 ?_
            refine WC.exit ?_
            injection hl1416 with hl1416
            exact WX.thenX (WX.thenX (WX.blockHere (WX.to Kx1411 (l1406, A1404, c1405) [1, 3, 97, 98] rfl ⟨(hS1415.subR [0]).sub [0, 1, 2, 3] (by decide), hl1416.symm⟩)))
        rintro ⟨y1472, A1408, c1409⟩ w1469 ⟨hS1470, hq1471⟩
        subst hq1471
        refine WX.blockN (WX.next ?_)
        refine WC.region ?_
        refine seg 2 [] [1, 3, 97, 98] [(1, (.pointer (some ⟨g159, 0, none⟩))), (3, (.pointer (some ⟨g163, 0, none⟩))), (97, (.int .i64 p0.States)), (98, (.int .i64 (w64 (x1285 + 1))))] [] (fun fb => by kernel_rfl) rfl trivial ?_
        refine WL.done rfl ?_
        exact WX.again k1291 (Nat.lt_succ_self _) ((x1411, w64 (x1285 + 1)), A1408, c1409) [1, 3, 97, 98] rfl ⟨(hS1470.subR [0]).sub [0, 1, 2, 3] (by decide), hl1294⟩
      refine WC.condF2 (fun fb => by kernel_rfl) h1295 ?_
      refine WC.exit ?_
      injection hl1294 with hl1294
      exact WX.thenX (WX.thenX (WX.blockHere (WX.to Kx1289 (l1284, A1282, c1283) [3] rfl ⟨(hS1293.subR [0]).sub [1, 2, 3] (by decide), hl1294.symm⟩)))
  rintro ⟨y1476, A1286, c1287⟩ w1473 ⟨hS1474, hq1475⟩
  subst hq1475
  refine WX.next ?_
  refine WC.seq ?_
  refine WC.region ?_
  refine seg 2 [] [2] [(2, (.pointer (some ⟨g163, 0, none⟩)))] [] (fun fb => by kernel_rfl) rfl trivial ?_
  refine WL.done rfl ?_
  refine WX.next ?_
  refine WC.ret ?_
  injection hf with hf
  subst hf
  exact WX.ret_ [] (.pointer (some ⟨g163, 0, none⟩)) [] (fun fb => by kernel_rfl) trivial ⟨_, rfl, g163, A1286, c1287, A724, c725, rfl, (hS1474.sub [0, 1, 2] (by decide)).noR⟩
theorem machine_Tiles_calls (k : Nat) (p0 : Machine) (A_p0_Actions : Option Addr) (c_p0_Actions : Nat) (r : (List Tile) × Int) (w : World) (hR0 : RO NoS w (rowR enc_Action A_p0_Actions c_p0_Actions p0.Actions)) (hf : machine_Tiles k p0 = some r) :
    CallsR Try.prog 25 #[(.agg #[(.int .i64 p0.States), (.int .i64 p0.Symbols), (.slice A_p0_Actions p0.Actions.length c_p0_Actions)])] w (fun v w' => ∃ (A1_ : Option Addr), ∃ (c1_ : Nat), v = (.tuple #[(.slice A1_ r.1.length c1_), (.int .i64 r.2)]) ∧ St NoS w w' [] [rowO 65 enc_Tile A1_ c1_ r.1]) := by
  have hS : St NoS w w [rowR enc_Action A_p0_Actions c_p0_Actions p0.Actions] [] := St.init (ro_cons hR0 (ro_nil _ _))
  refine enter 12 Try.func25 rfl Try.ntmps25 rfl ?_
  unfold machine_Tiles at hf
  refine WC.seq ?_
  refine WC.region ?_
  refine WL.new hS 1 [] (fun g => (.pointer (some ⟨g, 0, none⟩))) (.cells #[(.int .i64 p0.States), (.int .i64 p0.Symbols), (.slice A_p0_Actions p0.Actions.length c_p0_Actions)] 24 (0, 0)) [] (fun fb g => by kernel_rfl) trivial (fun g45 w46 hS47 => ?_)
  refine ⟨trivial, ?_⟩
  refine seg 3 [] [1] [(1, (.pointer (some ⟨g45, 0, none⟩)))] [] (fun fb => by kernel_rfl) rfl trivial ?_
  refine WL.done rfl ?_
  refine WX.next ?_
  refine WC.seq ?_
  refine WC.seq ?_
  refine WC.region ?_
  refine seg 1 [.v (.int .i64 p0.States), .v (.int .i64 p0.Symbols), .v (.slice A_p0_Actions p0.Actions.length c_p0_Actions)] [1, 4] [(1, (.pointer (some ⟨g45, 0, none⟩))), (4, (.agg #[(.int .i64 p0.States), (.int .i64 p0.Symbols), (.slice A_p0_Actions p0.Actions.length c_p0_Actions)]))] [.cell ⟨g45, 0, none⟩ (.int .i64 p0.States), .cell ⟨g45, 1, none⟩ (.int .i64 p0.Symbols), .cell ⟨g45, 2, none⟩ (.slice A_p0_Actions p0.Actions.length c_p0_Actions)] (fun fb => by kernel_rfl) rfl ⟨hS47.cell 0 rfl 0 rfl, hS47.cell 0 rfl 1 rfl, hS47.cell 0 rfl 2 rfl, trivial⟩ ?_
  obtain ⟨t152, ht153, hf⟩ := bind_some hf
  refine WL.call (some 5) 16 #[(.agg #[(.int .i64 p0.States), (.int .i64 p0.Symbols), (.slice A_p0_Actions p0.Actions.length c_p0_Actions)])] (fun fb => by kernel_rfl) (machine_Valid_calls _ p0 A_p0_Actions c_p0_Actions t152 _ (hS47.rd 0) ht153) (fun v w154 hR155 => ?_)
  obtain ⟨rfl, hk_⟩ := hR155
  have hS156 := hS47.keepN hk_
  refine ⟨trivial, ?_⟩
  refine seg 3 [] [1, 6] [(1, (.pointer (some ⟨g45, 0, none⟩))), (6, (.bool (!t152)))] [] (fun fb => by kernel_rfl) rfl trivial ?_
  refine WL.done rfl ?_
  refine WX.next ?_
  rcases br_some hf with ⟨h157, hf⟩ | ⟨h157, hf⟩
  · refine WC.condT2 (fun fb => by kernel_rfl) h157 ?_
    refine WC.seq ?_
    refine WC.region ?_
    refine seg 2 [] [2, 3] [(2, (.slice none 0 0)), (3, (.int .i64 1))] [] (fun fb => by kernel_rfl) rfl trivial ?_
    refine WL.done rfl ?_
    refine WX.next ?_
    refine WC.ret ?_
    have hS158 := hS156.nilrow 65 enc_Tile
    injection hf with hf
    subst hf
    exact WX.thenR (WX.ret_ [] (.tuple #[(.slice none ([] : List Tile).length 0), (.int .i64 1)]) [] (fun fb => by kernel_rfl) trivial ⟨_, rfl, none, 0, rfl, (hS158.sub [0] (by decide)).noR⟩)
  refine WC.condF2 (fun fb => by kernel_rfl) h157 ?_
  refine WC.skip ?_
  refine WX.next ?_
  refine WC.seq ?_
  refine WC.region ?_
  refine seg 1 [.v (.int .i64 p0.States), .v (.int .i64 p0.Symbols), .v (.slice A_p0_Actions p0.Actions.length c_p0_Actions)] [7] [(7, (.agg #[(.int .i64 p0.States), (.int .i64 p0.Symbols), (.slice A_p0_Actions p0.Actions.length c_p0_Actions)]))] [.cell ⟨g45, 0, none⟩ (.int .i64 p0.States), .cell ⟨g45, 1, none⟩ (.int .i64 p0.Symbols), .cell ⟨g45, 2, none⟩ (.slice A_p0_Actions p0.Actions.length c_p0_Actions)] (fun fb => by kernel_rfl) rfl ⟨hS156.cell 0 rfl 0 rfl, hS156.cell 0 rfl 1 rfl, hS156.cell 0 rfl 2 rfl, trivial⟩ ?_
  obtain ⟨t1477, ht1478, hf⟩ := bind_some hf
  refine WL.call (some 8) 41 #[(.agg #[(.int .i64 p0.States), (.int .i64 p0.Symbols), (.slice A_p0_Actions p0.Actions.length c_p0_Actions)])] (fun fb => by kernel_rfl) (machine_kitOf_calls _ p0 A_p0_Actions c_p0_Actions t1477 _ (hS156.rd 0) ht1478) (fun v w1479 hR1480 => ?_)
  obtain ⟨g1482, A1483, c1484, A1485, c1486, rfl, hk_⟩ := hR1480
  have hS1481 : St NoS w w1479 [rowR enc_Action A_p0_Actions c_p0_Actions p0.Actions] [blk g1482 (.cells #[(.int .i64 t1477.m.States), (.int .i64 t1477.m.Symbols), (.slice A_p0_Actions p0.Actions.length c_p0_Actions), (.slice A1483 t1477.set.length c1484), (.slice A1485 t1477.does.length c1486), (.int .i64 t1477.base)] 96 (0, 0)), rowO 65 enc_Tile A1483 c1484 t1477.set, rowO 3 encInt A1485 c1486 t1477.does, blk g45 (.cells #[(.int .i64 p0.States), (.int .i64 p0.Symbols), (.slice A_p0_Actions p0.Actions.length c_p0_Actions)] 24 (0, 0))] := hS156.call hk_ [] [0] (fun g hg => hg.elim) (by simp) (by decide)
  refine ⟨trivial, ?_⟩
  refine seg 7 [.v (.slice A1483 t1477.set.length c1484)] [2, 3] [(2, (.slice A1483 t1477.set.length c1484)), (3, (.int .i64 0))] [.cell ⟨g1482, 3, none⟩ (.slice A1483 t1477.set.length c1484)] (fun fb => by kernel_rfl) rfl ⟨hS1481.cell 0 rfl 3 rfl, trivial⟩ ?_
  refine WL.done rfl ?_
  refine WX.next ?_
  refine WC.ret ?_
  injection hf with hf
  subst hf
  exact WX.ret_ [] (.tuple #[(.slice A1483 t1477.set.length c1484), (.int .i64 0)]) [] (fun fb => by kernel_rfl) trivial ⟨_, rfl, A1483, c1484, rfl, (hS1481.sub [1] (by decide)).noR⟩
theorem machine_Fits_1_calls (p0 : Int) (f0 : Machine) (g_f0 : Nat) (A_f0_Actions : Option Addr) (c_f0_Actions : Nat) (r : Bool) (w : World) (hR0 : RO NoS w (blk g_f0 (.cells #[(.int .i64 f0.States), (.int .i64 f0.Symbols), (.slice A_f0_Actions f0.Actions.length c_f0_Actions)] 24 (0, 0)))) (hR1 : RO NoS w (rowR enc_Action A_f0_Actions c_f0_Actions f0.Actions)) (hf : machine_Fits_1 p0 f0 = some r) :
    CallsR Try.prog 50 #[(.int .i64 p0), (.pointer (some ⟨g_f0, 0, none⟩))] w (fun v w' => v = (.bool r) ∧ Keeps NoS w w') := by
  have hS : St NoS w w [blk g_f0 (.cells #[(.int .i64 f0.States), (.int .i64 f0.Symbols), (.slice A_f0_Actions f0.Actions.length c_f0_Actions)] 24 (0, 0)), rowR enc_Action A_f0_Actions c_f0_Actions f0.Actions] [] := St.init (ro_cons hR0 (ro_cons hR1 (ro_nil _ _)))
  refine enter 12 Try.func50 rfl Try.ntmps50 rfl ?_
  unfold machine_Fits_1 at hf
  refine WC.seq ?_
  refine WC.region ?_
  refine seg 1 [] [0, 1] [(0, (.int .i64 p0)), (1, (.pointer (some ⟨g_f0, 0, none⟩)))] [] (fun fb => by kernel_rfl) rfl trivial ?_
  refine WL.done rfl ?_
  refine WX.next ?_
  refine WC.seq ?_
  refine WC.region ?_
  refine seg 3 [] [0, 1, 6] [(0, (.int .i64 p0)), (1, (.pointer (some ⟨g_f0, 0, none⟩))), (6, (.bool (decide (p0 < 0))))] [] (fun fb => by kernel_rfl) rfl trivial ?_
  refine WL.cutV (T := Bool) 8 (fun t => [(11, (.bool t))]) (fun t => t = ((decide (p0 < 0)) || (decide (p0 ≥ f0.Symbols)))) (fun K => ?_) ?_
  ·
    rcases Bool.eq_false_or_eq_true (decide (p0 < 0)) with h1545 | h1545
    ·
      refine WL.setB 6 h1545 rfl ?_
      refine seg 8 [] [11] [(11, (.bool true))] [] (fun fb => by kernel_rfl) rfl trivial ?_
      exact WL.toV K true [11] rfl (by rw [h1545]; rfl)
    refine WL.setB 6 h1545 rfl ?_
    refine seg 8 [.v (.int .i64 f0.Symbols)] [11] [(11, (.bool (decide (p0 ≥ f0.Symbols))))] [.cell ⟨g_f0, 1, none⟩ (.int .i64 f0.Symbols)] (fun fb => by kernel_rfl) rfl ⟨blk_cell (hS.rd 0).1 1 rfl, trivial⟩ ?_
    exact WL.toV K (decide (p0 ≥ f0.Symbols)) [11] rfl (by rw [h1545]; rfl)
  rintro b1546 rfl
  refine seg 9 [] [3] [(3, (.bool ((decide (p0 < 0)) || (decide (p0 ≥ f0.Symbols)))))] [] (fun fb => by kernel_rfl) rfl trivial ?_
  refine WL.done rfl ?_
  refine WX.next ?_
  refine WC.ret ?_
  injection hf with hf
  subst hf
  exact WX.ret_ [] (.bool ((decide (p0 < 0)) || (decide (p0 ≥ f0.Symbols)))) [] (fun fb => by kernel_rfl) trivial ⟨_, rfl, rfl, hS.keep⟩
theorem slices_IndexFunc_int_int_with_machine_Fits_1_calls (k : Nat) (p0 : List Int) (p1_0 : Machine) (A_p0 : Option Addr) (c_p0 : Nat) (g_p1_0 : Nat) (A_p1_0_Actions : Option Addr) (c_p1_0_Actions : Nat) (r : Int) (w : World) (hR0 : RO NoS w (rowR encInt A_p0 c_p0 p0)) (hR1 : RO NoS w (blk g_p1_0 (.cells #[(.int .i64 p1_0.States), (.int .i64 p1_0.Symbols), (.slice A_p1_0_Actions p1_0.Actions.length c_p1_0_Actions)] 24 (0, 0)))) (hR2 : RO NoS w (rowR enc_Action A_p1_0_Actions c_p1_0_Actions p1_0.Actions)) (hf : slices_IndexFunc_int_int_with_machine_Fits_1 k p0 p1_0 = some r) :
    CallsR Try.prog 65 #[(.slice A_p0 p0.length c_p0), (.func (.func 50) #[] #[(.pointer (some ⟨g_p1_0, 0, none⟩))])] w (fun v w' => v = (.int .i64 r) ∧ Keeps NoS w w') := by
  have hS : St NoS w w [rowR encInt A_p0 c_p0 p0, blk g_p1_0 (.cells #[(.int .i64 p1_0.States), (.int .i64 p1_0.Symbols), (.slice A_p1_0_Actions p1_0.Actions.length c_p1_0_Actions)] 24 (0, 0)), rowR enc_Action A_p1_0_Actions c_p1_0_Actions p1_0.Actions] [] := St.init (ro_cons hR0 (ro_cons hR1 (ro_cons hR2 (ro_nil _ _))))
  refine enter 19 Try.func65 rfl Try.ntmps65 rfl ?_
  unfold slices_IndexFunc_int_int_with_machine_Fits_1 at hf
  refine WC.seq ?_
  refine WC.region ?_
  refine seg 1 [] [0, 1] [(0, (.slice A_p0 p0.length c_p0)), (1, (.func (.func 50) #[] #[(.pointer (some ⟨g_p1_0, 0, none⟩))]))] [] (fun fb => by kernel_rfl) rfl trivial ?_
  refine WL.done rfl ?_
  refine WX.next ?_
  refine WC.seq ?_
  refine WC.seq ?_
  refine WC.region ?_
  refine seg 3 [] [0, 1, 7, 8] [(0, (.slice A_p0 p0.length c_p0)), (1, (.func (.func 50) #[] #[(.pointer (some ⟨g_p1_0, 0, none⟩))])), (7, (.int .i64 (p0.length : Int))), (8, (.int .i64 0))] [] (fun fb => by kernel_rfl) rfl trivial ?_
  refine WL.done rfl ?_
  refine WX.next ?_
  obtain ⟨x1563, hx1564, hf⟩ := bind_some hf
  refine WC.cutN (T := Unit) (fun t => []) (fun t w1 => St NoS w w1 [rowR encInt A_p0 c_p0 p0, blk g_p1_0 (.cells #[(.int .i64 p1_0.States), (.int .i64 p1_0.Symbols), (.slice A_p1_0_Actions p1_0.Actions.length c_p1_0_Actions)] 24 (0, 0)), rowR enc_Action A_p1_0_Actions c_p1_0_Actions p1_0.Actions] [] ∧ x1563 = .inr t) (fun Kx1563 => ?_) ?_
  ·
    refine WC.block ?_
    refine WC.loop (T := Int) (fun t => [(0, (.slice A_p0 p0.length c_p0)), (1, (.func (.func 50) #[] #[(.pointer (some ⟨g_p1_0, 0, none⟩))])), (7, (.int .i64 (p0.length : Int))), (8, (.int .i64 t))]) (fun n t w1 => St NoS w w1 [rowR encInt A_p0 c_p0 p0, blk g_p1_0 (.cells #[(.int .i64 p1_0.States), (.int .i64 p1_0.Symbols), (.slice A_p1_0_Actions p1_0.Actions.length c_p1_0_Actions)] 24 (0, 0)), rowR enc_Action A_p1_0_Actions c_p1_0_Actions p1_0.Actions] [] ∧ slices_IndexFunc_int_int_with_machine_Fits_1.l0 n t p0 p1_0 = some x1563) k 0 [0, 1, 7, 8] rfl ⟨(hS.subR [0, 1, 2]).sub [] (by decide), hx1564⟩ ?_
    rintro k1565 x1562 w1566 ⟨hS1567, hl1568⟩
    cases k1565 with
    | zero => rw [slices_IndexFunc_int_int_with_machine_Fits_1.l0] at hl1568; cases hl1568
    | succ k1565 =>
      rw [slices_IndexFunc_int_int_with_machine_Fits_1.l0] at hl1568
      refine WC.seq ?_
      refine WC.region ?_
      refine seg 1 [] [0, 1, 7, 8, 9] [(0, (.slice A_p0 p0.length c_p0)), (1, (.func (.func 50) #[] #[(.pointer (some ⟨g_p1_0, 0, none⟩))])), (7, (.int .i64 (p0.length : Int))), (8, (.int .i64 x1562)), (9, (.bool (decide (x1562 < (p0.length : Int)))))] [] (fun fb => by kernel_rfl) rfl trivial ?_
      refine WL.done rfl ?_
      refine WX.next ?_
      refine WC.seq ?_
      rcases br_some hl1568 with ⟨h1569, hl1568⟩ | ⟨h1569, hl1568⟩
      · refine WC.condT2 (fun fb => by kernel_rfl) h1569 ?_
        refine WC.skip ?_
        refine WX.next ?_
        refine WC.seq ?_
        refine WC.block ?_
        refine WC.seq ?_
        refine WC.region ?_
        refine seg 2 [] [0, 1, 5, 7, 8] [(0, (.slice A_p0 p0.length c_p0)), (1, (.func (.func 50) #[] #[(.pointer (some ⟨g_p1_0, 0, none⟩))])), (5, (.int .i64 x1562)), (7, (.int .i64 (p0.length : Int))), (8, (.int .i64 x1562))] [] (fun fb => by kernel_rfl) rfl trivial ?_
        refine WL.done rfl ?_
        refine WX.next ?_
        refine WC.seq ?_
        refine WC.region ?_
        refine seg 3 [] [0, 1, 5, 7, 8, 11, 12, 13] [(0, (.slice A_p0 p0.length c_p0)), (1, (.func (.func 50) #[] #[(.pointer (some ⟨g_p1_0, 0, none⟩))])), (5, (.int .i64 x1562)), (7, (.int .i64 (p0.length : Int))), (8, (.int .i64 x1562)), (11, (.func (.func 50) #[] #[(.pointer (some ⟨g_p1_0, 0, none⟩))])), (12, (.slice A_p0 p0.length c_p0)), (13, (.int .i64 x1562))] [] (fun fb => by kernel_rfl) rfl trivial ?_
        obtain ⟨h1570, hl1568⟩ := as_some hl1568
        refine seg 5 [.v (.int .i64 (rdD p0 x1562 0))] [0, 1, 5, 7, 8, 11, 15] [(0, (.slice A_p0 p0.length c_p0)), (1, (.func (.func 50) #[] #[(.pointer (some ⟨g_p1_0, 0, none⟩))])), (5, (.int .i64 x1562)), (7, (.int .i64 (p0.length : Int))), (8, (.int .i64 x1562)), (11, (.func (.func 50) #[] #[(.pointer (some ⟨g_p1_0, 0, none⟩))])), (15, (.int .i64 (rdD p0 x1562 0)))] [.idx A_p0 x1562 p0.length, .cell ((adr A_p0).add ((x1562).toNat * 1)) (.int .i64 (rdD p0 x1562 0))] (fun fb => by kernel_rfl) rfl ⟨rowR.adr (hS1567.rd 0).1 h1570.1 h1570.2, rowR.cell (hS1567.rd 0).1 0 h1570.1 h1570.2 0 rfl, trivial⟩ ?_
        obtain ⟨t1571, ht1572, hl1568⟩ := bind_some hl1568
        refine WL.call (some 16) 50 #[(.int .i64 (rdD p0 x1562 0)), (.pointer (some ⟨g_p1_0, 0, none⟩))] (fun fb => by kernel_rfl) (machine_Fits_1_calls (rdD p0 x1562 0) p1_0 g_p1_0 A_p1_0_Actions c_p1_0_Actions t1571 _ (hS1567.rd 1) (hS1567.rd 2) ht1572) (fun v w1573 hR1574 => ?_)
        obtain ⟨rfl, hk_⟩ := hR1574
        have hS1575 := hS1567.keepN hk_
        refine ⟨trivial, ?_⟩
        refine WL.done rfl ?_
        refine WX.next ?_
        rcases br_some hl1568 with ⟨h1576, hl1568⟩ | ⟨h1576, hl1568⟩
        · refine WC.condT2 (fun fb => by kernel_rfl) h1576 ?_
          refine WC.seq ?_
          refine WC.region ?_
          refine seg 2 [] [4] [(4, (.int .i64 x1562))] [] (fun fb => by kernel_rfl) rfl trivial ?_
          refine WL.done rfl ?_
          refine WX.next ?_
          refine WC.ret ?_
          injection hl1568 with hl1568
          subst hl1568
          injection hf with hf
          subst hf
          exact WX.blockR (WX.thenR (WX.thenR (WX.blockR (WX.thenR (WX.ret_ [] (.int .i64 x1562) [] (fun fb => by kernel_rfl) trivial ⟨_, rfl, rfl, hS1575.keep⟩)))))
        refine WC.condF2 (fun fb => by kernel_rfl) h1576 ?_
        refine WC.skip ?_
        refine WX.blockN (WX.next ?_)
        refine WC.region ?_
        refine seg 2 [] [0, 1, 7, 8] [(0, (.slice A_p0 p0.length c_p0)), (1, (.func (.func 50) #[] #[(.pointer (some ⟨g_p1_0, 0, none⟩))])), (7, (.int .i64 (p0.length : Int))), (8, (.int .i64 (w64 (x1562 + 1))))] [] (fun fb => by kernel_rfl) rfl trivial ?_
        refine WL.done rfl ?_
        exact WX.again k1565 (Nat.lt_succ_self _) (w64 (x1562 + 1)) [0, 1, 7, 8] rfl ⟨(hS1575.subR [0, 1, 2]).sub [] (by decide), hl1568⟩
      refine WC.condF2 (fun fb => by kernel_rfl) h1569 ?_
      refine WC.exit ?_
      injection hl1568 with hl1568
      exact WX.thenX (WX.thenX (WX.blockHere (WX.to Kx1563 () [] rfl ⟨(hS1567.subR [0, 1, 2]).sub [] (by decide), hl1568.symm⟩)))
  rintro y1580 w1577 ⟨hS1578, hq1579⟩
  subst hq1579
  have hf := sum_inr hf
  refine WX.next ?_
  refine WC.seq ?_
  refine WC.region ?_
  refine seg 1 [] [4] [(4, (.int .i64 (-1)))] [] (fun fb => by kernel_rfl) rfl trivial ?_
  refine WL.done rfl ?_
  refine WX.next ?_
  refine WC.ret ?_
  injection hf with hf
  subst hf
  exact WX.ret_ [] (.int .i64 (-1)) [] (fun fb => by kernel_rfl) trivial ⟨_, rfl, rfl, hS1578.keep⟩
theorem slices_ContainsFunc_int_int_with_machine_Fits_1_calls (k : Nat) (p0 : List Int) (p1_0 : Machine) (A_p0 : Option Addr) (c_p0 : Nat) (g_p1_0 : Nat) (A_p1_0_Actions : Option Addr) (c_p1_0_Actions : Nat) (r : Bool) (w : World) (hR0 : RO NoS w (rowR encInt A_p0 c_p0 p0)) (hR1 : RO NoS w (blk g_p1_0 (.cells #[(.int .i64 p1_0.States), (.int .i64 p1_0.Symbols), (.slice A_p1_0_Actions p1_0.Actions.length c_p1_0_Actions)] 24 (0, 0)))) (hR2 : RO NoS w (rowR enc_Action A_p1_0_Actions c_p1_0_Actions p1_0.Actions)) (hf : slices_ContainsFunc_int_int_with_machine_Fits_1 k p0 p1_0 = some r) :
    CallsR Try.prog 49 #[(.slice A_p0 p0.length c_p0), (.func (.func 50) #[] #[(.pointer (some ⟨g_p1_0, 0, none⟩))])] w (fun v w' => v = (.bool r) ∧ Keeps NoS w w') := by
  have hS : St NoS w w [rowR encInt A_p0 c_p0 p0, blk g_p1_0 (.cells #[(.int .i64 p1_0.States), (.int .i64 p1_0.Symbols), (.slice A_p1_0_Actions p1_0.Actions.length c_p1_0_Actions)] 24 (0, 0)), rowR enc_Action A_p1_0_Actions c_p1_0_Actions p1_0.Actions] [] := St.init (ro_cons hR0 (ro_cons hR1 (ro_cons hR2 (ro_nil _ _))))
  refine enter 9 Try.func49 rfl Try.ntmps49 rfl ?_
  unfold slices_ContainsFunc_int_int_with_machine_Fits_1 at hf
  refine WC.seq ?_
  refine WC.region ?_
  refine seg 1 [] [0, 1] [(0, (.slice A_p0 p0.length c_p0)), (1, (.func (.func 50) #[] #[(.pointer (some ⟨g_p1_0, 0, none⟩))]))] [] (fun fb => by kernel_rfl) rfl trivial ?_
  refine WL.done rfl ?_
  refine WX.next ?_
  refine WC.seq ?_
  refine WC.region ?_
  refine seg 2 [] [5, 6] [(5, (.slice A_p0 p0.length c_p0)), (6, (.func (.func 50) #[] #[(.pointer (some ⟨g_p1_0, 0, none⟩))]))] [] (fun fb => by kernel_rfl) rfl trivial ?_
  obtain ⟨t1582, ht1583, hf⟩ := bind_some hf
  refine WL.call (some 7) 65 #[(.slice A_p0 p0.length c_p0), (.func (.func 50) #[] #[(.pointer (some ⟨g_p1_0, 0, none⟩))])] (fun fb => by kernel_rfl) (slices_IndexFunc_int_int_with_machine_Fits_1_calls _ p0 p1_0 A_p0 c_p0 g_p1_0 A_p1_0_Actions c_p1_0_Actions t1582 _ (hS.rd 0) (hS.rd 1) (hS.rd 2) ht1583) (fun v w1584 hR1585 => ?_)
  obtain ⟨rfl, hk_⟩ := hR1585
  have hS1586 := hS.keepN hk_
  refine ⟨trivial, ?_⟩
  refine seg 5 [] [4] [(4, (.bool (decide (t1582 ≥ 0))))] [] (fun fb => by kernel_rfl) rfl trivial ?_
  refine WL.done rfl ?_
  refine WX.next ?_
  refine WC.ret ?_
  injection hf with hf
  subst hf
  exact WX.ret_ [] (.bool (decide (t1582 ≥ 0))) [] (fun fb => by kernel_rfl) trivial ⟨_, rfl, rfl, hS1586.keep⟩
theorem machine_Fits_calls (k : Nat) (p0 : Machine) (p1 : Config) (A_p0_Actions : Option Addr) (c_p0_Actions : Nat) (A_p1_Cells : Option Addr) (c_p1_Cells : Nat) (r : Bool) (w : World) (hR0 : RO NoS w (rowR enc_Action A_p0_Actions c_p0_Actions p0.Actions)) (hR1 : RO NoS w (rowR encInt A_p1_Cells c_p1_Cells p1.Cells)) (hf : machine_Fits k p0 p1 = some r) :
    CallsR Try.prog 18 #[(.agg #[(.int .i64 p0.States), (.int .i64 p0.Symbols), (.slice A_p0_Actions p0.Actions.length c_p0_Actions)]), (.agg #[(.int .i64 p1.State), (.int .i64 p1.At), (.slice A_p1_Cells p1.Cells.length c_p1_Cells)])] w (fun v w' => v = (.bool r) ∧ Keeps NoS w w') := by
  have hS : St NoS w w [rowR enc_Action A_p0_Actions c_p0_Actions p0.Actions, rowR encInt A_p1_Cells c_p1_Cells p1.Cells] [] := St.init (ro_cons hR0 (ro_cons hR1 (ro_nil _ _)))
  refine enter 51 Try.func18 rfl Try.ntmps18 rfl ?_
  unfold machine_Fits at hf
  refine WC.seq ?_
  refine WC.region ?_
  refine WL.new hS 2 [] (fun g => (.pointer (some ⟨g, 0, none⟩))) (.cells #[(.int .i64 p0.States), (.int .i64 p0.Symbols), (.slice A_p0_Actions p0.Actions.length c_p0_Actions)] 24 (0, 0)) [] (fun fb g => by kernel_rfl) trivial (fun g1518 w1519 hS1520 => ?_)
  refine ⟨trivial, ?_⟩
  refine WL.new hS1520 3 [] (fun g => (.pointer (some ⟨g, 0, none⟩))) (.cells #[(.int .i64 p1.State), (.int .i64 p1.At), (.slice A_p1_Cells p1.Cells.length c_p1_Cells)] 27 (0, 0)) [] (fun fb g => by kernel_rfl) trivial (fun g1522 w1523 hS1524 => ?_)
  refine ⟨trivial, ?_⟩
  refine seg 3 [] [2, 3] [(2, (.pointer (some ⟨g1518, 0, none⟩))), (3, (.pointer (some ⟨g1522, 0, none⟩)))] [] (fun fb => by kernel_rfl) rfl trivial ?_
  refine WL.done rfl ?_
  refine WX.next ?_
  refine WC.seq ?_
  refine WC.region ?_
  refine seg 1 [.v (.int .i64 p0.States), .v (.int .i64 p0.Symbols), .v (.slice A_p0_Actions p0.Actions.length c_p0_Actions)] [2, 3, 5] [(2, (.pointer (some ⟨g1518, 0, none⟩))), (3, (.pointer (some ⟨g1522, 0, none⟩))), (5, (.agg #[(.int .i64 p0.States), (.int .i64 p0.Symbols), (.slice A_p0_Actions p0.Actions.length c_p0_Actions)]))] [.cell ⟨g1518, 0, none⟩ (.int .i64 p0.States), .cell ⟨g1518, 1, none⟩ (.int .i64 p0.Symbols), .cell ⟨g1518, 2, none⟩ (.slice A_p0_Actions p0.Actions.length c_p0_Actions)] (fun fb => by kernel_rfl) rfl ⟨hS1524.cell 1 rfl 0 rfl, hS1524.cell 1 rfl 1 rfl, hS1524.cell 1 rfl 2 rfl, trivial⟩ ?_
  obtain ⟨t1526, ht1527, hf⟩ := bind_some hf
  refine WL.call (some 6) 16 #[(.agg #[(.int .i64 p0.States), (.int .i64 p0.Symbols), (.slice A_p0_Actions p0.Actions.length c_p0_Actions)])] (fun fb => by kernel_rfl) (machine_Valid_calls _ p0 A_p0_Actions c_p0_Actions t1526 _ (hS1524.rd 0) ht1527) (fun v w1528 hR1529 => ?_)
  obtain ⟨rfl, hk_⟩ := hR1529
  have hS1530 := hS1524.keepN hk_
  refine ⟨trivial, ?_⟩
  refine seg 3 [] [2, 3, 7] [(2, (.pointer (some ⟨g1518, 0, none⟩))), (3, (.pointer (some ⟨g1522, 0, none⟩))), (7, (.bool t1526))] [] (fun fb => by kernel_rfl) rfl trivial ?_
  refine WL.cutV (T := Bool) 7 (fun t => [(11, (.bool t)), (2, (.pointer (some ⟨g1518, 0, none⟩))), (3, (.pointer (some ⟨g1522, 0, none⟩)))]) (fun t => t = (t1526 && (decide (p1.State ≥ 0)))) (fun K => ?_) ?_
  ·
    rcases Bool.eq_false_or_eq_true t1526 with h1531 | h1531
    ·
      refine WL.setB 7 h1531 rfl ?_
      refine seg 7 [.v (.int .i64 p1.State)] [2, 3, 11] [(2, (.pointer (some ⟨g1518, 0, none⟩))), (3, (.pointer (some ⟨g1522, 0, none⟩))), (11, (.bool (decide (p1.State ≥ 0))))] [.cell ⟨g1522, 0, none⟩ (.int .i64 p1.State)] (fun fb => by kernel_rfl) rfl ⟨hS1530.cell 0 rfl 0 rfl, trivial⟩ ?_
      exact WL.toV K (decide (p1.State ≥ 0)) [11, 2, 3] rfl (by rw [h1531]; rfl)
    refine WL.setB 7 h1531 rfl ?_
    refine seg 7 [] [2, 3, 11] [(2, (.pointer (some ⟨g1518, 0, none⟩))), (3, (.pointer (some ⟨g1522, 0, none⟩))), (11, (.bool false))] [] (fun fb => by kernel_rfl) rfl trivial ?_
    exact WL.toV K false [11, 2, 3] rfl (by rw [h1531]; rfl)
  rintro b1532 rfl
  refine seg 8 [] [2, 3, 12] [(2, (.pointer (some ⟨g1518, 0, none⟩))), (3, (.pointer (some ⟨g1522, 0, none⟩))), (12, (.bool (t1526 && (decide (p1.State ≥ 0)))))] [] (fun fb => by kernel_rfl) rfl trivial ?_
  refine WL.cutV (T := Bool) 14 (fun t => [(18, (.bool t)), (2, (.pointer (some ⟨g1518, 0, none⟩))), (3, (.pointer (some ⟨g1522, 0, none⟩)))]) (fun t => t = ((t1526 && (decide (p1.State ≥ 0))) && (decide (p1.State < p0.States)))) (fun K => ?_) ?_
  ·
    rcases Bool.eq_false_or_eq_true (t1526 && (decide (p1.State ≥ 0))) with h1533 | h1533
    ·
      refine WL.setB 12 h1533 rfl ?_
      refine seg 14 [.v (.int .i64 p1.State), .v (.int .i64 p0.States)] [2, 3, 18] [(2, (.pointer (some ⟨g1518, 0, none⟩))), (3, (.pointer (some ⟨g1522, 0, none⟩))), (18, (.bool (decide (p1.State < p0.States))))] [.cell ⟨g1522, 0, none⟩ (.int .i64 p1.State), .cell ⟨g1518, 0, none⟩ (.int .i64 p0.States)] (fun fb => by kernel_rfl) rfl ⟨hS1530.cell 0 rfl 0 rfl, hS1530.cell 1 rfl 0 rfl, trivial⟩ ?_
      exact WL.toV K (decide (p1.State < p0.States)) [18, 2, 3] rfl (by rw [h1533]; rfl)
    refine WL.setB 12 h1533 rfl ?_
    refine seg 14 [] [2, 3, 18] [(2, (.pointer (some ⟨g1518, 0, none⟩))), (3, (.pointer (some ⟨g1522, 0, none⟩))), (18, (.bool false))] [] (fun fb => by kernel_rfl) rfl trivial ?_
    exact WL.toV K false [18, 2, 3] rfl (by rw [h1533]; rfl)
  rintro b1534 rfl
  refine seg 15 [] [2, 3, 19] [(2, (.pointer (some ⟨g1518, 0, none⟩))), (3, (.pointer (some ⟨g1522, 0, none⟩))), (19, (.bool ((t1526 && (decide (p1.State ≥ 0))) && (decide (p1.State < p0.States)))))] [] (fun fb => by kernel_rfl) rfl trivial ?_
  refine WL.cutV (T := Bool) 20 (fun t => [(24, (.bool t)), (2, (.pointer (some ⟨g1518, 0, none⟩))), (3, (.pointer (some ⟨g1522, 0, none⟩)))]) (fun t => t = (((t1526 && (decide (p1.State ≥ 0))) && (decide (p1.State < p0.States))) && (decide ((p1.Cells.length : Int) ≥ 1)))) (fun K => ?_) ?_
  ·
    rcases Bool.eq_false_or_eq_true ((t1526 && (decide (p1.State ≥ 0))) && (decide (p1.State < p0.States))) with h1535 | h1535
    ·
      refine WL.setB 19 h1535 rfl ?_
      refine seg 20 [.v (.slice A_p1_Cells p1.Cells.length c_p1_Cells)] [2, 3, 24] [(2, (.pointer (some ⟨g1518, 0, none⟩))), (3, (.pointer (some ⟨g1522, 0, none⟩))), (24, (.bool (decide ((p1.Cells.length : Int) ≥ 1))))] [.cell ⟨g1522, 2, none⟩ (.slice A_p1_Cells p1.Cells.length c_p1_Cells)] (fun fb => by kernel_rfl) rfl ⟨hS1530.cell 0 rfl 2 rfl, trivial⟩ ?_
      exact WL.toV K (decide ((p1.Cells.length : Int) ≥ 1)) [24, 2, 3] rfl (by rw [h1535]; rfl)
    refine WL.setB 19 h1535 rfl ?_
    refine seg 20 [] [2, 3, 24] [(2, (.pointer (some ⟨g1518, 0, none⟩))), (3, (.pointer (some ⟨g1522, 0, none⟩))), (24, (.bool false))] [] (fun fb => by kernel_rfl) rfl trivial ?_
    exact WL.toV K false [24, 2, 3] rfl (by rw [h1535]; rfl)
  rintro b1536 rfl
  refine seg 21 [] [2, 3, 25] [(2, (.pointer (some ⟨g1518, 0, none⟩))), (3, (.pointer (some ⟨g1522, 0, none⟩))), (25, (.bool (((t1526 && (decide (p1.State ≥ 0))) && (decide (p1.State < p0.States))) && (decide ((p1.Cells.length : Int) ≥ 1)))))] [] (fun fb => by kernel_rfl) rfl trivial ?_
  refine WL.cutV (T := Bool) 26 (fun t => [(30, (.bool t)), (2, (.pointer (some ⟨g1518, 0, none⟩))), (3, (.pointer (some ⟨g1522, 0, none⟩)))]) (fun t => t = ((((t1526 && (decide (p1.State ≥ 0))) && (decide (p1.State < p0.States))) && (decide ((p1.Cells.length : Int) ≥ 1))) && (decide ((p1.Cells.length : Int) ≤ 200)))) (fun K => ?_) ?_
  ·
    rcases Bool.eq_false_or_eq_true (((t1526 && (decide (p1.State ≥ 0))) && (decide (p1.State < p0.States))) && (decide ((p1.Cells.length : Int) ≥ 1))) with h1537 | h1537
    ·
      refine WL.setB 25 h1537 rfl ?_
      refine seg 26 [.v (.slice A_p1_Cells p1.Cells.length c_p1_Cells)] [2, 3, 30] [(2, (.pointer (some ⟨g1518, 0, none⟩))), (3, (.pointer (some ⟨g1522, 0, none⟩))), (30, (.bool (decide ((p1.Cells.length : Int) ≤ 200))))] [.cell ⟨g1522, 2, none⟩ (.slice A_p1_Cells p1.Cells.length c_p1_Cells)] (fun fb => by kernel_rfl) rfl ⟨hS1530.cell 0 rfl 2 rfl, trivial⟩ ?_
      exact WL.toV K (decide ((p1.Cells.length : Int) ≤ 200)) [30, 2, 3] rfl (by rw [h1537]; rfl)
    refine WL.setB 25 h1537 rfl ?_
    refine seg 26 [] [2, 3, 30] [(2, (.pointer (some ⟨g1518, 0, none⟩))), (3, (.pointer (some ⟨g1522, 0, none⟩))), (30, (.bool false))] [] (fun fb => by kernel_rfl) rfl trivial ?_
    exact WL.toV K false [30, 2, 3] rfl (by rw [h1537]; rfl)
  rintro b1538 rfl
  refine seg 27 [] [2, 3, 31] [(2, (.pointer (some ⟨g1518, 0, none⟩))), (3, (.pointer (some ⟨g1522, 0, none⟩))), (31, (.bool ((((t1526 && (decide (p1.State ≥ 0))) && (decide (p1.State < p0.States))) && (decide ((p1.Cells.length : Int) ≥ 1))) && (decide ((p1.Cells.length : Int) ≤ 200)))))] [] (fun fb => by kernel_rfl) rfl trivial ?_
  refine WL.cutV (T := Bool) 31 (fun t => [(35, (.bool t)), (2, (.pointer (some ⟨g1518, 0, none⟩))), (3, (.pointer (some ⟨g1522, 0, none⟩)))]) (fun t => t = (((((t1526 && (decide (p1.State ≥ 0))) && (decide (p1.State < p0.States))) && (decide ((p1.Cells.length : Int) ≥ 1))) && (decide ((p1.Cells.length : Int) ≤ 200))) && (decide (p1.At ≥ 0)))) (fun K => ?_) ?_
  ·
    rcases Bool.eq_false_or_eq_true ((((t1526 && (decide (p1.State ≥ 0))) && (decide (p1.State < p0.States))) && (decide ((p1.Cells.length : Int) ≥ 1))) && (decide ((p1.Cells.length : Int) ≤ 200))) with h1539 | h1539
    ·
      refine WL.setB 31 h1539 rfl ?_
      refine seg 31 [.v (.int .i64 p1.At)] [2, 3, 35] [(2, (.pointer (some ⟨g1518, 0, none⟩))), (3, (.pointer (some ⟨g1522, 0, none⟩))), (35, (.bool (decide (p1.At ≥ 0))))] [.cell ⟨g1522, 1, none⟩ (.int .i64 p1.At)] (fun fb => by kernel_rfl) rfl ⟨hS1530.cell 0 rfl 1 rfl, trivial⟩ ?_
      exact WL.toV K (decide (p1.At ≥ 0)) [35, 2, 3] rfl (by rw [h1539]; rfl)
    refine WL.setB 31 h1539 rfl ?_
    refine seg 31 [] [2, 3, 35] [(2, (.pointer (some ⟨g1518, 0, none⟩))), (3, (.pointer (some ⟨g1522, 0, none⟩))), (35, (.bool false))] [] (fun fb => by kernel_rfl) rfl trivial ?_
    exact WL.toV K false [35, 2, 3] rfl (by rw [h1539]; rfl)
  rintro b1540 rfl
  refine seg 32 [] [2, 3, 36] [(2, (.pointer (some ⟨g1518, 0, none⟩))), (3, (.pointer (some ⟨g1522, 0, none⟩))), (36, (.bool (((((t1526 && (decide (p1.State ≥ 0))) && (decide (p1.State < p0.States))) && (decide ((p1.Cells.length : Int) ≥ 1))) && (decide ((p1.Cells.length : Int) ≤ 200))) && (decide (p1.At ≥ 0)))))] [] (fun fb => by kernel_rfl) rfl trivial ?_
  refine WL.cutV (T := Bool) 39 (fun t => [(43, (.bool t)), (2, (.pointer (some ⟨g1518, 0, none⟩))), (3, (.pointer (some ⟨g1522, 0, none⟩)))]) (fun t => t = ((((((t1526 && (decide (p1.State ≥ 0))) && (decide (p1.State < p0.States))) && (decide ((p1.Cells.length : Int) ≥ 1))) && (decide ((p1.Cells.length : Int) ≤ 200))) && (decide (p1.At ≥ 0))) && (decide (p1.At < (p1.Cells.length : Int))))) (fun K => ?_) ?_
  ·
    rcases Bool.eq_false_or_eq_true (((((t1526 && (decide (p1.State ≥ 0))) && (decide (p1.State < p0.States))) && (decide ((p1.Cells.length : Int) ≥ 1))) && (decide ((p1.Cells.length : Int) ≤ 200))) && (decide (p1.At ≥ 0))) with h1541 | h1541
    ·
      refine WL.setB 36 h1541 rfl ?_
      refine seg 39 [.v (.int .i64 p1.At), .v (.slice A_p1_Cells p1.Cells.length c_p1_Cells)] [2, 3, 43] [(2, (.pointer (some ⟨g1518, 0, none⟩))), (3, (.pointer (some ⟨g1522, 0, none⟩))), (43, (.bool (decide (p1.At < (p1.Cells.length : Int)))))] [.cell ⟨g1522, 1, none⟩ (.int .i64 p1.At), .cell ⟨g1522, 2, none⟩ (.slice A_p1_Cells p1.Cells.length c_p1_Cells)] (fun fb => by kernel_rfl) rfl ⟨hS1530.cell 0 rfl 1 rfl, hS1530.cell 0 rfl 2 rfl, trivial⟩ ?_
      exact WL.toV K (decide (p1.At < (p1.Cells.length : Int))) [43, 2, 3] rfl (by rw [h1541]; rfl)
    refine WL.setB 36 h1541 rfl ?_
    refine seg 39 [] [2, 3, 43] [(2, (.pointer (some ⟨g1518, 0, none⟩))), (3, (.pointer (some ⟨g1522, 0, none⟩))), (43, (.bool false))] [] (fun fb => by kernel_rfl) rfl trivial ?_
    exact WL.toV K false [43, 2, 3] rfl (by rw [h1541]; rfl)
  rintro b1542 rfl
  refine seg 40 [] [2, 3, 44] [(2, (.pointer (some ⟨g1518, 0, none⟩))), (3, (.pointer (some ⟨g1522, 0, none⟩))), (44, (.bool ((((((t1526 && (decide (p1.State ≥ 0))) && (decide (p1.State < p0.States))) && (decide ((p1.Cells.length : Int) ≥ 1))) && (decide ((p1.Cells.length : Int) ≤ 200))) && (decide (p1.At ≥ 0))) && (decide (p1.At < (p1.Cells.length : Int))))))] [] (fun fb => by kernel_rfl) rfl trivial ?_
  obtain ⟨x1593, hx1594, hf⟩ := bind_some hf
  refine WL.cutW (T := Bool) 46 (fun t => [(50, (.bool t))]) (fun t w1 => (St NoS w w1 [rowR enc_Action A_p0_Actions c_p0_Actions p0.Actions, rowR encInt A_p1_Cells c_p1_Cells p1.Cells] [] ∧ x1593 = t) ∧ CellsOK [] w1) (fun K => ?_) ?_
  ·
    rcases br_some hx1594 with ⟨h1595, hx1594⟩ | ⟨h1595, hx1594⟩
    ·
      refine WL.setB 44 h1595 rfl ?_
      refine seg 43 [.v (.slice A_p1_Cells p1.Cells.length c_p1_Cells)] [44, 46, 47] [(44, (.bool true)), (46, (.slice A_p1_Cells p1.Cells.length c_p1_Cells)), (47, (.func (.func 50) #[] #[(.pointer (some ⟨g1518, 0, none⟩))]))] [.cell ⟨g1522, 2, none⟩ (.slice A_p1_Cells p1.Cells.length c_p1_Cells)] (fun fb => by kernel_rfl) rfl ⟨hS1530.cell 0 rfl 2 rfl, trivial⟩ ?_
      obtain ⟨t1596, ht1597, hx1594⟩ := bind_some hx1594
      refine WL.call (some 48) 49 #[(.slice A_p1_Cells p1.Cells.length c_p1_Cells), (.func (.func 50) #[] #[(.pointer (some ⟨g1518, 0, none⟩))])] (fun fb => by kernel_rfl) (slices_ContainsFunc_int_int_with_machine_Fits_1_calls _ p1.Cells p0 A_p1_Cells c_p1_Cells g1518 A_p0_Actions c_p0_Actions t1596 _ (hS1530.rd 1) (hS1530.ow 1) (hS1530.rd 0) ht1597) (fun v w1598 hR1599 => ?_)
      obtain ⟨rfl, hk_⟩ := hR1599
      have hS1600 := hS1530.keepN hk_
      refine ⟨trivial, ?_⟩
      refine seg 46 [] [50] [(50, (.bool (!t1596)))] [] (fun fb => by kernel_rfl) rfl trivial ?_
      injection hx1594 with hx1594
      exact WL.to K (!t1596) [50] rfl ⟨⟨(hS1600.subR [0, 1]).sub [] (by decide), hx1594.symm⟩, trivial⟩
    refine WL.setB 44 h1595 rfl ?_
    refine seg 46 [] [50] [(50, (.bool false))] [] (fun fb => by kernel_rfl) rfl trivial ?_
    injection hx1594 with hx1594
    exact WL.to K false [50] rfl ⟨⟨(hS1530.subR [0, 1]).sub [] (by decide), hx1594.symm⟩, trivial⟩
  rintro y1601 w1603 ⟨⟨hS1604, hq1602⟩, hF1605⟩
  subst hq1602
  refine seg 47 [] [4] [(4, (.bool x1593))] [] (fun fb => by kernel_rfl) rfl trivial ?_
  refine WL.done rfl ?_
  refine WX.next ?_
  refine WC.ret ?_
  injection hf with hf
  subst hf
  exact WX.ret_ [] (.bool x1593) [] (fun fb => by kernel_rfl) trivial ⟨_, rfl, rfl, hS1604.keep⟩
theorem slices_Clone_int_int_nil_calls (p0 : List Int) (c_p0 : Nat) (r : (List Int)) (w : World) (hR0 : RO NoS w (rowR encInt none c_p0 ([] : List Int))) (hf : slices_Clone_int_int_nil p0 = some r) :
    CallsR Try.prog 54 #[(.slice none ([] : List Int).length c_p0)] w (fun v w' => ∃ (A1_ : Option Addr), ∃ (c1_ : Nat), v = (.slice A1_ r.length c1_) ∧ St NoS w w' [] [rowO 3 encInt A1_ c1_ r]) := by
  have hS : St NoS w w [rowR encInt none c_p0 ([] : List Int)] [] := St.init (ro_cons hR0 (ro_nil _ _))
  refine enter 8 Try.func54 rfl Try.ntmps54 rfl ?_
  unfold slices_Clone_int_int_nil at hf
  refine WC.seq ?_
  refine WC.region ?_
  refine seg 1 [] [0] [(0, (.slice none ([] : List Int).length c_p0))] [] (fun fb => by kernel_rfl) rfl trivial ?_
  refine WL.done rfl ?_
  refine WX.next ?_
  refine WC.seq ?_
  refine WC.seq ?_
  refine WC.region ?_
  refine seg 2 [] [0, 4] [(0, (.slice none ([] : List Int).length c_p0)), (4, (.bool true))] [] (fun fb => by kernel_rfl) rfl trivial ?_
  refine WL.done rfl ?_
  refine WX.next ?_
  refine WC.condT (fun fb => by kernel_rfl) ?_
  refine WC.seq ?_
  refine WC.region ?_
  refine seg 1 [] [2] [(2, (.slice none 0 0))] [] (fun fb => by kernel_rfl) rfl trivial ?_
  refine WL.done rfl ?_
  refine WX.next ?_
  refine WC.ret ?_
  have hS1629 := hS.nilrow 3 encInt
  injection hf with hf
  subst hf
  exact WX.thenR (WX.ret_ [] (.slice none ([] : List Int).length 0) [] (fun fb => by kernel_rfl) trivial ⟨_, rfl, none, 0, rfl, (hS1629.sub [0] (by decide)).noR⟩)
theorem slices_Clone_int_int_some_calls (p0 : List Int) (a_p0 : Addr) (c_p0 : Nat) (r : (List Int)) (w : World) (hR0 : RO NoS w (rowR encInt (some a_p0) c_p0 p0)) (hf : slices_Clone_int_int_some p0 = some r) :
    CallsR Try.prog 54 #[(.slice (some a_p0) p0.length c_p0)] w (fun v w' => ∃ (A1_ : Option Addr), ∃ (c1_ : Nat), v = (.slice A1_ r.length c1_) ∧ St NoS w w' [] [rowO 3 encInt A1_ c1_ r]) := by
  have hS : St NoS w w [rowR encInt (some a_p0) c_p0 p0] [] := St.init (ro_cons hR0 (ro_nil _ _))
  refine enter 8 Try.func54 rfl Try.ntmps54 rfl ?_
  unfold slices_Clone_int_int_some at hf
  refine WC.seq ?_
  refine WC.region ?_
  refine seg 1 [] [0] [(0, (.slice (some a_p0) p0.length c_p0))] [] (fun fb => by kernel_rfl) rfl trivial ?_
  refine WL.done rfl ?_
  refine WX.next ?_
  refine WC.seq ?_
  refine WC.seq ?_
  refine WC.region ?_
  refine seg 2 [] [0, 4] [(0, (.slice (some a_p0) p0.length c_p0)), (4, (.bool false))] [] (fun fb => by kernel_rfl) rfl trivial ?_
  refine WL.done rfl ?_
  refine WX.next ?_
  refine WC.condF (fun fb => by kernel_rfl) ?_
  refine WC.skip ?_
  refine WX.next ?_
  refine WC.seq ?_
  refine WC.region ?_
  refine WL.new hS 5 [] (fun g => (.slice (some ⟨g, 0, none⟩) 0 0)) (.cells #[] 3 (0, 0)) [] (fun fb g => by kernel_rfl) trivial (fun g1630 w1631 hS1632 => ?_)
  refine ⟨trivial, ?_⟩
  have hS1634 : St NoS w w1631 [rowR encInt (some a_p0) c_p0 p0] [rowO 3 encInt (some ⟨g1630, 0, none⟩) 0 ([] : List Int)] := hS1632.map1 0 _ (fun h => rowO.ofBlk h rfl (Nat.le_of_ble_eq_true (by kernel_rfl))) (fun _ h => by obtain ⟨_, h1, h2⟩ := h; injection h1 with h1; subst h1; exact h2) [] (by decide) (by decide)
  refine seg 2 [] [5, 6] [(5, (.slice (some ⟨g1630, 0, none⟩) ([] : List Int).length 0)), (6, (.slice (some a_p0) p0.length c_p0))] [] (fun fb => by kernel_rfl) rfl trivial ?_
  obtain ⟨h1635, hf⟩ := as_some hf
  refine WL.append hS1634 0 (d := 7) (tS := 25) (z := (.int .i64 0)) (bytes := 8) (c2 := c_p0) rfl (fun fb => by kernel_rfl) (hS1634.rd 0).1 (by kernel_rfl) (by kernel_rfl) rfl (by decide) h1635 (by decide) [] (by decide) (by decide) (fun A1636 c1637 w1638 hS1639 => ?_)
  refine ⟨trivial, ?_⟩
  refine seg 4 [] [2] [(2, (.slice A1636 (([] : List Int) ++ p0).length c1637))] [] (fun fb => by kernel_rfl) rfl trivial ?_
  refine WL.done rfl ?_
  refine WX.next ?_
  refine WC.ret ?_
  injection hf with hf
  subst hf
  exact WX.ret_ [] (.slice A1636 (([] : List Int) ++ p0).length c1637) [] (fun fb => by kernel_rfl) trivial ⟨_, rfl, A1636, c1637, rfl, (hS1639.sub [0] (by decide)).noR⟩
theorem slices_Clone_int_int_calls (p0 : List Int) (A_p0 : Option Addr) (c_p0 : Nat) (r : List Int) (w : World) (hR0 : RO NoS w (rowR encInt A_p0 c_p0 p0)) (hf : slices_Clone_int_int p0 = some r) :
    CallsR Try.prog 54 #[(.slice A_p0 p0.length c_p0)] w (fun v w' => ∃ (A1_ : Option Addr), ∃ (c1_ : Nat), v = (.slice A1_ r.length c1_) ∧ St NoS w w' [] [rowO 3 encInt A1_ c1_ r]) := by
  unfold slices_Clone_int_int at hf
  cases A_p0 with
  | none =>
    have h3 : p0 = [] := by
      cases p0 with
      | nil => rfl
      | cons x xs => exact absurd (hR0.1.1 0 x rfl).1 (by simp)
    subst h3
    rw [slices_Clone_int_int_some] at hf
    obtain ⟨h4, hf⟩ := as_some hf
    injection hf with hf; subst hf
    exact slices_Clone_int_int_nil_calls [] c_p0 [] w hR0 rfl
  | some a => exact slices_Clone_int_int_some_calls p0 a c_p0 r w hR0 hf
theorem machine_begin_calls (p0 : Machine) (p1 : Config) (A_p0_Actions : Option Addr) (c_p0_Actions : Nat) (A_p1_Cells : Option Addr) (c_p1_Cells : Nat) (r : Runner) (w : World) (hR0 : RO NoS w (rowR enc_Action A_p0_Actions c_p0_Actions p0.Actions)) (hR1 : RO NoS w (rowR encInt A_p1_Cells c_p1_Cells p1.Cells)) (hf : machine_begin p0 p1 = some r) :
    CallsR Try.prog 42 #[(.agg #[(.int .i64 p0.States), (.int .i64 p0.Symbols), (.slice A_p0_Actions p0.Actions.length c_p0_Actions)]), (.agg #[(.int .i64 p1.State), (.int .i64 p1.At), (.slice A_p1_Cells p1.Cells.length c_p1_Cells)])] w (fun v w' => ∃ (g1_ : Nat), ∃ (A2_ : Option Addr), ∃ (c2_ : Nat), v = (.pointer (some ⟨g1_, 0, none⟩)) ∧ St NoS w w' [] [blk g1_ (.cells #[(.int .i64 r.m.States), (.int .i64 r.m.Symbols), (.slice A_p0_Actions p0.Actions.length c_p0_Actions), (.int .i64 r.Config.State), (.int .i64 r.Config.At), (.slice A2_ r.Config.Cells.length c2_)] 82 (0, 0)), rowO 3 encInt A2_ c2_ r.Config.Cells]) := by
  have hS : St NoS w w [rowR enc_Action A_p0_Actions c_p0_Actions p0.Actions, rowR encInt A_p1_Cells c_p1_Cells p1.Cells] [] := St.init (ro_cons hR0 (ro_cons hR1 (ro_nil _ _)))
  refine enter 13 Try.func42 rfl Try.ntmps42 rfl ?_
  unfold machine_begin at hf
  refine WC.seq ?_
  refine WC.region ?_
  refine WL.new hS 2 [] (fun g => (.pointer (some ⟨g, 0, none⟩))) (.cells #[(.int .i64 p0.States), (.int .i64 p0.Symbols), (.slice A_p0_Actions p0.Actions.length c_p0_Actions)] 24 (0, 0)) [] (fun fb g => by kernel_rfl) trivial (fun g1621 w1622 hS1623 => ?_)
  refine ⟨trivial, ?_⟩
  refine WL.new hS1623 3 [] (fun g => (.pointer (some ⟨g, 0, none⟩))) (.cells #[(.int .i64 p1.State), (.int .i64 p1.At), (.slice A_p1_Cells p1.Cells.length c_p1_Cells)] 27 (0, 0)) [] (fun fb g => by kernel_rfl) trivial (fun g1625 w1626 hS1627 => ?_)
  refine ⟨trivial, ?_⟩
  refine seg 3 [] [2, 3] [(2, (.pointer (some ⟨g1621, 0, none⟩))), (3, (.pointer (some ⟨g1625, 0, none⟩)))] [] (fun fb => by kernel_rfl) rfl trivial ?_
  refine WL.done rfl ?_
  refine WX.next ?_
  refine WC.seq ?_
  refine WC.region ?_
  refine seg 2 [.v (.slice A_p1_Cells p1.Cells.length c_p1_Cells)] [2, 3, 6] [(2, (.pointer (some ⟨g1621, 0, none⟩))), (3, (.pointer (some ⟨g1625, 0, none⟩))), (6, (.slice A_p1_Cells p1.Cells.length c_p1_Cells))] [.cell ⟨g1625, 2, none⟩ (.slice A_p1_Cells p1.Cells.length c_p1_Cells)] (fun fb => by kernel_rfl) rfl ⟨hS1627.cell 0 rfl 2 rfl, trivial⟩ ?_
  obtain ⟨t1640, ht1641, hf⟩ := bind_some hf
  refine WL.call (some 7) 54 #[(.slice A_p1_Cells p1.Cells.length c_p1_Cells)] (fun fb => by kernel_rfl) (slices_Clone_int_int_calls p1.Cells A_p1_Cells c_p1_Cells t1640 _ (hS1627.rd 1) ht1641) (fun v w1642 hR1643 => ?_)
  obtain ⟨A1645, c1646, rfl, hk_⟩ := hR1643
  have hS1644 : St NoS w w1642 [rowR enc_Action A_p0_Actions c_p0_Actions p0.Actions, rowR encInt A_p1_Cells c_p1_Cells p1.Cells] [rowO 3 encInt A1645 c1646 t1640, blk g1625 (.cells #[(.int .i64 p1.State), (.int .i64 p1.At), (.slice A_p1_Cells p1.Cells.length c_p1_Cells)] 27 (0, 0)), blk g1621 (.cells #[(.int .i64 p0.States), (.int .i64 p0.Symbols), (.slice A_p0_Actions p0.Actions.length c_p0_Actions)] 24 (0, 0))] := hS1627.call hk_ [] [0, 1] (fun g hg => hg.elim) (by simp) (by decide)
  refine ⟨trivial, ?_⟩
  refine seg 4 [] [2, 3, 7, 8] [(2, (.pointer (some ⟨g1621, 0, none⟩))), (3, (.pointer (some ⟨g1625, 0, none⟩))), (7, (.slice A1645 t1640.length c1646)), (8, (.pointer (some ⟨g1625, 2, none⟩)))] [] (fun fb => by kernel_rfl) rfl trivial ?_
  refine WL.store hS1644 1 rfl [(2, (.slice A1645 t1640.length c1646))] #[(.int .i64 p1.State), (.int .i64 p1.At), (.slice A1645 t1640.length c1646)] (fun fb => by kernel_rfl) (by kernel_rfl) rfl [0, 2] (by decide) (by decide) (fun w1647 hS1648 => ?_)
  refine ⟨trivial, ?_⟩
  refine WL.done rfl ?_
  refine WX.next ?_
  refine WC.seq ?_
  refine WC.region ?_
  refine seg 3 [.v (.int .i64 p0.States), .v (.int .i64 p0.Symbols), .v (.slice A_p0_Actions p0.Actions.length c_p0_Actions), .v (.int .i64 p1.State), .v (.int .i64 p1.At), .v (.slice A1645 t1640.length c1646)] [11] [(11, (.agg #[(.int .i64 p0.States), (.int .i64 p0.Symbols), (.slice A_p0_Actions p0.Actions.length c_p0_Actions), (.int .i64 p1.State), (.int .i64 p1.At), (.slice A1645 t1640.length c1646)]))] [.cell ⟨g1621, 0, none⟩ (.int .i64 p0.States), .cell ⟨g1621, 1, none⟩ (.int .i64 p0.Symbols), .cell ⟨g1621, 2, none⟩ (.slice A_p0_Actions p0.Actions.length c_p0_Actions), .cell ⟨g1625, 0, none⟩ (.int .i64 p1.State), .cell ⟨g1625, 1, none⟩ (.int .i64 p1.At), .cell ⟨g1625, 2, none⟩ (.slice A1645 t1640.length c1646)] (fun fb => by kernel_rfl) rfl ⟨hS1648.cell 2 rfl 0 rfl, hS1648.cell 2 rfl 1 rfl, hS1648.cell 2 rfl 2 rfl, hS1648.cell 0 rfl 0 rfl, hS1648.cell 0 rfl 1 rfl, hS1648.cell 0 rfl 2 rfl, trivial⟩ ?_
  refine WL.new hS1648 12 [] (fun g => (.pointer (some ⟨g, 0, none⟩))) (.cells #[(.int .i64 p0.States), (.int .i64 p0.Symbols), (.slice A_p0_Actions p0.Actions.length c_p0_Actions), (.int .i64 p1.State), (.int .i64 p1.At), (.slice A1645 t1640.length c1646)] 82 (0, 0)) [] (fun fb g => by kernel_rfl) trivial (fun g1649 w1650 hS1651 => ?_)
  refine ⟨trivial, ?_⟩
  refine seg 5 [] [4] [(4, (.pointer (some ⟨g1649, 0, none⟩)))] [] (fun fb => by kernel_rfl) rfl trivial ?_
  refine WL.done rfl ?_
  refine WX.next ?_
  refine WC.ret ?_
  injection hf with hf
  subst hf
  exact WX.ret_ [] (.pointer (some ⟨g1649, 0, none⟩)) [] (fun fb => by kernel_rfl) trivial ⟨_, rfl, g1649, A1645, c1646, rfl, (hS1651.sub [0, 2] (by decide)).noR⟩
theorem machine_runner_does_calls (p0 : Runner) (g_p0 : Nat) (A_p0_m_Actions : Option Addr) (c_p0_m_Actions : Nat) (A_p0_Config_Cells : Option Addr) (c_p0_Config_Cells : Nat) (r : Int) (w : World) (hR0 : RO NoS w (blk g_p0 (.cells #[(.int .i64 p0.m.States), (.int .i64 p0.m.Symbols), (.slice A_p0_m_Actions p0.m.Actions.length c_p0_m_Actions), (.int .i64 p0.Config.State), (.int .i64 p0.Config.At), (.slice A_p0_Config_Cells p0.Config.Cells.length c_p0_Config_Cells)] 82 (0, 0)))) (hR1 : RO NoS w (rowR enc_Action A_p0_m_Actions c_p0_m_Actions p0.m.Actions)) (hR2 : RO NoS w (rowR encInt A_p0_Config_Cells c_p0_Config_Cells p0.Config.Cells)) (hf : machine_runner_does p0 = some r) :
    CallsR Try.prog 63 #[(.pointer (some ⟨g_p0, 0, none⟩))] w (fun v w' => v = (.int .i64 r) ∧ Keeps NoS w w') := by
  have hS : St NoS w w [blk g_p0 (.cells #[(.int .i64 p0.m.States), (.int .i64 p0.m.Symbols), (.slice A_p0_m_Actions p0.m.Actions.length c_p0_m_Actions), (.int .i64 p0.Config.State), (.int .i64 p0.Config.At), (.slice A_p0_Config_Cells p0.Config.Cells.length c_p0_Config_Cells)] 82 (0, 0)), rowR enc_Action A_p0_m_Actions c_p0_m_Actions p0.m.Actions, rowR encInt A_p0_Config_Cells c_p0_Config_Cells p0.Config.Cells] [] := St.init (ro_cons hR0 (ro_cons hR1 (ro_cons hR2 (ro_nil _ _))))
  refine enter 27 Try.func63 rfl Try.ntmps63 rfl ?_
  unfold machine_runner_does at hf
  refine WC.seq ?_
  refine WC.region ?_
  refine seg 1 [] [0] [(0, (.pointer (some ⟨g_p0, 0, none⟩)))] [] (fun fb => by kernel_rfl) rfl trivial ?_
  refine WL.done rfl ?_
  refine WX.next ?_
  refine WC.seq ?_
  obtain ⟨h1665, hf⟩ := as_some hf
  refine WC.regionD ([(4, ⟨g_p0, 3, none⟩, (.int .i64 p0.Config.State)), (9, ⟨g_p0, 1, none⟩, (.int .i64 p0.m.Symbols)), (15, ⟨g_p0, 5, none⟩, (.slice A_p0_Config_Cells p0.Config.Cells.length c_p0_Config_Cells)), (20, ⟨g_p0, 4, none⟩, (.int .i64 p0.Config.At)), (22, ((adr A_p0_Config_Cells).add ((p0.Config.At).toNat * 1)), (.int .i64 (rdD p0.Config.Cells p0.Config.At 0)))], [0, 1, 2, 3, 4, 5, 6, 7, 8, 9, 10, 11, 12, 13, 14, 15, 16, 17, 18, 19, 20, 21, 22, 23, 24], [[], [0], [0, 1], [0, 1, 2], [0, 1, 2, 3], [], [5], [5, 6], [5, 6, 7], [5, 6, 7, 8], [0, 1, 2, 3, 4, 5, 6, 7, 8, 9], [], [11], [11, 12], [11, 12, 13], [11, 12, 13, 14], [], [16], [16, 17], [16, 17, 18], [16, 17, 18, 19], [11, 12, 13, 14, 15, 16, 17, 18, 19, 20], [11, 12, 13, 14, 15, 16, 17, 18, 19, 20, 21], [0, 1, 2, 3, 4, 5, 6, 7, 8, 9, 10, 11, 12, 13, 14, 15, 16, 17, 18, 19, 20, 21, 22], [0, 1, 2, 3, 4, 5, 6, 7, 8, 9, 10, 11, 12, 13, 14, 15, 16, 17, 18, 19, 20, 21, 22, 23]]) [[0, 1, 2, 3, 4, 5, 6, 7, 8, 9, 10, 11, 12, 13, 14, 15, 16, 17, 18, 19, 20, 21, 22, 23, 24]] (by kernel_rfl) (by kernel_rfl) (NoPanic.seq (NoPanic.body)) ?_
  have hS1663 := hS.drew
  revert hS1663
  generalize World.drew w = w1662
  intro hS1663
  refine ⟨⟨blk_cell (hS1663.rd 0).1 3 rfl, blk_cell (hS1663.rd 0).1 1 rfl, blk_cell (hS1663.rd 0).1 5 rfl, blk_cell (hS1663.rd 0).1 4 rfl, rowR.cell (hS1663.rd 2).1 0 h1665.1 h1665.2 0 rfl, trivial⟩, forallC ?_ (forallN)⟩
  refine segF 25 [.v (.int .i64 p0.Config.State), .v (.int .i64 p0.m.Symbols), .v (.slice A_p0_Config_Cells p0.Config.Cells.length c_p0_Config_Cells), .v (.int .i64 p0.Config.At), .v (.int .i64 (rdD p0.Config.Cells p0.Config.At 0))] [2] [(2, (.int .i64 (w64 ((w64 (p0.Config.State * p0.m.Symbols)) + (rdD p0.Config.Cells p0.Config.At 0)))))] [.idx A_p0_Config_Cells p0.Config.At p0.Config.Cells.length] [0, 1, 2, 3, 4] [(4, ⟨g_p0, 3, none⟩, (.int .i64 p0.Config.State)), (9, ⟨g_p0, 1, none⟩, (.int .i64 p0.m.Symbols)), (15, ⟨g_p0, 5, none⟩, (.slice A_p0_Config_Cells p0.Config.Cells.length c_p0_Config_Cells)), (20, ⟨g_p0, 4, none⟩, (.int .i64 p0.Config.At)), (22, ((adr A_p0_Config_Cells).add ((p0.Config.At).toNat * 1)), (.int .i64 (rdD p0.Config.Cells p0.Config.At 0)))] (fun fb => by kernel_rfl) rfl ⟨rowR.adr (hS1663.rd 2).1 h1665.1 h1665.2, trivial⟩ rfl ?_
  refine WL.done rfl ?_
  refine WX.next ?_
  refine WC.ret ?_
  injection hf with hf
  subst hf
  exact WX.ret_ [] (.int .i64 (w64 ((w64 (p0.Config.State * p0.m.Symbols)) + (rdD p0.Config.Cells p0.Config.At 0)))) [] (fun fb => by kernel_rfl) trivial ⟨_, rfl, rfl, hS1663.keep⟩
theorem machine_runner_step_calls (p0 : Runner) (g_p0 : Nat) (A_p0_m_Actions : Option Addr) (c_p0_m_Actions : Nat) (A_p0_Config_Cells : Option Addr) (c_p0_Config_Cells : Nat) (r : Int × Runner) (w : World) (hR0 : RO (fpL [blk g_p0 (.cells #[(.int .i64 p0.m.States), (.int .i64 p0.m.Symbols), (.slice A_p0_m_Actions p0.m.Actions.length c_p0_m_Actions), (.int .i64 p0.Config.State), (.int .i64 p0.Config.At), (.slice A_p0_Config_Cells p0.Config.Cells.length c_p0_Config_Cells)] 82 (0, 0)), rowO 3 encInt A_p0_Config_Cells c_p0_Config_Cells p0.Config.Cells]) w (rowR enc_Action A_p0_m_Actions c_p0_m_Actions p0.m.Actions)) (hI : IoOK w [blk g_p0 (.cells #[(.int .i64 p0.m.States), (.int .i64 p0.m.Symbols), (.slice A_p0_m_Actions p0.m.Actions.length c_p0_m_Actions), (.int .i64 p0.Config.State), (.int .i64 p0.Config.At), (.slice A_p0_Config_Cells p0.Config.Cells.length c_p0_Config_Cells)] 82 (0, 0)), rowO 3 encInt A_p0_Config_Cells c_p0_Config_Cells p0.Config.Cells]) (hf : machine_runner_step p0 = some r) :
    CallsR Try.prog 43 #[(.pointer (some ⟨g_p0, 0, none⟩))] w (fun v w' => ∃ (A1_ : Option Addr), ∃ (c1_ : Nat), v = (.int .i64 r.1) ∧ St (fpL [blk g_p0 (.cells #[(.int .i64 p0.m.States), (.int .i64 p0.m.Symbols), (.slice A_p0_m_Actions p0.m.Actions.length c_p0_m_Actions), (.int .i64 p0.Config.State), (.int .i64 p0.Config.At), (.slice A_p0_Config_Cells p0.Config.Cells.length c_p0_Config_Cells)] 82 (0, 0)), rowO 3 encInt A_p0_Config_Cells c_p0_Config_Cells p0.Config.Cells]) w w' [] [blk g_p0 (.cells #[(.int .i64 r.2.m.States), (.int .i64 r.2.m.Symbols), (.slice A_p0_m_Actions p0.m.Actions.length c_p0_m_Actions), (.int .i64 r.2.Config.State), (.int .i64 r.2.Config.At), (.slice A1_ r.2.Config.Cells.length c1_)] 82 (0, 0)), rowO 3 encInt A1_ c1_ r.2.Config.Cells]) := by
  have hS : St (fpL [blk g_p0 (.cells #[(.int .i64 p0.m.States), (.int .i64 p0.m.Symbols), (.slice A_p0_m_Actions p0.m.Actions.length c_p0_m_Actions), (.int .i64 p0.Config.State), (.int .i64 p0.Config.At), (.slice A_p0_Config_Cells p0.Config.Cells.length c_p0_Config_Cells)] 82 (0, 0)), rowO 3 encInt A_p0_Config_Cells c_p0_Config_Cells p0.Config.Cells]) w w [rowR enc_Action A_p0_m_Actions c_p0_m_Actions p0.m.Actions] [blk g_p0 (.cells #[(.int .i64 p0.m.States), (.int .i64 p0.m.Symbols), (.slice A_p0_m_Actions p0.m.Actions.length c_p0_m_Actions), (.int .i64 p0.Config.State), (.int .i64 p0.Config.At), (.slice A_p0_Config_Cells p0.Config.Cells.length c_p0_Config_Cells)] 82 (0, 0)), rowO 3 encInt A_p0_Config_Cells c_p0_Config_Cells p0.Config.Cells] := St.initIO (ro_cons hR0 (ro_nil _ _)) hI
  refine enter 70 Try.func43 rfl Try.ntmps43 rfl ?_
  unfold machine_runner_step at hf
  refine WC.seq ?_
  refine WC.region ?_
  refine seg 1 [] [0] [(0, (.pointer (some ⟨g_p0, 0, none⟩)))] [] (fun fb => by kernel_rfl) rfl trivial ?_
  refine WL.done rfl ?_
  refine WX.next ?_
  refine WC.seq ?_
  obtain ⟨x1827, hx1828, hf⟩ := bind_some hf
  refine WC.cutN (T := (Int × Int × Int) × Nat) (fun t => [(0, (.pointer (some ⟨g_p0, 0, none⟩))), (3, (.pointer (some ⟨t.2, 0, none⟩)))]) (fun t w1 => St (fpL [blk g_p0 (.cells #[(.int .i64 p0.m.States), (.int .i64 p0.m.Symbols), (.slice A_p0_m_Actions p0.m.Actions.length c_p0_m_Actions), (.int .i64 p0.Config.State), (.int .i64 p0.Config.At), (.slice A_p0_Config_Cells p0.Config.Cells.length c_p0_Config_Cells)] 82 (0, 0)), rowO 3 encInt A_p0_Config_Cells c_p0_Config_Cells p0.Config.Cells]) w w1 [rowR enc_Action A_p0_m_Actions c_p0_m_Actions p0.m.Actions] [blk g_p0 (.cells #[(.int .i64 p0.m.States), (.int .i64 p0.m.Symbols), (.slice A_p0_m_Actions p0.m.Actions.length c_p0_m_Actions), (.int .i64 p0.Config.State), (.int .i64 p0.Config.At), (.slice A_p0_Config_Cells p0.Config.Cells.length c_p0_Config_Cells)] 82 (0, 0)), rowO 3 encInt A_p0_Config_Cells c_p0_Config_Cells p0.Config.Cells, blk t.2 (.cells #[(.int .i64 t.1.1), (.int .i64 t.1.2.1), (.int .i64 t.1.2.2)] 88 (0, 0))] ∧ x1827 = t.1) (fun Kx1827 => ?_) ?_
  ·
    refine WC.regionD ([(4, ⟨g_p0, 2, none⟩, (.slice A_p0_m_Actions p0.m.Actions.length c_p0_m_Actions))], [0, 1, 2, 3, 4, 5, 7], [[], [0], [0, 1], [0, 1, 2], [0, 1, 2, 3], [], [5], [0, 1, 2, 3, 4, 5, 6], [0, 1, 2, 3, 4, 5, 6, 7], [], [0, 1, 2, 3, 4, 5, 6, 7, 8, 9]]) [[0, 1, 2, 3, 4, 5, 6, 7, 8, 9, 10], [0, 1, 2, 3, 4, 5, 6, 7, 9, 8, 10], [0, 1, 2, 3, 4, 5, 9, 6, 7, 8, 10]] (by kernel_rfl) (by kernel_rfl) (NoPanic.seq (NoPanic.body)) ?_
    have hS1830 := hS.drew
    revert hS1830
    generalize World.drew w = w1829
    intro hS1830
    refine ⟨⟨hS1830.cell 0 rfl 2 rfl, trivial⟩, forallC ?_ (forallC ?_ (forallC ?_ (forallN)))⟩
    ·
      refine segF 6 [.v (.slice A_p0_m_Actions p0.m.Actions.length c_p0_m_Actions)] [0, 9, 10] [(0, (.pointer (some ⟨g_p0, 0, none⟩))), (9, (.slice A_p0_m_Actions p0.m.Actions.length c_p0_m_Actions)), (10, (.pointer (some ⟨g_p0, 0, none⟩)))] [] [0] [(4, ⟨g_p0, 2, none⟩, (.slice A_p0_m_Actions p0.m.Actions.length c_p0_m_Actions))] (fun fb => by kernel_rfl) rfl trivial rfl ?_
      obtain ⟨t1831, ht1832, hx1828⟩ := bind_some hx1828
      refine WL.call (some 11) 63 #[(.pointer (some ⟨g_p0, 0, none⟩))] (fun fb => by kernel_rfl) (machine_runner_does_calls p0 g_p0 A_p0_m_Actions c_p0_m_Actions A_p0_Config_Cells c_p0_Config_Cells t1831 _ (hS1830.ow 0) (hS1830.rd 0) (hS1830.ow 1).ofO ht1832) (fun v w1833 hR1834 => ?_)
      obtain ⟨rfl, hk_⟩ := hR1834
      have hS1835 := hS1830.keepN hk_
      refine ⟨⟨hS1835.cell 0 rfl 2 rfl, trivial⟩, ?_⟩
      obtain ⟨h1836, hx1828⟩ := as_some hx1828
      refine seg 9 [.v (.int .i64 ((rdD p0.m.Actions t1831 z_Action).Write)), .v (.int .i64 ((rdD p0.m.Actions t1831 z_Action).Move)), .v (.int .i64 ((rdD p0.m.Actions t1831 z_Action).Next))] [0, 13] [(0, (.pointer (some ⟨g_p0, 0, none⟩))), (13, (.agg #[(.int .i64 ((rdD p0.m.Actions t1831 z_Action).Write)), (.int .i64 ((rdD p0.m.Actions t1831 z_Action).Move)), (.int .i64 ((rdD p0.m.Actions t1831 z_Action).Next))]))] [.idx A_p0_m_Actions t1831 p0.m.Actions.length, .cell ((adr A_p0_m_Actions).add ((t1831).toNat * 3)) (.int .i64 ((rdD p0.m.Actions t1831 z_Action).Write)), .cell (((adr A_p0_m_Actions).add ((t1831).toNat * 3)).add 1) (.int .i64 ((rdD p0.m.Actions t1831 z_Action).Move)), .cell (((adr A_p0_m_Actions).add ((t1831).toNat * 3)).add 2) (.int .i64 ((rdD p0.m.Actions t1831 z_Action).Next))] (fun fb => by kernel_rfl) rfl ⟨rowR.adr (hS1835.rd 0).1 h1836.1 h1836.2, rowR.cell (hS1835.rd 0).1 z_Action h1836.1 h1836.2 0 rfl, rowR.cell (hS1835.rd 0).1 z_Action h1836.1 h1836.2 1 rfl, rowR.cell (hS1835.rd 0).1 z_Action h1836.1 h1836.2 2 rfl, trivial⟩ ?_
      refine WL.new hS1835 3 [] (fun g => (.pointer (some ⟨g, 0, none⟩))) (.cells #[(.int .i64 0), (.int .i64 0), (.int .i64 0)] 88 (0, 0)) [] (fun fb g => by kernel_rfl) trivial (fun g1837 w1838 hS1839 => ?_)
      refine ⟨⟨hS1839.cell 1 rfl 2 rfl, trivial⟩, ?_⟩
      refine WL.store hS1839 0 rfl [(0, (.int .i64 ((rdD p0.m.Actions t1831 z_Action).Write))), (1, (.int .i64 ((rdD p0.m.Actions t1831 z_Action).Move))), (2, (.int .i64 ((rdD p0.m.Actions t1831 z_Action).Next)))] #[(.int .i64 ((rdD p0.m.Actions t1831 z_Action).Write)), (.int .i64 ((rdD p0.m.Actions t1831 z_Action).Move)), (.int .i64 ((rdD p0.m.Actions t1831 z_Action).Next))] (fun fb => by kernel_rfl) (by kernel_rfl) rfl [1, 2] (by decide) (by decide) (fun w1841 hS1842 => ?_)
      refine ⟨trivial, ?_⟩
      refine WL.done rfl ?_
      injection hx1828 with hx1828
      exact WX.to Kx1827 (((rdD p0.m.Actions t1831 z_Action).Write, (rdD p0.m.Actions t1831 z_Action).Move, (rdD p0.m.Actions t1831 z_Action).Next), g1837) [0, 3] rfl ⟨(hS1842.subR [0]).sub [1, 2, 0] (by decide), hx1828.symm⟩
    ·
      refine segF 6 [.v (.slice A_p0_m_Actions p0.m.Actions.length c_p0_m_Actions)] [0, 9, 10] [(0, (.pointer (some ⟨g_p0, 0, none⟩))), (9, (.slice A_p0_m_Actions p0.m.Actions.length c_p0_m_Actions)), (10, (.pointer (some ⟨g_p0, 0, none⟩)))] [] [0] [(4, ⟨g_p0, 2, none⟩, (.slice A_p0_m_Actions p0.m.Actions.length c_p0_m_Actions))] (fun fb => by kernel_rfl) rfl trivial rfl ?_
      obtain ⟨t1843, ht1844, hx1828⟩ := bind_some hx1828
      refine WL.call (some 11) 63 #[(.pointer (some ⟨g_p0, 0, none⟩))] (fun fb => by kernel_rfl) (machine_runner_does_calls p0 g_p0 A_p0_m_Actions c_p0_m_Actions A_p0_Config_Cells c_p0_Config_Cells t1843 _ (hS1830.ow 0) (hS1830.rd 0) (hS1830.ow 1).ofO ht1844) (fun v w1845 hR1846 => ?_)
      obtain ⟨rfl, hk_⟩ := hR1846
      have hS1847 := hS1830.keepN hk_
      refine ⟨⟨hS1847.cell 0 rfl 2 rfl, trivial⟩, ?_⟩
      obtain ⟨h1848, hx1828⟩ := as_some hx1828
      refine seg 8 [] [0, 12] [(0, (.pointer (some ⟨g_p0, 0, none⟩))), (12, (.pointer (some ((adr A_p0_m_Actions).add ((t1843).toNat * 3)))))] [.idx A_p0_m_Actions t1843 p0.m.Actions.length] (fun fb => by kernel_rfl) rfl ⟨rowR.adr (hS1847.rd 0).1 h1848.1 h1848.2, trivial⟩ ?_
      refine WL.new hS1847 3 [] (fun g => (.pointer (some ⟨g, 0, none⟩))) (.cells #[(.int .i64 0), (.int .i64 0), (.int .i64 0)] 88 (0, 0)) [] (fun fb g => by kernel_rfl) trivial (fun g1849 w1850 hS1851 => ?_)
      refine ⟨⟨hS1851.cell 1 rfl 2 rfl, trivial⟩, ?_⟩
      refine seg 10 [.v (.int .i64 ((rdD p0.m.Actions t1843 z_Action).Write)), .v (.int .i64 ((rdD p0.m.Actions t1843 z_Action).Move)), .v (.int .i64 ((rdD p0.m.Actions t1843 z_Action).Next))] [0, 3, 13] [(0, (.pointer (some ⟨g_p0, 0, none⟩))), (3, (.pointer (some ⟨g1849, 0, none⟩))), (13, (.agg #[(.int .i64 ((rdD p0.m.Actions t1843 z_Action).Write)), (.int .i64 ((rdD p0.m.Actions t1843 z_Action).Move)), (.int .i64 ((rdD p0.m.Actions t1843 z_Action).Next))]))] [.cell ((adr A_p0_m_Actions).add ((t1843).toNat * 3)) (.int .i64 ((rdD p0.m.Actions t1843 z_Action).Write)), .cell (((adr A_p0_m_Actions).add ((t1843).toNat * 3)).add 1) (.int .i64 ((rdD p0.m.Actions t1843 z_Action).Move)), .cell (((adr A_p0_m_Actions).add ((t1843).toNat * 3)).add 2) (.int .i64 ((rdD p0.m.Actions t1843 z_Action).Next))] (fun fb => by kernel_rfl) rfl ⟨rowR.cell (hS1851.rd 0).1 z_Action h1848.1 h1848.2 0 rfl, rowR.cell (hS1851.rd 0).1 z_Action h1848.1 h1848.2 1 rfl, rowR.cell (hS1851.rd 0).1 z_Action h1848.1 h1848.2 2 rfl, trivial⟩ ?_
      refine WL.store hS1851 0 rfl [(0, (.int .i64 ((rdD p0.m.Actions t1843 z_Action).Write))), (1, (.int .i64 ((rdD p0.m.Actions t1843 z_Action).Move))), (2, (.int .i64 ((rdD p0.m.Actions t1843 z_Action).Next)))] #[(.int .i64 ((rdD p0.m.Actions t1843 z_Action).Write)), (.int .i64 ((rdD p0.m.Actions t1843 z_Action).Move)), (.int .i64 ((rdD p0.m.Actions t1843 z_Action).Next))] (fun fb => by kernel_rfl) (by kernel_rfl) rfl [1, 2] (by decide) (by decide) (fun w1853 hS1854 => ?_)
      refine ⟨trivial, ?_⟩
      refine WL.done rfl ?_
      injection hx1828 with hx1828
      exact WX.to Kx1827 (((rdD p0.m.Actions t1843 z_Action).Write, (rdD p0.m.Actions t1843 z_Action).Move, (rdD p0.m.Actions t1843 z_Action).Next), g1849) [0, 3] rfl ⟨(hS1854.subR [0]).sub [1, 2, 0] (by decide), hx1828.symm⟩
    refine segF 6 [.v (.slice A_p0_m_Actions p0.m.Actions.length c_p0_m_Actions)] [0, 9, 10] [(0, (.pointer (some ⟨g_p0, 0, none⟩))), (9, (.slice A_p0_m_Actions p0.m.Actions.length c_p0_m_Actions)), (10, (.pointer (some ⟨g_p0, 0, none⟩)))] [] [0] [(4, ⟨g_p0, 2, none⟩, (.slice A_p0_m_Actions p0.m.Actions.length c_p0_m_Actions))] (fun fb => by kernel_rfl) rfl trivial rfl ?_
    refine WL.new hS1830 3 [] (fun g => (.pointer (some ⟨g, 0, none⟩))) (.cells #[(.int .i64 0), (.int .i64 0), (.int .i64 0)] 88 (0, 0)) [] (fun fb g => by kernel_rfl) trivial (fun g1855 w1856 hS1857 => ?_)
    refine ⟨⟨hS1857.cell 1 rfl 2 rfl, trivial⟩, ?_⟩
    obtain ⟨t1859, ht1860, hx1828⟩ := bind_some hx1828
    refine WL.call (some 11) 63 #[(.pointer (some ⟨g_p0, 0, none⟩))] (fun fb => by kernel_rfl) (machine_runner_does_calls p0 g_p0 A_p0_m_Actions c_p0_m_Actions A_p0_Config_Cells c_p0_Config_Cells t1859 _ (hS1857.ow 1) (hS1857.rd 0) (hS1857.ow 2).ofO ht1860) (fun v w1861 hR1862 => ?_)
    obtain ⟨rfl, hk_⟩ := hR1862
    have hS1863 := hS1857.keepN hk_
    refine ⟨⟨hS1863.cell 1 rfl 2 rfl, trivial⟩, ?_⟩
    obtain ⟨h1864, hx1828⟩ := as_some hx1828
    refine seg 10 [.v (.int .i64 ((rdD p0.m.Actions t1859 z_Action).Write)), .v (.int .i64 ((rdD p0.m.Actions t1859 z_Action).Move)), .v (.int .i64 ((rdD p0.m.Actions t1859 z_Action).Next))] [0, 3, 13] [(0, (.pointer (some ⟨g_p0, 0, none⟩))), (3, (.pointer (some ⟨g1855, 0, none⟩))), (13, (.agg #[(.int .i64 ((rdD p0.m.Actions t1859 z_Action).Write)), (.int .i64 ((rdD p0.m.Actions t1859 z_Action).Move)), (.int .i64 ((rdD p0.m.Actions t1859 z_Action).Next))]))] [.idx A_p0_m_Actions t1859 p0.m.Actions.length, .cell ((adr A_p0_m_Actions).add ((t1859).toNat * 3)) (.int .i64 ((rdD p0.m.Actions t1859 z_Action).Write)), .cell (((adr A_p0_m_Actions).add ((t1859).toNat * 3)).add 1) (.int .i64 ((rdD p0.m.Actions t1859 z_Action).Move)), .cell (((adr A_p0_m_Actions).add ((t1859).toNat * 3)).add 2) (.int .i64 ((rdD p0.m.Actions t1859 z_Action).Next))] (fun fb => by kernel_rfl) rfl ⟨rowR.adr (hS1863.rd 0).1 h1864.1 h1864.2, rowR.cell (hS1863.rd 0).1 z_Action h1864.1 h1864.2 0 rfl, rowR.cell (hS1863.rd 0).1 z_Action h1864.1 h1864.2 1 rfl, rowR.cell (hS1863.rd 0).1 z_Action h1864.1 h1864.2 2 rfl, trivial⟩ ?_
    refine WL.store hS1863 0 rfl [(0, (.int .i64 ((rdD p0.m.Actions t1859 z_Action).Write))), (1, (.int .i64 ((rdD p0.m.Actions t1859 z_Action).Move))), (2, (.int .i64 ((rdD p0.m.Actions t1859 z_Action).Next)))] #[(.int .i64 ((rdD p0.m.Actions t1859 z_Action).Write)), (.int .i64 ((rdD p0.m.Actions t1859 z_Action).Move)), (.int .i64 ((rdD p0.m.Actions t1859 z_Action).Next))] (fun fb => by kernel_rfl) (by kernel_rfl) rfl [1, 2] (by decide) (by decide) (fun w1865 hS1866 => ?_)
    refine ⟨trivial, ?_⟩
    refine WL.done rfl ?_
    injection hx1828 with hx1828
    exact WX.to Kx1827 (((rdD p0.m.Actions t1859 z_Action).Write, (rdD p0.m.Actions t1859 z_Action).Move, (rdD p0.m.Actions t1859 z_Action).Next), g1855) [0, 3] rfl ⟨(hS1866.subR [0]).sub [1, 2, 0] (by decide), hx1828.symm⟩
  rintro ⟨y1870, g1823⟩ w1867 ⟨hS1868, hq1869⟩
  subst hq1869
  refine WX.next ?_
  refine WC.seq ?_
  refine WC.regionD ([(4, ⟨g_p0, 4, none⟩, (.int .i64 p0.Config.At)), (6, ⟨g1823, 1, none⟩, (.int .i64 x1827.2.1))], [0, 1, 2, 3, 4, 5, 6, 7, 8, 9, 10], [[], [0], [0, 1], [0, 1, 2], [0, 1, 2, 3], [], [5], [5, 6], [0, 1, 2, 3, 4, 5, 6, 7], [0, 1, 2, 3, 4, 5, 6, 7, 8], [0, 1, 2, 3, 4, 5, 6, 7, 8, 9]]) [[0, 1, 2, 3, 4, 5, 6, 7, 8, 9, 10]] (by kernel_rfl) (by kernel_rfl) (NoPanic.seq (NoPanic.body)) ?_
  have hS1872 := hS1868.drew
  revert hS1872
  generalize World.drew w1867 = w1871
  intro hS1872
  refine ⟨⟨hS1872.cell 0 rfl 4 rfl, hS1872.cell 2 rfl 1 rfl, trivial⟩, forallC ?_ (forallN)⟩
  refine segF 11 [.v (.int .i64 p0.Config.At), .v (.int .i64 x1827.2.1)] [0, 3, 4] [(0, (.pointer (some ⟨g_p0, 0, none⟩))), (3, (.pointer (some ⟨g1823, 0, none⟩))), (4, (.int .i64 (w64 ((w64 (p0.Config.At + (w64 (2 * x1827.2.1)))) - 1))))] [] [0, 1] [(4, ⟨g_p0, 4, none⟩, (.int .i64 p0.Config.At)), (6, ⟨g1823, 1, none⟩, (.int .i64 x1827.2.1))] (fun fb => by kernel_rfl) rfl trivial rfl ?_
  refine WL.done rfl ?_
  refine WX.next ?_
  refine WC.seq ?_
  refine WC.block ?_
  refine WC.seq ?_
  refine WC.regionD ([(1, ⟨g1823, 2, none⟩, (.int .i64 x1827.2.2)), (6, ⟨g_p0, 0, none⟩, (.int .i64 p0.m.States))], [0, 1, 2, 3, 4, 5, 6, 7, 8], [[], [0], [], [2], [2, 3], [2, 3, 4], [2, 3, 4, 5], [0, 1, 2, 3, 4, 5, 6], [0, 1, 2, 3, 4, 5, 6, 7]]) [[0, 1, 2, 3, 4, 5, 6, 7, 8]] (by kernel_rfl) (by kernel_rfl) (NoPanic.seq (NoPanic.block (NoPanic.seq (NoPanic.body)))) ?_
  have hS1874 := hS1872.drew
  revert hS1874
  generalize World.drew w1871 = w1873
  intro hS1874
  refine ⟨⟨hS1874.cell 2 rfl 2 rfl, hS1874.cell 0 rfl 0 rfl, trivial⟩, forallC ?_ (forallN)⟩
  refine segF 9 [.v (.int .i64 x1827.2.2), .v (.int .i64 p0.m.States)] [0, 3, 4, 24] [(0, (.pointer (some ⟨g_p0, 0, none⟩))), (3, (.pointer (some ⟨g1823, 0, none⟩))), (4, (.int .i64 (w64 ((w64 (p0.Config.At + (w64 (2 * x1827.2.1)))) - 1)))), (24, (.bool (x1827.2.2 == p0.m.States)))] [] [0, 1] [(1, ⟨g1823, 2, none⟩, (.int .i64 x1827.2.2)), (6, ⟨g_p0, 0, none⟩, (.int .i64 p0.m.States))] (fun fb => by kernel_rfl) rfl trivial rfl ?_
  refine WL.done rfl ?_
  refine WX.next ?_
  rcases br_some hf with ⟨h1875, hf⟩ | ⟨h1875, hf⟩
  · refine WC.condT2 (fun fb => by kernel_rfl) h1875 ?_
    refine WC.seq ?_
    refine WC.region ?_
    refine seg 1 [] [0, 2] [(0, (.pointer (some ⟨g_p0, 0, none⟩))), (2, (.int .i64 5))] [] (fun fb => by kernel_rfl) rfl trivial ?_
    refine WL.done rfl ?_
    refine WX.next ?_
    refine WC.ret ?_
    injection hf with hf
    subst hf
    exact WX.blockR (WX.thenR (WX.ret_ [] (.int .i64 5) [] (fun fb => by kernel_rfl) trivial ⟨_, rfl, A_p0_Config_Cells, c_p0_Config_Cells, rfl, (hS1874.sub [0, 1] (by decide)).noR⟩))
  refine WC.condF2 (fun fb => by kernel_rfl) h1875 ?_
  refine WC.seq ?_
  refine WC.region ?_
  refine seg 3 [] [0, 3, 4, 36] [(0, (.pointer (some ⟨g_p0, 0, none⟩))), (3, (.pointer (some ⟨g1823, 0, none⟩))), (4, (.int .i64 (w64 ((w64 (p0.Config.At + (w64 (2 * x1827.2.1)))) - 1)))), (36, (.bool (decide (w64 ((w64 (p0.Config.At + (w64 (2 * x1827.2.1)))) - 1) < 0))))] [] (fun fb => by kernel_rfl) rfl trivial ?_
  refine WL.cutV (T := Bool) 12 (fun t => [(45, (.bool t)), (0, (.pointer (some ⟨g_p0, 0, none⟩))), (3, (.pointer (some ⟨g1823, 0, none⟩))), (4, (.int .i64 (w64 ((w64 (p0.Config.At + (w64 (2 * x1827.2.1)))) - 1))))]) (fun t => t = ((decide (w64 ((w64 (p0.Config.At + (w64 (2 * x1827.2.1)))) - 1) < 0)) || (decide (w64 ((w64 (p0.Config.At + (w64 (2 * x1827.2.1)))) - 1) ≥ (p0.Config.Cells.length : Int))))) (fun K => ?_) ?_
  ·
    rcases Bool.eq_false_or_eq_true (decide (w64 ((w64 (p0.Config.At + (w64 (2 * x1827.2.1)))) - 1) < 0)) with h1876 | h1876
    ·
      refine WL.setB 36 h1876 rfl ?_
      refine seg 12 [] [0, 3, 4, 45] [(0, (.pointer (some ⟨g_p0, 0, none⟩))), (3, (.pointer (some ⟨g1823, 0, none⟩))), (4, (.int .i64 (w64 ((w64 (p0.Config.At + (w64 (2 * x1827.2.1)))) - 1)))), (45, (.bool true))] [] (fun fb => by kernel_rfl) rfl trivial ?_
      exact WL.toV K true [45, 0, 3, 4] rfl (by rw [h1876]; rfl)
    refine WL.setB 36 h1876 rfl ?_
    refine seg 12 [.v (.slice A_p0_Config_Cells p0.Config.Cells.length c_p0_Config_Cells)] [0, 3, 4, 45] [(0, (.pointer (some ⟨g_p0, 0, none⟩))), (3, (.pointer (some ⟨g1823, 0, none⟩))), (4, (.int .i64 (w64 ((w64 (p0.Config.At + (w64 (2 * x1827.2.1)))) - 1)))), (45, (.bool (decide (w64 ((w64 (p0.Config.At + (w64 (2 * x1827.2.1)))) - 1) ≥ (p0.Config.Cells.length : Int)))))] [.cell ⟨g_p0, 5, none⟩ (.slice A_p0_Config_Cells p0.Config.Cells.length c_p0_Config_Cells)] (fun fb => by kernel_rfl) rfl ⟨hS1874.cell 0 rfl 5 rfl, trivial⟩ ?_
    exact WL.toV K (decide (w64 ((w64 (p0.Config.At + (w64 (2 * x1827.2.1)))) - 1) ≥ (p0.Config.Cells.length : Int))) [45, 0, 3, 4] rfl (by rw [h1876]; rfl)
  rintro b1877 rfl
  refine seg 13 [] [0, 3, 4, 33] [(0, (.pointer (some ⟨g_p0, 0, none⟩))), (3, (.pointer (some ⟨g1823, 0, none⟩))), (4, (.int .i64 (w64 ((w64 (p0.Config.At + (w64 (2 * x1827.2.1)))) - 1)))), (33, (.bool ((decide (w64 ((w64 (p0.Config.At + (w64 (2 * x1827.2.1)))) - 1) < 0)) || (decide (w64 ((w64 (p0.Config.At + (w64 (2 * x1827.2.1)))) - 1) ≥ (p0.Config.Cells.length : Int))))))] [] (fun fb => by kernel_rfl) rfl trivial ?_
  refine WL.done rfl ?_
  refine WX.next ?_
  rcases br_some hf with ⟨h1878, hf⟩ | ⟨h1878, hf⟩
  · refine WC.condT2 (fun fb => by kernel_rfl) h1878 ?_
    refine WC.seq ?_
    refine WC.region ?_
    refine seg 1 [] [0, 2] [(0, (.pointer (some ⟨g_p0, 0, none⟩))), (2, (.int .i64 6))] [] (fun fb => by kernel_rfl) rfl trivial ?_
    refine WL.done rfl ?_
    refine WX.next ?_
    refine WC.ret ?_
    injection hf with hf
    subst hf
    exact WX.blockR (WX.thenR (WX.ret_ [] (.int .i64 6) [] (fun fb => by kernel_rfl) trivial ⟨_, rfl, A_p0_Config_Cells, c_p0_Config_Cells, rfl, (hS1874.sub [0, 1] (by decide)).noR⟩))
  refine WC.condF2 (fun fb => by kernel_rfl) h1878 ?_
  refine WC.skip ?_
  refine WX.blockN (WX.next ?_)
  refine WC.seq ?_
  obtain ⟨h1886, hf⟩ := as_some hf
  refine WC.regionD ([(4, ⟨g_p0, 5, none⟩, (.slice A_p0_Config_Cells p0.Config.Cells.length c_p0_Config_Cells)), (9, ⟨g_p0, 4, none⟩, (.int .i64 p0.Config.At)), (11, ⟨g1823, 0, none⟩, (.int .i64 x1827.1))], [0, 1, 2, 3, 4, 5, 6, 7, 8, 9, 10, 11, 12], [[], [0], [0, 1], [0, 1, 2], [0, 1, 2, 3], [], [5], [5, 6], [5, 6, 7], [5, 6, 7, 8], [], [10], [0, 1, 2, 3, 4, 5, 6, 7, 8, 9, 10, 11], [0, 1, 2, 3, 4, 5, 6, 7, 8, 9, 10, 11, 12]]) [[0, 1, 2, 3, 4, 5, 6, 7, 8, 9, 10, 11, 12, 13]] (by kernel_rfl) (by kernel_rfl) (NoPanic.seq (NoPanic.body)) ?_
  have hS1884 := hS1874.drew
  revert hS1884
  generalize World.drew w1873 = w1883
  intro hS1884
  refine ⟨⟨hS1884.cell 0 rfl 5 rfl, hS1884.cell 0 rfl 4 rfl, hS1884.cell 2 rfl 0 rfl, trivial⟩, forallC ?_ (forallN)⟩
  refine segF 13 [.v (.slice A_p0_Config_Cells p0.Config.Cells.length c_p0_Config_Cells), .v (.int .i64 p0.Config.At), .v (.int .i64 x1827.1)] [0, 3, 4, 57, 58] [(0, (.pointer (some ⟨g_p0, 0, none⟩))), (3, (.pointer (some ⟨g1823, 0, none⟩))), (4, (.int .i64 (w64 ((w64 (p0.Config.At + (w64 (2 * x1827.2.1)))) - 1)))), (57, (.int .i64 x1827.1)), (58, (.pointer (some ((adr A_p0_Config_Cells).add ((p0.Config.At).toNat * 1)))))] [.idx A_p0_Config_Cells p0.Config.At p0.Config.Cells.length] [0, 1, 2] [(4, ⟨g_p0, 5, none⟩, (.slice A_p0_Config_Cells p0.Config.Cells.length c_p0_Config_Cells)), (9, ⟨g_p0, 4, none⟩, (.int .i64 p0.Config.At)), (11, ⟨g1823, 0, none⟩, (.int .i64 x1827.1))] (fun fb => by kernel_rfl) rfl ⟨rowR.adr (rowO.rd (hS1884.own 1).1) h1886.1 h1886.2, trivial⟩ rfl ?_
  refine WL.storeRow hS1884 1 rfl (p0.Config.At) (x1827.1) (0) [(0, (.int .i64 x1827.1))] (fun fb => by kernel_rfl) h1886.1 h1886.2 (by kernel_rfl) rfl [0, 2] (by decide) (by decide) (fun w1887 hS1888 => ?_)
  refine ⟨trivial, ?_⟩
  have hS1889 : St (fpL [blk g_p0 (.cells #[(.int .i64 p0.m.States), (.int .i64 p0.m.Symbols), (.slice A_p0_m_Actions p0.m.Actions.length c_p0_m_Actions), (.int .i64 p0.Config.State), (.int .i64 p0.Config.At), (.slice A_p0_Config_Cells p0.Config.Cells.length c_p0_Config_Cells)] 82 (0, 0)), rowO 3 encInt A_p0_Config_Cells c_p0_Config_Cells p0.Config.Cells]) w w1887 [rowR enc_Action A_p0_m_Actions c_p0_m_Actions p0.m.Actions] [rowO 3 encInt A_p0_Config_Cells c_p0_Config_Cells (p0.Config.Cells.set (p0.Config.At).toNat x1827.1), blk g_p0 (.cells #[(.int .i64 p0.m.States), (.int .i64 p0.m.Symbols), (.slice A_p0_m_Actions p0.m.Actions.length c_p0_m_Actions), (.int .i64 p0.Config.State), (.int .i64 p0.Config.At), (.slice A_p0_Config_Cells (p0.Config.Cells.set (p0.Config.At).toNat x1827.1).length c_p0_Config_Cells)] 82 (0, 0)), blk g1823 (.cells #[(.int .i64 x1827.1), (.int .i64 x1827.2.1), (.int .i64 x1827.2.2)] 88 (0, 0))] := by simpa only [List.length_set] using (show St (fpL [blk g_p0 (.cells #[(.int .i64 p0.m.States), (.int .i64 p0.m.Symbols), (.slice A_p0_m_Actions p0.m.Actions.length c_p0_m_Actions), (.int .i64 p0.Config.State), (.int .i64 p0.Config.At), (.slice A_p0_Config_Cells p0.Config.Cells.length c_p0_Config_Cells)] 82 (0, 0)), rowO 3 encInt A_p0_Config_Cells c_p0_Config_Cells p0.Config.Cells]) w w1887 [rowR enc_Action A_p0_m_Actions c_p0_m_Actions p0.m.Actions] [rowO 3 encInt A_p0_Config_Cells c_p0_Config_Cells (p0.Config.Cells.set (p0.Config.At).toNat x1827.1), blk g_p0 (.cells #[(.int .i64 p0.m.States), (.int .i64 p0.m.Symbols), (.slice A_p0_m_Actions p0.m.Actions.length c_p0_m_Actions), (.int .i64 p0.Config.State), (.int .i64 p0.Config.At), (.slice A_p0_Config_Cells p0.Config.Cells.length c_p0_Config_Cells)] 82 (0, 0)), blk g1823 (.cells #[(.int .i64 x1827.1), (.int .i64 x1827.2.1), (.int .i64 x1827.2.2)] 88 (0, 0))] from hS1888)
  refine WL.done rfl ?_
  refine WX.next ?_
  refine WC.seq ?_
  refine WC.regionD ([(4, ⟨g1823, 2, none⟩, (.int .i64 x1827.2.2))], [0, 1, 2, 3, 4, 5, 6, 7, 9, 10, 11], [[], [], [], [], [3], [0, 2], [0, 2, 5], [0, 2, 5, 6], [0, 2, 5, 6, 7], [0, 1, 2, 3, 4, 5, 6, 7, 8], [0, 1, 2, 3, 4, 5, 6, 7, 8, 9], [0, 1, 2, 3, 4, 5, 6, 7, 8, 9, 10], [0, 1, 2, 3, 4, 5, 6, 7, 8, 9, 10, 11]]) [[0, 1, 2, 3, 4, 5, 6, 7, 8, 9, 10, 11, 12]] (by kernel_rfl) (by kernel_rfl) (NoPanic.seq (NoPanic.body)) ?_
  have hS1895 := hS1889.drew
  revert hS1895
  generalize World.drew w1887 = w1894
  intro hS1895
  refine ⟨⟨hS1895.cell 2 rfl 2 rfl, trivial⟩, forallC ?_ (forallN)⟩
  refine segF 8 [.v (.int .i64 x1827.2.2)] [0, 60, 61, 63, 66] [(0, (.pointer (some ⟨g_p0, 0, none⟩))), (60, (.pointer (some ⟨g_p0, 0, none⟩))), (61, (.int .i64 (w64 ((w64 (p0.Config.At + (w64 (2 * x1827.2.1)))) - 1)))), (63, (.int .i64 x1827.2.2)), (66, (.pointer (some ⟨g_p0, 4, none⟩)))] [] [0] [(4, ⟨g1823, 2, none⟩, (.int .i64 x1827.2.2))] (fun fb => by kernel_rfl) rfl trivial rfl ?_
  refine WL.store hS1895 1 rfl [(4, (.int .i64 (w64 ((w64 (p0.Config.At + (w64 (2 * x1827.2.1)))) - 1))))] #[(.int .i64 p0.m.States), (.int .i64 p0.m.Symbols), (.slice A_p0_m_Actions p0.m.Actions.length c_p0_m_Actions), (.int .i64 p0.Config.State), (.int .i64 (w64 ((w64 (p0.Config.At + (w64 (2 * x1827.2.1)))) - 1))), (.slice A_p0_Config_Cells (p0.Config.Cells.set (p0.Config.At).toNat x1827.1).length c_p0_Config_Cells)] (fun fb => by kernel_rfl) (by kernel_rfl) rfl [0, 2] (by decide) (by decide) (fun w1896 hS1897 => ?_)
  refine ⟨⟨hS1897.cell 2 rfl 2 rfl, trivial⟩, ?_⟩
  refine seg 12 [] [0, 63, 69] [(0, (.pointer (some ⟨g_p0, 0, none⟩))), (63, (.int .i64 x1827.2.2)), (69, (.pointer (some ⟨g_p0, 3, none⟩)))] [] (fun fb => by kernel_rfl) rfl trivial ?_
  refine WL.store hS1897 0 rfl [(3, (.int .i64 x1827.2.2))] #[(.int .i64 p0.m.States), (.int .i64 p0.m.Symbols), (.slice A_p0_m_Actions p0.m.Actions.length c_p0_m_Actions), (.int .i64 x1827.2.2), (.int .i64 (w64 ((w64 (p0.Config.At + (w64 (2 * x1827.2.1)))) - 1))), (.slice A_p0_Config_Cells (p0.Config.Cells.set (p0.Config.At).toNat x1827.1).length c_p0_Config_Cells)] (fun fb => by kernel_rfl) (by kernel_rfl) rfl [1, 2] (by decide) (by decide) (fun w1898 hS1899 => ?_)
  refine ⟨trivial, ?_⟩
  refine WL.done rfl ?_
  refine WX.next ?_
  refine WC.seq ?_
  refine WC.region ?_
  refine seg 1 [] [0, 2] [(0, (.pointer (some ⟨g_p0, 0, none⟩))), (2, (.int .i64 0))] [] (fun fb => by kernel_rfl) rfl trivial ?_
  refine WL.done rfl ?_
  refine WX.next ?_
  refine WC.ret ?_
  injection hf with hf
  subst hf
  exact WX.ret_ [] (.int .i64 0) [] (fun fb => by kernel_rfl) trivial ⟨_, rfl, A_p0_Config_Cells, c_p0_Config_Cells, rfl, (hS1899.sub [0, 1] (by decide)).noR⟩
theorem machine_Run_calls (k : Nat) (p0 : Machine) (p1 : Config) (p2 : Int) (A_p0_Actions : Option Addr) (c_p0_Actions : Nat) (A_p1_Cells : Option Addr) (c_p1_Cells : Nat) (r : Config × Int × Int) (w : World) (hR0 : RO NoS w (rowR enc_Action A_p0_Actions c_p0_Actions p0.Actions)) (hR1 : RO NoS w (rowR encInt A_p1_Cells c_p1_Cells p1.Cells)) (hf : machine_Run k p0 p1 p2 = some r) :
    CallsR Try.prog 20 #[(.agg #[(.int .i64 p0.States), (.int .i64 p0.Symbols), (.slice A_p0_Actions p0.Actions.length c_p0_Actions)]), (.agg #[(.int .i64 p1.State), (.int .i64 p1.At), (.slice A_p1_Cells p1.Cells.length c_p1_Cells)]), (.int .i64 p2)] w (fun v w' => ∃ (A1_ : Option Addr), ∃ (c1_ : Nat), v = (.tuple #[(.agg #[(.int .i64 r.1.State), (.int .i64 r.1.At), (.slice A1_ r.1.Cells.length c1_)]), (.int .i64 r.2.1), (.int .i64 r.2.2)]) ∧ St NoS w w' [] [rowO 3 encInt A1_ c1_ r.1.Cells]) := by
  have hS : St NoS w w [rowR enc_Action A_p0_Actions c_p0_Actions p0.Actions, rowR encInt A_p1_Cells c_p1_Cells p1.Cells] [] := St.init (ro_cons hR0 (ro_cons hR1 (ro_nil _ _)))
  refine enter 41 Try.func20 rfl Try.ntmps20 rfl ?_
  unfold machine_Run at hf
  refine WC.seq ?_
  refine WC.region ?_
  refine WL.new hS 3 [] (fun g => (.pointer (some ⟨g, 0, none⟩))) (.cells #[(.int .i64 p0.States), (.int .i64 p0.Symbols), (.slice A_p0_Actions p0.Actions.length c_p0_Actions)] 24 (0, 0)) [] (fun fb g => by kernel_rfl) trivial (fun g1506 w1507 hS1508 => ?_)
  refine ⟨trivial, ?_⟩
  refine WL.new hS1508 4 [] (fun g => (.pointer (some ⟨g, 0, none⟩))) (.cells #[(.int .i64 p1.State), (.int .i64 p1.At), (.slice A_p1_Cells p1.Cells.length c_p1_Cells)] 27 (0, 0)) [] (fun fb g => by kernel_rfl) trivial (fun g1510 w1511 hS1512 => ?_)
  refine ⟨trivial, ?_⟩
  refine WL.new hS1512 6 [] (fun g => (.pointer (some ⟨g, 0, none⟩))) (.cells #[(.int .i64 0), (.int .i64 0), (.slice none 0 0)] 27 (0, 0)) [] (fun fb g => by kernel_rfl) trivial (fun g1514 w1515 hS1516 => ?_)
  refine ⟨trivial, ?_⟩
  refine seg 5 [] [2, 3, 4, 6] [(2, (.int .i64 p2)), (3, (.pointer (some ⟨g1506, 0, none⟩))), (4, (.pointer (some ⟨g1510, 0, none⟩))), (6, (.pointer (some ⟨g1514, 0, none⟩)))] [] (fun fb => by kernel_rfl) rfl trivial ?_
  refine WL.done rfl ?_
  refine WX.next ?_
  refine WC.seq ?_
  refine WC.seq ?_
  refine WC.region ?_
  refine seg 2 [.v (.int .i64 p0.States), .v (.int .i64 p0.Symbols), .v (.slice A_p0_Actions p0.Actions.length c_p0_Actions), .v (.int .i64 p1.State), .v (.int .i64 p1.At), .v (.slice A_p1_Cells p1.Cells.length c_p1_Cells)] [2, 3, 4, 6, 11, 12] [(2, (.int .i64 p2)), (3, (.pointer (some ⟨g1506, 0, none⟩))), (4, (.pointer (some ⟨g1510, 0, none⟩))), (6, (.pointer (some ⟨g1514, 0, none⟩))), (11, (.agg #[(.int .i64 p0.States), (.int .i64 p0.Symbols), (.slice A_p0_Actions p0.Actions.length c_p0_Actions)])), (12, (.agg #[(.int .i64 p1.State), (.int .i64 p1.At), (.slice A_p1_Cells p1.Cells.length c_p1_Cells)]))] [.cell ⟨g1506, 0, none⟩ (.int .i64 p0.States), .cell ⟨g1506, 1, none⟩ (.int .i64 p0.Symbols), .cell ⟨g1506, 2, none⟩ (.slice A_p0_Actions p0.Actions.length c_p0_Actions), .cell ⟨g1510, 0, none⟩ (.int .i64 p1.State), .cell ⟨g1510, 1, none⟩ (.int .i64 p1.At), .cell ⟨g1510, 2, none⟩ (.slice A_p1_Cells p1.Cells.length c_p1_Cells)] (fun fb => by kernel_rfl) rfl ⟨hS1516.cell 2 rfl 0 rfl, hS1516.cell 2 rfl 1 rfl, hS1516.cell 2 rfl 2 rfl, hS1516.cell 1 rfl 0 rfl, hS1516.cell 1 rfl 1 rfl, hS1516.cell 1 rfl 2 rfl, trivial⟩ ?_
  obtain ⟨t1606, ht1607, hf⟩ := bind_some hf
  refine WL.call (some 13) 18 #[(.agg #[(.int .i64 p0.States), (.int .i64 p0.Symbols), (.slice A_p0_Actions p0.Actions.length c_p0_Actions)]), (.agg #[(.int .i64 p1.State), (.int .i64 p1.At), (.slice A_p1_Cells p1.Cells.length c_p1_Cells)])] (fun fb => by kernel_rfl) (machine_Fits_calls _ p0 p1 A_p0_Actions c_p0_Actions A_p1_Cells c_p1_Cells t1606 _ (hS1516.rd 0) (hS1516.rd 1) ht1607) (fun v w1608 hR1609 => ?_)
  obtain ⟨rfl, hk_⟩ := hR1609
  have hS1610 := hS1516.keepN hk_
  refine ⟨trivial, ?_⟩
  refine seg 4 [] [2, 3, 4, 6, 14] [(2, (.int .i64 p2)), (3, (.pointer (some ⟨g1506, 0, none⟩))), (4, (.pointer (some ⟨g1510, 0, none⟩))), (6, (.pointer (some ⟨g1514, 0, none⟩))), (14, (.bool (!t1606)))] [] (fun fb => by kernel_rfl) rfl trivial ?_
  refine WL.done rfl ?_
  refine WX.next ?_
  rcases br_some hf with ⟨h1611, hf⟩ | ⟨h1611, hf⟩
  · refine WC.condT2 (fun fb => by kernel_rfl) h1611 ?_
    refine WC.seq ?_
    refine WC.region ?_
    refine seg 1 [] [6, 15] [(6, (.pointer (some ⟨g1514, 0, none⟩))), (15, (.agg #[(.int .i64 0), (.int .i64 0), (.slice none 0 0)]))] [] (fun fb => by kernel_rfl) rfl trivial ?_
    refine WL.store hS1610 0 rfl [(0, (.int .i64 0)), (1, (.int .i64 0)), (2, (.slice none 0 0))] #[(.int .i64 0), (.int .i64 0), (.slice none 0 0)] (fun fb => by kernel_rfl) (by kernel_rfl) rfl [1, 2] (by decide) (by decide) (fun w1612 hS1613 => ?_)
    refine ⟨trivial, ?_⟩
    refine seg 4 [] [6, 7, 8] [(6, (.pointer (some ⟨g1514, 0, none⟩))), (7, (.int .i64 0)), (8, (.int .i64 1))] [] (fun fb => by kernel_rfl) rfl trivial ?_
    refine WL.done rfl ?_
    refine WX.next ?_
    refine WC.ret ?_
    have hS1614 := hS1613.nilrow 3 encInt
    injection hf with hf
    subst hf
    exact WX.thenR (WX.ret_ [.v (.int .i64 0), .v (.int .i64 0), .v (.slice none 0 0)] (.tuple #[(.agg #[(.int .i64 0), (.int .i64 0), (.slice none ([] : List Int).length 0)]), (.int .i64 0), (.int .i64 1)]) [.cell ⟨g1514, 0, none⟩ (.int .i64 0), .cell ⟨g1514, 1, none⟩ (.int .i64 0), .cell ⟨g1514, 2, none⟩ (.slice none 0 0)] (fun fb => by kernel_rfl) ⟨hS1613.cell 0 rfl 0 rfl, hS1613.cell 0 rfl 1 rfl, hS1613.cell 0 rfl 2 rfl, trivial⟩ ⟨_, rfl, none, 0, rfl, (hS1614.sub [0] (by decide)).noR⟩)
  refine WC.condF2 (fun fb => by kernel_rfl) h1611 ?_
  refine WC.skip ?_
  refine WX.next ?_
  refine WC.seq ?_
  refine WC.seq ?_
  refine WC.region ?_
  refine seg 3 [] [2, 3, 4, 6, 18] [(2, (.int .i64 p2)), (3, (.pointer (some ⟨g1506, 0, none⟩))), (4, (.pointer (some ⟨g1510, 0, none⟩))), (6, (.pointer (some ⟨g1514, 0, none⟩))), (18, (.bool (decide (p2 < 0))))] [] (fun fb => by kernel_rfl) rfl trivial ?_
  refine WL.cutV (T := Bool) 6 (fun t => [(21, (.bool t)), (2, (.int .i64 p2)), (3, (.pointer (some ⟨g1506, 0, none⟩))), (4, (.pointer (some ⟨g1510, 0, none⟩))), (6, (.pointer (some ⟨g1514, 0, none⟩)))]) (fun t => t = ((decide (p2 < 0)) || (decide (p2 > 100000)))) (fun K => ?_) ?_
  ·
    rcases Bool.eq_false_or_eq_true (decide (p2 < 0)) with h1615 | h1615
    ·
      refine WL.setB 18 h1615 rfl ?_
      refine seg 6 [] [2, 3, 4, 6, 21] [(2, (.int .i64 p2)), (3, (.pointer (some ⟨g1506, 0, none⟩))), (4, (.pointer (some ⟨g1510, 0, none⟩))), (6, (.pointer (some ⟨g1514, 0, none⟩))), (21, (.bool true))] [] (fun fb => by kernel_rfl) rfl trivial ?_
      exact WL.toV K true [21, 2, 3, 4, 6] rfl (by rw [h1615]; rfl)
    refine WL.setB 18 h1615 rfl ?_
    refine seg 6 [] [2, 3, 4, 6, 21] [(2, (.int .i64 p2)), (3, (.pointer (some ⟨g1506, 0, none⟩))), (4, (.pointer (some ⟨g1510, 0, none⟩))), (6, (.pointer (some ⟨g1514, 0, none⟩))), (21, (.bool (decide (p2 > 100000))))] [] (fun fb => by kernel_rfl) rfl trivial ?_
    exact WL.toV K (decide (p2 > 100000)) [21, 2, 3, 4, 6] rfl (by rw [h1615]; rfl)
  rintro b1616 rfl
  refine WL.done rfl ?_
  refine WX.next ?_
  rcases br_some hf with ⟨h1617, hf⟩ | ⟨h1617, hf⟩
  · refine WC.condT2 (fun fb => by kernel_rfl) h1617 ?_
    refine WC.seq ?_
    refine WC.region ?_
    refine seg 1 [] [6, 22] [(6, (.pointer (some ⟨g1514, 0, none⟩))), (22, (.agg #[(.int .i64 0), (.int .i64 0), (.slice none 0 0)]))] [] (fun fb => by kernel_rfl) rfl trivial ?_
    refine WL.store hS1610 0 rfl [(0, (.int .i64 0)), (1, (.int .i64 0)), (2, (.slice none 0 0))] #[(.int .i64 0), (.int .i64 0), (.slice none 0 0)] (fun fb => by kernel_rfl) (by kernel_rfl) rfl [1, 2] (by decide) (by decide) (fun w1618 hS1619 => ?_)
    refine ⟨trivial, ?_⟩
    refine seg 4 [] [6, 7, 8] [(6, (.pointer (some ⟨g1514, 0, none⟩))), (7, (.int .i64 0)), (8, (.int .i64 2))] [] (fun fb => by kernel_rfl) rfl trivial ?_
    refine WL.done rfl ?_
    refine WX.next ?_
    refine WC.ret ?_
    have hS1620 := hS1619.nilrow 3 encInt
    injection hf with hf
    subst hf
    exact WX.thenR (WX.ret_ [.v (.int .i64 0), .v (.int .i64 0), .v (.slice none 0 0)] (.tuple #[(.agg #[(.int .i64 0), (.int .i64 0), (.slice none ([] : List Int).length 0)]), (.int .i64 0), (.int .i64 2)]) [.cell ⟨g1514, 0, none⟩ (.int .i64 0), .cell ⟨g1514, 1, none⟩ (.int .i64 0), .cell ⟨g1514, 2, none⟩ (.slice none 0 0)] (fun fb => by kernel_rfl) ⟨hS1619.cell 0 rfl 0 rfl, hS1619.cell 0 rfl 1 rfl, hS1619.cell 0 rfl 2 rfl, trivial⟩ ⟨_, rfl, none, 0, rfl, (hS1620.sub [0] (by decide)).noR⟩)
  refine WC.condF2 (fun fb => by kernel_rfl) h1617 ?_
  refine WC.skip ?_
  refine WX.next ?_
  refine WC.seq ?_
  refine WC.region ?_
  refine seg 2 [.v (.int .i64 p0.States), .v (.int .i64 p0.Symbols), .v (.slice A_p0_Actions p0.Actions.length c_p0_Actions), .v (.int .i64 p1.State), .v (.int .i64 p1.At), .v (.slice A_p1_Cells p1.Cells.length c_p1_Cells)] [2, 6, 23, 24] [(2, (.int .i64 p2)), (6, (.pointer (some ⟨g1514, 0, none⟩))), (23, (.agg #[(.int .i64 p0.States), (.int .i64 p0.Symbols), (.slice A_p0_Actions p0.Actions.length c_p0_Actions)])), (24, (.agg #[(.int .i64 p1.State), (.int .i64 p1.At), (.slice A_p1_Cells p1.Cells.length c_p1_Cells)]))] [.cell ⟨g1506, 0, none⟩ (.int .i64 p0.States), .cell ⟨g1506, 1, none⟩ (.int .i64 p0.Symbols), .cell ⟨g1506, 2, none⟩ (.slice A_p0_Actions p0.Actions.length c_p0_Actions), .cell ⟨g1510, 0, none⟩ (.int .i64 p1.State), .cell ⟨g1510, 1, none⟩ (.int .i64 p1.At), .cell ⟨g1510, 2, none⟩ (.slice A_p1_Cells p1.Cells.length c_p1_Cells)] (fun fb => by kernel_rfl) rfl ⟨hS1610.cell 2 rfl 0 rfl, hS1610.cell 2 rfl 1 rfl, hS1610.cell 2 rfl 2 rfl, hS1610.cell 1 rfl 0 rfl, hS1610.cell 1 rfl 1 rfl, hS1610.cell 1 rfl 2 rfl, trivial⟩ ?_
  obtain ⟨t1653, ht1654, hf⟩ := bind_some hf
  refine WL.call (some 25) 42 #[(.agg #[(.int .i64 p0.States), (.int .i64 p0.Symbols), (.slice A_p0_Actions p0.Actions.length c_p0_Actions)]), (.agg #[(.int .i64 p1.State), (.int .i64 p1.At), (.slice A_p1_Cells p1.Cells.length c_p1_Cells)])] (fun fb => by kernel_rfl) (machine_begin_calls p0 p1 A_p0_Actions c_p0_Actions A_p1_Cells c_p1_Cells t1653 _ (hS1610.rd 0) (hS1610.rd 1) ht1654) (fun v w1655 hR1656 => ?_)
  obtain ⟨g1658, A1659, c1660, rfl, hk_⟩ := hR1656
  have hS1657 : St NoS w w1655 [rowR enc_Action A_p0_Actions c_p0_Actions p0.Actions, rowR encInt A_p1_Cells c_p1_Cells p1.Cells] [blk g1658 (.cells #[(.int .i64 t1653.m.States), (.int .i64 t1653.m.Symbols), (.slice A_p0_Actions p0.Actions.length c_p0_Actions), (.int .i64 t1653.Config.State), (.int .i64 t1653.Config.At), (.slice A1659 t1653.Config.Cells.length c1660)] 82 (0, 0)), rowO 3 encInt A1659 c1660 t1653.Config.Cells, blk g1514 (.cells #[(.int .i64 0), (.int .i64 0), (.slice none 0 0)] 27 (0, 0)), blk g1510 (.cells #[(.int .i64 p1.State), (.int .i64 p1.At), (.slice A_p1_Cells p1.Cells.length c_p1_Cells)] 27 (0, 0)), blk g1506 (.cells #[(.int .i64 p0.States), (.int .i64 p0.Symbols), (.slice A_p0_Actions p0.Actions.length c_p0_Actions)] 24 (0, 0))] := hS1610.call hk_ [] [0, 1, 2] (fun g hg => hg.elim) (by simp) (by decide)
  refine ⟨trivial, ?_⟩
  refine seg 4 [] [2, 6, 9] [(2, (.int .i64 p2)), (6, (.pointer (some ⟨g1514, 0, none⟩))), (9, (.pointer (some ⟨g1658, 0, none⟩)))] [] (fun fb => by kernel_rfl) rfl trivial ?_
  refine WL.done rfl ?_
  refine WX.next ?_
  refine WC.seq ?_
  refine WC.region ?_
  refine seg 1 [] [2, 6, 9, 10] [(2, (.int .i64 p2)), (6, (.pointer (some ⟨g1514, 0, none⟩))), (9, (.pointer (some ⟨g1658, 0, none⟩))), (10, (.int .i64 0))] [] (fun fb => by kernel_rfl) rfl trivial ?_
  refine WL.done rfl ?_
  refine WX.next ?_
  refine WC.seq ?_
  obtain ⟨x1986, hx1987, hf⟩ := bind_some hf
  refine WC.cutN (T := (Int × Int × Int × Int × (List Int) × Int) × (Option Addr) × Nat) (fun t => [(6, (.pointer (some ⟨g1514, 0, none⟩))), (9, (.pointer (some ⟨g1658, 0, none⟩))), (10, (.int .i64 t.1.2.2.2.2.2))]) (fun t w1 => St NoS w w1 [rowR enc_Action A_p0_Actions c_p0_Actions p0.Actions, rowR encInt A_p1_Cells c_p1_Cells p1.Cells] [blk g1514 (.cells #[(.int .i64 0), (.int .i64 0), (.slice none 0 0)] 27 (0, 0)), blk g1658 (.cells #[(.int .i64 t.1.1), (.int .i64 t.1.2.1), (.slice A_p0_Actions p0.Actions.length c_p0_Actions), (.int .i64 t.1.2.2.1), (.int .i64 t.1.2.2.2.1), (.slice t.2.1 t.1.2.2.2.2.1.length t.2.2)] 82 (0, 0)), rowO 3 encInt t.2.1 t.2.2 t.1.2.2.2.2.1] ∧ x1986 = t.1) (fun Kx1986 => ?_) ?_
  ·
    refine WC.block ?_
    refine WC.loop (T := (Int × Int × Int × Int × (List Int) × Int) × (Option Addr) × Nat) (fun t => [(2, (.int .i64 p2)), (6, (.pointer (some ⟨g1514, 0, none⟩))), (9, (.pointer (some ⟨g1658, 0, none⟩))), (10, (.int .i64 t.1.2.2.2.2.2))]) (fun n t w1 => St NoS w w1 [rowR enc_Action A_p0_Actions c_p0_Actions p0.Actions, rowR encInt A_p1_Cells c_p1_Cells p1.Cells] [blk g1514 (.cells #[(.int .i64 0), (.int .i64 0), (.slice none 0 0)] 27 (0, 0)), blk g1658 (.cells #[(.int .i64 t.1.1), (.int .i64 t.1.2.1), (.slice A_p0_Actions p0.Actions.length c_p0_Actions), (.int .i64 t.1.2.2.1), (.int .i64 t.1.2.2.2.1), (.slice t.2.1 t.1.2.2.2.2.1.length t.2.2)] 82 (0, 0)), rowO 3 encInt t.2.1 t.2.2 t.1.2.2.2.2.1] ∧ machine_Run.l0 n t.1.1 t.1.2.1 t.1.2.2.1 t.1.2.2.2.1 t.1.2.2.2.2.1 t.1.2.2.2.2.2 p0 p2 = some x1986) k ((t1653.m.States, t1653.m.Symbols, t1653.Config.State, t1653.Config.At, t1653.Config.Cells, 0), A1659, c1660) [2, 6, 9, 10] rfl ⟨(hS1657.subR [0, 1]).sub [2, 0, 1] (by decide), hx1987⟩ ?_
    rintro k1988 ⟨⟨x1970, x1971, x1972, x1973, l1976, x1977⟩, A1974, c1975⟩ w1989 ⟨hS1990, hl1991⟩
    cases k1988 with
    | zero => rw [machine_Run.l0] at hl1991; cases hl1991
    | succ k1988 =>
      rw [machine_Run.l0] at hl1991
      refine WC.seq ?_
      refine WC.seq ?_
      refine WC.region ?_
      refine seg 4 [] [2, 6, 9, 10, 29] [(2, (.int .i64 p2)), (6, (.pointer (some ⟨g1514, 0, none⟩))), (9, (.pointer (some ⟨g1658, 0, none⟩))), (10, (.int .i64 x1977)), (29, (.bool (decide (x1977 < p2))))] [] (fun fb => by kernel_rfl) rfl trivial ?_
      obtain ⟨x2007, hx2008, hl1991⟩ := bind_some hl1991
      refine WL.cutW (T := (Int × Int × Int × Int × (List Int) × Bool) × (Option Addr) × Nat) 8 (fun t => [(2, (.int .i64 p2)), (6, (.pointer (some ⟨g1514, 0, none⟩))), (9, (.pointer (some ⟨g1658, 0, none⟩))), (10, (.int .i64 x1977)), (33, (.bool t.1.2.2.2.2.2))]) (fun t w1 => (St NoS w w1 [rowR enc_Action A_p0_Actions c_p0_Actions p0.Actions, rowR encInt A_p1_Cells c_p1_Cells p1.Cells] [blk g1514 (.cells #[(.int .i64 0), (.int .i64 0), (.slice none 0 0)] 27 (0, 0)), blk g1658 (.cells #[(.int .i64 t.1.1), (.int .i64 t.1.2.1), (.slice A_p0_Actions p0.Actions.length c_p0_Actions), (.int .i64 t.1.2.2.1), (.int .i64 t.1.2.2.2.1), (.slice t.2.1 t.1.2.2.2.2.1.length t.2.2)] 82 (0, 0)), rowO 3 encInt t.2.1 t.2.2 t.1.2.2.2.2.1] ∧ x2007 = t.1) ∧ CellsOK [] w1) (fun K => ?_) ?_
      ·
        rcases br_some hx2008 with ⟨h2009, hx2008⟩ | ⟨h2009, hx2008⟩
        ·
          refine WL.setB 29 h2009 rfl ?_
          refine seg 5 [] [2, 6, 9, 10, 29, 30] [(2, (.int .i64 p2)), (6, (.pointer (some ⟨g1514, 0, none⟩))), (9, (.pointer (some ⟨g1658, 0, none⟩))), (10, (.int .i64 x1977)), (29, (.bool true)), (30, (.pointer (some ⟨g1658, 0, none⟩)))] [] (fun fb => by kernel_rfl) rfl trivial ?_
          obtain ⟨t2010, ht2011, hx2008⟩ := bind_some hx2008
          refine WL.call (some 31) 43 #[(.pointer (some ⟨g1658, 0, none⟩))] (fun fb => by kernel_rfl) (machine_runner_step_calls (Runner.mk (Machine.mk x1970 x1971 p0.Actions) (Config.mk x1972 x1973 l1976)) g1658 A_p0_Actions c_p0_Actions A1974 c1975 t2010 _ (hS1990.rdT [1, 2] 0) (hS1990.io [1, 2] (by decide)) ht2011) (fun v w2012 hR2013 => ?_)
          obtain ⟨A2015, c2016, rfl, hk_⟩ := hR2013
          have hS2014 : St NoS w w2012 [rowR enc_Action A_p0_Actions c_p0_Actions p0.Actions, rowR encInt A_p1_Cells c_p1_Cells p1.Cells] [blk g1658 (.cells #[(.int .i64 t2010.2.m.States), (.int .i64 t2010.2.m.Symbols), (.slice A_p0_Actions p0.Actions.length c_p0_Actions), (.int .i64 t2010.2.Config.State), (.int .i64 t2010.2.Config.At), (.slice A2015 t2010.2.Config.Cells.length c2016)] 82 (0, 0)), rowO 3 encInt A2015 c2016 t2010.2.Config.Cells, blk g1514 (.cells #[(.int .i64 0), (.int .i64 0), (.slice none 0 0)] 27 (0, 0))] := hS1990.call hk_ [1, 2] [0] (fun g hg => fpL_sel g hg) (by decide) (by decide)
          refine ⟨trivial, ?_⟩
          refine seg 8 [] [2, 6, 9, 10, 33] [(2, (.int .i64 p2)), (6, (.pointer (some ⟨g1514, 0, none⟩))), (9, (.pointer (some ⟨g1658, 0, none⟩))), (10, (.int .i64 x1977)), (33, (.bool (t2010.1 == 0)))] [] (fun fb => by kernel_rfl) rfl trivial ?_
          injection hx2008 with hx2008
          exact WL.to K ((t2010.2.m.States, t2010.2.m.Symbols, t2010.2.Config.State, t2010.2.Config.At, t2010.2.Config.Cells, t2010.1 == 0), A2015, c2016) [2, 6, 9, 10, 33] rfl ⟨⟨(hS2014.subR [0, 1]).sub [2, 0, 1] (by decide), hx2008.symm⟩, trivial⟩
        refine WL.setB 29 h2009 rfl ?_
        refine seg 8 [] [2, 6, 9, 10, 33] [(2, (.int .i64 p2)), (6, (.pointer (some ⟨g1514, 0, none⟩))), (9, (.pointer (some ⟨g1658, 0, none⟩))), (10, (.int .i64 x1977)), (33, (.bool false))] [] (fun fb => by kernel_rfl) rfl trivial ?_
        injection hx2008 with hx2008
        exact WL.to K ((x1970, x1971, x1972, x1973, l1976, false), A1974, c1975) [2, 6, 9, 10, 33] rfl ⟨⟨(hS1990.subR [0, 1]).sub [0, 1, 2] (by decide), hx2008.symm⟩, trivial⟩
      rintro ⟨y2017, A2003, c2004⟩ w2019 ⟨⟨hS2020, hq2018⟩, hF2021⟩
      subst hq2018
      refine WL.done rfl ?_
      refine WX.next ?_
      rcases br_some hl1991 with ⟨h2022, hl1991⟩ | ⟨h2022, hl1991⟩
      · refine WC.condT2 (fun fb => by kernel_rfl) h2022 ?_
        refine WC.skip ?_
        refine WX.next ?_
        refine WC.block ?_
        refine WC.region ?_
        refine seg 3 [] [2, 6, 9, 10] [(2, (.int .i64 p2)), (6, (.pointer (some ⟨g1514, 0, none⟩))), (9, (.pointer (some ⟨g1658, 0, none⟩))), (10, (.int .i64 (w64 (x1977 + 1))))] [] (fun fb => by kernel_rfl) rfl trivial ?_
        refine WL.done rfl ?_
        exact WX.blockN (WX.again k1988 (Nat.lt_succ_self _) ((x2007.1, x2007.2.1, x2007.2.2.1, x2007.2.2.2.1, x2007.2.2.2.2.1, w64 (x1977 + 1)), A2003, c2004) [2, 6, 9, 10] rfl ⟨(hS2020.subR [0, 1]).sub [0, 1, 2] (by decide), hl1991⟩)
      refine WC.condF2 (fun fb => by kernel_rfl) h2022 ?_
      refine WC.exit ?_
      injection hl1991 with hl1991
      exact WX.thenX (WX.thenX (WX.blockHere (WX.to Kx1986 ((x2007.1, x2007.2.1, x2007.2.2.1, x2007.2.2.2.1, x2007.2.2.2.2.1, x1977), A2003, c2004) [6, 9, 10] rfl ⟨(hS2020.subR [0, 1]).sub [0, 1, 2] (by decide), hl1991.symm⟩)))
  rintro ⟨y2026, A1982, c1983⟩ w2023 ⟨hS2024, hq2025⟩
  subst hq2025
  refine WX.next ?_
  refine WC.seq ?_
  refine WC.region ?_
  refine seg 5 [.v (.int .i64 x1986.2.2.1), .v (.int .i64 x1986.2.2.2.1), .v (.slice A1982 x1986.2.2.2.2.1.length c1983)] [6, 39, 40] [(6, (.pointer (some ⟨g1514, 0, none⟩))), (39, (.agg #[(.int .i64 x1986.2.2.1), (.int .i64 x1986.2.2.2.1), (.slice A1982 x1986.2.2.2.2.1.length c1983)])), (40, (.int .i64 x1986.2.2.2.2.2))] [.cell ⟨g1658, 3, none⟩ (.int .i64 x1986.2.2.1), .cell ⟨g1658, 4, none⟩ (.int .i64 x1986.2.2.2.1), .cell ⟨g1658, 5, none⟩ (.slice A1982 x1986.2.2.2.2.1.length c1983)] (fun fb => by kernel_rfl) rfl ⟨hS2024.cell 1 rfl 3 rfl, hS2024.cell 1 rfl 4 rfl, hS2024.cell 1 rfl 5 rfl, trivial⟩ ?_
  refine WL.store hS2024 0 rfl [(0, (.int .i64 x1986.2.2.1)), (1, (.int .i64 x1986.2.2.2.1)), (2, (.slice A1982 x1986.2.2.2.2.1.length c1983))] #[(.int .i64 x1986.2.2.1), (.int .i64 x1986.2.2.2.1), (.slice A1982 x1986.2.2.2.2.1.length c1983)] (fun fb => by kernel_rfl) (by kernel_rfl) rfl [1, 2] (by decide) (by decide) (fun w2027 hS2028 => ?_)
  refine ⟨trivial, ?_⟩
  refine seg 8 [] [6, 7, 8] [(6, (.pointer (some ⟨g1514, 0, none⟩))), (7, (.int .i64 x1986.2.2.2.2.2)), (8, (.int .i64 0))] [] (fun fb => by kernel_rfl) rfl trivial ?_
  refine WL.done rfl ?_
  refine WX.next ?_
  refine WC.ret ?_
  injection hf with hf
  subst hf
  exact WX.ret_ [.v (.int .i64 x1986.2.2.1), .v (.int .i64 x1986.2.2.2.1), .v (.slice A1982 x1986.2.2.2.2.1.length c1983)] (.tuple #[(.agg #[(.int .i64 x1986.2.2.1), (.int .i64 x1986.2.2.2.1), (.slice A1982 x1986.2.2.2.2.1.length c1983)]), (.int .i64 x1986.2.2.2.2.2), (.int .i64 0)]) [.cell ⟨g1514, 0, none⟩ (.int .i64 x1986.2.2.1), .cell ⟨g1514, 1, none⟩ (.int .i64 x1986.2.2.2.1), .cell ⟨g1514, 2, none⟩ (.slice A1982 x1986.2.2.2.2.1.length c1983)] (fun fb => by kernel_rfl) ⟨hS2028.cell 0 rfl 0 rfl, hS2028.cell 0 rfl 1 rfl, hS2028.cell 0 rfl 2 rfl, trivial⟩ ⟨_, rfl, A1982, c1983, rfl, (hS2028.sub [2] (by decide)).noR⟩
end Gp
