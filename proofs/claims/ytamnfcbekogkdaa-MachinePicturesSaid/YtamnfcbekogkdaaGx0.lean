/- Walks: each function of the program computes its plain function. -/
import Derived.Test.YtamnfcbekogkdaaGp
set_option linter.unusedVariables false
set_option linter.unusedSimpArgs false
namespace Gp
open Go Gw Go.Proofs
theorem law08_wide_calls (p0 : Machine) (p1 : Config) (A_p0_Actions : Option Addr) (c_p0_Actions : Nat) (A_p1_Cells : Option Addr) (c_p1_Cells : Nat) (r : Bool) (w : World) (hR0 : RO NoS w (rowR enc_Action A_p0_Actions c_p0_Actions p0.Actions)) (hR1 : RO NoS w (rowR encInt A_p1_Cells c_p1_Cells p1.Cells)) (hf : law08_wide p0 p1 = some r) :
    CallsR Try.prog 10 #[(.agg #[(.int .i64 p0.States), (.int .i64 p0.Symbols), (.slice A_p0_Actions p0.Actions.length c_p0_Actions)]), (.agg #[(.int .i64 p1.State), (.int .i64 p1.At), (.slice A_p1_Cells p1.Cells.length c_p1_Cells)])] w (fun v w' => v = (.bool r) ∧ Keeps NoS w w') := by
  have hS : St NoS w w [rowR enc_Action A_p0_Actions c_p0_Actions p0.Actions, rowR encInt A_p1_Cells c_p1_Cells p1.Cells] [] := St.init (ro_cons hR0 (ro_cons hR1 (ro_nil _ _)))
  refine enter 15 Try.func10 rfl Try.ntmps10 rfl ?_
  unfold law08_wide at hf
  refine WC.seq ?_
  refine WC.region ?_
  refine WL.new hS 2 [] (fun g => (.pointer (some ⟨g, 0, none⟩))) (.cells #[(.int .i64 p0.States), (.int .i64 p0.Symbols), (.slice A_p0_Actions p0.Actions.length c_p0_Actions)] 24 (0, 0)) [] (fun fb g => by kernel_rfl) trivial (fun g14 w15 hS16 => ?_)
  refine ⟨trivial, ?_⟩
  refine WL.new hS16 3 [] (fun g => (.pointer (some ⟨g, 0, none⟩))) (.cells #[(.int .i64 p1.State), (.int .i64 p1.At), (.slice A_p1_Cells p1.Cells.length c_p1_Cells)] 27 (0, 0)) [] (fun fb g => by kernel_rfl) trivial (fun g18 w19 hS20 => ?_)
  refine ⟨trivial, ?_⟩
  refine seg 3 [] [2, 3] [(2, (.pointer (some ⟨g14, 0, none⟩))), (3, (.pointer (some ⟨g18, 0, none⟩)))] [] (fun fb => by kernel_rfl) rfl trivial ?_
  refine WL.done rfl ?_
  refine WX.next ?_
  refine WC.seq ?_
  refine WC.region ?_
  refine seg 5 [.v (.slice A_p0_Actions p0.Actions.length c_p0_Actions)] [3, 9] [(3, (.pointer (some ⟨g18, 0, none⟩))), (9, (.bool (decide ((p0.Actions.length : Int) > 200))))] [.cell ⟨g14, 2, none⟩ (.slice A_p0_Actions p0.Actions.length c_p0_Actions)] (fun fb => by kernel_rfl) rfl ⟨hS20.cell 1 rfl 2 rfl, trivial⟩ ?_
  refine WL.cutV (T := Bool) 10 (fun t => [(14, (.bool t))]) (fun t => t = ((decide ((p0.Actions.length : Int) > 200)) || (decide ((p1.Cells.length : Int) > 1000)))) (fun K => ?_) ?_
  ·
    rcases Bool.eq_false_or_eq_true (decide ((p0.Actions.length : Int) > 200)) with h22 | h22
    ·
      refine WL.setB 9 h22 rfl ?_
      refine seg 10 [] [14] [(14, (.bool true))] [] (fun fb => by kernel_rfl) rfl trivial ?_
      exact WL.toV K true [14] rfl (by rw [h22]; rfl)
    refine WL.setB 9 h22 rfl ?_
    refine seg 10 [.v (.slice A_p1_Cells p1.Cells.length c_p1_Cells)] [14] [(14, (.bool (decide ((p1.Cells.length : Int) > 1000))))] [.cell ⟨g18, 2, none⟩ (.slice A_p1_Cells p1.Cells.length c_p1_Cells)] (fun fb => by kernel_rfl) rfl ⟨hS20.cell 0 rfl 2 rfl, trivial⟩ ?_
    exact WL.toV K (decide ((p1.Cells.length : Int) > 1000)) [14] rfl (by rw [h22]; rfl)
  rintro b23 rfl
  refine seg 11 [] [4] [(4, (.bool ((decide ((p0.Actions.length : Int) > 200)) || (decide ((p1.Cells.length : Int) > 1000)))))] [] (fun fb => by kernel_rfl) rfl trivial ?_
  refine WL.done rfl ?_
  refine WX.next ?_
  refine WC.ret ?_
  injection hf with hf
  subst hf
  exact WX.ret_ [] (.bool ((decide ((p0.Actions.length : Int) > 200)) || (decide ((p1.Cells.length : Int) > 1000)))) [] (fun fb => by kernel_rfl) trivial ⟨_, rfl, rfl, hS20.keep⟩
theorem law08_goes_calls   (r : Machine) (w : World)  (hf : law08_goes = some r) :
    CallsR Try.prog 40 #[] w (fun v w' => ∃ (A1_ : Option Addr), ∃ (c1_ : Nat), v = (.agg #[(.int .i64 r.States), (.int .i64 r.Symbols), (.slice A1_ r.Actions.length c1_)]) ∧ St NoS w w' [] [rowO 88 enc_Action A1_ c1_ r.Actions]) := by
  have hS : St NoS w w [] [] := St.init (ro_nil _ _)
  refine enter 5 Try.func40 rfl Try.ntmps40 rfl ?_
  unfold law08_goes at hf
  refine WC.seq ?_
  refine WC.region ?_
  refine WL.new hS 0 [] (fun g => (.pointer (some ⟨g, 0, none⟩))) (.cells #[(.int .i64 0), (.int .i64 0), (.slice none 0 0)] 24 (0, 0)) [] (fun fb g => by kernel_rfl) trivial (fun g40 w41 hS42 => ?_)
  refine ⟨trivial, ?_⟩
  refine WL.done rfl ?_
  refine WX.next ?_
  refine WC.seq ?_
  refine WC.region ?_
  refine seg 2 [] [0, 1, 2] [(0, (.pointer (some ⟨g40, 0, none⟩))), (1, (.agg #[(.int .i64 1), (.int .i64 1), (.int .i64 0)])), (2, (.agg #[(.int .i64 1), (.int .i64 1), (.int .i64 0)]))] [] (fun fb => by kernel_rfl) rfl trivial ?_
  refine WL.new hS42 3 [] (fun g => (.slice (some ⟨g, 0, none⟩) 2 2)) (.cells #[(.int .i64 1), (.int .i64 1), (.int .i64 0), (.int .i64 1), (.int .i64 1), (.int .i64 0)] 88 (0, 0)) [] (fun fb g => by kernel_rfl) trivial (fun g44 w45 hS46 => ?_)
  refine ⟨trivial, ?_⟩
  have hS48 : St NoS w w45 [] [rowO 88 enc_Action (some ⟨g44, 0, none⟩) 2 [(Action.mk 1 1 0), (Action.mk 1 1 0)], blk g40 (.cells #[(.int .i64 0), (.int .i64 0), (.slice none 0 0)] 24 (0, 0))] := hS46.map1 0 _ (fun h => rowO.ofBlk h rfl (Nat.le_of_ble_eq_true (by kernel_rfl))) (fun _ h => by obtain ⟨_, h1, h2⟩ := h; injection h1 with h1; subst h1; exact h2) [1] (by decide) (by decide)
  refine seg 4 [] [0, 4] [(0, (.pointer (some ⟨g40, 0, none⟩))), (4, (.agg #[(.int .i64 1), (.int .i64 2), (.slice (some ⟨g44, 0, none⟩) [(Action.mk 1 1 0), (Action.mk 1 1 0)].length 2)]))] [] (fun fb => by kernel_rfl) rfl trivial ?_
  refine WL.store hS48 1 rfl [(0, (.int .i64 1)), (1, (.int .i64 2)), (2, (.slice (some ⟨g44, 0, none⟩) [(Action.mk 1 1 0), (Action.mk 1 1 0)].length 2))] #[(.int .i64 1), (.int .i64 2), (.slice (some ⟨g44, 0, none⟩) [(Action.mk 1 1 0), (Action.mk 1 1 0)].length 2)] (fun fb => by kernel_rfl) (by kernel_rfl) rfl [0] (by decide) (by decide) (fun w49 hS50 => ?_)
  refine ⟨trivial, ?_⟩
  refine WL.done rfl ?_
  refine WX.next ?_
  refine WC.ret ?_
  injection hf with hf
  subst hf
  exact WX.ret_ [.v (.int .i64 1), .v (.int .i64 2), .v (.slice (some ⟨g44, 0, none⟩) [(Action.mk 1 1 0), (Action.mk 1 1 0)].length 2)] (.agg #[(.int .i64 1), (.int .i64 2), (.slice (some ⟨g44, 0, none⟩) [(Action.mk 1 1 0), (Action.mk 1 1 0)].length 2)]) [.cell ⟨g40, 0, none⟩ (.int .i64 1), .cell ⟨g40, 1, none⟩ (.int .i64 2), .cell ⟨g40, 2, none⟩ (.slice (some ⟨g44, 0, none⟩) [(Action.mk 1 1 0), (Action.mk 1 1 0)].length 2)] (fun fb => by kernel_rfl) ⟨hS50.cell 0 rfl 0 rfl, hS50.cell 0 rfl 1 rfl, hS50.cell 0 rfl 2 rfl, trivial⟩ ⟨_, rfl, (some ⟨g44, 0, none⟩), 2, rfl, (hS50.sub [1] (by decide)).noR⟩
theorem machine_action_calls (p0 : Machine) (p1 : Action) (A_p0_Actions : Option Addr) (c_p0_Actions : Nat) (r : Bool) (w : World) (hR0 : RO NoS w (rowR enc_Action A_p0_Actions c_p0_Actions p0.Actions)) (hf : machine_action p0 p1 = some r) :
    CallsR Try.prog 48 #[(.agg #[(.int .i64 p0.States), (.int .i64 p0.Symbols), (.slice A_p0_Actions p0.Actions.length c_p0_Actions)]), (.agg #[(.int .i64 p1.Write), (.int .i64 p1.Move), (.int .i64 p1.Next)])] w (fun v w' => v = (.bool r) ∧ Keeps NoS w w') := by
  have hS : St NoS w w [rowR enc_Action A_p0_Actions c_p0_Actions p0.Actions] [] := St.init (ro_cons hR0 (ro_nil _ _))
  refine enter 50 Try.func48 rfl Try.ntmps48 rfl ?_
  unfold machine_action at hf
  refine WC.seq ?_
  refine WC.region ?_
  refine WL.new hS 2 [] (fun g => (.pointer (some ⟨g, 0, none⟩))) (.cells #[(.int .i64 p0.States), (.int .i64 p0.Symbols), (.slice A_p0_Actions p0.Actions.length c_p0_Actions)] 24 (0, 0)) [] (fun fb g => by kernel_rfl) trivial (fun g80 w81 hS82 => ?_)
  refine ⟨trivial, ?_⟩
  refine WL.new hS82 3 [] (fun g => (.pointer (some ⟨g, 0, none⟩))) (.cells #[(.int .i64 p1.Write), (.int .i64 p1.Move), (.int .i64 p1.Next)] 88 (0, 0)) [] (fun fb g => by kernel_rfl) trivial (fun g84 w85 hS86 => ?_)
  refine ⟨trivial, ?_⟩
  refine seg 3 [] [2, 3] [(2, (.pointer (some ⟨g80, 0, none⟩))), (3, (.pointer (some ⟨g84, 0, none⟩)))] [] (fun fb => by kernel_rfl) rfl trivial ?_
  refine WL.done rfl ?_
  refine WX.next ?_
  refine WC.seq ?_
  refine WC.seq ?_
  refine WC.region ?_
  refine seg 5 [.v (.int .i64 p1.Next), .v (.int .i64 p0.States)] [2, 3, 9] [(2, (.pointer (some ⟨g80, 0, none⟩))), (3, (.pointer (some ⟨g84, 0, none⟩))), (9, (.bool (p1.Next == p0.States)))] [.cell ⟨g84, 2, none⟩ (.int .i64 p1.Next), .cell ⟨g80, 0, none⟩ (.int .i64 p0.States)] (fun fb => by kernel_rfl) rfl ⟨hS86.cell 0 rfl 2 rfl, hS86.cell 1 rfl 0 rfl, trivial⟩ ?_
  refine WL.done rfl ?_
  refine WX.next ?_
  rcases br_some hf with ⟨h88, hf⟩ | ⟨h88, hf⟩
  · refine WC.condT2 (fun fb => by kernel_rfl) h88 ?_
    refine WC.seq ?_
    refine WC.region ?_
    refine seg 4 [.v (.int .i64 p1.Write)] [3, 13] [(3, (.pointer (some ⟨g84, 0, none⟩))), (13, (.bool (p1.Write == 0)))] [.cell ⟨g84, 0, none⟩ (.int .i64 p1.Write)] (fun fb => by kernel_rfl) rfl ⟨hS86.cell 0 rfl 0 rfl, trivial⟩ ?_
    refine WL.cutV (T := Bool) 8 (fun t => [(17, (.bool t))]) (fun t => t = ((p1.Write == 0) && (p1.Move == 0))) (fun K => ?_) ?_
    ·
      rcases Bool.eq_false_or_eq_true (p1.Write == 0) with h89 | h89
      ·
        refine WL.setB 13 h89 rfl ?_
        refine seg 8 [.v (.int .i64 p1.Move)] [17] [(17, (.bool (p1.Move == 0)))] [.cell ⟨g84, 1, none⟩ (.int .i64 p1.Move)] (fun fb => by kernel_rfl) rfl ⟨hS86.cell 0 rfl 1 rfl, trivial⟩ ?_
        exact WL.toV K (p1.Move == 0) [17] rfl (by rw [h89]; rfl)
      refine WL.setB 13 h89 rfl ?_
      refine seg 8 [] [17] [(17, (.bool false))] [] (fun fb => by kernel_rfl) rfl trivial ?_
      exact WL.toV K false [17] rfl (by rw [h89]; rfl)
    rintro b90 rfl
    refine seg 9 [] [4] [(4, (.bool ((p1.Write == 0) && (p1.Move == 0))))] [] (fun fb => by kernel_rfl) rfl trivial ?_
    refine WL.done rfl ?_
    refine WX.next ?_
    refine WC.ret ?_
    injection hf with hf
    subst hf
    exact WX.thenR (WX.ret_ [] (.bool ((p1.Write == 0) && (p1.Move == 0))) [] (fun fb => by kernel_rfl) trivial ⟨_, rfl, rfl, hS86.keep⟩)
  refine WC.condF2 (fun fb => by kernel_rfl) h88 ?_
  refine WC.skip ?_
  refine WX.next ?_
  refine WC.seq ?_
  refine WC.region ?_
  refine seg 4 [.v (.int .i64 p1.Write)] [2, 3, 21] [(2, (.pointer (some ⟨g80, 0, none⟩))), (3, (.pointer (some ⟨g84, 0, none⟩))), (21, (.bool (decide (p1.Write ≥ 0))))] [.cell ⟨g84, 0, none⟩ (.int .i64 p1.Write)] (fun fb => by kernel_rfl) rfl ⟨hS86.cell 0 rfl 0 rfl, trivial⟩ ?_
  refine WL.cutV (T := Bool) 10 (fun t => [(27, (.bool t)), (2, (.pointer (some ⟨g80, 0, none⟩))), (3, (.pointer (some ⟨g84, 0, none⟩)))]) (fun t => t = ((decide (p1.Write ≥ 0)) && (decide (p1.Write < p0.Symbols)))) (fun K => ?_) ?_
  ·
    rcases Bool.eq_false_or_eq_true (decide (p1.Write ≥ 0)) with h91 | h91
    ·
      refine WL.setB 21 h91 rfl ?_
      refine seg 10 [.v (.int .i64 p1.Write), .v (.int .i64 p0.Symbols)] [2, 3, 27] [(2, (.pointer (some ⟨g80, 0, none⟩))), (3, (.pointer (some ⟨g84, 0, none⟩))), (27, (.bool (decide (p1.Write < p0.Symbols))))] [.cell ⟨g84, 0, none⟩ (.int .i64 p1.Write), .cell ⟨g80, 1, none⟩ (.int .i64 p0.Symbols)] (fun fb => by kernel_rfl) rfl ⟨hS86.cell 0 rfl 0 rfl, hS86.cell 1 rfl 1 rfl, trivial⟩ ?_
      exact WL.toV K (decide (p1.Write < p0.Symbols)) [27, 2, 3] rfl (by rw [h91]; rfl)
    refine WL.setB 21 h91 rfl ?_
    refine seg 10 [] [2, 3, 27] [(2, (.pointer (some ⟨g80, 0, none⟩))), (3, (.pointer (some ⟨g84, 0, none⟩))), (27, (.bool false))] [] (fun fb => by kernel_rfl) rfl trivial ?_
    exact WL.toV K false [27, 2, 3] rfl (by rw [h91]; rfl)
  rintro b92 rfl
  refine seg 11 [] [2, 3, 28] [(2, (.pointer (some ⟨g80, 0, none⟩))), (3, (.pointer (some ⟨g84, 0, none⟩))), (28, (.bool ((decide (p1.Write ≥ 0)) && (decide (p1.Write < p0.Symbols)))))] [] (fun fb => by kernel_rfl) rfl trivial ?_
  refine WL.cutV (T := Bool) 15 (fun t => [(32, (.bool t)), (2, (.pointer (some ⟨g80, 0, none⟩))), (3, (.pointer (some ⟨g84, 0, none⟩)))]) (fun t => t = (((decide (p1.Write ≥ 0)) && (decide (p1.Write < p0.Symbols))) && (decide (p1.Move ≥ 0)))) (fun K => ?_) ?_
  ·
    rcases Bool.eq_false_or_eq_true ((decide (p1.Write ≥ 0)) && (decide (p1.Write < p0.Symbols))) with h93 | h93
    ·
      refine WL.setB 28 h93 rfl ?_
      refine seg 15 [.v (.int .i64 p1.Move)] [2, 3, 32] [(2, (.pointer (some ⟨g80, 0, none⟩))), (3, (.pointer (some ⟨g84, 0, none⟩))), (32, (.bool (decide (p1.Move ≥ 0))))] [.cell ⟨g84, 1, none⟩ (.int .i64 p1.Move)] (fun fb => by kernel_rfl) rfl ⟨hS86.cell 0 rfl 1 rfl, trivial⟩ ?_
      exact WL.toV K (decide (p1.Move ≥ 0)) [32, 2, 3] rfl (by rw [h93]; rfl)
    refine WL.setB 28 h93 rfl ?_
    refine seg 15 [] [2, 3, 32] [(2, (.pointer (some ⟨g80, 0, none⟩))), (3, (.pointer (some ⟨g84, 0, none⟩))), (32, (.bool false))] [] (fun fb => by kernel_rfl) rfl trivial ?_
    exact WL.toV K false [32, 2, 3] rfl (by rw [h93]; rfl)
  rintro b94 rfl
  refine seg 16 [] [2, 3, 33] [(2, (.pointer (some ⟨g80, 0, none⟩))), (3, (.pointer (some ⟨g84, 0, none⟩))), (33, (.bool (((decide (p1.Write ≥ 0)) && (decide (p1.Write < p0.Symbols))) && (decide (p1.Move ≥ 0)))))] [] (fun fb => by kernel_rfl) rfl trivial ?_
  refine WL.cutV (T := Bool) 20 (fun t => [(37, (.bool t)), (2, (.pointer (some ⟨g80, 0, none⟩))), (3, (.pointer (some ⟨g84, 0, none⟩)))]) (fun t => t = ((((decide (p1.Write ≥ 0)) && (decide (p1.Write < p0.Symbols))) && (decide (p1.Move ≥ 0))) && (decide (p1.Move < 2)))) (fun K => ?_) ?_
  ·
    rcases Bool.eq_false_or_eq_true (((decide (p1.Write ≥ 0)) && (decide (p1.Write < p0.Symbols))) && (decide (p1.Move ≥ 0))) with h95 | h95
    ·
      refine WL.setB 33 h95 rfl ?_
      refine seg 20 [.v (.int .i64 p1.Move)] [2, 3, 37] [(2, (.pointer (some ⟨g80, 0, none⟩))), (3, (.pointer (some ⟨g84, 0, none⟩))), (37, (.bool (decide (p1.Move < 2))))] [.cell ⟨g84, 1, none⟩ (.int .i64 p1.Move)] (fun fb => by kernel_rfl) rfl ⟨hS86.cell 0 rfl 1 rfl, trivial⟩ ?_
      exact WL.toV K (decide (p1.Move < 2)) [37, 2, 3] rfl (by rw [h95]; rfl)
    refine WL.setB 33 h95 rfl ?_
    refine seg 20 [] [2, 3, 37] [(2, (.pointer (some ⟨g80, 0, none⟩))), (3, (.pointer (some ⟨g84, 0, none⟩))), (37, (.bool false))] [] (fun fb => by kernel_rfl) rfl trivial ?_
    exact WL.toV K false [37, 2, 3] rfl (by rw [h95]; rfl)
  rintro b96 rfl
  refine seg 21 [] [2, 3, 38] [(2, (.pointer (some ⟨g80, 0, none⟩))), (3, (.pointer (some ⟨g84, 0, none⟩))), (38, (.bool ((((decide (p1.Write ≥ 0)) && (decide (p1.Write < p0.Symbols))) && (decide (p1.Move ≥ 0))) && (decide (p1.Move < 2)))))] [] (fun fb => by kernel_rfl) rfl trivial ?_
  refine WL.cutV (T := Bool) 25 (fun t => [(42, (.bool t)), (2, (.pointer (some ⟨g80, 0, none⟩))), (3, (.pointer (some ⟨g84, 0, none⟩)))]) (fun t => t = (((((decide (p1.Write ≥ 0)) && (decide (p1.Write < p0.Symbols))) && (decide (p1.Move ≥ 0))) && (decide (p1.Move < 2))) && (decide (p1.Next ≥ 0)))) (fun K => ?_) ?_
  ·
    rcases Bool.eq_false_or_eq_true ((((decide (p1.Write ≥ 0)) && (decide (p1.Write < p0.Symbols))) && (decide (p1.Move ≥ 0))) && (decide (p1.Move < 2))) with h97 | h97
    ·
      refine WL.setB 38 h97 rfl ?_
      refine seg 25 [.v (.int .i64 p1.Next)] [2, 3, 42] [(2, (.pointer (some ⟨g80, 0, none⟩))), (3, (.pointer (some ⟨g84, 0, none⟩))), (42, (.bool (decide (p1.Next ≥ 0))))] [.cell ⟨g84, 2, none⟩ (.int .i64 p1.Next)] (fun fb => by kernel_rfl) rfl ⟨hS86.cell 0 rfl 2 rfl, trivial⟩ ?_
      exact WL.toV K (decide (p1.Next ≥ 0)) [42, 2, 3] rfl (by rw [h97]; rfl)
    refine WL.setB 38 h97 rfl ?_
    refine seg 25 [] [2, 3, 42] [(2, (.pointer (some ⟨g80, 0, none⟩))), (3, (.pointer (some ⟨g84, 0, none⟩))), (42, (.bool false))] [] (fun fb => by kernel_rfl) rfl trivial ?_
    exact WL.toV K false [42, 2, 3] rfl (by rw [h97]; rfl)
  rintro b98 rfl
  refine seg 26 [] [2, 3, 43] [(2, (.pointer (some ⟨g80, 0, none⟩))), (3, (.pointer (some ⟨g84, 0, none⟩))), (43, (.bool (((((decide (p1.Write ≥ 0)) && (decide (p1.Write < p0.Symbols))) && (decide (p1.Move ≥ 0))) && (decide (p1.Move < 2))) && (decide (p1.Next ≥ 0)))))] [] (fun fb => by kernel_rfl) rfl trivial ?_
  refine WL.cutV (T := Bool) 32 (fun t => [(49, (.bool t))]) (fun t => t = ((((((decide (p1.Write ≥ 0)) && (decide (p1.Write < p0.Symbols))) && (decide (p1.Move ≥ 0))) && (decide (p1.Move < 2))) && (decide (p1.Next ≥ 0))) && (decide (p1.Next < p0.States)))) (fun K => ?_) ?_
  ·
    rcases Bool.eq_false_or_eq_true (((((decide (p1.Write ≥ 0)) && (decide (p1.Write < p0.Symbols))) && (decide (p1.Move ≥ 0))) && (decide (p1.Move < 2))) && (decide (p1.Next ≥ 0))) with h99 | h99
    ·
      refine WL.setB 43 h99 rfl ?_
      refine seg 32 [.v (.int .i64 p1.Next), .v (.int .i64 p0.States)] [49] [(49, (.bool (decide (p1.Next < p0.States))))] [.cell ⟨g84, 2, none⟩ (.int .i64 p1.Next), .cell ⟨g80, 0, none⟩ (.int .i64 p0.States)] (fun fb => by kernel_rfl) rfl ⟨hS86.cell 0 rfl 2 rfl, hS86.cell 1 rfl 0 rfl, trivial⟩ ?_
      exact WL.toV K (decide (p1.Next < p0.States)) [49] rfl (by rw [h99]; rfl)
    refine WL.setB 43 h99 rfl ?_
    refine seg 32 [] [49] [(49, (.bool false))] [] (fun fb => by kernel_rfl) rfl trivial ?_
    exact WL.toV K false [49] rfl (by rw [h99]; rfl)
  rintro b100 rfl
  refine seg 33 [] [4] [(4, (.bool ((((((decide (p1.Write ≥ 0)) && (decide (p1.Write < p0.Symbols))) && (decide (p1.Move ≥ 0))) && (decide (p1.Move < 2))) && (decide (p1.Next ≥ 0))) && (decide (p1.Next < p0.States)))))] [] (fun fb => by kernel_rfl) rfl trivial ?_
  refine WL.done rfl ?_
  refine WX.next ?_
  refine WC.ret ?_
  injection hf with hf
  subst hf
  exact WX.ret_ [] (.bool ((((((decide (p1.Write ≥ 0)) && (decide (p1.Write < p0.Symbols))) && (decide (p1.Move ≥ 0))) && (decide (p1.Move < 2))) && (decide (p1.Next ≥ 0))) && (decide (p1.Next < p0.States)))) [] (fun fb => by kernel_rfl) trivial ⟨_, rfl, rfl, hS86.keep⟩
theorem machine_Valid_1_calls (p0 : Action) (f0 : Machine) (g_f0 : Nat) (A_f0_Actions : Option Addr) (c_f0_Actions : Nat) (r : Bool) (w : World) (hR0 : RO NoS w (blk g_f0 (.cells #[(.int .i64 f0.States), (.int .i64 f0.Symbols), (.slice A_f0_Actions f0.Actions.length c_f0_Actions)] 24 (0, 0)))) (hR1 : RO NoS w (rowR enc_Action A_f0_Actions c_f0_Actions f0.Actions)) (hf : machine_Valid_1 p0 f0 = some r) :
    CallsR Try.prog 47 #[(.agg #[(.int .i64 p0.Write), (.int .i64 p0.Move), (.int .i64 p0.Next)]), (.pointer (some ⟨g_f0, 0, none⟩))] w (fun v w' => v = (.bool r) ∧ Keeps NoS w w') := by
  have hS : St NoS w w [blk g_f0 (.cells #[(.int .i64 f0.States), (.int .i64 f0.Symbols), (.slice A_f0_Actions f0.Actions.length c_f0_Actions)] 24 (0, 0)), rowR enc_Action A_f0_Actions c_f0_Actions f0.Actions] [] := St.init (ro_cons hR0 (ro_cons hR1 (ro_nil _ _)))
  refine enter 8 Try.func47 rfl Try.ntmps47 rfl ?_
  unfold machine_Valid_1 at hf
  refine WC.seq ?_
  refine WC.region ?_
  refine WL.new hS 2 [] (fun g => (.pointer (some ⟨g, 0, none⟩))) (.cells #[(.int .i64 p0.Write), (.int .i64 p0.Move), (.int .i64 p0.Next)] 88 (0, 0)) [] (fun fb g => by kernel_rfl) trivial (fun g76 w77 hS78 => ?_)
  refine ⟨trivial, ?_⟩
  refine seg 2 [] [1, 2] [(1, (.pointer (some ⟨g_f0, 0, none⟩))), (2, (.pointer (some ⟨g76, 0, none⟩)))] [] (fun fb => by kernel_rfl) rfl trivial ?_
  refine WL.done rfl ?_
  refine WX.next ?_
  refine WC.seq ?_
  refine WC.region ?_
  refine seg 2 [.v (.int .i64 f0.States), .v (.int .i64 f0.Symbols), .v (.slice A_f0_Actions f0.Actions.length c_f0_Actions), .v (.int .i64 p0.Write), .v (.int .i64 p0.Move), .v (.int .i64 p0.Next)] [4, 5] [(4, (.agg #[(.int .i64 f0.States), (.int .i64 f0.Symbols), (.slice A_f0_Actions f0.Actions.length c_f0_Actions)])), (5, (.agg #[(.int .i64 p0.Write), (.int .i64 p0.Move), (.int .i64 p0.Next)]))] [.cell ⟨g_f0, 0, none⟩ (.int .i64 f0.States), .cell ⟨g_f0, 1, none⟩ (.int .i64 f0.Symbols), .cell ⟨g_f0, 2, none⟩ (.slice A_f0_Actions f0.Actions.length c_f0_Actions), .cell ⟨g76, 0, none⟩ (.int .i64 p0.Write), .cell ⟨g76, 1, none⟩ (.int .i64 p0.Move), .cell ⟨g76, 2, none⟩ (.int .i64 p0.Next)] (fun fb => by kernel_rfl) rfl ⟨blk_cell (hS78.rd 0).1 0 rfl, blk_cell (hS78.rd 0).1 1 rfl, blk_cell (hS78.rd 0).1 2 rfl, hS78.cell 0 rfl 0 rfl, hS78.cell 0 rfl 1 rfl, hS78.cell 0 rfl 2 rfl, trivial⟩ ?_
  obtain ⟨t101, ht102, hf⟩ := bind_some hf
  refine WL.call (some 6) 48 #[(.agg #[(.int .i64 f0.States), (.int .i64 f0.Symbols), (.slice A_f0_Actions f0.Actions.length c_f0_Actions)]), (.agg #[(.int .i64 p0.Write), (.int .i64 p0.Move), (.int .i64 p0.Next)])] (fun fb => by kernel_rfl) (machine_action_calls f0 p0 A_f0_Actions c_f0_Actions t101 _ (hS78.rd 1) ht102) (fun v w103 hR104 => ?_)
  obtain ⟨rfl, hk_⟩ := hR104
  have hS105 := hS78.keepN hk_
  refine ⟨trivial, ?_⟩
  refine seg 5 [] [3] [(3, (.bool (!t101)))] [] (fun fb => by kernel_rfl) rfl trivial ?_
  refine WL.done rfl ?_
  refine WX.next ?_
  refine WC.ret ?_
  injection hf with hf
  subst hf
  exact WX.ret_ [] (.bool (!t101)) [] (fun fb => by kernel_rfl) trivial ⟨_, rfl, rfl, hS105.keep⟩
theorem slices_IndexFunc_api_Action_api_Action_with_machine_Valid_1_calls (k : Nat) (p0 : List Action) (p1_0 : Machine) (A_p0 : Option Addr) (c_p0 : Nat) (g_p1_0 : Nat) (A_p1_0_Actions : Option Addr) (c_p1_0_Actions : Nat) (r : Int) (w : World) (hR0 : RO NoS w (rowR enc_Action A_p0 c_p0 p0)) (hR1 : RO NoS w (blk g_p1_0 (.cells #[(.int .i64 p1_0.States), (.int .i64 p1_0.Symbols), (.slice A_p1_0_Actions p1_0.Actions.length c_p1_0_Actions)] 24 (0, 0)))) (hR2 : RO NoS w (rowR enc_Action A_p1_0_Actions c_p1_0_Actions p1_0.Actions)) (hf : slices_IndexFunc_api_Action_api_Action_with_machine_Valid_1 k p0 p1_0 = some r) :
    CallsR Try.prog 64 #[(.slice A_p0 p0.length c_p0), (.func (.func 47) #[] #[(.pointer (some ⟨g_p1_0, 0, none⟩))])] w (fun v w' => v = (.int .i64 r) ∧ Keeps NoS w w') := by
  have hS : St NoS w w [rowR enc_Action A_p0 c_p0 p0, blk g_p1_0 (.cells #[(.int .i64 p1_0.States), (.int .i64 p1_0.Symbols), (.slice A_p1_0_Actions p1_0.Actions.length c_p1_0_Actions)] 24 (0, 0)), rowR enc_Action A_p1_0_Actions c_p1_0_Actions p1_0.Actions] [] := St.init (ro_cons hR0 (ro_cons hR1 (ro_cons hR2 (ro_nil _ _))))
  refine enter 19 Try.func64 rfl Try.ntmps64 rfl ?_
  unfold slices_IndexFunc_api_Action_api_Action_with_machine_Valid_1 at hf
  refine WC.seq ?_
  refine WC.region ?_
  refine seg 1 [] [0, 1] [(0, (.slice A_p0 p0.length c_p0)), (1, (.func (.func 47) #[] #[(.pointer (some ⟨g_p1_0, 0, none⟩))]))] [] (fun fb => by kernel_rfl) rfl trivial ?_
  refine WL.done rfl ?_
  refine WX.next ?_
  refine WC.seq ?_
  refine WC.seq ?_
  refine WC.region ?_
  refine seg 3 [] [0, 1, 7, 8] [(0, (.slice A_p0 p0.length c_p0)), (1, (.func (.func 47) #[] #[(.pointer (some ⟨g_p1_0, 0, none⟩))])), (7, (.int .i64 (p0.length : Int))), (8, (.int .i64 0))] [] (fun fb => by kernel_rfl) rfl trivial ?_
  refine WL.done rfl ?_
  refine WX.next ?_
  obtain ⟨x122, hx123, hf⟩ := bind_some hf
  refine WC.cutN (T := Unit) (fun t => []) (fun t w1 => St NoS w w1 [rowR enc_Action A_p0 c_p0 p0, blk g_p1_0 (.cells #[(.int .i64 p1_0.States), (.int .i64 p1_0.Symbols), (.slice A_p1_0_Actions p1_0.Actions.length c_p1_0_Actions)] 24 (0, 0)), rowR enc_Action A_p1_0_Actions c_p1_0_Actions p1_0.Actions] [] ∧ x122 = .inr t) (fun Kx122 => ?_) ?_
  ·
    refine WC.block ?_
    refine WC.loop (T := Int) (fun t => [(0, (.slice A_p0 p0.length c_p0)), (1, (.func (.func 47) #[] #[(.pointer (some ⟨g_p1_0, 0, none⟩))])), (7, (.int .i64 (p0.length : Int))), (8, (.int .i64 t))]) (fun n t w1 => St NoS w w1 [rowR enc_Action A_p0 c_p0 p0, blk g_p1_0 (.cells #[(.int .i64 p1_0.States), (.int .i64 p1_0.Symbols), (.slice A_p1_0_Actions p1_0.Actions.length c_p1_0_Actions)] 24 (0, 0)), rowR enc_Action A_p1_0_Actions c_p1_0_Actions p1_0.Actions] [] ∧ slices_IndexFunc_api_Action_api_Action_with_machine_Valid_1.l0 n t p0 p1_0 = some x122) k 0 [0, 1, 7, 8] rfl ⟨(hS.subR [0, 1, 2]).sub [] (by decide), hx123⟩ ?_
    rintro k124 x121 w125 ⟨hS126, hl127⟩
    cases k124 with
    | zero => rw [slices_IndexFunc_api_Action_api_Action_with_machine_Valid_1.l0] at hl127; cases hl127
    | succ k124 =>
      rw [slices_IndexFunc_api_Action_api_Action_with_machine_Valid_1.l0] at hl127
      refine WC.seq ?_
      refine WC.region ?_
      refine seg 1 [] [0, 1, 7, 8, 9] [(0, (.slice A_p0 p0.length c_p0)), (1, (.func (.func 47) #[] #[(.pointer (some ⟨g_p1_0, 0, none⟩))])), (7, (.int .i64 (p0.length : Int))), (8, (.int .i64 x121)), (9, (.bool (decide (x121 < (p0.length : Int)))))] [] (fun fb => by kernel_rfl) rfl trivial ?_
      refine WL.done rfl ?_
      refine WX.next ?_
      refine WC.seq ?_
      rcases br_some hl127 with ⟨h128, hl127⟩ | ⟨h128, hl127⟩
      · refine WC.condT2 (fun fb => by kernel_rfl) h128 ?_
        refine WC.skip ?_
        refine WX.next ?_
        refine WC.seq ?_
        refine WC.block ?_
        refine WC.seq ?_
        refine WC.region ?_
        refine seg 2 [] [0, 1, 5, 7, 8] [(0, (.slice A_p0 p0.length c_p0)), (1, (.func (.func 47) #[] #[(.pointer (some ⟨g_p1_0, 0, none⟩))])), (5, (.int .i64 x121)), (7, (.int .i64 (p0.length : Int))), (8, (.int .i64 x121))] [] (fun fb => by kernel_rfl) rfl trivial ?_
        refine WL.done rfl ?_
        refine WX.next ?_
        refine WC.seq ?_
        refine WC.region ?_
        refine seg 3 [] [0, 1, 5, 7, 8, 11, 12, 13] [(0, (.slice A_p0 p0.length c_p0)), (1, (.func (.func 47) #[] #[(.pointer (some ⟨g_p1_0, 0, none⟩))])), (5, (.int .i64 x121)), (7, (.int .i64 (p0.length : Int))), (8, (.int .i64 x121)), (11, (.func (.func 47) #[] #[(.pointer (some ⟨g_p1_0, 0, none⟩))])), (12, (.slice A_p0 p0.length c_p0)), (13, (.int .i64 x121))] [] (fun fb => by kernel_rfl) rfl trivial ?_
        obtain ⟨h129, hl127⟩ := as_some hl127
        refine seg 5 [.v (.int .i64 ((rdD p0 x121 z_Action).Write)), .v (.int .i64 ((rdD p0 x121 z_Action).Move)), .v (.int .i64 ((rdD p0 x121 z_Action).Next))] [0, 1, 5, 7, 8, 11, 15] [(0, (.slice A_p0 p0.length c_p0)), (1, (.func (.func 47) #[] #[(.pointer (some ⟨g_p1_0, 0, none⟩))])), (5, (.int .i64 x121)), (7, (.int .i64 (p0.length : Int))), (8, (.int .i64 x121)), (11, (.func (.func 47) #[] #[(.pointer (some ⟨g_p1_0, 0, none⟩))])), (15, (.agg #[(.int .i64 ((rdD p0 x121 z_Action).Write)), (.int .i64 ((rdD p0 x121 z_Action).Move)), (.int .i64 ((rdD p0 x121 z_Action).Next))]))] [.idx A_p0 x121 p0.length, .cell ((adr A_p0).add ((x121).toNat * 3)) (.int .i64 ((rdD p0 x121 z_Action).Write)), .cell (((adr A_p0).add ((x121).toNat * 3)).add 1) (.int .i64 ((rdD p0 x121 z_Action).Move)), .cell (((adr A_p0).add ((x121).toNat * 3)).add 2) (.int .i64 ((rdD p0 x121 z_Action).Next))] (fun fb => by kernel_rfl) rfl ⟨rowR.adr (hS126.rd 0).1 h129.1 h129.2, rowR.cell (hS126.rd 0).1 z_Action h129.1 h129.2 0 rfl, rowR.cell (hS126.rd 0).1 z_Action h129.1 h129.2 1 rfl, rowR.cell (hS126.rd 0).1 z_Action h129.1 h129.2 2 rfl, trivial⟩ ?_
        obtain ⟨t130, ht131, hl127⟩ := bind_some hl127
        refine WL.call (some 16) 47 #[(.agg #[(.int .i64 ((rdD p0 x121 z_Action).Write)), (.int .i64 ((rdD p0 x121 z_Action).Move)), (.int .i64 ((rdD p0 x121 z_Action).Next))]), (.pointer (some ⟨g_p1_0, 0, none⟩))] (fun fb => by kernel_rfl) (machine_Valid_1_calls (rdD p0 x121 z_Action) p1_0 g_p1_0 A_p1_0_Actions c_p1_0_Actions t130 _ (hS126.rd 1) (hS126.rd 2) ht131) (fun v w132 hR133 => ?_)
        obtain ⟨rfl, hk_⟩ := hR133
        have hS134 := hS126.keepN hk_
        refine ⟨trivial, ?_⟩
        refine WL.done rfl ?_
        refine WX.next ?_
        rcases br_some hl127 with ⟨h135, hl127⟩ | ⟨h135, hl127⟩
        · refine WC.condT2 (fun fb => by kernel_rfl) h135 ?_
          refine WC.seq ?_
          refine WC.region ?_
          refine seg 2 [] [4] [(4, (.int .i64 x121))] [] (fun fb => by kernel_rfl) rfl trivial ?_
          refine WL.done rfl ?_
          refine WX.next ?_
          refine WC.ret ?_
          injection hl127 with hl127
          subst hl127
          injection hf with hf
          subst hf
          exact WX.blockR (WX.thenR (WX.thenR (WX.blockR (WX.thenR (WX.ret_ [] (.int .i64 x121) [] (fun fb => by kernel_rfl) trivial ⟨_, rfl, rfl, hS134.keep⟩)))))
        refine WC.condF2 (fun fb => by kernel_rfl) h135 ?_
        refine WC.skip ?_
        refine WX.blockN (WX.next ?_)
        refine WC.region ?_
        refine seg 2 [] [0, 1, 7, 8] [(0, (.slice A_p0 p0.length c_p0)), (1, (.func (.func 47) #[] #[(.pointer (some ⟨g_p1_0, 0, none⟩))])), (7, (.int .i64 (p0.length : Int))), (8, (.int .i64 (w64 (x121 + 1))))] [] (fun fb => by kernel_rfl) rfl trivial ?_
        refine WL.done rfl ?_
        exact WX.again k124 (Nat.lt_succ_self _) (w64 (x121 + 1)) [0, 1, 7, 8] rfl ⟨(hS134.subR [0, 1, 2]).sub [] (by decide), hl127⟩
      refine WC.condF2 (fun fb => by kernel_rfl) h128 ?_
      refine WC.exit ?_
      injection hl127 with hl127
      exact WX.thenX (WX.thenX (WX.blockHere (WX.to Kx122 () [] rfl ⟨(hS126.subR [0, 1, 2]).sub [] (by decide), hl127.symm⟩)))
  rintro y139 w136 ⟨hS137, hq138⟩
  subst hq138
  have hf := sum_inr hf
  refine WX.next ?_
  refine WC.seq ?_
  refine WC.region ?_
  refine seg 1 [] [4] [(4, (.int .i64 (-1)))] [] (fun fb => by kernel_rfl) rfl trivial ?_
  refine WL.done rfl ?_
  refine WX.next ?_
  refine WC.ret ?_
  injection hf with hf
  subst hf
  exact WX.ret_ [] (.int .i64 (-1)) [] (fun fb => by kernel_rfl) trivial ⟨_, rfl, rfl, hS137.keep⟩
theorem slices_ContainsFunc_api_Action_api_Action_with_machine_Valid_1_calls (k : Nat) (p0 : List Action) (p1_0 : Machine) (A_p0 : Option Addr) (c_p0 : Nat) (g_p1_0 : Nat) (A_p1_0_Actions : Option Addr) (c_p1_0_Actions : Nat) (r : Bool) (w : World) (hR0 : RO NoS w (rowR enc_Action A_p0 c_p0 p0)) (hR1 : RO NoS w (blk g_p1_0 (.cells #[(.int .i64 p1_0.States), (.int .i64 p1_0.Symbols), (.slice A_p1_0_Actions p1_0.Actions.length c_p1_0_Actions)] 24 (0, 0)))) (hR2 : RO NoS w (rowR enc_Action A_p1_0_Actions c_p1_0_Actions p1_0.Actions)) (hf : slices_ContainsFunc_api_Action_api_Action_with_machine_Valid_1 k p0 p1_0 = some r) :
    CallsR Try.prog 46 #[(.slice A_p0 p0.length c_p0), (.func (.func 47) #[] #[(.pointer (some ⟨g_p1_0, 0, none⟩))])] w (fun v w' => v = (.bool r) ∧ Keeps NoS w w') := by
  have hS : St NoS w w [rowR enc_Action A_p0 c_p0 p0, blk g_p1_0 (.cells #[(.int .i64 p1_0.States), (.int .i64 p1_0.Symbols), (.slice A_p1_0_Actions p1_0.Actions.length c_p1_0_Actions)] 24 (0, 0)), rowR enc_Action A_p1_0_Actions c_p1_0_Actions p1_0.Actions] [] := St.init (ro_cons hR0 (ro_cons hR1 (ro_cons hR2 (ro_nil _ _))))
  refine enter 9 Try.func46 rfl Try.ntmps46 rfl ?_
  unfold slices_ContainsFunc_api_Action_api_Action_with_machine_Valid_1 at hf
  refine WC.seq ?_
  refine WC.region ?_
  refine seg 1 [] [0, 1] [(0, (.slice A_p0 p0.length c_p0)), (1, (.func (.func 47) #[] #[(.pointer (some ⟨g_p1_0, 0, none⟩))]))] [] (fun fb => by kernel_rfl) rfl trivial ?_
  refine WL.done rfl ?_
  refine WX.next ?_
  refine WC.seq ?_
  refine WC.region ?_
  refine seg 2 [] [5, 6] [(5, (.slice A_p0 p0.length c_p0)), (6, (.func (.func 47) #[] #[(.pointer (some ⟨g_p1_0, 0, none⟩))]))] [] (fun fb => by kernel_rfl) rfl trivial ?_
  obtain ⟨t141, ht142, hf⟩ := bind_some hf
  refine WL.call (some 7) 64 #[(.slice A_p0 p0.length c_p0), (.func (.func 47) #[] #[(.pointer (some ⟨g_p1_0, 0, none⟩))])] (fun fb => by kernel_rfl) (slices_IndexFunc_api_Action_api_Action_with_machine_Valid_1_calls _ p0 p1_0 A_p0 c_p0 g_p1_0 A_p1_0_Actions c_p1_0_Actions t141 _ (hS.rd 0) (hS.rd 1) (hS.rd 2) ht142) (fun v w143 hR144 => ?_)
  obtain ⟨rfl, hk_⟩ := hR144
  have hS145 := hS.keepN hk_
  refine ⟨trivial, ?_⟩
  refine seg 5 [] [4] [(4, (.bool (decide (t141 ≥ 0))))] [] (fun fb => by kernel_rfl) rfl trivial ?_
  refine WL.done rfl ?_
  refine WX.next ?_
  refine WC.ret ?_
  injection hf with hf
  subst hf
  exact WX.ret_ [] (.bool (decide (t141 ≥ 0))) [] (fun fb => by kernel_rfl) trivial ⟨_, rfl, rfl, hS145.keep⟩
theorem machine_Valid_calls (k : Nat) (p0 : Machine) (A_p0_Actions : Option Addr) (c_p0_Actions : Nat) (r : Bool) (w : World) (hR0 : RO NoS w (rowR enc_Action A_p0_Actions c_p0_Actions p0.Actions)) (hf : machine_Valid k p0 = some r) :
    CallsR Try.prog 16 #[(.agg #[(.int .i64 p0.States), (.int .i64 p0.Symbols), (.slice A_p0_Actions p0.Actions.length c_p0_Actions)])] w (fun v w' => v = (.bool r) ∧ Keeps NoS w w') := by
  have hS : St NoS w w [rowR enc_Action A_p0_Actions c_p0_Actions p0.Actions] [] := St.init (ro_cons hR0 (ro_nil _ _))
  refine enter 39 Try.func16 rfl Try.ntmps16 rfl ?_
  unfold machine_Valid at hf
  refine WC.seq ?_
  refine WC.region ?_
  refine WL.new hS 1 [] (fun g => (.pointer (some ⟨g, 0, none⟩))) (.cells #[(.int .i64 p0.States), (.int .i64 p0.Symbols), (.slice A_p0_Actions p0.Actions.length c_p0_Actions)] 24 (0, 0)) [] (fun fb g => by kernel_rfl) trivial (fun g62 w63 hS64 => ?_)
  refine ⟨trivial, ?_⟩
  refine seg 2 [] [1] [(1, (.pointer (some ⟨g62, 0, none⟩)))] [] (fun fb => by kernel_rfl) rfl trivial ?_
  refine WL.done rfl ?_
  refine WX.next ?_
  refine WC.seq ?_
  refine WC.region ?_
  refine seg 4 [.v (.int .i64 p0.States)] [1, 6] [(1, (.pointer (some ⟨g62, 0, none⟩))), (6, (.bool (decide (p0.States ≥ 1))))] [.cell ⟨g62, 0, none⟩ (.int .i64 p0.States)] (fun fb => by kernel_rfl) rfl ⟨hS64.cell 0 rfl 0 rfl, trivial⟩ ?_
  refine WL.cutV (T := Bool) 8 (fun t => [(10, (.bool t)), (1, (.pointer (some ⟨g62, 0, none⟩)))]) (fun t => t = ((decide (p0.States ≥ 1)) && (decide (p0.States ≤ 6)))) (fun K => ?_) ?_
  ·
    rcases Bool.eq_false_or_eq_true (decide (p0.States ≥ 1)) with h66 | h66
    ·
      refine WL.setB 6 h66 rfl ?_
      refine seg 8 [.v (.int .i64 p0.States)] [1, 10] [(1, (.pointer (some ⟨g62, 0, none⟩))), (10, (.bool (decide (p0.States ≤ 6))))] [.cell ⟨g62, 0, none⟩ (.int .i64 p0.States)] (fun fb => by kernel_rfl) rfl ⟨hS64.cell 0 rfl 0 rfl, trivial⟩ ?_
      exact WL.toV K (decide (p0.States ≤ 6)) [10, 1] rfl (by rw [h66]; rfl)
    refine WL.setB 6 h66 rfl ?_
    refine seg 8 [] [1, 10] [(1, (.pointer (some ⟨g62, 0, none⟩))), (10, (.bool false))] [] (fun fb => by kernel_rfl) rfl trivial ?_
    exact WL.toV K false [10, 1] rfl (by rw [h66]; rfl)
  rintro b67 rfl
  refine seg 9 [] [1, 11] [(1, (.pointer (some ⟨g62, 0, none⟩))), (11, (.bool ((decide (p0.States ≥ 1)) && (decide (p0.States ≤ 6)))))] [] (fun fb => by kernel_rfl) rfl trivial ?_
  refine WL.cutV (T := Bool) 13 (fun t => [(15, (.bool t)), (1, (.pointer (some ⟨g62, 0, none⟩)))]) (fun t => t = (((decide (p0.States ≥ 1)) && (decide (p0.States ≤ 6))) && (decide (p0.Symbols ≥ 2)))) (fun K => ?_) ?_
  ·
    rcases Bool.eq_false_or_eq_true ((decide (p0.States ≥ 1)) && (decide (p0.States ≤ 6))) with h68 | h68
    ·
      refine WL.setB 11 h68 rfl ?_
      refine seg 13 [.v (.int .i64 p0.Symbols)] [1, 15] [(1, (.pointer (some ⟨g62, 0, none⟩))), (15, (.bool (decide (p0.Symbols ≥ 2))))] [.cell ⟨g62, 1, none⟩ (.int .i64 p0.Symbols)] (fun fb => by kernel_rfl) rfl ⟨hS64.cell 0 rfl 1 rfl, trivial⟩ ?_
      exact WL.toV K (decide (p0.Symbols ≥ 2)) [15, 1] rfl (by rw [h68]; rfl)
    refine WL.setB 11 h68 rfl ?_
    refine seg 13 [] [1, 15] [(1, (.pointer (some ⟨g62, 0, none⟩))), (15, (.bool false))] [] (fun fb => by kernel_rfl) rfl trivial ?_
    exact WL.toV K false [15, 1] rfl (by rw [h68]; rfl)
  rintro b69 rfl
  refine seg 14 [] [1, 16] [(1, (.pointer (some ⟨g62, 0, none⟩))), (16, (.bool (((decide (p0.States ≥ 1)) && (decide (p0.States ≤ 6))) && (decide (p0.Symbols ≥ 2)))))] [] (fun fb => by kernel_rfl) rfl trivial ?_
  refine WL.cutV (T := Bool) 18 (fun t => [(20, (.bool t)), (1, (.pointer (some ⟨g62, 0, none⟩)))]) (fun t => t = ((((decide (p0.States ≥ 1)) && (decide (p0.States ≤ 6))) && (decide (p0.Symbols ≥ 2))) && (decide (p0.Symbols ≤ 4)))) (fun K => ?_) ?_
  ·
    rcases Bool.eq_false_or_eq_true (((decide (p0.States ≥ 1)) && (decide (p0.States ≤ 6))) && (decide (p0.Symbols ≥ 2))) with h70 | h70
    ·
      refine WL.setB 16 h70 rfl ?_
      refine seg 18 [.v (.int .i64 p0.Symbols)] [1, 20] [(1, (.pointer (some ⟨g62, 0, none⟩))), (20, (.bool (decide (p0.Symbols ≤ 4))))] [.cell ⟨g62, 1, none⟩ (.int .i64 p0.Symbols)] (fun fb => by kernel_rfl) rfl ⟨hS64.cell 0 rfl 1 rfl, trivial⟩ ?_
      exact WL.toV K (decide (p0.Symbols ≤ 4)) [20, 1] rfl (by rw [h70]; rfl)
    refine WL.setB 16 h70 rfl ?_
    refine seg 18 [] [1, 20] [(1, (.pointer (some ⟨g62, 0, none⟩))), (20, (.bool false))] [] (fun fb => by kernel_rfl) rfl trivial ?_
    exact WL.toV K false [20, 1] rfl (by rw [h70]; rfl)
  rintro b71 rfl
  refine seg 19 [] [1, 21] [(1, (.pointer (some ⟨g62, 0, none⟩))), (21, (.bool ((((decide (p0.States ≥ 1)) && (decide (p0.States ≤ 6))) && (decide (p0.Symbols ≥ 2))) && (decide (p0.Symbols ≤ 4)))))] [] (fun fb => by kernel_rfl) rfl trivial ?_
  refine WL.cutV (T := Bool) 29 (fun t => [(31, (.bool t)), (1, (.pointer (some ⟨g62, 0, none⟩)))]) (fun t => t = (((((decide (p0.States ≥ 1)) && (decide (p0.States ≤ 6))) && (decide (p0.Symbols ≥ 2))) && (decide (p0.Symbols ≤ 4))) && ((p0.Actions.length : Int) == (w64 (p0.States * p0.Symbols))))) (fun K => ?_) ?_
  ·
    rcases Bool.eq_false_or_eq_true ((((decide (p0.States ≥ 1)) && (decide (p0.States ≤ 6))) && (decide (p0.Symbols ≥ 2))) && (decide (p0.Symbols ≤ 4))) with h72 | h72
    ·
      refine WL.setB 21 h72 rfl ?_
      refine seg 29 [.v (.slice A_p0_Actions p0.Actions.length c_p0_Actions), .v (.int .i64 p0.States), .v (.int .i64 p0.Symbols)] [1, 31] [(1, (.pointer (some ⟨g62, 0, none⟩))), (31, (.bool ((p0.Actions.length : Int) == (w64 (p0.States * p0.Symbols)))))] [.cell ⟨g62, 2, none⟩ (.slice A_p0_Actions p0.Actions.length c_p0_Actions), .cell ⟨g62, 0, none⟩ (.int .i64 p0.States), .cell ⟨g62, 1, none⟩ (.int .i64 p0.Symbols)] (fun fb => by kernel_rfl) rfl ⟨hS64.cell 0 rfl 2 rfl, hS64.cell 0 rfl 0 rfl, hS64.cell 0 rfl 1 rfl, trivial⟩ ?_
      exact WL.toV K ((p0.Actions.length : Int) == (w64 (p0.States * p0.Symbols))) [31, 1] rfl (by rw [h72]; rfl)
    refine WL.setB 21 h72 rfl ?_
    refine seg 29 [] [1, 31] [(1, (.pointer (some ⟨g62, 0, none⟩))), (31, (.bool false))] [] (fun fb => by kernel_rfl) rfl trivial ?_
    exact WL.toV K false [31, 1] rfl (by rw [h72]; rfl)
  rintro b73 rfl
  refine seg 30 [] [1, 32] [(1, (.pointer (some ⟨g62, 0, none⟩))), (32, (.bool (((((decide (p0.States ≥ 1)) && (decide (p0.States ≤ 6))) && (decide (p0.Symbols ≥ 2))) && (decide (p0.Symbols ≤ 4))) && ((p0.Actions.length : Int) == (w64 (p0.States * p0.Symbols))))))] [] (fun fb => by kernel_rfl) rfl trivial ?_
  obtain ⟨x152, hx153, hf⟩ := bind_some hf
  refine WL.cutW (T := Bool) 36 (fun t => [(38, (.bool t))]) (fun t w1 => (St NoS w w1 [rowR enc_Action A_p0_Actions c_p0_Actions p0.Actions] [] ∧ x152 = t) ∧ CellsOK [] w1) (fun K => ?_) ?_
  ·
    rcases br_some hx153 with ⟨h154, hx153⟩ | ⟨h154, hx153⟩
    ·
      refine WL.setB 32 h154 rfl ?_
      refine seg 33 [.v (.slice A_p0_Actions p0.Actions.length c_p0_Actions)] [32, 34, 35] [(32, (.bool true)), (34, (.slice A_p0_Actions p0.Actions.length c_p0_Actions)), (35, (.func (.func 47) #[] #[(.pointer (some ⟨g62, 0, none⟩))]))] [.cell ⟨g62, 2, none⟩ (.slice A_p0_Actions p0.Actions.length c_p0_Actions)] (fun fb => by kernel_rfl) rfl ⟨hS64.cell 0 rfl 2 rfl, trivial⟩ ?_
      obtain ⟨t155, ht156, hx153⟩ := bind_some hx153
      refine WL.call (some 36) 46 #[(.slice A_p0_Actions p0.Actions.length c_p0_Actions), (.func (.func 47) #[] #[(.pointer (some ⟨g62, 0, none⟩))])] (fun fb => by kernel_rfl) (slices_ContainsFunc_api_Action_api_Action_with_machine_Valid_1_calls _ p0.Actions p0 A_p0_Actions c_p0_Actions g62 A_p0_Actions c_p0_Actions t155 _ (hS64.rd 0) (hS64.ow 0) (hS64.rd 0) ht156) (fun v w157 hR158 => ?_)
      obtain ⟨rfl, hk_⟩ := hR158
      have hS159 := hS64.keepN hk_
      refine ⟨trivial, ?_⟩
      refine seg 36 [] [38] [(38, (.bool (!t155)))] [] (fun fb => by kernel_rfl) rfl trivial ?_
      injection hx153 with hx153
      exact WL.to K (!t155) [38] rfl ⟨⟨(hS159.subR [0]).sub [] (by decide), hx153.symm⟩, trivial⟩
    refine WL.setB 32 h154 rfl ?_
    refine seg 36 [] [38] [(38, (.bool false))] [] (fun fb => by kernel_rfl) rfl trivial ?_
    injection hx153 with hx153
    exact WL.to K false [38] rfl ⟨⟨(hS64.subR [0]).sub [] (by decide), hx153.symm⟩, trivial⟩
  rintro y160 w162 ⟨⟨hS163, hq161⟩, hF164⟩
  subst hq161
  refine seg 37 [] [2] [(2, (.bool x152))] [] (fun fb => by kernel_rfl) rfl trivial ?_
  refine WL.done rfl ?_
  refine WX.next ?_
  refine WC.ret ?_
  injection hf with hf
  subst hf
  exact WX.ret_ [] (.bool x152) [] (fun fb => by kernel_rfl) trivial ⟨_, rfl, rfl, hS163.keep⟩
theorem machine_head_calls (p0 : Machine) (p1 : Int) (p2 : Int) (A_p0_Actions : Option Addr) (c_p0_Actions : Nat) (r : Int) (w : World) (hR0 : RO NoS w (rowR enc_Action A_p0_Actions c_p0_Actions p0.Actions)) (hf : machine_head p0 p1 p2 = some r) :
    CallsR Try.prog 61 #[(.agg #[(.int .i64 p0.States), (.int .i64 p0.Symbols), (.slice A_p0_Actions p0.Actions.length c_p0_Actions)]), (.int .i64 p1), (.int .i64 p2)] w (fun v w' => v = (.int .i64 r) ∧ Keeps NoS w w') := by
  have hS : St NoS w w [rowR enc_Action A_p0_Actions c_p0_Actions p0.Actions] [] := St.init (ro_cons hR0 (ro_nil _ _))
  refine enter 16 Try.func61 rfl Try.ntmps61 rfl ?_
  unfold machine_head at hf
  refine WC.seq ?_
  refine WC.region ?_
  refine WL.new hS 3 [] (fun g => (.pointer (some ⟨g, 0, none⟩))) (.cells #[(.int .i64 p0.States), (.int .i64 p0.Symbols), (.slice A_p0_Actions p0.Actions.length c_p0_Actions)] 24 (0, 0)) [] (fun fb g => by kernel_rfl) trivial (fun g302 w303 hS304 => ?_)
  refine ⟨trivial, ?_⟩
  refine seg 2 [] [1, 2, 3] [(1, (.int .i64 p1)), (2, (.int .i64 p2)), (3, (.pointer (some ⟨g302, 0, none⟩)))] [] (fun fb => by kernel_rfl) rfl trivial ?_
  refine WL.done rfl ?_
  refine WX.next ?_
  refine WC.seq ?_
  refine WC.region ?_
  refine seg 10 [.v (.int .i64 p0.Symbols), .v (.int .i64 p0.Symbols)] [6] [(6, (.int .i64 (w64 ((w64 (p0.Symbols + (w64 (p1 * p0.Symbols)))) + p2))))] [.cell ⟨g302, 1, none⟩ (.int .i64 p0.Symbols), .cell ⟨g302, 1, none⟩ (.int .i64 p0.Symbols)] (fun fb => by kernel_rfl) rfl ⟨hS304.cell 0 rfl 1 rfl, hS304.cell 0 rfl 1 rfl, trivial⟩ ?_
  refine WL.done rfl ?_
  refine WX.next ?_
  refine WC.ret ?_
  injection hf with hf
  subst hf
  exact WX.ret_ [] (.int .i64 (w64 ((w64 (p0.Symbols + (w64 (p1 * p0.Symbols)))) + p2))) [] (fun fb => by kernel_rfl) trivial ⟨_, rfl, rfl, hS304.keep⟩
theorem machine_kit_signal_calls (p0 : Kit) (p1 : Int) (p2 : Int) (g_p0 : Nat) (A_p0_m_Actions : Option Addr) (c_p0_m_Actions : Nat) (A_p0_set : Option Addr) (c_p0_set : Nat) (A_p0_does : Option Addr) (c_p0_does : Nat) (r : Int) (w : World) (hR0 : RO NoS w (blk g_p0 (.cells #[(.int .i64 p0.m.States), (.int .i64 p0.m.Symbols), (.slice A_p0_m_Actions p0.m.Actions.length c_p0_m_Actions), (.slice A_p0_set p0.set.length c_p0_set), (.slice A_p0_does p0.does.length c_p0_does), (.int .i64 p0.base)] 96 (0, 0)))) (hR1 : RO NoS w (rowR enc_Action A_p0_m_Actions c_p0_m_Actions p0.m.Actions)) (hR2 : RO NoS w (rowR enc_Tile A_p0_set c_p0_set p0.set)) (hR3 : RO NoS w (rowR encInt A_p0_does c_p0_does p0.does)) (hf : machine_kit_signal p0 p1 p2 = some r) :
    CallsR Try.prog 62 #[(.pointer (some ⟨g_p0, 0, none⟩)), (.int .i64 p1), (.int .i64 p2)] w (fun v w' => v = (.int .i64 r) ∧ Keeps NoS w w') := by
  have hS : St NoS w w [blk g_p0 (.cells #[(.int .i64 p0.m.States), (.int .i64 p0.m.Symbols), (.slice A_p0_m_Actions p0.m.Actions.length c_p0_m_Actions), (.slice A_p0_set p0.set.length c_p0_set), (.slice A_p0_does p0.does.length c_p0_does), (.int .i64 p0.base)] 96 (0, 0)), rowR enc_Action A_p0_m_Actions c_p0_m_Actions p0.m.Actions, rowR enc_Tile A_p0_set c_p0_set p0.set, rowR encInt A_p0_does c_p0_does p0.does] [] := St.init (ro_cons hR0 (ro_cons hR1 (ro_cons hR2 (ro_cons hR3 (ro_nil _ _)))))
  refine enter 19 Try.func62 rfl Try.ntmps62 rfl ?_
  unfold machine_kit_signal at hf
  refine WC.seq ?_
  refine WC.region ?_
  refine seg 1 [] [0, 1, 2] [(0, (.pointer (some ⟨g_p0, 0, none⟩))), (1, (.int .i64 p1)), (2, (.int .i64 p2))] [] (fun fb => by kernel_rfl) rfl trivial ?_
  refine WL.done rfl ?_
  refine WX.next ?_
  refine WC.seq ?_
  refine WC.seq ?_
  refine WC.region ?_
  refine seg 2 [] [0, 2, 8] [(0, (.pointer (some ⟨g_p0, 0, none⟩))), (2, (.int .i64 p2)), (8, (.bool (p1 == 1)))] [] (fun fb => by kernel_rfl) rfl trivial ?_
  refine WL.done rfl ?_
  refine WX.next ?_
  rcases br_some hf with ⟨h377, hf⟩ | ⟨h377, hf⟩
  · refine WC.condT2 (fun fb => by kernel_rfl) h377 ?_
    refine WC.seq ?_
    refine WC.region ?_
    refine seg 3 [] [6] [(6, (.int .i64 (w64 (1 + p2))))] [] (fun fb => by kernel_rfl) rfl trivial ?_
    refine WL.done rfl ?_
    refine WX.next ?_
    refine WC.ret ?_
    injection hf with hf
    subst hf
    exact WX.thenR (WX.ret_ [] (.int .i64 (w64 (1 + p2))) [] (fun fb => by kernel_rfl) trivial ⟨_, rfl, rfl, hS.keep⟩)
  refine WC.condF2 (fun fb => by kernel_rfl) h377 ?_
  refine WC.skip ?_
  refine WX.next ?_
  refine WC.seq ?_
  refine WC.region ?_
  refine seg 9 [.v (.int .i64 p0.m.States)] [6] [(6, (.int .i64 (w64 ((w64 (1 + p0.m.States)) + p2))))] [.cell ⟨g_p0, 0, none⟩ (.int .i64 p0.m.States)] (fun fb => by kernel_rfl) rfl ⟨blk_cell (hS.rd 0).1 0 rfl, trivial⟩ ?_
  refine WL.done rfl ?_
  refine WX.next ?_
  refine WC.ret ?_
  injection hf with hf
  subst hf
  exact WX.ret_ [] (.int .i64 (w64 ((w64 (1 + p0.m.States)) + p2))) [] (fun fb => by kernel_rfl) trivial ⟨_, rfl, rfl, hS.keep⟩
theorem machine_kit_acts_calls (p0 : Kit) (p1 : Int) (p2 : Int) (p3 : Action) (g_p0 : Nat) (A_p0_m_Actions : Option Addr) (c_p0_m_Actions : Nat) (A_p0_set : Option Addr) (c_p0_set : Nat) (A_p0_does : Option Addr) (c_p0_does : Nat) (r : Tile) (w : World) (hR0 : RO NoS w (blk g_p0 (.cells #[(.int .i64 p0.m.States), (.int .i64 p0.m.Symbols), (.slice A_p0_m_Actions p0.m.Actions.length c_p0_m_Actions), (.slice A_p0_set p0.set.length c_p0_set), (.slice A_p0_does p0.does.length c_p0_does), (.int .i64 p0.base)] 96 (0, 0)))) (hR1 : RO NoS w (rowR enc_Action A_p0_m_Actions c_p0_m_Actions p0.m.Actions)) (hR2 : RO NoS w (rowR enc_Tile A_p0_set c_p0_set p0.set)) (hR3 : RO NoS w (rowR encInt A_p0_does c_p0_does p0.does)) (hf : machine_kit_acts p0 p1 p2 p3 = some r) :
    CallsR Try.prog 60 #[(.pointer (some ⟨g_p0, 0, none⟩)), (.int .i64 p1), (.int .i64 p2), (.agg #[(.int .i64 p3.Write), (.int .i64 p3.Move), (.int .i64 p3.Next)])] w (fun v w' => v = (.agg #[(.int .i64 r.N), (.int .i64 r.E), (.int .i64 r.S), (.int .i64 r.W)]) ∧ Keeps NoS w w') := by
  have hS : St NoS w w [blk g_p0 (.cells #[(.int .i64 p0.m.States), (.int .i64 p0.m.Symbols), (.slice A_p0_m_Actions p0.m.Actions.length c_p0_m_Actions), (.slice A_p0_set p0.set.length c_p0_set), (.slice A_p0_does p0.does.length c_p0_does), (.int .i64 p0.base)] 96 (0, 0)), rowR enc_Action A_p0_m_Actions c_p0_m_Actions p0.m.Actions, rowR enc_Tile A_p0_set c_p0_set p0.set, rowR encInt A_p0_does c_p0_does p0.does] [] := St.init (ro_cons hR0 (ro_cons hR1 (ro_cons hR2 (ro_cons hR3 (ro_nil _ _)))))
  refine enter 36 Try.func60 rfl Try.ntmps60 rfl ?_
  unfold machine_kit_acts at hf
  refine WC.seq ?_
  refine WC.region ?_
  refine WL.new hS 7 [] (fun g => (.pointer (some ⟨g, 0, none⟩))) (.cells #[(.int .i64 p3.Write), (.int .i64 p3.Move), (.int .i64 p3.Next)] 88 (0, 0)) [] (fun fb g => by kernel_rfl) trivial (fun g294 w295 hS296 => ?_)
  refine ⟨trivial, ?_⟩
  refine WL.new hS296 8 [] (fun g => (.pointer (some ⟨g, 0, none⟩))) (.cells #[(.int .i64 0), (.int .i64 0), (.int .i64 0), (.int .i64 0)] 65 (0, 0)) [] (fun fb g => by kernel_rfl) trivial (fun g298 w299 hS300 => ?_)
  refine ⟨trivial, ?_⟩
  refine WL.done rfl ?_
  refine WX.next ?_
  refine WC.seq ?_
  obtain ⟨x346, hx347, hf⟩ := bind_some hf
  refine WC.cutN (T := (Int × Int × Int × Int) × Nat) (fun t => [(0, (.pointer (some ⟨g_p0, 0, none⟩))), (7, (.pointer (some ⟨g294, 0, none⟩))), (8, (.pointer (some ⟨g298, 0, none⟩))), (9, (.pointer (some ⟨t.2, 0, none⟩)))]) (fun t w1 => St NoS w w1 [blk g_p0 (.cells #[(.int .i64 p0.m.States), (.int .i64 p0.m.Symbols), (.slice A_p0_m_Actions p0.m.Actions.length c_p0_m_Actions), (.slice A_p0_set p0.set.length c_p0_set), (.slice A_p0_does p0.does.length c_p0_does), (.int .i64 p0.base)] 96 (0, 0)), rowR enc_Action A_p0_m_Actions c_p0_m_Actions p0.m.Actions, rowR enc_Tile A_p0_set c_p0_set p0.set, rowR encInt A_p0_does c_p0_does p0.does] [blk g294 (.cells #[(.int .i64 p3.Write), (.int .i64 p3.Move), (.int .i64 p3.Next)] 88 (0, 0)), blk g298 (.cells #[(.int .i64 0), (.int .i64 0), (.int .i64 0), (.int .i64 0)] 65 (0, 0)), blk t.2 (.cells #[(.int .i64 t.1.1), (.int .i64 t.1.2.1), (.int .i64 t.1.2.2.1), (.int .i64 t.1.2.2.2)] 65 (0, 0))] ∧ x346 = t.1) (fun Kx346 => ?_) ?_
  ·
    refine WC.regionD ([(1, ⟨g294, 0, none⟩, (.int .i64 p3.Write)), (5, ⟨g_p0, 0, none⟩, (.int .i64 p0.m.States)), (5, ⟨g_p0, 1, none⟩, (.int .i64 p0.m.Symbols)), (5, ⟨g_p0, 2, none⟩, (.slice A_p0_m_Actions p0.m.Actions.length c_p0_m_Actions))], [0, 1, 2, 3, 4, 5, 6, 7, 9], [[], [0], [], [2], [2, 3], [2, 3, 4], [], [], [2, 3, 4, 5, 6, 7], [0, 1, 2, 3, 4, 5, 6, 7, 8], [], [0, 1, 2, 3, 4, 5, 6, 7, 8, 9, 10]]) [[0, 1, 2, 3, 4, 5, 6, 7, 8, 9, 10, 11], [0, 1, 2, 3, 4, 5, 6, 7, 10, 8, 9, 11]] (by kernel_rfl) (by kernel_rfl) (NoPanic.seq (NoPanic.body)) ?_
    have hS349 := hS300.drew
    revert hS349
    generalize World.drew w299 = w348
    intro hS349
    refine ⟨⟨hS349.cell 1 rfl 0 rfl, blk_cell (hS349.rd 0).1 0 rfl, blk_cell (hS349.rd 0).1 1 rfl, blk_cell (hS349.rd 0).1 2 rfl, trivial⟩, forallC ?_ (forallC ?_ (forallN))⟩
    ·
      refine segF 8 [.v (.int .i64 p3.Write), .v (.int .i64 p0.m.States), .v (.int .i64 p0.m.Symbols), .v (.slice A_p0_m_Actions p0.m.Actions.length c_p0_m_Actions)] [0, 7, 8, 12, 16, 17, 18] [(0, (.pointer (some ⟨g_p0, 0, none⟩))), (7, (.pointer (some ⟨g294, 0, none⟩))), (8, (.pointer (some ⟨g298, 0, none⟩))), (12, (.int .i64 p3.Write)), (16, (.agg #[(.int .i64 p0.m.States), (.int .i64 p0.m.Symbols), (.slice A_p0_m_Actions p0.m.Actions.length c_p0_m_Actions)])), (17, (.int .i64 p1)), (18, (.int .i64 p2))] [] [0, 1, 2, 3] [(1, ⟨g294, 0, none⟩, (.int .i64 p3.Write)), (5, ⟨g_p0, 0, none⟩, (.int .i64 p0.m.States)), (5, ⟨g_p0, 1, none⟩, (.int .i64 p0.m.Symbols)), (5, ⟨g_p0, 2, none⟩, (.slice A_p0_m_Actions p0.m.Actions.length c_p0_m_Actions))] (fun fb => by kernel_rfl) rfl trivial rfl ?_
      obtain ⟨t350, ht351, hx347⟩ := bind_some hx347
      refine WL.call (some 19) 61 #[(.agg #[(.int .i64 p0.m.States), (.int .i64 p0.m.Symbols), (.slice A_p0_m_Actions p0.m.Actions.length c_p0_m_Actions)]), (.int .i64 p1), (.int .i64 p2)] (fun fb => by kernel_rfl) (machine_head_calls p0.m p1 p2 A_p0_m_Actions c_p0_m_Actions t350 _ (hS349.rd 1) ht351) (fun v w352 hR353 => ?_)
      obtain ⟨rfl, hk_⟩ := hR353
      have hS354 := hS349.keepN hk_
      refine ⟨⟨hS354.cell 1 rfl 0 rfl, trivial⟩, ?_⟩
      refine seg 10 [] [0, 7, 8, 20] [(0, (.pointer (some ⟨g_p0, 0, none⟩))), (7, (.pointer (some ⟨g294, 0, none⟩))), (8, (.pointer (some ⟨g298, 0, none⟩))), (20, (.agg #[(.int .i64 p3.Write), (.int .i64 0), (.int .i64 t350), (.int .i64 0)]))] [] (fun fb => by kernel_rfl) rfl trivial ?_
      refine WL.new hS354 9 [] (fun g => (.pointer (some ⟨g, 0, none⟩))) (.cells #[(.int .i64 0), (.int .i64 0), (.int .i64 0), (.int .i64 0)] 65 (0, 0)) [] (fun fb g => by kernel_rfl) trivial (fun g355 w356 hS357 => ?_)
      refine ⟨⟨hS357.cell 2 rfl 0 rfl, blk_cell (hS357.rd 0).1 0 rfl, blk_cell (hS357.rd 0).1 1 rfl, blk_cell (hS357.rd 0).1 2 rfl, trivial⟩, ?_⟩
      refine WL.store hS357 0 rfl [(0, (.int .i64 p3.Write)), (1, (.int .i64 0)), (2, (.int .i64 t350)), (3, (.int .i64 0))] #[(.int .i64 p3.Write), (.int .i64 0), (.int .i64 t350), (.int .i64 0)] (fun fb => by kernel_rfl) (by kernel_rfl) rfl [1, 2] (by decide) (by decide) (fun w359 hS360 => ?_)
      refine ⟨trivial, ?_⟩
      refine WL.done rfl ?_
      injection hx347 with hx347
      exact WX.to Kx346 ((p3.Write, 0, t350, 0), g355) [0, 7, 8, 9] rfl ⟨(hS360.subR [0, 1, 2, 3]).sub [2, 1, 0] (by decide), hx347.symm⟩
    refine segF 8 [.v (.int .i64 p3.Write), .v (.int .i64 p0.m.States), .v (.int .i64 p0.m.Symbols), .v (.slice A_p0_m_Actions p0.m.Actions.length c_p0_m_Actions)] [0, 7, 8, 12, 16, 17, 18] [(0, (.pointer (some ⟨g_p0, 0, none⟩))), (7, (.pointer (some ⟨g294, 0, none⟩))), (8, (.pointer (some ⟨g298, 0, none⟩))), (12, (.int .i64 p3.Write)), (16, (.agg #[(.int .i64 p0.m.States), (.int .i64 p0.m.Symbols), (.slice A_p0_m_Actions p0.m.Actions.length c_p0_m_Actions)])), (17, (.int .i64 p1)), (18, (.int .i64 p2))] [] [0, 1, 2, 3] [(1, ⟨g294, 0, none⟩, (.int .i64 p3.Write)), (5, ⟨g_p0, 0, none⟩, (.int .i64 p0.m.States)), (5, ⟨g_p0, 1, none⟩, (.int .i64 p0.m.Symbols)), (5, ⟨g_p0, 2, none⟩, (.slice A_p0_m_Actions p0.m.Actions.length c_p0_m_Actions))] (fun fb => by kernel_rfl) rfl trivial rfl ?_
    refine WL.new hS349 9 [] (fun g => (.pointer (some ⟨g, 0, none⟩))) (.cells #[(.int .i64 0), (.int .i64 0), (.int .i64 0), (.int .i64 0)] 65 (0, 0)) [] (fun fb g => by kernel_rfl) trivial (fun g361 w362 hS363 => ?_)
    refine ⟨⟨hS363.cell 2 rfl 0 rfl, blk_cell (hS363.rd 0).1 0 rfl, blk_cell (hS363.rd 0).1 1 rfl, blk_cell (hS363.rd 0).1 2 rfl, trivial⟩, ?_⟩
    obtain ⟨t365, ht366, hx347⟩ := bind_some hx347
    refine WL.call (some 19) 61 #[(.agg #[(.int .i64 p0.m.States), (.int .i64 p0.m.Symbols), (.slice A_p0_m_Actions p0.m.Actions.length c_p0_m_Actions)]), (.int .i64 p1), (.int .i64 p2)] (fun fb => by kernel_rfl) (machine_head_calls p0.m p1 p2 A_p0_m_Actions c_p0_m_Actions t365 _ (hS363.rd 1) ht366) (fun v w367 hR368 => ?_)
    obtain ⟨rfl, hk_⟩ := hR368
    have hS369 := hS363.keepN hk_
    refine ⟨⟨hS369.cell 2 rfl 0 rfl, trivial⟩, ?_⟩
    refine seg 11 [] [0, 7, 8, 9, 20] [(0, (.pointer (some ⟨g_p0, 0, none⟩))), (7, (.pointer (some ⟨g294, 0, none⟩))), (8, (.pointer (some ⟨g298, 0, none⟩))), (9, (.pointer (some ⟨g361, 0, none⟩))), (20, (.agg #[(.int .i64 p3.Write), (.int .i64 0), (.int .i64 t365), (.int .i64 0)]))] [] (fun fb => by kernel_rfl) rfl trivial ?_
    refine WL.store hS369 0 rfl [(0, (.int .i64 p3.Write)), (1, (.int .i64 0)), (2, (.int .i64 t365)), (3, (.int .i64 0))] #[(.int .i64 p3.Write), (.int .i64 0), (.int .i64 t365), (.int .i64 0)] (fun fb => by kernel_rfl) (by kernel_rfl) rfl [1, 2] (by decide) (by decide) (fun w370 hS371 => ?_)
    refine ⟨trivial, ?_⟩
    refine WL.done rfl ?_
    injection hx347 with hx347
    exact WX.to Kx346 ((p3.Write, 0, t365, 0), g361) [0, 7, 8, 9] rfl ⟨(hS371.subR [0, 1, 2, 3]).sub [2, 1, 0] (by decide), hx347.symm⟩
  rintro ⟨y375, g341⟩ w372 ⟨hS373, hq374⟩
  subst hq374
  refine WX.next ?_
  refine WC.seq ?_
  refine WC.region ?_
  refine seg 5 [.v (.int .i64 p3.Move)] [0, 7, 8, 9, 23, 25] [(0, (.pointer (some ⟨g_p0, 0, none⟩))), (7, (.pointer (some ⟨g294, 0, none⟩))), (8, (.pointer (some ⟨g298, 0, none⟩))), (9, (.pointer (some ⟨g341, 0, none⟩))), (23, (.agg #[(.pointer (some ⟨g341, 3, none⟩)), (.pointer (some ⟨g341, 1, none⟩))])), (25, (.int .i64 p3.Move))] [.cell ⟨g294, 1, none⟩ (.int .i64 p3.Move)] (fun fb => by kernel_rfl) rfl ⟨hS373.cell 0 rfl 1 rfl, trivial⟩ ?_
  rcases br_some hf with ⟨h376, hf⟩ | ⟨h376, hf⟩
  ·
    refine WL.setI 25 (eq_of_beq h376) rfl ?_
    refine seg 7 [] [0, 7, 8, 9, 10] [(0, (.pointer (some ⟨g_p0, 0, none⟩))), (7, (.pointer (some ⟨g294, 0, none⟩))), (8, (.pointer (some ⟨g298, 0, none⟩))), (9, (.pointer (some ⟨g341, 0, none⟩))), (10, (.pointer (some ⟨g341, 3, none⟩)))] [] (fun fb => by kernel_rfl) rfl trivial ?_
    refine WL.done rfl ?_
    refine WX.next ?_
    refine WC.seq ?_
    refine WC.region ?_
    refine seg 6 [.v (.int .i64 p3.Move), .v (.int .i64 p3.Next)] [8, 9, 27, 28, 30, 32] [(8, (.pointer (some ⟨g298, 0, none⟩))), (9, (.pointer (some ⟨g341, 0, none⟩))), (27, (.pointer (some ⟨g341, 3, none⟩))), (28, (.pointer (some ⟨g_p0, 0, none⟩))), (30, (.int .i64 p3.Move)), (32, (.int .i64 p3.Next))] [.cell ⟨g294, 1, none⟩ (.int .i64 p3.Move), .cell ⟨g294, 2, none⟩ (.int .i64 p3.Next)] (fun fb => by kernel_rfl) rfl ⟨hS373.cell 0 rfl 1 rfl, hS373.cell 0 rfl 2 rfl, trivial⟩ ?_
    obtain ⟨t378, ht379, hf⟩ := bind_some hf
    refine WL.call (some 33) 62 #[(.pointer (some ⟨g_p0, 0, none⟩)), (.int .i64 p3.Move), (.int .i64 p3.Next)] (fun fb => by kernel_rfl) (machine_kit_signal_calls p0 p3.Move p3.Next g_p0 A_p0_m_Actions c_p0_m_Actions A_p0_set c_p0_set A_p0_does c_p0_does t378 _ (hS373.rd 0) (hS373.rd 1) (hS373.rd 2) (hS373.rd 3) ht379) (fun v w380 hR381 => ?_)
    obtain ⟨rfl, hk_⟩ := hR381
    have hS382 := hS373.keepN hk_
    refine ⟨trivial, ?_⟩
    refine seg 8 [] [8, 9, 33, 34] [(8, (.pointer (some ⟨g298, 0, none⟩))), (9, (.pointer (some ⟨g341, 0, none⟩))), (33, (.int .i64 t378)), (34, (.pointer (some ⟨g341, 3, none⟩)))] [] (fun fb => by kernel_rfl) rfl trivial ?_
    refine WL.store hS382 2 rfl [(3, (.int .i64 t378))] #[(.int .i64 x346.1), (.int .i64 x346.2.1), (.int .i64 x346.2.2.1), (.int .i64 t378)] (fun fb => by kernel_rfl) (by kernel_rfl) rfl [0, 1] (by decide) (by decide) (fun w383 hS384 => ?_)
    refine ⟨trivial, ?_⟩
    refine WL.done rfl ?_
    refine WX.next ?_
    refine WC.seq ?_
    refine WC.region ?_
    refine seg 1 [.v (.int .i64 x346.1), .v (.int .i64 x346.2.1), .v (.int .i64 x346.2.2.1), .v (.int .i64 t378)] [8, 35] [(8, (.pointer (some ⟨g298, 0, none⟩))), (35, (.agg #[(.int .i64 x346.1), (.int .i64 x346.2.1), (.int .i64 x346.2.2.1), (.int .i64 t378)]))] [.cell ⟨g341, 0, none⟩ (.int .i64 x346.1), .cell ⟨g341, 1, none⟩ (.int .i64 x346.2.1), .cell ⟨g341, 2, none⟩ (.int .i64 x346.2.2.1), .cell ⟨g341, 3, none⟩ (.int .i64 t378)] (fun fb => by kernel_rfl) rfl ⟨hS384.cell 0 rfl 0 rfl, hS384.cell 0 rfl 1 rfl, hS384.cell 0 rfl 2 rfl, hS384.cell 0 rfl 3 rfl, trivial⟩ ?_
    refine WL.store hS384 2 rfl [(0, (.int .i64 x346.1)), (1, (.int .i64 x346.2.1)), (2, (.int .i64 x346.2.2.1)), (3, (.int .i64 t378))] #[(.int .i64 x346.1), (.int .i64 x346.2.1), (.int .i64 x346.2.2.1), (.int .i64 t378)] (fun fb => by kernel_rfl) (by kernel_rfl) rfl [0, 1] (by decide) (by decide) (fun w385 hS386 => ?_)
    refine ⟨trivial, ?_⟩
    refine WL.done rfl ?_
    refine WX.next ?_
    refine WC.ret ?_
    injection hf with hf
    subst hf
    exact WX.ret_ [.v (.int .i64 x346.1), .v (.int .i64 x346.2.1), .v (.int .i64 x346.2.2.1), .v (.int .i64 t378)] (.agg #[(.int .i64 x346.1), (.int .i64 x346.2.1), (.int .i64 x346.2.2.1), (.int .i64 t378)]) [.cell ⟨g298, 0, none⟩ (.int .i64 x346.1), .cell ⟨g298, 1, none⟩ (.int .i64 x346.2.1), .cell ⟨g298, 2, none⟩ (.int .i64 x346.2.2.1), .cell ⟨g298, 3, none⟩ (.int .i64 t378)] (fun fb => by kernel_rfl) ⟨hS386.cell 0 rfl 0 rfl, hS386.cell 0 rfl 1 rfl, hS386.cell 0 rfl 2 rfl, hS386.cell 0 rfl 3 rfl, trivial⟩ ⟨_, rfl, rfl, hS386.keep⟩
  rcases br_some hf with ⟨h387, hf⟩ | ⟨h387, hf⟩
  ·
    refine WL.setI 25 (eq_of_beq h387) rfl ?_
    refine seg 7 [] [0, 7, 8, 9, 10] [(0, (.pointer (some ⟨g_p0, 0, none⟩))), (7, (.pointer (some ⟨g294, 0, none⟩))), (8, (.pointer (some ⟨g298, 0, none⟩))), (9, (.pointer (some ⟨g341, 0, none⟩))), (10, (.pointer (some ⟨g341, 1, none⟩)))] [] (fun fb => by kernel_rfl) rfl trivial ?_
    refine WL.done rfl ?_
    refine WX.next ?_
    refine WC.seq ?_
    refine WC.region ?_
    refine seg 6 [.v (.int .i64 p3.Move), .v (.int .i64 p3.Next)] [8, 9, 27, 28, 30, 32] [(8, (.pointer (some ⟨g298, 0, none⟩))), (9, (.pointer (some ⟨g341, 0, none⟩))), (27, (.pointer (some ⟨g341, 1, none⟩))), (28, (.pointer (some ⟨g_p0, 0, none⟩))), (30, (.int .i64 p3.Move)), (32, (.int .i64 p3.Next))] [.cell ⟨g294, 1, none⟩ (.int .i64 p3.Move), .cell ⟨g294, 2, none⟩ (.int .i64 p3.Next)] (fun fb => by kernel_rfl) rfl ⟨hS373.cell 0 rfl 1 rfl, hS373.cell 0 rfl 2 rfl, trivial⟩ ?_
    obtain ⟨t388, ht389, hf⟩ := bind_some hf
    refine WL.call (some 33) 62 #[(.pointer (some ⟨g_p0, 0, none⟩)), (.int .i64 p3.Move), (.int .i64 p3.Next)] (fun fb => by kernel_rfl) (machine_kit_signal_calls p0 p3.Move p3.Next g_p0 A_p0_m_Actions c_p0_m_Actions A_p0_set c_p0_set A_p0_does c_p0_does t388 _ (hS373.rd 0) (hS373.rd 1) (hS373.rd 2) (hS373.rd 3) ht389) (fun v w390 hR391 => ?_)
    obtain ⟨rfl, hk_⟩ := hR391
    have hS392 := hS373.keepN hk_
    refine ⟨trivial, ?_⟩
    refine seg 8 [] [8, 9, 33, 34] [(8, (.pointer (some ⟨g298, 0, none⟩))), (9, (.pointer (some ⟨g341, 0, none⟩))), (33, (.int .i64 t388)), (34, (.pointer (some ⟨g341, 1, none⟩)))] [] (fun fb => by kernel_rfl) rfl trivial ?_
    refine WL.store hS392 2 rfl [(1, (.int .i64 t388))] #[(.int .i64 x346.1), (.int .i64 t388), (.int .i64 x346.2.2.1), (.int .i64 x346.2.2.2)] (fun fb => by kernel_rfl) (by kernel_rfl) rfl [0, 1] (by decide) (by decide) (fun w393 hS394 => ?_)
    refine ⟨trivial, ?_⟩
    refine WL.done rfl ?_
    refine WX.next ?_
    refine WC.seq ?_
    refine WC.region ?_
    refine seg 1 [.v (.int .i64 x346.1), .v (.int .i64 t388), .v (.int .i64 x346.2.2.1), .v (.int .i64 x346.2.2.2)] [8, 35] [(8, (.pointer (some ⟨g298, 0, none⟩))), (35, (.agg #[(.int .i64 x346.1), (.int .i64 t388), (.int .i64 x346.2.2.1), (.int .i64 x346.2.2.2)]))] [.cell ⟨g341, 0, none⟩ (.int .i64 x346.1), .cell ⟨g341, 1, none⟩ (.int .i64 t388), .cell ⟨g341, 2, none⟩ (.int .i64 x346.2.2.1), .cell ⟨g341, 3, none⟩ (.int .i64 x346.2.2.2)] (fun fb => by kernel_rfl) rfl ⟨hS394.cell 0 rfl 0 rfl, hS394.cell 0 rfl 1 rfl, hS394.cell 0 rfl 2 rfl, hS394.cell 0 rfl 3 rfl, trivial⟩ ?_
    refine WL.store hS394 2 rfl [(0, (.int .i64 x346.1)), (1, (.int .i64 t388)), (2, (.int .i64 x346.2.2.1)), (3, (.int .i64 x346.2.2.2))] #[(.int .i64 x346.1), (.int .i64 t388), (.int .i64 x346.2.2.1), (.int .i64 x346.2.2.2)] (fun fb => by kernel_rfl) (by kernel_rfl) rfl [0, 1] (by decide) (by decide) (fun w395 hS396 => ?_)
    refine ⟨trivial, ?_⟩
    refine WL.done rfl ?_
    refine WX.next ?_
    refine WC.ret ?_
    injection hf with hf
    subst hf
    exact WX.ret_ [.v (.int .i64 x346.1), .v (.int .i64 t388), .v (.int .i64 x346.2.2.1), .v (.int .i64 x346.2.2.2)] (.agg #[(.int .i64 x346.1), (.int .i64 t388), (.int .i64 x346.2.2.1), (.int .i64 x346.2.2.2)]) [.cell ⟨g298, 0, none⟩ (.int .i64 x346.1), .cell ⟨g298, 1, none⟩ (.int .i64 t388), .cell ⟨g298, 2, none⟩ (.int .i64 x346.2.2.1), .cell ⟨g298, 3, none⟩ (.int .i64 x346.2.2.2)] (fun fb => by kernel_rfl) ⟨hS396.cell 0 rfl 0 rfl, hS396.cell 0 rfl 1 rfl, hS396.cell 0 rfl 2 rfl, hS396.cell 0 rfl 3 rfl, trivial⟩ ⟨_, rfl, rfl, hS396.keep⟩
  cases hf
theorem machine_kitOf_calls (k : Nat) (p0 : Machine) (A_p0_Actions : Option Addr) (c_p0_Actions : Nat) (r : Kit) (w : World) (hR0 : RO NoS w (rowR enc_Action A_p0_Actions c_p0_Actions p0.Actions)) (hf : machine_kitOf k p0 = some r) :
    CallsR Try.prog 41 #[(.agg #[(.int .i64 p0.States), (.int .i64 p0.Symbols), (.slice A_p0_Actions p0.Actions.length c_p0_Actions)])] w (fun v w' => ∃ (g1_ : Nat), ∃ (A2_ : Option Addr), ∃ (c2_ : Nat), ∃ (A3_ : Option Addr), ∃ (c3_ : Nat), v = (.pointer (some ⟨g1_, 0, none⟩)) ∧ St NoS w w' [] [blk g1_ (.cells #[(.int .i64 r.m.States), (.int .i64 r.m.Symbols), (.slice A_p0_Actions p0.Actions.length c_p0_Actions), (.slice A2_ r.set.length c2_), (.slice A3_ r.does.length c3_), (.int .i64 r.base)] 96 (0, 0)), rowO 65 enc_Tile A2_ c2_ r.set, rowO 3 encInt A3_ c3_ r.does]) := by
  have hS : St NoS w w [rowR enc_Action A_p0_Actions c_p0_Actions p0.Actions] [] := St.init (ro_cons hR0 (ro_nil _ _))
  refine enter 134 Try.func41 rfl Try.ntmps41 rfl ?_
  unfold machine_kitOf at hf
  refine WC.seq ?_
  refine WC.region ?_
  refine WL.new hS 1 [] (fun g => (.pointer (some ⟨g, 0, none⟩))) (.cells #[(.int .i64 p0.States), (.int .i64 p0.Symbols), (.slice A_p0_Actions p0.Actions.length c_p0_Actions)] 24 (0, 0)) [] (fun fb g => by kernel_rfl) trivial (fun g172 w173 hS174 => ?_)
  refine ⟨trivial, ?_⟩
  refine seg 2 [] [1] [(1, (.pointer (some ⟨g172, 0, none⟩)))] [] (fun fb => by kernel_rfl) rfl trivial ?_
  refine WL.done rfl ?_
  refine WX.next ?_
  refine WC.seq ?_
  refine WC.region ?_
  refine seg 2 [.v (.int .i64 p0.States), .v (.int .i64 p0.Symbols), .v (.slice A_p0_Actions p0.Actions.length c_p0_Actions)] [1, 11] [(1, (.pointer (some ⟨g172, 0, none⟩))), (11, (.agg #[(.int .i64 p0.States), (.int .i64 p0.Symbols), (.slice A_p0_Actions p0.Actions.length c_p0_Actions), (.slice none 0 0), (.slice none 0 0), (.int .i64 0)]))] [.cell ⟨g172, 0, none⟩ (.int .i64 p0.States), .cell ⟨g172, 1, none⟩ (.int .i64 p0.Symbols), .cell ⟨g172, 2, none⟩ (.slice A_p0_Actions p0.Actions.length c_p0_Actions)] (fun fb => by kernel_rfl) rfl ⟨hS174.cell 0 rfl 0 rfl, hS174.cell 0 rfl 1 rfl, hS174.cell 0 rfl 2 rfl, trivial⟩ ?_
  refine WL.new hS174 12 [] (fun g => (.pointer (some ⟨g, 0, none⟩))) (.cells #[(.int .i64 p0.States), (.int .i64 p0.Symbols), (.slice A_p0_Actions p0.Actions.length c_p0_Actions), (.slice none 0 0), (.slice none 0 0), (.int .i64 0)] 96 (0, 0)) [] (fun fb g => by kernel_rfl) trivial (fun g176 w177 hS178 => ?_)
  refine ⟨trivial, ?_⟩
  refine seg 4 [] [1, 3] [(1, (.pointer (some ⟨g172, 0, none⟩))), (3, (.pointer (some ⟨g176, 0, none⟩)))] [] (fun fb => by kernel_rfl) rfl trivial ?_
  refine WL.done rfl ?_
  refine WX.next ?_
  refine WC.seq ?_
  refine WC.seq ?_
  refine WC.region ?_
  refine seg 3 [.v (.int .i64 p0.Symbols)] [1, 3, 14, 15] [(1, (.pointer (some ⟨g172, 0, none⟩))), (3, (.pointer (some ⟨g176, 0, none⟩))), (14, (.int .i64 p0.Symbols)), (15, (.int .i64 0))] [.cell ⟨g172, 1, none⟩ (.int .i64 p0.Symbols)] (fun fb => by kernel_rfl) rfl ⟨hS178.cell 1 rfl 1 rfl, trivial⟩ ?_
  refine WL.done rfl ?_
  refine WX.next ?_
  have hS212 := hS178.nilrow 65 enc_Tile
  obtain ⟨x220, hx221, hf⟩ := bind_some hf
  refine WC.cutN (T := (List Tile) × (Option Addr) × Nat) (fun t => [(1, (.pointer (some ⟨g172, 0, none⟩))), (3, (.pointer (some ⟨g176, 0, none⟩)))]) (fun t w1 => St NoS w w1 [rowR enc_Action A_p0_Actions c_p0_Actions p0.Actions] [blk g172 (.cells #[(.int .i64 p0.States), (.int .i64 p0.Symbols), (.slice A_p0_Actions p0.Actions.length c_p0_Actions)] 24 (0, 0)), blk g176 (.cells #[(.int .i64 p0.States), (.int .i64 p0.Symbols), (.slice A_p0_Actions p0.Actions.length c_p0_Actions), (.slice t.2.1 t.1.length t.2.2), (.slice none 0 0), (.int .i64 0)] 96 (0, 0)), rowO 65 enc_Tile t.2.1 t.2.2 t.1] ∧ x220 = t.1) (fun Kx220 => ?_) ?_
  ·
    refine WC.block ?_
    refine WC.loop (T := ((List Tile) × Int) × (Option Addr) × Nat) (fun t => [(1, (.pointer (some ⟨g172, 0, none⟩))), (3, (.pointer (some ⟨g176, 0, none⟩))), (14, (.int .i64 p0.Symbols)), (15, (.int .i64 t.1.2))]) (fun n t w1 => St NoS w w1 [rowR enc_Action A_p0_Actions c_p0_Actions p0.Actions] [blk g172 (.cells #[(.int .i64 p0.States), (.int .i64 p0.Symbols), (.slice A_p0_Actions p0.Actions.length c_p0_Actions)] 24 (0, 0)), blk g176 (.cells #[(.int .i64 p0.States), (.int .i64 p0.Symbols), (.slice A_p0_Actions p0.Actions.length c_p0_Actions), (.slice t.2.1 t.1.1.length t.2.2), (.slice none 0 0), (.int .i64 0)] 96 (0, 0)), rowO 65 enc_Tile t.2.1 t.2.2 t.1.1] ∧ machine_kitOf.l0 n t.1.1 t.1.2 p0 = some x220) k ((([] : List Tile), 0), none, 0) [1, 3, 14, 15] rfl ⟨(hS212.subR [0]).sub [2, 1, 0] (by decide), hx221⟩ ?_
    rintro k222 ⟨⟨l215, x216⟩, A213, c214⟩ w223 ⟨hS224, hl225⟩
    cases k222 with
    | zero => rw [machine_kitOf.l0] at hl225; cases hl225
    | succ k222 =>
      rw [machine_kitOf.l0] at hl225
      refine WC.seq ?_
      refine WC.region ?_
      refine seg 1 [] [1, 3, 14, 15, 16] [(1, (.pointer (some ⟨g172, 0, none⟩))), (3, (.pointer (some ⟨g176, 0, none⟩))), (14, (.int .i64 p0.Symbols)), (15, (.int .i64 x216)), (16, (.bool (decide (x216 < p0.Symbols))))] [] (fun fb => by kernel_rfl) rfl trivial ?_
      refine WL.done rfl ?_
      refine WX.next ?_
      refine WC.seq ?_
      rcases br_some hl225 with ⟨h226, hl225⟩ | ⟨h226, hl225⟩
      · refine WC.condT2 (fun fb => by kernel_rfl) h226 ?_
        refine WC.skip ?_
        refine WX.next ?_
        refine WC.seq ?_
        refine WC.block ?_
        refine WC.seq ?_
        refine WC.region ?_
        refine seg 2 [] [1, 3, 4, 14, 15] [(1, (.pointer (some ⟨g172, 0, none⟩))), (3, (.pointer (some ⟨g176, 0, none⟩))), (4, (.int .i64 x216)), (14, (.int .i64 p0.Symbols)), (15, (.int .i64 x216))] [] (fun fb => by kernel_rfl) rfl trivial ?_
        refine WL.done rfl ?_
        refine WX.next ?_
        refine WC.region ?_
        refine seg 8 [.v (.slice A213 l215.length c214)] [1, 3, 14, 15, 18, 22, 25] [(1, (.pointer (some ⟨g172, 0, none⟩))), (3, (.pointer (some ⟨g176, 0, none⟩))), (14, (.int .i64 p0.Symbols)), (15, (.int .i64 x216)), (18, (.pointer (some ⟨g176, 0, none⟩))), (22, (.slice A213 l215.length c214)), (25, (.agg #[(.int .i64 x216), (.int .i64 0), (.int .i64 x216), (.int .i64 0)]))] [.cell ⟨g176, 3, none⟩ (.slice A213 l215.length c214)] (fun fb => by kernel_rfl) rfl ⟨hS224.cell 1 rfl 3 rfl, trivial⟩ ?_
        refine WL.new hS224 26 [] (fun g => (.slice (some ⟨g, 0, none⟩) 1 1)) (.cells #[(.int .i64 x216), (.int .i64 0), (.int .i64 x216), (.int .i64 0)] 65 (0, 0)) [] (fun fb g => by kernel_rfl) trivial (fun g227 w228 hS229 => ?_)
        refine ⟨trivial, ?_⟩
        have hS231 : St NoS w w228 [rowR enc_Action A_p0_Actions c_p0_Actions p0.Actions] [rowO 65 enc_Tile (some ⟨g227, 0, none⟩) 1 [(Tile.mk x216 0 x216 0)], blk g172 (.cells #[(.int .i64 p0.States), (.int .i64 p0.Symbols), (.slice A_p0_Actions p0.Actions.length c_p0_Actions)] 24 (0, 0)), blk g176 (.cells #[(.int .i64 p0.States), (.int .i64 p0.Symbols), (.slice A_p0_Actions p0.Actions.length c_p0_Actions), (.slice A213 l215.length c214), (.slice none 0 0), (.int .i64 0)] 96 (0, 0)), rowO 65 enc_Tile A213 c214 l215] := hS229.map1 0 _ (fun h => rowO.ofBlk h rfl (Nat.le_of_ble_eq_true (by kernel_rfl))) (fun _ h => by obtain ⟨_, h1, h2⟩ := h; injection h1 with h1; subst h1; exact h2) [1, 2, 3] (by decide) (by decide)
        obtain ⟨h232, hl225⟩ := as_some hl225
        refine WL.append hS231 3 (d := 27) (tS := 50) (z := (.agg #[(.int .i64 0), (.int .i64 0), (.int .i64 0), (.int .i64 0)])) (bytes := 32) (c2 := 1) rfl (fun fb => by kernel_rfl) (rowO.rd (hS231.own 0).1) (by kernel_rfl) (by kernel_rfl) rfl (by decide) h232 (by decide) [0, 1, 2] (by decide) (by decide) (fun A233 c234 w235 hS236 => ?_)
        refine ⟨trivial, ?_⟩
        refine seg 12 [] [1, 3, 14, 15, 27, 29] [(1, (.pointer (some ⟨g172, 0, none⟩))), (3, (.pointer (some ⟨g176, 0, none⟩))), (14, (.int .i64 p0.Symbols)), (15, (.int .i64 x216)), (27, (.slice A233 (l215 ++ [(Tile.mk x216 0 x216 0)]).length c234)), (29, (.pointer (some ⟨g176, 3, none⟩)))] [] (fun fb => by kernel_rfl) rfl trivial ?_
        refine WL.store hS236 3 rfl [(3, (.slice A233 (l215 ++ [(Tile.mk x216 0 x216 0)]).length c234))] #[(.int .i64 p0.States), (.int .i64 p0.Symbols), (.slice A_p0_Actions p0.Actions.length c_p0_Actions), (.slice A233 (l215 ++ [(Tile.mk x216 0 x216 0)]).length c234), (.slice none 0 0), (.int .i64 0)] (fun fb => by kernel_rfl) (by kernel_rfl) rfl [0, 1, 2] (by decide) (by decide) (fun w237 hS238 => ?_)
        refine ⟨trivial, ?_⟩
        refine WL.done rfl ?_
        refine WX.blockN (WX.next ?_)
        refine WC.region ?_
        refine seg 2 [] [1, 3, 14, 15] [(1, (.pointer (some ⟨g172, 0, none⟩))), (3, (.pointer (some ⟨g176, 0, none⟩))), (14, (.int .i64 p0.Symbols)), (15, (.int .i64 (w64 (x216 + 1))))] [] (fun fb => by kernel_rfl) rfl trivial ?_
        refine WL.done rfl ?_
        exact WX.again k222 (Nat.lt_succ_self _) ((l215 ++ [(Tile.mk x216 0 x216 0)], w64 (x216 + 1)), A233, c234) [1, 3, 14, 15] rfl ⟨(hS238.subR [0]).sub [3, 0, 1] (by decide), hl225⟩
      refine WC.condF2 (fun fb => by kernel_rfl) h226 ?_
      refine WC.exit ?_
      injection hl225 with hl225
      exact WX.thenX (WX.thenX (WX.blockHere (WX.to Kx220 (l215, A213, c214) [1, 3] rfl ⟨(hS224.subR [0]).sub [0, 1, 2] (by decide), hl225.symm⟩)))
  rintro ⟨y242, A217, c218⟩ w239 ⟨hS240, hq241⟩
  subst hq241
  refine WX.next ?_
  refine WC.seq ?_
  refine WC.seq ?_
  refine WC.region ?_
  refine seg 4 [.v (.slice A_p0_Actions p0.Actions.length c_p0_Actions)] [1, 3, 32, 33, 34] [(1, (.pointer (some ⟨g172, 0, none⟩))), (3, (.pointer (some ⟨g176, 0, none⟩))), (32, (.slice A_p0_Actions p0.Actions.length c_p0_Actions)), (33, (.int .i64 (p0.Actions.length : Int))), (34, (.int .i64 0))] [.cell ⟨g172, 2, none⟩ (.slice A_p0_Actions p0.Actions.length c_p0_Actions)] (fun fb => by kernel_rfl) rfl ⟨hS240.cell 0 rfl 2 rfl, trivial⟩ ?_
  refine WL.done rfl ?_
  refine WX.next ?_
  have hS726 := hS240.nilrow 3 encInt
  obtain ⟨x740, hx741, hf⟩ := bind_some hf
  refine WC.cutN (T := ((List Tile) × (List Int)) × (Option Addr) × Nat × (Option Addr) × Nat) (fun t => [(1, (.pointer (some ⟨g172, 0, none⟩))), (3, (.pointer (some ⟨g176, 0, none⟩)))]) (fun t w1 => St NoS w w1 [rowR enc_Action A_p0_Actions c_p0_Actions p0.Actions] [blk g172 (.cells #[(.int .i64 p0.States), (.int .i64 p0.Symbols), (.slice A_p0_Actions p0.Actions.length c_p0_Actions)] 24 (0, 0)), blk g176 (.cells #[(.int .i64 p0.States), (.int .i64 p0.Symbols), (.slice A_p0_Actions p0.Actions.length c_p0_Actions), (.slice t.2.1 t.1.1.length t.2.2.1), (.slice t.2.2.2.1 t.1.2.length t.2.2.2.2), (.int .i64 0)] 96 (0, 0)), rowO 65 enc_Tile t.2.1 t.2.2.1 t.1.1, rowO 3 encInt t.2.2.2.1 t.2.2.2.2 t.1.2] ∧ x740 = t.1) (fun Kx740 => ?_) ?_
  ·
    refine WC.block ?_
    refine WC.loop (T := ((List Tile) × (List Int) × Int) × (Option Addr) × Nat × (Option Addr) × Nat) (fun t => [(1, (.pointer (some ⟨g172, 0, none⟩))), (3, (.pointer (some ⟨g176, 0, none⟩))), (32, (.slice A_p0_Actions p0.Actions.length c_p0_Actions)), (33, (.int .i64 (p0.Actions.length : Int))), (34, (.int .i64 t.1.2.2))]) (fun n t w1 => St NoS w w1 [rowR enc_Action A_p0_Actions c_p0_Actions p0.Actions] [blk g172 (.cells #[(.int .i64 p0.States), (.int .i64 p0.Symbols), (.slice A_p0_Actions p0.Actions.length c_p0_Actions)] 24 (0, 0)), blk g176 (.cells #[(.int .i64 p0.States), (.int .i64 p0.Symbols), (.slice A_p0_Actions p0.Actions.length c_p0_Actions), (.slice t.2.1 t.1.1.length t.2.2.1), (.slice t.2.2.2.1 t.1.2.1.length t.2.2.2.2), (.int .i64 0)] 96 (0, 0)), rowO 65 enc_Tile t.2.1 t.2.2.1 t.1.1, rowO 3 encInt t.2.2.2.1 t.2.2.2.2 t.1.2.1] ∧ machine_kitOf.l1 n t.1.1 t.1.2.1 t.1.2.2 p0 = some x740) k ((x220, ([] : List Int), 0), A217, c218, none, 0) [1, 3, 32, 33, 34] rfl ⟨(hS726.subR [0]).sub [1, 2, 3, 0] (by decide), hx741⟩ ?_
    rintro k742 ⟨⟨l729, l732, x733⟩, A727, c728, A730, c731⟩ w743 ⟨hS744, hl745⟩
    cases k742 with
    | zero => rw [machine_kitOf.l1] at hl745; cases hl745
    | succ k742 =>
      rw [machine_kitOf.l1] at hl745
      refine WC.seq ?_
      refine WC.region ?_
      refine seg 1 [] [1, 3, 32, 33, 34, 35] [(1, (.pointer (some ⟨g172, 0, none⟩))), (3, (.pointer (some ⟨g176, 0, none⟩))), (32, (.slice A_p0_Actions p0.Actions.length c_p0_Actions)), (33, (.int .i64 (p0.Actions.length : Int))), (34, (.int .i64 x733)), (35, (.bool (decide (x733 < (p0.Actions.length : Int)))))] [] (fun fb => by kernel_rfl) rfl trivial ?_
      refine WL.done rfl ?_
      refine WX.next ?_
      refine WC.seq ?_
      rcases br_some hl745 with ⟨h746, hl745⟩ | ⟨h746, hl745⟩
      · refine WC.condT2 (fun fb => by kernel_rfl) h746 ?_
        refine WC.skip ?_
        refine WX.next ?_
        refine WC.seq ?_
        obtain ⟨x838, hx839, hl745⟩ := bind_some hl745
        refine WC.cutN (T := ((List Tile) × (List Int)) × (Option Addr) × Nat × (Option Addr) × Nat) (fun t => [(1, (.pointer (some ⟨g172, 0, none⟩))), (3, (.pointer (some ⟨g176, 0, none⟩))), (32, (.slice A_p0_Actions p0.Actions.length c_p0_Actions)), (33, (.int .i64 (p0.Actions.length : Int))), (34, (.int .i64 x733))]) (fun t w1 => St NoS w w1 [rowR enc_Action A_p0_Actions c_p0_Actions p0.Actions] [blk g172 (.cells #[(.int .i64 p0.States), (.int .i64 p0.Symbols), (.slice A_p0_Actions p0.Actions.length c_p0_Actions)] 24 (0, 0)), blk g176 (.cells #[(.int .i64 p0.States), (.int .i64 p0.Symbols), (.slice A_p0_Actions p0.Actions.length c_p0_Actions), (.slice t.2.1 t.1.1.length t.2.2.1), (.slice t.2.2.2.1 t.1.2.length t.2.2.2.2), (.int .i64 0)] 96 (0, 0)), rowO 65 enc_Tile t.2.1 t.2.2.1 t.1.1, rowO 3 encInt t.2.2.2.1 t.2.2.2.2 t.1.2] ∧ x838 = t.1) (fun Kx838 => ?_) ?_
        ·
          refine WC.block ?_
          refine WC.seq ?_
          refine WC.region ?_
          refine seg 1 [] [1, 3, 32, 33, 34, 36] [(1, (.pointer (some ⟨g172, 0, none⟩))), (3, (.pointer (some ⟨g176, 0, none⟩))), (32, (.slice A_p0_Actions p0.Actions.length c_p0_Actions)), (33, (.int .i64 (p0.Actions.length : Int))), (34, (.int .i64 x733)), (36, (.int .i64 x733))] [] (fun fb => by kernel_rfl) rfl trivial ?_
          obtain ⟨h840, hx839⟩ := as_some hx839
          refine seg 3 [.v (.int .i64 ((rdD p0.Actions x733 z_Action).Write)), .v (.int .i64 ((rdD p0.Actions x733 z_Action).Move)), .v (.int .i64 ((rdD p0.Actions x733 z_Action).Next))] [1, 3, 32, 33, 34, 36, 38] [(1, (.pointer (some ⟨g172, 0, none⟩))), (3, (.pointer (some ⟨g176, 0, none⟩))), (32, (.slice A_p0_Actions p0.Actions.length c_p0_Actions)), (33, (.int .i64 (p0.Actions.length : Int))), (34, (.int .i64 x733)), (36, (.int .i64 x733)), (38, (.agg #[(.int .i64 ((rdD p0.Actions x733 z_Action).Write)), (.int .i64 ((rdD p0.Actions x733 z_Action).Move)), (.int .i64 ((rdD p0.Actions x733 z_Action).Next))]))] [.idx A_p0_Actions x733 p0.Actions.length, .cell ((adr A_p0_Actions).add ((x733).toNat * 3)) (.int .i64 ((rdD p0.Actions x733 z_Action).Write)), .cell (((adr A_p0_Actions).add ((x733).toNat * 3)).add 1) (.int .i64 ((rdD p0.Actions x733 z_Action).Move)), .cell (((adr A_p0_Actions).add ((x733).toNat * 3)).add 2) (.int .i64 ((rdD p0.Actions x733 z_Action).Next))] (fun fb => by kernel_rfl) rfl ⟨rowR.adr (hS744.rd 0).1 h840.1 h840.2, rowR.cell (hS744.rd 0).1 z_Action h840.1 h840.2 0 rfl, rowR.cell (hS744.rd 0).1 z_Action h840.1 h840.2 1 rfl, rowR.cell (hS744.rd 0).1 z_Action h840.1 h840.2 2 rfl, trivial⟩ ?_
          refine WL.new hS744 6 [] (fun g => (.pointer (some ⟨g, 0, none⟩))) (.cells #[(.int .i64 0), (.int .i64 0), (.int .i64 0)] 88 (0, 0)) [] (fun fb g => by kernel_rfl) trivial (fun g841 w842 hS843 => ?_)
          refine ⟨trivial, ?_⟩
          refine seg 5 [] [1, 3, 5, 6, 32, 33, 34, 38] [(1, (.pointer (some ⟨g172, 0, none⟩))), (3, (.pointer (some ⟨g176, 0, none⟩))), (5, (.int .i64 x733)), (6, (.pointer (some ⟨g841, 0, none⟩))), (32, (.slice A_p0_Actions p0.Actions.length c_p0_Actions)), (33, (.int .i64 (p0.Actions.length : Int))), (34, (.int .i64 x733)), (38, (.agg #[(.int .i64 ((rdD p0.Actions x733 z_Action).Write)), (.int .i64 ((rdD p0.Actions x733 z_Action).Move)), (.int .i64 ((rdD p0.Actions x733 z_Action).Next))]))] [] (fun fb => by kernel_rfl) rfl trivial ?_
          refine WL.store hS843 0 rfl [(0, (.int .i64 ((rdD p0.Actions x733 z_Action).Write))), (1, (.int .i64 ((rdD p0.Actions x733 z_Action).Move))), (2, (.int .i64 ((rdD p0.Actions x733 z_Action).Next)))] #[(.int .i64 ((rdD p0.Actions x733 z_Action).Write)), (.int .i64 ((rdD p0.Actions x733 z_Action).Move)), (.int .i64 ((rdD p0.Actions x733 z_Action).Next))] (fun fb => by kernel_rfl) (by kernel_rfl) rfl [1, 2, 3, 4] (by decide) (by decide) (fun w845 hS846 => ?_)
          refine ⟨trivial, ?_⟩
          refine WL.done rfl ?_
          refine WX.next ?_
          refine WC.seq ?_
          refine WC.seq ?_
          refine WC.region ?_
          refine seg 5 [.v (.int .i64 ((rdD p0.Actions x733 z_Action).Next)), .v (.int .i64 p0.States)] [1, 3, 5, 6, 32, 33, 34, 43] [(1, (.pointer (some ⟨g172, 0, none⟩))), (3, (.pointer (some ⟨g176, 0, none⟩))), (5, (.int .i64 x733)), (6, (.pointer (some ⟨g841, 0, none⟩))), (32, (.slice A_p0_Actions p0.Actions.length c_p0_Actions)), (33, (.int .i64 (p0.Actions.length : Int))), (34, (.int .i64 x733)), (43, (.bool (((rdD p0.Actions x733 z_Action).Next) == p0.States)))] [.cell ⟨g841, 2, none⟩ (.int .i64 ((rdD p0.Actions x733 z_Action).Next)), .cell ⟨g172, 0, none⟩ (.int .i64 p0.States)] (fun fb => by kernel_rfl) rfl ⟨hS846.cell 0 rfl 2 rfl, hS846.cell 1 rfl 0 rfl, trivial⟩ ?_
          refine WL.done rfl ?_
          refine WX.next ?_
          rcases br_some hx839 with ⟨h847, hx839⟩ | ⟨h847, hx839⟩
          · refine WC.condT2 (fun fb => by kernel_rfl) h847 ?_
            refine WC.seq ?_
            refine WC.region ?_
            refine seg 5 [.v (.slice A730 l732.length c731)] [1, 3, 32, 33, 34, 44, 48] [(1, (.pointer (some ⟨g172, 0, none⟩))), (3, (.pointer (some ⟨g176, 0, none⟩))), (32, (.slice A_p0_Actions p0.Actions.length c_p0_Actions)), (33, (.int .i64 (p0.Actions.length : Int))), (34, (.int .i64 x733)), (44, (.pointer (some ⟨g176, 0, none⟩))), (48, (.slice A730 l732.length c731))] [.cell ⟨g176, 4, none⟩ (.slice A730 l732.length c731)] (fun fb => by kernel_rfl) rfl ⟨hS846.cell 2 rfl 4 rfl, trivial⟩ ?_
            refine WL.new hS846 49 [] (fun g => (.slice (some ⟨g, 0, none⟩) 1 1)) (.cells #[(.int .i64 (-1))] 3 (0, 0)) [] (fun fb g => by kernel_rfl) trivial (fun g848 w849 hS850 => ?_)
            refine ⟨trivial, ?_⟩
            have hS852 : St NoS w w849 [rowR enc_Action A_p0_Actions c_p0_Actions p0.Actions] [rowO 3 encInt (some ⟨g848, 0, none⟩) 1 [(-1)], blk g841 (.cells #[(.int .i64 ((rdD p0.Actions x733 z_Action).Write)), (.int .i64 ((rdD p0.Actions x733 z_Action).Move)), (.int .i64 ((rdD p0.Actions x733 z_Action).Next))] 88 (0, 0)), blk g172 (.cells #[(.int .i64 p0.States), (.int .i64 p0.Symbols), (.slice A_p0_Actions p0.Actions.length c_p0_Actions)] 24 (0, 0)), blk g176 (.cells #[(.int .i64 p0.States), (.int .i64 p0.Symbols), (.slice A_p0_Actions p0.Actions.length c_p0_Actions), (.slice A727 l729.length c728), (.slice A730 l732.length c731), (.int .i64 0)] 96 (0, 0)), rowO 65 enc_Tile A727 c728 l729, rowO 3 encInt A730 c731 l732] := hS850.map1 0 _ (fun h => rowO.ofBlk h rfl (Nat.le_of_ble_eq_true (by kernel_rfl))) (fun _ h => by obtain ⟨_, h1, h2⟩ := h; injection h1 with h1; subst h1; exact h2) [1, 2, 3, 4, 5] (by decide) (by decide)
            obtain ⟨h853, hx839⟩ := as_some hx839
            refine WL.append hS852 5 (d := 50) (tS := 25) (z := (.int .i64 0)) (bytes := 8) (c2 := 1) rfl (fun fb => by kernel_rfl) (rowO.rd (hS852.own 0).1) (by kernel_rfl) (by kernel_rfl) rfl (by decide) h853 (by decide) [0, 1, 2, 3, 4] (by decide) (by decide) (fun A854 c855 w856 hS857 => ?_)
            refine ⟨trivial, ?_⟩
            refine seg 9 [] [1, 3, 32, 33, 34, 50, 52] [(1, (.pointer (some ⟨g172, 0, none⟩))), (3, (.pointer (some ⟨g176, 0, none⟩))), (32, (.slice A_p0_Actions p0.Actions.length c_p0_Actions)), (33, (.int .i64 (p0.Actions.length : Int))), (34, (.int .i64 x733)), (50, (.slice A854 (l732 ++ [(-1)]).length c855)), (52, (.pointer (some ⟨g176, 4, none⟩)))] [] (fun fb => by kernel_rfl) rfl trivial ?_
            refine WL.store hS857 4 rfl [(4, (.slice A854 (l732 ++ [(-1)]).length c855))] #[(.int .i64 p0.States), (.int .i64 p0.Symbols), (.slice A_p0_Actions p0.Actions.length c_p0_Actions), (.slice A727 l729.length c728), (.slice A854 (l732 ++ [(-1)]).length c855), (.int .i64 0)] (fun fb => by kernel_rfl) (by kernel_rfl) rfl [0, 1, 2, 3, 5] (by decide) (by decide) (fun w858 hS859 => ?_)
            refine ⟨trivial, ?_⟩
            refine WL.done rfl ?_
            refine WX.next ?_
            refine WC.exit ?_
            injection hx839 with hx839
            exact WX.thenX (WX.blockHere (WX.to Kx838 ((l729, l732 ++ [(-1)]), A727, c728, A854, c855) [1, 3, 32, 33, 34] rfl ⟨(hS859.subR [0]).sub [4, 0, 5, 1] (by decide), hx839.symm⟩))
          refine WC.condF2 (fun fb => by kernel_rfl) h847 ?_
          refine WC.skip ?_
          refine WX.next ?_
          refine WC.seq ?_
          refine WC.regionD ([(4, ⟨g176, 4, none⟩, (.slice A730 l732.length c731)), (8, ⟨g176, 3, none⟩, (.slice A727 l729.length c728))], [0, 1, 2, 3, 4, 5, 6, 7, 8, 9, 12, 13], [[], [], [1], [1, 2], [1, 2, 3], [], [5], [5, 6], [5, 6, 7], [5, 6, 7, 8], [5, 6, 7, 8, 9], [1, 2, 3, 4, 5, 6, 7, 8, 9, 10], [0, 1, 2, 3, 4, 5, 6, 7, 8, 9, 10, 11], [0, 1, 2, 3, 4, 5, 6, 7, 8, 9, 10, 11, 12], [0, 1, 2, 3, 4, 5, 6, 7, 8, 9, 10, 11, 12, 13]]) [[0, 1, 2, 3, 4, 5, 6, 7, 8, 9, 10, 11, 12, 13, 14]] (by kernel_rfl) (by kernel_rfl) (NoPanic.seq (NoPanic.block (NoPanic.seq (NoPanic.seq (NoPanic.block (NoPanic.seq (NoPanic.body))))))) ?_
          have hS873 := hS846.drew
          revert hS873
          generalize World.drew w845 = w872
          intro hS873
          refine ⟨⟨hS873.cell 2 rfl 4 rfl, hS873.cell 2 rfl 3 rfl, trivial⟩, forallC ?_ (forallN)⟩
          refine segF 10 [.v (.slice A730 l732.length c731), .v (.slice A727 l729.length c728)] [1, 3, 5, 6, 32, 33, 34, 53, 57, 62] [(1, (.pointer (some ⟨g172, 0, none⟩))), (3, (.pointer (some ⟨g176, 0, none⟩))), (5, (.int .i64 x733)), (6, (.pointer (some ⟨g841, 0, none⟩))), (32, (.slice A_p0_Actions p0.Actions.length c_p0_Actions)), (33, (.int .i64 (p0.Actions.length : Int))), (34, (.int .i64 x733)), (53, (.pointer (some ⟨g176, 0, none⟩))), (57, (.slice A730 l732.length c731)), (62, (.int .i64 (l729.length : Int)))] [] [0, 1] [(4, ⟨g176, 4, none⟩, (.slice A730 l732.length c731)), (8, ⟨g176, 3, none⟩, (.slice A727 l729.length c728))] (fun fb => by kernel_rfl) rfl trivial rfl ?_
          refine WL.new hS873 63 [] (fun g => (.slice (some ⟨g, 0, none⟩) 1 1)) (.cells #[(.int .i64 (l729.length : Int))] 3 (0, 0)) [] (fun fb g => by kernel_rfl) trivial (fun g874 w875 hS876 => ?_)
          refine ⟨⟨hS876.cell 3 rfl 4 rfl, trivial⟩, ?_⟩
          have hS878 : St NoS w w875 [rowR enc_Action A_p0_Actions c_p0_Actions p0.Actions] [rowO 3 encInt (some ⟨g874, 0, none⟩) 1 [(l729.length : Int)], blk g841 (.cells #[(.int .i64 ((rdD p0.Actions x733 z_Action).Write)), (.int .i64 ((rdD p0.Actions x733 z_Action).Move)), (.int .i64 ((rdD p0.Actions x733 z_Action).Next))] 88 (0, 0)), blk g172 (.cells #[(.int .i64 p0.States), (.int .i64 p0.Symbols), (.slice A_p0_Actions p0.Actions.length c_p0_Actions)] 24 (0, 0)), blk g176 (.cells #[(.int .i64 p0.States), (.int .i64 p0.Symbols), (.slice A_p0_Actions p0.Actions.length c_p0_Actions), (.slice A727 l729.length c728), (.slice A730 l732.length c731), (.int .i64 0)] 96 (0, 0)), rowO 65 enc_Tile A727 c728 l729, rowO 3 encInt A730 c731 l732] := hS876.map1 0 _ (fun h => rowO.ofBlk h rfl (Nat.le_of_ble_eq_true (by kernel_rfl))) (fun _ h => by obtain ⟨_, h1, h2⟩ := h; injection h1 with h1; subst h1; exact h2) [1, 2, 3, 4, 5] (by decide) (by decide)
          obtain ⟨h879, hx839⟩ := as_some hx839
          refine WL.append hS878 5 (d := 64) (tS := 25) (z := (.int .i64 0)) (bytes := 8) (c2 := 1) rfl (fun fb => by kernel_rfl) (rowO.rd (hS878.own 0).1) (by kernel_rfl) (by kernel_rfl) rfl (by decide) h879 (by decide) [0, 1, 2, 3, 4] (by decide) (by decide) (fun A880 c881 w882 hS883 => ?_)
          refine ⟨trivial, ?_⟩
          refine seg 14 [] [1, 3, 5, 6, 32, 33, 34, 64, 66] [(1, (.pointer (some ⟨g172, 0, none⟩))), (3, (.pointer (some ⟨g176, 0, none⟩))), (5, (.int .i64 x733)), (6, (.pointer (some ⟨g841, 0, none⟩))), (32, (.slice A_p0_Actions p0.Actions.length c_p0_Actions)), (33, (.int .i64 (p0.Actions.length : Int))), (34, (.int .i64 x733)), (64, (.slice A880 (l732 ++ [(l729.length : Int)]).length c881)), (66, (.pointer (some ⟨g176, 4, none⟩)))] [] (fun fb => by kernel_rfl) rfl trivial ?_
          refine WL.store hS883 4 rfl [(4, (.slice A880 (l732 ++ [(l729.length : Int)]).length c881))] #[(.int .i64 p0.States), (.int .i64 p0.Symbols), (.slice A_p0_Actions p0.Actions.length c_p0_Actions), (.slice A727 l729.length c728), (.slice A880 (l732 ++ [(l729.length : Int)]).length c881), (.int .i64 0)] (fun fb => by kernel_rfl) (by kernel_rfl) rfl [0, 1, 2, 3, 5] (by decide) (by decide) (fun w884 hS885 => ?_)
          refine ⟨trivial, ?_⟩
          refine WL.done rfl ?_
          refine WX.next ?_
          obtain ⟨h907, hx839⟩ := as_some hx839
          refine WC.regionD ([(4, ⟨g176, 3, none⟩, (.slice A727 l729.length c728)), (8, ⟨g172, 1, none⟩, (.int .i64 p0.Symbols)), (12, ⟨g172, 1, none⟩, (.int .i64 p0.Symbols)), (14, ⟨g841, 0, none⟩, (.int .i64 ((rdD p0.Actions x733 z_Action).Write))), (14, ⟨g841, 1, none⟩, (.int .i64 ((rdD p0.Actions x733 z_Action).Move))), (14, ⟨g841, 2, none⟩, (.int .i64 ((rdD p0.Actions x733 z_Action).Next)))], [0, 1, 2, 3, 4, 5, 6, 7, 8, 9, 10, 11, 12, 13, 14, 18, 19], [[], [], [1], [1, 2], [1, 2, 3], [], [], [], [7], [6, 7, 8], [], [], [11], [10, 11, 12], [], [5, 6, 7, 8, 9, 10, 11, 12, 13, 14], [5, 6, 7, 8, 9, 10, 11, 12, 13, 14, 15], [1, 2, 3, 4, 5, 6, 7, 8, 9, 10, 11, 12, 13, 14, 15, 16], [0, 1, 2, 3, 4, 5, 6, 7, 8, 9, 10, 11, 12, 13, 14, 15, 16, 17], [0, 1, 2, 3, 4, 5, 6, 7, 8, 9, 10, 11, 12, 13, 14, 15, 16, 17, 18], [0, 1, 2, 3, 4, 5, 6, 7, 8, 9, 10, 11, 12, 13, 14, 15, 16, 17, 18, 19]]) [[0, 1, 2, 3, 4, 5, 6, 7, 8, 9, 10, 11, 12, 13, 14, 15, 16, 17, 18, 19, 20]] (by kernel_rfl) (by kernel_rfl) (NoPanic.block (NoPanic.seq (NoPanic.seq (NoPanic.block (NoPanic.seq (NoPanic.body)))))) ?_
          have hS905 := hS885.drew
          revert hS905
          generalize World.drew w884 = w904
          intro hS905
          refine ⟨⟨hS905.cell 0 rfl 3 rfl, hS905.cell 4 rfl 1 rfl, hS905.cell 4 rfl 1 rfl, hS905.cell 3 rfl 0 rfl, hS905.cell 3 rfl 1 rfl, hS905.cell 3 rfl 2 rfl, trivial⟩, forallC ?_ (forallN)⟩
          refine segF 15 [.v (.slice A727 l729.length c728), .v (.int .i64 p0.Symbols), .v (.int .i64 p0.Symbols), .v (.int .i64 ((rdD p0.Actions x733 z_Action).Write)), .v (.int .i64 ((rdD p0.Actions x733 z_Action).Move)), .v (.int .i64 ((rdD p0.Actions x733 z_Action).Next))] [1, 3, 32, 33, 34, 67, 71, 72, 76, 80, 81] [(1, (.pointer (some ⟨g172, 0, none⟩))), (3, (.pointer (some ⟨g176, 0, none⟩))), (32, (.slice A_p0_Actions p0.Actions.length c_p0_Actions)), (33, (.int .i64 (p0.Actions.length : Int))), (34, (.int .i64 x733)), (67, (.pointer (some ⟨g176, 0, none⟩))), (71, (.slice A727 l729.length c728)), (72, (.pointer (some ⟨g176, 0, none⟩))), (76, (.int .i64 (w64 (Int.tdiv x733 p0.Symbols)))), (80, (.int .i64 (Int.tmod x733 p0.Symbols))), (81, (.agg #[(.int .i64 ((rdD p0.Actions x733 z_Action).Write)), (.int .i64 ((rdD p0.Actions x733 z_Action).Move)), (.int .i64 ((rdD p0.Actions x733 z_Action).Next))]))] [.ne p0.Symbols, .ne p0.Symbols] [0, 1, 2, 3, 4, 5] [(4, ⟨g176, 3, none⟩, (.slice A727 l729.length c728)), (8, ⟨g172, 1, none⟩, (.int .i64 p0.Symbols)), (12, ⟨g172, 1, none⟩, (.int .i64 p0.Symbols)), (14, ⟨g841, 0, none⟩, (.int .i64 ((rdD p0.Actions x733 z_Action).Write))), (14, ⟨g841, 1, none⟩, (.int .i64 ((rdD p0.Actions x733 z_Action).Move))), (14, ⟨g841, 2, none⟩, (.int .i64 ((rdD p0.Actions x733 z_Action).Next)))] (fun fb => by kernel_rfl) rfl ⟨h907, h907, trivial⟩ rfl ?_
          obtain ⟨t908, ht909, hx839⟩ := bind_some hx839
          refine WL.call (some 82) 60 #[(.pointer (some ⟨g176, 0, none⟩)), (.int .i64 (w64 (Int.tdiv x733 p0.Symbols))), (.int .i64 (Int.tmod x733 p0.Symbols)), (.agg #[(.int .i64 ((rdD p0.Actions x733 z_Action).Write)), (.int .i64 ((rdD p0.Actions x733 z_Action).Move)), (.int .i64 ((rdD p0.Actions x733 z_Action).Next))])] (fun fb => by kernel_rfl) (machine_kit_acts_calls (Kit.mk p0 l729 (l732 ++ [(l729.length : Int)]) 0) (w64 (Int.tdiv x733 p0.Symbols)) (Int.tmod x733 p0.Symbols) (rdD p0.Actions x733 z_Action) g176 A_p0_Actions c_p0_Actions A727 c728 A880 c881 t908 _ (hS905.ow 0) (hS905.rd 0) (hS905.ow 5).ofO (hS905.ow 1).ofO ht909) (fun v w910 hR911 => ?_)
          obtain ⟨rfl, hk_⟩ := hR911
          have hS912 := hS905.keepN hk_
          refine ⟨⟨hS912.cell 0 rfl 3 rfl, trivial⟩, ?_⟩
          refine WL.new hS912 83 [] (fun g => (.slice (some ⟨g, 0, none⟩) 1 1)) (.cells #[(.int .i64 t908.N), (.int .i64 t908.E), (.int .i64 t908.S), (.int .i64 t908.W)] 65 (0, 0)) [] (fun fb g => by kernel_rfl) trivial (fun g913 w914 hS915 => ?_)
          refine ⟨⟨hS915.cell 1 rfl 3 rfl, trivial⟩, ?_⟩
          have hS917 : St NoS w w914 [rowR enc_Action A_p0_Actions c_p0_Actions p0.Actions] [rowO 65 enc_Tile (some ⟨g913, 0, none⟩) 1 [t908], blk g176 (.cells #[(.int .i64 p0.States), (.int .i64 p0.Symbols), (.slice A_p0_Actions p0.Actions.length c_p0_Actions), (.slice A727 l729.length c728), (.slice A880 (l732 ++ [(l729.length : Int)]).length c881), (.int .i64 0)] 96 (0, 0)), rowO 3 encInt A880 c881 (l732 ++ [(l729.length : Int)]), rowO 3 encInt (some ⟨g874, 0, none⟩) 1 [(l729.length : Int)], blk g841 (.cells #[(.int .i64 ((rdD p0.Actions x733 z_Action).Write)), (.int .i64 ((rdD p0.Actions x733 z_Action).Move)), (.int .i64 ((rdD p0.Actions x733 z_Action).Next))] 88 (0, 0)), blk g172 (.cells #[(.int .i64 p0.States), (.int .i64 p0.Symbols), (.slice A_p0_Actions p0.Actions.length c_p0_Actions)] 24 (0, 0)), rowO 65 enc_Tile A727 c728 l729] := hS915.map1 0 _ (fun h => rowO.ofBlk h rfl (Nat.le_of_ble_eq_true (by kernel_rfl))) (fun _ h => by obtain ⟨_, h1, h2⟩ := h; injection h1 with h1; subst h1; exact h2) [1, 2, 3, 4, 5, 6] (by decide) (by decide)
          obtain ⟨h918, hx839⟩ := as_some hx839
          refine WL.append hS917 6 (d := 84) (tS := 50) (z := (.agg #[(.int .i64 0), (.int .i64 0), (.int .i64 0), (.int .i64 0)])) (bytes := 32) (c2 := 1) rfl (fun fb => by kernel_rfl) (rowO.rd (hS917.own 0).1) (by kernel_rfl) (by kernel_rfl) rfl (by decide) h918 (by decide) [0, 1, 2, 3, 4, 5] (by decide) (by decide) (fun A919 c920 w921 hS922 => ?_)
          refine ⟨trivial, ?_⟩
          refine seg 20 [] [1, 3, 32, 33, 34, 84, 86] [(1, (.pointer (some ⟨g172, 0, none⟩))), (3, (.pointer (some ⟨g176, 0, none⟩))), (32, (.slice A_p0_Actions p0.Actions.length c_p0_Actions)), (33, (.int .i64 (p0.Actions.length : Int))), (34, (.int .i64 x733)), (84, (.slice A919 (l729 ++ [t908]).length c920)), (86, (.pointer (some ⟨g176, 3, none⟩)))] [] (fun fb => by kernel_rfl) rfl trivial ?_
          refine WL.store hS922 2 rfl [(3, (.slice A919 (l729 ++ [t908]).length c920))] #[(.int .i64 p0.States), (.int .i64 p0.Symbols), (.slice A_p0_Actions p0.Actions.length c_p0_Actions), (.slice A919 (l729 ++ [t908]).length c920), (.slice A880 (l732 ++ [(l729.length : Int)]).length c881), (.int .i64 0)] (fun fb => by kernel_rfl) (by kernel_rfl) rfl [0, 1, 3, 4, 5, 6] (by decide) (by decide) (fun w923 hS924 => ?_)
          refine ⟨trivial, ?_⟩
          refine WL.done rfl ?_
          injection hx839 with hx839
          exact WX.blockN (WX.to Kx838 ((l729 ++ [t908], l732 ++ [(l729.length : Int)]), A919, c920, A880, c881) [1, 3, 32, 33, 34] rfl ⟨(hS924.subR [0]).sub [6, 0, 1, 3] (by decide), hx839.symm⟩)
        rintro ⟨y928, A832, c833, A835, c836⟩ w925 ⟨hS926, hq927⟩
        subst hq927
        refine WX.next ?_
        refine WC.region ?_
        refine seg 2 [] [1, 3, 32, 33, 34] [(1, (.pointer (some ⟨g172, 0, none⟩))), (3, (.pointer (some ⟨g176, 0, none⟩))), (32, (.slice A_p0_Actions p0.Actions.length c_p0_Actions)), (33, (.int .i64 (p0.Actions.length : Int))), (34, (.int .i64 (w64 (x733 + 1))))] [] (fun fb => by kernel_rfl) rfl trivial ?_
        refine WL.done rfl ?_
        exact WX.again k742 (Nat.lt_succ_self _) ((x838.1, x838.2, w64 (x733 + 1)), A832, c833, A835, c836) [1, 3, 32, 33, 34] rfl ⟨(hS926.subR [0]).sub [0, 1, 2, 3] (by decide), hl745⟩
      refine WC.condF2 (fun fb => by kernel_rfl) h746 ?_
      refine WC.exit ?_
      injection hl745 with hl745
      exact WX.thenX (WX.thenX (WX.blockHere (WX.to Kx740 ((l729, l732), A727, c728, A730, c731) [1, 3] rfl ⟨(hS744.subR [0]).sub [0, 1, 2, 3] (by decide), hl745.symm⟩)))
  rintro ⟨y932, A734, c735, A737, c738⟩ w929 ⟨hS930, hq931⟩
  subst hq931
  refine WX.next ?_
  refine WC.seq ?_
  refine WC.region ?_
  refine seg 8 [.v (.slice A734 x740.1.length c735)] [1, 3, 93, 95] [(1, (.pointer (some ⟨g172, 0, none⟩))), (3, (.pointer (some ⟨g176, 0, none⟩))), (93, (.int .i64 (x740.1.length : Int))), (95, (.pointer (some ⟨g176, 5, none⟩)))] [.cell ⟨g176, 3, none⟩ (.slice A734 x740.1.length c735)] (fun fb => by kernel_rfl) rfl ⟨hS930.cell 1 rfl 3 rfl, trivial⟩ ?_
  refine WL.store hS930 1 rfl [(5, (.int .i64 (x740.1.length : Int)))] #[(.int .i64 p0.States), (.int .i64 p0.Symbols), (.slice A_p0_Actions p0.Actions.length c_p0_Actions), (.slice A734 x740.1.length c735), (.slice A737 x740.2.length c738), (.int .i64 (x740.1.length : Int))] (fun fb => by kernel_rfl) (by kernel_rfl) rfl [0, 2, 3] (by decide) (by decide) (fun w933 hS934 => ?_)
  refine ⟨trivial, ?_⟩
  refine WL.done rfl ?_
  refine WX.next ?_
  refine WC.seq ?_
  refine WC.seq ?_
  refine WC.region ?_
  refine seg 3 [.v (.int .i64 p0.States)] [1, 3, 97, 98] [(1, (.pointer (some ⟨g172, 0, none⟩))), (3, (.pointer (some ⟨g176, 0, none⟩))), (97, (.int .i64 p0.States)), (98, (.int .i64 0))] [.cell ⟨g172, 0, none⟩ (.int .i64 p0.States)] (fun fb => by kernel_rfl) rfl ⟨hS934.cell 1 rfl 0 rfl, trivial⟩ ?_
  refine WL.done rfl ?_
  refine WX.next ?_
  obtain ⟨x1302, hx1303, hf⟩ := bind_some hf
  refine WC.cutN (T := (List Tile) × (Option Addr) × Nat) (fun t => [(3, (.pointer (some ⟨g176, 0, none⟩)))]) (fun t w1 => St NoS w w1 [rowR enc_Action A_p0_Actions c_p0_Actions p0.Actions] [blk g176 (.cells #[(.int .i64 p0.States), (.int .i64 p0.Symbols), (.slice A_p0_Actions p0.Actions.length c_p0_Actions), (.slice t.2.1 t.1.length t.2.2), (.slice A737 x740.2.length c738), (.int .i64 (x740.1.length : Int))] 96 (0, 0)), rowO 65 enc_Tile t.2.1 t.2.2 t.1, rowO 3 encInt A737 c738 x740.2] ∧ x1302 = t.1) (fun Kx1302 => ?_) ?_
  ·
    refine WC.block ?_
    refine WC.loop (T := ((List Tile) × Int) × (Option Addr) × Nat) (fun t => [(1, (.pointer (some ⟨g172, 0, none⟩))), (3, (.pointer (some ⟨g176, 0, none⟩))), (97, (.int .i64 p0.States)), (98, (.int .i64 t.1.2))]) (fun n t w1 => St NoS w w1 [rowR enc_Action A_p0_Actions c_p0_Actions p0.Actions] [blk g172 (.cells #[(.int .i64 p0.States), (.int .i64 p0.Symbols), (.slice A_p0_Actions p0.Actions.length c_p0_Actions)] 24 (0, 0)), blk g176 (.cells #[(.int .i64 p0.States), (.int .i64 p0.Symbols), (.slice A_p0_Actions p0.Actions.length c_p0_Actions), (.slice t.2.1 t.1.1.length t.2.2), (.slice A737 x740.2.length c738), (.int .i64 (x740.1.length : Int))] 96 (0, 0)), rowO 65 enc_Tile t.2.1 t.2.2 t.1.1, rowO 3 encInt A737 c738 x740.2] ∧ machine_kitOf.l2 n t.1.1 t.1.2 p0 x740 = some x1302) k ((x740.1, 0), A734, c735) [1, 3, 97, 98] rfl ⟨(hS934.subR [0]).sub [1, 0, 2, 3] (by decide), hx1303⟩ ?_
    rintro k1304 ⟨⟨l1297, x1298⟩, A1295, c1296⟩ w1305 ⟨hS1306, hl1307⟩
    cases k1304 with
    | zero => rw [machine_kitOf.l2] at hl1307; cases hl1307
    | succ k1304 =>
      rw [machine_kitOf.l2] at hl1307
      refine WC.seq ?_
      refine WC.region ?_
      refine seg 1 [] [1, 3, 97, 98, 99] [(1, (.pointer (some ⟨g172, 0, none⟩))), (3, (.pointer (some ⟨g176, 0, none⟩))), (97, (.int .i64 p0.States)), (98, (.int .i64 x1298)), (99, (.bool (decide (x1298 < p0.States))))] [] (fun fb => by kernel_rfl) rfl trivial ?_
      refine WL.done rfl ?_
      refine WX.next ?_
      refine WC.seq ?_
      rcases br_some hl1307 with ⟨h1308, hl1307⟩ | ⟨h1308, hl1307⟩
      · refine WC.condT2 (fun fb => by kernel_rfl) h1308 ?_
        refine WC.skip ?_
        refine WX.next ?_
        refine WC.seq ?_
        refine WC.block ?_
        refine WC.seq ?_
        refine WC.region ?_
        refine seg 2 [] [1, 3, 7, 97, 98] [(1, (.pointer (some ⟨g172, 0, none⟩))), (3, (.pointer (some ⟨g176, 0, none⟩))), (7, (.int .i64 x1298)), (97, (.int .i64 p0.States)), (98, (.int .i64 x1298))] [] (fun fb => by kernel_rfl) rfl trivial ?_
        refine WL.done rfl ?_
        refine WX.next ?_
        refine WC.seq ?_
        refine WC.region ?_
        refine seg 3 [.v (.int .i64 p0.Symbols)] [1, 3, 7, 97, 98, 102, 103] [(1, (.pointer (some ⟨g172, 0, none⟩))), (3, (.pointer (some ⟨g176, 0, none⟩))), (7, (.int .i64 x1298)), (97, (.int .i64 p0.States)), (98, (.int .i64 x1298)), (102, (.int .i64 p0.Symbols)), (103, (.int .i64 0))] [.cell ⟨g172, 1, none⟩ (.int .i64 p0.Symbols)] (fun fb => by kernel_rfl) rfl ⟨hS1306.cell 0 rfl 1 rfl, trivial⟩ ?_
        refine WL.done rfl ?_
        refine WX.next ?_
        obtain ⟨x1424, hx1425, hl1307⟩ := bind_some hl1307
        refine WC.cutN (T := (List Tile) × (Option Addr) × Nat) (fun t => [(1, (.pointer (some ⟨g172, 0, none⟩))), (3, (.pointer (some ⟨g176, 0, none⟩))), (97, (.int .i64 p0.States)), (98, (.int .i64 x1298))]) (fun t w1 => St NoS w w1 [rowR enc_Action A_p0_Actions c_p0_Actions p0.Actions] [blk g172 (.cells #[(.int .i64 p0.States), (.int .i64 p0.Symbols), (.slice A_p0_Actions p0.Actions.length c_p0_Actions)] 24 (0, 0)), blk g176 (.cells #[(.int .i64 p0.States), (.int .i64 p0.Symbols), (.slice A_p0_Actions p0.Actions.length c_p0_Actions), (.slice t.2.1 t.1.length t.2.2), (.slice A737 x740.2.length c738), (.int .i64 (x740.1.length : Int))] 96 (0, 0)), rowO 65 enc_Tile t.2.1 t.2.2 t.1, rowO 3 encInt A737 c738 x740.2] ∧ x1424 = t.1) (fun Kx1424 => ?_) ?_
        ·
          refine WC.block ?_
          refine WC.loop (T := ((List Tile) × Int) × (Option Addr) × Nat) (fun t => [(1, (.pointer (some ⟨g172, 0, none⟩))), (3, (.pointer (some ⟨g176, 0, none⟩))), (7, (.int .i64 x1298)), (97, (.int .i64 p0.States)), (98, (.int .i64 x1298)), (102, (.int .i64 p0.Symbols)), (103, (.int .i64 t.1.2))]) (fun n t w1 => St NoS w w1 [rowR enc_Action A_p0_Actions c_p0_Actions p0.Actions] [blk g172 (.cells #[(.int .i64 p0.States), (.int .i64 p0.Symbols), (.slice A_p0_Actions p0.Actions.length c_p0_Actions)] 24 (0, 0)), blk g176 (.cells #[(.int .i64 p0.States), (.int .i64 p0.Symbols), (.slice A_p0_Actions p0.Actions.length c_p0_Actions), (.slice t.2.1 t.1.1.length t.2.2), (.slice A737 x740.2.length c738), (.int .i64 (x740.1.length : Int))] 96 (0, 0)), rowO 65 enc_Tile t.2.1 t.2.2 t.1.1, rowO 3 encInt A737 c738 x740.2] ∧ machine_kitOf.l3 n t.1.1 t.1.2 p0 x740 x1298 = some x1424) k1304 ((l1297, 0), A1295, c1296) [1, 3, 7, 97, 98, 102, 103] rfl ⟨(hS1306.subR [0]).sub [0, 1, 2, 3] (by decide), hx1425⟩ ?_
          rintro k1426 ⟨⟨l1419, x1420⟩, A1417, c1418⟩ w1427 ⟨hS1428, hl1429⟩
          cases k1426 with
          | zero => rw [machine_kitOf.l3] at hl1429; cases hl1429
          | succ k1426 =>
            rw [machine_kitOf.l3] at hl1429
            refine WC.seq ?_
            refine WC.region ?_
            refine seg 1 [] [1, 3, 7, 97, 98, 102, 103, 104] [(1, (.pointer (some ⟨g172, 0, none⟩))), (3, (.pointer (some ⟨g176, 0, none⟩))), (7, (.int .i64 x1298)), (97, (.int .i64 p0.States)), (98, (.int .i64 x1298)), (102, (.int .i64 p0.Symbols)), (103, (.int .i64 x1420)), (104, (.bool (decide (x1420 < p0.Symbols))))] [] (fun fb => by kernel_rfl) rfl trivial ?_
            refine WL.done rfl ?_
            refine WX.next ?_
            refine WC.seq ?_
            rcases br_some hl1429 with ⟨h1430, hl1429⟩ | ⟨h1430, hl1429⟩
            · refine WC.condT2 (fun fb => by kernel_rfl) h1430 ?_
              refine WC.skip ?_
              refine WX.next ?_
              refine WC.seq ?_
              refine WC.block ?_
              refine WC.seq ?_
              refine WC.region ?_
              refine seg 2 [] [1, 3, 7, 8, 97, 98, 102, 103] [(1, (.pointer (some ⟨g172, 0, none⟩))), (3, (.pointer (some ⟨g176, 0, none⟩))), (7, (.int .i64 x1298)), (8, (.int .i64 x1420)), (97, (.int .i64 p0.States)), (98, (.int .i64 x1298)), (102, (.int .i64 p0.Symbols)), (103, (.int .i64 x1420))] [] (fun fb => by kernel_rfl) rfl trivial ?_
              refine WL.done rfl ?_
              refine WX.next ?_
              refine WC.seq ?_
              refine WC.region ?_
              refine seg 3 [.v (.int .i64 p0.States), .v (.int .i64 p0.Symbols), .v (.slice A_p0_Actions p0.Actions.length c_p0_Actions)] [1, 3, 7, 8, 97, 98, 102, 103, 106, 107, 108] [(1, (.pointer (some ⟨g172, 0, none⟩))), (3, (.pointer (some ⟨g176, 0, none⟩))), (7, (.int .i64 x1298)), (8, (.int .i64 x1420)), (97, (.int .i64 p0.States)), (98, (.int .i64 x1298)), (102, (.int .i64 p0.Symbols)), (103, (.int .i64 x1420)), (106, (.agg #[(.int .i64 p0.States), (.int .i64 p0.Symbols), (.slice A_p0_Actions p0.Actions.length c_p0_Actions)])), (107, (.int .i64 x1298)), (108, (.int .i64 x1420))] [.cell ⟨g172, 0, none⟩ (.int .i64 p0.States), .cell ⟨g172, 1, none⟩ (.int .i64 p0.Symbols), .cell ⟨g172, 2, none⟩ (.slice A_p0_Actions p0.Actions.length c_p0_Actions)] (fun fb => by kernel_rfl) rfl ⟨hS1428.cell 0 rfl 0 rfl, hS1428.cell 0 rfl 1 rfl, hS1428.cell 0 rfl 2 rfl, trivial⟩ ?_
              obtain ⟨t1431, ht1432, hl1429⟩ := bind_some hl1429
              refine WL.call (some 109) 61 #[(.agg #[(.int .i64 p0.States), (.int .i64 p0.Symbols), (.slice A_p0_Actions p0.Actions.length c_p0_Actions)]), (.int .i64 x1298), (.int .i64 x1420)] (fun fb => by kernel_rfl) (machine_head_calls p0 x1298 x1420 A_p0_Actions c_p0_Actions t1431 _ (hS1428.rd 0) ht1432) (fun v w1433 hR1434 => ?_)
              obtain ⟨rfl, hk_⟩ := hR1434
              have hS1435 := hS1428.keepN hk_
              refine ⟨trivial, ?_⟩
              refine seg 5 [] [1, 3, 7, 8, 9, 97, 98, 102, 103] [(1, (.pointer (some ⟨g172, 0, none⟩))), (3, (.pointer (some ⟨g176, 0, none⟩))), (7, (.int .i64 x1298)), (8, (.int .i64 x1420)), (9, (.int .i64 t1431)), (97, (.int .i64 p0.States)), (98, (.int .i64 x1298)), (102, (.int .i64 p0.Symbols)), (103, (.int .i64 x1420))] [] (fun fb => by kernel_rfl) rfl trivial ?_
              refine WL.done rfl ?_
              refine WX.next ?_
              refine WC.regionD ([(4, ⟨g176, 3, none⟩, (.slice A1417 l1419.length c1418))], [0, 1, 2, 3, 4, 5, 6, 7, 8, 10, 11, 12, 13, 14, 16, 19, 20], [[], [], [1], [1, 2], [1, 2, 3], [], [], [], [], [7, 8], [5, 6, 7, 8, 9], [], [], [], [], [7, 8, 9, 13, 14], [7, 8, 9, 11, 12, 13, 14, 15], [5, 6, 7, 8, 9, 10, 11, 12, 13, 14, 15, 16], [1, 2, 3, 4, 5, 6, 7, 8, 9, 10, 11, 12, 13, 14, 15, 16, 17], [0, 1, 2, 3, 4, 5, 6, 7, 8, 9, 10, 11, 12, 13, 14, 15, 16, 17, 18], [0, 1, 2, 3, 4, 5, 6, 7, 8, 9, 10, 11, 12, 13, 14, 15, 16, 17, 18, 19], [0, 1, 2, 3, 4, 5, 6, 7, 8, 9, 10, 11, 12, 13, 14, 15, 16, 17, 18, 19, 20]]) [[0, 1, 2, 3, 4, 5, 6, 7, 8, 11, 12, 13, 14, 9, 10, 15, 16, 17, 18, 19, 20, 21]] (by kernel_rfl) (by kernel_rfl) (NoPanic.block (NoPanic.seq (NoPanic.seq (NoPanic.block (NoPanic.block (NoPanic.seq (NoPanic.seq (NoPanic.block (NoPanic.seq (NoPanic.body)))))))))) ?_
              have hS1459 := hS1435.drew
              revert hS1459
              generalize World.drew w1433 = w1458
              intro hS1459
              refine ⟨⟨hS1459.cell 1 rfl 3 rfl, trivial⟩, forallC ?_ (forallN)⟩
              refine segF 13 [.v (.slice A1417 l1419.length c1418)] [1, 3, 7, 97, 98, 102, 103, 110, 114, 115, 116, 117, 118, 121, 122, 123, 124] [(1, (.pointer (some ⟨g172, 0, none⟩))), (3, (.pointer (some ⟨g176, 0, none⟩))), (7, (.int .i64 x1298)), (97, (.int .i64 p0.States)), (98, (.int .i64 x1298)), (102, (.int .i64 p0.Symbols)), (103, (.int .i64 x1420)), (110, (.pointer (some ⟨g176, 0, none⟩))), (114, (.slice A1417 l1419.length c1418)), (115, (.int .i64 t1431)), (116, (.int .i64 x1420)), (117, (.pointer (some ⟨g176, 0, none⟩))), (118, (.int .i64 x1298)), (121, (.int .i64 t1431)), (122, (.int .i64 x1420)), (123, (.pointer (some ⟨g176, 0, none⟩))), (124, (.int .i64 x1298))] [] [0] [(4, ⟨g176, 3, none⟩, (.slice A1417 l1419.length c1418))] (fun fb => by kernel_rfl) rfl trivial rfl ?_
              obtain ⟨t1460, ht1461, hl1429⟩ := bind_some hl1429
              refine WL.call (some 119) 62 #[(.pointer (some ⟨g176, 0, none⟩)), (.int .i64 1), (.int .i64 x1298)] (fun fb => by kernel_rfl) (machine_kit_signal_calls (Kit.mk p0 l1419 x740.2 (x740.1.length : Int)) 1 x1298 g176 A_p0_Actions c_p0_Actions A1417 c1418 A737 c738 t1460 _ (hS1459.ow 1) (hS1459.rd 0) (hS1459.ow 2).ofO (hS1459.ow 3).ofO ht1461) (fun v w1462 hR1463 => ?_)
              obtain ⟨rfl, hk_⟩ := hR1463
              have hS1464 := hS1459.keepN hk_
              refine ⟨⟨hS1464.cell 1 rfl 3 rfl, trivial⟩, ?_⟩
              refine seg 15 [] [1, 3, 7, 97, 98, 102, 103, 110, 114, 120, 121, 122, 123, 124] [(1, (.pointer (some ⟨g172, 0, none⟩))), (3, (.pointer (some ⟨g176, 0, none⟩))), (7, (.int .i64 x1298)), (97, (.int .i64 p0.States)), (98, (.int .i64 x1298)), (102, (.int .i64 p0.Symbols)), (103, (.int .i64 x1420)), (110, (.pointer (some ⟨g176, 0, none⟩))), (114, (.slice A1417 l1419.length c1418)), (120, (.agg #[(.int .i64 t1431), (.int .i64 0), (.int .i64 x1420), (.int .i64 t1460)])), (121, (.int .i64 t1431)), (122, (.int .i64 x1420)), (123, (.pointer (some ⟨g176, 0, none⟩))), (124, (.int .i64 x1298))] [] (fun fb => by kernel_rfl) rfl trivial ?_
              obtain ⟨t1465, ht1466, hl1429⟩ := bind_some hl1429
              refine WL.call (some 125) 62 #[(.pointer (some ⟨g176, 0, none⟩)), (.int .i64 0), (.int .i64 x1298)] (fun fb => by kernel_rfl) (machine_kit_signal_calls (Kit.mk p0 l1419 x740.2 (x740.1.length : Int)) 0 x1298 g176 A_p0_Actions c_p0_Actions A1417 c1418 A737 c738 t1465 _ (hS1464.ow 1) (hS1464.rd 0) (hS1464.ow 2).ofO (hS1464.ow 3).ofO ht1466) (fun v w1467 hR1468 => ?_)
              obtain ⟨rfl, hk_⟩ := hR1468
              have hS1469 := hS1464.keepN hk_
              refine ⟨⟨hS1469.cell 1 rfl 3 rfl, trivial⟩, ?_⟩
              refine seg 17 [] [1, 3, 7, 97, 98, 102, 103, 110, 114, 120, 126] [(1, (.pointer (some ⟨g172, 0, none⟩))), (3, (.pointer (some ⟨g176, 0, none⟩))), (7, (.int .i64 x1298)), (97, (.int .i64 p0.States)), (98, (.int .i64 x1298)), (102, (.int .i64 p0.Symbols)), (103, (.int .i64 x1420)), (110, (.pointer (some ⟨g176, 0, none⟩))), (114, (.slice A1417 l1419.length c1418)), (120, (.agg #[(.int .i64 t1431), (.int .i64 0), (.int .i64 x1420), (.int .i64 t1460)])), (126, (.agg #[(.int .i64 t1431), (.int .i64 t1465), (.int .i64 x1420), (.int .i64 0)]))] [] (fun fb => by kernel_rfl) rfl trivial ?_
              refine WL.new hS1469 127 [] (fun g => (.slice (some ⟨g, 0, none⟩) 2 2)) (.cells #[(.int .i64 t1431), (.int .i64 0), (.int .i64 x1420), (.int .i64 t1460), (.int .i64 t1431), (.int .i64 t1465), (.int .i64 x1420), (.int .i64 0)] 65 (0, 0)) [] (fun fb g => by kernel_rfl) trivial (fun g1470 w1471 hS1472 => ?_)
              refine ⟨⟨hS1472.cell 2 rfl 3 rfl, trivial⟩, ?_⟩
              have hS1474 : St NoS w w1471 [rowR enc_Action A_p0_Actions c_p0_Actions p0.Actions] [rowO 65 enc_Tile (some ⟨g1470, 0, none⟩) 2 [(Tile.mk t1431 0 x1420 t1460), (Tile.mk t1431 t1465 x1420 0)], blk g172 (.cells #[(.int .i64 p0.States), (.int .i64 p0.Symbols), (.slice A_p0_Actions p0.Actions.length c_p0_Actions)] 24 (0, 0)), blk g176 (.cells #[(.int .i64 p0.States), (.int .i64 p0.Symbols), (.slice A_p0_Actions p0.Actions.length c_p0_Actions), (.slice A1417 l1419.length c1418), (.slice A737 x740.2.length c738), (.int .i64 (x740.1.length : Int))] 96 (0, 0)), rowO 65 enc_Tile A1417 c1418 l1419, rowO 3 encInt A737 c738 x740.2] := hS1472.map1 0 _ (fun h => rowO.ofBlk h rfl (Nat.le_of_ble_eq_true (by kernel_rfl))) (fun _ h => by obtain ⟨_, h1, h2⟩ := h; injection h1 with h1; subst h1; exact h2) [1, 2, 3, 4] (by decide) (by decide)
              obtain ⟨h1475, hl1429⟩ := as_some hl1429
              refine WL.append hS1474 3 (d := 128) (tS := 50) (z := (.agg #[(.int .i64 0), (.int .i64 0), (.int .i64 0), (.int .i64 0)])) (bytes := 32) (c2 := 2) rfl (fun fb => by kernel_rfl) (rowO.rd (hS1474.own 0).1) (by kernel_rfl) (by kernel_rfl) rfl (by decide) h1475 (by decide) [0, 1, 2, 4] (by decide) (by decide) (fun A1476 c1477 w1478 hS1479 => ?_)
              refine ⟨trivial, ?_⟩
              refine seg 21 [] [1, 3, 7, 97, 98, 102, 103, 128, 130] [(1, (.pointer (some ⟨g172, 0, none⟩))), (3, (.pointer (some ⟨g176, 0, none⟩))), (7, (.int .i64 x1298)), (97, (.int .i64 p0.States)), (98, (.int .i64 x1298)), (102, (.int .i64 p0.Symbols)), (103, (.int .i64 x1420)), (128, (.slice A1476 (l1419 ++ [(Tile.mk t1431 0 x1420 t1460), (Tile.mk t1431 t1465 x1420 0)]).length c1477)), (130, (.pointer (some ⟨g176, 3, none⟩)))] [] (fun fb => by kernel_rfl) rfl trivial ?_
              refine WL.store hS1479 3 rfl [(3, (.slice A1476 (l1419 ++ [(Tile.mk t1431 0 x1420 t1460), (Tile.mk t1431 t1465 x1420 0)]).length c1477))] #[(.int .i64 p0.States), (.int .i64 p0.Symbols), (.slice A_p0_Actions p0.Actions.length c_p0_Actions), (.slice A1476 (l1419 ++ [(Tile.mk t1431 0 x1420 t1460), (Tile.mk t1431 t1465 x1420 0)]).length c1477), (.slice A737 x740.2.length c738), (.int .i64 (x740.1.length : Int))] (fun fb => by kernel_rfl) (by kernel_rfl) rfl [0, 1, 2, 4] (by decide) (by decide) (fun w1480 hS1481 => ?_)
              refine ⟨trivial, ?_⟩
              refine WL.done rfl ?_
              refine WX.blockN (WX.next ?_)
              refine WC.region ?_
              refine seg 2 [] [1, 3, 7, 97, 98, 102, 103] [(1, (.pointer (some ⟨g172, 0, none⟩))), (3, (.pointer (some ⟨g176, 0, none⟩))), (7, (.int .i64 x1298)), (97, (.int .i64 p0.States)), (98, (.int .i64 x1298)), (102, (.int .i64 p0.Symbols)), (103, (.int .i64 (w64 (x1420 + 1))))] [] (fun fb => by kernel_rfl) rfl trivial ?_
              refine WL.done rfl ?_
              exact WX.again k1426 (Nat.lt_succ_self _) ((l1419 ++ [(Tile.mk t1431 0 x1420 t1460), (Tile.mk t1431 t1465 x1420 0)], w64 (x1420 + 1)), A1476, c1477) [1, 3, 7, 97, 98, 102, 103] rfl ⟨(hS1481.subR [0]).sub [3, 0, 1, 4] (by decide), hl1429⟩
            refine WC.condF2 (fun fb => by kernel_rfl) h1430 ?_
            refine WC.exit ?_
            injection hl1429 with hl1429
            exact WX.thenX (WX.thenX (WX.blockHere (WX.to Kx1424 (l1419, A1417, c1418) [1, 3, 97, 98] rfl ⟨(hS1428.subR [0]).sub [0, 1, 2, 3] (by decide), hl1429.symm⟩)))
        rintro ⟨y1485, A1421, c1422⟩ w1482 ⟨hS1483, hq1484⟩
        subst hq1484
        refine WX.blockN (WX.next ?_)
        refine WC.region ?_
        refine seg 2 [] [1, 3, 97, 98] [(1, (.pointer (some ⟨g172, 0, none⟩))), (3, (.pointer (some ⟨g176, 0, none⟩))), (97, (.int .i64 p0.States)), (98, (.int .i64 (w64 (x1298 + 1))))] [] (fun fb => by kernel_rfl) rfl trivial ?_
        refine WL.done rfl ?_
        exact WX.again k1304 (Nat.lt_succ_self _) ((x1424, w64 (x1298 + 1)), A1421, c1422) [1, 3, 97, 98] rfl ⟨(hS1483.subR [0]).sub [0, 1, 2, 3] (by decide), hl1307⟩
      refine WC.condF2 (fun fb => by kernel_rfl) h1308 ?_
      refine WC.exit ?_
      injection hl1307 with hl1307
      exact WX.thenX (WX.thenX (WX.blockHere (WX.to Kx1302 (l1297, A1295, c1296) [3] rfl ⟨(hS1306.subR [0]).sub [1, 2, 3] (by decide), hl1307.symm⟩)))
  rintro ⟨y1489, A1299, c1300⟩ w1486 ⟨hS1487, hq1488⟩
  subst hq1488
  refine WX.next ?_
  refine WC.seq ?_
  refine WC.region ?_
  refine seg 2 [] [2] [(2, (.pointer (some ⟨g176, 0, none⟩)))] [] (fun fb => by kernel_rfl) rfl trivial ?_
  refine WL.done rfl ?_
  refine WX.next ?_
  refine WC.ret ?_
  injection hf with hf
  subst hf
  exact WX.ret_ [] (.pointer (some ⟨g176, 0, none⟩)) [] (fun fb => by kernel_rfl) trivial ⟨_, rfl, g176, A1299, c1300, A737, c738, rfl, (hS1487.sub [0, 1, 2] (by decide)).noR⟩
theorem machine_Tiles_calls (k : Nat) (p0 : Machine) (A_p0_Actions : Option Addr) (c_p0_Actions : Nat) (r : (List Tile) × Int) (w : World) (hR0 : RO NoS w (rowR enc_Action A_p0_Actions c_p0_Actions p0.Actions)) (hf : machine_Tiles k p0 = some r) :
    CallsR Try.prog 25 #[(.agg #[(.int .i64 p0.States), (.int .i64 p0.Symbols), (.slice A_p0_Actions p0.Actions.length c_p0_Actions)])] w (fun v w' => ∃ (A1_ : Option Addr), ∃ (c1_ : Nat), v = (.tuple #[(.slice A1_ r.1.length c1_), (.int .i64 r.2)]) ∧ St NoS w w' [] [rowO 65 enc_Tile A1_ c1_ r.1]) := by
  have hS : St NoS w w [rowR enc_Action A_p0_Actions c_p0_Actions p0.Actions] [] := St.init (ro_cons hR0 (ro_nil _ _))
  refine enter 12 Try.func25 rfl Try.ntmps25 rfl ?_
  unfold machine_Tiles at hf
  refine WC.seq ?_
  refine WC.region ?_
  refine WL.new hS 1 [] (fun g => (.pointer (some ⟨g, 0, none⟩))) (.cells #[(.int .i64 p0.States), (.int .i64 p0.Symbols), (.slice A_p0_Actions p0.Actions.length c_p0_Actions)] 24 (0, 0)) [] (fun fb g => by kernel_rfl) trivial (fun g58 w59 hS60 => ?_)
  refine ⟨trivial, ?_⟩
  refine seg 3 [] [1] [(1, (.pointer (some ⟨g58, 0, none⟩)))] [] (fun fb => by kernel_rfl) rfl trivial ?_
  refine WL.done rfl ?_
  refine WX.next ?_
  refine WC.seq ?_
  refine WC.seq ?_
  refine WC.region ?_
  refine seg 1 [.v (.int .i64 p0.States), .v (.int .i64 p0.Symbols), .v (.slice A_p0_Actions p0.Actions.length c_p0_Actions)] [1, 4] [(1, (.pointer (some ⟨g58, 0, none⟩))), (4, (.agg #[(.int .i64 p0.States), (.int .i64 p0.Symbols), (.slice A_p0_Actions p0.Actions.length c_p0_Actions)]))] [.cell ⟨g58, 0, none⟩ (.int .i64 p0.States), .cell ⟨g58, 1, none⟩ (.int .i64 p0.Symbols), .cell ⟨g58, 2, none⟩ (.slice A_p0_Actions p0.Actions.length c_p0_Actions)] (fun fb => by kernel_rfl) rfl ⟨hS60.cell 0 rfl 0 rfl, hS60.cell 0 rfl 1 rfl, hS60.cell 0 rfl 2 rfl, trivial⟩ ?_
  obtain ⟨t165, ht166, hf⟩ := bind_some hf
  refine WL.call (some 5) 16 #[(.agg #[(.int .i64 p0.States), (.int .i64 p0.Symbols), (.slice A_p0_Actions p0.Actions.length c_p0_Actions)])] (fun fb => by kernel_rfl) (machine_Valid_calls _ p0 A_p0_Actions c_p0_Actions t165 _ (hS60.rd 0) ht166) (fun v w167 hR168 => ?_)
  obtain ⟨rfl, hk_⟩ := hR168
  have hS169 := hS60.keepN hk_
  refine ⟨trivial, ?_⟩
  refine seg 3 [] [1, 6] [(1, (.pointer (some ⟨g58, 0, none⟩))), (6, (.bool (!t165)))] [] (fun fb => by kernel_rfl) rfl trivial ?_
  refine WL.done rfl ?_
  refine WX.next ?_
  rcases br_some hf with ⟨h170, hf⟩ | ⟨h170, hf⟩
  · refine WC.condT2 (fun fb => by kernel_rfl) h170 ?_
    refine WC.seq ?_
    refine WC.region ?_
    refine seg 2 [] [2, 3] [(2, (.slice none 0 0)), (3, (.int .i64 1))] [] (fun fb => by kernel_rfl) rfl trivial ?_
    refine WL.done rfl ?_
    refine WX.next ?_
    refine WC.ret ?_
    have hS171 := hS169.nilrow 65 enc_Tile
    injection hf with hf
    subst hf
    exact WX.thenR (WX.ret_ [] (.tuple #[(.slice none ([] : List Tile).length 0), (.int .i64 1)]) [] (fun fb => by kernel_rfl) trivial ⟨_, rfl, none, 0, rfl, (hS171.sub [0] (by decide)).noR⟩)
  refine WC.condF2 (fun fb => by kernel_rfl) h170 ?_
  refine WC.skip ?_
  refine WX.next ?_
  refine WC.seq ?_
  refine WC.region ?_
  refine seg 1 [.v (.int .i64 p0.States), .v (.int .i64 p0.Symbols), .v (.slice A_p0_Actions p0.Actions.length c_p0_Actions)] [7] [(7, (.agg #[(.int .i64 p0.States), (.int .i64 p0.Symbols), (.slice A_p0_Actions p0.Actions.length c_p0_Actions)]))] [.cell ⟨g58, 0, none⟩ (.int .i64 p0.States), .cell ⟨g58, 1, none⟩ (.int .i64 p0.Symbols), .cell ⟨g58, 2, none⟩ (.slice A_p0_Actions p0.Actions.length c_p0_Actions)] (fun fb => by kernel_rfl) rfl ⟨hS169.cell 0 rfl 0 rfl, hS169.cell 0 rfl 1 rfl, hS169.cell 0 rfl 2 rfl, trivial⟩ ?_
  obtain ⟨t1490, ht1491, hf⟩ := bind_some hf
  refine WL.call (some 8) 41 #[(.agg #[(.int .i64 p0.States), (.int .i64 p0.Symbols), (.slice A_p0_Actions p0.Actions.length c_p0_Actions)])] (fun fb => by kernel_rfl) (machine_kitOf_calls _ p0 A_p0_Actions c_p0_Actions t1490 _ (hS169.rd 0) ht1491) (fun v w1492 hR1493 => ?_)
  obtain ⟨g1495, A1496, c1497, A1498, c1499, rfl, hk_⟩ := hR1493
  have hS1494 : St NoS w w1492 [rowR enc_Action A_p0_Actions c_p0_Actions p0.Actions] [blk g1495 (.cells #[(.int .i64 t1490.m.States), (.int .i64 t1490.m.Symbols), (.slice A_p0_Actions p0.Actions.length c_p0_Actions), (.slice A1496 t1490.set.length c1497), (.slice A1498 t1490.does.length c1499), (.int .i64 t1490.base)] 96 (0, 0)), rowO 65 enc_Tile A1496 c1497 t1490.set, rowO 3 encInt A1498 c1499 t1490.does, blk g58 (.cells #[(.int .i64 p0.States), (.int .i64 p0.Symbols), (.slice A_p0_Actions p0.Actions.length c_p0_Actions)] 24 (0, 0))] := hS169.call hk_ [] [0] (fun g hg => hg.elim) (by simp) (by decide)
  refine ⟨trivial, ?_⟩
  refine seg 7 [.v (.slice A1496 t1490.set.length c1497)] [2, 3] [(2, (.slice A1496 t1490.set.length c1497)), (3, (.int .i64 0))] [.cell ⟨g1495, 3, none⟩ (.slice A1496 t1490.set.length c1497)] (fun fb => by kernel_rfl) rfl ⟨hS1494.cell 0 rfl 3 rfl, trivial⟩ ?_
  refine WL.done rfl ?_
  refine WX.next ?_
  refine WC.ret ?_
  injection hf with hf
  subst hf
  exact WX.ret_ [] (.tuple #[(.slice A1496 t1490.set.length c1497), (.int .i64 0)]) [] (fun fb => by kernel_rfl) trivial ⟨_, rfl, A1496, c1497, rfl, (hS1494.sub [1] (by decide)).noR⟩
theorem machine_Fits_1_calls (p0 : Int) (f0 : Machine) (g_f0 : Nat) (A_f0_Actions : Option Addr) (c_f0_Actions : Nat) (r : Bool) (w : World) (hR0 : RO NoS w (blk g_f0 (.cells #[(.int .i64 f0.States), (.int .i64 f0.Symbols), (.slice A_f0_Actions f0.Actions.length c_f0_Actions)] 24 (0, 0)))) (hR1 : RO NoS w (rowR enc_Action A_f0_Actions c_f0_Actions f0.Actions)) (hf : machine_Fits_1 p0 f0 = some r) :
    CallsR Try.prog 50 #[(.int .i64 p0), (.pointer (some ⟨g_f0, 0, none⟩))] w (fun v w' => v = (.bool r) ∧ Keeps NoS w w') := by
  have hS : St NoS w w [blk g_f0 (.cells #[(.int .i64 f0.States), (.int .i64 f0.Symbols), (.slice A_f0_Actions f0.Actions.length c_f0_Actions)] 24 (0, 0)), rowR enc_Action A_f0_Actions c_f0_Actions f0.Actions] [] := St.init (ro_cons hR0 (ro_cons hR1 (ro_nil _ _)))
  refine enter 12 Try.func50 rfl Try.ntmps50 rfl ?_
  unfold machine_Fits_1 at hf
  refine WC.seq ?_
  refine WC.region ?_
  refine seg 1 [] [0, 1] [(0, (.int .i64 p0)), (1, (.pointer (some ⟨g_f0, 0, none⟩)))] [] (fun fb => by kernel_rfl) rfl trivial ?_
  refine WL.done rfl ?_
  refine WX.next ?_
  refine WC.seq ?_
  refine WC.region ?_
  refine seg 3 [] [0, 1, 6] [(0, (.int .i64 p0)), (1, (.pointer (some ⟨g_f0, 0, none⟩))), (6, (.bool (decide (p0 < 0))))] [] (fun fb => by kernel_rfl) rfl trivial ?_
  refine WL.cutV (T := Bool) 8 (fun t => [(11, (.bool t))]) (fun t => t = ((decide (p0 < 0)) || (decide (p0 ≥ f0.Symbols)))) (fun K => ?_) ?_
  ·
    rcases Bool.eq_false_or_eq_true (decide (p0 < 0)) with h1558 | h1558
    ·
      refine WL.setB 6 h1558 rfl ?_
      refine seg 8 [] [11] [(11, (.bool true))] [] (fun fb => by kernel_rfl) rfl trivial ?_
      exact WL.toV K true [11] rfl (by rw [h1558]; rfl)
    refine WL.setB 6 h1558 rfl ?_
    refine seg 8 [.v (.int .i64 f0.Symbols)] [11] [(11, (.bool (decide (p0 ≥ f0.Symbols))))] [.cell ⟨g_f0, 1, none⟩ (.int .i64 f0.Symbols)] (fun fb => by kernel_rfl) rfl ⟨blk_cell (hS.rd 0).1 1 rfl, trivial⟩ ?_
    exact WL.toV K (decide (p0 ≥ f0.Symbols)) [11] rfl (by rw [h1558]; rfl)
  rintro b1559 rfl
  refine seg 9 [] [3] [(3, (.bool ((decide (p0 < 0)) || (decide (p0 ≥ f0.Symbols)))))] [] (fun fb => by kernel_rfl) rfl trivial ?_
  refine WL.done rfl ?_
  refine WX.next ?_
  refine WC.ret ?_
  injection hf with hf
  subst hf
  exact WX.ret_ [] (.bool ((decide (p0 < 0)) || (decide (p0 ≥ f0.Symbols)))) [] (fun fb => by kernel_rfl) trivial ⟨_, rfl, rfl, hS.keep⟩
theorem slices_IndexFunc_int_int_with_machine_Fits_1_calls (k : Nat) (p0 : List Int) (p1_0 : Machine) (A_p0 : Option Addr) (c_p0 : Nat) (g_p1_0 : Nat) (A_p1_0_Actions : Option Addr) (c_p1_0_Actions : Nat) (r : Int) (w : World) (hR0 : RO NoS w (rowR encInt A_p0 c_p0 p0)) (hR1 : RO NoS w (blk g_p1_0 (.cells #[(.int .i64 p1_0.States), (.int .i64 p1_0.Symbols), (.slice A_p1_0_Actions p1_0.Actions.length c_p1_0_Actions)] 24 (0, 0)))) (hR2 : RO NoS w (rowR enc_Action A_p1_0_Actions c_p1_0_Actions p1_0.Actions)) (hf : slices_IndexFunc_int_int_with_machine_Fits_1 k p0 p1_0 = some r) :
    CallsR Try.prog 65 #[(.slice A_p0 p0.length c_p0), (.func (.func 50) #[] #[(.pointer (some ⟨g_p1_0, 0, none⟩))])] w (fun v w' => v = (.int .i64 r) ∧ Keeps NoS w w') := by
  have hS : St NoS w w [rowR encInt A_p0 c_p0 p0, blk g_p1_0 (.cells #[(.int .i64 p1_0.States), (.int .i64 p1_0.Symbols), (.slice A_p1_0_Actions p1_0.Actions.length c_p1_0_Actions)] 24 (0, 0)), rowR enc_Action A_p1_0_Actions c_p1_0_Actions p1_0.Actions] [] := St.init (ro_cons hR0 (ro_cons hR1 (ro_cons hR2 (ro_nil _ _))))
  refine enter 19 Try.func65 rfl Try.ntmps65 rfl ?_
  unfold slices_IndexFunc_int_int_with_machine_Fits_1 at hf
  refine WC.seq ?_
  refine WC.region ?_
  refine seg 1 [] [0, 1] [(0, (.slice A_p0 p0.length c_p0)), (1, (.func (.func 50) #[] #[(.pointer (some ⟨g_p1_0, 0, none⟩))]))] [] (fun fb => by kernel_rfl) rfl trivial ?_
  refine WL.done rfl ?_
  refine WX.next ?_
  refine WC.seq ?_
  refine WC.seq ?_
  refine WC.region ?_
  refine seg 3 [] [0, 1, 7, 8] [(0, (.slice A_p0 p0.length c_p0)), (1, (.func (.func 50) #[] #[(.pointer (some ⟨g_p1_0, 0, none⟩))])), (7, (.int .i64 (p0.length : Int))), (8, (.int .i64 0))] [] (fun fb => by kernel_rfl) rfl trivial ?_
  refine WL.done rfl ?_
  refine WX.next ?_
  obtain ⟨x1576, hx1577, hf⟩ := bind_some hf
  refine WC.cutN (T := Unit) (fun t => []) (fun t w1 => St NoS w w1 [rowR encInt A_p0 c_p0 p0, blk g_p1_0 (.cells #[(.int .i64 p1_0.States), (.int .i64 p1_0.Symbols), (.slice A_p1_0_Actions p1_0.Actions.length c_p1_0_Actions)] 24 (0, 0)), rowR enc_Action A_p1_0_Actions c_p1_0_Actions p1_0.Actions] [] ∧ x1576 = .inr t) (fun Kx1576 => ?_) ?_
  ·
    refine WC.block ?_
    refine WC.loop (T := Int) (fun t => [(0, (.slice A_p0 p0.length c_p0)), (1, (.func (.func 50) #[] #[(.pointer (some ⟨g_p1_0, 0, none⟩))])), (7, (.int .i64 (p0.length : Int))), (8, (.int .i64 t))]) (fun n t w1 => St NoS w w1 [rowR encInt A_p0 c_p0 p0, blk g_p1_0 (.cells #[(.int .i64 p1_0.States), (.int .i64 p1_0.Symbols), (.slice A_p1_0_Actions p1_0.Actions.length c_p1_0_Actions)] 24 (0, 0)), rowR enc_Action A_p1_0_Actions c_p1_0_Actions p1_0.Actions] [] ∧ slices_IndexFunc_int_int_with_machine_Fits_1.l0 n t p0 p1_0 = some x1576) k 0 [0, 1, 7, 8] rfl ⟨(hS.subR [0, 1, 2]).sub [] (by decide), hx1577⟩ ?_
    rintro k1578 x1575 w1579 ⟨hS1580, hl1581⟩
    cases k1578 with
    | zero => rw [slices_IndexFunc_int_int_with_machine_Fits_1.l0] at hl1581; cases hl1581
    | succ k1578 =>
      rw [slices_IndexFunc_int_int_with_machine_Fits_1.l0] at hl1581
      refine WC.seq ?_
      refine WC.region ?_
      refine seg 1 [] [0, 1, 7, 8, 9] [(0, (.slice A_p0 p0.length c_p0)), (1, (.func (.func 50) #[] #[(.pointer (some ⟨g_p1_0, 0, none⟩))])), (7, (.int .i64 (p0.length : Int))), (8, (.int .i64 x1575)), (9, (.bool (decide (x1575 < (p0.length : Int)))))] [] (fun fb => by kernel_rfl) rfl trivial ?_
      refine WL.done rfl ?_
      refine WX.next ?_
      refine WC.seq ?_
      rcases br_some hl1581 with ⟨h1582, hl1581⟩ | ⟨h1582, hl1581⟩
      · refine WC.condT2 (fun fb => by kernel_rfl) h1582 ?_
        refine WC.skip ?_
        refine WX.next ?_
        refine WC.seq ?_
        refine WC.block ?_
        refine WC.seq ?_
        refine WC.region ?_
        refine seg 2 [] [0, 1, 5, 7, 8] [(0, (.slice A_p0 p0.length c_p0)), (1, (.func (.func 50) #[] #[(.pointer (some ⟨g_p1_0, 0, none⟩))])), (5, (.int .i64 x1575)), (7, (.int .i64 (p0.length : Int))), (8, (.int .i64 x1575))] [] (fun fb => by kernel_rfl) rfl trivial ?_
        refine WL.done rfl ?_
        refine WX.next ?_
        refine WC.seq ?_
        refine WC.region ?_
        refine seg 3 [] [0, 1, 5, 7, 8, 11, 12, 13] [(0, (.slice A_p0 p0.length c_p0)), (1, (.func (.func 50) #[] #[(.pointer (some ⟨g_p1_0, 0, none⟩))])), (5, (.int .i64 x1575)), (7, (.int .i64 (p0.length : Int))), (8, (.int .i64 x1575)), (11, (.func (.func 50) #[] #[(.pointer (some ⟨g_p1_0, 0, none⟩))])), (12, (.slice A_p0 p0.length c_p0)), (13, (.int .i64 x1575))] [] (fun fb => by kernel_rfl) rfl trivial ?_
        obtain ⟨h1583, hl1581⟩ := as_some hl1581
        refine seg 5 [.v (.int .i64 (rdD p0 x1575 0))] [0, 1, 5, 7, 8, 11, 15] [(0, (.slice A_p0 p0.length c_p0)), (1, (.func (.func 50) #[] #[(.pointer (some ⟨g_p1_0, 0, none⟩))])), (5, (.int .i64 x1575)), (7, (.int .i64 (p0.length : Int))), (8, (.int .i64 x1575)), (11, (.func (.func 50) #[] #[(.pointer (some ⟨g_p1_0, 0, none⟩))])), (15, (.int .i64 (rdD p0 x1575 0)))] [.idx A_p0 x1575 p0.length, .cell ((adr A_p0).add ((x1575).toNat * 1)) (.int .i64 (rdD p0 x1575 0))] (fun fb => by kernel_rfl) rfl ⟨rowR.adr (hS1580.rd 0).1 h1583.1 h1583.2, rowR.cell (hS1580.rd 0).1 0 h1583.1 h1583.2 0 rfl, trivial⟩ ?_
        obtain ⟨t1584, ht1585, hl1581⟩ := bind_some hl1581
        refine WL.call (some 16) 50 #[(.int .i64 (rdD p0 x1575 0)), (.pointer (some ⟨g_p1_0, 0, none⟩))] (fun fb => by kernel_rfl) (machine_Fits_1_calls (rdD p0 x1575 0) p1_0 g_p1_0 A_p1_0_Actions c_p1_0_Actions t1584 _ (hS1580.rd 1) (hS1580.rd 2) ht1585) (fun v w1586 hR1587 => ?_)
        obtain ⟨rfl, hk_⟩ := hR1587
        have hS1588 := hS1580.keepN hk_
        refine ⟨trivial, ?_⟩
        refine WL.done rfl ?_
        refine WX.next ?_
        rcases br_some hl1581 with ⟨h1589, hl1581⟩ | ⟨h1589, hl1581⟩
        · refine WC.condT2 (fun fb => by kernel_rfl) h1589 ?_
          refine WC.seq ?_
          refine WC.region ?_
          refine seg 2 [] [4] [(4, (.int .i64 x1575))] [] (fun fb => by kernel_rfl) rfl trivial ?_
          refine WL.done rfl ?_
          refine WX.next ?_
          refine WC.ret ?_
          injection hl1581 with hl1581
          subst hl1581
          injection hf with hf
          subst hf
          exact WX.blockR (WX.thenR (WX.thenR (WX.blockR (WX.thenR (WX.ret_ [] (.int .i64 x1575) [] (fun fb => by kernel_rfl) trivial ⟨_, rfl, rfl, hS1588.keep⟩)))))
        refine WC.condF2 (fun fb => by kernel_rfl) h1589 ?_
        refine WC.skip ?_
        refine WX.blockN (WX.next ?_)
        refine WC.region ?_
        refine seg 2 [] [0, 1, 7, 8] [(0, (.slice A_p0 p0.length c_p0)), (1, (.func (.func 50) #[] #[(.pointer (some ⟨g_p1_0, 0, none⟩))])), (7, (.int .i64 (p0.length : Int))), (8, (.int .i64 (w64 (x1575 + 1))))] [] (fun fb => by kernel_rfl) rfl trivial ?_
        refine WL.done rfl ?_
        exact WX.again k1578 (Nat.lt_succ_self _) (w64 (x1575 + 1)) [0, 1, 7, 8] rfl ⟨(hS1588.subR [0, 1, 2]).sub [] (by decide), hl1581⟩
      refine WC.condF2 (fun fb => by kernel_rfl) h1582 ?_
      refine WC.exit ?_
      injection hl1581 with hl1581
      exact WX.thenX (WX.thenX (WX.blockHere (WX.to Kx1576 () [] rfl ⟨(hS1580.subR [0, 1, 2]).sub [] (by decide), hl1581.symm⟩)))
  rintro y1593 w1590 ⟨hS1591, hq1592⟩
  subst hq1592
  have hf := sum_inr hf
  refine WX.next ?_
  refine WC.seq ?_
  refine WC.region ?_
  refine seg 1 [] [4] [(4, (.int .i64 (-1)))] [] (fun fb => by kernel_rfl) rfl trivial ?_
  refine WL.done rfl ?_
  refine WX.next ?_
  refine WC.ret ?_
  injection hf with hf
  subst hf
  exact WX.ret_ [] (.int .i64 (-1)) [] (fun fb => by kernel_rfl) trivial ⟨_, rfl, rfl, hS1591.keep⟩
theorem slices_ContainsFunc_int_int_with_machine_Fits_1_calls (k : Nat) (p0 : List Int) (p1_0 : Machine) (A_p0 : Option Addr) (c_p0 : Nat) (g_p1_0 : Nat) (A_p1_0_Actions : Option Addr) (c_p1_0_Actions : Nat) (r : Bool) (w : World) (hR0 : RO NoS w (rowR encInt A_p0 c_p0 p0)) (hR1 : RO NoS w (blk g_p1_0 (.cells #[(.int .i64 p1_0.States), (.int .i64 p1_0.Symbols), (.slice A_p1_0_Actions p1_0.Actions.length c_p1_0_Actions)] 24 (0, 0)))) (hR2 : RO NoS w (rowR enc_Action A_p1_0_Actions c_p1_0_Actions p1_0.Actions)) (hf : slices_ContainsFunc_int_int_with_machine_Fits_1 k p0 p1_0 = some r) :
    CallsR Try.prog 49 #[(.slice A_p0 p0.length c_p0), (.func (.func 50) #[] #[(.pointer (some ⟨g_p1_0, 0, none⟩))])] w (fun v w' => v = (.bool r) ∧ Keeps NoS w w') := by
  have hS : St NoS w w [rowR encInt A_p0 c_p0 p0, blk g_p1_0 (.cells #[(.int .i64 p1_0.States), (.int .i64 p1_0.Symbols), (.slice A_p1_0_Actions p1_0.Actions.length c_p1_0_Actions)] 24 (0, 0)), rowR enc_Action A_p1_0_Actions c_p1_0_Actions p1_0.Actions] [] := St.init (ro_cons hR0 (ro_cons hR1 (ro_cons hR2 (ro_nil _ _))))
  refine enter 9 Try.func49 rfl Try.ntmps49 rfl ?_
  unfold slices_ContainsFunc_int_int_with_machine_Fits_1 at hf
  refine WC.seq ?_
  refine WC.region ?_
  refine seg 1 [] [0, 1] [(0, (.slice A_p0 p0.length c_p0)), (1, (.func (.func 50) #[] #[(.pointer (some ⟨g_p1_0, 0, none⟩))]))] [] (fun fb => by kernel_rfl) rfl trivial ?_
  refine WL.done rfl ?_
  refine WX.next ?_
  refine WC.seq ?_
  refine WC.region ?_
  refine seg 2 [] [5, 6] [(5, (.slice A_p0 p0.length c_p0)), (6, (.func (.func 50) #[] #[(.pointer (some ⟨g_p1_0, 0, none⟩))]))] [] (fun fb => by kernel_rfl) rfl trivial ?_
  obtain ⟨t1595, ht1596, hf⟩ := bind_some hf
  refine WL.call (some 7) 65 #[(.slice A_p0 p0.length c_p0), (.func (.func 50) #[] #[(.pointer (some ⟨g_p1_0, 0, none⟩))])] (fun fb => by kernel_rfl) (slices_IndexFunc_int_int_with_machine_Fits_1_calls _ p0 p1_0 A_p0 c_p0 g_p1_0 A_p1_0_Actions c_p1_0_Actions t1595 _ (hS.rd 0) (hS.rd 1) (hS.rd 2) ht1596) (fun v w1597 hR1598 => ?_)
  obtain ⟨rfl, hk_⟩ := hR1598
  have hS1599 := hS.keepN hk_
  refine ⟨trivial, ?_⟩
  refine seg 5 [] [4] [(4, (.bool (decide (t1595 ≥ 0))))] [] (fun fb => by kernel_rfl) rfl trivial ?_
  refine WL.done rfl ?_
  refine WX.next ?_
  refine WC.ret ?_
  injection hf with hf
  subst hf
  exact WX.ret_ [] (.bool (decide (t1595 ≥ 0))) [] (fun fb => by kernel_rfl) trivial ⟨_, rfl, rfl, hS1599.keep⟩
theorem machine_Fits_calls (k : Nat) (p0 : Machine) (p1 : Config) (A_p0_Actions : Option Addr) (c_p0_Actions : Nat) (A_p1_Cells : Option Addr) (c_p1_Cells : Nat) (r : Bool) (w : World) (hR0 : RO NoS w (rowR enc_Action A_p0_Actions c_p0_Actions p0.Actions)) (hR1 : RO NoS w (rowR encInt A_p1_Cells c_p1_Cells p1.Cells)) (hf : machine_Fits k p0 p1 = some r) :
    CallsR Try.prog 18 #[(.agg #[(.int .i64 p0.States), (.int .i64 p0.Symbols), (.slice A_p0_Actions p0.Actions.length c_p0_Actions)]), (.agg #[(.int .i64 p1.State), (.int .i64 p1.At), (.slice A_p1_Cells p1.Cells.length c_p1_Cells)])] w (fun v w' => v = (.bool r) ∧ Keeps NoS w w') := by
  have hS : St NoS w w [rowR enc_Action A_p0_Actions c_p0_Actions p0.Actions, rowR encInt A_p1_Cells c_p1_Cells p1.Cells] [] := St.init (ro_cons hR0 (ro_cons hR1 (ro_nil _ _)))
  refine enter 51 Try.func18 rfl Try.ntmps18 rfl ?_
  unfold machine_Fits at hf
  refine WC.seq ?_
  refine WC.region ?_
  refine WL.new hS 2 [] (fun g => (.pointer (some ⟨g, 0, none⟩))) (.cells #[(.int .i64 p0.States), (.int .i64 p0.Symbols), (.slice A_p0_Actions p0.Actions.length c_p0_Actions)] 24 (0, 0)) [] (fun fb g => by kernel_rfl) trivial (fun g1531 w1532 hS1533 => ?_)
  refine ⟨trivial, ?_⟩
  refine WL.new hS1533 3 [] (fun g => (.pointer (some ⟨g, 0, none⟩))) (.cells #[(.int .i64 p1.State), (.int .i64 p1.At), (.slice A_p1_Cells p1.Cells.length c_p1_Cells)] 27 (0, 0)) [] (fun fb g => by kernel_rfl) trivial (fun g1535 w1536 hS1537 => ?_)
  refine ⟨trivial, ?_⟩
  refine seg 3 [] [2, 3] [(2, (.pointer (some ⟨g1531, 0, none⟩))), (3, (.pointer (some ⟨g1535, 0, none⟩)))] [] (fun fb => by kernel_rfl) rfl trivial ?_
  refine WL.done rfl ?_
  refine WX.next ?_
  refine WC.seq ?_
  refine WC.region ?_
  refine seg 1 [.v (.int .i64 p0.States), .v (.int .i64 p0.Symbols), .v (.slice A_p0_Actions p0.Actions.length c_p0_Actions)] [2, 3, 5] [(2, (.pointer (some ⟨g1531, 0, none⟩))), (3, (.pointer (some ⟨g1535, 0, none⟩))), (5, (.agg #[(.int .i64 p0.States), (.int .i64 p0.Symbols), (.slice A_p0_Actions p0.Actions.length c_p0_Actions)]))] [.cell ⟨g1531, 0, none⟩ (.int .i64 p0.States), .cell ⟨g1531, 1, none⟩ (.int .i64 p0.Symbols), .cell ⟨g1531, 2, none⟩ (.slice A_p0_Actions p0.Actions.length c_p0_Actions)] (fun fb => by kernel_rfl) rfl ⟨hS1537.cell 1 rfl 0 rfl, hS1537.cell 1 rfl 1 rfl, hS1537.cell 1 rfl 2 rfl, trivial⟩ ?_
  obtain ⟨t1539, ht1540, hf⟩ := bind_some hf
  refine WL.call (some 6) 16 #[(.agg #[(.int .i64 p0.States), (.int .i64 p0.Symbols), (.slice A_p0_Actions p0.Actions.length c_p0_Actions)])] (fun fb => by kernel_rfl) (machine_Valid_calls _ p0 A_p0_Actions c_p0_Actions t1539 _ (hS1537.rd 0) ht1540) (fun v w1541 hR1542 => ?_)
  obtain ⟨rfl, hk_⟩ := hR1542
  have hS1543 := hS1537.keepN hk_
  refine ⟨trivial, ?_⟩
  refine seg 3 [] [2, 3, 7] [(2, (.pointer (some ⟨g1531, 0, none⟩))), (3, (.pointer (some ⟨g1535, 0, none⟩))), (7, (.bool t1539))] [] (fun fb => by kernel_rfl) rfl trivial ?_
  refine WL.cutV (T := Bool) 7 (fun t => [(11, (.bool t)), (2, (.pointer (some ⟨g1531, 0, none⟩))), (3, (.pointer (some ⟨g1535, 0, none⟩)))]) (fun t => t = (t1539 && (decide (p1.State ≥ 0)))) (fun K => ?_) ?_
  ·
    rcases Bool.eq_false_or_eq_true t1539 with h1544 | h1544
    ·
      refine WL.setB 7 h1544 rfl ?_
      refine seg 7 [.v (.int .i64 p1.State)] [2, 3, 11] [(2, (.pointer (some ⟨g1531, 0, none⟩))), (3, (.pointer (some ⟨g1535, 0, none⟩))), (11, (.bool (decide (p1.State ≥ 0))))] [.cell ⟨g1535, 0, none⟩ (.int .i64 p1.State)] (fun fb => by kernel_rfl) rfl ⟨hS1543.cell 0 rfl 0 rfl, trivial⟩ ?_
      exact WL.toV K (decide (p1.State ≥ 0)) [11, 2, 3] rfl (by rw [h1544]; rfl)
    refine WL.setB 7 h1544 rfl ?_
    refine seg 7 [] [2, 3, 11] [(2, (.pointer (some ⟨g1531, 0, none⟩))), (3, (.pointer (some ⟨g1535, 0, none⟩))), (11, (.bool false))] [] (fun fb => by kernel_rfl) rfl trivial ?_
    exact WL.toV K false [11, 2, 3] rfl (by rw [h1544]; rfl)
  rintro b1545 rfl
  refine seg 8 [] [2, 3, 12] [(2, (.pointer (some ⟨g1531, 0, none⟩))), (3, (.pointer (some ⟨g1535, 0, none⟩))), (12, (.bool (t1539 && (decide (p1.State ≥ 0)))))] [] (fun fb => by kernel_rfl) rfl trivial ?_
  refine WL.cutV (T := Bool) 14 (fun t => [(18, (.bool t)), (2, (.pointer (some ⟨g1531, 0, none⟩))), (3, (.pointer (some ⟨g1535, 0, none⟩)))]) (fun t => t = ((t1539 && (decide (p1.State ≥ 0))) && (decide (p1.State < p0.States)))) (fun K => ?_) ?_
  ·
    rcases Bool.eq_false_or_eq_true (t1539 && (decide (p1.State ≥ 0))) with h1546 | h1546
    ·
      refine WL.setB 12 h1546 rfl ?_
      refine seg 14 [.v (.int .i64 p1.State), .v (.int .i64 p0.States)] [2, 3, 18] [(2, (.pointer (some ⟨g1531, 0, none⟩))), (3, (.pointer (some ⟨g1535, 0, none⟩))), (18, (.bool (decide (p1.State < p0.States))))] [.cell ⟨g1535, 0, none⟩ (.int .i64 p1.State), .cell ⟨g1531, 0, none⟩ (.int .i64 p0.States)] (fun fb => by kernel_rfl) rfl ⟨hS1543.cell 0 rfl 0 rfl, hS1543.cell 1 rfl 0 rfl, trivial⟩ ?_
      exact WL.toV K (decide (p1.State < p0.States)) [18, 2, 3] rfl (by rw [h1546]; rfl)
    refine WL.setB 12 h1546 rfl ?_
    refine seg 14 [] [2, 3, 18] [(2, (.pointer (some ⟨g1531, 0, none⟩))), (3, (.pointer (some ⟨g1535, 0, none⟩))), (18, (.bool false))] [] (fun fb => by kernel_rfl) rfl trivial ?_
    exact WL.toV K false [18, 2, 3] rfl (by rw [h1546]; rfl)
  rintro b1547 rfl
  refine seg 15 [] [2, 3, 19] [(2, (.pointer (some ⟨g1531, 0, none⟩))), (3, (.pointer (some ⟨g1535, 0, none⟩))), (19, (.bool ((t1539 && (decide (p1.State ≥ 0))) && (decide (p1.State < p0.States)))))] [] (fun fb => by kernel_rfl) rfl trivial ?_
  refine WL.cutV (T := Bool) 20 (fun t => [(24, (.bool t)), (2, (.pointer (some ⟨g1531, 0, none⟩))), (3, (.pointer (some ⟨g1535, 0, none⟩)))]) (fun t => t = (((t1539 && (decide (p1.State ≥ 0))) && (decide (p1.State < p0.States))) && (decide ((p1.Cells.length : Int) ≥ 1)))) (fun K => ?_) ?_
  ·
    rcases Bool.eq_false_or_eq_true ((t1539 && (decide (p1.State ≥ 0))) && (decide (p1.State < p0.States))) with h1548 | h1548
    ·
      refine WL.setB 19 h1548 rfl ?_
      refine seg 20 [.v (.slice A_p1_Cells p1.Cells.length c_p1_Cells)] [2, 3, 24] [(2, (.pointer (some ⟨g1531, 0, none⟩))), (3, (.pointer (some ⟨g1535, 0, none⟩))), (24, (.bool (decide ((p1.Cells.length : Int) ≥ 1))))] [.cell ⟨g1535, 2, none⟩ (.slice A_p1_Cells p1.Cells.length c_p1_Cells)] (fun fb => by kernel_rfl) rfl ⟨hS1543.cell 0 rfl 2 rfl, trivial⟩ ?_
      exact WL.toV K (decide ((p1.Cells.length : Int) ≥ 1)) [24, 2, 3] rfl (by rw [h1548]; rfl)
    refine WL.setB 19 h1548 rfl ?_
    refine seg 20 [] [2, 3, 24] [(2, (.pointer (some ⟨g1531, 0, none⟩))), (3, (.pointer (some ⟨g1535, 0, none⟩))), (24, (.bool false))] [] (fun fb => by kernel_rfl) rfl trivial ?_
    exact WL.toV K false [24, 2, 3] rfl (by rw [h1548]; rfl)
  rintro b1549 rfl
  refine seg 21 [] [2, 3, 25] [(2, (.pointer (some ⟨g1531, 0, none⟩))), (3, (.pointer (some ⟨g1535, 0, none⟩))), (25, (.bool (((t1539 && (decide (p1.State ≥ 0))) && (decide (p1.State < p0.States))) && (decide ((p1.Cells.length : Int) ≥ 1)))))] [] (fun fb => by kernel_rfl) rfl trivial ?_
  refine WL.cutV (T := Bool) 26 (fun t => [(30, (.bool t)), (2, (.pointer (some ⟨g1531, 0, none⟩))), (3, (.pointer (some ⟨g1535, 0, none⟩)))]) (fun t => t = ((((t1539 && (decide (p1.State ≥ 0))) && (decide (p1.State < p0.States))) && (decide ((p1.Cells.length : Int) ≥ 1))) && (decide ((p1.Cells.length : Int) ≤ 200)))) (fun K => ?_) ?_
  ·
    rcases Bool.eq_false_or_eq_true (((t1539 && (decide (p1.State ≥ 0))) && (decide (p1.State < p0.States))) && (decide ((p1.Cells.length : Int) ≥ 1))) with h1550 | h1550
    ·
      refine WL.setB 25 h1550 rfl ?_
      refine seg 26 [.v (.slice A_p1_Cells p1.Cells.length c_p1_Cells)] [2, 3, 30] [(2, (.pointer (some ⟨g1531, 0, none⟩))), (3, (.pointer (some ⟨g1535, 0, none⟩))), (30, (.bool (decide ((p1.Cells.length : Int) ≤ 200))))] [.cell ⟨g1535, 2, none⟩ (.slice A_p1_Cells p1.Cells.length c_p1_Cells)] (fun fb => by kernel_rfl) rfl ⟨hS1543.cell 0 rfl 2 rfl, trivial⟩ ?_
      exact WL.toV K (decide ((p1.Cells.length : Int) ≤ 200)) [30, 2, 3] rfl (by rw [h1550]; rfl)
    refine WL.setB 25 h1550 rfl ?_
    refine seg 26 [] [2, 3, 30] [(2, (.pointer (some ⟨g1531, 0, none⟩))), (3, (.pointer (some ⟨g1535, 0, none⟩))), (30, (.bool false))] [] (fun fb => by kernel_rfl) rfl trivial ?_
    exact WL.toV K false [30, 2, 3] rfl (by rw [h1550]; rfl)
  rintro b1551 rfl
  refine seg 27 [] [2, 3, 31] [(2, (.pointer (some ⟨g1531, 0, none⟩))), (3, (.pointer (some ⟨g1535, 0, none⟩))), (31, (.bool ((((t1539 && (decide (p1.State ≥ 0))) && (decide (p1.State < p0.States))) && (decide ((p1.Cells.length : Int) ≥ 1))) && (decide ((p1.Cells.length : Int) ≤ 200)))))] [] (fun fb => by kernel_rfl) rfl trivial ?_
  refine WL.cutV (T := Bool) 31 (fun t => [(35, (.bool t)), (2, (.pointer (some ⟨g1531, 0, none⟩))), (3, (.pointer (some ⟨g1535, 0, none⟩)))]) (fun t => t = (((((t1539 && (decide (p1.State ≥ 0))) && (decide (p1.State < p0.States))) && (decide ((p1.Cells.length : Int) ≥ 1))) && (decide ((p1.Cells.length : Int) ≤ 200))) && (decide (p1.At ≥ 0)))) (fun K => ?_) ?_
  ·
    rcases Bool.eq_false_or_eq_true ((((t1539 && (decide (p1.State ≥ 0))) && (decide (p1.State < p0.States))) && (decide ((p1.Cells.length : Int) ≥ 1))) && (decide ((p1.Cells.length : Int) ≤ 200))) with h1552 | h1552
    ·
      refine WL.setB 31 h1552 rfl ?_
      refine seg 31 [.v (.int .i64 p1.At)] [2, 3, 35] [(2, (.pointer (some ⟨g1531, 0, none⟩))), (3, (.pointer (some ⟨g1535, 0, none⟩))), (35, (.bool (decide (p1.At ≥ 0))))] [.cell ⟨g1535, 1, none⟩ (.int .i64 p1.At)] (fun fb => by kernel_rfl) rfl ⟨hS1543.cell 0 rfl 1 rfl, trivial⟩ ?_
      exact WL.toV K (decide (p1.At ≥ 0)) [35, 2, 3] rfl (by rw [h1552]; rfl)
    refine WL.setB 31 h1552 rfl ?_
    refine seg 31 [] [2, 3, 35] [(2, (.pointer (some ⟨g1531, 0, none⟩))), (3, (.pointer (some ⟨g1535, 0, none⟩))), (35, (.bool false))] [] (fun fb => by kernel_rfl) rfl trivial ?_
    exact WL.toV K false [35, 2, 3] rfl (by rw [h1552]; rfl)
  rintro b1553 rfl
  refine seg 32 [] [2, 3, 36] [(2, (.pointer (some ⟨g1531, 0, none⟩))), (3, (.pointer (some ⟨g1535, 0, none⟩))), (36, (.bool (((((t1539 && (decide (p1.State ≥ 0))) && (decide (p1.State < p0.States))) && (decide ((p1.Cells.length : Int) ≥ 1))) && (decide ((p1.Cells.length : Int) ≤ 200))) && (decide (p1.At ≥ 0)))))] [] (fun fb => by kernel_rfl) rfl trivial ?_
  refine WL.cutV (T := Bool) 39 (fun t => [(43, (.bool t)), (2, (.pointer (some ⟨g1531, 0, none⟩))), (3, (.pointer (some ⟨g1535, 0, none⟩)))]) (fun t => t = ((((((t1539 && (decide (p1.State ≥ 0))) && (decide (p1.State < p0.States))) && (decide ((p1.Cells.length : Int) ≥ 1))) && (decide ((p1.Cells.length : Int) ≤ 200))) && (decide (p1.At ≥ 0))) && (decide (p1.At < (p1.Cells.length : Int))))) (fun K => ?_) ?_
  ·
    rcases Bool.eq_false_or_eq_true (((((t1539 && (decide (p1.State ≥ 0))) && (decide (p1.State < p0.States))) && (decide ((p1.Cells.length : Int) ≥ 1))) && (decide ((p1.Cells.length : Int) ≤ 200))) && (decide (p1.At ≥ 0))) with h1554 | h1554
    ·
      refine WL.setB 36 h1554 rfl ?_
      refine seg 39 [.v (.int .i64 p1.At), .v (.slice A_p1_Cells p1.Cells.length c_p1_Cells)] [2, 3, 43] [(2, (.pointer (some ⟨g1531, 0, none⟩))), (3, (.pointer (some ⟨g1535, 0, none⟩))), (43, (.bool (decide (p1.At < (p1.Cells.length : Int)))))] [.cell ⟨g1535, 1, none⟩ (.int .i64 p1.At), .cell ⟨g1535, 2, none⟩ (.slice A_p1_Cells p1.Cells.length c_p1_Cells)] (fun fb => by kernel_rfl) rfl ⟨hS1543.cell 0 rfl 1 rfl, hS1543.cell 0 rfl 2 rfl, trivial⟩ ?_
      exact WL.toV K (decide (p1.At < (p1.Cells.length : Int))) [43, 2, 3] rfl (by rw [h1554]; rfl)
    refine WL.setB 36 h1554 rfl ?_
    refine seg 39 [] [2, 3, 43] [(2, (.pointer (some ⟨g1531, 0, none⟩))), (3, (.pointer (some ⟨g1535, 0, none⟩))), (43, (.bool false))] [] (fun fb => by kernel_rfl) rfl trivial ?_
    exact WL.toV K false [43, 2, 3] rfl (by rw [h1554]; rfl)
  rintro b1555 rfl
  refine seg 40 [] [2, 3, 44] [(2, (.pointer (some ⟨g1531, 0, none⟩))), (3, (.pointer (some ⟨g1535, 0, none⟩))), (44, (.bool ((((((t1539 && (decide (p1.State ≥ 0))) && (decide (p1.State < p0.States))) && (decide ((p1.Cells.length : Int) ≥ 1))) && (decide ((p1.Cells.length : Int) ≤ 200))) && (decide (p1.At ≥ 0))) && (decide (p1.At < (p1.Cells.length : Int))))))] [] (fun fb => by kernel_rfl) rfl trivial ?_
  obtain ⟨x1606, hx1607, hf⟩ := bind_some hf
  refine WL.cutW (T := Bool) 46 (fun t => [(50, (.bool t))]) (fun t w1 => (St NoS w w1 [rowR enc_Action A_p0_Actions c_p0_Actions p0.Actions, rowR encInt A_p1_Cells c_p1_Cells p1.Cells] [] ∧ x1606 = t) ∧ CellsOK [] w1) (fun K => ?_) ?_
  ·
    rcases br_some hx1607 with ⟨h1608, hx1607⟩ | ⟨h1608, hx1607⟩
    ·
      refine WL.setB 44 h1608 rfl ?_
      refine seg 43 [.v (.slice A_p1_Cells p1.Cells.length c_p1_Cells)] [44, 46, 47] [(44, (.bool true)), (46, (.slice A_p1_Cells p1.Cells.length c_p1_Cells)), (47, (.func (.func 50) #[] #[(.pointer (some ⟨g1531, 0, none⟩))]))] [.cell ⟨g1535, 2, none⟩ (.slice A_p1_Cells p1.Cells.length c_p1_Cells)] (fun fb => by kernel_rfl) rfl ⟨hS1543.cell 0 rfl 2 rfl, trivial⟩ ?_
      obtain ⟨t1609, ht1610, hx1607⟩ := bind_some hx1607
      refine WL.call (some 48) 49 #[(.slice A_p1_Cells p1.Cells.length c_p1_Cells), (.func (.func 50) #[] #[(.pointer (some ⟨g1531, 0, none⟩))])] (fun fb => by kernel_rfl) (slices_ContainsFunc_int_int_with_machine_Fits_1_calls _ p1.Cells p0 A_p1_Cells c_p1_Cells g1531 A_p0_Actions c_p0_Actions t1609 _ (hS1543.rd 1) (hS1543.ow 1) (hS1543.rd 0) ht1610) (fun v w1611 hR1612 => ?_)
      obtain ⟨rfl, hk_⟩ := hR1612
      have hS1613 := hS1543.keepN hk_
      refine ⟨trivial, ?_⟩
      refine seg 46 [] [50] [(50, (.bool (!t1609)))] [] (fun fb => by kernel_rfl) rfl trivial ?_
      injection hx1607 with hx1607
      exact WL.to K (!t1609) [50] rfl ⟨⟨(hS1613.subR [0, 1]).sub [] (by decide), hx1607.symm⟩, trivial⟩
    refine WL.setB 44 h1608 rfl ?_
    refine seg 46 [] [50] [(50, (.bool false))] [] (fun fb => by kernel_rfl) rfl trivial ?_
    injection hx1607 with hx1607
    exact WL.to K false [50] rfl ⟨⟨(hS1543.subR [0, 1]).sub [] (by decide), hx1607.symm⟩, trivial⟩
  rintro y1614 w1616 ⟨⟨hS1617, hq1615⟩, hF1618⟩
  subst hq1615
  refine seg 47 [] [4] [(4, (.bool x1606))] [] (fun fb => by kernel_rfl) rfl trivial ?_
  refine WL.done rfl ?_
  refine WX.next ?_
  refine WC.ret ?_
  injection hf with hf
  subst hf
  exact WX.ret_ [] (.bool x1606) [] (fun fb => by kernel_rfl) trivial ⟨_, rfl, rfl, hS1617.keep⟩
theorem slices_Clone_int_int_nil_calls (p0 : List Int) (c_p0 : Nat) (r : (List Int)) (w : World) (hR0 : RO NoS w (rowR encInt none c_p0 ([] : List Int))) (hf : slices_Clone_int_int_nil p0 = some r) :
    CallsR Try.prog 54 #[(.slice none ([] : List Int).length c_p0)] w (fun v w' => ∃ (A1_ : Option Addr), ∃ (c1_ : Nat), v = (.slice A1_ r.length c1_) ∧ St NoS w w' [] [rowO 3 encInt A1_ c1_ r]) := by
  have hS : St NoS w w [rowR encInt none c_p0 ([] : List Int)] [] := St.init (ro_cons hR0 (ro_nil _ _))
  refine enter 8 Try.func54 rfl Try.ntmps54 rfl ?_
  unfold slices_Clone_int_int_nil at hf
  refine WC.seq ?_
  refine WC.region ?_
  refine seg 1 [] [0] [(0, (.slice none ([] : List Int).length c_p0))] [] (fun fb => by kernel_rfl) rfl trivial ?_
  refine WL.done rfl ?_
  refine WX.next ?_
  refine WC.seq ?_
  refine WC.seq ?_
  refine WC.region ?_
  refine seg 2 [] [0, 4] [(0, (.slice none ([] : List Int).length c_p0)), (4, (.bool true))] [] (fun fb => by kernel_rfl) rfl trivial ?_
  refine WL.done rfl ?_
  refine WX.next ?_
  refine WC.condT (fun fb => by kernel_rfl) ?_
  refine WC.seq ?_
  refine WC.region ?_
  refine seg 1 [] [2] [(2, (.slice none 0 0))] [] (fun fb => by kernel_rfl) rfl trivial ?_
  refine WL.done rfl ?_
  refine WX.next ?_
  refine WC.ret ?_
  have hS1642 := hS.nilrow 3 encInt
  injection hf with hf
  subst hf
  exact WX.thenR (WX.ret_ [] (.slice none ([] : List Int).length 0) [] (fun fb => by kernel_rfl) trivial ⟨_, rfl, none, 0, rfl, (hS1642.sub [0] (by decide)).noR⟩)
theorem slices_Clone_int_int_some_calls (p0 : List Int) (a_p0 : Addr) (c_p0 : Nat) (r : (List Int)) (w : World) (hR0 : RO NoS w (rowR encInt (some a_p0) c_p0 p0)) (hf : slices_Clone_int_int_some p0 = some r) :
    CallsR Try.prog 54 #[(.slice (some a_p0) p0.length c_p0)] w (fun v w' => ∃ (A1_ : Option Addr), ∃ (c1_ : Nat), v = (.slice A1_ r.length c1_) ∧ St NoS w w' [] [rowO 3 encInt A1_ c1_ r]) := by
  have hS : St NoS w w [rowR encInt (some a_p0) c_p0 p0] [] := St.init (ro_cons hR0 (ro_nil _ _))
  refine enter 8 Try.func54 rfl Try.ntmps54 rfl ?_
  unfold slices_Clone_int_int_some at hf
  refine WC.seq ?_
  refine WC.region ?_
  refine seg 1 [] [0] [(0, (.slice (some a_p0) p0.length c_p0))] [] (fun fb => by kernel_rfl) rfl trivial ?_
  refine WL.done rfl ?_
  refine WX.next ?_
  refine WC.seq ?_
  refine WC.seq ?_
  refine WC.region ?_
  refine seg 2 [] [0, 4] [(0, (.slice (some a_p0) p0.length c_p0)), (4, (.bool false))] [] (fun fb => by kernel_rfl) rfl trivial ?_
  refine WL.done rfl ?_
  refine WX.next ?_
  refine WC.condF (fun fb => by kernel_rfl) ?_
  refine WC.skip ?_
  refine WX.next ?_
  refine WC.seq ?_
  refine WC.region ?_
  refine WL.new hS 5 [] (fun g => (.slice (some ⟨g, 0, none⟩) 0 0)) (.cells #[] 3 (0, 0)) [] (fun fb g => by kernel_rfl) trivial (fun g1643 w1644 hS1645 => ?_)
  refine ⟨trivial, ?_⟩
  have hS1647 : St NoS w w1644 [rowR encInt (some a_p0) c_p0 p0] [rowO 3 encInt (some ⟨g1643, 0, none⟩) 0 ([] : List Int)] := hS1645.map1 0 _ (fun h => rowO.ofBlk h rfl (Nat.le_of_ble_eq_true (by kernel_rfl))) (fun _ h => by obtain ⟨_, h1, h2⟩ := h; injection h1 with h1; subst h1; exact h2) [] (by decide) (by decide)
  refine seg 2 [] [5, 6] [(5, (.slice (some ⟨g1643, 0, none⟩) ([] : List Int).length 0)), (6, (.slice (some a_p0) p0.length c_p0))] [] (fun fb => by kernel_rfl) rfl trivial ?_
  obtain ⟨h1648, hf⟩ := as_some hf
  refine WL.append hS1647 0 (d := 7) (tS := 25) (z := (.int .i64 0)) (bytes := 8) (c2 := c_p0) rfl (fun fb => by kernel_rfl) (hS1647.rd 0).1 (by kernel_rfl) (by kernel_rfl) rfl (by decide) h1648 (by decide) [] (by decide) (by decide) (fun A1649 c1650 w1651 hS1652 => ?_)
  refine ⟨trivial, ?_⟩
  refine seg 4 [] [2] [(2, (.slice A1649 (([] : List Int) ++ p0).length c1650))] [] (fun fb => by kernel_rfl) rfl trivial ?_
  refine WL.done rfl ?_
  refine WX.next ?_
  refine WC.ret ?_
  injection hf with hf
  subst hf
  exact WX.ret_ [] (.slice A1649 (([] : List Int) ++ p0).length c1650) [] (fun fb => by kernel_rfl) trivial ⟨_, rfl, A1649, c1650, rfl, (hS1652.sub [0] (by decide)).noR⟩
theorem slices_Clone_int_int_calls (p0 : List Int) (A_p0 : Option Addr) (c_p0 : Nat) (r : List Int) (w : World) (hR0 : RO NoS w (rowR encInt A_p0 c_p0 p0)) (hf : slices_Clone_int_int p0 = some r) :
    CallsR Try.prog 54 #[(.slice A_p0 p0.length c_p0)] w (fun v w' => ∃ (A1_ : Option Addr), ∃ (c1_ : Nat), v = (.slice A1_ r.length c1_) ∧ St NoS w w' [] [rowO 3 encInt A1_ c1_ r]) := by
  unfold slices_Clone_int_int at hf
  cases A_p0 with
  | none =>
    have h3 : p0 = [] := by
      cases p0 with
      | nil => rfl
      | cons x xs => exact absurd (hR0.1.1 0 x rfl).1 (by simp)
    subst h3
    rw [slices_Clone_int_int_some] at hf
    obtain ⟨h4, hf⟩ := as_some hf
    injection hf with hf; subst hf
    exact slices_Clone_int_int_nil_calls [] c_p0 [] w hR0 rfl
  | some a => exact slices_Clone_int_int_some_calls p0 a c_p0 r w hR0 hf
theorem machine_begin_calls (p0 : Machine) (p1 : Config) (A_p0_Actions : Option Addr) (c_p0_Actions : Nat) (A_p1_Cells : Option Addr) (c_p1_Cells : Nat) (r : Runner) (w : World) (hR0 : RO NoS w (rowR enc_Action A_p0_Actions c_p0_Actions p0.Actions)) (hR1 : RO NoS w (rowR encInt A_p1_Cells c_p1_Cells p1.Cells)) (hf : machine_begin p0 p1 = some r) :
    CallsR Try.prog 42 #[(.agg #[(.int .i64 p0.States), (.int .i64 p0.Symbols), (.slice A_p0_Actions p0.Actions.length c_p0_Actions)]), (.agg #[(.int .i64 p1.State), (.int .i64 p1.At), (.slice A_p1_Cells p1.Cells.length c_p1_Cells)])] w (fun v w' => ∃ (g1_ : Nat), ∃ (A2_ : Option Addr), ∃ (c2_ : Nat), v = (.pointer (some ⟨g1_, 0, none⟩)) ∧ St NoS w w' [] [blk g1_ (.cells #[(.int .i64 r.m.States), (.int .i64 r.m.Symbols), (.slice A_p0_Actions p0.Actions.length c_p0_Actions), (.int .i64 r.Config.State), (.int .i64 r.Config.At), (.slice A2_ r.Config.Cells.length c2_)] 82 (0, 0)), rowO 3 encInt A2_ c2_ r.Config.Cells]) := by
  have hS : St NoS w w [rowR enc_Action A_p0_Actions c_p0_Actions p0.Actions, rowR encInt A_p1_Cells c_p1_Cells p1.Cells] [] := St.init (ro_cons hR0 (ro_cons hR1 (ro_nil _ _)))
  refine enter 13 Try.func42 rfl Try.ntmps42 rfl ?_
  unfold machine_begin at hf
  refine WC.seq ?_
  refine WC.region ?_
  refine WL.new hS 2 [] (fun g => (.pointer (some ⟨g, 0, none⟩))) (.cells #[(.int .i64 p0.States), (.int .i64 p0.Symbols), (.slice A_p0_Actions p0.Actions.length c_p0_Actions)] 24 (0, 0)) [] (fun fb g => by kernel_rfl) trivial (fun g1634 w1635 hS1636 => ?_)
  refine ⟨trivial, ?_⟩
  refine WL.new hS1636 3 [] (fun g => (.pointer (some ⟨g, 0, none⟩))) (.cells #[(.int .i64 p1.State), (.int .i64 p1.At), (.slice A_p1_Cells p1.Cells.length c_p1_Cells)] 27 (0, 0)) [] (fun fb g => by kernel_rfl) trivial (fun g1638 w1639 hS1640 => ?_)
  refine ⟨trivial, ?_⟩
  refine seg 3 [] [2, 3] [(2, (.pointer (some ⟨g1634, 0, none⟩))), (3, (.pointer (some ⟨g1638, 0, none⟩)))] [] (fun fb => by kernel_rfl) rfl trivial ?_
  refine WL.done rfl ?_
  refine WX.next ?_
  refine WC.seq ?_
  refine WC.region ?_
  refine seg 2 [.v (.slice A_p1_Cells p1.Cells.length c_p1_Cells)] [2, 3, 6] [(2, (.pointer (some ⟨g1634, 0, none⟩))), (3, (.pointer (some ⟨g1638, 0, none⟩))), (6, (.slice A_p1_Cells p1.Cells.length c_p1_Cells))] [.cell ⟨g1638, 2, none⟩ (.slice A_p1_Cells p1.Cells.length c_p1_Cells)] (fun fb => by kernel_rfl) rfl ⟨hS1640.cell 0 rfl 2 rfl, trivial⟩ ?_
  obtain ⟨t1653, ht1654, hf⟩ := bind_some hf
  refine WL.call (some 7) 54 #[(.slice A_p1_Cells p1.Cells.length c_p1_Cells)] (fun fb => by kernel_rfl) (slices_Clone_int_int_calls p1.Cells A_p1_Cells c_p1_Cells t1653 _ (hS1640.rd 1) ht1654) (fun v w1655 hR1656 => ?_)
  obtain ⟨A1658, c1659, rfl, hk_⟩ := hR1656
  have hS1657 : St NoS w w1655 [rowR enc_Action A_p0_Actions c_p0_Actions p0.Actions, rowR encInt A_p1_Cells c_p1_Cells p1.Cells] [rowO 3 encInt A1658 c1659 t1653, blk g1638 (.cells #[(.int .i64 p1.State), (.int .i64 p1.At), (.slice A_p1_Cells p1.Cells.length c_p1_Cells)] 27 (0, 0)), blk g1634 (.cells #[(.int .i64 p0.States), (.int .i64 p0.Symbols), (.slice A_p0_Actions p0.Actions.length c_p0_Actions)] 24 (0, 0))] := hS1640.call hk_ [] [0, 1] (fun g hg => hg.elim) (by simp) (by decide)
  refine ⟨trivial, ?_⟩
  refine seg 4 [] [2, 3, 7, 8] [(2, (.pointer (some ⟨g1634, 0, none⟩))), (3, (.pointer (some ⟨g1638, 0, none⟩))), (7, (.slice A1658 t1653.length c1659)), (8, (.pointer (some ⟨g1638, 2, none⟩)))] [] (fun fb => by kernel_rfl) rfl trivial ?_
  refine WL.store hS1657 1 rfl [(2, (.slice A1658 t1653.length c1659))] #[(.int .i64 p1.State), (.int .i64 p1.At), (.slice A1658 t1653.length c1659)] (fun fb => by kernel_rfl) (by kernel_rfl) rfl [0, 2] (by decide) (by decide) (fun w1660 hS1661 => ?_)
  refine ⟨trivial, ?_⟩
  refine WL.done rfl ?_
  refine WX.next ?_
  refine WC.seq ?_
  refine WC.region ?_
  refine seg 3 [.v (.int .i64 p0.States), .v (.int .i64 p0.Symbols), .v (.slice A_p0_Actions p0.Actions.length c_p0_Actions), .v (.int .i64 p1.State), .v (.int .i64 p1.At), .v (.slice A1658 t1653.length c1659)] [11] [(11, (.agg #[(.int .i64 p0.States), (.int .i64 p0.Symbols), (.slice A_p0_Actions p0.Actions.length c_p0_Actions), (.int .i64 p1.State), (.int .i64 p1.At), (.slice A1658 t1653.length c1659)]))] [.cell ⟨g1634, 0, none⟩ (.int .i64 p0.States), .cell ⟨g1634, 1, none⟩ (.int .i64 p0.Symbols), .cell ⟨g1634, 2, none⟩ (.slice A_p0_Actions p0.Actions.length c_p0_Actions), .cell ⟨g1638, 0, none⟩ (.int .i64 p1.State), .cell ⟨g1638, 1, none⟩ (.int .i64 p1.At), .cell ⟨g1638, 2, none⟩ (.slice A1658 t1653.length c1659)] (fun fb => by kernel_rfl) rfl ⟨hS1661.cell 2 rfl 0 rfl, hS1661.cell 2 rfl 1 rfl, hS1661.cell 2 rfl 2 rfl, hS1661.cell 0 rfl 0 rfl, hS1661.cell 0 rfl 1 rfl, hS1661.cell 0 rfl 2 rfl, trivial⟩ ?_
  refine WL.new hS1661 12 [] (fun g => (.pointer (some ⟨g, 0, none⟩))) (.cells #[(.int .i64 p0.States), (.int .i64 p0.Symbols), (.slice A_p0_Actions p0.Actions.length c_p0_Actions), (.int .i64 p1.State), (.int .i64 p1.At), (.slice A1658 t1653.length c1659)] 82 (0, 0)) [] (fun fb g => by kernel_rfl) trivial (fun g1662 w1663 hS1664 => ?_)
  refine ⟨trivial, ?_⟩
  refine seg 5 [] [4] [(4, (.pointer (some ⟨g1662, 0, none⟩)))] [] (fun fb => by kernel_rfl) rfl trivial ?_
  refine WL.done rfl ?_
  refine WX.next ?_
  refine WC.ret ?_
  injection hf with hf
  subst hf
  exact WX.ret_ [] (.pointer (some ⟨g1662, 0, none⟩)) [] (fun fb => by kernel_rfl) trivial ⟨_, rfl, g1662, A1658, c1659, rfl, (hS1664.sub [0, 2] (by decide)).noR⟩
theorem machine_runner_does_calls (p0 : Runner) (g_p0 : Nat) (A_p0_m_Actions : Option Addr) (c_p0_m_Actions : Nat) (A_p0_Config_Cells : Option Addr) (c_p0_Config_Cells : Nat) (r : Int) (w : World) (hR0 : RO NoS w (blk g_p0 (.cells #[(.int .i64 p0.m.States), (.int .i64 p0.m.Symbols), (.slice A_p0_m_Actions p0.m.Actions.length c_p0_m_Actions), (.int .i64 p0.Config.State), (.int .i64 p0.Config.At), (.slice A_p0_Config_Cells p0.Config.Cells.length c_p0_Config_Cells)] 82 (0, 0)))) (hR1 : RO NoS w (rowR enc_Action A_p0_m_Actions c_p0_m_Actions p0.m.Actions)) (hR2 : RO NoS w (rowR encInt A_p0_Config_Cells c_p0_Config_Cells p0.Config.Cells)) (hf : machine_runner_does p0 = some r) :
    CallsR Try.prog 63 #[(.pointer (some ⟨g_p0, 0, none⟩))] w (fun v w' => v = (.int .i64 r) ∧ Keeps NoS w w') := by
  have hS : St NoS w w [blk g_p0 (.cells #[(.int .i64 p0.m.States), (.int .i64 p0.m.Symbols), (.slice A_p0_m_Actions p0.m.Actions.length c_p0_m_Actions), (.int .i64 p0.Config.State), (.int .i64 p0.Config.At), (.slice A_p0_Config_Cells p0.Config.Cells.length c_p0_Config_Cells)] 82 (0, 0)), rowR enc_Action A_p0_m_Actions c_p0_m_Actions p0.m.Actions, rowR encInt A_p0_Config_Cells c_p0_Config_Cells p0.Config.Cells] [] := St.init (ro_cons hR0 (ro_cons hR1 (ro_cons hR2 (ro_nil _ _))))
  refine enter 27 Try.func63 rfl Try.ntmps63 rfl ?_
  unfold machine_runner_does at hf
  refine WC.seq ?_
  refine WC.region ?_
  refine seg 1 [] [0] [(0, (.pointer (some ⟨g_p0, 0, none⟩)))] [] (fun fb => by kernel_rfl) rfl trivial ?_
  refine WL.done rfl ?_
  refine WX.next ?_
  refine WC.seq ?_
  obtain ⟨h1678, hf⟩ := as_some hf
  refine WC.regionD ([(4, ⟨g_p0, 3, none⟩, (.int .i64 p0.Config.State)), (9, ⟨g_p0, 1, none⟩, (.int .i64 p0.m.Symbols)), (15, ⟨g_p0, 5, none⟩, (.slice A_p0_Config_Cells p0.Config.Cells.length c_p0_Config_Cells)), (20, ⟨g_p0, 4, none⟩, (.int .i64 p0.Config.At)), (22, ((adr A_p0_Config_Cells).add ((p0.Config.At).toNat * 1)), (.int .i64 (rdD p0.Config.Cells p0.Config.At 0)))], [0, 1, 2, 3, 4, 5, 6, 7, 8, 9, 10, 11, 12, 13, 14, 15, 16, 17, 18, 19, 20, 21, 22, 23, 24], [[], [0], [0, 1], [0, 1, 2], [0, 1, 2, 3], [], [5], [5, 6], [5, 6, 7], [5, 6, 7, 8], [0, 1, 2, 3, 4, 5, 6, 7, 8, 9], [], [11], [11, 12], [11, 12, 13], [11, 12, 13, 14], [], [16], [16, 17], [16, 17, 18], [16, 17, 18, 19], [11, 12, 13, 14, 15, 16, 17, 18, 19, 20], [11, 12, 13, 14, 15, 16, 17, 18, 19, 20, 21], [0, 1, 2, 3, 4, 5, 6, 7, 8, 9, 10, 11, 12, 13, 14, 15, 16, 17, 18, 19, 20, 21, 22], [0, 1, 2, 3, 4, 5, 6, 7, 8, 9, 10, 11, 12, 13, 14, 15, 16, 17, 18, 19, 20, 21, 22, 23]]) [[0, 1, 2, 3, 4, 5, 6, 7, 8, 9, 10, 11, 12, 13, 14, 15, 16, 17, 18, 19, 20, 21, 22, 23, 24]] (by kernel_rfl) (by kernel_rfl) (NoPanic.seq (NoPanic.body)) ?_
  have hS1676 := hS.drew
  revert hS1676
  generalize World.drew w = w1675
  intro hS1676
  refine ⟨⟨blk_cell (hS1676.rd 0).1 3 rfl, blk_cell (hS1676.rd 0).1 1 rfl, blk_cell (hS1676.rd 0).1 5 rfl, blk_cell (hS1676.rd 0).1 4 rfl, rowR.cell (hS1676.rd 2).1 0 h1678.1 h1678.2 0 rfl, trivial⟩, forallC ?_ (forallN)⟩
  refine segF 25 [.v (.int .i64 p0.Config.State), .v (.int .i64 p0.m.Symbols), .v (.slice A_p0_Config_Cells p0.Config.Cells.length c_p0_Config_Cells), .v (.int .i64 p0.Config.At), .v (.int .i64 (rdD p0.Config.Cells p0.Config.At 0))] [2] [(2, (.int .i64 (w64 ((w64 (p0.Config.State * p0.m.Symbols)) + (rdD p0.Config.Cells p0.Config.At 0)))))] [.idx A_p0_Config_Cells p0.Config.At p0.Config.Cells.length] [0, 1, 2, 3, 4] [(4, ⟨g_p0, 3, none⟩, (.int .i64 p0.Config.State)), (9, ⟨g_p0, 1, none⟩, (.int .i64 p0.m.Symbols)), (15, ⟨g_p0, 5, none⟩, (.slice A_p0_Config_Cells p0.Config.Cells.length c_p0_Config_Cells)), (20, ⟨g_p0, 4, none⟩, (.int .i64 p0.Config.At)), (22, ((adr A_p0_Config_Cells).add ((p0.Config.At).toNat * 1)), (.int .i64 (rdD p0.Config.Cells p0.Config.At 0)))] (fun fb => by kernel_rfl) rfl ⟨rowR.adr (hS1676.rd 2).1 h1678.1 h1678.2, trivial⟩ rfl ?_
  refine WL.done rfl ?_
  refine WX.next ?_
  refine WC.ret ?_
  injection hf with hf
  subst hf
  exact WX.ret_ [] (.int .i64 (w64 ((w64 (p0.Config.State * p0.m.Symbols)) + (rdD p0.Config.Cells p0.Config.At 0)))) [] (fun fb => by kernel_rfl) trivial ⟨_, rfl, rfl, hS1676.keep⟩
theorem machine_runner_step_calls (p0 : Runner) (g_p0 : Nat) (A_p0_m_Actions : Option Addr) (c_p0_m_Actions : Nat) (A_p0_Config_Cells : Option Addr) (c_p0_Config_Cells : Nat) (r : Int × Runner) (w : World) (hR0 : RO (fpL [blk g_p0 (.cells #[(.int .i64 p0.m.States), (.int .i64 p0.m.Symbols), (.slice A_p0_m_Actions p0.m.Actions.length c_p0_m_Actions), (.int .i64 p0.Config.State), (.int .i64 p0.Config.At), (.slice A_p0_Config_Cells p0.Config.Cells.length c_p0_Config_Cells)] 82 (0, 0)), rowO 3 encInt A_p0_Config_Cells c_p0_Config_Cells p0.Config.Cells]) w (rowR enc_Action A_p0_m_Actions c_p0_m_Actions p0.m.Actions)) (hI : IoOK w [blk g_p0 (.cells #[(.int .i64 p0.m.States), (.int .i64 p0.m.Symbols), (.slice A_p0_m_Actions p0.m.Actions.length c_p0_m_Actions), (.int .i64 p0.Config.State), (.int .i64 p0.Config.At), (.slice A_p0_Config_Cells p0.Config.Cells.length c_p0_Config_Cells)] 82 (0, 0)), rowO 3 encInt A_p0_Config_Cells c_p0_Config_Cells p0.Config.Cells]) (hf : machine_runner_step p0 = some r) :
    CallsR Try.prog 43 #[(.pointer (some ⟨g_p0, 0, none⟩))] w (fun v w' => ∃ (A1_ : Option Addr), ∃ (c1_ : Nat), v = (.int .i64 r.1) ∧ St (fpL [blk g_p0 (.cells #[(.int .i64 p0.m.States), (.int .i64 p0.m.Symbols), (.slice A_p0_m_Actions p0.m.Actions.length c_p0_m_Actions), (.int .i64 p0.Config.State), (.int .i64 p0.Config.At), (.slice A_p0_Config_Cells p0.Config.Cells.length c_p0_Config_Cells)] 82 (0, 0)), rowO 3 encInt A_p0_Config_Cells c_p0_Config_Cells p0.Config.Cells]) w w' [] [blk g_p0 (.cells #[(.int .i64 r.2.m.States), (.int .i64 r.2.m.Symbols), (.slice A_p0_m_Actions p0.m.Actions.length c_p0_m_Actions), (.int .i64 r.2.Config.State), (.int .i64 r.2.Config.At), (.slice A1_ r.2.Config.Cells.length c1_)] 82 (0, 0)), rowO 3 encInt A1_ c1_ r.2.Config.Cells]) := by
  have hS : St (fpL [blk g_p0 (.cells #[(.int .i64 p0.m.States), (.int .i64 p0.m.Symbols), (.slice A_p0_m_Actions p0.m.Actions.length c_p0_m_Actions), (.int .i64 p0.Config.State), (.int .i64 p0.Config.At), (.slice A_p0_Config_Cells p0.Config.Cells.length c_p0_Config_Cells)] 82 (0, 0)), rowO 3 encInt A_p0_Config_Cells c_p0_Config_Cells p0.Config.Cells]) w w [rowR enc_Action A_p0_m_Actions c_p0_m_Actions p0.m.Actions] [blk g_p0 (.cells #[(.int .i64 p0.m.States), (.int .i64 p0.m.Symbols), (.slice A_p0_m_Actions p0.m.Actions.length c_p0_m_Actions), (.int .i64 p0.Config.State), (.int .i64 p0.Config.At), (.slice A_p0_Config_Cells p0.Config.Cells.length c_p0_Config_Cells)] 82 (0, 0)), rowO 3 encInt A_p0_Config_Cells c_p0_Config_Cells p0.Config.Cells] := St.initIO (ro_cons hR0 (ro_nil _ _)) hI
  refine enter 70 Try.func43 rfl Try.ntmps43 rfl ?_
  unfold machine_runner_step at hf
  refine WC.seq ?_
  refine WC.region ?_
  refine seg 1 [] [0] [(0, (.pointer (some ⟨g_p0, 0, none⟩)))] [] (fun fb => by kernel_rfl) rfl trivial ?_
  refine WL.done rfl ?_
  refine WX.next ?_
  refine WC.seq ?_
  obtain ⟨x1840, hx1841, hf⟩ := bind_some hf
  refine WC.cutN (T := (Int × Int × Int) × Nat) (fun t => [(0, (.pointer (some ⟨g_p0, 0, none⟩))), (3, (.pointer (some ⟨t.2, 0, none⟩)))]) (fun t w1 => St (fpL [blk g_p0 (.cells #[(.int .i64 p0.m.States), (.int .i64 p0.m.Symbols), (.slice A_p0_m_Actions p0.m.Actions.length c_p0_m_Actions), (.int .i64 p0.Config.State), (.int .i64 p0.Config.At), (.slice A_p0_Config_Cells p0.Config.Cells.length c_p0_Config_Cells)] 82 (0, 0)), rowO 3 encInt A_p0_Config_Cells c_p0_Config_Cells p0.Config.Cells]) w w1 [rowR enc_Action A_p0_m_Actions c_p0_m_Actions p0.m.Actions] [blk g_p0 (.cells #[(.int .i64 p0.m.States), (.int .i64 p0.m.Symbols), (.slice A_p0_m_Actions p0.m.Actions.length c_p0_m_Actions), (.int .i64 p0.Config.State), (.int .i64 p0.Config.At), (.slice A_p0_Config_Cells p0.Config.Cells.length c_p0_Config_Cells)] 82 (0, 0)), rowO 3 encInt A_p0_Config_Cells c_p0_Config_Cells p0.Config.Cells, blk t.2 (.cells #[(.int .i64 t.1.1), (.int .i64 t.1.2.1), (.int .i64 t.1.2.2)] 88 (0, 0))] ∧ x1840 = t.1) (fun Kx1840 => ?_) ?_
  ·
    refine WC.regionD ([(4, ⟨g_p0, 2, none⟩, (.slice A_p0_m_Actions p0.m.Actions.length c_p0_m_Actions))], [0, 1, 2, 3, 4, 5, 7], [[], [0], [0, 1], [0, 1, 2], [0, 1, 2, 3], [], [5], [0, 1, 2, 3, 4, 5, 6], [0, 1, 2, 3, 4, 5, 6, 7], [], [0, 1, 2, 3, 4, 5, 6, 7, 8, 9]]) [[0, 1, 2, 3, 4, 5, 6, 7, 8, 9, 10], [0, 1, 2, 3, 4, 5, 6, 7, 9, 8, 10], [0, 1, 2, 3, 4, 5, 9, 6, 7, 8, 10]] (by kernel_rfl) (by kernel_rfl) (NoPanic.seq (NoPanic.body)) ?_
    have hS1843 := hS.drew
    revert hS1843
    generalize World.drew w = w1842
    intro hS1843
    refine ⟨⟨hS1843.cell 0 rfl 2 rfl, trivial⟩, forallC ?_ (forallC ?_ (forallC ?_ (forallN)))⟩
    ·
      refine segF 6 [.v (.slice A_p0_m_Actions p0.m.Actions.length c_p0_m_Actions)] [0, 9, 10] [(0, (.pointer (some ⟨g_p0, 0, none⟩))), (9, (.slice A_p0_m_Actions p0.m.Actions.length c_p0_m_Actions)), (10, (.pointer (some ⟨g_p0, 0, none⟩)))] [] [0] [(4, ⟨g_p0, 2, none⟩, (.slice A_p0_m_Actions p0.m.Actions.length c_p0_m_Actions))] (fun fb => by kernel_rfl) rfl trivial rfl ?_
      obtain ⟨t1844, ht1845, hx1841⟩ := bind_some hx1841
      refine WL.call (some 11) 63 #[(.pointer (some ⟨g_p0, 0, none⟩))] (fun fb => by kernel_rfl) (machine_runner_does_calls p0 g_p0 A_p0_m_Actions c_p0_m_Actions A_p0_Config_Cells c_p0_Config_Cells t1844 _ (hS1843.ow 0) (hS1843.rd 0) (hS1843.ow 1).ofO ht1845) (fun v w1846 hR1847 => ?_)
      obtain ⟨rfl, hk_⟩ := hR1847
      have hS1848 := hS1843.keepN hk_
      refine ⟨⟨hS1848.cell 0 rfl 2 rfl, trivial⟩, ?_⟩
      obtain ⟨h1849, hx1841⟩ := as_some hx1841
      refine seg 9 [.v (.int .i64 ((rdD p0.m.Actions t1844 z_Action).Write)), .v (.int .i64 ((rdD p0.m.Actions t1844 z_Action).Move)), .v (.int .i64 ((rdD p0.m.Actions t1844 z_Action).Next))] [0, 13] [(0, (.pointer (some ⟨g_p0, 0, none⟩))), (13, (.agg #[(.int .i64 ((rdD p0.m.Actions t1844 z_Action).Write)), (.int .i64 ((rdD p0.m.Actions t1844 z_Action).Move)), (.int .i64 ((rdD p0.m.Actions t1844 z_Action).Next))]))] [.idx A_p0_m_Actions t1844 p0.m.Actions.length, .cell ((adr A_p0_m_Actions).add ((t1844).toNat * 3)) (.int .i64 ((rdD p0.m.Actions t1844 z_Action).Write)), .cell (((adr A_p0_m_Actions).add ((t1844).toNat * 3)).add 1) (.int .i64 ((rdD p0.m.Actions t1844 z_Action).Move)), .cell (((adr A_p0_m_Actions).add ((t1844).toNat * 3)).add 2) (.int .i64 ((rdD p0.m.Actions t1844 z_Action).Next))] (fun fb => by kernel_rfl) rfl ⟨rowR.adr (hS1848.rd 0).1 h1849.1 h1849.2, rowR.cell (hS1848.rd 0).1 z_Action h1849.1 h1849.2 0 rfl, rowR.cell (hS1848.rd 0).1 z_Action h1849.1 h1849.2 1 rfl, rowR.cell (hS1848.rd 0).1 z_Action h1849.1 h1849.2 2 rfl, trivial⟩ ?_
      refine WL.new hS1848 3 [] (fun g => (.pointer (some ⟨g, 0, none⟩))) (.cells #[(.int .i64 0), (.int .i64 0), (.int .i64 0)] 88 (0, 0)) [] (fun fb g => by kernel_rfl) trivial (fun g1850 w1851 hS1852 => ?_)
      refine ⟨⟨hS1852.cell 1 rfl 2 rfl, trivial⟩, ?_⟩
      refine WL.store hS1852 0 rfl [(0, (.int .i64 ((rdD p0.m.Actions t1844 z_Action).Write))), (1, (.int .i64 ((rdD p0.m.Actions t1844 z_Action).Move))), (2, (.int .i64 ((rdD p0.m.Actions t1844 z_Action).Next)))] #[(.int .i64 ((rdD p0.m.Actions t1844 z_Action).Write)), (.int .i64 ((rdD p0.m.Actions t1844 z_Action).Move)), (.int .i64 ((rdD p0.m.Actions t1844 z_Action).Next))] (fun fb => by kernel_rfl) (by kernel_rfl) rfl [1, 2] (by decide) (by decide) (fun w1854 hS1855 => ?_)
      refine ⟨trivial, ?_⟩
      refine WL.done rfl ?_
      injection hx1841 with hx1841
      exact WX.to Kx1840 (((rdD p0.m.Actions t1844 z_Action).Write, (rdD p0.m.Actions t1844 z_Action).Move, (rdD p0.m.Actions t1844 z_Action).Next), g1850) [0, 3] rfl ⟨(hS1855.subR [0]).sub [1, 2, 0] (by decide), hx1841.symm⟩
    ·
      refine segF 6 [.v (.slice A_p0_m_Actions p0.m.Actions.length c_p0_m_Actions)] [0, 9, 10] [(0, (.pointer (some ⟨g_p0, 0, none⟩))), (9, (.slice A_p0_m_Actions p0.m.Actions.length c_p0_m_Actions)), (10, (.pointer (some ⟨g_p0, 0, none⟩)))] [] [0] [(4, ⟨g_p0, 2, none⟩, (.slice A_p0_m_Actions p0.m.Actions.length c_p0_m_Actions))] (fun fb => by kernel_rfl) rfl trivial rfl ?_
      obtain ⟨t1856, ht1857, hx1841⟩ := bind_some hx1841
      refine WL.call (some 11) 63 #[(.pointer (some ⟨g_p0, 0, none⟩))] (fun fb => by kernel_rfl) (machine_runner_does_calls p0 g_p0 A_p0_m_Actions c_p0_m_Actions A_p0_Config_Cells c_p0_Config_Cells t1856 _ (hS1843.ow 0) (hS1843.rd 0) (hS1843.ow 1).ofO ht1857) (fun v w1858 hR1859 => ?_)
      obtain ⟨rfl, hk_⟩ := hR1859
      have hS1860 := hS1843.keepN hk_
      refine ⟨⟨hS1860.cell 0 rfl 2 rfl, trivial⟩, ?_⟩
      obtain ⟨h1861, hx1841⟩ := as_some hx1841
      refine seg 8 [] [0, 12] [(0, (.pointer (some ⟨g_p0, 0, none⟩))), (12, (.pointer (some ((adr A_p0_m_Actions).add ((t1856).toNat * 3)))))] [.idx A_p0_m_Actions t1856 p0.m.Actions.length] (fun fb => by kernel_rfl) rfl ⟨rowR.adr (hS1860.rd 0).1 h1861.1 h1861.2, trivial⟩ ?_
      refine WL.new hS1860 3 [] (fun g => (.pointer (some ⟨g, 0, none⟩))) (.cells #[(.int .i64 0), (.int .i64 0), (.int .i64 0)] 88 (0, 0)) [] (fun fb g => by kernel_rfl) trivial (fun g1862 w1863 hS1864 => ?_)
      refine ⟨⟨hS1864.cell 1 rfl 2 rfl, trivial⟩, ?_⟩
      refine seg 10 [.v (.int .i64 ((rdD p0.m.Actions t1856 z_Action).Write)), .v (.int .i64 ((rdD p0.m.Actions t1856 z_Action).Move)), .v (.int .i64 ((rdD p0.m.Actions t1856 z_Action).Next))] [0, 3, 13] [(0, (.pointer (some ⟨g_p0, 0, none⟩))), (3, (.pointer (some ⟨g1862, 0, none⟩))), (13, (.agg #[(.int .i64 ((rdD p0.m.Actions t1856 z_Action).Write)), (.int .i64 ((rdD p0.m.Actions t1856 z_Action).Move)), (.int .i64 ((rdD p0.m.Actions t1856 z_Action).Next))]))] [.cell ((adr A_p0_m_Actions).add ((t1856).toNat * 3)) (.int .i64 ((rdD p0.m.Actions t1856 z_Action).Write)), .cell (((adr A_p0_m_Actions).add ((t1856).toNat * 3)).add 1) (.int .i64 ((rdD p0.m.Actions t1856 z_Action).Move)), .cell (((adr A_p0_m_Actions).add ((t1856).toNat * 3)).add 2) (.int .i64 ((rdD p0.m.Actions t1856 z_Action).Next))] (fun fb => by kernel_rfl) rfl ⟨rowR.cell (hS1864.rd 0).1 z_Action h1861.1 h1861.2 0 rfl, rowR.cell (hS1864.rd 0).1 z_Action h1861.1 h1861.2 1 rfl, rowR.cell (hS1864.rd 0).1 z_Action h1861.1 h1861.2 2 rfl, trivial⟩ ?_
      refine WL.store hS1864 0 rfl [(0, (.int .i64 ((rdD p0.m.Actions t1856 z_Action).Write))), (1, (.int .i64 ((rdD p0.m.Actions t1856 z_Action).Move))), (2, (.int .i64 ((rdD p0.m.Actions t1856 z_Action).Next)))] #[(.int .i64 ((rdD p0.m.Actions t1856 z_Action).Write)), (.int .i64 ((rdD p0.m.Actions t1856 z_Action).Move)), (.int .i64 ((rdD p0.m.Actions t1856 z_Action).Next))] (fun fb => by kernel_rfl) (by kernel_rfl) rfl [1, 2] (by decide) (by decide) (fun w1866 hS1867 => ?_)
      refine ⟨trivial, ?_⟩
      refine WL.done rfl ?_
      injection hx1841 with hx1841
      exact WX.to Kx1840 (((rdD p0.m.Actions t1856 z_Action).Write, (rdD p0.m.Actions t1856 z_Action).Move, (rdD p0.m.Actions t1856 z_Action).Next), g1862) [0, 3] rfl ⟨(hS1867.subR [0]).sub [1, 2, 0] (by decide), hx1841.symm⟩
    refine segF 6 [.v (.slice A_p0_m_Actions p0.m.Actions.length c_p0_m_Actions)] [0, 9, 10] [(0, (.pointer (some ⟨g_p0, 0, none⟩))), (9, (.slice A_p0_m_Actions p0.m.Actions.length c_p0_m_Actions)), (10, (.pointer (some ⟨g_p0, 0, none⟩)))] [] [0] [(4, ⟨g_p0, 2, none⟩, (.slice A_p0_m_Actions p0.m.Actions.length c_p0_m_Actions))] (fun fb => by kernel_rfl) rfl trivial rfl ?_
    refine WL.new hS1843 3 [] (fun g => (.pointer (some ⟨g, 0, none⟩))) (.cells #[(.int .i64 0), (.int .i64 0), (.int .i64 0)] 88 (0, 0)) [] (fun fb g => by kernel_rfl) trivial (fun g1868 w1869 hS1870 => ?_)
    refine ⟨⟨hS1870.cell 1 rfl 2 rfl, trivial⟩, ?_⟩
    obtain ⟨t1872, ht1873, hx1841⟩ := bind_some hx1841
    refine WL.call (some 11) 63 #[(.pointer (some ⟨g_p0, 0, none⟩))] (fun fb => by kernel_rfl) (machine_runner_does_calls p0 g_p0 A_p0_m_Actions c_p0_m_Actions A_p0_Config_Cells c_p0_Config_Cells t1872 _ (hS1870.ow 1) (hS1870.rd 0) (hS1870.ow 2).ofO ht1873) (fun v w1874 hR1875 => ?_)
    obtain ⟨rfl, hk_⟩ := hR1875
    have hS1876 := hS1870.keepN hk_
    refine ⟨⟨hS1876.cell 1 rfl 2 rfl, trivial⟩, ?_⟩
    obtain ⟨h1877, hx1841⟩ := as_some hx1841
    refine seg 10 [.v (.int .i64 ((rdD p0.m.Actions t1872 z_Action).Write)), .v (.int .i64 ((rdD p0.m.Actions t1872 z_Action).Move)), .v (.int .i64 ((rdD p0.m.Actions t1872 z_Action).Next))] [0, 3, 13] [(0, (.pointer (some ⟨g_p0, 0, none⟩))), (3, (.pointer (some ⟨g1868, 0, none⟩))), (13, (.agg #[(.int .i64 ((rdD p0.m.Actions t1872 z_Action).Write)), (.int .i64 ((rdD p0.m.Actions t1872 z_Action).Move)), (.int .i64 ((rdD p0.m.Actions t1872 z_Action).Next))]))] [.idx A_p0_m_Actions t1872 p0.m.Actions.length, .cell ((adr A_p0_m_Actions).add ((t1872).toNat * 3)) (.int .i64 ((rdD p0.m.Actions t1872 z_Action).Write)), .cell (((adr A_p0_m_Actions).add ((t1872).toNat * 3)).add 1) (.int .i64 ((rdD p0.m.Actions t1872 z_Action).Move)), .cell (((adr A_p0_m_Actions).add ((t1872).toNat * 3)).add 2) (.int .i64 ((rdD p0.m.Actions t1872 z_Action).Next))] (fun fb => by kernel_rfl) rfl ⟨rowR.adr (hS1876.rd 0).1 h1877.1 h1877.2, rowR.cell (hS1876.rd 0).1 z_Action h1877.1 h1877.2 0 rfl, rowR.cell (hS1876.rd 0).1 z_Action h1877.1 h1877.2 1 rfl, rowR.cell (hS1876.rd 0).1 z_Action h1877.1 h1877.2 2 rfl, trivial⟩ ?_
    refine WL.store hS1876 0 rfl [(0, (.int .i64 ((rdD p0.m.Actions t1872 z_Action).Write))), (1, (.int .i64 ((rdD p0.m.Actions t1872 z_Action).Move))), (2, (.int .i64 ((rdD p0.m.Actions t1872 z_Action).Next)))] #[(.int .i64 ((rdD p0.m.Actions t1872 z_Action).Write)), (.int .i64 ((rdD p0.m.Actions t1872 z_Action).Move)), (.int .i64 ((rdD p0.m.Actions t1872 z_Action).Next))] (fun fb => by kernel_rfl) (by kernel_rfl) rfl [1, 2] (by decide) (by decide) (fun w1878 hS1879 => ?_)
    refine ⟨trivial, ?_⟩
    refine WL.done rfl ?_
    injection hx1841 with hx1841
    exact WX.to Kx1840 (((rdD p0.m.Actions t1872 z_Action).Write, (rdD p0.m.Actions t1872 z_Action).Move, (rdD p0.m.Actions t1872 z_Action).Next), g1868) [0, 3] rfl ⟨(hS1879.subR [0]).sub [1, 2, 0] (by decide), hx1841.symm⟩
  rintro ⟨y1883, g1836⟩ w1880 ⟨hS1881, hq1882⟩
  subst hq1882
  refine WX.next ?_
  refine WC.seq ?_
  refine WC.regionD ([(4, ⟨g_p0, 4, none⟩, (.int .i64 p0.Config.At)), (6, ⟨g1836, 1, none⟩, (.int .i64 x1840.2.1))], [0, 1, 2, 3, 4, 5, 6, 7, 8, 9, 10], [[], [0], [0, 1], [0, 1, 2], [0, 1, 2, 3], [], [5], [5, 6], [0, 1, 2, 3, 4, 5, 6, 7], [0, 1, 2, 3, 4, 5, 6, 7, 8], [0, 1, 2, 3, 4, 5, 6, 7, 8, 9]]) [[0, 1, 2, 3, 4, 5, 6, 7, 8, 9, 10]] (by kernel_rfl) (by kernel_rfl) (NoPanic.seq (NoPanic.body)) ?_
  have hS1885 := hS1881.drew
  revert hS1885
  generalize World.drew w1880 = w1884
  intro hS1885
  refine ⟨⟨hS1885.cell 0 rfl 4 rfl, hS1885.cell 2 rfl 1 rfl, trivial⟩, forallC ?_ (forallN)⟩
  refine segF 11 [.v (.int .i64 p0.Config.At), .v (.int .i64 x1840.2.1)] [0, 3, 4] [(0, (.pointer (some ⟨g_p0, 0, none⟩))), (3, (.pointer (some ⟨g1836, 0, none⟩))), (4, (.int .i64 (w64 ((w64 (p0.Config.At + (w64 (2 * x1840.2.1)))) - 1))))] [] [0, 1] [(4, ⟨g_p0, 4, none⟩, (.int .i64 p0.Config.At)), (6, ⟨g1836, 1, none⟩, (.int .i64 x1840.2.1))] (fun fb => by kernel_rfl) rfl trivial rfl ?_
  refine WL.done rfl ?_
  refine WX.next ?_
  refine WC.seq ?_
  refine WC.block ?_
  refine WC.seq ?_
  refine WC.regionD ([(1, ⟨g1836, 2, none⟩, (.int .i64 x1840.2.2)), (6, ⟨g_p0, 0, none⟩, (.int .i64 p0.m.States))], [0, 1, 2, 3, 4, 5, 6, 7, 8], [[], [0], [], [2], [2, 3], [2, 3, 4], [2, 3, 4, 5], [0, 1, 2, 3, 4, 5, 6], [0, 1, 2, 3, 4, 5, 6, 7]]) [[0, 1, 2, 3, 4, 5, 6, 7, 8]] (by kernel_rfl) (by kernel_rfl) (NoPanic.seq (NoPanic.block (NoPanic.seq (NoPanic.body)))) ?_
  have hS1887 := hS1885.drew
  revert hS1887
  generalize World.drew w1884 = w1886
  intro hS1887
  refine ⟨⟨hS1887.cell 2 rfl 2 rfl, hS1887.cell 0 rfl 0 rfl, trivial⟩, forallC ?_ (forallN)⟩
  refine segF 9 [.v (.int .i64 x1840.2.2), .v (.int .i64 p0.m.States)] [0, 3, 4, 24] [(0, (.pointer (some ⟨g_p0, 0, none⟩))), (3, (.pointer (some ⟨g1836, 0, none⟩))), (4, (.int .i64 (w64 ((w64 (p0.Config.At + (w64 (2 * x1840.2.1)))) - 1)))), (24, (.bool (x1840.2.2 == p0.m.States)))] [] [0, 1] [(1, ⟨g1836, 2, none⟩, (.int .i64 x1840.2.2)), (6, ⟨g_p0, 0, none⟩, (.int .i64 p0.m.States))] (fun fb => by kernel_rfl) rfl trivial rfl ?_
  refine WL.done rfl ?_
  refine WX.next ?_
  rcases br_some hf with ⟨h1888, hf⟩ | ⟨h1888, hf⟩
  · refine WC.condT2 (fun fb => by kernel_rfl) h1888 ?_
    refine WC.seq ?_
    refine WC.region ?_
    refine seg 1 [] [0, 2] [(0, (.pointer (some ⟨g_p0, 0, none⟩))), (2, (.int .i64 5))] [] (fun fb => by kernel_rfl) rfl trivial ?_
    refine WL.done rfl ?_
    refine WX.next ?_
    refine WC.ret ?_
    injection hf with hf
    subst hf
    exact WX.blockR (WX.thenR (WX.ret_ [] (.int .i64 5) [] (fun fb => by kernel_rfl) trivial ⟨_, rfl, A_p0_Config_Cells, c_p0_Config_Cells, rfl, (hS1887.sub [0, 1] (by decide)).noR⟩))
  refine WC.condF2 (fun fb => by kernel_rfl) h1888 ?_
  refine WC.seq ?_
  refine WC.region ?_
  refine seg 3 [] [0, 3, 4, 36] [(0, (.pointer (some ⟨g_p0, 0, none⟩))), (3, (.pointer (some ⟨g1836, 0, none⟩))), (4, (.int .i64 (w64 ((w64 (p0.Config.At + (w64 (2 * x1840.2.1)))) - 1)))), (36, (.bool (decide (w64 ((w64 (p0.Config.At + (w64 (2 * x1840.2.1)))) - 1) < 0))))] [] (fun fb => by kernel_rfl) rfl trivial ?_
  refine WL.cutV (T := Bool) 12 (fun t => [(45, (.bool t)), (0, (.pointer (some ⟨g_p0, 0, none⟩))), (3, (.pointer (some ⟨g1836, 0, none⟩))), (4, (.int .i64 (w64 ((w64 (p0.Config.At + (w64 (2 * x1840.2.1)))) - 1))))]) (fun t => t = ((decide (w64 ((w64 (p0.Config.At + (w64 (2 * x1840.2.1)))) - 1) < 0)) || (decide (w64 ((w64 (p0.Config.At + (w64 (2 * x1840.2.1)))) - 1) ≥ (p0.Config.Cells.length : Int))))) (fun K => ?_) ?_
  ·
    rcases Bool.eq_false_or_eq_true (decide (w64 ((w64 (p0.Config.At + (w64 (2 * x1840.2.1)))) - 1) < 0)) with h1889 | h1889
    ·
      refine WL.setB 36 h1889 rfl ?_
      refine seg 12 [] [0, 3, 4, 45] [(0, (.pointer (some ⟨g_p0, 0, none⟩))), (3, (.pointer (some ⟨g1836, 0, none⟩))), (4, (.int .i64 (w64 ((w64 (p0.Config.At + (w64 (2 * x1840.2.1)))) - 1)))), (45, (.bool true))] [] (fun fb => by kernel_rfl) rfl trivial ?_
      exact WL.toV K true [45, 0, 3, 4] rfl (by rw [h1889]; rfl)
    refine WL.setB 36 h1889 rfl ?_
    refine seg 12 [.v (.slice A_p0_Config_Cells p0.Config.Cells.length c_p0_Config_Cells)] [0, 3, 4, 45] [(0, (.pointer (some ⟨g_p0, 0, none⟩))), (3, (.pointer (some ⟨g1836, 0, none⟩))), (4, (.int .i64 (w64 ((w64 (p0.Config.At + (w64 (2 * x1840.2.1)))) - 1)))), (45, (.bool (decide (w64 ((w64 (p0.Config.At + (w64 (2 * x1840.2.1)))) - 1) ≥ (p0.Config.Cells.length : Int)))))] [.cell ⟨g_p0, 5, none⟩ (.slice A_p0_Config_Cells p0.Config.Cells.length c_p0_Config_Cells)] (fun fb => by kernel_rfl) rfl ⟨hS1887.cell 0 rfl 5 rfl, trivial⟩ ?_
    exact WL.toV K (decide (w64 ((w64 (p0.Config.At + (w64 (2 * x1840.2.1)))) - 1) ≥ (p0.Config.Cells.length : Int))) [45, 0, 3, 4] rfl (by rw [h1889]; rfl)
  rintro b1890 rfl
  refine seg 13 [] [0, 3, 4, 33] [(0, (.pointer (some ⟨g_p0, 0, none⟩))), (3, (.pointer (some ⟨g1836, 0, none⟩))), (4, (.int .i64 (w64 ((w64 (p0.Config.At + (w64 (2 * x1840.2.1)))) - 1)))), (33, (.bool ((decide (w64 ((w64 (p0.Config.At + (w64 (2 * x1840.2.1)))) - 1) < 0)) || (decide (w64 ((w64 (p0.Config.At + (w64 (2 * x1840.2.1)))) - 1) ≥ (p0.Config.Cells.length : Int))))))] [] (fun fb => by kernel_rfl) rfl trivial ?_
  refine WL.done rfl ?_
  refine WX.next ?_
  rcases br_some hf with ⟨h1891, hf⟩ | ⟨h1891, hf⟩
  · refine WC.condT2 (fun fb => by kernel_rfl) h1891 ?_
    refine WC.seq ?_
    refine WC.region ?_
    refine seg 1 [] [0, 2] [(0, (.pointer (some ⟨g_p0, 0, none⟩))), (2, (.int .i64 6))] [] (fun fb => by kernel_rfl) rfl trivial ?_
    refine WL.done rfl ?_
    refine WX.next ?_
    refine WC.ret ?_
    injection hf with hf
    subst hf
    exact WX.blockR (WX.thenR (WX.ret_ [] (.int .i64 6) [] (fun fb => by kernel_rfl) trivial ⟨_, rfl, A_p0_Config_Cells, c_p0_Config_Cells, rfl, (hS1887.sub [0, 1] (by decide)).noR⟩))
  refine WC.condF2 (fun fb => by kernel_rfl) h1891 ?_
  refine WC.skip ?_
  refine WX.blockN (WX.next ?_)
  refine WC.seq ?_
  obtain ⟨h1899, hf⟩ := as_some hf
  refine WC.regionD ([(4, ⟨g_p0, 5, none⟩, (.slice A_p0_Config_Cells p0.Config.Cells.length c_p0_Config_Cells)), (9, ⟨g_p0, 4, none⟩, (.int .i64 p0.Config.At)), (11, ⟨g1836, 0, none⟩, (.int .i64 x1840.1))], [0, 1, 2, 3, 4, 5, 6, 7, 8, 9, 10, 11, 12], [[], [0], [0, 1], [0, 1, 2], [0, 1, 2, 3], [], [5], [5, 6], [5, 6, 7], [5, 6, 7, 8], [], [10], [0, 1, 2, 3, 4, 5, 6, 7, 8, 9, 10, 11], [0, 1, 2, 3, 4, 5, 6, 7, 8, 9, 10, 11, 12]]) [[0, 1, 2, 3, 4, 5, 6, 7, 8, 9, 10, 11, 12, 13]] (by kernel_rfl) (by kernel_rfl) (NoPanic.seq (NoPanic.body)) ?_
  have hS1897 := hS1887.drew
  revert hS1897
  generalize World.drew w1886 = w1896
  intro hS1897
  refine ⟨⟨hS1897.cell 0 rfl 5 rfl, hS1897.cell 0 rfl 4 rfl, hS1897.cell 2 rfl 0 rfl, trivial⟩, forallC ?_ (forallN)⟩
  refine segF 13 [.v (.slice A_p0_Config_Cells p0.Config.Cells.length c_p0_Config_Cells), .v (.int .i64 p0.Config.At), .v (.int .i64 x1840.1)] [0, 3, 4, 57, 58] [(0, (.pointer (some ⟨g_p0, 0, none⟩))), (3, (.pointer (some ⟨g1836, 0, none⟩))), (4, (.int .i64 (w64 ((w64 (p0.Config.At + (w64 (2 * x1840.2.1)))) - 1)))), (57, (.int .i64 x1840.1)), (58, (.pointer (some ((adr A_p0_Config_Cells).add ((p0.Config.At).toNat * 1)))))] [.idx A_p0_Config_Cells p0.Config.At p0.Config.Cells.length] [0, 1, 2] [(4, ⟨g_p0, 5, none⟩, (.slice A_p0_Config_Cells p0.Config.Cells.length c_p0_Config_Cells)), (9, ⟨g_p0, 4, none⟩, (.int .i64 p0.Config.At)), (11, ⟨g1836, 0, none⟩, (.int .i64 x1840.1))] (fun fb => by kernel_rfl) rfl ⟨rowR.adr (rowO.rd (hS1897.own 1).1) h1899.1 h1899.2, trivial⟩ rfl ?_
  refine WL.storeRow hS1897 1 rfl (p0.Config.At) (x1840.1) (0) [(0, (.int .i64 x1840.1))] (fun fb => by kernel_rfl) h1899.1 h1899.2 (by kernel_rfl) rfl [0, 2] (by decide) (by decide) (fun w1900 hS1901 => ?_)
  refine ⟨trivial, ?_⟩
  have hS1902 : St (fpL [blk g_p0 (.cells #[(.int .i64 p0.m.States), (.int .i64 p0.m.Symbols), (.slice A_p0_m_Actions p0.m.Actions.length c_p0_m_Actions), (.int .i64 p0.Config.State), (.int .i64 p0.Config.At), (.slice A_p0_Config_Cells p0.Config.Cells.length c_p0_Config_Cells)] 82 (0, 0)), rowO 3 encInt A_p0_Config_Cells c_p0_Config_Cells p0.Config.Cells]) w w1900 [rowR enc_Action A_p0_m_Actions c_p0_m_Actions p0.m.Actions] [rowO 3 encInt A_p0_Config_Cells c_p0_Config_Cells (p0.Config.Cells.set (p0.Config.At).toNat x1840.1), blk g_p0 (.cells #[(.int .i64 p0.m.States), (.int .i64 p0.m.Symbols), (.slice A_p0_m_Actions p0.m.Actions.length c_p0_m_Actions), (.int .i64 p0.Config.State), (.int .i64 p0.Config.At), (.slice A_p0_Config_Cells (p0.Config.Cells.set (p0.Config.At).toNat x1840.1).length c_p0_Config_Cells)] 82 (0, 0)), blk g1836 (.cells #[(.int .i64 x1840.1), (.int .i64 x1840.2.1), (.int .i64 x1840.2.2)] 88 (0, 0))] := by simpa only [List.length_set] using (show St (fpL [blk g_p0 (.cells #[(.int .i64 p0.m.States), (.int .i64 p0.m.Symbols), (.slice A_p0_m_Actions p0.m.Actions.length c_p0_m_Actions), (.int .i64 p0.Config.State), (.int .i64 p0.Config.At), (.slice A_p0_Config_Cells p0.Config.Cells.length c_p0_Config_Cells)] 82 (0, 0)), rowO 3 encInt A_p0_Config_Cells c_p0_Config_Cells p0.Config.Cells]) w w1900 [rowR enc_Action A_p0_m_Actions c_p0_m_Actions p0.m.Actions] [rowO 3 encInt A_p0_Config_Cells c_p0_Config_Cells (p0.Config.Cells.set (p0.Config.At).toNat x1840.1), blk g_p0 (.cells #[(.int .i64 p0.m.States), (.int .i64 p0.m.Symbols), (.slice A_p0_m_Actions p0.m.Actions.length c_p0_m_Actions), (.int .i64 p0.Config.State), (.int .i64 p0.Config.At), (.slice A_p0_Config_Cells p0.Config.Cells.length c_p0_Config_Cells)] 82 (0, 0)), blk g1836 (.cells #[(.int .i64 x1840.1), (.int .i64 x1840.2.1), (.int .i64 x1840.2.2)] 88 (0, 0))] from hS1901)
  refine WL.done rfl ?_
  refine WX.next ?_
  refine WC.seq ?_
  refine WC.regionD ([(4, ⟨g1836, 2, none⟩, (.int .i64 x1840.2.2))], [0, 1, 2, 3, 4, 5, 6, 7, 9, 10, 11], [[], [], [], [], [3], [0, 2], [0, 2, 5], [0, 2, 5, 6], [0, 2, 5, 6, 7], [0, 1, 2, 3, 4, 5, 6, 7, 8], [0, 1, 2, 3, 4, 5, 6, 7, 8, 9], [0, 1, 2, 3, 4, 5, 6, 7, 8, 9, 10], [0, 1, 2, 3, 4, 5, 6, 7, 8, 9, 10, 11]]) [[0, 1, 2, 3, 4, 5, 6, 7, 8, 9, 10, 11, 12]] (by kernel_rfl) (by kernel_rfl) (NoPanic.seq (NoPanic.body)) ?_
  have hS1908 := hS1902.drew
  revert hS1908
  generalize World.drew w1900 = w1907
  intro hS1908
  refine ⟨⟨hS1908.cell 2 rfl 2 rfl, trivial⟩, forallC ?_ (forallN)⟩
  refine segF 8 [.v (.int .i64 x1840.2.2)] [0, 60, 61, 63, 66] [(0, (.pointer (some ⟨g_p0, 0, none⟩))), (60, (.pointer (some ⟨g_p0, 0, none⟩))), (61, (.int .i64 (w64 ((w64 (p0.Config.At + (w64 (2 * x1840.2.1)))) - 1)))), (63, (.int .i64 x1840.2.2)), (66, (.pointer (some ⟨g_p0, 4, none⟩)))] [] [0] [(4, ⟨g1836, 2, none⟩, (.int .i64 x1840.2.2))] (fun fb => by kernel_rfl) rfl trivial rfl ?_
  refine WL.store hS1908 1 rfl [(4, (.int .i64 (w64 ((w64 (p0.Config.At + (w64 (2 * x1840.2.1)))) - 1))))] #[(.int .i64 p0.m.States), (.int .i64 p0.m.Symbols), (.slice A_p0_m_Actions p0.m.Actions.length c_p0_m_Actions), (.int .i64 p0.Config.State), (.int .i64 (w64 ((w64 (p0.Config.At + (w64 (2 * x1840.2.1)))) - 1))), (.slice A_p0_Config_Cells (p0.Config.Cells.set (p0.Config.At).toNat x1840.1).length c_p0_Config_Cells)] (fun fb => by kernel_rfl) (by kernel_rfl) rfl [0, 2] (by decide) (by decide) (fun w1909 hS1910 => ?_)
  refine ⟨⟨hS1910.cell 2 rfl 2 rfl, trivial⟩, ?_⟩
  refine seg 12 [] [0, 63, 69] [(0, (.pointer (some ⟨g_p0, 0, none⟩))), (63, (.int .i64 x1840.2.2)), (69, (.pointer (some ⟨g_p0, 3, none⟩)))] [] (fun fb => by kernel_rfl) rfl trivial ?_
  refine WL.store hS1910 0 rfl [(3, (.int .i64 x1840.2.2))] #[(.int .i64 p0.m.States), (.int .i64 p0.m.Symbols), (.slice A_p0_m_Actions p0.m.Actions.length c_p0_m_Actions), (.int .i64 x1840.2.2), (.int .i64 (w64 ((w64 (p0.Config.At + (w64 (2 * x1840.2.1)))) - 1))), (.slice A_p0_Config_Cells (p0.Config.Cells.set (p0.Config.At).toNat x1840.1).length c_p0_Config_Cells)] (fun fb => by kernel_rfl) (by kernel_rfl) rfl [1, 2] (by decide) (by decide) (fun w1911 hS1912 => ?_)
  refine ⟨trivial, ?_⟩
  refine WL.done rfl ?_
  refine WX.next ?_
  refine WC.seq ?_
  refine WC.region ?_
  refine seg 1 [] [0, 2] [(0, (.pointer (some ⟨g_p0, 0, none⟩))), (2, (.int .i64 0))] [] (fun fb => by kernel_rfl) rfl trivial ?_
  refine WL.done rfl ?_
  refine WX.next ?_
  refine WC.ret ?_
  injection hf with hf
  subst hf
  exact WX.ret_ [] (.int .i64 0) [] (fun fb => by kernel_rfl) trivial ⟨_, rfl, A_p0_Config_Cells, c_p0_Config_Cells, rfl, (hS1912.sub [0, 1] (by decide)).noR⟩
theorem machine_Run_calls (k : Nat) (p0 : Machine) (p1 : Config) (p2 : Int) (A_p0_Actions : Option Addr) (c_p0_Actions : Nat) (A_p1_Cells : Option Addr) (c_p1_Cells : Nat) (r : Config × Int × Int) (w : World) (hR0 : RO NoS w (rowR enc_Action A_p0_Actions c_p0_Actions p0.Actions)) (hR1 : RO NoS w (rowR encInt A_p1_Cells c_p1_Cells p1.Cells)) (hf : machine_Run k p0 p1 p2 = some r) :
    CallsR Try.prog 20 #[(.agg #[(.int .i64 p0.States), (.int .i64 p0.Symbols), (.slice A_p0_Actions p0.Actions.length c_p0_Actions)]), (.agg #[(.int .i64 p1.State), (.int .i64 p1.At), (.slice A_p1_Cells p1.Cells.length c_p1_Cells)]), (.int .i64 p2)] w (fun v w' => ∃ (A1_ : Option Addr), ∃ (c1_ : Nat), v = (.tuple #[(.agg #[(.int .i64 r.1.State), (.int .i64 r.1.At), (.slice A1_ r.1.Cells.length c1_)]), (.int .i64 r.2.1), (.int .i64 r.2.2)]) ∧ St NoS w w' [] [rowO 3 encInt A1_ c1_ r.1.Cells]) := by
  have hS : St NoS w w [rowR enc_Action A_p0_Actions c_p0_Actions p0.Actions, rowR encInt A_p1_Cells c_p1_Cells p1.Cells] [] := St.init (ro_cons hR0 (ro_cons hR1 (ro_nil _ _)))
  refine enter 41 Try.func20 rfl Try.ntmps20 rfl ?_
  unfold machine_Run at hf
  refine WC.seq ?_
  refine WC.region ?_
  refine WL.new hS 3 [] (fun g => (.pointer (some ⟨g, 0, none⟩))) (.cells #[(.int .i64 p0.States), (.int .i64 p0.Symbols), (.slice A_p0_Actions p0.Actions.length c_p0_Actions)] 24 (0, 0)) [] (fun fb g => by kernel_rfl) trivial (fun g1519 w1520 hS1521 => ?_)
  refine ⟨trivial, ?_⟩
  refine WL.new hS1521 4 [] (fun g => (.pointer (some ⟨g, 0, none⟩))) (.cells #[(.int .i64 p1.State), (.int .i64 p1.At), (.slice A_p1_Cells p1.Cells.length c_p1_Cells)] 27 (0, 0)) [] (fun fb g => by kernel_rfl) trivial (fun g1523 w1524 hS1525 => ?_)
  refine ⟨trivial, ?_⟩
  refine WL.new hS1525 6 [] (fun g => (.pointer (some ⟨g, 0, none⟩))) (.cells #[(.int .i64 0), (.int .i64 0), (.slice none 0 0)] 27 (0, 0)) [] (fun fb g => by kernel_rfl) trivial (fun g1527 w1528 hS1529 => ?_)
  refine ⟨trivial, ?_⟩
  refine seg 5 [] [2, 3, 4, 6] [(2, (.int .i64 p2)), (3, (.pointer (some ⟨g1519, 0, none⟩))), (4, (.pointer (some ⟨g1523, 0, none⟩))), (6, (.pointer (some ⟨g1527, 0, none⟩)))] [] (fun fb => by kernel_rfl) rfl trivial ?_
  refine WL.done rfl ?_
  refine WX.next ?_
  refine WC.seq ?_
  refine WC.seq ?_
  refine WC.region ?_
  refine seg 2 [.v (.int .i64 p0.States), .v (.int .i64 p0.Symbols), .v (.slice A_p0_Actions p0.Actions.length c_p0_Actions), .v (.int .i64 p1.State), .v (.int .i64 p1.At), .v (.slice A_p1_Cells p1.Cells.length c_p1_Cells)] [2, 3, 4, 6, 11, 12] [(2, (.int .i64 p2)), (3, (.pointer (some ⟨g1519, 0, none⟩))), (4, (.pointer (some ⟨g1523, 0, none⟩))), (6, (.pointer (some ⟨g1527, 0, none⟩))), (11, (.agg #[(.int .i64 p0.States), (.int .i64 p0.Symbols), (.slice A_p0_Actions p0.Actions.length c_p0_Actions)])), (12, (.agg #[(.int .i64 p1.State), (.int .i64 p1.At), (.slice A_p1_Cells p1.Cells.length c_p1_Cells)]))] [.cell ⟨g1519, 0, none⟩ (.int .i64 p0.States), .cell ⟨g1519, 1, none⟩ (.int .i64 p0.Symbols), .cell ⟨g1519, 2, none⟩ (.slice A_p0_Actions p0.Actions.length c_p0_Actions), .cell ⟨g1523, 0, none⟩ (.int .i64 p1.State), .cell ⟨g1523, 1, none⟩ (.int .i64 p1.At), .cell ⟨g1523, 2, none⟩ (.slice A_p1_Cells p1.Cells.length c_p1_Cells)] (fun fb => by kernel_rfl) rfl ⟨hS1529.cell 2 rfl 0 rfl, hS1529.cell 2 rfl 1 rfl, hS1529.cell 2 rfl 2 rfl, hS1529.cell 1 rfl 0 rfl, hS1529.cell 1 rfl 1 rfl, hS1529.cell 1 rfl 2 rfl, trivial⟩ ?_
  obtain ⟨t1619, ht1620, hf⟩ := bind_some hf
  refine WL.call (some 13) 18 #[(.agg #[(.int .i64 p0.States), (.int .i64 p0.Symbols), (.slice A_p0_Actions p0.Actions.length c_p0_Actions)]), (.agg #[(.int .i64 p1.State), (.int .i64 p1.At), (.slice A_p1_Cells p1.Cells.length c_p1_Cells)])] (fun fb => by kernel_rfl) (machine_Fits_calls _ p0 p1 A_p0_Actions c_p0_Actions A_p1_Cells c_p1_Cells t1619 _ (hS1529.rd 0) (hS1529.rd 1) ht1620) (fun v w1621 hR1622 => ?_)
  obtain ⟨rfl, hk_⟩ := hR1622
  have hS1623 := hS1529.keepN hk_
  refine ⟨trivial, ?_⟩
  refine seg 4 [] [2, 3, 4, 6, 14] [(2, (.int .i64 p2)), (3, (.pointer (some ⟨g1519, 0, none⟩))), (4, (.pointer (some ⟨g1523, 0, none⟩))), (6, (.pointer (some ⟨g1527, 0, none⟩))), (14, (.bool (!t1619)))] [] (fun fb => by kernel_rfl) rfl trivial ?_
  refine WL.done rfl ?_
  refine WX.next ?_
  rcases br_some hf with ⟨h1624, hf⟩ | ⟨h1624, hf⟩
  · refine WC.condT2 (fun fb => by kernel_rfl) h1624 ?_
    refine WC.seq ?_
    refine WC.region ?_
    refine seg 1 [] [6, 15] [(6, (.pointer (some ⟨g1527, 0, none⟩))), (15, (.agg #[(.int .i64 0), (.int .i64 0), (.slice none 0 0)]))] [] (fun fb => by kernel_rfl) rfl trivial ?_
    refine WL.store hS1623 0 rfl [(0, (.int .i64 0)), (1, (.int .i64 0)), (2, (.slice none 0 0))] #[(.int .i64 0), (.int .i64 0), (.slice none 0 0)] (fun fb => by kernel_rfl) (by kernel_rfl) rfl [1, 2] (by decide) (by decide) (fun w1625 hS1626 => ?_)
    refine ⟨trivial, ?_⟩
    refine seg 4 [] [6, 7, 8] [(6, (.pointer (some ⟨g1527, 0, none⟩))), (7, (.int .i64 0)), (8, (.int .i64 1))] [] (fun fb => by kernel_rfl) rfl trivial ?_
    refine WL.done rfl ?_
    refine WX.next ?_
    refine WC.ret ?_
    have hS1627 := hS1626.nilrow 3 encInt
    injection hf with hf
    subst hf
    exact WX.thenR (WX.ret_ [.v (.int .i64 0), .v (.int .i64 0), .v (.slice none 0 0)] (.tuple #[(.agg #[(.int .i64 0), (.int .i64 0), (.slice none ([] : List Int).length 0)]), (.int .i64 0), (.int .i64 1)]) [.cell ⟨g1527, 0, none⟩ (.int .i64 0), .cell ⟨g1527, 1, none⟩ (.int .i64 0), .cell ⟨g1527, 2, none⟩ (.slice none 0 0)] (fun fb => by kernel_rfl) ⟨hS1626.cell 0 rfl 0 rfl, hS1626.cell 0 rfl 1 rfl, hS1626.cell 0 rfl 2 rfl, trivial⟩ ⟨_, rfl, none, 0, rfl, (hS1627.sub [0] (by decide)).noR⟩)
  refine WC.condF2 (fun fb => by kernel_rfl) h1624 ?_
  refine WC.skip ?_
  refine WX.next ?_
  refine WC.seq ?_
  refine WC.seq ?_
  refine WC.region ?_
  refine seg 3 [] [2, 3, 4, 6, 18] [(2, (.int .i64 p2)), (3, (.pointer (some ⟨g1519, 0, none⟩))), (4, (.pointer (some ⟨g1523, 0, none⟩))), (6, (.pointer (some ⟨g1527, 0, none⟩))), (18, (.bool (decide (p2 < 0))))] [] (fun fb => by kernel_rfl) rfl trivial ?_
  refine WL.cutV (T := Bool) 6 (fun t => [(21, (.bool t)), (2, (.int .i64 p2)), (3, (.pointer (some ⟨g1519, 0, none⟩))), (4, (.pointer (some ⟨g1523, 0, none⟩))), (6, (.pointer (some ⟨g1527, 0, none⟩)))]) (fun t => t = ((decide (p2 < 0)) || (decide (p2 > 100000)))) (fun K => ?_) ?_
  ·
    rcases Bool.eq_false_or_eq_true (decide (p2 < 0)) with h1628 | h1628
    ·
      refine WL.setB 18 h1628 rfl ?_
      refine seg 6 [] [2, 3, 4, 6, 21] [(2, (.int .i64 p2)), (3, (.pointer (some ⟨g1519, 0, none⟩))), (4, (.pointer (some ⟨g1523, 0, none⟩))), (6, (.pointer (some ⟨g1527, 0, none⟩))), (21, (.bool true))] [] (fun fb => by kernel_rfl) rfl trivial ?_
      exact WL.toV K true [21, 2, 3, 4, 6] rfl (by rw [h1628]; rfl)
    refine WL.setB 18 h1628 rfl ?_
    refine seg 6 [] [2, 3, 4, 6, 21] [(2, (.int .i64 p2)), (3, (.pointer (some ⟨g1519, 0, none⟩))), (4, (.pointer (some ⟨g1523, 0, none⟩))), (6, (.pointer (some ⟨g1527, 0, none⟩))), (21, (.bool (decide (p2 > 100000))))] [] (fun fb => by kernel_rfl) rfl trivial ?_
    exact WL.toV K (decide (p2 > 100000)) [21, 2, 3, 4, 6] rfl (by rw [h1628]; rfl)
  rintro b1629 rfl
  refine WL.done rfl ?_
  refine WX.next ?_
  rcases br_some hf with ⟨h1630, hf⟩ | ⟨h1630, hf⟩
  · refine WC.condT2 (fun fb => by kernel_rfl) h1630 ?_
    refine WC.seq ?_
    refine WC.region ?_
    refine seg 1 [] [6, 22] [(6, (.pointer (some ⟨g1527, 0, none⟩))), (22, (.agg #[(.int .i64 0), (.int .i64 0), (.slice none 0 0)]))] [] (fun fb => by kernel_rfl) rfl trivial ?_
    refine WL.store hS1623 0 rfl [(0, (.int .i64 0)), (1, (.int .i64 0)), (2, (.slice none 0 0))] #[(.int .i64 0), (.int .i64 0), (.slice none 0 0)] (fun fb => by kernel_rfl) (by kernel_rfl) rfl [1, 2] (by decide) (by decide) (fun w1631 hS1632 => ?_)
    refine ⟨trivial, ?_⟩
    refine seg 4 [] [6, 7, 8] [(6, (.pointer (some ⟨g1527, 0, none⟩))), (7, (.int .i64 0)), (8, (.int .i64 2))] [] (fun fb => by kernel_rfl) rfl trivial ?_
    refine WL.done rfl ?_
    refine WX.next ?_
    refine WC.ret ?_
    have hS1633 := hS1632.nilrow 3 encInt
    injection hf with hf
    subst hf
    exact WX.thenR (WX.ret_ [.v (.int .i64 0), .v (.int .i64 0), .v (.slice none 0 0)] (.tuple #[(.agg #[(.int .i64 0), (.int .i64 0), (.slice none ([] : List Int).length 0)]), (.int .i64 0), (.int .i64 2)]) [.cell ⟨g1527, 0, none⟩ (.int .i64 0), .cell ⟨g1527, 1, none⟩ (.int .i64 0), .cell ⟨g1527, 2, none⟩ (.slice none 0 0)] (fun fb => by kernel_rfl) ⟨hS1632.cell 0 rfl 0 rfl, hS1632.cell 0 rfl 1 rfl, hS1632.cell 0 rfl 2 rfl, trivial⟩ ⟨_, rfl, none, 0, rfl, (hS1633.sub [0] (by decide)).noR⟩)
  refine WC.condF2 (fun fb => by kernel_rfl) h1630 ?_
  refine WC.skip ?_
  refine WX.next ?_
  refine WC.seq ?_
  refine WC.region ?_
  refine seg 2 [.v (.int .i64 p0.States), .v (.int .i64 p0.Symbols), .v (.slice A_p0_Actions p0.Actions.length c_p0_Actions), .v (.int .i64 p1.State), .v (.int .i64 p1.At), .v (.slice A_p1_Cells p1.Cells.length c_p1_Cells)] [2, 6, 23, 24] [(2, (.int .i64 p2)), (6, (.pointer (some ⟨g1527, 0, none⟩))), (23, (.agg #[(.int .i64 p0.States), (.int .i64 p0.Symbols), (.slice A_p0_Actions p0.Actions.length c_p0_Actions)])), (24, (.agg #[(.int .i64 p1.State), (.int .i64 p1.At), (.slice A_p1_Cells p1.Cells.length c_p1_Cells)]))] [.cell ⟨g1519, 0, none⟩ (.int .i64 p0.States), .cell ⟨g1519, 1, none⟩ (.int .i64 p0.Symbols), .cell ⟨g1519, 2, none⟩ (.slice A_p0_Actions p0.Actions.length c_p0_Actions), .cell ⟨g1523, 0, none⟩ (.int .i64 p1.State), .cell ⟨g1523, 1, none⟩ (.int .i64 p1.At), .cell ⟨g1523, 2, none⟩ (.slice A_p1_Cells p1.Cells.length c_p1_Cells)] (fun fb => by kernel_rfl) rfl ⟨hS1623.cell 2 rfl 0 rfl, hS1623.cell 2 rfl 1 rfl, hS1623.cell 2 rfl 2 rfl, hS1623.cell 1 rfl 0 rfl, hS1623.cell 1 rfl 1 rfl, hS1623.cell 1 rfl 2 rfl, trivial⟩ ?_
  obtain ⟨t1666, ht1667, hf⟩ := bind_some hf
  refine WL.call (some 25) 42 #[(.agg #[(.int .i64 p0.States), (.int .i64 p0.Symbols), (.slice A_p0_Actions p0.Actions.length c_p0_Actions)]), (.agg #[(.int .i64 p1.State), (.int .i64 p1.At), (.slice A_p1_Cells p1.Cells.length c_p1_Cells)])] (fun fb => by kernel_rfl) (machine_begin_calls p0 p1 A_p0_Actions c_p0_Actions A_p1_Cells c_p1_Cells t1666 _ (hS1623.rd 0) (hS1623.rd 1) ht1667) (fun v w1668 hR1669 => ?_)
  obtain ⟨g1671, A1672, c1673, rfl, hk_⟩ := hR1669
  have hS1670 : St NoS w w1668 [rowR enc_Action A_p0_Actions c_p0_Actions p0.Actions, rowR encInt A_p1_Cells c_p1_Cells p1.Cells] [blk g1671 (.cells #[(.int .i64 t1666.m.States), (.int .i64 t1666.m.Symbols), (.slice A_p0_Actions p0.Actions.length c_p0_Actions), (.int .i64 t1666.Config.State), (.int .i64 t1666.Config.At), (.slice A1672 t1666.Config.Cells.length c1673)] 82 (0, 0)), rowO 3 encInt A1672 c1673 t1666.Config.Cells, blk g1527 (.cells #[(.int .i64 0), (.int .i64 0), (.slice none 0 0)] 27 (0, 0)), blk g1523 (.cells #[(.int .i64 p1.State), (.int .i64 p1.At), (.slice A_p1_Cells p1.Cells.length c_p1_Cells)] 27 (0, 0)), blk g1519 (.cells #[(.int .i64 p0.States), (.int .i64 p0.Symbols), (.slice A_p0_Actions p0.Actions.length c_p0_Actions)] 24 (0, 0))] := hS1623.call hk_ [] [0, 1, 2] (fun g hg => hg.elim) (by simp) (by decide)
  refine ⟨trivial, ?_⟩
  refine seg 4 [] [2, 6, 9] [(2, (.int .i64 p2)), (6, (.pointer (some ⟨g1527, 0, none⟩))), (9, (.pointer (some ⟨g1671, 0, none⟩)))] [] (fun fb => by kernel_rfl) rfl trivial ?_
  refine WL.done rfl ?_
  refine WX.next ?_
  refine WC.seq ?_
  refine WC.region ?_
  refine seg 1 [] [2, 6, 9, 10] [(2, (.int .i64 p2)), (6, (.pointer (some ⟨g1527, 0, none⟩))), (9, (.pointer (some ⟨g1671, 0, none⟩))), (10, (.int .i64 0))] [] (fun fb => by kernel_rfl) rfl trivial ?_
  refine WL.done rfl ?_
  refine WX.next ?_
  refine WC.seq ?_
  obtain ⟨x1999, hx2000, hf⟩ := bind_some hf
  refine WC.cutN (T := (Int × Int × Int × Int × (List Int) × Int) × (Option Addr) × Nat) (fun t => [(6, (.pointer (some ⟨g1527, 0, none⟩))), (9, (.pointer (some ⟨g1671, 0, none⟩))), (10, (.int .i64 t.1.2.2.2.2.2))]) (fun t w1 => St NoS w w1 [rowR enc_Action A_p0_Actions c_p0_Actions p0.Actions, rowR encInt A_p1_Cells c_p1_Cells p1.Cells] [blk g1527 (.cells #[(.int .i64 0), (.int .i64 0), (.slice none 0 0)] 27 (0, 0)), blk g1671 (.cells #[(.int .i64 t.1.1), (.int .i64 t.1.2.1), (.slice A_p0_Actions p0.Actions.length c_p0_Actions), (.int .i64 t.1.2.2.1), (.int .i64 t.1.2.2.2.1), (.slice t.2.1 t.1.2.2.2.2.1.length t.2.2)] 82 (0, 0)), rowO 3 encInt t.2.1 t.2.2 t.1.2.2.2.2.1] ∧ x1999 = t.1) (fun Kx1999 => ?_) ?_
  ·
    refine WC.block ?_
    refine WC.loop (T := (Int × Int × Int × Int × (List Int) × Int) × (Option Addr) × Nat) (fun t => [(2, (.int .i64 p2)), (6, (.pointer (some ⟨g1527, 0, none⟩))), (9, (.pointer (some ⟨g1671, 0, none⟩))), (10, (.int .i64 t.1.2.2.2.2.2))]) (fun n t w1 => St NoS w w1 [rowR enc_Action A_p0_Actions c_p0_Actions p0.Actions, rowR encInt A_p1_Cells c_p1_Cells p1.Cells] [blk g1527 (.cells #[(.int .i64 0), (.int .i64 0), (.slice none 0 0)] 27 (0, 0)), blk g1671 (.cells #[(.int .i64 t.1.1), (.int .i64 t.1.2.1), (.slice A_p0_Actions p0.Actions.length c_p0_Actions), (.int .i64 t.1.2.2.1), (.int .i64 t.1.2.2.2.1), (.slice t.2.1 t.1.2.2.2.2.1.length t.2.2)] 82 (0, 0)), rowO 3 encInt t.2.1 t.2.2 t.1.2.2.2.2.1] ∧ machine_Run.l0 n t.1.1 t.1.2.1 t.1.2.2.1 t.1.2.2.2.1 t.1.2.2.2.2.1 t.1.2.2.2.2.2 p0 p2 = some x1999) k ((t1666.m.States, t1666.m.Symbols, t1666.Config.State, t1666.Config.At, t1666.Config.Cells, 0), A1672, c1673) [2, 6, 9, 10] rfl ⟨(hS1670.subR [0, 1]).sub [2, 0, 1] (by decide), hx2000⟩ ?_
    rintro k2001 ⟨⟨x1983, x1984, x1985, x1986, l1989, x1990⟩, A1987, c1988⟩ w2002 ⟨hS2003, hl2004⟩
    cases k2001 with
    | zero => rw [machine_Run.l0] at hl2004; cases hl2004
    | succ k2001 =>
      rw [machine_Run.l0] at hl2004
      refine WC.seq ?_
      refine WC.seq ?_
      refine WC.region ?_
      refine seg 4 [] [2, 6, 9, 10, 29] [(2, (.int .i64 p2)), (6, (.pointer (some ⟨g1527, 0, none⟩))), (9, (.pointer (some ⟨g1671, 0, none⟩))), (10, (.int .i64 x1990)), (29, (.bool (decide (x1990 < p2))))] [] (fun fb => by kernel_rfl) rfl trivial ?_
      obtain ⟨x2020, hx2021, hl2004⟩ := bind_some hl2004
      refine WL.cutW (T := (Int × Int × Int × Int × (List Int) × Bool) × (Option Addr) × Nat) 8 (fun t => [(2, (.int .i64 p2)), (6, (.pointer (some ⟨g1527, 0, none⟩))), (9, (.pointer (some ⟨g1671, 0, none⟩))), (10, (.int .i64 x1990)), (33, (.bool t.1.2.2.2.2.2))]) (fun t w1 => (St NoS w w1 [rowR enc_Action A_p0_Actions c_p0_Actions p0.Actions, rowR encInt A_p1_Cells c_p1_Cells p1.Cells] [blk g1527 (.cells #[(.int .i64 0), (.int .i64 0), (.slice none 0 0)] 27 (0, 0)), blk g1671 (.cells #[(.int .i64 t.1.1), (.int .i64 t.1.2.1), (.slice A_p0_Actions p0.Actions.length c_p0_Actions), (.int .i64 t.1.2.2.1), (.int .i64 t.1.2.2.2.1), (.slice t.2.1 t.1.2.2.2.2.1.length t.2.2)] 82 (0, 0)), rowO 3 encInt t.2.1 t.2.2 t.1.2.2.2.2.1] ∧ x2020 = t.1) ∧ CellsOK [] w1) (fun K => ?_) ?_
      ·
        rcases br_some hx2021 with ⟨h2022, hx2021⟩ | ⟨h2022, hx2021⟩
        ·
          refine WL.setB 29 h2022 rfl ?_
          refine seg 5 [] [2, 6, 9, 10, 29, 30] [(2, (.int .i64 p2)), (6, (.pointer (some ⟨g1527, 0, none⟩))), (9, (.pointer (some ⟨g1671, 0, none⟩))), (10, (.int .i64 x1990)), (29, (.bool true)), (30, (.pointer (some ⟨g1671, 0, none⟩)))] [] (fun fb => by kernel_rfl) rfl trivial ?_
          obtain ⟨t2023, ht2024, hx2021⟩ := bind_some hx2021
          refine WL.call (some 31) 43 #[(.pointer (some ⟨g1671, 0, none⟩))] (fun fb => by kernel_rfl) (machine_runner_step_calls (Runner.mk (Machine.mk x1983 x1984 p0.Actions) (Config.mk x1985 x1986 l1989)) g1671 A_p0_Actions c_p0_Actions A1987 c1988 t2023 _ (hS2003.rdT [1, 2] 0) (hS2003.io [1, 2] (by decide)) ht2024) (fun v w2025 hR2026 => ?_)
          obtain ⟨A2028, c2029, rfl, hk_⟩ := hR2026
          have hS2027 : St NoS w w2025 [rowR enc_Action A_p0_Actions c_p0_Actions p0.Actions, rowR encInt A_p1_Cells c_p1_Cells p1.Cells] [blk g1671 (.cells #[(.int .i64 t2023.2.m.States), (.int .i64 t2023.2.m.Symbols), (.slice A_p0_Actions p0.Actions.length c_p0_Actions), (.int .i64 t2023.2.Config.State), (.int .i64 t2023.2.Config.At), (.slice A2028 t2023.2.Config.Cells.length c2029)] 82 (0, 0)), rowO 3 encInt A2028 c2029 t2023.2.Config.Cells, blk g1527 (.cells #[(.int .i64 0), (.int .i64 0), (.slice none 0 0)] 27 (0, 0))] := hS2003.call hk_ [1, 2] [0] (fun g hg => fpL_sel g hg) (by decide) (by decide)
          refine ⟨trivial, ?_⟩
          refine seg 8 [] [2, 6, 9, 10, 33] [(2, (.int .i64 p2)), (6, (.pointer (some ⟨g1527, 0, none⟩))), (9, (.pointer (some ⟨g1671, 0, none⟩))), (10, (.int .i64 x1990)), (33, (.bool (t2023.1 == 0)))] [] (fun fb => by kernel_rfl) rfl trivial ?_
          injection hx2021 with hx2021
          exact WL.to K ((t2023.2.m.States, t2023.2.m.Symbols, t2023.2.Config.State, t2023.2.Config.At, t2023.2.Config.Cells, t2023.1 == 0), A2028, c2029) [2, 6, 9, 10, 33] rfl ⟨⟨(hS2027.subR [0, 1]).sub [2, 0, 1] (by decide), hx2021.symm⟩, trivial⟩
        refine WL.setB 29 h2022 rfl ?_
        refine seg 8 [] [2, 6, 9, 10, 33] [(2, (.int .i64 p2)), (6, (.pointer (some ⟨g1527, 0, none⟩))), (9, (.pointer (some ⟨g1671, 0, none⟩))), (10, (.int .i64 x1990)), (33, (.bool false))] [] (fun fb => by kernel_rfl) rfl trivial ?_
        injection hx2021 with hx2021
        exact WL.to K ((x1983, x1984, x1985, x1986, l1989, false), A1987, c1988) [2, 6, 9, 10, 33] rfl ⟨⟨(hS2003.subR [0, 1]).sub [0, 1, 2] (by decide), hx2021.symm⟩, trivial⟩
      rintro ⟨y2030, A2016, c2017⟩ w2032 ⟨⟨hS2033, hq2031⟩, hF2034⟩
      subst hq2031
      refine WL.done rfl ?_
      refine WX.next ?_
      rcases br_some hl2004 with ⟨h2035, hl2004⟩ | ⟨h2035, hl2004⟩
      · refine WC.condT2 (fun fb => by kernel_rfl) h2035 ?_
        refine WC.skip ?_
        refine WX.next ?_
        refine WC.block ?_
        refine WC.region ?_
        refine seg 3 [] [2, 6, 9, 10] [(2, (.int .i64 p2)), (6, (.pointer (some ⟨g1527, 0, none⟩))), (9, (.pointer (some ⟨g1671, 0, none⟩))), (10, (.int .i64 (w64 (x1990 + 1))))] [] (fun fb => by kernel_rfl) rfl trivial ?_
        refine WL.done rfl ?_
        exact WX.blockN (WX.again k2001 (Nat.lt_succ_self _) ((x2020.1, x2020.2.1, x2020.2.2.1, x2020.2.2.2.1, x2020.2.2.2.2.1, w64 (x1990 + 1)), A2016, c2017) [2, 6, 9, 10] rfl ⟨(hS2033.subR [0, 1]).sub [0, 1, 2] (by decide), hl2004⟩)
      refine WC.condF2 (fun fb => by kernel_rfl) h2035 ?_
      refine WC.exit ?_
      injection hl2004 with hl2004
      exact WX.thenX (WX.thenX (WX.blockHere (WX.to Kx1999 ((x2020.1, x2020.2.1, x2020.2.2.1, x2020.2.2.2.1, x2020.2.2.2.2.1, x1990), A2016, c2017) [6, 9, 10] rfl ⟨(hS2033.subR [0, 1]).sub [0, 1, 2] (by decide), hl2004.symm⟩)))
  rintro ⟨y2039, A1995, c1996⟩ w2036 ⟨hS2037, hq2038⟩
  subst hq2038
  refine WX.next ?_
  refine WC.seq ?_
  refine WC.region ?_
  refine seg 5 [.v (.int .i64 x1999.2.2.1), .v (.int .i64 x1999.2.2.2.1), .v (.slice A1995 x1999.2.2.2.2.1.length c1996)] [6, 39, 40] [(6, (.pointer (some ⟨g1527, 0, none⟩))), (39, (.agg #[(.int .i64 x1999.2.2.1), (.int .i64 x1999.2.2.2.1), (.slice A1995 x1999.2.2.2.2.1.length c1996)])), (40, (.int .i64 x1999.2.2.2.2.2))] [.cell ⟨g1671, 3, none⟩ (.int .i64 x1999.2.2.1), .cell ⟨g1671, 4, none⟩ (.int .i64 x1999.2.2.2.1), .cell ⟨g1671, 5, none⟩ (.slice A1995 x1999.2.2.2.2.1.length c1996)] (fun fb => by kernel_rfl) rfl ⟨hS2037.cell 1 rfl 3 rfl, hS2037.cell 1 rfl 4 rfl, hS2037.cell 1 rfl 5 rfl, trivial⟩ ?_
  refine WL.store hS2037 0 rfl [(0, (.int .i64 x1999.2.2.1)), (1, (.int .i64 x1999.2.2.2.1)), (2, (.slice A1995 x1999.2.2.2.2.1.length c1996))] #[(.int .i64 x1999.2.2.1), (.int .i64 x1999.2.2.2.1), (.slice A1995 x1999.2.2.2.2.1.length c1996)] (fun fb => by kernel_rfl) (by kernel_rfl) rfl [1, 2] (by decide) (by decide) (fun w2040 hS2041 => ?_)
  refine ⟨trivial, ?_⟩
  refine seg 8 [] [6, 7, 8] [(6, (.pointer (some ⟨g1527, 0, none⟩))), (7, (.int .i64 x1999.2.2.2.2.2)), (8, (.int .i64 0))] [] (fun fb => by kernel_rfl) rfl trivial ?_
  refine WL.done rfl ?_
  refine WX.next ?_
  refine WC.ret ?_
  injection hf with hf
  subst hf
  exact WX.ret_ [.v (.int .i64 x1999.2.2.1), .v (.int .i64 x1999.2.2.2.1), .v (.slice A1995 x1999.2.2.2.2.1.length c1996)] (.tuple #[(.agg #[(.int .i64 x1999.2.2.1), (.int .i64 x1999.2.2.2.1), (.slice A1995 x1999.2.2.2.2.1.length c1996)]), (.int .i64 x1999.2.2.2.2.2), (.int .i64 0)]) [.cell ⟨g1527, 0, none⟩ (.int .i64 x1999.2.2.1), .cell ⟨g1527, 1, none⟩ (.int .i64 x1999.2.2.2.1), .cell ⟨g1527, 2, none⟩ (.slice A1995 x1999.2.2.2.2.1.length c1996)] (fun fb => by kernel_rfl) ⟨hS2041.cell 0 rfl 0 rfl, hS2041.cell 0 rfl 1 rfl, hS2041.cell 0 rfl 2 rfl, trivial⟩ ⟨_, rfl, A1995, c1996, rfl, (hS2041.sub [2] (by decide)).noR⟩
end Gp
