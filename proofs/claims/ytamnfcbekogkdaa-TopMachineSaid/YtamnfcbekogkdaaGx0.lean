/- Walks: each function of the program computes its plain function. -/
import Derived.Test.YtamnfcbekogkdaaGp
set_option linter.unusedVariables false
set_option linter.unusedSimpArgs false
namespace Gp
open Go Gw Go.Proofs
theorem machine_action_calls (p0 : Machine) (p1 : Action) (A_p0_Actions : Option Addr) (c_p0_Actions : Nat) (r : Bool) (w : World) (hR0 : RO NoS w (rowR enc_Action A_p0_Actions c_p0_Actions p0.Actions)) (hf : machine_action p0 p1 = some r) :
    CallsR Try.prog 48 #[(.agg #[(.int .i64 p0.States), (.int .i64 p0.Symbols), (.slice A_p0_Actions p0.Actions.length c_p0_Actions)]), (.agg #[(.int .i64 p1.Write), (.int .i64 p1.Move), (.int .i64 p1.Next)])] w (fun v w' => v = (.bool r) ∧ Keeps NoS w w') := by
  have hS : St NoS w w [rowR enc_Action A_p0_Actions c_p0_Actions p0.Actions] [] := St.init (ro_cons hR0 (ro_nil _ _))
  refine enter 50 Try.func48 rfl Try.ntmps48 rfl ?_
  unfold machine_action at hf
  refine WC.seq ?_
  refine WC.region ?_
  refine WL.new hS 2 [] (fun g => (.pointer (some ⟨g, 0, none⟩))) (.cells #[(.int .i64 p0.States), (.int .i64 p0.Symbols), (.slice A_p0_Actions p0.Actions.length c_p0_Actions)] 24 (0, 0)) [] (fun fb g => by kernel_rfl) trivial (fun g41 w42 hS43 => ?_)
  refine ⟨trivial, ?_⟩
  refine WL.new hS43 3 [] (fun g => (.pointer (some ⟨g, 0, none⟩))) (.cells #[(.int .i64 p1.Write), (.int .i64 p1.Move), (.int .i64 p1.Next)] 88 (0, 0)) [] (fun fb g => by kernel_rfl) trivial (fun g45 w46 hS47 => ?_)
  refine ⟨trivial, ?_⟩
  refine seg 3 [] [2, 3] [(2, (.pointer (some ⟨g41, 0, none⟩))), (3, (.pointer (some ⟨g45, 0, none⟩)))] [] (fun fb => by kernel_rfl) rfl trivial ?_
  refine WL.done rfl ?_
  refine WX.next ?_
  refine WC.seq ?_
  refine WC.seq ?_
  refine WC.region ?_
  refine seg 5 [.v (.int .i64 p1.Next), .v (.int .i64 p0.States)] [2, 3, 9] [(2, (.pointer (some ⟨g41, 0, none⟩))), (3, (.pointer (some ⟨g45, 0, none⟩))), (9, (.bool (p1.Next == p0.States)))] [.cell ⟨g45, 2, none⟩ (.int .i64 p1.Next), .cell ⟨g41, 0, none⟩ (.int .i64 p0.States)] (fun fb => by kernel_rfl) rfl ⟨hS47.cell 0 rfl 2 rfl, hS47.cell 1 rfl 0 rfl, trivial⟩ ?_
  refine WL.done rfl ?_
  refine WX.next ?_
  rcases br_some hf with ⟨h49, hf⟩ | ⟨h49, hf⟩
  · refine WC.condT2 (fun fb => by kernel_rfl) h49 ?_
    refine WC.seq ?_
    refine WC.region ?_
    refine seg 4 [.v (.int .i64 p1.Write)] [3, 13] [(3, (.pointer (some ⟨g45, 0, none⟩))), (13, (.bool (p1.Write == 0)))] [.cell ⟨g45, 0, none⟩ (.int .i64 p1.Write)] (fun fb => by kernel_rfl) rfl ⟨hS47.cell 0 rfl 0 rfl, trivial⟩ ?_
    refine WL.cutV (T := Bool) 8 (fun t => [(17, (.bool t))]) (fun t => t = ((p1.Write == 0) && (p1.Move == 0))) (fun K => ?_) ?_
    ·
      rcases Bool.eq_false_or_eq_true (p1.Write == 0) with h50 | h50
      ·
        refine WL.setB 13 h50 rfl ?_
        refine seg 8 [.v (.int .i64 p1.Move)] [17] [(17, (.bool (p1.Move == 0)))] [.cell ⟨g45, 1, none⟩ (.int .i64 p1.Move)] (fun fb => by kernel_rfl) rfl ⟨hS47.cell 0 rfl 1 rfl, trivial⟩ ?_
        exact WL.toV K (p1.Move == 0) [17] rfl (by rw [h50]; rfl)
      refine WL.setB 13 h50 rfl ?_
      refine seg 8 [] [17] [(17, (.bool false))] [] (fun fb => by kernel_rfl) rfl trivial ?_
      exact WL.toV K false [17] rfl (by rw [h50]; rfl)
    rintro b51 rfl
    refine seg 9 [] [4] [(4, (.bool ((p1.Write == 0) && (p1.Move == 0))))] [] (fun fb => by kernel_rfl) rfl trivial ?_
    refine WL.done rfl ?_
    refine WX.next ?_
    refine WC.ret ?_
    injection hf with hf
    subst hf
    exact WX.thenR (WX.ret_ [] (.bool ((p1.Write == 0) && (p1.Move == 0))) [] (fun fb => by kernel_rfl) trivial ⟨_, rfl, rfl, hS47.keep⟩)
  refine WC.condF2 (fun fb => by kernel_rfl) h49 ?_
  refine WC.skip ?_
  refine WX.next ?_
  refine WC.seq ?_
  refine WC.region ?_
  refine seg 4 [.v (.int .i64 p1.Write)] [2, 3, 21] [(2, (.pointer (some ⟨g41, 0, none⟩))), (3, (.pointer (some ⟨g45, 0, none⟩))), (21, (.bool (decide (p1.Write ≥ 0))))] [.cell ⟨g45, 0, none⟩ (.int .i64 p1.Write)] (fun fb => by kernel_rfl) rfl ⟨hS47.cell 0 rfl 0 rfl, trivial⟩ ?_
  refine WL.cutV (T := Bool) 10 (fun t => [(27, (.bool t)), (2, (.pointer (some ⟨g41, 0, none⟩))), (3, (.pointer (some ⟨g45, 0, none⟩)))]) (fun t => t = ((decide (p1.Write ≥ 0)) && (decide (p1.Write < p0.Symbols)))) (fun K => ?_) ?_
  ·
    rcases Bool.eq_false_or_eq_true (decide (p1.Write ≥ 0)) with h52 | h52
    ·
      refine WL.setB 21 h52 rfl ?_
      refine seg 10 [.v (.int .i64 p1.Write), .v (.int .i64 p0.Symbols)] [2, 3, 27] [(2, (.pointer (some ⟨g41, 0, none⟩))), (3, (.pointer (some ⟨g45, 0, none⟩))), (27, (.bool (decide (p1.Write < p0.Symbols))))] [.cell ⟨g45, 0, none⟩ (.int .i64 p1.Write), .cell ⟨g41, 1, none⟩ (.int .i64 p0.Symbols)] (fun fb => by kernel_rfl) rfl ⟨hS47.cell 0 rfl 0 rfl, hS47.cell 1 rfl 1 rfl, trivial⟩ ?_
      exact WL.toV K (decide (p1.Write < p0.Symbols)) [27, 2, 3] rfl (by rw [h52]; rfl)
    refine WL.setB 21 h52 rfl ?_
    refine seg 10 [] [2, 3, 27] [(2, (.pointer (some ⟨g41, 0, none⟩))), (3, (.pointer (some ⟨g45, 0, none⟩))), (27, (.bool false))] [] (fun fb => by kernel_rfl) rfl trivial ?_
    exact WL.toV K false [27, 2, 3] rfl (by rw [h52]; rfl)
  rintro b53 rfl
  refine seg 11 [] [2, 3, 28] [(2, (.pointer (some ⟨g41, 0, none⟩))), (3, (.pointer (some ⟨g45, 0, none⟩))), (28, (.bool ((decide (p1.Write ≥ 0)) && (decide (p1.Write < p0.Symbols)))))] [] (fun fb => by kernel_rfl) rfl trivial ?_
  refine WL.cutV (T := Bool) 15 (fun t => [(32, (.bool t)), (2, (.pointer (some ⟨g41, 0, none⟩))), (3, (.pointer (some ⟨g45, 0, none⟩)))]) (fun t => t = (((decide (p1.Write ≥ 0)) && (decide (p1.Write < p0.Symbols))) && (decide (p1.Move ≥ 0)))) (fun K => ?_) ?_
  ·
    rcases Bool.eq_false_or_eq_true ((decide (p1.Write ≥ 0)) && (decide (p1.Write < p0.Symbols))) with h54 | h54
    ·
      refine WL.setB 28 h54 rfl ?_
      refine seg 15 [.v (.int .i64 p1.Move)] [2, 3, 32] [(2, (.pointer (some ⟨g41, 0, none⟩))), (3, (.pointer (some ⟨g45, 0, none⟩))), (32, (.bool (decide (p1.Move ≥ 0))))] [.cell ⟨g45, 1, none⟩ (.int .i64 p1.Move)] (fun fb => by kernel_rfl) rfl ⟨hS47.cell 0 rfl 1 rfl, trivial⟩ ?_
      exact WL.toV K (decide (p1.Move ≥ 0)) [32, 2, 3] rfl (by rw [h54]; rfl)
    refine WL.setB 28 h54 rfl ?_
    refine seg 15 [] [2, 3, 32] [(2, (.pointer (some ⟨g41, 0, none⟩))), (3, (.pointer (some ⟨g45, 0, none⟩))), (32, (.bool false))] [] (fun fb => by kernel_rfl) rfl trivial ?_
    exact WL.toV K false [32, 2, 3] rfl (by rw [h54]; rfl)
  rintro b55 rfl
  refine seg 16 [] [2, 3, 33] [(2, (.pointer (some ⟨g41, 0, none⟩))), (3, (.pointer (some ⟨g45, 0, none⟩))), (33, (.bool (((decide (p1.Write ≥ 0)) && (decide (p1.Write < p0.Symbols))) && (decide (p1.Move ≥ 0)))))] [] (fun fb => by kernel_rfl) rfl trivial ?_
  refine WL.cutV (T := Bool) 20 (fun t => [(37, (.bool t)), (2, (.pointer (some ⟨g41, 0, none⟩))), (3, (.pointer (some ⟨g45, 0, none⟩)))]) (fun t => t = ((((decide (p1.Write ≥ 0)) && (decide (p1.Write < p0.Symbols))) && (decide (p1.Move ≥ 0))) && (decide (p1.Move < 2)))) (fun K => ?_) ?_
  ·
    rcases Bool.eq_false_or_eq_true (((decide (p1.Write ≥ 0)) && (decide (p1.Write < p0.Symbols))) && (decide (p1.Move ≥ 0))) with h56 | h56
    ·
      refine WL.setB 33 h56 rfl ?_
      refine seg 20 [.v (.int .i64 p1.Move)] [2, 3, 37] [(2, (.pointer (some ⟨g41, 0, none⟩))), (3, (.pointer (some ⟨g45, 0, none⟩))), (37, (.bool (decide (p1.Move < 2))))] [.cell ⟨g45, 1, none⟩ (.int .i64 p1.Move)] (fun fb => by kernel_rfl) rfl ⟨hS47.cell 0 rfl 1 rfl, trivial⟩ ?_
      exact WL.toV K (decide (p1.Move < 2)) [37, 2, 3] rfl (by rw [h56]; rfl)
    refine WL.setB 33 h56 rfl ?_
    refine seg 20 [] [2, 3, 37] [(2, (.pointer (some ⟨g41, 0, none⟩))), (3, (.pointer (some ⟨g45, 0, none⟩))), (37, (.bool false))] [] (fun fb => by kernel_rfl) rfl trivial ?_
    exact WL.toV K false [37, 2, 3] rfl (by rw [h56]; rfl)
  rintro b57 rfl
  refine seg 21 [] [2, 3, 38] [(2, (.pointer (some ⟨g41, 0, none⟩))), (3, (.pointer (some ⟨g45, 0, none⟩))), (38, (.bool ((((decide (p1.Write ≥ 0)) && (decide (p1.Write < p0.Symbols))) && (decide (p1.Move ≥ 0))) && (decide (p1.Move < 2)))))] [] (fun fb => by kernel_rfl) rfl trivial ?_
  refine WL.cutV (T := Bool) 25 (fun t => [(42, (.bool t)), (2, (.pointer (some ⟨g41, 0, none⟩))), (3, (.pointer (some ⟨g45, 0, none⟩)))]) (fun t => t = (((((decide (p1.Write ≥ 0)) && (decide (p1.Write < p0.Symbols))) && (decide (p1.Move ≥ 0))) && (decide (p1.Move < 2))) && (decide (p1.Next ≥ 0)))) (fun K => ?_) ?_
  ·
    rcases Bool.eq_false_or_eq_true ((((decide (p1.Write ≥ 0)) && (decide (p1.Write < p0.Symbols))) && (decide (p1.Move ≥ 0))) && (decide (p1.Move < 2))) with h58 | h58
    ·
      refine WL.setB 38 h58 rfl ?_
      refine seg 25 [.v (.int .i64 p1.Next)] [2, 3, 42] [(2, (.pointer (some ⟨g41, 0, none⟩))), (3, (.pointer (some ⟨g45, 0, none⟩))), (42, (.bool (decide (p1.Next ≥ 0))))] [.cell ⟨g45, 2, none⟩ (.int .i64 p1.Next)] (fun fb => by kernel_rfl) rfl ⟨hS47.cell 0 rfl 2 rfl, trivial⟩ ?_
      exact WL.toV K (decide (p1.Next ≥ 0)) [42, 2, 3] rfl (by rw [h58]; rfl)
    refine WL.setB 38 h58 rfl ?_
    refine seg 25 [] [2, 3, 42] [(2, (.pointer (some ⟨g41, 0, none⟩))), (3, (.pointer (some ⟨g45, 0, none⟩))), (42, (.bool false))] [] (fun fb => by kernel_rfl) rfl trivial ?_
    exact WL.toV K false [42, 2, 3] rfl (by rw [h58]; rfl)
  rintro b59 rfl
  refine seg 26 [] [2, 3, 43] [(2, (.pointer (some ⟨g41, 0, none⟩))), (3, (.pointer (some ⟨g45, 0, none⟩))), (43, (.bool (((((decide (p1.Write ≥ 0)) && (decide (p1.Write < p0.Symbols))) && (decide (p1.Move ≥ 0))) && (decide (p1.Move < 2))) && (decide (p1.Next ≥ 0)))))] [] (fun fb => by kernel_rfl) rfl trivial ?_
  refine WL.cutV (T := Bool) 32 (fun t => [(49, (.bool t))]) (fun t => t = ((((((decide (p1.Write ≥ 0)) && (decide (p1.Write < p0.Symbols))) && (decide (p1.Move ≥ 0))) && (decide (p1.Move < 2))) && (decide (p1.Next ≥ 0))) && (decide (p1.Next < p0.States)))) (fun K => ?_) ?_
  ·
    rcases Bool.eq_false_or_eq_true (((((decide (p1.Write ≥ 0)) && (decide (p1.Write < p0.Symbols))) && (decide (p1.Move ≥ 0))) && (decide (p1.Move < 2))) && (decide (p1.Next ≥ 0))) with h60 | h60
    ·
      refine WL.setB 43 h60 rfl ?_
      refine seg 32 [.v (.int .i64 p1.Next), .v (.int .i64 p0.States)] [49] [(49, (.bool (decide (p1.Next < p0.States))))] [.cell ⟨g45, 2, none⟩ (.int .i64 p1.Next), .cell ⟨g41, 0, none⟩ (.int .i64 p0.States)] (fun fb => by kernel_rfl) rfl ⟨hS47.cell 0 rfl 2 rfl, hS47.cell 1 rfl 0 rfl, trivial⟩ ?_
      exact WL.toV K (decide (p1.Next < p0.States)) [49] rfl (by rw [h60]; rfl)
    refine WL.setB 43 h60 rfl ?_
    refine seg 32 [] [49] [(49, (.bool false))] [] (fun fb => by kernel_rfl) rfl trivial ?_
    exact WL.toV K false [49] rfl (by rw [h60]; rfl)
  rintro b61 rfl
  refine seg 33 [] [4] [(4, (.bool ((((((decide (p1.Write ≥ 0)) && (decide (p1.Write < p0.Symbols))) && (decide (p1.Move ≥ 0))) && (decide (p1.Move < 2))) && (decide (p1.Next ≥ 0))) && (decide (p1.Next < p0.States)))))] [] (fun fb => by kernel_rfl) rfl trivial ?_
  refine WL.done rfl ?_
  refine WX.next ?_
  refine WC.ret ?_
  injection hf with hf
  subst hf
  exact WX.ret_ [] (.bool ((((((decide (p1.Write ≥ 0)) && (decide (p1.Write < p0.Symbols))) && (decide (p1.Move ≥ 0))) && (decide (p1.Move < 2))) && (decide (p1.Next ≥ 0))) && (decide (p1.Next < p0.States)))) [] (fun fb => by kernel_rfl) trivial ⟨_, rfl, rfl, hS47.keep⟩
theorem machine_Valid_1_calls (p0 : Action) (f0 : Machine) (g_f0 : Nat) (A_f0_Actions : Option Addr) (c_f0_Actions : Nat) (r : Bool) (w : World) (hR0 : RO NoS w (blk g_f0 (.cells #[(.int .i64 f0.States), (.int .i64 f0.Symbols), (.slice A_f0_Actions f0.Actions.length c_f0_Actions)] 24 (0, 0)))) (hR1 : RO NoS w (rowR enc_Action A_f0_Actions c_f0_Actions f0.Actions)) (hf : machine_Valid_1 p0 f0 = some r) :
    CallsR Try.prog 47 #[(.agg #[(.int .i64 p0.Write), (.int .i64 p0.Move), (.int .i64 p0.Next)]), (.pointer (some ⟨g_f0, 0, none⟩))] w (fun v w' => v = (.bool r) ∧ Keeps NoS w w') := by
  have hS : St NoS w w [blk g_f0 (.cells #[(.int .i64 f0.States), (.int .i64 f0.Symbols), (.slice A_f0_Actions f0.Actions.length c_f0_Actions)] 24 (0, 0)), rowR enc_Action A_f0_Actions c_f0_Actions f0.Actions] [] := St.init (ro_cons hR0 (ro_cons hR1 (ro_nil _ _)))
  refine enter 8 Try.func47 rfl Try.ntmps47 rfl ?_
  unfold machine_Valid_1 at hf
  refine WC.seq ?_
  refine WC.region ?_
  refine WL.new hS 2 [] (fun g => (.pointer (some ⟨g, 0, none⟩))) (.cells #[(.int .i64 p0.Write), (.int .i64 p0.Move), (.int .i64 p0.Next)] 88 (0, 0)) [] (fun fb g => by kernel_rfl) trivial (fun g37 w38 hS39 => ?_)
  refine ⟨trivial, ?_⟩
  refine seg 2 [] [1, 2] [(1, (.pointer (some ⟨g_f0, 0, none⟩))), (2, (.pointer (some ⟨g37, 0, none⟩)))] [] (fun fb => by kernel_rfl) rfl trivial ?_
  refine WL.done rfl ?_
  refine WX.next ?_
  refine WC.seq ?_
  refine WC.region ?_
  refine seg 2 [.v (.int .i64 f0.States), .v (.int .i64 f0.Symbols), .v (.slice A_f0_Actions f0.Actions.length c_f0_Actions), .v (.int .i64 p0.Write), .v (.int .i64 p0.Move), .v (.int .i64 p0.Next)] [4, 5] [(4, (.agg #[(.int .i64 f0.States), (.int .i64 f0.Symbols), (.slice A_f0_Actions f0.Actions.length c_f0_Actions)])), (5, (.agg #[(.int .i64 p0.Write), (.int .i64 p0.Move), (.int .i64 p0.Next)]))] [.cell ⟨g_f0, 0, none⟩ (.int .i64 f0.States), .cell ⟨g_f0, 1, none⟩ (.int .i64 f0.Symbols), .cell ⟨g_f0, 2, none⟩ (.slice A_f0_Actions f0.Actions.length c_f0_Actions), .cell ⟨g37, 0, none⟩ (.int .i64 p0.Write), .cell ⟨g37, 1, none⟩ (.int .i64 p0.Move), .cell ⟨g37, 2, none⟩ (.int .i64 p0.Next)] (fun fb => by kernel_rfl) rfl ⟨blk_cell (hS39.rd 0).1 0 rfl, blk_cell (hS39.rd 0).1 1 rfl, blk_cell (hS39.rd 0).1 2 rfl, hS39.cell 0 rfl 0 rfl, hS39.cell 0 rfl 1 rfl, hS39.cell 0 rfl 2 rfl, trivial⟩ ?_
  obtain ⟨t62, ht63, hf⟩ := bind_some hf
  refine WL.call (some 6) 48 #[(.agg #[(.int .i64 f0.States), (.int .i64 f0.Symbols), (.slice A_f0_Actions f0.Actions.length c_f0_Actions)]), (.agg #[(.int .i64 p0.Write), (.int .i64 p0.Move), (.int .i64 p0.Next)])] (fun fb => by kernel_rfl) (machine_action_calls f0 p0 A_f0_Actions c_f0_Actions t62 _ (hS39.rd 1) ht63) (fun v w64 hR65 => ?_)
  obtain ⟨rfl, hk_⟩ := hR65
  have hS66 := hS39.keepN hk_
  refine ⟨trivial, ?_⟩
  refine seg 5 [] [3] [(3, (.bool (!t62)))] [] (fun fb => by kernel_rfl) rfl trivial ?_
  refine WL.done rfl ?_
  refine WX.next ?_
  refine WC.ret ?_
  injection hf with hf
  subst hf
  exact WX.ret_ [] (.bool (!t62)) [] (fun fb => by kernel_rfl) trivial ⟨_, rfl, rfl, hS66.keep⟩
theorem slices_IndexFunc_api_Action_api_Action_with_machine_Valid_1_calls (k : Nat) (p0 : List Action) (p1_0 : Machine) (A_p0 : Option Addr) (c_p0 : Nat) (g_p1_0 : Nat) (A_p1_0_Actions : Option Addr) (c_p1_0_Actions : Nat) (r : Int) (w : World) (hR0 : RO NoS w (rowR enc_Action A_p0 c_p0 p0)) (hR1 : RO NoS w (blk g_p1_0 (.cells #[(.int .i64 p1_0.States), (.int .i64 p1_0.Symbols), (.slice A_p1_0_Actions p1_0.Actions.length c_p1_0_Actions)] 24 (0, 0)))) (hR2 : RO NoS w (rowR enc_Action A_p1_0_Actions c_p1_0_Actions p1_0.Actions)) (hf : slices_IndexFunc_api_Action_api_Action_with_machine_Valid_1 k p0 p1_0 = some r) :
    CallsR Try.prog 64 #[(.slice A_p0 p0.length c_p0), (.func (.func 47) #[] #[(.pointer (some ⟨g_p1_0, 0, none⟩))])] w (fun v w' => v = (.int .i64 r) ∧ Keeps NoS w w') := by
  have hS : St NoS w w [rowR enc_Action A_p0 c_p0 p0, blk g_p1_0 (.cells #[(.int .i64 p1_0.States), (.int .i64 p1_0.Symbols), (.slice A_p1_0_Actions p1_0.Actions.length c_p1_0_Actions)] 24 (0, 0)), rowR enc_Action A_p1_0_Actions c_p1_0_Actions p1_0.Actions] [] := St.init (ro_cons hR0 (ro_cons hR1 (ro_cons hR2 (ro_nil _ _))))
  refine enter 19 Try.func64 rfl Try.ntmps64 rfl ?_
  unfold slices_IndexFunc_api_Action_api_Action_with_machine_Valid_1 at hf
  refine WC.seq ?_
  refine WC.region ?_
  refine seg 1 [] [0, 1] [(0, (.slice A_p0 p0.length c_p0)), (1, (.func (.func 47) #[] #[(.pointer (some ⟨g_p1_0, 0, none⟩))]))] [] (fun fb => by kernel_rfl) rfl trivial ?_
  refine WL.done rfl ?_
  refine WX.next ?_
  refine WC.seq ?_
  refine WC.seq ?_
  refine WC.region ?_
  refine seg 3 [] [0, 1, 7, 8] [(0, (.slice A_p0 p0.length c_p0)), (1, (.func (.func 47) #[] #[(.pointer (some ⟨g_p1_0, 0, none⟩))])), (7, (.int .i64 (p0.length : Int))), (8, (.int .i64 0))] [] (fun fb => by kernel_rfl) rfl trivial ?_
  refine WL.done rfl ?_
  refine WX.next ?_
  obtain ⟨x83, hx84, hf⟩ := bind_some hf
  refine WC.cutN (T := Unit) (fun t => []) (fun t w1 => St NoS w w1 [rowR enc_Action A_p0 c_p0 p0, blk g_p1_0 (.cells #[(.int .i64 p1_0.States), (.int .i64 p1_0.Symbols), (.slice A_p1_0_Actions p1_0.Actions.length c_p1_0_Actions)] 24 (0, 0)), rowR enc_Action A_p1_0_Actions c_p1_0_Actions p1_0.Actions] [] ∧ x83 = .inr t) (fun Kx83 => ?_) ?_
  ·
    refine WC.block ?_
    refine WC.loop (T := Int) (fun t => [(0, (.slice A_p0 p0.length c_p0)), (1, (.func (.func 47) #[] #[(.pointer (some ⟨g_p1_0, 0, none⟩))])), (7, (.int .i64 (p0.length : Int))), (8, (.int .i64 t))]) (fun n t w1 => St NoS w w1 [rowR enc_Action A_p0 c_p0 p0, blk g_p1_0 (.cells #[(.int .i64 p1_0.States), (.int .i64 p1_0.Symbols), (.slice A_p1_0_Actions p1_0.Actions.length c_p1_0_Actions)] 24 (0, 0)), rowR enc_Action A_p1_0_Actions c_p1_0_Actions p1_0.Actions] [] ∧ slices_IndexFunc_api_Action_api_Action_with_machine_Valid_1.l0 n t p0 p1_0 = some x83) k 0 [0, 1, 7, 8] rfl ⟨(hS.subR [0, 1, 2]).sub [] (by decide), hx84⟩ ?_
    rintro k85 x82 w86 ⟨hS87, hl88⟩
    cases k85 with
    | zero => rw [slices_IndexFunc_api_Action_api_Action_with_machine_Valid_1.l0] at hl88; cases hl88
    | succ k85 =>
      rw [slices_IndexFunc_api_Action_api_Action_with_machine_Valid_1.l0] at hl88
      refine WC.seq ?_
      refine WC.region ?_
      refine seg 1 [] [0, 1, 7, 8, 9] [(0, (.slice A_p0 p0.length c_p0)), (1, (.func (.func 47) #[] #[(.pointer (some ⟨g_p1_0, 0, none⟩))])), (7, (.int .i64 (p0.length : Int))), (8, (.int .i64 x82)), (9, (.bool (decide (x82 < (p0.length : Int)))))] [] (fun fb => by kernel_rfl) rfl trivial ?_
      refine WL.done rfl ?_
      refine WX.next ?_
      refine WC.seq ?_
      rcases br_some hl88 with ⟨h89, hl88⟩ | ⟨h89, hl88⟩
      · refine WC.condT2 (fun fb => by kernel_rfl) h89 ?_
        refine WC.skip ?_
        refine WX.next ?_
        refine WC.seq ?_
        refine WC.block ?_
        refine WC.seq ?_
        refine WC.region ?_
        refine seg 2 [] [0, 1, 5, 7, 8] [(0, (.slice A_p0 p0.length c_p0)), (1, (.func (.func 47) #[] #[(.pointer (some ⟨g_p1_0, 0, none⟩))])), (5, (.int .i64 x82)), (7, (.int .i64 (p0.length : Int))), (8, (.int .i64 x82))] [] (fun fb => by kernel_rfl) rfl trivial ?_
        refine WL.done rfl ?_
        refine WX.next ?_
        refine WC.seq ?_
        refine WC.region ?_
        refine seg 3 [] [0, 1, 5, 7, 8, 11, 12, 13] [(0, (.slice A_p0 p0.length c_p0)), (1, (.func (.func 47) #[] #[(.pointer (some ⟨g_p1_0, 0, none⟩))])), (5, (.int .i64 x82)), (7, (.int .i64 (p0.length : Int))), (8, (.int .i64 x82)), (11, (.func (.func 47) #[] #[(.pointer (some ⟨g_p1_0, 0, none⟩))])), (12, (.slice A_p0 p0.length c_p0)), (13, (.int .i64 x82))] [] (fun fb => by kernel_rfl) rfl trivial ?_
        obtain ⟨h90, hl88⟩ := as_some hl88
        refine seg 5 [.v (.int .i64 ((rdD p0 x82 z_Action).Write)), .v (.int .i64 ((rdD p0 x82 z_Action).Move)), .v (.int .i64 ((rdD p0 x82 z_Action).Next))] [0, 1, 5, 7, 8, 11, 15] [(0, (.slice A_p0 p0.length c_p0)), (1, (.func (.func 47) #[] #[(.pointer (some ⟨g_p1_0, 0, none⟩))])), (5, (.int .i64 x82)), (7, (.int .i64 (p0.length : Int))), (8, (.int .i64 x82)), (11, (.func (.func 47) #[] #[(.pointer (some ⟨g_p1_0, 0, none⟩))])), (15, (.agg #[(.int .i64 ((rdD p0 x82 z_Action).Write)), (.int .i64 ((rdD p0 x82 z_Action).Move)), (.int .i64 ((rdD p0 x82 z_Action).Next))]))] [.idx A_p0 x82 p0.length, .cell ((adr A_p0).add ((x82).toNat * 3)) (.int .i64 ((rdD p0 x82 z_Action).Write)), .cell (((adr A_p0).add ((x82).toNat * 3)).add 1) (.int .i64 ((rdD p0 x82 z_Action).Move)), .cell (((adr A_p0).add ((x82).toNat * 3)).add 2) (.int .i64 ((rdD p0 x82 z_Action).Next))] (fun fb => by kernel_rfl) rfl ⟨rowR.adr (hS87.rd 0).1 h90.1 h90.2, rowR.cell (hS87.rd 0).1 z_Action h90.1 h90.2 0 rfl, rowR.cell (hS87.rd 0).1 z_Action h90.1 h90.2 1 rfl, rowR.cell (hS87.rd 0).1 z_Action h90.1 h90.2 2 rfl, trivial⟩ ?_
        obtain ⟨t91, ht92, hl88⟩ := bind_some hl88
        refine WL.call (some 16) 47 #[(.agg #[(.int .i64 ((rdD p0 x82 z_Action).Write)), (.int .i64 ((rdD p0 x82 z_Action).Move)), (.int .i64 ((rdD p0 x82 z_Action).Next))]), (.pointer (some ⟨g_p1_0, 0, none⟩))] (fun fb => by kernel_rfl) (machine_Valid_1_calls (rdD p0 x82 z_Action) p1_0 g_p1_0 A_p1_0_Actions c_p1_0_Actions t91 _ (hS87.rd 1) (hS87.rd 2) ht92) (fun v w93 hR94 => ?_)
        obtain ⟨rfl, hk_⟩ := hR94
        have hS95 := hS87.keepN hk_
        refine ⟨trivial, ?_⟩
        refine WL.done rfl ?_
        refine WX.next ?_
        rcases br_some hl88 with ⟨h96, hl88⟩ | ⟨h96, hl88⟩
        · refine WC.condT2 (fun fb => by kernel_rfl) h96 ?_
          refine WC.seq ?_
          refine WC.region ?_
          refine seg 2 [] [4] [(4, (.int .i64 x82))] [] (fun fb => by kernel_rfl) rfl trivial ?_
          refine WL.done rfl ?_
          refine WX.next ?_
          refine WC.ret ?_
          injection hl88 with hl88
          subst hl88
          injection hf with hf
          subst hf
          exact WX.blockR (WX.thenR (WX.thenR (WX.blockR (WX.thenR (WX.ret_ [] (.int .i64 x82) [] (fun fb => by kernel_rfl) trivial ⟨_, rfl, rfl, hS95.keep⟩)))))
        refine WC.condF2 (fun fb => by kernel_rfl) h96 ?_
        refine WC.skip ?_
        refine WX.blockN (WX.next ?_)
        refine WC.region ?_
        refine seg 2 [] [0, 1, 7, 8] [(0, (.slice A_p0 p0.length c_p0)), (1, (.func (.func 47) #[] #[(.pointer (some ⟨g_p1_0, 0, none⟩))])), (7, (.int .i64 (p0.length : Int))), (8, (.int .i64 (w64 (x82 + 1))))] [] (fun fb => by kernel_rfl) rfl trivial ?_
        refine WL.done rfl ?_
        exact WX.again k85 (Nat.lt_succ_self _) (w64 (x82 + 1)) [0, 1, 7, 8] rfl ⟨(hS95.subR [0, 1, 2]).sub [] (by decide), hl88⟩
      refine WC.condF2 (fun fb => by kernel_rfl) h89 ?_
      refine WC.exit ?_
      injection hl88 with hl88
      exact WX.thenX (WX.thenX (WX.blockHere (WX.to Kx83 () [] rfl ⟨(hS87.subR [0, 1, 2]).sub [] (by decide), hl88.symm⟩)))
  rintro y100 w97 ⟨hS98, hq99⟩
  subst hq99
  have hf := sum_inr hf
  refine WX.next ?_
  refine WC.seq ?_
  refine WC.region ?_
  refine seg 1 [] [4] [(4, (.int .i64 (-1)))] [] (fun fb => by kernel_rfl) rfl trivial ?_
  refine WL.done rfl ?_
  refine WX.next ?_
  refine WC.ret ?_
  injection hf with hf
  subst hf
  exact WX.ret_ [] (.int .i64 (-1)) [] (fun fb => by kernel_rfl) trivial ⟨_, rfl, rfl, hS98.keep⟩
theorem slices_ContainsFunc_api_Action_api_Action_with_machine_Valid_1_calls (k : Nat) (p0 : List Action) (p1_0 : Machine) (A_p0 : Option Addr) (c_p0 : Nat) (g_p1_0 : Nat) (A_p1_0_Actions : Option Addr) (c_p1_0_Actions : Nat) (r : Bool) (w : World) (hR0 : RO NoS w (rowR enc_Action A_p0 c_p0 p0)) (hR1 : RO NoS w (blk g_p1_0 (.cells #[(.int .i64 p1_0.States), (.int .i64 p1_0.Symbols), (.slice A_p1_0_Actions p1_0.Actions.length c_p1_0_Actions)] 24 (0, 0)))) (hR2 : RO NoS w (rowR enc_Action A_p1_0_Actions c_p1_0_Actions p1_0.Actions)) (hf : slices_ContainsFunc_api_Action_api_Action_with_machine_Valid_1 k p0 p1_0 = some r) :
    CallsR Try.prog 46 #[(.slice A_p0 p0.length c_p0), (.func (.func 47) #[] #[(.pointer (some ⟨g_p1_0, 0, none⟩))])] w (fun v w' => v = (.bool r) ∧ Keeps NoS w w') := by
  have hS : St NoS w w [rowR enc_Action A_p0 c_p0 p0, blk g_p1_0 (.cells #[(.int .i64 p1_0.States), (.int .i64 p1_0.Symbols), (.slice A_p1_0_Actions p1_0.Actions.length c_p1_0_Actions)] 24 (0, 0)), rowR enc_Action A_p1_0_Actions c_p1_0_Actions p1_0.Actions] [] := St.init (ro_cons hR0 (ro_cons hR1 (ro_cons hR2 (ro_nil _ _))))
  refine enter 9 Try.func46 rfl Try.ntmps46 rfl ?_
  unfold slices_ContainsFunc_api_Action_api_Action_with_machine_Valid_1 at hf
  refine WC.seq ?_
  refine WC.region ?_
  refine seg 1 [] [0, 1] [(0, (.slice A_p0 p0.length c_p0)), (1, (.func (.func 47) #[] #[(.pointer (some ⟨g_p1_0, 0, none⟩))]))] [] (fun fb => by kernel_rfl) rfl trivial ?_
  refine WL.done rfl ?_
  refine WX.next ?_
  refine WC.seq ?_
  refine WC.region ?_
  refine seg 2 [] [5, 6] [(5, (.slice A_p0 p0.length c_p0)), (6, (.func (.func 47) #[] #[(.pointer (some ⟨g_p1_0, 0, none⟩))]))] [] (fun fb => by kernel_rfl) rfl trivial ?_
  obtain ⟨t102, ht103, hf⟩ := bind_some hf
  refine WL.call (some 7) 64 #[(.slice A_p0 p0.length c_p0), (.func (.func 47) #[] #[(.pointer (some ⟨g_p1_0, 0, none⟩))])] (fun fb => by kernel_rfl) (slices_IndexFunc_api_Action_api_Action_with_machine_Valid_1_calls _ p0 p1_0 A_p0 c_p0 g_p1_0 A_p1_0_Actions c_p1_0_Actions t102 _ (hS.rd 0) (hS.rd 1) (hS.rd 2) ht103) (fun v w104 hR105 => ?_)
  obtain ⟨rfl, hk_⟩ := hR105
  have hS106 := hS.keepN hk_
  refine ⟨trivial, ?_⟩
  refine seg 5 [] [4] [(4, (.bool (decide (t102 ≥ 0))))] [] (fun fb => by kernel_rfl) rfl trivial ?_
  refine WL.done rfl ?_
  refine WX.next ?_
  refine WC.ret ?_
  injection hf with hf
  subst hf
  exact WX.ret_ [] (.bool (decide (t102 ≥ 0))) [] (fun fb => by kernel_rfl) trivial ⟨_, rfl, rfl, hS106.keep⟩
theorem machine_Valid_calls (k : Nat) (p0 : Machine) (A_p0_Actions : Option Addr) (c_p0_Actions : Nat) (r : Bool) (w : World) (hR0 : RO NoS w (rowR enc_Action A_p0_Actions c_p0_Actions p0.Actions)) (hf : machine_Valid k p0 = some r) :
    CallsR Try.prog 16 #[(.agg #[(.int .i64 p0.States), (.int .i64 p0.Symbols), (.slice A_p0_Actions p0.Actions.length c_p0_Actions)])] w (fun v w' => v = (.bool r) ∧ Keeps NoS w w') := by
  have hS : St NoS w w [rowR enc_Action A_p0_Actions c_p0_Actions p0.Actions] [] := St.init (ro_cons hR0 (ro_nil _ _))
  refine enter 39 Try.func16 rfl Try.ntmps16 rfl ?_
  unfold machine_Valid at hf
  refine WC.seq ?_
  refine WC.region ?_
  refine WL.new hS 1 [] (fun g => (.pointer (some ⟨g, 0, none⟩))) (.cells #[(.int .i64 p0.States), (.int .i64 p0.Symbols), (.slice A_p0_Actions p0.Actions.length c_p0_Actions)] 24 (0, 0)) [] (fun fb g => by kernel_rfl) trivial (fun g23 w24 hS25 => ?_)
  refine ⟨trivial, ?_⟩
  refine seg 2 [] [1] [(1, (.pointer (some ⟨g23, 0, none⟩)))] [] (fun fb => by kernel_rfl) rfl trivial ?_
  refine WL.done rfl ?_
  refine WX.next ?_
  refine WC.seq ?_
  refine WC.region ?_
  refine seg 4 [.v (.int .i64 p0.States)] [1, 6] [(1, (.pointer (some ⟨g23, 0, none⟩))), (6, (.bool (decide (p0.States ≥ 1))))] [.cell ⟨g23, 0, none⟩ (.int .i64 p0.States)] (fun fb => by kernel_rfl) rfl ⟨hS25.cell 0 rfl 0 rfl, trivial⟩ ?_
  refine WL.cutV (T := Bool) 8 (fun t => [(10, (.bool t)), (1, (.pointer (some ⟨g23, 0, none⟩)))]) (fun t => t = ((decide (p0.States ≥ 1)) && (decide (p0.States ≤ 6)))) (fun K => ?_) ?_
  ·
    rcases Bool.eq_false_or_eq_true (decide (p0.States ≥ 1)) with h27 | h27
    ·
      refine WL.setB 6 h27 rfl ?_
      refine seg 8 [.v (.int .i64 p0.States)] [1, 10] [(1, (.pointer (some ⟨g23, 0, none⟩))), (10, (.bool (decide (p0.States ≤ 6))))] [.cell ⟨g23, 0, none⟩ (.int .i64 p0.States)] (fun fb => by kernel_rfl) rfl ⟨hS25.cell 0 rfl 0 rfl, trivial⟩ ?_
      exact WL.toV K (decide (p0.States ≤ 6)) [10, 1] rfl (by rw [h27]; rfl)
    refine WL.setB 6 h27 rfl ?_
    refine seg 8 [] [1, 10] [(1, (.pointer (some ⟨g23, 0, none⟩))), (10, (.bool false))] [] (fun fb => by kernel_rfl) rfl trivial ?_
    exact WL.toV K false [10, 1] rfl (by rw [h27]; rfl)
  rintro b28 rfl
  refine seg 9 [] [1, 11] [(1, (.pointer (some ⟨g23, 0, none⟩))), (11, (.bool ((decide (p0.States ≥ 1)) && (decide (p0.States ≤ 6)))))] [] (fun fb => by kernel_rfl) rfl trivial ?_
  refine WL.cutV (T := Bool) 13 (fun t => [(15, (.bool t)), (1, (.pointer (some ⟨g23, 0, none⟩)))]) (fun t => t = (((decide (p0.States ≥ 1)) && (decide (p0.States ≤ 6))) && (decide (p0.Symbols ≥ 2)))) (fun K => ?_) ?_
  ·
    rcases Bool.eq_false_or_eq_true ((decide (p0.States ≥ 1)) && (decide (p0.States ≤ 6))) with h29 | h29
    ·
      refine WL.setB 11 h29 rfl ?_
      refine seg 13 [.v (.int .i64 p0.Symbols)] [1, 15] [(1, (.pointer (some ⟨g23, 0, none⟩))), (15, (.bool (decide (p0.Symbols ≥ 2))))] [.cell ⟨g23, 1, none⟩ (.int .i64 p0.Symbols)] (fun fb => by kernel_rfl) rfl ⟨hS25.cell 0 rfl 1 rfl, trivial⟩ ?_
      exact WL.toV K (decide (p0.Symbols ≥ 2)) [15, 1] rfl (by rw [h29]; rfl)
    refine WL.setB 11 h29 rfl ?_
    refine seg 13 [] [1, 15] [(1, (.pointer (some ⟨g23, 0, none⟩))), (15, (.bool false))] [] (fun fb => by kernel_rfl) rfl trivial ?_
    exact WL.toV K false [15, 1] rfl (by rw [h29]; rfl)
  rintro b30 rfl
  refine seg 14 [] [1, 16] [(1, (.pointer (some ⟨g23, 0, none⟩))), (16, (.bool (((decide (p0.States ≥ 1)) && (decide (p0.States ≤ 6))) && (decide (p0.Symbols ≥ 2)))))] [] (fun fb => by kernel_rfl) rfl trivial ?_
  refine WL.cutV (T := Bool) 18 (fun t => [(20, (.bool t)), (1, (.pointer (some ⟨g23, 0, none⟩)))]) (fun t => t = ((((decide (p0.States ≥ 1)) && (decide (p0.States ≤ 6))) && (decide (p0.Symbols ≥ 2))) && (decide (p0.Symbols ≤ 4)))) (fun K => ?_) ?_
  ·
    rcases Bool.eq_false_or_eq_true (((decide (p0.States ≥ 1)) && (decide (p0.States ≤ 6))) && (decide (p0.Symbols ≥ 2))) with h31 | h31
    ·
      refine WL.setB 16 h31 rfl ?_
      refine seg 18 [.v (.int .i64 p0.Symbols)] [1, 20] [(1, (.pointer (some ⟨g23, 0, none⟩))), (20, (.bool (decide (p0.Symbols ≤ 4))))] [.cell ⟨g23, 1, none⟩ (.int .i64 p0.Symbols)] (fun fb => by kernel_rfl) rfl ⟨hS25.cell 0 rfl 1 rfl, trivial⟩ ?_
      exact WL.toV K (decide (p0.Symbols ≤ 4)) [20, 1] rfl (by rw [h31]; rfl)
    refine WL.setB 16 h31 rfl ?_
    refine seg 18 [] [1, 20] [(1, (.pointer (some ⟨g23, 0, none⟩))), (20, (.bool false))] [] (fun fb => by kernel_rfl) rfl trivial ?_
    exact WL.toV K false [20, 1] rfl (by rw [h31]; rfl)
  rintro b32 rfl
  refine seg 19 [] [1, 21] [(1, (.pointer (some ⟨g23, 0, none⟩))), (21, (.bool ((((decide (p0.States ≥ 1)) && (decide (p0.States ≤ 6))) && (decide (p0.Symbols ≥ 2))) && (decide (p0.Symbols ≤ 4)))))] [] (fun fb => by kernel_rfl) rfl trivial ?_
  refine WL.cutV (T := Bool) 29 (fun t => [(31, (.bool t)), (1, (.pointer (some ⟨g23, 0, none⟩)))]) (fun t => t = (((((decide (p0.States ≥ 1)) && (decide (p0.States ≤ 6))) && (decide (p0.Symbols ≥ 2))) && (decide (p0.Symbols ≤ 4))) && ((p0.Actions.length : Int) == (w64 (p0.States * p0.Symbols))))) (fun K => ?_) ?_
  ·
    rcases Bool.eq_false_or_eq_true ((((decide (p0.States ≥ 1)) && (decide (p0.States ≤ 6))) && (decide (p0.Symbols ≥ 2))) && (decide (p0.Symbols ≤ 4))) with h33 | h33
    ·
      refine WL.setB 21 h33 rfl ?_
      refine seg 29 [.v (.slice A_p0_Actions p0.Actions.length c_p0_Actions), .v (.int .i64 p0.States), .v (.int .i64 p0.Symbols)] [1, 31] [(1, (.pointer (some ⟨g23, 0, none⟩))), (31, (.bool ((p0.Actions.length : Int) == (w64 (p0.States * p0.Symbols)))))] [.cell ⟨g23, 2, none⟩ (.slice A_p0_Actions p0.Actions.length c_p0_Actions), .cell ⟨g23, 0, none⟩ (.int .i64 p0.States), .cell ⟨g23, 1, none⟩ (.int .i64 p0.Symbols)] (fun fb => by kernel_rfl) rfl ⟨hS25.cell 0 rfl 2 rfl, hS25.cell 0 rfl 0 rfl, hS25.cell 0 rfl 1 rfl, trivial⟩ ?_
      exact WL.toV K ((p0.Actions.length : Int) == (w64 (p0.States * p0.Symbols))) [31, 1] rfl (by rw [h33]; rfl)
    refine WL.setB 21 h33 rfl ?_
    refine seg 29 [] [1, 31] [(1, (.pointer (some ⟨g23, 0, none⟩))), (31, (.bool false))] [] (fun fb => by kernel_rfl) rfl trivial ?_
    exact WL.toV K false [31, 1] rfl (by rw [h33]; rfl)
  rintro b34 rfl
  refine seg 30 [] [1, 32] [(1, (.pointer (some ⟨g23, 0, none⟩))), (32, (.bool (((((decide (p0.States ≥ 1)) && (decide (p0.States ≤ 6))) && (decide (p0.Symbols ≥ 2))) && (decide (p0.Symbols ≤ 4))) && ((p0.Actions.length : Int) == (w64 (p0.States * p0.Symbols))))))] [] (fun fb => by kernel_rfl) rfl trivial ?_
  obtain ⟨x113, hx114, hf⟩ := bind_some hf
  refine WL.cutW (T := Bool) 36 (fun t => [(38, (.bool t))]) (fun t w1 => (St NoS w w1 [rowR enc_Action A_p0_Actions c_p0_Actions p0.Actions] [] ∧ x113 = t) ∧ CellsOK [] w1) (fun K => ?_) ?_
  ·
    rcases br_some hx114 with ⟨h115, hx114⟩ | ⟨h115, hx114⟩
    ·
      refine WL.setB 32 h115 rfl ?_
      refine seg 33 [.v (.slice A_p0_Actions p0.Actions.length c_p0_Actions)] [32, 34, 35] [(32, (.bool true)), (34, (.slice A_p0_Actions p0.Actions.length c_p0_Actions)), (35, (.func (.func 47) #[] #[(.pointer (some ⟨g23, 0, none⟩))]))] [.cell ⟨g23, 2, none⟩ (.slice A_p0_Actions p0.Actions.length c_p0_Actions)] (fun fb => by kernel_rfl) rfl ⟨hS25.cell 0 rfl 2 rfl, trivial⟩ ?_
      obtain ⟨t116, ht117, hx114⟩ := bind_some hx114
      refine WL.call (some 36) 46 #[(.slice A_p0_Actions p0.Actions.length c_p0_Actions), (.func (.func 47) #[] #[(.pointer (some ⟨g23, 0, none⟩))])] (fun fb => by kernel_rfl) (slices_ContainsFunc_api_Action_api_Action_with_machine_Valid_1_calls _ p0.Actions p0 A_p0_Actions c_p0_Actions g23 A_p0_Actions c_p0_Actions t116 _ (hS25.rd 0) (hS25.ow 0) (hS25.rd 0) ht117) (fun v w118 hR119 => ?_)
      obtain ⟨rfl, hk_⟩ := hR119
      have hS120 := hS25.keepN hk_
      refine ⟨trivial, ?_⟩
      refine seg 36 [] [38] [(38, (.bool (!t116)))] [] (fun fb => by kernel_rfl) rfl trivial ?_
      injection hx114 with hx114
      exact WL.to K (!t116) [38] rfl ⟨⟨(hS120.subR [0]).sub [] (by decide), hx114.symm⟩, trivial⟩
    refine WL.setB 32 h115 rfl ?_
    refine seg 36 [] [38] [(38, (.bool false))] [] (fun fb => by kernel_rfl) rfl trivial ?_
    injection hx114 with hx114
    exact WL.to K false [38] rfl ⟨⟨(hS25.subR [0]).sub [] (by decide), hx114.symm⟩, trivial⟩
  rintro y121 w123 ⟨⟨hS124, hq122⟩, hF125⟩
  subst hq122
  refine seg 37 [] [2] [(2, (.bool x113))] [] (fun fb => by kernel_rfl) rfl trivial ?_
  refine WL.done rfl ?_
  refine WX.next ?_
  refine WC.ret ?_
  injection hf with hf
  subst hf
  exact WX.ret_ [] (.bool x113) [] (fun fb => by kernel_rfl) trivial ⟨_, rfl, rfl, hS124.keep⟩
theorem machine_head_calls (p0 : Machine) (p1 : Int) (p2 : Int) (A_p0_Actions : Option Addr) (c_p0_Actions : Nat) (r : Int) (w : World) (hR0 : RO NoS w (rowR enc_Action A_p0_Actions c_p0_Actions p0.Actions)) (hf : machine_head p0 p1 p2 = some r) :
    CallsR Try.prog 61 #[(.agg #[(.int .i64 p0.States), (.int .i64 p0.Symbols), (.slice A_p0_Actions p0.Actions.length c_p0_Actions)]), (.int .i64 p1), (.int .i64 p2)] w (fun v w' => v = (.int .i64 r) ∧ Keeps NoS w w') := by
  have hS : St NoS w w [rowR enc_Action A_p0_Actions c_p0_Actions p0.Actions] [] := St.init (ro_cons hR0 (ro_nil _ _))
  refine enter 16 Try.func61 rfl Try.ntmps61 rfl ?_
  unfold machine_head at hf
  refine WC.seq ?_
  refine WC.region ?_
  refine WL.new hS 3 [] (fun g => (.pointer (some ⟨g, 0, none⟩))) (.cells #[(.int .i64 p0.States), (.int .i64 p0.Symbols), (.slice A_p0_Actions p0.Actions.length c_p0_Actions)] 24 (0, 0)) [] (fun fb g => by kernel_rfl) trivial (fun g263 w264 hS265 => ?_)
  refine ⟨trivial, ?_⟩
  refine seg 2 [] [1, 2, 3] [(1, (.int .i64 p1)), (2, (.int .i64 p2)), (3, (.pointer (some ⟨g263, 0, none⟩)))] [] (fun fb => by kernel_rfl) rfl trivial ?_
  refine WL.done rfl ?_
  refine WX.next ?_
  refine WC.seq ?_
  refine WC.region ?_
  refine seg 10 [.v (.int .i64 p0.Symbols), .v (.int .i64 p0.Symbols)] [6] [(6, (.int .i64 (w64 ((w64 (p0.Symbols + (w64 (p1 * p0.Symbols)))) + p2))))] [.cell ⟨g263, 1, none⟩ (.int .i64 p0.Symbols), .cell ⟨g263, 1, none⟩ (.int .i64 p0.Symbols)] (fun fb => by kernel_rfl) rfl ⟨hS265.cell 0 rfl 1 rfl, hS265.cell 0 rfl 1 rfl, trivial⟩ ?_
  refine WL.done rfl ?_
  refine WX.next ?_
  refine WC.ret ?_
  injection hf with hf
  subst hf
  exact WX.ret_ [] (.int .i64 (w64 ((w64 (p0.Symbols + (w64 (p1 * p0.Symbols)))) + p2))) [] (fun fb => by kernel_rfl) trivial ⟨_, rfl, rfl, hS265.keep⟩
theorem machine_kit_signal_calls (p0 : Kit) (p1 : Int) (p2 : Int) (g_p0 : Nat) (A_p0_m_Actions : Option Addr) (c_p0_m_Actions : Nat) (A_p0_set : Option Addr) (c_p0_set : Nat) (A_p0_does : Option Addr) (c_p0_does : Nat) (r : Int) (w : World) (hR0 : RO NoS w (blk g_p0 (.cells #[(.int .i64 p0.m.States), (.int .i64 p0.m.Symbols), (.slice A_p0_m_Actions p0.m.Actions.length c_p0_m_Actions), (.slice A_p0_set p0.set.length c_p0_set), (.slice A_p0_does p0.does.length c_p0_does), (.int .i64 p0.base)] 96 (0, 0)))) (hR1 : RO NoS w (rowR enc_Action A_p0_m_Actions c_p0_m_Actions p0.m.Actions)) (hR2 : RO NoS w (rowR enc_Tile A_p0_set c_p0_set p0.set)) (hR3 : RO NoS w (rowR encInt A_p0_does c_p0_does p0.does)) (hf : machine_kit_signal p0 p1 p2 = some r) :
    CallsR Try.prog 62 #[(.pointer (some ⟨g_p0, 0, none⟩)), (.int .i64 p1), (.int .i64 p2)] w (fun v w' => v = (.int .i64 r) ∧ Keeps NoS w w') := by
  have hS : St NoS w w [blk g_p0 (.cells #[(.int .i64 p0.m.States), (.int .i64 p0.m.Symbols), (.slice A_p0_m_Actions p0.m.Actions.length c_p0_m_Actions), (.slice A_p0_set p0.set.length c_p0_set), (.slice A_p0_does p0.does.length c_p0_does), (.int .i64 p0.base)] 96 (0, 0)), rowR enc_Action A_p0_m_Actions c_p0_m_Actions p0.m.Actions, rowR enc_Tile A_p0_set c_p0_set p0.set, rowR encInt A_p0_does c_p0_does p0.does] [] := St.init (ro_cons hR0 (ro_cons hR1 (ro_cons hR2 (ro_cons hR3 (ro_nil _ _)))))
  refine enter 19 Try.func62 rfl Try.ntmps62 rfl ?_
  unfold machine_kit_signal at hf
  refine WC.seq ?_
  refine WC.region ?_
  refine seg 1 [] [0, 1, 2] [(0, (.pointer (some ⟨g_p0, 0, none⟩))), (1, (.int .i64 p1)), (2, (.int .i64 p2))] [] (fun fb => by kernel_rfl) rfl trivial ?_
  refine WL.done rfl ?_
  refine WX.next ?_
  refine WC.seq ?_
  refine WC.seq ?_
  refine WC.region ?_
  refine seg 2 [] [0, 2, 8] [(0, (.pointer (some ⟨g_p0, 0, none⟩))), (2, (.int .i64 p2)), (8, (.bool (p1 == 1)))] [] (fun fb => by kernel_rfl) rfl trivial ?_
  refine WL.done rfl ?_
  refine WX.next ?_
  rcases br_some hf with ⟨h338, hf⟩ | ⟨h338, hf⟩
  · refine WC.condT2 (fun fb => by kernel_rfl) h338 ?_
    refine WC.seq ?_
    refine WC.region ?_
    refine seg 3 [] [6] [(6, (.int .i64 (w64 (1 + p2))))] [] (fun fb => by kernel_rfl) rfl trivial ?_
    refine WL.done rfl ?_
    refine WX.next ?_
    refine WC.ret ?_
    injection hf with hf
    subst hf
    exact WX.thenR (WX.ret_ [] (.int .i64 (w64 (1 + p2))) [] (fun fb => by kernel_rfl) trivial ⟨_, rfl, rfl, hS.keep⟩)
  refine WC.condF2 (fun fb => by kernel_rfl) h338 ?_
  refine WC.skip ?_
  refine WX.next ?_
  refine WC.seq ?_
  refine WC.region ?_
  refine seg 9 [.v (.int .i64 p0.m.States)] [6] [(6, (.int .i64 (w64 ((w64 (1 + p0.m.States)) + p2))))] [.cell ⟨g_p0, 0, none⟩ (.int .i64 p0.m.States)] (fun fb => by kernel_rfl) rfl ⟨blk_cell (hS.rd 0).1 0 rfl, trivial⟩ ?_
  refine WL.done rfl ?_
  refine WX.next ?_
  refine WC.ret ?_
  injection hf with hf
  subst hf
  exact WX.ret_ [] (.int .i64 (w64 ((w64 (1 + p0.m.States)) + p2))) [] (fun fb => by kernel_rfl) trivial ⟨_, rfl, rfl, hS.keep⟩
theorem machine_kit_acts_calls (p0 : Kit) (p1 : Int) (p2 : Int) (p3 : Action) (g_p0 : Nat) (A_p0_m_Actions : Option Addr) (c_p0_m_Actions : Nat) (A_p0_set : Option Addr) (c_p0_set : Nat) (A_p0_does : Option Addr) (c_p0_does : Nat) (r : Tile) (w : World) (hR0 : RO NoS w (blk g_p0 (.cells #[(.int .i64 p0.m.States), (.int .i64 p0.m.Symbols), (.slice A_p0_m_Actions p0.m.Actions.length c_p0_m_Actions), (.slice A_p0_set p0.set.length c_p0_set), (.slice A_p0_does p0.does.length c_p0_does), (.int .i64 p0.base)] 96 (0, 0)))) (hR1 : RO NoS w (rowR enc_Action A_p0_m_Actions c_p0_m_Actions p0.m.Actions)) (hR2 : RO NoS w (rowR enc_Tile A_p0_set c_p0_set p0.set)) (hR3 : RO NoS w (rowR encInt A_p0_does c_p0_does p0.does)) (hf : machine_kit_acts p0 p1 p2 p3 = some r) :
    CallsR Try.prog 60 #[(.pointer (some ⟨g_p0, 0, none⟩)), (.int .i64 p1), (.int .i64 p2), (.agg #[(.int .i64 p3.Write), (.int .i64 p3.Move), (.int .i64 p3.Next)])] w (fun v w' => v = (.agg #[(.int .i64 r.N), (.int .i64 r.E), (.int .i64 r.S), (.int .i64 r.W)]) ∧ Keeps NoS w w') := by
  have hS : St NoS w w [blk g_p0 (.cells #[(.int .i64 p0.m.States), (.int .i64 p0.m.Symbols), (.slice A_p0_m_Actions p0.m.Actions.length c_p0_m_Actions), (.slice A_p0_set p0.set.length c_p0_set), (.slice A_p0_does p0.does.length c_p0_does), (.int .i64 p0.base)] 96 (0, 0)), rowR enc_Action A_p0_m_Actions c_p0_m_Actions p0.m.Actions, rowR enc_Tile A_p0_set c_p0_set p0.set, rowR encInt A_p0_does c_p0_does p0.does] [] := St.init (ro_cons hR0 (ro_cons hR1 (ro_cons hR2 (ro_cons hR3 (ro_nil _ _)))))
  refine enter 36 Try.func60 rfl Try.ntmps60 rfl ?_
  unfold machine_kit_acts at hf
  refine WC.seq ?_
  refine WC.region ?_
  refine WL.new hS 7 [] (fun g => (.pointer (some ⟨g, 0, none⟩))) (.cells #[(.int .i64 p3.Write), (.int .i64 p3.Move), (.int .i64 p3.Next)] 88 (0, 0)) [] (fun fb g => by kernel_rfl) trivial (fun g255 w256 hS257 => ?_)
  refine ⟨trivial, ?_⟩
  refine WL.new hS257 8 [] (fun g => (.pointer (some ⟨g, 0, none⟩))) (.cells #[(.int .i64 0), (.int .i64 0), (.int .i64 0), (.int .i64 0)] 65 (0, 0)) [] (fun fb g => by kernel_rfl) trivial (fun g259 w260 hS261 => ?_)
  refine ⟨trivial, ?_⟩
  refine WL.done rfl ?_
  refine WX.next ?_
  refine WC.seq ?_
  obtain ⟨x307, hx308, hf⟩ := bind_some hf
  refine WC.cutN (T := (Int × Int × Int × Int) × Nat) (fun t => [(0, (.pointer (some ⟨g_p0, 0, none⟩))), (7, (.pointer (some ⟨g255, 0, none⟩))), (8, (.pointer (some ⟨g259, 0, none⟩))), (9, (.pointer (some ⟨t.2, 0, none⟩)))]) (fun t w1 => St NoS w w1 [blk g_p0 (.cells #[(.int .i64 p0.m.States), (.int .i64 p0.m.Symbols), (.slice A_p0_m_Actions p0.m.Actions.length c_p0_m_Actions), (.slice A_p0_set p0.set.length c_p0_set), (.slice A_p0_does p0.does.length c_p0_does), (.int .i64 p0.base)] 96 (0, 0)), rowR enc_Action A_p0_m_Actions c_p0_m_Actions p0.m.Actions, rowR enc_Tile A_p0_set c_p0_set p0.set, rowR encInt A_p0_does c_p0_does p0.does] [blk g255 (.cells #[(.int .i64 p3.Write), (.int .i64 p3.Move), (.int .i64 p3.Next)] 88 (0, 0)), blk g259 (.cells #[(.int .i64 0), (.int .i64 0), (.int .i64 0), (.int .i64 0)] 65 (0, 0)), blk t.2 (.cells #[(.int .i64 t.1.1), (.int .i64 t.1.2.1), (.int .i64 t.1.2.2.1), (.int .i64 t.1.2.2.2)] 65 (0, 0))] ∧ x307 = t.1) (fun Kx307 => ?_) ?_
  ·
    refine WC.regionD ([(1, ⟨g255, 0, none⟩, (.int .i64 p3.Write)), (5, ⟨g_p0, 0, none⟩, (.int .i64 p0.m.States)), (5, ⟨g_p0, 1, none⟩, (.int .i64 p0.m.Symbols)), (5, ⟨g_p0, 2, none⟩, (.slice A_p0_m_Actions p0.m.Actions.length c_p0_m_Actions))], [0, 1, 2, 3, 4, 5, 6, 7, 9], [[], [0], [], [2], [2, 3], [2, 3, 4], [], [], [2, 3, 4, 5, 6, 7], [0, 1, 2, 3, 4, 5, 6, 7, 8], [], [0, 1, 2, 3, 4, 5, 6, 7, 8, 9, 10]]) [[0, 1, 2, 3, 4, 5, 6, 7, 8, 9, 10, 11], [0, 1, 2, 3, 4, 5, 6, 7, 10, 8, 9, 11]] (by kernel_rfl) (by kernel_rfl) (NoPanic.seq (NoPanic.body)) ?_
    have hS310 := hS261.drew
    revert hS310
    generalize World.drew w260 = w309
    intro hS310
    refine ⟨⟨hS310.cell 1 rfl 0 rfl, blk_cell (hS310.rd 0).1 0 rfl, blk_cell (hS310.rd 0).1 1 rfl, blk_cell (hS310.rd 0).1 2 rfl, trivial⟩, forallC ?_ (forallC ?_ (forallN))⟩
    ·
      refine segF 8 [.v (.int .i64 p3.Write), .v (.int .i64 p0.m.States), .v (.int .i64 p0.m.Symbols), .v (.slice A_p0_m_Actions p0.m.Actions.length c_p0_m_Actions)] [0, 7, 8, 12, 16, 17, 18] [(0, (.pointer (some ⟨g_p0, 0, none⟩))), (7, (.pointer (some ⟨g255, 0, none⟩))), (8, (.pointer (some ⟨g259, 0, none⟩))), (12, (.int .i64 p3.Write)), (16, (.agg #[(.int .i64 p0.m.States), (.int .i64 p0.m.Symbols), (.slice A_p0_m_Actions p0.m.Actions.length c_p0_m_Actions)])), (17, (.int .i64 p1)), (18, (.int .i64 p2))] [] [0, 1, 2, 3] [(1, ⟨g255, 0, none⟩, (.int .i64 p3.Write)), (5, ⟨g_p0, 0, none⟩, (.int .i64 p0.m.States)), (5, ⟨g_p0, 1, none⟩, (.int .i64 p0.m.Symbols)), (5, ⟨g_p0, 2, none⟩, (.slice A_p0_m_Actions p0.m.Actions.length c_p0_m_Actions))] (fun fb => by kernel_rfl) rfl trivial rfl ?_
      obtain ⟨t311, ht312, hx308⟩ := bind_some hx308
      refine WL.call (some 19) 61 #[(.agg #[(.int .i64 p0.m.States), (.int .i64 p0.m.Symbols), (.slice A_p0_m_Actions p0.m.Actions.length c_p0_m_Actions)]), (.int .i64 p1), (.int .i64 p2)] (fun fb => by kernel_rfl) (machine_head_calls p0.m p1 p2 A_p0_m_Actions c_p0_m_Actions t311 _ (hS310.rd 1) ht312) (fun v w313 hR314 => ?_)
      obtain ⟨rfl, hk_⟩ := hR314
      have hS315 := hS310.keepN hk_
      refine ⟨⟨hS315.cell 1 rfl 0 rfl, trivial⟩, ?_⟩
      refine seg 10 [] [0, 7, 8, 20] [(0, (.pointer (some ⟨g_p0, 0, none⟩))), (7, (.pointer (some ⟨g255, 0, none⟩))), (8, (.pointer (some ⟨g259, 0, none⟩))), (20, (.agg #[(.int .i64 p3.Write), (.int .i64 0), (.int .i64 t311), (.int .i64 0)]))] [] (fun fb => by kernel_rfl) rfl trivial ?_
      refine WL.new hS315 9 [] (fun g => (.pointer (some ⟨g, 0, none⟩))) (.cells #[(.int .i64 0), (.int .i64 0), (.int .i64 0), (.int .i64 0)] 65 (0, 0)) [] (fun fb g => by kernel_rfl) trivial (fun g316 w317 hS318 => ?_)
      refine ⟨⟨hS318.cell 2 rfl 0 rfl, blk_cell (hS318.rd 0).1 0 rfl, blk_cell (hS318.rd 0).1 1 rfl, blk_cell (hS318.rd 0).1 2 rfl, trivial⟩, ?_⟩
      refine WL.store hS318 0 rfl [(0, (.int .i64 p3.Write)), (1, (.int .i64 0)), (2, (.int .i64 t311)), (3, (.int .i64 0))] #[(.int .i64 p3.Write), (.int .i64 0), (.int .i64 t311), (.int .i64 0)] (fun fb => by kernel_rfl) (by kernel_rfl) rfl [1, 2] (by decide) (by decide) (fun w320 hS321 => ?_)
      refine ⟨trivial, ?_⟩
      refine WL.done rfl ?_
      injection hx308 with hx308
      exact WX.to Kx307 ((p3.Write, 0, t311, 0), g316) [0, 7, 8, 9] rfl ⟨(hS321.subR [0, 1, 2, 3]).sub [2, 1, 0] (by decide), hx308.symm⟩
    refine segF 8 [.v (.int .i64 p3.Write), .v (.int .i64 p0.m.States), .v (.int .i64 p0.m.Symbols), .v (.slice A_p0_m_Actions p0.m.Actions.length c_p0_m_Actions)] [0, 7, 8, 12, 16, 17, 18] [(0, (.pointer (some ⟨g_p0, 0, none⟩))), (7, (.pointer (some ⟨g255, 0, none⟩))), (8, (.pointer (some ⟨g259, 0, none⟩))), (12, (.int .i64 p3.Write)), (16, (.agg #[(.int .i64 p0.m.States), (.int .i64 p0.m.Symbols), (.slice A_p0_m_Actions p0.m.Actions.length c_p0_m_Actions)])), (17, (.int .i64 p1)), (18, (.int .i64 p2))] [] [0, 1, 2, 3] [(1, ⟨g255, 0, none⟩, (.int .i64 p3.Write)), (5, ⟨g_p0, 0, none⟩, (.int .i64 p0.m.States)), (5, ⟨g_p0, 1, none⟩, (.int .i64 p0.m.Symbols)), (5, ⟨g_p0, 2, none⟩, (.slice A_p0_m_Actions p0.m.Actions.length c_p0_m_Actions))] (fun fb => by kernel_rfl) rfl trivial rfl ?_
    refine WL.new hS310 9 [] (fun g => (.pointer (some ⟨g, 0, none⟩))) (.cells #[(.int .i64 0), (.int .i64 0), (.int .i64 0), (.int .i64 0)] 65 (0, 0)) [] (fun fb g => by kernel_rfl) trivial (fun g322 w323 hS324 => ?_)
    refine ⟨⟨hS324.cell 2 rfl 0 rfl, blk_cell (hS324.rd 0).1 0 rfl, blk_cell (hS324.rd 0).1 1 rfl, blk_cell (hS324.rd 0).1 2 rfl, trivial⟩, ?_⟩
    obtain ⟨t326, ht327, hx308⟩ := bind_some hx308
    refine WL.call (some 19) 61 #[(.agg #[(.int .i64 p0.m.States), (.int .i64 p0.m.Symbols), (.slice A_p0_m_Actions p0.m.Actions.length c_p0_m_Actions)]), (.int .i64 p1), (.int .i64 p2)] (fun fb => by kernel_rfl) (machine_head_calls p0.m p1 p2 A_p0_m_Actions c_p0_m_Actions t326 _ (hS324.rd 1) ht327) (fun v w328 hR329 => ?_)
    obtain ⟨rfl, hk_⟩ := hR329
    have hS330 := hS324.keepN hk_
    refine ⟨⟨hS330.cell 2 rfl 0 rfl, trivial⟩, ?_⟩
    refine seg 11 [] [0, 7, 8, 9, 20] [(0, (.pointer (some ⟨g_p0, 0, none⟩))), (7, (.pointer (some ⟨g255, 0, none⟩))), (8, (.pointer (some ⟨g259, 0, none⟩))), (9, (.pointer (some ⟨g322, 0, none⟩))), (20, (.agg #[(.int .i64 p3.Write), (.int .i64 0), (.int .i64 t326), (.int .i64 0)]))] [] (fun fb => by kernel_rfl) rfl trivial ?_
    refine WL.store hS330 0 rfl [(0, (.int .i64 p3.Write)), (1, (.int .i64 0)), (2, (.int .i64 t326)), (3, (.int .i64 0))] #[(.int .i64 p3.Write), (.int .i64 0), (.int .i64 t326), (.int .i64 0)] (fun fb => by kernel_rfl) (by kernel_rfl) rfl [1, 2] (by decide) (by decide) (fun w331 hS332 => ?_)
    refine ⟨trivial, ?_⟩
    refine WL.done rfl ?_
    injection hx308 with hx308
    exact WX.to Kx307 ((p3.Write, 0, t326, 0), g322) [0, 7, 8, 9] rfl ⟨(hS332.subR [0, 1, 2, 3]).sub [2, 1, 0] (by decide), hx308.symm⟩
  rintro ⟨y336, g302⟩ w333 ⟨hS334, hq335⟩
  subst hq335
  refine WX.next ?_
  refine WC.seq ?_
  refine WC.region ?_
  refine seg 5 [.v (.int .i64 p3.Move)] [0, 7, 8, 9, 23, 25] [(0, (.pointer (some ⟨g_p0, 0, none⟩))), (7, (.pointer (some ⟨g255, 0, none⟩))), (8, (.pointer (some ⟨g259, 0, none⟩))), (9, (.pointer (some ⟨g302, 0, none⟩))), (23, (.agg #[(.pointer (some ⟨g302, 3, none⟩)), (.pointer (some ⟨g302, 1, none⟩))])), (25, (.int .i64 p3.Move))] [.cell ⟨g255, 1, none⟩ (.int .i64 p3.Move)] (fun fb => by kernel_rfl) rfl ⟨hS334.cell 0 rfl 1 rfl, trivial⟩ ?_
  rcases br_some hf with ⟨h337, hf⟩ | ⟨h337, hf⟩
  ·
    refine WL.setI 25 (eq_of_beq h337) rfl ?_
    refine seg 7 [] [0, 7, 8, 9, 10] [(0, (.pointer (some ⟨g_p0, 0, none⟩))), (7, (.pointer (some ⟨g255, 0, none⟩))), (8, (.pointer (some ⟨g259, 0, none⟩))), (9, (.pointer (some ⟨g302, 0, none⟩))), (10, (.pointer (some ⟨g302, 3, none⟩)))] [] (fun fb => by kernel_rfl) rfl trivial ?_
    refine WL.done rfl ?_
    refine WX.next ?_
    refine WC.seq ?_
    refine WC.region ?_
    refine seg 6 [.v (.int .i64 p3.Move), .v (.int .i64 p3.Next)] [8, 9, 27, 28, 30, 32] [(8, (.pointer (some ⟨g259, 0, none⟩))), (9, (.pointer (some ⟨g302, 0, none⟩))), (27, (.pointer (some ⟨g302, 3, none⟩))), (28, (.pointer (some ⟨g_p0, 0, none⟩))), (30, (.int .i64 p3.Move)), (32, (.int .i64 p3.Next))] [.cell ⟨g255, 1, none⟩ (.int .i64 p3.Move), .cell ⟨g255, 2, none⟩ (.int .i64 p3.Next)] (fun fb => by kernel_rfl) rfl ⟨hS334.cell 0 rfl 1 rfl, hS334.cell 0 rfl 2 rfl, trivial⟩ ?_
    obtain ⟨t339, ht340, hf⟩ := bind_some hf
    refine WL.call (some 33) 62 #[(.pointer (some ⟨g_p0, 0, none⟩)), (.int .i64 p3.Move), (.int .i64 p3.Next)] (fun fb => by kernel_rfl) (machine_kit_signal_calls p0 p3.Move p3.Next g_p0 A_p0_m_Actions c_p0_m_Actions A_p0_set c_p0_set A_p0_does c_p0_does t339 _ (hS334.rd 0) (hS334.rd 1) (hS334.rd 2) (hS334.rd 3) ht340) (fun v w341 hR342 => ?_)
    obtain ⟨rfl, hk_⟩ := hR342
    have hS343 := hS334.keepN hk_
    refine ⟨trivial, ?_⟩
    refine seg 8 [] [8, 9, 33, 34] [(8, (.pointer (some ⟨g259, 0, none⟩))), (9, (.pointer (some ⟨g302, 0, none⟩))), (33, (.int .i64 t339)), (34, (.pointer (some ⟨g302, 3, none⟩)))] [] (fun fb => by kernel_rfl) rfl trivial ?_
    refine WL.store hS343 2 rfl [(3, (.int .i64 t339))] #[(.int .i64 x307.1), (.int .i64 x307.2.1), (.int .i64 x307.2.2.1), (.int .i64 t339)] (fun fb => by kernel_rfl) (by kernel_rfl) rfl [0, 1] (by decide) (by decide) (fun w344 hS345 => ?_)
    refine ⟨trivial, ?_⟩
    refine WL.done rfl ?_
    refine WX.next ?_
    refine WC.seq ?_
    refine WC.region ?_
    refine seg 1 [.v (.int .i64 x307.1), .v (.int .i64 x307.2.1), .v (.int .i64 x307.2.2.1), .v (.int .i64 t339)] [8, 35] [(8, (.pointer (some ⟨g259, 0, none⟩))), (35, (.agg #[(.int .i64 x307.1), (.int .i64 x307.2.1), (.int .i64 x307.2.2.1), (.int .i64 t339)]))] [.cell ⟨g302, 0, none⟩ (.int .i64 x307.1), .cell ⟨g302, 1, none⟩ (.int .i64 x307.2.1), .cell ⟨g302, 2, none⟩ (.int .i64 x307.2.2.1), .cell ⟨g302, 3, none⟩ (.int .i64 t339)] (fun fb => by kernel_rfl) rfl ⟨hS345.cell 0 rfl 0 rfl, hS345.cell 0 rfl 1 rfl, hS345.cell 0 rfl 2 rfl, hS345.cell 0 rfl 3 rfl, trivial⟩ ?_
    refine WL.store hS345 2 rfl [(0, (.int .i64 x307.1)), (1, (.int .i64 x307.2.1)), (2, (.int .i64 x307.2.2.1)), (3, (.int .i64 t339))] #[(.int .i64 x307.1), (.int .i64 x307.2.1), (.int .i64 x307.2.2.1), (.int .i64 t339)] (fun fb => by kernel_rfl) (by kernel_rfl) rfl [0, 1] (by decide) (by decide) (fun w346 hS347 => ?_)
    refine ⟨trivial, ?_⟩
    refine WL.done rfl ?_
    refine WX.next ?_
    refine WC.ret ?_
    injection hf with hf
    subst hf
    exact WX.ret_ [.v (.int .i64 x307.1), .v (.int .i64 x307.2.1), .v (.int .i64 x307.2.2.1), .v (.int .i64 t339)] (.agg #[(.int .i64 x307.1), (.int .i64 x307.2.1), (.int .i64 x307.2.2.1), (.int .i64 t339)]) [.cell ⟨g259, 0, none⟩ (.int .i64 x307.1), .cell ⟨g259, 1, none⟩ (.int .i64 x307.2.1), .cell ⟨g259, 2, none⟩ (.int .i64 x307.2.2.1), .cell ⟨g259, 3, none⟩ (.int .i64 t339)] (fun fb => by kernel_rfl) ⟨hS347.cell 0 rfl 0 rfl, hS347.cell 0 rfl 1 rfl, hS347.cell 0 rfl 2 rfl, hS347.cell 0 rfl 3 rfl, trivial⟩ ⟨_, rfl, rfl, hS347.keep⟩
  rcases br_some hf with ⟨h348, hf⟩ | ⟨h348, hf⟩
  ·
    refine WL.setI 25 (eq_of_beq h348) rfl ?_
    refine seg 7 [] [0, 7, 8, 9, 10] [(0, (.pointer (some ⟨g_p0, 0, none⟩))), (7, (.pointer (some ⟨g255, 0, none⟩))), (8, (.pointer (some ⟨g259, 0, none⟩))), (9, (.pointer (some ⟨g302, 0, none⟩))), (10, (.pointer (some ⟨g302, 1, none⟩)))] [] (fun fb => by kernel_rfl) rfl trivial ?_
    refine WL.done rfl ?_
    refine WX.next ?_
    refine WC.seq ?_
    refine WC.region ?_
    refine seg 6 [.v (.int .i64 p3.Move), .v (.int .i64 p3.Next)] [8, 9, 27, 28, 30, 32] [(8, (.pointer (some ⟨g259, 0, none⟩))), (9, (.pointer (some ⟨g302, 0, none⟩))), (27, (.pointer (some ⟨g302, 1, none⟩))), (28, (.pointer (some ⟨g_p0, 0, none⟩))), (30, (.int .i64 p3.Move)), (32, (.int .i64 p3.Next))] [.cell ⟨g255, 1, none⟩ (.int .i64 p3.Move), .cell ⟨g255, 2, none⟩ (.int .i64 p3.Next)] (fun fb => by kernel_rfl) rfl ⟨hS334.cell 0 rfl 1 rfl, hS334.cell 0 rfl 2 rfl, trivial⟩ ?_
    obtain ⟨t349, ht350, hf⟩ := bind_some hf
    refine WL.call (some 33) 62 #[(.pointer (some ⟨g_p0, 0, none⟩)), (.int .i64 p3.Move), (.int .i64 p3.Next)] (fun fb => by kernel_rfl) (machine_kit_signal_calls p0 p3.Move p3.Next g_p0 A_p0_m_Actions c_p0_m_Actions A_p0_set c_p0_set A_p0_does c_p0_does t349 _ (hS334.rd 0) (hS334.rd 1) (hS334.rd 2) (hS334.rd 3) ht350) (fun v w351 hR352 => ?_)
    obtain ⟨rfl, hk_⟩ := hR352
    have hS353 := hS334.keepN hk_
    refine ⟨trivial, ?_⟩
    refine seg 8 [] [8, 9, 33, 34] [(8, (.pointer (some ⟨g259, 0, none⟩))), (9, (.pointer (some ⟨g302, 0, none⟩))), (33, (.int .i64 t349)), (34, (.pointer (some ⟨g302, 1, none⟩)))] [] (fun fb => by kernel_rfl) rfl trivial ?_
    refine WL.store hS353 2 rfl [(1, (.int .i64 t349))] #[(.int .i64 x307.1), (.int .i64 t349), (.int .i64 x307.2.2.1), (.int .i64 x307.2.2.2)] (fun fb => by kernel_rfl) (by kernel_rfl) rfl [0, 1] (by decide) (by decide) (fun w354 hS355 => ?_)
    refine ⟨trivial, ?_⟩
    refine WL.done rfl ?_
    refine WX.next ?_
    refine WC.seq ?_
    refine WC.region ?_
    refine seg 1 [.v (.int .i64 x307.1), .v (.int .i64 t349), .v (.int .i64 x307.2.2.1), .v (.int .i64 x307.2.2.2)] [8, 35] [(8, (.pointer (some ⟨g259, 0, none⟩))), (35, (.agg #[(.int .i64 x307.1), (.int .i64 t349), (.int .i64 x307.2.2.1), (.int .i64 x307.2.2.2)]))] [.cell ⟨g302, 0, none⟩ (.int .i64 x307.1), .cell ⟨g302, 1, none⟩ (.int .i64 t349), .cell ⟨g302, 2, none⟩ (.int .i64 x307.2.2.1), .cell ⟨g302, 3, none⟩ (.int .i64 x307.2.2.2)] (fun fb => by kernel_rfl) rfl ⟨hS355.cell 0 rfl 0 rfl, hS355.cell 0 rfl 1 rfl, hS355.cell 0 rfl 2 rfl, hS355.cell 0 rfl 3 rfl, trivial⟩ ?_
    refine WL.store hS355 2 rfl [(0, (.int .i64 x307.1)), (1, (.int .i64 t349)), (2, (.int .i64 x307.2.2.1)), (3, (.int .i64 x307.2.2.2))] #[(.int .i64 x307.1), (.int .i64 t349), (.int .i64 x307.2.2.1), (.int .i64 x307.2.2.2)] (fun fb => by kernel_rfl) (by kernel_rfl) rfl [0, 1] (by decide) (by decide) (fun w356 hS357 => ?_)
    refine ⟨trivial, ?_⟩
    refine WL.done rfl ?_
    refine WX.next ?_
    refine WC.ret ?_
    injection hf with hf
    subst hf
    exact WX.ret_ [.v (.int .i64 x307.1), .v (.int .i64 t349), .v (.int .i64 x307.2.2.1), .v (.int .i64 x307.2.2.2)] (.agg #[(.int .i64 x307.1), (.int .i64 t349), (.int .i64 x307.2.2.1), (.int .i64 x307.2.2.2)]) [.cell ⟨g259, 0, none⟩ (.int .i64 x307.1), .cell ⟨g259, 1, none⟩ (.int .i64 t349), .cell ⟨g259, 2, none⟩ (.int .i64 x307.2.2.1), .cell ⟨g259, 3, none⟩ (.int .i64 x307.2.2.2)] (fun fb => by kernel_rfl) ⟨hS357.cell 0 rfl 0 rfl, hS357.cell 0 rfl 1 rfl, hS357.cell 0 rfl 2 rfl, hS357.cell 0 rfl 3 rfl, trivial⟩ ⟨_, rfl, rfl, hS357.keep⟩
  cases hf
theorem machine_kitOf_calls (k : Nat) (p0 : Machine) (A_p0_Actions : Option Addr) (c_p0_Actions : Nat) (r : Kit) (w : World) (hR0 : RO NoS w (rowR enc_Action A_p0_Actions c_p0_Actions p0.Actions)) (hf : machine_kitOf k p0 = some r) :
    CallsR Try.prog 41 #[(.agg #[(.int .i64 p0.States), (.int .i64 p0.Symbols), (.slice A_p0_Actions p0.Actions.length c_p0_Actions)])] w (fun v w' => ∃ (g1_ : Nat), ∃ (A2_ : Option Addr), ∃ (c2_ : Nat), ∃ (A3_ : Option Addr), ∃ (c3_ : Nat), v = (.pointer (some ⟨g1_, 0, none⟩)) ∧ St NoS w w' [] [blk g1_ (.cells #[(.int .i64 r.m.States), (.int .i64 r.m.Symbols), (.slice A_p0_Actions p0.Actions.length c_p0_Actions), (.slice A2_ r.set.length c2_), (.slice A3_ r.does.length c3_), (.int .i64 r.base)] 96 (0, 0)), rowO 65 enc_Tile A2_ c2_ r.set, rowO 3 encInt A3_ c3_ r.does]) := by
  have hS : St NoS w w [rowR enc_Action A_p0_Actions c_p0_Actions p0.Actions] [] := St.init (ro_cons hR0 (ro_nil _ _))
  refine enter 134 Try.func41 rfl Try.ntmps41 rfl ?_
  unfold machine_kitOf at hf
  refine WC.seq ?_
  refine WC.region ?_
  refine WL.new hS 1 [] (fun g => (.pointer (some ⟨g, 0, none⟩))) (.cells #[(.int .i64 p0.States), (.int .i64 p0.Symbols), (.slice A_p0_Actions p0.Actions.length c_p0_Actions)] 24 (0, 0)) [] (fun fb g => by kernel_rfl) trivial (fun g133 w134 hS135 => ?_)
  refine ⟨trivial, ?_⟩
  refine seg 2 [] [1] [(1, (.pointer (some ⟨g133, 0, none⟩)))] [] (fun fb => by kernel_rfl) rfl trivial ?_
  refine WL.done rfl ?_
  refine WX.next ?_
  refine WC.seq ?_
  refine WC.region ?_
  refine seg 2 [.v (.int .i64 p0.States), .v (.int .i64 p0.Symbols), .v (.slice A_p0_Actions p0.Actions.length c_p0_Actions)] [1, 11] [(1, (.pointer (some ⟨g133, 0, none⟩))), (11, (.agg #[(.int .i64 p0.States), (.int .i64 p0.Symbols), (.slice A_p0_Actions p0.Actions.length c_p0_Actions), (.slice none 0 0), (.slice none 0 0), (.int .i64 0)]))] [.cell ⟨g133, 0, none⟩ (.int .i64 p0.States), .cell ⟨g133, 1, none⟩ (.int .i64 p0.Symbols), .cell ⟨g133, 2, none⟩ (.slice A_p0_Actions p0.Actions.length c_p0_Actions)] (fun fb => by kernel_rfl) rfl ⟨hS135.cell 0 rfl 0 rfl, hS135.cell 0 rfl 1 rfl, hS135.cell 0 rfl 2 rfl, trivial⟩ ?_
  refine WL.new hS135 12 [] (fun g => (.pointer (some ⟨g, 0, none⟩))) (.cells #[(.int .i64 p0.States), (.int .i64 p0.Symbols), (.slice A_p0_Actions p0.Actions.length c_p0_Actions), (.slice none 0 0), (.slice none 0 0), (.int .i64 0)] 96 (0, 0)) [] (fun fb g => by kernel_rfl) trivial (fun g137 w138 hS139 => ?_)
  refine ⟨trivial, ?_⟩
  refine seg 4 [] [1, 3] [(1, (.pointer (some ⟨g133, 0, none⟩))), (3, (.pointer (some ⟨g137, 0, none⟩)))] [] (fun fb => by kernel_rfl) rfl trivial ?_
  refine WL.done rfl ?_
  refine WX.next ?_
  refine WC.seq ?_
  refine WC.seq ?_
  refine WC.region ?_
  refine seg 3 [.v (.int .i64 p0.Symbols)] [1, 3, 14, 15] [(1, (.pointer (some ⟨g133, 0, none⟩))), (3, (.pointer (some ⟨g137, 0, none⟩))), (14, (.int .i64 p0.Symbols)), (15, (.int .i64 0))] [.cell ⟨g133, 1, none⟩ (.int .i64 p0.Symbols)] (fun fb => by kernel_rfl) rfl ⟨hS139.cell 1 rfl 1 rfl, trivial⟩ ?_
  refine WL.done rfl ?_
  refine WX.next ?_
  have hS173 := hS139.nilrow 65 enc_Tile
  obtain ⟨x181, hx182, hf⟩ := bind_some hf
  refine WC.cutN (T := (List Tile) × (Option Addr) × Nat) (fun t => [(1, (.pointer (some ⟨g133, 0, none⟩))), (3, (.pointer (some ⟨g137, 0, none⟩)))]) (fun t w1 => St NoS w w1 [rowR enc_Action A_p0_Actions c_p0_Actions p0.Actions] [blk g133 (.cells #[(.int .i64 p0.States), (.int .i64 p0.Symbols), (.slice A_p0_Actions p0.Actions.length c_p0_Actions)] 24 (0, 0)), blk g137 (.cells #[(.int .i64 p0.States), (.int .i64 p0.Symbols), (.slice A_p0_Actions p0.Actions.length c_p0_Actions), (.slice t.2.1 t.1.length t.2.2), (.slice none 0 0), (.int .i64 0)] 96 (0, 0)), rowO 65 enc_Tile t.2.1 t.2.2 t.1] ∧ x181 = t.1) (fun Kx181 => ?_) ?_
  ·
    refine WC.block ?_
    refine WC.loop (T := ((List Tile) × Int) × (Option Addr) × Nat) (fun t => [(1, (.pointer (some ⟨g133, 0, none⟩))), (3, (.pointer (some ⟨g137, 0, none⟩))), (14, (.int .i64 p0.Symbols)), (15, (.int .i64 t.1.2))]) (fun n t w1 => St NoS w w1 [rowR enc_Action A_p0_Actions c_p0_Actions p0.Actions] [blk g133 (.cells #[(.int .i64 p0.States), (.int .i64 p0.Symbols), (.slice A_p0_Actions p0.Actions.length c_p0_Actions)] 24 (0, 0)), blk g137 (.cells #[(.int .i64 p0.States), (.int .i64 p0.Symbols), (.slice A_p0_Actions p0.Actions.length c_p0_Actions), (.slice t.2.1 t.1.1.length t.2.2), (.slice none 0 0), (.int .i64 0)] 96 (0, 0)), rowO 65 enc_Tile t.2.1 t.2.2 t.1.1] ∧ machine_kitOf.l0 n t.1.1 t.1.2 p0 = some x181) k ((([] : List Tile), 0), none, 0) [1, 3, 14, 15] rfl ⟨(hS173.subR [0]).sub [2, 1, 0] (by decide), hx182⟩ ?_
    rintro k183 ⟨⟨l176, x177⟩, A174, c175⟩ w184 ⟨hS185, hl186⟩
    cases k183 with
    | zero => rw [machine_kitOf.l0] at hl186; cases hl186
    | succ k183 =>
      rw [machine_kitOf.l0] at hl186
      refine WC.seq ?_
      refine WC.region ?_
      refine seg 1 [] [1, 3, 14, 15, 16] [(1, (.pointer (some ⟨g133, 0, none⟩))), (3, (.pointer (some ⟨g137, 0, none⟩))), (14, (.int .i64 p0.Symbols)), (15, (.int .i64 x177)), (16, (.bool (decide (x177 < p0.Symbols))))] [] (fun fb => by kernel_rfl) rfl trivial ?_
      refine WL.done rfl ?_
      refine WX.next ?_
      refine WC.seq ?_
      rcases br_some hl186 with ⟨h187, hl186⟩ | ⟨h187, hl186⟩
      · refine WC.condT2 (fun fb => by kernel_rfl) h187 ?_
        refine WC.skip ?_
        refine WX.next ?_
        refine WC.seq ?_
        refine WC.block ?_
        refine WC.seq ?_
        refine WC.region ?_
        refine seg 2 [] [1, 3, 4, 14, 15] [(1, (.pointer (some ⟨g133, 0, none⟩))), (3, (.pointer (some ⟨g137, 0, none⟩))), (4, (.int .i64 x177)), (14, (.int .i64 p0.Symbols)), (15, (.int .i64 x177))] [] (fun fb => by kernel_rfl) rfl trivial ?_
        refine WL.done rfl ?_
        refine WX.next ?_
        refine WC.region ?_
        refine seg 8 [.v (.slice A174 l176.length c175)] [1, 3, 14, 15, 18, 22, 25] [(1, (.pointer (some ⟨g133, 0, none⟩))), (3, (.pointer (some ⟨g137, 0, none⟩))), (14, (.int .i64 p0.Symbols)), (15, (.int .i64 x177)), (18, (.pointer (some ⟨g137, 0, none⟩))), (22, (.slice A174 l176.length c175)), (25, (.agg #[(.int .i64 x177), (.int .i64 0), (.int .i64 x177), (.int .i64 0)]))] [.cell ⟨g137, 3, none⟩ (.slice A174 l176.length c175)] (fun fb => by kernel_rfl) rfl ⟨hS185.cell 1 rfl 3 rfl, trivial⟩ ?_
        refine WL.new hS185 26 [] (fun g => (.slice (some ⟨g, 0, none⟩) 1 1)) (.cells #[(.int .i64 x177), (.int .i64 0), (.int .i64 x177), (.int .i64 0)] 65 (0, 0)) [] (fun fb g => by kernel_rfl) trivial (fun g188 w189 hS190 => ?_)
        refine ⟨trivial, ?_⟩
        have hS192 : St NoS w w189 [rowR enc_Action A_p0_Actions c_p0_Actions p0.Actions] [rowO 65 enc_Tile (some ⟨g188, 0, none⟩) 1 [(Tile.mk x177 0 x177 0)], blk g133 (.cells #[(.int .i64 p0.States), (.int .i64 p0.Symbols), (.slice A_p0_Actions p0.Actions.length c_p0_Actions)] 24 (0, 0)), blk g137 (.cells #[(.int .i64 p0.States), (.int .i64 p0.Symbols), (.slice A_p0_Actions p0.Actions.length c_p0_Actions), (.slice A174 l176.length c175), (.slice none 0 0), (.int .i64 0)] 96 (0, 0)), rowO 65 enc_Tile A174 c175 l176] := hS190.map1 0 _ (fun h => rowO.ofBlk h rfl (Nat.le_of_ble_eq_true (by kernel_rfl))) (fun _ h => by obtain ⟨_, h1, h2⟩ := h; injection h1 with h1; subst h1; exact h2) [1, 2, 3] (by decide) (by decide)
        obtain ⟨h193, hl186⟩ := as_some hl186
        refine WL.append hS192 3 (d := 27) (tS := 50) (z := (.agg #[(.int .i64 0), (.int .i64 0), (.int .i64 0), (.int .i64 0)])) (bytes := 32) (c2 := 1) rfl (fun fb => by kernel_rfl) (rowO.rd (hS192.own 0).1) (by kernel_rfl) (by kernel_rfl) rfl (by decide) h193 (by decide) [0, 1, 2] (by decide) (by decide) (fun A194 c195 w196 hS197 => ?_)
        refine ⟨trivial, ?_⟩
        refine seg 12 [] [1, 3, 14, 15, 27, 29] [(1, (.pointer (some ⟨g133, 0, none⟩))), (3, (.pointer (some ⟨g137, 0, none⟩))), (14, (.int .i64 p0.Symbols)), (15, (.int .i64 x177)), (27, (.slice A194 (l176 ++ [(Tile.mk x177 0 x177 0)]).length c195)), (29, (.pointer (some ⟨g137, 3, none⟩)))] [] (fun fb => by kernel_rfl) rfl trivial ?_
        refine WL.store hS197 3 rfl [(3, (.slice A194 (l176 ++ [(Tile.mk x177 0 x177 0)]).length c195))] #[(.int .i64 p0.States), (.int .i64 p0.Symbols), (.slice A_p0_Actions p0.Actions.length c_p0_Actions), (.slice A194 (l176 ++ [(Tile.mk x177 0 x177 0)]).length c195), (.slice none 0 0), (.int .i64 0)] (fun fb => by kernel_rfl) (by kernel_rfl) rfl [0, 1, 2] (by decide) (by decide) (fun w198 hS199 => ?_)
        refine ⟨trivial, ?_⟩
        refine WL.done rfl ?_
        refine WX.blockN (WX.next ?_)
        refine WC.region ?_
        refine seg 2 [] [1, 3, 14, 15] [(1, (.pointer (some ⟨g133, 0, none⟩))), (3, (.pointer (some ⟨g137, 0, none⟩))), (14, (.int .i64 p0.Symbols)), (15, (.int .i64 (w64 (x177 + 1))))] [] (fun fb => by kernel_rfl) rfl trivial ?_
        refine WL.done rfl ?_
        exact WX.again k183 (Nat.lt_succ_self _) ((l176 ++ [(Tile.mk x177 0 x177 0)], w64 (x177 + 1)), A194, c195) [1, 3, 14, 15] rfl ⟨(hS199.subR [0]).sub [3, 0, 1] (by decide), hl186⟩
      refine WC.condF2 (fun fb => by kernel_rfl) h187 ?_
      refine WC.exit ?_
      injection hl186 with hl186
      exact WX.thenX (WX.thenX (WX.blockHere (WX.to Kx181 (l176, A174, c175) [1, 3] rfl ⟨(hS185.subR [0]).sub [0, 1, 2] (by decide), hl186.symm⟩)))
  rintro ⟨y203, A178, c179⟩ w200 ⟨hS201, hq202⟩
  subst hq202
  refine WX.next ?_
  refine WC.seq ?_
  refine WC.seq ?_
  refine WC.region ?_
  refine seg 4 [.v (.slice A_p0_Actions p0.Actions.length c_p0_Actions)] [1, 3, 32, 33, 34] [(1, (.pointer (some ⟨g133, 0, none⟩))), (3, (.pointer (some ⟨g137, 0, none⟩))), (32, (.slice A_p0_Actions p0.Actions.length c_p0_Actions)), (33, (.int .i64 (p0.Actions.length : Int))), (34, (.int .i64 0))] [.cell ⟨g133, 2, none⟩ (.slice A_p0_Actions p0.Actions.length c_p0_Actions)] (fun fb => by kernel_rfl) rfl ⟨hS201.cell 0 rfl 2 rfl, trivial⟩ ?_
  refine WL.done rfl ?_
  refine WX.next ?_
  have hS687 := hS201.nilrow 3 encInt
  obtain ⟨x701, hx702, hf⟩ := bind_some hf
  refine WC.cutN (T := ((List Tile) × (List Int)) × (Option Addr) × Nat × (Option Addr) × Nat) (fun t => [(1, (.pointer (some ⟨g133, 0, none⟩))), (3, (.pointer (some ⟨g137, 0, none⟩)))]) (fun t w1 => St NoS w w1 [rowR enc_Action A_p0_Actions c_p0_Actions p0.Actions] [blk g133 (.cells #[(.int .i64 p0.States), (.int .i64 p0.Symbols), (.slice A_p0_Actions p0.Actions.length c_p0_Actions)] 24 (0, 0)), blk g137 (.cells #[(.int .i64 p0.States), (.int .i64 p0.Symbols), (.slice A_p0_Actions p0.Actions.length c_p0_Actions), (.slice t.2.1 t.1.1.length t.2.2.1), (.slice t.2.2.2.1 t.1.2.length t.2.2.2.2), (.int .i64 0)] 96 (0, 0)), rowO 65 enc_Tile t.2.1 t.2.2.1 t.1.1, rowO 3 encInt t.2.2.2.1 t.2.2.2.2 t.1.2] ∧ x701 = t.1) (fun Kx701 => ?_) ?_
  ·
    refine WC.block ?_
    refine WC.loop (T := ((List Tile) × (List Int) × Int) × (Option Addr) × Nat × (Option Addr) × Nat) (fun t => [(1, (.pointer (some ⟨g133, 0, none⟩))), (3, (.pointer (some ⟨g137, 0, none⟩))), (32, (.slice A_p0_Actions p0.Actions.length c_p0_Actions)), (33, (.int .i64 (p0.Actions.length : Int))), (34, (.int .i64 t.1.2.2))]) (fun n t w1 => St NoS w w1 [rowR enc_Action A_p0_Actions c_p0_Actions p0.Actions] [blk g133 (.cells #[(.int .i64 p0.States), (.int .i64 p0.Symbols), (.slice A_p0_Actions p0.Actions.length c_p0_Actions)] 24 (0, 0)), blk g137 (.cells #[(.int .i64 p0.States), (.int .i64 p0.Symbols), (.slice A_p0_Actions p0.Actions.length c_p0_Actions), (.slice t.2.1 t.1.1.length t.2.2.1), (.slice t.2.2.2.1 t.1.2.1.length t.2.2.2.2), (.int .i64 0)] 96 (0, 0)), rowO 65 enc_Tile t.2.1 t.2.2.1 t.1.1, rowO 3 encInt t.2.2.2.1 t.2.2.2.2 t.1.2.1] ∧ machine_kitOf.l1 n t.1.1 t.1.2.1 t.1.2.2 p0 = some x701) k ((x181, ([] : List Int), 0), A178, c179, none, 0) [1, 3, 32, 33, 34] rfl ⟨(hS687.subR [0]).sub [1, 2, 3, 0] (by decide), hx702⟩ ?_
    rintro k703 ⟨⟨l690, l693, x694⟩, A688, c689, A691, c692⟩ w704 ⟨hS705, hl706⟩
    cases k703 with
    | zero => rw [machine_kitOf.l1] at hl706; cases hl706
    | succ k703 =>
      rw [machine_kitOf.l1] at hl706
      refine WC.seq ?_
      refine WC.region ?_
      refine seg 1 [] [1, 3, 32, 33, 34, 35] [(1, (.pointer (some ⟨g133, 0, none⟩))), (3, (.pointer (some ⟨g137, 0, none⟩))), (32, (.slice A_p0_Actions p0.Actions.length c_p0_Actions)), (33, (.int .i64 (p0.Actions.length : Int))), (34, (.int .i64 x694)), (35, (.bool (decide (x694 < (p0.Actions.length : Int)))))] [] (fun fb => by kernel_rfl) rfl trivial ?_
      refine WL.done rfl ?_
      refine WX.next ?_
      refine WC.seq ?_
      rcases br_some hl706 with ⟨h707, hl706⟩ | ⟨h707, hl706⟩
      · refine WC.condT2 (fun fb => by kernel_rfl) h707 ?_
        refine WC.skip ?_
        refine WX.next ?_
        refine WC.seq ?_
        obtain ⟨x799, hx800, hl706⟩ := bind_some hl706
        refine WC.cutN (T := ((List Tile) × (List Int)) × (Option Addr) × Nat × (Option Addr) × Nat) (fun t => [(1, (.pointer (some ⟨g133, 0, none⟩))), (3, (.pointer (some ⟨g137, 0, none⟩))), (32, (.slice A_p0_Actions p0.Actions.length c_p0_Actions)), (33, (.int .i64 (p0.Actions.length : Int))), (34, (.int .i64 x694))]) (fun t w1 => St NoS w w1 [rowR enc_Action A_p0_Actions c_p0_Actions p0.Actions] [blk g133 (.cells #[(.int .i64 p0.States), (.int .i64 p0.Symbols), (.slice A_p0_Actions p0.Actions.length c_p0_Actions)] 24 (0, 0)), blk g137 (.cells #[(.int .i64 p0.States), (.int .i64 p0.Symbols), (.slice A_p0_Actions p0.Actions.length c_p0_Actions), (.slice t.2.1 t.1.1.length t.2.2.1), (.slice t.2.2.2.1 t.1.2.length t.2.2.2.2), (.int .i64 0)] 96 (0, 0)), rowO 65 enc_Tile t.2.1 t.2.2.1 t.1.1, rowO 3 encInt t.2.2.2.1 t.2.2.2.2 t.1.2] ∧ x799 = t.1) (fun Kx799 => ?_) ?_
        ·
          refine WC.block ?_
          refine WC.seq ?_
          refine WC.region ?_
          refine seg 1 [] [1, 3, 32, 33, 34, 36] [(1, (.pointer (some ⟨g133, 0, none⟩))), (3, (.pointer (some ⟨g137, 0, none⟩))), (32, (.slice A_p0_Actions p0.Actions.length c_p0_Actions)), (33, (.int .i64 (p0.Actions.length : Int))), (34, (.int .i64 x694)), (36, (.int .i64 x694))] [] (fun fb => by kernel_rfl) rfl trivial ?_
          obtain ⟨h801, hx800⟩ := as_some hx800
          refine seg 3 [.v (.int .i64 ((rdD p0.Actions x694 z_Action).Write)), .v (.int .i64 ((rdD p0.Actions x694 z_Action).Move)), .v (.int .i64 ((rdD p0.Actions x694 z_Action).Next))] [1, 3, 32, 33, 34, 36, 38] [(1, (.pointer (some ⟨g133, 0, none⟩))), (3, (.pointer (some ⟨g137, 0, none⟩))), (32, (.slice A_p0_Actions p0.Actions.length c_p0_Actions)), (33, (.int .i64 (p0.Actions.length : Int))), (34, (.int .i64 x694)), (36, (.int .i64 x694)), (38, (.agg #[(.int .i64 ((rdD p0.Actions x694 z_Action).Write)), (.int .i64 ((rdD p0.Actions x694 z_Action).Move)), (.int .i64 ((rdD p0.Actions x694 z_Action).Next))]))] [.idx A_p0_Actions x694 p0.Actions.length, .cell ((adr A_p0_Actions).add ((x694).toNat * 3)) (.int .i64 ((rdD p0.Actions x694 z_Action).Write)), .cell (((adr A_p0_Actions).add ((x694).toNat * 3)).add 1) (.int .i64 ((rdD p0.Actions x694 z_Action).Move)), .cell (((adr A_p0_Actions).add ((x694).toNat * 3)).add 2) (.int .i64 ((rdD p0.Actions x694 z_Action).Next))] (fun fb => by kernel_rfl) rfl ⟨rowR.adr (hS705.rd 0).1 h801.1 h801.2, rowR.cell (hS705.rd 0).1 z_Action h801.1 h801.2 0 rfl, rowR.cell (hS705.rd 0).1 z_Action h801.1 h801.2 1 rfl, rowR.cell (hS705.rd 0).1 z_Action h801.1 h801.2 2 rfl, trivial⟩ ?_
          refine WL.new hS705 6 [] (fun g => (.pointer (some ⟨g, 0, none⟩))) (.cells #[(.int .i64 0), (.int .i64 0), (.int .i64 0)] 88 (0, 0)) [] (fun fb g => by kernel_rfl) trivial (fun g802 w803 hS804 => ?_)
          refine ⟨trivial, ?_⟩
          refine seg 5 [] [1, 3, 5, 6, 32, 33, 34, 38] [(1, (.pointer (some ⟨g133, 0, none⟩))), (3, (.pointer (some ⟨g137, 0, none⟩))), (5, (.int .i64 x694)), (6, (.pointer (some ⟨g802, 0, none⟩))), (32, (.slice A_p0_Actions p0.Actions.length c_p0_Actions)), (33, (.int .i64 (p0.Actions.length : Int))), (34, (.int .i64 x694)), (38, (.agg #[(.int .i64 ((rdD p0.Actions x694 z_Action).Write)), (.int .i64 ((rdD p0.Actions x694 z_Action).Move)), (.int .i64 ((rdD p0.Actions x694 z_Action).Next))]))] [] (fun fb => by kernel_rfl) rfl trivial ?_
          refine WL.store hS804 0 rfl [(0, (.int .i64 ((rdD p0.Actions x694 z_Action).Write))), (1, (.int .i64 ((rdD p0.Actions x694 z_Action).Move))), (2, (.int .i64 ((rdD p0.Actions x694 z_Action).Next)))] #[(.int .i64 ((rdD p0.Actions x694 z_Action).Write)), (.int .i64 ((rdD p0.Actions x694 z_Action).Move)), (.int .i64 ((rdD p0.Actions x694 z_Action).Next))] (fun fb => by kernel_rfl) (by kernel_rfl) rfl [1, 2, 3, 4] (by decide) (by decide) (fun w806 hS807 => ?_)
          refine ⟨trivial, ?_⟩
          refine WL.done rfl ?_
          refine WX.next ?_
          refine WC.seq ?_
          refine WC.seq ?_
          refine WC.region ?_
          refine seg 5 [.v (.int .i64 ((rdD p0.Actions x694 z_Action).Next)), .v (.int .i64 p0.States)] [1, 3, 5, 6, 32, 33, 34, 43] [(1, (.pointer (some ⟨g133, 0, none⟩))), (3, (.pointer (some ⟨g137, 0, none⟩))), (5, (.int .i64 x694)), (6, (.pointer (some ⟨g802, 0, none⟩))), (32, (.slice A_p0_Actions p0.Actions.length c_p0_Actions)), (33, (.int .i64 (p0.Actions.length : Int))), (34, (.int .i64 x694)), (43, (.bool (((rdD p0.Actions x694 z_Action).Next) == p0.States)))] [.cell ⟨g802, 2, none⟩ (.int .i64 ((rdD p0.Actions x694 z_Action).Next)), .cell ⟨g133, 0, none⟩ (.int .i64 p0.States)] (fun fb => by kernel_rfl) rfl ⟨hS807.cell 0 rfl 2 rfl, hS807.cell 1 rfl 0 rfl, trivial⟩ ?_
          refine WL.done rfl ?_
          refine WX.next ?_
          rcases br_some hx800 with ⟨h808, hx800⟩ | ⟨h808, hx800⟩
          · refine WC.condT2 (fun fb => by kernel_rfl) h808 ?_
            refine WC.seq ?_
            refine WC.region ?_
            refine seg 5 [.v (.slice A691 l693.length c692)] [1, 3, 32, 33, 34, 44, 48] [(1, (.pointer (some ⟨g133, 0, none⟩))), (3, (.pointer (some ⟨g137, 0, none⟩))), (32, (.slice A_p0_Actions p0.Actions.length c_p0_Actions)), (33, (.int .i64 (p0.Actions.length : Int))), (34, (.int .i64 x694)), (44, (.pointer (some ⟨g137, 0, none⟩))), (48, (.slice A691 l693.length c692))] [.cell ⟨g137, 4, none⟩ (.slice A691 l693.length c692)] (fun fb => by kernel_rfl) rfl ⟨hS807.cell 2 rfl 4 rfl, trivial⟩ ?_
            refine WL.new hS807 49 [] (fun g => (.slice (some ⟨g, 0, none⟩) 1 1)) (.cells #[(.int .i64 (-1))] 3 (0, 0)) [] (fun fb g => by kernel_rfl) trivial (fun g809 w810 hS811 => ?_)
            refine ⟨trivial, ?_⟩
            have hS813 : St NoS w w810 [rowR enc_Action A_p0_Actions c_p0_Actions p0.Actions] [rowO 3 encInt (some ⟨g809, 0, none⟩) 1 [(-1)], blk g802 (.cells #[(.int .i64 ((rdD p0.Actions x694 z_Action).Write)), (.int .i64 ((rdD p0.Actions x694 z_Action).Move)), (.int .i64 ((rdD p0.Actions x694 z_Action).Next))] 88 (0, 0)), blk g133 (.cells #[(.int .i64 p0.States), (.int .i64 p0.Symbols), (.slice A_p0_Actions p0.Actions.length c_p0_Actions)] 24 (0, 0)), blk g137 (.cells #[(.int .i64 p0.States), (.int .i64 p0.Symbols), (.slice A_p0_Actions p0.Actions.length c_p0_Actions), (.slice A688 l690.length c689), (.slice A691 l693.length c692), (.int .i64 0)] 96 (0, 0)), rowO 65 enc_Tile A688 c689 l690, rowO 3 encInt A691 c692 l693] := hS811.map1 0 _ (fun h => rowO.ofBlk h rfl (Nat.le_of_ble_eq_true (by kernel_rfl))) (fun _ h => by obtain ⟨_, h1, h2⟩ := h; injection h1 with h1; subst h1; exact h2) [1, 2, 3, 4, 5] (by decide) (by decide)
            obtain ⟨h814, hx800⟩ := as_some hx800
            refine WL.append hS813 5 (d := 50) (tS := 25) (z := (.int .i64 0)) (bytes := 8) (c2 := 1) rfl (fun fb => by kernel_rfl) (rowO.rd (hS813.own 0).1) (by kernel_rfl) (by kernel_rfl) rfl (by decide) h814 (by decide) [0, 1, 2, 3, 4] (by decide) (by decide) (fun A815 c816 w817 hS818 => ?_)
            refine ⟨trivial, ?_⟩
            refine seg 9 [] [1, 3, 32, 33, 34, 50, 52] [(1, (.pointer (some ⟨g133, 0, none⟩))), (3, (.pointer (some ⟨g137, 0, none⟩))), (32, (.slice A_p0_Actions p0.Actions.length c_p0_Actions)), (33, (.int .i64 (p0.Actions.length : Int))), (34, (.int .i64 x694)), (50, (.slice A815 (l693 ++ [(-1)]).length c816)), (52, (.pointer (some ⟨g137, 4, none⟩)))] [] (fun fb => by kernel_rfl) rfl trivial ?_
            refine WL.store hS818 4 rfl [(4, (.slice A815 (l693 ++ [(-1)]).length c816))] #[(.int .i64 p0.States), (.int .i64 p0.Symbols), (.slice A_p0_Actions p0.Actions.length c_p0_Actions), (.slice A688 l690.length c689), (.slice A815 (l693 ++ [(-1)]).length c816), (.int .i64 0)] (fun fb => by kernel_rfl) (by kernel_rfl) rfl [0, 1, 2, 3, 5] (by decide) (by decide) (fun w819 hS820 => ?_)
            refine ⟨trivial, ?_⟩
            refine WL.done rfl ?_
            refine WX.next ?_
            refine WC.exit ?_
            injection hx800 with hx800
            exact WX.thenX (WX.blockHere (WX.to Kx799 ((l690, l693 ++ [(-1)]), A688, c689, A815, c816) [1, 3, 32, 33, 34] rfl ⟨(hS820.subR [0]).sub [4, 0, 5, 1] (by decide), hx800.symm⟩))
          refine WC.condF2 (fun fb => by kernel_rfl) h808 ?_
          refine WC.skip ?_
          refine WX.next ?_
          refine WC.seq ?_
          refine WC.regionD ([(4, ⟨g137, 4, none⟩, (.slice A691 l693.length c692)), (8, ⟨g137, 3, none⟩, (.slice A688 l690.length c689))], [0, 1, 2, 3, 4, 5, 6, 7, 8, 9, 12, 13], [[], [], [1], [1, 2], [1, 2, 3], [], [5], [5, 6], [5, 6, 7], [5, 6, 7, 8], [5, 6, 7, 8, 9], [1, 2, 3, 4, 5, 6, 7, 8, 9, 10], [0, 1, 2, 3, 4, 5, 6, 7, 8, 9, 10, 11], [0, 1, 2, 3, 4, 5, 6, 7, 8, 9, 10, 11, 12], [0, 1, 2, 3, 4, 5, 6, 7, 8, 9, 10, 11, 12, 13]]) [[0, 1, 2, 3, 4, 5, 6, 7, 8, 9, 10, 11, 12, 13, 14]] (by kernel_rfl) (by kernel_rfl) (NoPanic.seq (NoPanic.block (NoPanic.seq (NoPanic.seq (NoPanic.block (NoPanic.seq (NoPanic.body))))))) ?_
          have hS834 := hS807.drew
          revert hS834
          generalize World.drew w806 = w833
          intro hS834
          refine ⟨⟨hS834.cell 2 rfl 4 rfl, hS834.cell 2 rfl 3 rfl, trivial⟩, forallC ?_ (forallN)⟩
          refine segF 10 [.v (.slice A691 l693.length c692), .v (.slice A688 l690.length c689)] [1, 3, 5, 6, 32, 33, 34, 53, 57, 62] [(1, (.pointer (some ⟨g133, 0, none⟩))), (3, (.pointer (some ⟨g137, 0, none⟩))), (5, (.int .i64 x694)), (6, (.pointer (some ⟨g802, 0, none⟩))), (32, (.slice A_p0_Actions p0.Actions.length c_p0_Actions)), (33, (.int .i64 (p0.Actions.length : Int))), (34, (.int .i64 x694)), (53, (.pointer (some ⟨g137, 0, none⟩))), (57, (.slice A691 l693.length c692)), (62, (.int .i64 (l690.length : Int)))] [] [0, 1] [(4, ⟨g137, 4, none⟩, (.slice A691 l693.length c692)), (8, ⟨g137, 3, none⟩, (.slice A688 l690.length c689))] (fun fb => by kernel_rfl) rfl trivial rfl ?_
          refine WL.new hS834 63 [] (fun g => (.slice (some ⟨g, 0, none⟩) 1 1)) (.cells #[(.int .i64 (l690.length : Int))] 3 (0, 0)) [] (fun fb g => by kernel_rfl) trivial (fun g835 w836 hS837 => ?_)
          refine ⟨⟨hS837.cell 3 rfl 4 rfl, trivial⟩, ?_⟩
          have hS839 : St NoS w w836 [rowR enc_Action A_p0_Actions c_p0_Actions p0.Actions] [rowO 3 encInt (some ⟨g835, 0, none⟩) 1 [(l690.length : Int)], blk g802 (.cells #[(.int .i64 ((rdD p0.Actions x694 z_Action).Write)), (.int .i64 ((rdD p0.Actions x694 z_Action).Move)), (.int .i64 ((rdD p0.Actions x694 z_Action).Next))] 88 (0, 0)), blk g133 (.cells #[(.int .i64 p0.States), (.int .i64 p0.Symbols), (.slice A_p0_Actions p0.Actions.length c_p0_Actions)] 24 (0, 0)), blk g137 (.cells #[(.int .i64 p0.States), (.int .i64 p0.Symbols), (.slice A_p0_Actions p0.Actions.length c_p0_Actions), (.slice A688 l690.length c689), (.slice A691 l693.length c692), (.int .i64 0)] 96 (0, 0)), rowO 65 enc_Tile A688 c689 l690, rowO 3 encInt A691 c692 l693] := hS837.map1 0 _ (fun h => rowO.ofBlk h rfl (Nat.le_of_ble_eq_true (by kernel_rfl))) (fun _ h => by obtain ⟨_, h1, h2⟩ := h; injection h1 with h1; subst h1; exact h2) [1, 2, 3, 4, 5] (by decide) (by decide)
          obtain ⟨h840, hx800⟩ := as_some hx800
          refine WL.append hS839 5 (d := 64) (tS := 25) (z := (.int .i64 0)) (bytes := 8) (c2 := 1) rfl (fun fb => by kernel_rfl) (rowO.rd (hS839.own 0).1) (by kernel_rfl) (by kernel_rfl) rfl (by decide) h840 (by decide) [0, 1, 2, 3, 4] (by decide) (by decide) (fun A841 c842 w843 hS844 => ?_)
          refine ⟨trivial, ?_⟩
          refine seg 14 [] [1, 3, 5, 6, 32, 33, 34, 64, 66] [(1, (.pointer (some ⟨g133, 0, none⟩))), (3, (.pointer (some ⟨g137, 0, none⟩))), (5, (.int .i64 x694)), (6, (.pointer (some ⟨g802, 0, none⟩))), (32, (.slice A_p0_Actions p0.Actions.length c_p0_Actions)), (33, (.int .i64 (p0.Actions.length : Int))), (34, (.int .i64 x694)), (64, (.slice A841 (l693 ++ [(l690.length : Int)]).length c842)), (66, (.pointer (some ⟨g137, 4, none⟩)))] [] (fun fb => by kernel_rfl) rfl trivial ?_
          refine WL.store hS844 4 rfl [(4, (.slice A841 (l693 ++ [(l690.length : Int)]).length c842))] #[(.int .i64 p0.States), (.int .i64 p0.Symbols), (.slice A_p0_Actions p0.Actions.length c_p0_Actions), (.slice A688 l690.length c689), (.slice A841 (l693 ++ [(l690.length : Int)]).length c842), (.int .i64 0)] (fun fb => by kernel_rfl) (by kernel_rfl) rfl [0, 1, 2, 3, 5] (by decide) (by decide) (fun w845 hS846 => ?_)
          refine ⟨trivial, ?_⟩
          refine WL.done rfl ?_
          refine WX.next ?_
          obtain ⟨h868, hx800⟩ := as_some hx800
          refine WC.regionD ([(4, ⟨g137, 3, none⟩, (.slice A688 l690.length c689)), (8, ⟨g133, 1, none⟩, (.int .i64 p0.Symbols)), (12, ⟨g133, 1, none⟩, (.int .i64 p0.Symbols)), (14, ⟨g802, 0, none⟩, (.int .i64 ((rdD p0.Actions x694 z_Action).Write))), (14, ⟨g802, 1, none⟩, (.int .i64 ((rdD p0.Actions x694 z_Action).Move))), (14, ⟨g802, 2, none⟩, (.int .i64 ((rdD p0.Actions x694 z_Action).Next)))], [0, 1, 2, 3, 4, 5, 6, 7, 8, 9, 10, 11, 12, 13, 14, 18, 19], [[], [], [1], [1, 2], [1, 2, 3], [], [], [], [7], [6, 7, 8], [], [], [11], [10, 11, 12], [], [5, 6, 7, 8, 9, 10, 11, 12, 13, 14], [5, 6, 7, 8, 9, 10, 11, 12, 13, 14, 15], [1, 2, 3, 4, 5, 6, 7, 8, 9, 10, 11, 12, 13, 14, 15, 16], [0, 1, 2, 3, 4, 5, 6, 7, 8, 9, 10, 11, 12, 13, 14, 15, 16, 17], [0, 1, 2, 3, 4, 5, 6, 7, 8, 9, 10, 11, 12, 13, 14, 15, 16, 17, 18], [0, 1, 2, 3, 4, 5, 6, 7, 8, 9, 10, 11, 12, 13, 14, 15, 16, 17, 18, 19]]) [[0, 1, 2, 3, 4, 5, 6, 7, 8, 9, 10, 11, 12, 13, 14, 15, 16, 17, 18, 19, 20]] (by kernel_rfl) (by kernel_rfl) (NoPanic.block (NoPanic.seq (NoPanic.seq (NoPanic.block (NoPanic.seq (NoPanic.body)))))) ?_
          have hS866 := hS846.drew
          revert hS866
          generalize World.drew w845 = w865
          intro hS866
          refine ⟨⟨hS866.cell 0 rfl 3 rfl, hS866.cell 4 rfl 1 rfl, hS866.cell 4 rfl 1 rfl, hS866.cell 3 rfl 0 rfl, hS866.cell 3 rfl 1 rfl, hS866.cell 3 rfl 2 rfl, trivial⟩, forallC ?_ (forallN)⟩
          refine segF 15 [.v (.slice A688 l690.length c689), .v (.int .i64 p0.Symbols), .v (.int .i64 p0.Symbols), .v (.int .i64 ((rdD p0.Actions x694 z_Action).Write)), .v (.int .i64 ((rdD p0.Actions x694 z_Action).Move)), .v (.int .i64 ((rdD p0.Actions x694 z_Action).Next))] [1, 3, 32, 33, 34, 67, 71, 72, 76, 80, 81] [(1, (.pointer (some ⟨g133, 0, none⟩))), (3, (.pointer (some ⟨g137, 0, none⟩))), (32, (.slice A_p0_Actions p0.Actions.length c_p0_Actions)), (33, (.int .i64 (p0.Actions.length : Int))), (34, (.int .i64 x694)), (67, (.pointer (some ⟨g137, 0, none⟩))), (71, (.slice A688 l690.length c689)), (72, (.pointer (some ⟨g137, 0, none⟩))), (76, (.int .i64 (w64 (Int.tdiv x694 p0.Symbols)))), (80, (.int .i64 (Int.tmod x694 p0.Symbols))), (81, (.agg #[(.int .i64 ((rdD p0.Actions x694 z_Action).Write)), (.int .i64 ((rdD p0.Actions x694 z_Action).Move)), (.int .i64 ((rdD p0.Actions x694 z_Action).Next))]))] [.ne p0.Symbols, .ne p0.Symbols] [0, 1, 2, 3, 4, 5] [(4, ⟨g137, 3, none⟩, (.slice A688 l690.length c689)), (8, ⟨g133, 1, none⟩, (.int .i64 p0.Symbols)), (12, ⟨g133, 1, none⟩, (.int .i64 p0.Symbols)), (14, ⟨g802, 0, none⟩, (.int .i64 ((rdD p0.Actions x694 z_Action).Write))), (14, ⟨g802, 1, none⟩, (.int .i64 ((rdD p0.Actions x694 z_Action).Move))), (14, ⟨g802, 2, none⟩, (.int .i64 ((rdD p0.Actions x694 z_Action).Next)))] (fun fb => by kernel_rfl) rfl ⟨h868, h868, trivial⟩ rfl ?_
          obtain ⟨t869, ht870, hx800⟩ := bind_some hx800
          refine WL.call (some 82) 60 #[(.pointer (some ⟨g137, 0, none⟩)), (.int .i64 (w64 (Int.tdiv x694 p0.Symbols))), (.int .i64 (Int.tmod x694 p0.Symbols)), (.agg #[(.int .i64 ((rdD p0.Actions x694 z_Action).Write)), (.int .i64 ((rdD p0.Actions x694 z_Action).Move)), (.int .i64 ((rdD p0.Actions x694 z_Action).Next))])] (fun fb => by kernel_rfl) (machine_kit_acts_calls (Kit.mk p0 l690 (l693 ++ [(l690.length : Int)]) 0) (w64 (Int.tdiv x694 p0.Symbols)) (Int.tmod x694 p0.Symbols) (rdD p0.Actions x694 z_Action) g137 A_p0_Actions c_p0_Actions A688 c689 A841 c842 t869 _ (hS866.ow 0) (hS866.rd 0) (hS866.ow 5).ofO (hS866.ow 1).ofO ht870) (fun v w871 hR872 => ?_)
          obtain ⟨rfl, hk_⟩ := hR872
          have hS873 := hS866.keepN hk_
          refine ⟨⟨hS873.cell 0 rfl 3 rfl, trivial⟩, ?_⟩
          refine WL.new hS873 83 [] (fun g => (.slice (some ⟨g, 0, none⟩) 1 1)) (.cells #[(.int .i64 t869.N), (.int .i64 t869.E), (.int .i64 t869.S), (.int .i64 t869.W)] 65 (0, 0)) [] (fun fb g => by kernel_rfl) trivial (fun g874 w875 hS876 => ?_)
          refine ⟨⟨hS876.cell 1 rfl 3 rfl, trivial⟩, ?_⟩
          have hS878 : St NoS w w875 [rowR enc_Action A_p0_Actions c_p0_Actions p0.Actions] [rowO 65 enc_Tile (some ⟨g874, 0, none⟩) 1 [t869], blk g137 (.cells #[(.int .i64 p0.States), (.int .i64 p0.Symbols), (.slice A_p0_Actions p0.Actions.length c_p0_Actions), (.slice A688 l690.length c689), (.slice A841 (l693 ++ [(l690.length : Int)]).length c842), (.int .i64 0)] 96 (0, 0)), rowO 3 encInt A841 c842 (l693 ++ [(l690.length : Int)]), rowO 3 encInt (some ⟨g835, 0, none⟩) 1 [(l690.length : Int)], blk g802 (.cells #[(.int .i64 ((rdD p0.Actions x694 z_Action).Write)), (.int .i64 ((rdD p0.Actions x694 z_Action).Move)), (.int .i64 ((rdD p0.Actions x694 z_Action).Next))] 88 (0, 0)), blk g133 (.cells #[(.int .i64 p0.States), (.int .i64 p0.Symbols), (.slice A_p0_Actions p0.Actions.length c_p0_Actions)] 24 (0, 0)), rowO 65 enc_Tile A688 c689 l690] := hS876.map1 0 _ (fun h => rowO.ofBlk h rfl (Nat.le_of_ble_eq_true (by kernel_rfl))) (fun _ h => by obtain ⟨_, h1, h2⟩ := h; injection h1 with h1; subst h1; exact h2) [1, 2, 3, 4, 5, 6] (by decide) (by decide)
          obtain ⟨h879, hx800⟩ := as_some hx800
          refine WL.append hS878 6 (d := 84) (tS := 50) (z := (.agg #[(.int .i64 0), (.int .i64 0), (.int .i64 0), (.int .i64 0)])) (bytes := 32) (c2 := 1) rfl (fun fb => by kernel_rfl) (rowO.rd (hS878.own 0).1) (by kernel_rfl) (by kernel_rfl) rfl (by decide) h879 (by decide) [0, 1, 2, 3, 4, 5] (by decide) (by decide) (fun A880 c881 w882 hS883 => ?_)
          refine ⟨trivial, ?_⟩
          refine seg 20 [] [1, 3, 32, 33, 34, 84, 86] [(1, (.pointer (some ⟨g133, 0, none⟩))), (3, (.pointer (some ⟨g137, 0, none⟩))), (32, (.slice A_p0_Actions p0.Actions.length c_p0_Actions)), (33, (.int .i64 (p0.Actions.length : Int))), (34, (.int .i64 x694)), (84, (.slice A880 (l690 ++ [t869]).length c881)), (86, (.pointer (some ⟨g137, 3, none⟩)))] [] (fun fb => by kernel_rfl) rfl trivial ?_
          refine WL.store hS883 2 rfl [(3, (.slice A880 (l690 ++ [t869]).length c881))] #[(.int .i64 p0.States), (.int .i64 p0.Symbols), (.slice A_p0_Actions p0.Actions.length c_p0_Actions), (.slice A880 (l690 ++ [t869]).length c881), (.slice A841 (l693 ++ [(l690.length : Int)]).length c842), (.int .i64 0)] (fun fb => by kernel_rfl) (by kernel_rfl) rfl [0, 1, 3, 4, 5, 6] (by decide) (by decide) (fun w884 hS885 => ?_)
          refine ⟨trivial, ?_⟩
          refine WL.done rfl ?_
          injection hx800 with hx800
          exact WX.blockN (WX.to Kx799 ((l690 ++ [t869], l693 ++ [(l690.length : Int)]), A880, c881, A841, c842) [1, 3, 32, 33, 34] rfl ⟨(hS885.subR [0]).sub [6, 0, 1, 3] (by decide), hx800.symm⟩)
        rintro ⟨y889, A793, c794, A796, c797⟩ w886 ⟨hS887, hq888⟩
        subst hq888
        refine WX.next ?_
        refine WC.region ?_
        refine seg 2 [] [1, 3, 32, 33, 34] [(1, (.pointer (some ⟨g133, 0, none⟩))), (3, (.pointer (some ⟨g137, 0, none⟩))), (32, (.slice A_p0_Actions p0.Actions.length c_p0_Actions)), (33, (.int .i64 (p0.Actions.length : Int))), (34, (.int .i64 (w64 (x694 + 1))))] [] (fun fb => by kernel_rfl) rfl trivial ?_
        refine WL.done rfl ?_
        exact WX.again k703 (Nat.lt_succ_self _) ((x799.1, x799.2, w64 (x694 + 1)), A793, c794, A796, c797) [1, 3, 32, 33, 34] rfl ⟨(hS887.subR [0]).sub [0, 1, 2, 3] (by decide), hl706⟩
      refine WC.condF2 (fun fb => by kernel_rfl) h707 ?_
      refine WC.exit ?_
      injection hl706 with hl706
      exact WX.thenX (WX.thenX (WX.blockHere (WX.to Kx701 ((l690, l693), A688, c689, A691, c692) [1, 3] rfl ⟨(hS705.subR [0]).sub [0, 1, 2, 3] (by decide), hl706.symm⟩)))
  rintro ⟨y893, A695, c696, A698, c699⟩ w890 ⟨hS891, hq892⟩
  subst hq892
  refine WX.next ?_
  refine WC.seq ?_
  refine WC.region ?_
  refine seg 8 [.v (.slice A695 x701.1.length c696)] [1, 3, 93, 95] [(1, (.pointer (some ⟨g133, 0, none⟩))), (3, (.pointer (some ⟨g137, 0, none⟩))), (93, (.int .i64 (x701.1.length : Int))), (95, (.pointer (some ⟨g137, 5, none⟩)))] [.cell ⟨g137, 3, none⟩ (.slice A695 x701.1.length c696)] (fun fb => by kernel_rfl) rfl ⟨hS891.cell 1 rfl 3 rfl, trivial⟩ ?_
  refine WL.store hS891 1 rfl [(5, (.int .i64 (x701.1.length : Int)))] #[(.int .i64 p0.States), (.int .i64 p0.Symbols), (.slice A_p0_Actions p0.Actions.length c_p0_Actions), (.slice A695 x701.1.length c696), (.slice A698 x701.2.length c699), (.int .i64 (x701.1.length : Int))] (fun fb => by kernel_rfl) (by kernel_rfl) rfl [0, 2, 3] (by decide) (by decide) (fun w894 hS895 => ?_)
  refine ⟨trivial, ?_⟩
  refine WL.done rfl ?_
  refine WX.next ?_
  refine WC.seq ?_
  refine WC.seq ?_
  refine WC.region ?_
  refine seg 3 [.v (.int .i64 p0.States)] [1, 3, 97, 98] [(1, (.pointer (some ⟨g133, 0, none⟩))), (3, (.pointer (some ⟨g137, 0, none⟩))), (97, (.int .i64 p0.States)), (98, (.int .i64 0))] [.cell ⟨g133, 0, none⟩ (.int .i64 p0.States)] (fun fb => by kernel_rfl) rfl ⟨hS895.cell 1 rfl 0 rfl, trivial⟩ ?_
  refine WL.done rfl ?_
  refine WX.next ?_
  obtain ⟨x1263, hx1264, hf⟩ := bind_some hf
  refine WC.cutN (T := (List Tile) × (Option Addr) × Nat) (fun t => [(3, (.pointer (some ⟨g137, 0, none⟩)))]) (fun t w1 => St NoS w w1 [rowR enc_Action A_p0_Actions c_p0_Actions p0.Actions] [blk g137 (.cells #[(.int .i64 p0.States), (.int .i64 p0.Symbols), (.slice A_p0_Actions p0.Actions.length c_p0_Actions), (.slice t.2.1 t.1.length t.2.2), (.slice A698 x701.2.length c699), (.int .i64 (x701.1.length : Int))] 96 (0, 0)), rowO 65 enc_Tile t.2.1 t.2.2 t.1, rowO 3 encInt A698 c699 x701.2] ∧ x1263 = t.1) (fun Kx1263 => ?_) ?_
  ·
    refine WC.block ?_
    refine WC.loop (T := ((List Tile) × Int) × (Option Addr) × Nat) (fun t => [(1, (.pointer (some ⟨g133, 0, none⟩))), (3, (.pointer (some ⟨g137, 0, none⟩))), (97, (.int .i64 p0.States)), (98, (.int .i64 t.1.2))]) (fun n t w1 => St NoS w w1 [rowR enc_Action A_p0_Actions c_p0_Actions p0.Actions] [blk g133 (.cells #[(.int .i64 p0.States), (.int .i64 p0.Symbols), (.slice A_p0_Actions p0.Actions.length c_p0_Actions)] 24 (0, 0)), blk g137 (.cells #[(.int .i64 p0.States), (.int .i64 p0.Symbols), (.slice A_p0_Actions p0.Actions.length c_p0_Actions), (.slice t.2.1 t.1.1.length t.2.2), (.slice A698 x701.2.length c699), (.int .i64 (x701.1.length : Int))] 96 (0, 0)), rowO 65 enc_Tile t.2.1 t.2.2 t.1.1, rowO 3 encInt A698 c699 x701.2] ∧ machine_kitOf.l2 n t.1.1 t.1.2 p0 x701 = some x1263) k ((x701.1, 0), A695, c696) [1, 3, 97, 98] rfl ⟨(hS895.subR [0]).sub [1, 0, 2, 3] (by decide), hx1264⟩ ?_
    rintro k1265 ⟨⟨l1258, x1259⟩, A1256, c1257⟩ w1266 ⟨hS1267, hl1268⟩
    cases k1265 with
    | zero => rw [machine_kitOf.l2] at hl1268; cases hl1268
    | succ k1265 =>
      rw [machine_kitOf.l2] at hl1268
      refine WC.seq ?_
      refine WC.region ?_
      refine seg 1 [] [1, 3, 97, 98, 99] [(1, (.pointer (some ⟨g133, 0, none⟩))), (3, (.pointer (some ⟨g137, 0, none⟩))), (97, (.int .i64 p0.States)), (98, (.int .i64 x1259)), (99, (.bool (decide (x1259 < p0.States))))] [] (fun fb => by kernel_rfl) rfl trivial ?_
      refine WL.done rfl ?_
      refine WX.next ?_
      refine WC.seq ?_
      rcases br_some hl1268 with ⟨h1269, hl1268⟩ | ⟨h1269, hl1268⟩
      · refine WC.condT2 (fun fb => by kernel_rfl) h1269 ?_
        refine WC.skip ?_
        refine WX.next ?_
        refine WC.seq ?_
        refine WC.block ?_
        refine WC.seq ?_
        refine WC.region ?_
        refine seg 2 [] [1, 3, 7, 97, 98] [(1, (.pointer (some ⟨g133, 0, none⟩))), (3, (.pointer (some ⟨g137, 0, none⟩))), (7, (.int .i64 x1259)), (97, (.int .i64 p0.States)), (98, (.int .i64 x1259))] [] (fun fb => by kernel_rfl) rfl trivial ?_
        refine WL.done rfl ?_
        refine WX.next ?_
        refine WC.seq ?_
        refine WC.region ?_
        refine seg 3 [.v (.int .i64 p0.Symbols)] [1, 3, 7, 97, 98, 102, 103] [(1, (.pointer (some ⟨g133, 0, none⟩))), (3, (.pointer (some ⟨g137, 0, none⟩))), (7, (.int .i64 x1259)), (97, (.int .i64 p0.States)), (98, (.int .i64 x1259)), (102, (.int .i64 p0.Symbols)), (103, (.int .i64 0))] [.cell ⟨g133, 1, none⟩ (.int .i64 p0.Symbols)] (fun fb => by kernel_rfl) rfl ⟨hS1267.cell 0 rfl 1 rfl, trivial⟩ ?_
        refine WL.done rfl ?_
        refine WX.next ?_
        obtain ⟨x1385, hx1386, hl1268⟩ := bind_some hl1268
        refine WC.cutN (T := (List Tile) × (Option Addr) × Nat) (fun t => [(1, (.pointer (some ⟨g133, 0, none⟩))), (3, (.pointer (some ⟨g137, 0, none⟩))), (97, (.int .i64 p0.States)), (98, (.int .i64 x1259))]) (fun t w1 => St NoS w w1 [rowR enc_Action A_p0_Actions c_p0_Actions p0.Actions] [blk g133 (.cells #[(.int .i64 p0.States), (.int .i64 p0.Symbols), (.slice A_p0_Actions p0.Actions.length c_p0_Actions)] 24 (0, 0)), blk g137 (.cells #[(.int .i64 p0.States), (.int .i64 p0.Symbols), (.slice A_p0_Actions p0.Actions.length c_p0_Actions), (.slice t.2.1 t.1.length t.2.2), (.slice A698 x701.2.length c699), (.int .i64 (x701.1.length : Int))] 96 (0, 0)), rowO 65 enc_Tile t.2.1 t.2.2 t.1, rowO 3 encInt A698 c699 x701.2] ∧ x1385 = t.1) (fun Kx1385 => ?_) ?_
        ·
          refine WC.block ?_
          refine WC.loop (T := ((List Tile) × Int) × (Option Addr) × Nat) (fun t => [(1, (.pointer (some ⟨g133, 0, none⟩))), (3, (.pointer (some ⟨g137, 0, none⟩))), (7, (.int .i64 x1259)), (97, (.int .i64 p0.States)), (98, (.int .i64 x1259)), (102, (.int .i64 p0.Symbols)), (103, (.int .i64 t.1.2))]) (fun n t w1 => St NoS w w1 [rowR enc_Action A_p0_Actions c_p0_Actions p0.Actions] [blk g133 (.cells #[(.int .i64 p0.States), (.int .i64 p0.Symbols), (.slice A_p0_Actions p0.Actions.length c_p0_Actions)] 24 (0, 0)), blk g137 (.cells #[(.int .i64 p0.States), (.int .i64 p0.Symbols), (.slice A_p0_Actions p0.Actions.length c_p0_Actions), (.slice t.2.1 t.1.1.length t.2.2), (.slice A698 x701.2.length c699), (.int .i64 (x701.1.length : Int))] 96 (0, 0)), rowO 65 enc_Tile t.2.1 t.2.2 t.1.1, rowO 3 encInt A698 c699 x701.2] ∧ machine_kitOf.l3 n t.1.1 t.1.2 p0 x701 x1259 = some x1385) k1265 ((l1258, 0), A1256, c1257) [1, 3, 7, 97, 98, 102, 103] rfl ⟨(hS1267.subR [0]).sub [0, 1, 2, 3] (by decide), hx1386⟩ ?_
          rintro k1387 ⟨⟨l1380, x1381⟩, A1378, c1379⟩ w1388 ⟨hS1389, hl1390⟩
          cases k1387 with
          | zero => rw [machine_kitOf.l3] at hl1390; cases hl1390
          | succ k1387 =>
            rw [machine_kitOf.l3] at hl1390
            refine WC.seq ?_
            refine WC.region ?_
            refine seg 1 [] [1, 3, 7, 97, 98, 102, 103, 104] [(1, (.pointer (some ⟨g133, 0, none⟩))), (3, (.pointer (some ⟨g137, 0, none⟩))), (7, (.int .i64 x1259)), (97, (.int .i64 p0.States)), (98, (.int .i64 x1259)), (102, (.int .i64 p0.Symbols)), (103, (.int .i64 x1381)), (104, (.bool (decide (x1381 < p0.Symbols))))] [] (fun fb => by kernel_rfl) rfl trivial ?_
            refine WL.done rfl ?_
            refine WX.next ?_
            refine WC.seq ?_
            rcases br_some hl1390 with ⟨h1391, hl1390⟩ | ⟨h1391, hl1390⟩
            · refine WC.condT2 (fun fb => by kernel_rfl) h1391 ?_
              refine WC.skip ?_
              refine WX.next ?_
              refine WC.seq ?_
              refine WC.block ?_
              refine WC.seq ?_
              refine WC.region ?_
              refine seg 2 [] [1, 3, 7, 8, 97, 98, 102, 103] [(1, (.pointer (some ⟨g133, 0, none⟩))), (3, (.pointer (some ⟨g137, 0, none⟩))), (7, (.int .i64 x1259)), (8, (.int .i64 x1381)), (97, (.int .i64 p0.States)), (98, (.int .i64 x1259)), (102, (.int .i64 p0.Symbols)), (103, (.int .i64 x1381))] [] (fun fb => by kernel_rfl) rfl trivial ?_
              refine WL.done rfl ?_
              refine WX.next ?_
              refine WC.seq ?_
              refine WC.region ?_
              refine seg 3 [.v (.int .i64 p0.States), .v (.int .i64 p0.Symbols), .v (.slice A_p0_Actions p0.Actions.length c_p0_Actions)] [1, 3, 7, 8, 97, 98, 102, 103, 106, 107, 108] [(1, (.pointer (some ⟨g133, 0, none⟩))), (3, (.pointer (some ⟨g137, 0, none⟩))), (7, (.int .i64 x1259)), (8, (.int .i64 x1381)), (97, (.int .i64 p0.States)), (98, (.int .i64 x1259)), (102, (.int .i64 p0.Symbols)), (103, (.int .i64 x1381)), (106, (.agg #[(.int .i64 p0.States), (.int .i64 p0.Symbols), (.slice A_p0_Actions p0.Actions.length c_p0_Actions)])), (107, (.int .i64 x1259)), (108, (.int .i64 x1381))] [.cell ⟨g133, 0, none⟩ (.int .i64 p0.States), .cell ⟨g133, 1, none⟩ (.int .i64 p0.Symbols), .cell ⟨g133, 2, none⟩ (.slice A_p0_Actions p0.Actions.length c_p0_Actions)] (fun fb => by kernel_rfl) rfl ⟨hS1389.cell 0 rfl 0 rfl, hS1389.cell 0 rfl 1 rfl, hS1389.cell 0 rfl 2 rfl, trivial⟩ ?_
              obtain ⟨t1392, ht1393, hl1390⟩ := bind_some hl1390
              refine WL.call (some 109) 61 #[(.agg #[(.int .i64 p0.States), (.int .i64 p0.Symbols), (.slice A_p0_Actions p0.Actions.length c_p0_Actions)]), (.int .i64 x1259), (.int .i64 x1381)] (fun fb => by kernel_rfl) (machine_head_calls p0 x1259 x1381 A_p0_Actions c_p0_Actions t1392 _ (hS1389.rd 0) ht1393) (fun v w1394 hR1395 => ?_)
              obtain ⟨rfl, hk_⟩ := hR1395
              have hS1396 := hS1389.keepN hk_
              refine ⟨trivial, ?_⟩
              refine seg 5 [] [1, 3, 7, 8, 9, 97, 98, 102, 103] [(1, (.pointer (some ⟨g133, 0, none⟩))), (3, (.pointer (some ⟨g137, 0, none⟩))), (7, (.int .i64 x1259)), (8, (.int .i64 x1381)), (9, (.int .i64 t1392)), (97, (.int .i64 p0.States)), (98, (.int .i64 x1259)), (102, (.int .i64 p0.Symbols)), (103, (.int .i64 x1381))] [] (fun fb => by kernel_rfl) rfl trivial ?_
              refine WL.done rfl ?_
              refine WX.next ?_
              refine WC.regionD ([(4, ⟨g137, 3, none⟩, (.slice A1378 l1380.length c1379))], [0, 1, 2, 3, 4, 5, 6, 7, 8, 10, 11, 12, 13, 14, 16, 19, 20], [[], [], [1], [1, 2], [1, 2, 3], [], [], [], [], [7, 8], [5, 6, 7, 8, 9], [], [], [], [], [7, 8, 9, 13, 14], [7, 8, 9, 11, 12, 13, 14, 15], [5, 6, 7, 8, 9, 10, 11, 12, 13, 14, 15, 16], [1, 2, 3, 4, 5, 6, 7, 8, 9, 10, 11, 12, 13, 14, 15, 16, 17], [0, 1, 2, 3, 4, 5, 6, 7, 8, 9, 10, 11, 12, 13, 14, 15, 16, 17, 18], [0, 1, 2, 3, 4, 5, 6, 7, 8, 9, 10, 11, 12, 13, 14, 15, 16, 17, 18, 19], [0, 1, 2, 3, 4, 5, 6, 7, 8, 9, 10, 11, 12, 13, 14, 15, 16, 17, 18, 19, 20]]) [[0, 1, 2, 3, 4, 5, 6, 7, 8, 11, 12, 13, 14, 9, 10, 15, 16, 17, 18, 19, 20, 21]] (by kernel_rfl) (by kernel_rfl) (NoPanic.block (NoPanic.seq (NoPanic.seq (NoPanic.block (NoPanic.block (NoPanic.seq (NoPanic.seq (NoPanic.block (NoPanic.seq (NoPanic.body)))))))))) ?_
              have hS1420 := hS1396.drew
              revert hS1420
              generalize World.drew w1394 = w1419
              intro hS1420
              refine ⟨⟨hS1420.cell 1 rfl 3 rfl, trivial⟩, forallC ?_ (forallN)⟩
              refine segF 13 [.v (.slice A1378 l1380.length c1379)] [1, 3, 7, 97, 98, 102, 103, 110, 114, 115, 116, 117, 118, 121, 122, 123, 124] [(1, (.pointer (some ⟨g133, 0, none⟩))), (3, (.pointer (some ⟨g137, 0, none⟩))), (7, (.int .i64 x1259)), (97, (.int .i64 p0.States)), (98, (.int .i64 x1259)), (102, (.int .i64 p0.Symbols)), (103, (.int .i64 x1381)), (110, (.pointer (some ⟨g137, 0, none⟩))), (114, (.slice A1378 l1380.length c1379)), (115, (.int .i64 t1392)), (116, (.int .i64 x1381)), (117, (.pointer (some ⟨g137, 0, none⟩))), (118, (.int .i64 x1259)), (121, (.int .i64 t1392)), (122, (.int .i64 x1381)), (123, (.pointer (some ⟨g137, 0, none⟩))), (124, (.int .i64 x1259))] [] [0] [(4, ⟨g137, 3, none⟩, (.slice A1378 l1380.length c1379))] (fun fb => by kernel_rfl) rfl trivial rfl ?_
              obtain ⟨t1421, ht1422, hl1390⟩ := bind_some hl1390
              refine WL.call (some 119) 62 #[(.pointer (some ⟨g137, 0, none⟩)), (.int .i64 1), (.int .i64 x1259)] (fun fb => by kernel_rfl) (machine_kit_signal_calls (Kit.mk p0 l1380 x701.2 (x701.1.length : Int)) 1 x1259 g137 A_p0_Actions c_p0_Actions A1378 c1379 A698 c699 t1421 _ (hS1420.ow 1) (hS1420.rd 0) (hS1420.ow 2).ofO (hS1420.ow 3).ofO ht1422) (fun v w1423 hR1424 => ?_)
              obtain ⟨rfl, hk_⟩ := hR1424
              have hS1425 := hS1420.keepN hk_
              refine ⟨⟨hS1425.cell 1 rfl 3 rfl, trivial⟩, ?_⟩
              refine seg 15 [] [1, 3, 7, 97, 98, 102, 103, 110, 114, 120, 121, 122, 123, 124] [(1, (.pointer (some ⟨g133, 0, none⟩))), (3, (.pointer (some ⟨g137, 0, none⟩))), (7, (.int .i64 x1259)), (97, (.int .i64 p0.States)), (98, (.int .i64 x1259)), (102, (.int .i64 p0.Symbols)), (103, (.int .i64 x1381)), (110, (.pointer (some ⟨g137, 0, none⟩))), (114, (.slice A1378 l1380.length c1379)), (120, (.agg #[(.int .i64 t1392), (.int .i64 0), (.int .i64 x1381), (.int .i64 t1421)])), (121, (.int .i64 t1392)), (122, (.int .i64 x1381)), (123, (.pointer (some ⟨g137, 0, none⟩))), (124, (.int .i64 x1259))] [] (fun fb => by kernel_rfl) rfl trivial ?_
              obtain ⟨t1426, ht1427, hl1390⟩ := bind_some hl1390
              refine WL.call (some 125) 62 #[(.pointer (some ⟨g137, 0, none⟩)), (.int .i64 0), (.int .i64 x1259)] (fun fb => by kernel_rfl) (machine_kit_signal_calls (Kit.mk p0 l1380 x701.2 (x701.1.length : Int)) 0 x1259 g137 A_p0_Actions c_p0_Actions A1378 c1379 A698 c699 t1426 _ (hS1425.ow 1) (hS1425.rd 0) (hS1425.ow 2).ofO (hS1425.ow 3).ofO ht1427) (fun v w1428 hR1429 => ?_)
              obtain ⟨rfl, hk_⟩ := hR1429
              have hS1430 := hS1425.keepN hk_
              refine ⟨⟨hS1430.cell 1 rfl 3 rfl, trivial⟩, ?_⟩
              refine seg 17 [] [1, 3, 7, 97, 98, 102, 103, 110, 114, 120, 126] [(1, (.pointer (some ⟨g133, 0, none⟩))), (3, (.pointer (some ⟨g137, 0, none⟩))), (7, (.int .i64 x1259)), (97, (.int .i64 p0.States)), (98, (.int .i64 x1259)), (102, (.int .i64 p0.Symbols)), (103, (.int .i64 x1381)), (110, (.pointer (some ⟨g137, 0, none⟩))), (114, (.slice A1378 l1380.length c1379)), (120, (.agg #[(.int .i64 t1392), (.int .i64 0), (.int .i64 x1381), (.int .i64 t1421)])), (126, (.agg #[(.int .i64 t1392), (.int .i64 t1426), (.int .i64 x1381), (.int .i64 0)]))] [] (fun fb => by kernel_rfl) rfl trivial ?_
              refine WL.new hS1430 127 [] (fun g => (.slice (some ⟨g, 0, none⟩) 2 2)) (.cells #[(.int .i64 t1392), (.int .i64 0), (.int .i64 x1381), (.int .i64 t1421), (.int .i64 t1392), (.int .i64 t1426), (.int .i64 x1381), (.int .i64 0)] 65 (0, 0)) [] (fun fb g => by kernel_rfl) trivial (fun g1431 w1432 hS1433 => ?_)
              refine ⟨⟨hS1433.cell 2 rfl 3 rfl, trivial⟩, ?_⟩
              have hS1435 : St NoS w w1432 [rowR enc_Action A_p0_Actions c_p0_Actions p0.Actions] [rowO 65 enc_Tile (some ⟨g1431, 0, none⟩) 2 [(Tile.mk t1392 0 x1381 t1421), (Tile.mk t1392 t1426 x1381 0)], blk g133 (.cells #[(.int .i64 p0.States), (.int .i64 p0.Symbols), (.slice A_p0_Actions p0.Actions.length c_p0_Actions)] 24 (0, 0)), blk g137 (.cells #[(.int .i64 p0.States), (.int .i64 p0.Symbols), (.slice A_p0_Actions p0.Actions.length c_p0_Actions), (.slice A1378 l1380.length c1379), (.slice A698 x701.2.length c699), (.int .i64 (x701.1.length : Int))] 96 (0, 0)), rowO 65 enc_Tile A1378 c1379 l1380, rowO 3 encInt A698 c699 x701.2] := hS1433.map1 0 _ (fun h => rowO.ofBlk h rfl (Nat.le_of_ble_eq_true (by kernel_rfl))) (fun _ h => by obtain ⟨_, h1, h2⟩ := h; injection h1 with h1; subst h1; exact h2) [1, 2, 3, 4] (by decide) (by decide)
              obtain ⟨h1436, hl1390⟩ := as_some hl1390
              refine WL.append hS1435 3 (d := 128) (tS := 50) (z := (.agg #[(.int .i64 0), (.int .i64 0), (.int .i64 0), (.int .i64 0)])) (bytes := 32) (c2 := 2) rfl (fun fb => by kernel_rfl) (rowO.rd (hS1435.own 0).1) (by kernel_rfl) (by kernel_rfl) rfl (by decide) h1436 (by decide) [0, 1, 2, 4] (by decide) (by decide) (fun A1437 c1438 w1439 hS1440 => ?_)
              refine ⟨trivial, ?_⟩
              refine seg 21 [] [1, 3, 7, 97, 98, 102, 103, 128, 130] [(1, (.pointer (some ⟨g133, 0, none⟩))), (3, (.pointer (some ⟨g137, 0, none⟩))), (7, (.int .i64 x1259)), (97, (.int .i64 p0.States)), (98, (.int .i64 x1259)), (102, (.int .i64 p0.Symbols)), (103, (.int .i64 x1381)), (128, (.slice A1437 (l1380 ++ [(Tile.mk t1392 0 x1381 t1421), (Tile.mk t1392 t1426 x1381 0)]).length c1438)), (130, (.pointer (some ⟨g137, 3, none⟩)))] [] (fun fb => by kernel_rfl) rfl trivial ?_
              refine WL.store hS1440 3 rfl [(3, (.slice A1437 (l1380 ++ [(Tile.mk t1392 0 x1381 t1421), (Tile.mk t1392 t1426 x1381 0)]).length c1438))] #[(.int .i64 p0.States), (.int .i64 p0.Symbols), (.slice A_p0_Actions p0.Actions.length c_p0_Actions), (.slice A1437 (l1380 ++ [(Tile.mk t1392 0 x1381 t1421), (Tile.mk t1392 t1426 x1381 0)]).length c1438), (.slice A698 x701.2.length c699), (.int .i64 (x701.1.length : Int))] (fun fb => by kernel_rfl) (by kernel_rfl) rfl [0, 1, 2, 4] (by decide) (by decide) (fun w1441 hS1442 => ?_)
              refine ⟨trivial, ?_⟩
              refine WL.done rfl ?_
              refine WX.blockN (WX.next ?_)
              refine WC.region ?_
              refine seg 2 [] [1, 3, 7, 97, 98, 102, 103] [(1, (.pointer (some ⟨g133, 0, none⟩))), (3, (.pointer (some ⟨g137, 0, none⟩))), (7, (.int .i64 x1259)), (97, (.int .i64 p0.States)), (98, (.int .i64 x1259)), (102, (.int .i64 p0.Symbols)), (103, (.int .i64 (w64 (x1381 + 1))))] [] (fun fb => by kernel_rfl) rfl trivial ?_
              refine WL.done rfl ?_
              exact WX.again k1387 (Nat.lt_succ_self _) ((l1380 ++ [(Tile.mk t1392 0 x1381 t1421), (Tile.mk t1392 t1426 x1381 0)], w64 (x1381 + 1)), A1437, c1438) [1, 3, 7, 97, 98, 102, 103] rfl ⟨(hS1442.subR [0]).sub [3, 0, 1, 4] (by decide), hl1390⟩
            refine WC.condF2 (fun fb => by kernel_rfl) h1391 ?_
            refine WC.exit ?_
            injection hl1390 with hl1390
            exact WX.thenX (WX.thenX (WX.blockHere (WX.to Kx1385 (l1380, A1378, c1379) [1, 3, 97, 98] rfl ⟨(hS1389.subR [0]).sub [0, 1, 2, 3] (by decide), hl1390.symm⟩)))
        rintro ⟨y1446, A1382, c1383⟩ w1443 ⟨hS1444, hq1445⟩
        subst hq1445
        refine WX.blockN (WX.next ?_)
        refine WC.region ?_
        refine seg 2 [] [1, 3, 97, 98] [(1, (.pointer (some ⟨g133, 0, none⟩))), (3, (.pointer (some ⟨g137, 0, none⟩))), (97, (.int .i64 p0.States)), (98, (.int .i64 (w64 (x1259 + 1))))] [] (fun fb => by kernel_rfl) rfl trivial ?_
        refine WL.done rfl ?_
        exact WX.again k1265 (Nat.lt_succ_self _) ((x1385, w64 (x1259 + 1)), A1382, c1383) [1, 3, 97, 98] rfl ⟨(hS1444.subR [0]).sub [0, 1, 2, 3] (by decide), hl1268⟩
      refine WC.condF2 (fun fb => by kernel_rfl) h1269 ?_
      refine WC.exit ?_
      injection hl1268 with hl1268
      exact WX.thenX (WX.thenX (WX.blockHere (WX.to Kx1263 (l1258, A1256, c1257) [3] rfl ⟨(hS1267.subR [0]).sub [1, 2, 3] (by decide), hl1268.symm⟩)))
  rintro ⟨y1450, A1260, c1261⟩ w1447 ⟨hS1448, hq1449⟩
  subst hq1449
  refine WX.next ?_
  refine WC.seq ?_
  refine WC.region ?_
  refine seg 2 [] [2] [(2, (.pointer (some ⟨g137, 0, none⟩)))] [] (fun fb => by kernel_rfl) rfl trivial ?_
  refine WL.done rfl ?_
  refine WX.next ?_
  refine WC.ret ?_
  injection hf with hf
  subst hf
  exact WX.ret_ [] (.pointer (some ⟨g137, 0, none⟩)) [] (fun fb => by kernel_rfl) trivial ⟨_, rfl, g137, A1260, c1261, A698, c699, rfl, (hS1448.sub [0, 1, 2] (by decide)).noR⟩
theorem machine_Tiles_calls (k : Nat) (p0 : Machine) (A_p0_Actions : Option Addr) (c_p0_Actions : Nat) (r : (List Tile) × Int) (w : World) (hR0 : RO NoS w (rowR enc_Action A_p0_Actions c_p0_Actions p0.Actions)) (hf : machine_Tiles k p0 = some r) :
    CallsR Try.prog 25 #[(.agg #[(.int .i64 p0.States), (.int .i64 p0.Symbols), (.slice A_p0_Actions p0.Actions.length c_p0_Actions)])] w (fun v w' => ∃ (A1_ : Option Addr), ∃ (c1_ : Nat), v = (.tuple #[(.slice A1_ r.1.length c1_), (.int .i64 r.2)]) ∧ St NoS w w' [] [rowO 65 enc_Tile A1_ c1_ r.1]) := by
  have hS : St NoS w w [rowR enc_Action A_p0_Actions c_p0_Actions p0.Actions] [] := St.init (ro_cons hR0 (ro_nil _ _))
  refine enter 12 Try.func25 rfl Try.ntmps25 rfl ?_
  unfold machine_Tiles at hf
  refine WC.seq ?_
  refine WC.region ?_
  refine WL.new hS 1 [] (fun g => (.pointer (some ⟨g, 0, none⟩))) (.cells #[(.int .i64 p0.States), (.int .i64 p0.Symbols), (.slice A_p0_Actions p0.Actions.length c_p0_Actions)] 24 (0, 0)) [] (fun fb g => by kernel_rfl) trivial (fun g19 w20 hS21 => ?_)
  refine ⟨trivial, ?_⟩
  refine seg 3 [] [1] [(1, (.pointer (some ⟨g19, 0, none⟩)))] [] (fun fb => by kernel_rfl) rfl trivial ?_
  refine WL.done rfl ?_
  refine WX.next ?_
  refine WC.seq ?_
  refine WC.seq ?_
  refine WC.region ?_
  refine seg 1 [.v (.int .i64 p0.States), .v (.int .i64 p0.Symbols), .v (.slice A_p0_Actions p0.Actions.length c_p0_Actions)] [1, 4] [(1, (.pointer (some ⟨g19, 0, none⟩))), (4, (.agg #[(.int .i64 p0.States), (.int .i64 p0.Symbols), (.slice A_p0_Actions p0.Actions.length c_p0_Actions)]))] [.cell ⟨g19, 0, none⟩ (.int .i64 p0.States), .cell ⟨g19, 1, none⟩ (.int .i64 p0.Symbols), .cell ⟨g19, 2, none⟩ (.slice A_p0_Actions p0.Actions.length c_p0_Actions)] (fun fb => by kernel_rfl) rfl ⟨hS21.cell 0 rfl 0 rfl, hS21.cell 0 rfl 1 rfl, hS21.cell 0 rfl 2 rfl, trivial⟩ ?_
  obtain ⟨t126, ht127, hf⟩ := bind_some hf
  refine WL.call (some 5) 16 #[(.agg #[(.int .i64 p0.States), (.int .i64 p0.Symbols), (.slice A_p0_Actions p0.Actions.length c_p0_Actions)])] (fun fb => by kernel_rfl) (machine_Valid_calls _ p0 A_p0_Actions c_p0_Actions t126 _ (hS21.rd 0) ht127) (fun v w128 hR129 => ?_)
  obtain ⟨rfl, hk_⟩ := hR129
  have hS130 := hS21.keepN hk_
  refine ⟨trivial, ?_⟩
  refine seg 3 [] [1, 6] [(1, (.pointer (some ⟨g19, 0, none⟩))), (6, (.bool (!t126)))] [] (fun fb => by kernel_rfl) rfl trivial ?_
  refine WL.done rfl ?_
  refine WX.next ?_
  rcases br_some hf with ⟨h131, hf⟩ | ⟨h131, hf⟩
  · refine WC.condT2 (fun fb => by kernel_rfl) h131 ?_
    refine WC.seq ?_
    refine WC.region ?_
    refine seg 2 [] [2, 3] [(2, (.slice none 0 0)), (3, (.int .i64 1))] [] (fun fb => by kernel_rfl) rfl trivial ?_
    refine WL.done rfl ?_
    refine WX.next ?_
    refine WC.ret ?_
    have hS132 := hS130.nilrow 65 enc_Tile
    injection hf with hf
    subst hf
    exact WX.thenR (WX.ret_ [] (.tuple #[(.slice none ([] : List Tile).length 0), (.int .i64 1)]) [] (fun fb => by kernel_rfl) trivial ⟨_, rfl, none, 0, rfl, (hS132.sub [0] (by decide)).noR⟩)
  refine WC.condF2 (fun fb => by kernel_rfl) h131 ?_
  refine WC.skip ?_
  refine WX.next ?_
  refine WC.seq ?_
  refine WC.region ?_
  refine seg 1 [.v (.int .i64 p0.States), .v (.int .i64 p0.Symbols), .v (.slice A_p0_Actions p0.Actions.length c_p0_Actions)] [7] [(7, (.agg #[(.int .i64 p0.States), (.int .i64 p0.Symbols), (.slice A_p0_Actions p0.Actions.length c_p0_Actions)]))] [.cell ⟨g19, 0, none⟩ (.int .i64 p0.States), .cell ⟨g19, 1, none⟩ (.int .i64 p0.Symbols), .cell ⟨g19, 2, none⟩ (.slice A_p0_Actions p0.Actions.length c_p0_Actions)] (fun fb => by kernel_rfl) rfl ⟨hS130.cell 0 rfl 0 rfl, hS130.cell 0 rfl 1 rfl, hS130.cell 0 rfl 2 rfl, trivial⟩ ?_
  obtain ⟨t1451, ht1452, hf⟩ := bind_some hf
  refine WL.call (some 8) 41 #[(.agg #[(.int .i64 p0.States), (.int .i64 p0.Symbols), (.slice A_p0_Actions p0.Actions.length c_p0_Actions)])] (fun fb => by kernel_rfl) (machine_kitOf_calls _ p0 A_p0_Actions c_p0_Actions t1451 _ (hS130.rd 0) ht1452) (fun v w1453 hR1454 => ?_)
  obtain ⟨g1456, A1457, c1458, A1459, c1460, rfl, hk_⟩ := hR1454
  have hS1455 : St NoS w w1453 [rowR enc_Action A_p0_Actions c_p0_Actions p0.Actions] [blk g1456 (.cells #[(.int .i64 t1451.m.States), (.int .i64 t1451.m.Symbols), (.slice A_p0_Actions p0.Actions.length c_p0_Actions), (.slice A1457 t1451.set.length c1458), (.slice A1459 t1451.does.length c1460), (.int .i64 t1451.base)] 96 (0, 0)), rowO 65 enc_Tile A1457 c1458 t1451.set, rowO 3 encInt A1459 c1460 t1451.does, blk g19 (.cells #[(.int .i64 p0.States), (.int .i64 p0.Symbols), (.slice A_p0_Actions p0.Actions.length c_p0_Actions)] 24 (0, 0))] := hS130.call hk_ [] [0] (fun g hg => hg.elim) (by simp) (by decide)
  refine ⟨trivial, ?_⟩
  refine seg 7 [.v (.slice A1457 t1451.set.length c1458)] [2, 3] [(2, (.slice A1457 t1451.set.length c1458)), (3, (.int .i64 0))] [.cell ⟨g1456, 3, none⟩ (.slice A1457 t1451.set.length c1458)] (fun fb => by kernel_rfl) rfl ⟨hS1455.cell 0 rfl 3 rfl, trivial⟩ ?_
  refine WL.done rfl ?_
  refine WX.next ?_
  refine WC.ret ?_
  injection hf with hf
  subst hf
  exact WX.ret_ [] (.tuple #[(.slice A1457 t1451.set.length c1458), (.int .i64 0)]) [] (fun fb => by kernel_rfl) trivial ⟨_, rfl, A1457, c1458, rfl, (hS1455.sub [1] (by decide)).noR⟩
theorem machine_Fits_1_calls (p0 : Int) (f0 : Machine) (g_f0 : Nat) (A_f0_Actions : Option Addr) (c_f0_Actions : Nat) (r : Bool) (w : World) (hR0 : RO NoS w (blk g_f0 (.cells #[(.int .i64 f0.States), (.int .i64 f0.Symbols), (.slice A_f0_Actions f0.Actions.length c_f0_Actions)] 24 (0, 0)))) (hR1 : RO NoS w (rowR enc_Action A_f0_Actions c_f0_Actions f0.Actions)) (hf : machine_Fits_1 p0 f0 = some r) :
    CallsR Try.prog 50 #[(.int .i64 p0), (.pointer (some ⟨g_f0, 0, none⟩))] w (fun v w' => v = (.bool r) ∧ Keeps NoS w w') := by
  have hS : St NoS w w [blk g_f0 (.cells #[(.int .i64 f0.States), (.int .i64 f0.Symbols), (.slice A_f0_Actions f0.Actions.length c_f0_Actions)] 24 (0, 0)), rowR enc_Action A_f0_Actions c_f0_Actions f0.Actions] [] := St.init (ro_cons hR0 (ro_cons hR1 (ro_nil _ _)))
  refine enter 12 Try.func50 rfl Try.ntmps50 rfl ?_
  unfold machine_Fits_1 at hf
  refine WC.seq ?_
  refine WC.region ?_
  refine seg 1 [] [0, 1] [(0, (.int .i64 p0)), (1, (.pointer (some ⟨g_f0, 0, none⟩)))] [] (fun fb => by kernel_rfl) rfl trivial ?_
  refine WL.done rfl ?_
  refine WX.next ?_
  refine WC.seq ?_
  refine WC.region ?_
  refine seg 3 [] [0, 1, 6] [(0, (.int .i64 p0)), (1, (.pointer (some ⟨g_f0, 0, none⟩))), (6, (.bool (decide (p0 < 0))))] [] (fun fb => by kernel_rfl) rfl trivial ?_
  refine WL.cutV (T := Bool) 8 (fun t => [(11, (.bool t))]) (fun t => t = ((decide (p0 < 0)) || (decide (p0 ≥ f0.Symbols)))) (fun K => ?_) ?_
  ·
    rcases Bool.eq_false_or_eq_true (decide (p0 < 0)) with h1495 | h1495
    ·
      refine WL.setB 6 h1495 rfl ?_
      refine seg 8 [] [11] [(11, (.bool true))] [] (fun fb => by kernel_rfl) rfl trivial ?_
      exact WL.toV K true [11] rfl (by rw [h1495]; rfl)
    refine WL.setB 6 h1495 rfl ?_
    refine seg 8 [.v (.int .i64 f0.Symbols)] [11] [(11, (.bool (decide (p0 ≥ f0.Symbols))))] [.cell ⟨g_f0, 1, none⟩ (.int .i64 f0.Symbols)] (fun fb => by kernel_rfl) rfl ⟨blk_cell (hS.rd 0).1 1 rfl, trivial⟩ ?_
    exact WL.toV K (decide (p0 ≥ f0.Symbols)) [11] rfl (by rw [h1495]; rfl)
  rintro b1496 rfl
  refine seg 9 [] [3] [(3, (.bool ((decide (p0 < 0)) || (decide (p0 ≥ f0.Symbols)))))] [] (fun fb => by kernel_rfl) rfl trivial ?_
  refine WL.done rfl ?_
  refine WX.next ?_
  refine WC.ret ?_
  injection hf with hf
  subst hf
  exact WX.ret_ [] (.bool ((decide (p0 < 0)) || (decide (p0 ≥ f0.Symbols)))) [] (fun fb => by kernel_rfl) trivial ⟨_, rfl, rfl, hS.keep⟩
theorem slices_IndexFunc_int_int_with_machine_Fits_1_calls (k : Nat) (p0 : List Int) (p1_0 : Machine) (A_p0 : Option Addr) (c_p0 : Nat) (g_p1_0 : Nat) (A_p1_0_Actions : Option Addr) (c_p1_0_Actions : Nat) (r : Int) (w : World) (hR0 : RO NoS w (rowR encInt A_p0 c_p0 p0)) (hR1 : RO NoS w (blk g_p1_0 (.cells #[(.int .i64 p1_0.States), (.int .i64 p1_0.Symbols), (.slice A_p1_0_Actions p1_0.Actions.length c_p1_0_Actions)] 24 (0, 0)))) (hR2 : RO NoS w (rowR enc_Action A_p1_0_Actions c_p1_0_Actions p1_0.Actions)) (hf : slices_IndexFunc_int_int_with_machine_Fits_1 k p0 p1_0 = some r) :
    CallsR Try.prog 65 #[(.slice A_p0 p0.length c_p0), (.func (.func 50) #[] #[(.pointer (some ⟨g_p1_0, 0, none⟩))])] w (fun v w' => v = (.int .i64 r) ∧ Keeps NoS w w') := by
  have hS : St NoS w w [rowR encInt A_p0 c_p0 p0, blk g_p1_0 (.cells #[(.int .i64 p1_0.States), (.int .i64 p1_0.Symbols), (.slice A_p1_0_Actions p1_0.Actions.length c_p1_0_Actions)] 24 (0, 0)), rowR enc_Action A_p1_0_Actions c_p1_0_Actions p1_0.Actions] [] := St.init (ro_cons hR0 (ro_cons hR1 (ro_cons hR2 (ro_nil _ _))))
  refine enter 19 Try.func65 rfl Try.ntmps65 rfl ?_
  unfold slices_IndexFunc_int_int_with_machine_Fits_1 at hf
  refine WC.seq ?_
  refine WC.region ?_
  refine seg 1 [] [0, 1] [(0, (.slice A_p0 p0.length c_p0)), (1, (.func (.func 50) #[] #[(.pointer (some ⟨g_p1_0, 0, none⟩))]))] [] (fun fb => by kernel_rfl) rfl trivial ?_
  refine WL.done rfl ?_
  refine WX.next ?_
  refine WC.seq ?_
  refine WC.seq ?_
  refine WC.region ?_
  refine seg 3 [] [0, 1, 7, 8] [(0, (.slice A_p0 p0.length c_p0)), (1, (.func (.func 50) #[] #[(.pointer (some ⟨g_p1_0, 0, none⟩))])), (7, (.int .i64 (p0.length : Int))), (8, (.int .i64 0))] [] (fun fb => by kernel_rfl) rfl trivial ?_
  refine WL.done rfl ?_
  refine WX.next ?_
  obtain ⟨x1513, hx1514, hf⟩ := bind_some hf
  refine WC.cutN (T := Unit) (fun t => []) (fun t w1 => St NoS w w1 [rowR encInt A_p0 c_p0 p0, blk g_p1_0 (.cells #[(.int .i64 p1_0.States), (.int .i64 p1_0.Symbols), (.slice A_p1_0_Actions p1_0.Actions.length c_p1_0_Actions)] 24 (0, 0)), rowR enc_Action A_p1_0_Actions c_p1_0_Actions p1_0.Actions] [] ∧ x1513 = .inr t) (fun Kx1513 => ?_) ?_
  ·
    refine WC.block ?_
    refine WC.loop (T := Int) (fun t => [(0, (.slice A_p0 p0.length c_p0)), (1, (.func (.func 50) #[] #[(.pointer (some ⟨g_p1_0, 0, none⟩))])), (7, (.int .i64 (p0.length : Int))), (8, (.int .i64 t))]) (fun n t w1 => St NoS w w1 [rowR encInt A_p0 c_p0 p0, blk g_p1_0 (.cells #[(.int .i64 p1_0.States), (.int .i64 p1_0.Symbols), (.slice A_p1_0_Actions p1_0.Actions.length c_p1_0_Actions)] 24 (0, 0)), rowR enc_Action A_p1_0_Actions c_p1_0_Actions p1_0.Actions] [] ∧ slices_IndexFunc_int_int_with_machine_Fits_1.l0 n t p0 p1_0 = some x1513) k 0 [0, 1, 7, 8] rfl ⟨(hS.subR [0, 1, 2]).sub [] (by decide), hx1514⟩ ?_
    rintro k1515 x1512 w1516 ⟨hS1517, hl1518⟩
    cases k1515 with
    | zero => rw [slices_IndexFunc_int_int_with_machine_Fits_1.l0] at hl1518; cases hl1518
    | succ k1515 =>
      rw [slices_IndexFunc_int_int_with_machine_Fits_1.l0] at hl1518
      refine WC.seq ?_
      refine WC.region ?_
      refine seg 1 [] [0, 1, 7, 8, 9] [(0, (.slice A_p0 p0.length c_p0)), (1, (.func (.func 50) #[] #[(.pointer (some ⟨g_p1_0, 0, none⟩))])), (7, (.int .i64 (p0.length : Int))), (8, (.int .i64 x1512)), (9, (.bool (decide (x1512 < (p0.length : Int)))))] [] (fun fb => by kernel_rfl) rfl trivial ?_
      refine WL.done rfl ?_
      refine WX.next ?_
      refine WC.seq ?_
      rcases br_some hl1518 with ⟨h1519, hl1518⟩ | ⟨h1519, hl1518⟩
      · refine WC.condT2 (fun fb => by kernel_rfl) h1519 ?_
        refine WC.skip ?_
        refine WX.next ?_
        refine WC.seq ?_
        refine WC.block ?_
        refine WC.seq ?_
        refine WC.region ?_
        refine seg 2 [] [0, 1, 5, 7, 8] [(0, (.slice A_p0 p0.length c_p0)), (1, (.func (.func 50) #[] #[(.pointer (some ⟨g_p1_0, 0, none⟩))])), (5, (.int .i64 x1512)), (7, (.int .i64 (p0.length : Int))), (8, (.int .i64 x1512))] [] (fun fb => by kernel_rfl) rfl trivial ?_
        refine WL.done rfl ?_
        refine WX.next ?_
        refine WC.seq ?_
        refine WC.region ?_
        refine seg 3 [] [0, 1, 5, 7, 8, 11, 12, 13] [(0, (.slice A_p0 p0.length c_p0)), (1, (.func (.func 50) #[] #[(.pointer (some ⟨g_p1_0, 0, none⟩))])), (5, (.int .i64 x1512)), (7, (.int .i64 (p0.length : Int))), (8, (.int .i64 x1512)), (11, (.func (.func 50) #[] #[(.pointer (some ⟨g_p1_0, 0, none⟩))])), (12, (.slice A_p0 p0.length c_p0)), (13, (.int .i64 x1512))] [] (fun fb => by kernel_rfl) rfl trivial ?_
        obtain ⟨h1520, hl1518⟩ := as_some hl1518
        refine seg 5 [.v (.int .i64 (rdD p0 x1512 0))] [0, 1, 5, 7, 8, 11, 15] [(0, (.slice A_p0 p0.length c_p0)), (1, (.func (.func 50) #[] #[(.pointer (some ⟨g_p1_0, 0, none⟩))])), (5, (.int .i64 x1512)), (7, (.int .i64 (p0.length : Int))), (8, (.int .i64 x1512)), (11, (.func (.func 50) #[] #[(.pointer (some ⟨g_p1_0, 0, none⟩))])), (15, (.int .i64 (rdD p0 x1512 0)))] [.idx A_p0 x1512 p0.length, .cell ((adr A_p0).add ((x1512).toNat * 1)) (.int .i64 (rdD p0 x1512 0))] (fun fb => by kernel_rfl) rfl ⟨rowR.adr (hS1517.rd 0).1 h1520.1 h1520.2, rowR.cell (hS1517.rd 0).1 0 h1520.1 h1520.2 0 rfl, trivial⟩ ?_
        obtain ⟨t1521, ht1522, hl1518⟩ := bind_some hl1518
        refine WL.call (some 16) 50 #[(.int .i64 (rdD p0 x1512 0)), (.pointer (some ⟨g_p1_0, 0, none⟩))] (fun fb => by kernel_rfl) (machine_Fits_1_calls (rdD p0 x1512 0) p1_0 g_p1_0 A_p1_0_Actions c_p1_0_Actions t1521 _ (hS1517.rd 1) (hS1517.rd 2) ht1522) (fun v w1523 hR1524 => ?_)
        obtain ⟨rfl, hk_⟩ := hR1524
        have hS1525 := hS1517.keepN hk_
        refine ⟨trivial, ?_⟩
        refine WL.done rfl ?_
        refine WX.next ?_
        rcases br_some hl1518 with ⟨h1526, hl1518⟩ | ⟨h1526, hl1518⟩
        · refine WC.condT2 (fun fb => by kernel_rfl) h1526 ?_
          refine WC.seq ?_
          refine WC.region ?_
          refine seg 2 [] [4] [(4, (.int .i64 x1512))] [] (fun fb => by kernel_rfl) rfl trivial ?_
          refine WL.done rfl ?_
          refine WX.next ?_
          refine WC.ret ?_
          injection hl1518 with hl1518
          subst hl1518
          injection hf with hf
          subst hf
          exact WX.blockR (WX.thenR (WX.thenR (WX.blockR (WX.thenR (WX.ret_ [] (.int .i64 x1512) [] (fun fb => by kernel_rfl) trivial ⟨_, rfl, rfl, hS1525.keep⟩)))))
        refine WC.condF2 (fun fb => by kernel_rfl) h1526 ?_
        refine WC.skip ?_
        refine WX.blockN (WX.next ?_)
        refine WC.region ?_
        refine seg 2 [] [0, 1, 7, 8] [(0, (.slice A_p0 p0.length c_p0)), (1, (.func (.func 50) #[] #[(.pointer (some ⟨g_p1_0, 0, none⟩))])), (7, (.int .i64 (p0.length : Int))), (8, (.int .i64 (w64 (x1512 + 1))))] [] (fun fb => by kernel_rfl) rfl trivial ?_
        refine WL.done rfl ?_
        exact WX.again k1515 (Nat.lt_succ_self _) (w64 (x1512 + 1)) [0, 1, 7, 8] rfl ⟨(hS1525.subR [0, 1, 2]).sub [] (by decide), hl1518⟩
      refine WC.condF2 (fun fb => by kernel_rfl) h1519 ?_
      refine WC.exit ?_
      injection hl1518 with hl1518
      exact WX.thenX (WX.thenX (WX.blockHere (WX.to Kx1513 () [] rfl ⟨(hS1517.subR [0, 1, 2]).sub [] (by decide), hl1518.symm⟩)))
  rintro y1530 w1527 ⟨hS1528, hq1529⟩
  subst hq1529
  have hf := sum_inr hf
  refine WX.next ?_
  refine WC.seq ?_
  refine WC.region ?_
  refine seg 1 [] [4] [(4, (.int .i64 (-1)))] [] (fun fb => by kernel_rfl) rfl trivial ?_
  refine WL.done rfl ?_
  refine WX.next ?_
  refine WC.ret ?_
  injection hf with hf
  subst hf
  exact WX.ret_ [] (.int .i64 (-1)) [] (fun fb => by kernel_rfl) trivial ⟨_, rfl, rfl, hS1528.keep⟩
theorem slices_ContainsFunc_int_int_with_machine_Fits_1_calls (k : Nat) (p0 : List Int) (p1_0 : Machine) (A_p0 : Option Addr) (c_p0 : Nat) (g_p1_0 : Nat) (A_p1_0_Actions : Option Addr) (c_p1_0_Actions : Nat) (r : Bool) (w : World) (hR0 : RO NoS w (rowR encInt A_p0 c_p0 p0)) (hR1 : RO NoS w (blk g_p1_0 (.cells #[(.int .i64 p1_0.States), (.int .i64 p1_0.Symbols), (.slice A_p1_0_Actions p1_0.Actions.length c_p1_0_Actions)] 24 (0, 0)))) (hR2 : RO NoS w (rowR enc_Action A_p1_0_Actions c_p1_0_Actions p1_0.Actions)) (hf : slices_ContainsFunc_int_int_with_machine_Fits_1 k p0 p1_0 = some r) :
    CallsR Try.prog 49 #[(.slice A_p0 p0.length c_p0), (.func (.func 50) #[] #[(.pointer (some ⟨g_p1_0, 0, none⟩))])] w (fun v w' => v = (.bool r) ∧ Keeps NoS w w') := by
  have hS : St NoS w w [rowR encInt A_p0 c_p0 p0, blk g_p1_0 (.cells #[(.int .i64 p1_0.States), (.int .i64 p1_0.Symbols), (.slice A_p1_0_Actions p1_0.Actions.length c_p1_0_Actions)] 24 (0, 0)), rowR enc_Action A_p1_0_Actions c_p1_0_Actions p1_0.Actions] [] := St.init (ro_cons hR0 (ro_cons hR1 (ro_cons hR2 (ro_nil _ _))))
  refine enter 9 Try.func49 rfl Try.ntmps49 rfl ?_
  unfold slices_ContainsFunc_int_int_with_machine_Fits_1 at hf
  refine WC.seq ?_
  refine WC.region ?_
  refine seg 1 [] [0, 1] [(0, (.slice A_p0 p0.length c_p0)), (1, (.func (.func 50) #[] #[(.pointer (some ⟨g_p1_0, 0, none⟩))]))] [] (fun fb => by kernel_rfl) rfl trivial ?_
  refine WL.done rfl ?_
  refine WX.next ?_
  refine WC.seq ?_
  refine WC.region ?_
  refine seg 2 [] [5, 6] [(5, (.slice A_p0 p0.length c_p0)), (6, (.func (.func 50) #[] #[(.pointer (some ⟨g_p1_0, 0, none⟩))]))] [] (fun fb => by kernel_rfl) rfl trivial ?_
  obtain ⟨t1532, ht1533, hf⟩ := bind_some hf
  refine WL.call (some 7) 65 #[(.slice A_p0 p0.length c_p0), (.func (.func 50) #[] #[(.pointer (some ⟨g_p1_0, 0, none⟩))])] (fun fb => by kernel_rfl) (slices_IndexFunc_int_int_with_machine_Fits_1_calls _ p0 p1_0 A_p0 c_p0 g_p1_0 A_p1_0_Actions c_p1_0_Actions t1532 _ (hS.rd 0) (hS.rd 1) (hS.rd 2) ht1533) (fun v w1534 hR1535 => ?_)
  obtain ⟨rfl, hk_⟩ := hR1535
  have hS1536 := hS.keepN hk_
  refine ⟨trivial, ?_⟩
  refine seg 5 [] [4] [(4, (.bool (decide (t1532 ≥ 0))))] [] (fun fb => by kernel_rfl) rfl trivial ?_
  refine WL.done rfl ?_
  refine WX.next ?_
  refine WC.ret ?_
  injection hf with hf
  subst hf
  exact WX.ret_ [] (.bool (decide (t1532 ≥ 0))) [] (fun fb => by kernel_rfl) trivial ⟨_, rfl, rfl, hS1536.keep⟩
theorem machine_Fits_calls (k : Nat) (p0 : Machine) (p1 : Config) (A_p0_Actions : Option Addr) (c_p0_Actions : Nat) (A_p1_Cells : Option Addr) (c_p1_Cells : Nat) (r : Bool) (w : World) (hR0 : RO NoS w (rowR enc_Action A_p0_Actions c_p0_Actions p0.Actions)) (hR1 : RO NoS w (rowR encInt A_p1_Cells c_p1_Cells p1.Cells)) (hf : machine_Fits k p0 p1 = some r) :
    CallsR Try.prog 18 #[(.agg #[(.int .i64 p0.States), (.int .i64 p0.Symbols), (.slice A_p0_Actions p0.Actions.length c_p0_Actions)]), (.agg #[(.int .i64 p1.State), (.int .i64 p1.At), (.slice A_p1_Cells p1.Cells.length c_p1_Cells)])] w (fun v w' => v = (.bool r) ∧ Keeps NoS w w') := by
  have hS : St NoS w w [rowR enc_Action A_p0_Actions c_p0_Actions p0.Actions, rowR encInt A_p1_Cells c_p1_Cells p1.Cells] [] := St.init (ro_cons hR0 (ro_cons hR1 (ro_nil _ _)))
  refine enter 51 Try.func18 rfl Try.ntmps18 rfl ?_
  unfold machine_Fits at hf
  refine WC.seq ?_
  refine WC.region ?_
  refine WL.new hS 2 [] (fun g => (.pointer (some ⟨g, 0, none⟩))) (.cells #[(.int .i64 p0.States), (.int .i64 p0.Symbols), (.slice A_p0_Actions p0.Actions.length c_p0_Actions)] 24 (0, 0)) [] (fun fb g => by kernel_rfl) trivial (fun g1468 w1469 hS1470 => ?_)
  refine ⟨trivial, ?_⟩
  refine WL.new hS1470 3 [] (fun g => (.pointer (some ⟨g, 0, none⟩))) (.cells #[(.int .i64 p1.State), (.int .i64 p1.At), (.slice A_p1_Cells p1.Cells.length c_p1_Cells)] 27 (0, 0)) [] (fun fb g => by kernel_rfl) trivial (fun g1472 w1473 hS1474 => ?_)
  refine ⟨trivial, ?_⟩
  refine seg 3 [] [2, 3] [(2, (.pointer (some ⟨g1468, 0, none⟩))), (3, (.pointer (some ⟨g1472, 0, none⟩)))] [] (fun fb => by kernel_rfl) rfl trivial ?_
  refine WL.done rfl ?_
  refine WX.next ?_
  refine WC.seq ?_
  refine WC.region ?_
  refine seg 1 [.v (.int .i64 p0.States), .v (.int .i64 p0.Symbols), .v (.slice A_p0_Actions p0.Actions.length c_p0_Actions)] [2, 3, 5] [(2, (.pointer (some ⟨g1468, 0, none⟩))), (3, (.pointer (some ⟨g1472, 0, none⟩))), (5, (.agg #[(.int .i64 p0.States), (.int .i64 p0.Symbols), (.slice A_p0_Actions p0.Actions.length c_p0_Actions)]))] [.cell ⟨g1468, 0, none⟩ (.int .i64 p0.States), .cell ⟨g1468, 1, none⟩ (.int .i64 p0.Symbols), .cell ⟨g1468, 2, none⟩ (.slice A_p0_Actions p0.Actions.length c_p0_Actions)] (fun fb => by kernel_rfl) rfl ⟨hS1474.cell 1 rfl 0 rfl, hS1474.cell 1 rfl 1 rfl, hS1474.cell 1 rfl 2 rfl, trivial⟩ ?_
  obtain ⟨t1476, ht1477, hf⟩ := bind_some hf
  refine WL.call (some 6) 16 #[(.agg #[(.int .i64 p0.States), (.int .i64 p0.Symbols), (.slice A_p0_Actions p0.Actions.length c_p0_Actions)])] (fun fb => by kernel_rfl) (machine_Valid_calls _ p0 A_p0_Actions c_p0_Actions t1476 _ (hS1474.rd 0) ht1477) (fun v w1478 hR1479 => ?_)
  obtain ⟨rfl, hk_⟩ := hR1479
  have hS1480 := hS1474.keepN hk_
  refine ⟨trivial, ?_⟩
  refine seg 3 [] [2, 3, 7] [(2, (.pointer (some ⟨g1468, 0, none⟩))), (3, (.pointer (some ⟨g1472, 0, none⟩))), (7, (.bool t1476))] [] (fun fb => by kernel_rfl) rfl trivial ?_
  refine WL.cutV (T := Bool) 7 (fun t => [(11, (.bool t)), (2, (.pointer (some ⟨g1468, 0, none⟩))), (3, (.pointer (some ⟨g1472, 0, none⟩)))]) (fun t => t = (t1476 && (decide (p1.State ≥ 0)))) (fun K => ?_) ?_
  ·
    rcases Bool.eq_false_or_eq_true t1476 with h1481 | h1481
    ·
      refine WL.setB 7 h1481 rfl ?_
      refine seg 7 [.v (.int .i64 p1.State)] [2, 3, 11] [(2, (.pointer (some ⟨g1468, 0, none⟩))), (3, (.pointer (some ⟨g1472, 0, none⟩))), (11, (.bool (decide (p1.State ≥ 0))))] [.cell ⟨g1472, 0, none⟩ (.int .i64 p1.State)] (fun fb => by kernel_rfl) rfl ⟨hS1480.cell 0 rfl 0 rfl, trivial⟩ ?_
      exact WL.toV K (decide (p1.State ≥ 0)) [11, 2, 3] rfl (by rw [h1481]; rfl)
    refine WL.setB 7 h1481 rfl ?_
    refine seg 7 [] [2, 3, 11] [(2, (.pointer (some ⟨g1468, 0, none⟩))), (3, (.pointer (some ⟨g1472, 0, none⟩))), (11, (.bool false))] [] (fun fb => by kernel_rfl) rfl trivial ?_
    exact WL.toV K false [11, 2, 3] rfl (by rw [h1481]; rfl)
  rintro b1482 rfl
  refine seg 8 [] [2, 3, 12] [(2, (.pointer (some ⟨g1468, 0, none⟩))), (3, (.pointer (some ⟨g1472, 0, none⟩))), (12, (.bool (t1476 && (decide (p1.State ≥ 0)))))] [] (fun fb => by kernel_rfl) rfl trivial ?_
  refine WL.cutV (T := Bool) 14 (fun t => [(18, (.bool t)), (2, (.pointer (some ⟨g1468, 0, none⟩))), (3, (.pointer (some ⟨g1472, 0, none⟩)))]) (fun t => t = ((t1476 && (decide (p1.State ≥ 0))) && (decide (p1.State < p0.States)))) (fun K => ?_) ?_
  ·
    rcases Bool.eq_false_or_eq_true (t1476 && (decide (p1.State ≥ 0))) with h1483 | h1483
    ·
      refine WL.setB 12 h1483 rfl ?_
      refine seg 14 [.v (.int .i64 p1.State), .v (.int .i64 p0.States)] [2, 3, 18] [(2, (.pointer (some ⟨g1468, 0, none⟩))), (3, (.pointer (some ⟨g1472, 0, none⟩))), (18, (.bool (decide (p1.State < p0.States))))] [.cell ⟨g1472, 0, none⟩ (.int .i64 p1.State), .cell ⟨g1468, 0, none⟩ (.int .i64 p0.States)] (fun fb => by kernel_rfl) rfl ⟨hS1480.cell 0 rfl 0 rfl, hS1480.cell 1 rfl 0 rfl, trivial⟩ ?_
      exact WL.toV K (decide (p1.State < p0.States)) [18, 2, 3] rfl (by rw [h1483]; rfl)
    refine WL.setB 12 h1483 rfl ?_
    refine seg 14 [] [2, 3, 18] [(2, (.pointer (some ⟨g1468, 0, none⟩))), (3, (.pointer (some ⟨g1472, 0, none⟩))), (18, (.bool false))] [] (fun fb => by kernel_rfl) rfl trivial ?_
    exact WL.toV K false [18, 2, 3] rfl (by rw [h1483]; rfl)
  rintro b1484 rfl
  refine seg 15 [] [2, 3, 19] [(2, (.pointer (some ⟨g1468, 0, none⟩))), (3, (.pointer (some ⟨g1472, 0, none⟩))), (19, (.bool ((t1476 && (decide (p1.State ≥ 0))) && (decide (p1.State < p0.States)))))] [] (fun fb => by kernel_rfl) rfl trivial ?_
  refine WL.cutV (T := Bool) 20 (fun t => [(24, (.bool t)), (2, (.pointer (some ⟨g1468, 0, none⟩))), (3, (.pointer (some ⟨g1472, 0, none⟩)))]) (fun t => t = (((t1476 && (decide (p1.State ≥ 0))) && (decide (p1.State < p0.States))) && (decide ((p1.Cells.length : Int) ≥ 1)))) (fun K => ?_) ?_
  ·
    rcases Bool.eq_false_or_eq_true ((t1476 && (decide (p1.State ≥ 0))) && (decide (p1.State < p0.States))) with h1485 | h1485
    ·
      refine WL.setB 19 h1485 rfl ?_
      refine seg 20 [.v (.slice A_p1_Cells p1.Cells.length c_p1_Cells)] [2, 3, 24] [(2, (.pointer (some ⟨g1468, 0, none⟩))), (3, (.pointer (some ⟨g1472, 0, none⟩))), (24, (.bool (decide ((p1.Cells.length : Int) ≥ 1))))] [.cell ⟨g1472, 2, none⟩ (.slice A_p1_Cells p1.Cells.length c_p1_Cells)] (fun fb => by kernel_rfl) rfl ⟨hS1480.cell 0 rfl 2 rfl, trivial⟩ ?_
      exact WL.toV K (decide ((p1.Cells.length : Int) ≥ 1)) [24, 2, 3] rfl (by rw [h1485]; rfl)
    refine WL.setB 19 h1485 rfl ?_
    refine seg 20 [] [2, 3, 24] [(2, (.pointer (some ⟨g1468, 0, none⟩))), (3, (.pointer (some ⟨g1472, 0, none⟩))), (24, (.bool false))] [] (fun fb => by kernel_rfl) rfl trivial ?_
    exact WL.toV K false [24, 2, 3] rfl (by rw [h1485]; rfl)
  rintro b1486 rfl
  refine seg 21 [] [2, 3, 25] [(2, (.pointer (some ⟨g1468, 0, none⟩))), (3, (.pointer (some ⟨g1472, 0, none⟩))), (25, (.bool (((t1476 && (decide (p1.State ≥ 0))) && (decide (p1.State < p0.States))) && (decide ((p1.Cells.length : Int) ≥ 1)))))] [] (fun fb => by kernel_rfl) rfl trivial ?_
  refine WL.cutV (T := Bool) 26 (fun t => [(30, (.bool t)), (2, (.pointer (some ⟨g1468, 0, none⟩))), (3, (.pointer (some ⟨g1472, 0, none⟩)))]) (fun t => t = ((((t1476 && (decide (p1.State ≥ 0))) && (decide (p1.State < p0.States))) && (decide ((p1.Cells.length : Int) ≥ 1))) && (decide ((p1.Cells.length : Int) ≤ 200)))) (fun K => ?_) ?_
  ·
    rcases Bool.eq_false_or_eq_true (((t1476 && (decide (p1.State ≥ 0))) && (decide (p1.State < p0.States))) && (decide ((p1.Cells.length : Int) ≥ 1))) with h1487 | h1487
    ·
      refine WL.setB 25 h1487 rfl ?_
      refine seg 26 [.v (.slice A_p1_Cells p1.Cells.length c_p1_Cells)] [2, 3, 30] [(2, (.pointer (some ⟨g1468, 0, none⟩))), (3, (.pointer (some ⟨g1472, 0, none⟩))), (30, (.bool (decide ((p1.Cells.length : Int) ≤ 200))))] [.cell ⟨g1472, 2, none⟩ (.slice A_p1_Cells p1.Cells.length c_p1_Cells)] (fun fb => by kernel_rfl) rfl ⟨hS1480.cell 0 rfl 2 rfl, trivial⟩ ?_
      exact WL.toV K (decide ((p1.Cells.length : Int) ≤ 200)) [30, 2, 3] rfl (by rw [h1487]; rfl)
    refine WL.setB 25 h1487 rfl ?_
    refine seg 26 [] [2, 3, 30] [(2, (.pointer (some ⟨g1468, 0, none⟩))), (3, (.pointer (some ⟨g1472, 0, none⟩))), (30, (.bool false))] [] (fun fb => by kernel_rfl) rfl trivial ?_
    exact WL.toV K false [30, 2, 3] rfl (by rw [h1487]; rfl)
  rintro b1488 rfl
  refine seg 27 [] [2, 3, 31] [(2, (.pointer (some ⟨g1468, 0, none⟩))), (3, (.pointer (some ⟨g1472, 0, none⟩))), (31, (.bool ((((t1476 && (decide (p1.State ≥ 0))) && (decide (p1.State < p0.States))) && (decide ((p1.Cells.length : Int) ≥ 1))) && (decide ((p1.Cells.length : Int) ≤ 200)))))] [] (fun fb => by kernel_rfl) rfl trivial ?_
  refine WL.cutV (T := Bool) 31 (fun t => [(35, (.bool t)), (2, (.pointer (some ⟨g1468, 0, none⟩))), (3, (.pointer (some ⟨g1472, 0, none⟩)))]) (fun t => t = (((((t1476 && (decide (p1.State ≥ 0))) && (decide (p1.State < p0.States))) && (decide ((p1.Cells.length : Int) ≥ 1))) && (decide ((p1.Cells.length : Int) ≤ 200))) && (decide (p1.At ≥ 0)))) (fun K => ?_) ?_
  ·
    rcases Bool.eq_false_or_eq_true ((((t1476 && (decide (p1.State ≥ 0))) && (decide (p1.State < p0.States))) && (decide ((p1.Cells.length : Int) ≥ 1))) && (decide ((p1.Cells.length : Int) ≤ 200))) with h1489 | h1489
    ·
      refine WL.setB 31 h1489 rfl ?_
      refine seg 31 [.v (.int .i64 p1.At)] [2, 3, 35] [(2, (.pointer (some ⟨g1468, 0, none⟩))), (3, (.pointer (some ⟨g1472, 0, none⟩))), (35, (.bool (decide (p1.At ≥ 0))))] [.cell ⟨g1472, 1, none⟩ (.int .i64 p1.At)] (fun fb => by kernel_rfl) rfl ⟨hS1480.cell 0 rfl 1 rfl, trivial⟩ ?_
      exact WL.toV K (decide (p1.At ≥ 0)) [35, 2, 3] rfl (by rw [h1489]; rfl)
    refine WL.setB 31 h1489 rfl ?_
    refine seg 31 [] [2, 3, 35] [(2, (.pointer (some ⟨g1468, 0, none⟩))), (3, (.pointer (some ⟨g1472, 0, none⟩))), (35, (.bool false))] [] (fun fb => by kernel_rfl) rfl trivial ?_
    exact WL.toV K false [35, 2, 3] rfl (by rw [h1489]; rfl)
  rintro b1490 rfl
  refine seg 32 [] [2, 3, 36] [(2, (.pointer (some ⟨g1468, 0, none⟩))), (3, (.pointer (some ⟨g1472, 0, none⟩))), (36, (.bool (((((t1476 && (decide (p1.State ≥ 0))) && (decide (p1.State < p0.States))) && (decide ((p1.Cells.length : Int) ≥ 1))) && (decide ((p1.Cells.length : Int) ≤ 200))) && (decide (p1.At ≥ 0)))))] [] (fun fb => by kernel_rfl) rfl trivial ?_
  refine WL.cutV (T := Bool) 39 (fun t => [(43, (.bool t)), (2, (.pointer (some ⟨g1468, 0, none⟩))), (3, (.pointer (some ⟨g1472, 0, none⟩)))]) (fun t => t = ((((((t1476 && (decide (p1.State ≥ 0))) && (decide (p1.State < p0.States))) && (decide ((p1.Cells.length : Int) ≥ 1))) && (decide ((p1.Cells.length : Int) ≤ 200))) && (decide (p1.At ≥ 0))) && (decide (p1.At < (p1.Cells.length : Int))))) (fun K => ?_) ?_
  ·
    rcases Bool.eq_false_or_eq_true (((((t1476 && (decide (p1.State ≥ 0))) && (decide (p1.State < p0.States))) && (decide ((p1.Cells.length : Int) ≥ 1))) && (decide ((p1.Cells.length : Int) ≤ 200))) && (decide (p1.At ≥ 0))) with h1491 | h1491
    ·
      refine WL.setB 36 h1491 rfl ?_
      refine seg 39 [.v (.int .i64 p1.At), .v (.slice A_p1_Cells p1.Cells.length c_p1_Cells)] [2, 3, 43] [(2, (.pointer (some ⟨g1468, 0, none⟩))), (3, (.pointer (some ⟨g1472, 0, none⟩))), (43, (.bool (decide (p1.At < (p1.Cells.length : Int)))))] [.cell ⟨g1472, 1, none⟩ (.int .i64 p1.At), .cell ⟨g1472, 2, none⟩ (.slice A_p1_Cells p1.Cells.length c_p1_Cells)] (fun fb => by kernel_rfl) rfl ⟨hS1480.cell 0 rfl 1 rfl, hS1480.cell 0 rfl 2 rfl, trivial⟩ ?_
      exact WL.toV K (decide (p1.At < (p1.Cells.length : Int))) [43, 2, 3] rfl (by rw [h1491]; rfl)
    refine WL.setB 36 h1491 rfl ?_
    refine seg 39 [] [2, 3, 43] [(2, (.pointer (some ⟨g1468, 0, none⟩))), (3, (.pointer (some ⟨g1472, 0, none⟩))), (43, (.bool false))] [] (fun fb => by kernel_rfl) rfl trivial ?_
    exact WL.toV K false [43, 2, 3] rfl (by rw [h1491]; rfl)
  rintro b1492 rfl
  refine seg 40 [] [2, 3, 44] [(2, (.pointer (some ⟨g1468, 0, none⟩))), (3, (.pointer (some ⟨g1472, 0, none⟩))), (44, (.bool ((((((t1476 && (decide (p1.State ≥ 0))) && (decide (p1.State < p0.States))) && (decide ((p1.Cells.length : Int) ≥ 1))) && (decide ((p1.Cells.length : Int) ≤ 200))) && (decide (p1.At ≥ 0))) && (decide (p1.At < (p1.Cells.length : Int))))))] [] (fun fb => by kernel_rfl) rfl trivial ?_
  obtain ⟨x1543, hx1544, hf⟩ := bind_some hf
  refine WL.cutW (T := Bool) 46 (fun t => [(50, (.bool t))]) (fun t w1 => (St NoS w w1 [rowR enc_Action A_p0_Actions c_p0_Actions p0.Actions, rowR encInt A_p1_Cells c_p1_Cells p1.Cells] [] ∧ x1543 = t) ∧ CellsOK [] w1) (fun K => ?_) ?_
  ·
    rcases br_some hx1544 with ⟨h1545, hx1544⟩ | ⟨h1545, hx1544⟩
    ·
      refine WL.setB 44 h1545 rfl ?_
      refine seg 43 [.v (.slice A_p1_Cells p1.Cells.length c_p1_Cells)] [44, 46, 47] [(44, (.bool true)), (46, (.slice A_p1_Cells p1.Cells.length c_p1_Cells)), (47, (.func (.func 50) #[] #[(.pointer (some ⟨g1468, 0, none⟩))]))] [.cell ⟨g1472, 2, none⟩ (.slice A_p1_Cells p1.Cells.length c_p1_Cells)] (fun fb => by kernel_rfl) rfl ⟨hS1480.cell 0 rfl 2 rfl, trivial⟩ ?_
      obtain ⟨t1546, ht1547, hx1544⟩ := bind_some hx1544
      refine WL.call (some 48) 49 #[(.slice A_p1_Cells p1.Cells.length c_p1_Cells), (.func (.func 50) #[] #[(.pointer (some ⟨g1468, 0, none⟩))])] (fun fb => by kernel_rfl) (slices_ContainsFunc_int_int_with_machine_Fits_1_calls _ p1.Cells p0 A_p1_Cells c_p1_Cells g1468 A_p0_Actions c_p0_Actions t1546 _ (hS1480.rd 1) (hS1480.ow 1) (hS1480.rd 0) ht1547) (fun v w1548 hR1549 => ?_)
      obtain ⟨rfl, hk_⟩ := hR1549
      have hS1550 := hS1480.keepN hk_
      refine ⟨trivial, ?_⟩
      refine seg 46 [] [50] [(50, (.bool (!t1546)))] [] (fun fb => by kernel_rfl) rfl trivial ?_
      injection hx1544 with hx1544
      exact WL.to K (!t1546) [50] rfl ⟨⟨(hS1550.subR [0, 1]).sub [] (by decide), hx1544.symm⟩, trivial⟩
    refine WL.setB 44 h1545 rfl ?_
    refine seg 46 [] [50] [(50, (.bool false))] [] (fun fb => by kernel_rfl) rfl trivial ?_
    injection hx1544 with hx1544
    exact WL.to K false [50] rfl ⟨⟨(hS1480.subR [0, 1]).sub [] (by decide), hx1544.symm⟩, trivial⟩
  rintro y1551 w1553 ⟨⟨hS1554, hq1552⟩, hF1555⟩
  subst hq1552
  refine seg 47 [] [4] [(4, (.bool x1543))] [] (fun fb => by kernel_rfl) rfl trivial ?_
  refine WL.done rfl ?_
  refine WX.next ?_
  refine WC.ret ?_
  injection hf with hf
  subst hf
  exact WX.ret_ [] (.bool x1543) [] (fun fb => by kernel_rfl) trivial ⟨_, rfl, rfl, hS1554.keep⟩
theorem top_runner_calls   (r : Machine) (w : World)  (hf : top_runner = some r) :
    CallsR Try.prog 58 #[] w (fun v w' => ∃ (A1_ : Option Addr), ∃ (c1_ : Nat), v = (.agg #[(.int .i64 r.States), (.int .i64 r.Symbols), (.slice A1_ r.Actions.length c1_)]) ∧ St NoS w w' [] [rowO 88 enc_Action A1_ c1_ r.Actions]) := by
  have hS : St NoS w w [] [] := St.init (ro_nil _ _)
  refine enter 5 Try.func58 rfl Try.ntmps58 rfl ?_
  unfold top_runner at hf
  refine WC.seq ?_
  refine WC.region ?_
  refine WL.new hS 0 [] (fun g => (.pointer (some ⟨g, 0, none⟩))) (.cells #[(.int .i64 0), (.int .i64 0), (.slice none 0 0)] 24 (0, 0)) [] (fun fb g => by kernel_rfl) trivial (fun g1578 w1579 hS1580 => ?_)
  refine ⟨trivial, ?_⟩
  refine WL.done rfl ?_
  refine WX.next ?_
  refine WC.seq ?_
  refine WC.region ?_
  refine seg 2 [] [0, 1, 2] [(0, (.pointer (some ⟨g1578, 0, none⟩))), (1, (.agg #[(.int .i64 1), (.int .i64 1), (.int .i64 0)])), (2, (.agg #[(.int .i64 1), (.int .i64 1), (.int .i64 0)]))] [] (fun fb => by kernel_rfl) rfl trivial ?_
  refine WL.new hS1580 3 [] (fun g => (.slice (some ⟨g, 0, none⟩) 2 2)) (.cells #[(.int .i64 1), (.int .i64 1), (.int .i64 0), (.int .i64 1), (.int .i64 1), (.int .i64 0)] 88 (0, 0)) [] (fun fb g => by kernel_rfl) trivial (fun g1582 w1583 hS1584 => ?_)
  refine ⟨trivial, ?_⟩
  have hS1586 : St NoS w w1583 [] [rowO 88 enc_Action (some ⟨g1582, 0, none⟩) 2 [(Action.mk 1 1 0), (Action.mk 1 1 0)], blk g1578 (.cells #[(.int .i64 0), (.int .i64 0), (.slice none 0 0)] 24 (0, 0))] := hS1584.map1 0 _ (fun h => rowO.ofBlk h rfl (Nat.le_of_ble_eq_true (by kernel_rfl))) (fun _ h => by obtain ⟨_, h1, h2⟩ := h; injection h1 with h1; subst h1; exact h2) [1] (by decide) (by decide)
  refine seg 4 [] [0, 4] [(0, (.pointer (some ⟨g1578, 0, none⟩))), (4, (.agg #[(.int .i64 1), (.int .i64 2), (.slice (some ⟨g1582, 0, none⟩) [(Action.mk 1 1 0), (Action.mk 1 1 0)].length 2)]))] [] (fun fb => by kernel_rfl) rfl trivial ?_
  refine WL.store hS1586 1 rfl [(0, (.int .i64 1)), (1, (.int .i64 2)), (2, (.slice (some ⟨g1582, 0, none⟩) [(Action.mk 1 1 0), (Action.mk 1 1 0)].length 2))] #[(.int .i64 1), (.int .i64 2), (.slice (some ⟨g1582, 0, none⟩) [(Action.mk 1 1 0), (Action.mk 1 1 0)].length 2)] (fun fb => by kernel_rfl) (by kernel_rfl) rfl [0] (by decide) (by decide) (fun w1587 hS1588 => ?_)
  refine ⟨trivial, ?_⟩
  refine WL.done rfl ?_
  refine WX.next ?_
  refine WC.ret ?_
  injection hf with hf
  subst hf
  exact WX.ret_ [.v (.int .i64 1), .v (.int .i64 2), .v (.slice (some ⟨g1582, 0, none⟩) [(Action.mk 1 1 0), (Action.mk 1 1 0)].length 2)] (.agg #[(.int .i64 1), (.int .i64 2), (.slice (some ⟨g1582, 0, none⟩) [(Action.mk 1 1 0), (Action.mk 1 1 0)].length 2)]) [.cell ⟨g1578, 0, none⟩ (.int .i64 1), .cell ⟨g1578, 1, none⟩ (.int .i64 2), .cell ⟨g1578, 2, none⟩ (.slice (some ⟨g1582, 0, none⟩) [(Action.mk 1 1 0), (Action.mk 1 1 0)].length 2)] (fun fb => by kernel_rfl) ⟨hS1588.cell 0 rfl 0 rfl, hS1588.cell 0 rfl 1 rfl, hS1588.cell 0 rfl 2 rfl, trivial⟩ ⟨_, rfl, (some ⟨g1582, 0, none⟩), 2, rfl, (hS1588.sub [1] (by decide)).noR⟩
theorem slices_Clone_int_int_nil_calls (p0 : List Int) (c_p0 : Nat) (r : (List Int)) (w : World) (hR0 : RO NoS w (rowR encInt none c_p0 ([] : List Int))) (hf : slices_Clone_int_int_nil p0 = some r) :
    CallsR Try.prog 54 #[(.slice none ([] : List Int).length c_p0)] w (fun v w' => ∃ (A1_ : Option Addr), ∃ (c1_ : Nat), v = (.slice A1_ r.length c1_) ∧ St NoS w w' [] [rowO 3 encInt A1_ c1_ r]) := by
  have hS : St NoS w w [rowR encInt none c_p0 ([] : List Int)] [] := St.init (ro_cons hR0 (ro_nil _ _))
  refine enter 8 Try.func54 rfl Try.ntmps54 rfl ?_
  unfold slices_Clone_int_int_nil at hf
  refine WC.seq ?_
  refine WC.region ?_
  refine seg 1 [] [0] [(0, (.slice none ([] : List Int).length c_p0))] [] (fun fb => by kernel_rfl) rfl trivial ?_
  refine WL.done rfl ?_
  refine WX.next ?_
  refine WC.seq ?_
  refine WC.seq ?_
  refine WC.region ?_
  refine seg 2 [] [0, 4] [(0, (.slice none ([] : List Int).length c_p0)), (4, (.bool true))] [] (fun fb => by kernel_rfl) rfl trivial ?_
  refine WL.done rfl ?_
  refine WX.next ?_
  refine WC.condT (fun fb => by kernel_rfl) ?_
  refine WC.seq ?_
  refine WC.region ?_
  refine seg 1 [] [2] [(2, (.slice none 0 0))] [] (fun fb => by kernel_rfl) rfl trivial ?_
  refine WL.done rfl ?_
  refine WX.next ?_
  refine WC.ret ?_
  have hS1650 := hS.nilrow 3 encInt
  injection hf with hf
  subst hf
  exact WX.thenR (WX.ret_ [] (.slice none ([] : List Int).length 0) [] (fun fb => by kernel_rfl) trivial ⟨_, rfl, none, 0, rfl, (hS1650.sub [0] (by decide)).noR⟩)
theorem slices_Clone_int_int_some_calls (p0 : List Int) (a_p0 : Addr) (c_p0 : Nat) (r : (List Int)) (w : World) (hR0 : RO NoS w (rowR encInt (some a_p0) c_p0 p0)) (hf : slices_Clone_int_int_some p0 = some r) :
    CallsR Try.prog 54 #[(.slice (some a_p0) p0.length c_p0)] w (fun v w' => ∃ (A1_ : Option Addr), ∃ (c1_ : Nat), v = (.slice A1_ r.length c1_) ∧ St NoS w w' [] [rowO 3 encInt A1_ c1_ r]) := by
  have hS : St NoS w w [rowR encInt (some a_p0) c_p0 p0] [] := St.init (ro_cons hR0 (ro_nil _ _))
  refine enter 8 Try.func54 rfl Try.ntmps54 rfl ?_
  unfold slices_Clone_int_int_some at hf
  refine WC.seq ?_
  refine WC.region ?_
  refine seg 1 [] [0] [(0, (.slice (some a_p0) p0.length c_p0))] [] (fun fb => by kernel_rfl) rfl trivial ?_
  refine WL.done rfl ?_
  refine WX.next ?_
  refine WC.seq ?_
  refine WC.seq ?_
  refine WC.region ?_
  refine seg 2 [] [0, 4] [(0, (.slice (some a_p0) p0.length c_p0)), (4, (.bool false))] [] (fun fb => by kernel_rfl) rfl trivial ?_
  refine WL.done rfl ?_
  refine WX.next ?_
  refine WC.condF (fun fb => by kernel_rfl) ?_
  refine WC.skip ?_
  refine WX.next ?_
  refine WC.seq ?_
  refine WC.region ?_
  refine WL.new hS 5 [] (fun g => (.slice (some ⟨g, 0, none⟩) 0 0)) (.cells #[] 3 (0, 0)) [] (fun fb g => by kernel_rfl) trivial (fun g1651 w1652 hS1653 => ?_)
  refine ⟨trivial, ?_⟩
  have hS1655 : St NoS w w1652 [rowR encInt (some a_p0) c_p0 p0] [rowO 3 encInt (some ⟨g1651, 0, none⟩) 0 ([] : List Int)] := hS1653.map1 0 _ (fun h => rowO.ofBlk h rfl (Nat.le_of_ble_eq_true (by kernel_rfl))) (fun _ h => by obtain ⟨_, h1, h2⟩ := h; injection h1 with h1; subst h1; exact h2) [] (by decide) (by decide)
  refine seg 2 [] [5, 6] [(5, (.slice (some ⟨g1651, 0, none⟩) ([] : List Int).length 0)), (6, (.slice (some a_p0) p0.length c_p0))] [] (fun fb => by kernel_rfl) rfl trivial ?_
  obtain ⟨h1656, hf⟩ := as_some hf
  refine WL.append hS1655 0 (d := 7) (tS := 25) (z := (.int .i64 0)) (bytes := 8) (c2 := c_p0) rfl (fun fb => by kernel_rfl) (hS1655.rd 0).1 (by kernel_rfl) (by kernel_rfl) rfl (by decide) h1656 (by decide) [] (by decide) (by decide) (fun A1657 c1658 w1659 hS1660 => ?_)
  refine ⟨trivial, ?_⟩
  refine seg 4 [] [2] [(2, (.slice A1657 (([] : List Int) ++ p0).length c1658))] [] (fun fb => by kernel_rfl) rfl trivial ?_
  refine WL.done rfl ?_
  refine WX.next ?_
  refine WC.ret ?_
  injection hf with hf
  subst hf
  exact WX.ret_ [] (.slice A1657 (([] : List Int) ++ p0).length c1658) [] (fun fb => by kernel_rfl) trivial ⟨_, rfl, A1657, c1658, rfl, (hS1660.sub [0] (by decide)).noR⟩
theorem slices_Clone_int_int_calls (p0 : List Int) (A_p0 : Option Addr) (c_p0 : Nat) (r : List Int) (w : World) (hR0 : RO NoS w (rowR encInt A_p0 c_p0 p0)) (hf : slices_Clone_int_int p0 = some r) :
    CallsR Try.prog 54 #[(.slice A_p0 p0.length c_p0)] w (fun v w' => ∃ (A1_ : Option Addr), ∃ (c1_ : Nat), v = (.slice A1_ r.length c1_) ∧ St NoS w w' [] [rowO 3 encInt A1_ c1_ r]) := by
  unfold slices_Clone_int_int at hf
  cases A_p0 with
  | none =>
    have h3 : p0 = [] := by
      cases p0 with
      | nil => rfl
      | cons x xs => exact absurd (hR0.1.1 0 x rfl).1 (by simp)
    subst h3
    rw [slices_Clone_int_int_some] at hf
    obtain ⟨h4, hf⟩ := as_some hf
    injection hf with hf; subst hf
    exact slices_Clone_int_int_nil_calls [] c_p0 [] w hR0 rfl
  | some a => exact slices_Clone_int_int_some_calls p0 a c_p0 r w hR0 hf
theorem machine_begin_calls (p0 : Machine) (p1 : Config) (A_p0_Actions : Option Addr) (c_p0_Actions : Nat) (A_p1_Cells : Option Addr) (c_p1_Cells : Nat) (r : Runner) (w : World) (hR0 : RO NoS w (rowR enc_Action A_p0_Actions c_p0_Actions p0.Actions)) (hR1 : RO NoS w (rowR encInt A_p1_Cells c_p1_Cells p1.Cells)) (hf : machine_begin p0 p1 = some r) :
    CallsR Try.prog 42 #[(.agg #[(.int .i64 p0.States), (.int .i64 p0.Symbols), (.slice A_p0_Actions p0.Actions.length c_p0_Actions)]), (.agg #[(.int .i64 p1.State), (.int .i64 p1.At), (.slice A_p1_Cells p1.Cells.length c_p1_Cells)])] w (fun v w' => ∃ (g1_ : Nat), ∃ (A2_ : Option Addr), ∃ (c2_ : Nat), v = (.pointer (some ⟨g1_, 0, none⟩)) ∧ St NoS w w' [] [blk g1_ (.cells #[(.int .i64 r.m.States), (.int .i64 r.m.Symbols), (.slice A_p0_Actions p0.Actions.length c_p0_Actions), (.int .i64 r.Config.State), (.int .i64 r.Config.At), (.slice A2_ r.Config.Cells.length c2_)] 82 (0, 0)), rowO 3 encInt A2_ c2_ r.Config.Cells]) := by
  have hS : St NoS w w [rowR enc_Action A_p0_Actions c_p0_Actions p0.Actions, rowR encInt A_p1_Cells c_p1_Cells p1.Cells] [] := St.init (ro_cons hR0 (ro_cons hR1 (ro_nil _ _)))
  refine enter 13 Try.func42 rfl Try.ntmps42 rfl ?_
  unfold machine_begin at hf
  refine WC.seq ?_
  refine WC.region ?_
  refine WL.new hS 2 [] (fun g => (.pointer (some ⟨g, 0, none⟩))) (.cells #[(.int .i64 p0.States), (.int .i64 p0.Symbols), (.slice A_p0_Actions p0.Actions.length c_p0_Actions)] 24 (0, 0)) [] (fun fb g => by kernel_rfl) trivial (fun g1642 w1643 hS1644 => ?_)
  refine ⟨trivial, ?_⟩
  refine WL.new hS1644 3 [] (fun g => (.pointer (some ⟨g, 0, none⟩))) (.cells #[(.int .i64 p1.State), (.int .i64 p1.At), (.slice A_p1_Cells p1.Cells.length c_p1_Cells)] 27 (0, 0)) [] (fun fb g => by kernel_rfl) trivial (fun g1646 w1647 hS1648 => ?_)
  refine ⟨trivial, ?_⟩
  refine seg 3 [] [2, 3] [(2, (.pointer (some ⟨g1642, 0, none⟩))), (3, (.pointer (some ⟨g1646, 0, none⟩)))] [] (fun fb => by kernel_rfl) rfl trivial ?_
  refine WL.done rfl ?_
  refine WX.next ?_
  refine WC.seq ?_
  refine WC.region ?_
  refine seg 2 [.v (.slice A_p1_Cells p1.Cells.length c_p1_Cells)] [2, 3, 6] [(2, (.pointer (some ⟨g1642, 0, none⟩))), (3, (.pointer (some ⟨g1646, 0, none⟩))), (6, (.slice A_p1_Cells p1.Cells.length c_p1_Cells))] [.cell ⟨g1646, 2, none⟩ (.slice A_p1_Cells p1.Cells.length c_p1_Cells)] (fun fb => by kernel_rfl) rfl ⟨hS1648.cell 0 rfl 2 rfl, trivial⟩ ?_
  obtain ⟨t1661, ht1662, hf⟩ := bind_some hf
  refine WL.call (some 7) 54 #[(.slice A_p1_Cells p1.Cells.length c_p1_Cells)] (fun fb => by kernel_rfl) (slices_Clone_int_int_calls p1.Cells A_p1_Cells c_p1_Cells t1661 _ (hS1648.rd 1) ht1662) (fun v w1663 hR1664 => ?_)
  obtain ⟨A1666, c1667, rfl, hk_⟩ := hR1664
  have hS1665 : St NoS w w1663 [rowR enc_Action A_p0_Actions c_p0_Actions p0.Actions, rowR encInt A_p1_Cells c_p1_Cells p1.Cells] [rowO 3 encInt A1666 c1667 t1661, blk g1646 (.cells #[(.int .i64 p1.State), (.int .i64 p1.At), (.slice A_p1_Cells p1.Cells.length c_p1_Cells)] 27 (0, 0)), blk g1642 (.cells #[(.int .i64 p0.States), (.int .i64 p0.Symbols), (.slice A_p0_Actions p0.Actions.length c_p0_Actions)] 24 (0, 0))] := hS1648.call hk_ [] [0, 1] (fun g hg => hg.elim) (by simp) (by decide)
  refine ⟨trivial, ?_⟩
  refine seg 4 [] [2, 3, 7, 8] [(2, (.pointer (some ⟨g1642, 0, none⟩))), (3, (.pointer (some ⟨g1646, 0, none⟩))), (7, (.slice A1666 t1661.length c1667)), (8, (.pointer (some ⟨g1646, 2, none⟩)))] [] (fun fb => by kernel_rfl) rfl trivial ?_
  refine WL.store hS1665 1 rfl [(2, (.slice A1666 t1661.length c1667))] #[(.int .i64 p1.State), (.int .i64 p1.At), (.slice A1666 t1661.length c1667)] (fun fb => by kernel_rfl) (by kernel_rfl) rfl [0, 2] (by decide) (by decide) (fun w1668 hS1669 => ?_)
  refine ⟨trivial, ?_⟩
  refine WL.done rfl ?_
  refine WX.next ?_
  refine WC.seq ?_
  refine WC.region ?_
  refine seg 3 [.v (.int .i64 p0.States), .v (.int .i64 p0.Symbols), .v (.slice A_p0_Actions p0.Actions.length c_p0_Actions), .v (.int .i64 p1.State), .v (.int .i64 p1.At), .v (.slice A1666 t1661.length c1667)] [11] [(11, (.agg #[(.int .i64 p0.States), (.int .i64 p0.Symbols), (.slice A_p0_Actions p0.Actions.length c_p0_Actions), (.int .i64 p1.State), (.int .i64 p1.At), (.slice A1666 t1661.length c1667)]))] [.cell ⟨g1642, 0, none⟩ (.int .i64 p0.States), .cell ⟨g1642, 1, none⟩ (.int .i64 p0.Symbols), .cell ⟨g1642, 2, none⟩ (.slice A_p0_Actions p0.Actions.length c_p0_Actions), .cell ⟨g1646, 0, none⟩ (.int .i64 p1.State), .cell ⟨g1646, 1, none⟩ (.int .i64 p1.At), .cell ⟨g1646, 2, none⟩ (.slice A1666 t1661.length c1667)] (fun fb => by kernel_rfl) rfl ⟨hS1669.cell 2 rfl 0 rfl, hS1669.cell 2 rfl 1 rfl, hS1669.cell 2 rfl 2 rfl, hS1669.cell 0 rfl 0 rfl, hS1669.cell 0 rfl 1 rfl, hS1669.cell 0 rfl 2 rfl, trivial⟩ ?_
  refine WL.new hS1669 12 [] (fun g => (.pointer (some ⟨g, 0, none⟩))) (.cells #[(.int .i64 p0.States), (.int .i64 p0.Symbols), (.slice A_p0_Actions p0.Actions.length c_p0_Actions), (.int .i64 p1.State), (.int .i64 p1.At), (.slice A1666 t1661.length c1667)] 82 (0, 0)) [] (fun fb g => by kernel_rfl) trivial (fun g1670 w1671 hS1672 => ?_)
  refine ⟨trivial, ?_⟩
  refine seg 5 [] [4] [(4, (.pointer (some ⟨g1670, 0, none⟩)))] [] (fun fb => by kernel_rfl) rfl trivial ?_
  refine WL.done rfl ?_
  refine WX.next ?_
  refine WC.ret ?_
  injection hf with hf
  subst hf
  exact WX.ret_ [] (.pointer (some ⟨g1670, 0, none⟩)) [] (fun fb => by kernel_rfl) trivial ⟨_, rfl, g1670, A1666, c1667, rfl, (hS1672.sub [0, 2] (by decide)).noR⟩
theorem machine_runner_does_calls (p0 : Runner) (g_p0 : Nat) (A_p0_m_Actions : Option Addr) (c_p0_m_Actions : Nat) (A_p0_Config_Cells : Option Addr) (c_p0_Config_Cells : Nat) (r : Int) (w : World) (hR0 : RO NoS w (blk g_p0 (.cells #[(.int .i64 p0.m.States), (.int .i64 p0.m.Symbols), (.slice A_p0_m_Actions p0.m.Actions.length c_p0_m_Actions), (.int .i64 p0.Config.State), (.int .i64 p0.Config.At), (.slice A_p0_Config_Cells p0.Config.Cells.length c_p0_Config_Cells)] 82 (0, 0)))) (hR1 : RO NoS w (rowR enc_Action A_p0_m_Actions c_p0_m_Actions p0.m.Actions)) (hR2 : RO NoS w (rowR encInt A_p0_Config_Cells c_p0_Config_Cells p0.Config.Cells)) (hf : machine_runner_does p0 = some r) :
    CallsR Try.prog 63 #[(.pointer (some ⟨g_p0, 0, none⟩))] w (fun v w' => v = (.int .i64 r) ∧ Keeps NoS w w') := by
  have hS : St NoS w w [blk g_p0 (.cells #[(.int .i64 p0.m.States), (.int .i64 p0.m.Symbols), (.slice A_p0_m_Actions p0.m.Actions.length c_p0_m_Actions), (.int .i64 p0.Config.State), (.int .i64 p0.Config.At), (.slice A_p0_Config_Cells p0.Config.Cells.length c_p0_Config_Cells)] 82 (0, 0)), rowR enc_Action A_p0_m_Actions c_p0_m_Actions p0.m.Actions, rowR encInt A_p0_Config_Cells c_p0_Config_Cells p0.Config.Cells] [] := St.init (ro_cons hR0 (ro_cons hR1 (ro_cons hR2 (ro_nil _ _))))
  refine enter 27 Try.func63 rfl Try.ntmps63 rfl ?_
  unfold machine_runner_does at hf
  refine WC.seq ?_
  refine WC.region ?_
  refine seg 1 [] [0] [(0, (.pointer (some ⟨g_p0, 0, none⟩)))] [] (fun fb => by kernel_rfl) rfl trivial ?_
  refine WL.done rfl ?_
  refine WX.next ?_
  refine WC.seq ?_
  obtain ⟨h1731, hf⟩ := as_some hf
  refine WC.regionD ([(4, ⟨g_p0, 3, none⟩, (.int .i64 p0.Config.State)), (9, ⟨g_p0, 1, none⟩, (.int .i64 p0.m.Symbols)), (15, ⟨g_p0, 5, none⟩, (.slice A_p0_Config_Cells p0.Config.Cells.length c_p0_Config_Cells)), (20, ⟨g_p0, 4, none⟩, (.int .i64 p0.Config.At)), (22, ((adr A_p0_Config_Cells).add ((p0.Config.At).toNat * 1)), (.int .i64 (rdD p0.Config.Cells p0.Config.At 0)))], [0, 1, 2, 3, 4, 5, 6, 7, 8, 9, 10, 11, 12, 13, 14, 15, 16, 17, 18, 19, 20, 21, 22, 23, 24], [[], [0], [0, 1], [0, 1, 2], [0, 1, 2, 3], [], [5], [5, 6], [5, 6, 7], [5, 6, 7, 8], [0, 1, 2, 3, 4, 5, 6, 7, 8, 9], [], [11], [11, 12], [11, 12, 13], [11, 12, 13, 14], [], [16], [16, 17], [16, 17, 18], [16, 17, 18, 19], [11, 12, 13, 14, 15, 16, 17, 18, 19, 20], [11, 12, 13, 14, 15, 16, 17, 18, 19, 20, 21], [0, 1, 2, 3, 4, 5, 6, 7, 8, 9, 10, 11, 12, 13, 14, 15, 16, 17, 18, 19, 20, 21, 22], [0, 1, 2, 3, 4, 5, 6, 7, 8, 9, 10, 11, 12, 13, 14, 15, 16, 17, 18, 19, 20, 21, 22, 23]]) [[0, 1, 2, 3, 4, 5, 6, 7, 8, 9, 10, 11, 12, 13, 14, 15, 16, 17, 18, 19, 20, 21, 22, 23, 24]] (by kernel_rfl) (by kernel_rfl) (NoPanic.seq (NoPanic.body)) ?_
  have hS1729 := hS.drew
  revert hS1729
  generalize World.drew w = w1728
  intro hS1729
  refine ⟨⟨blk_cell (hS1729.rd 0).1 3 rfl, blk_cell (hS1729.rd 0).1 1 rfl, blk_cell (hS1729.rd 0).1 5 rfl, blk_cell (hS1729.rd 0).1 4 rfl, rowR.cell (hS1729.rd 2).1 0 h1731.1 h1731.2 0 rfl, trivial⟩, forallC ?_ (forallN)⟩
  refine segF 25 [.v (.int .i64 p0.Config.State), .v (.int .i64 p0.m.Symbols), .v (.slice A_p0_Config_Cells p0.Config.Cells.length c_p0_Config_Cells), .v (.int .i64 p0.Config.At), .v (.int .i64 (rdD p0.Config.Cells p0.Config.At 0))] [2] [(2, (.int .i64 (w64 ((w64 (p0.Config.State * p0.m.Symbols)) + (rdD p0.Config.Cells p0.Config.At 0)))))] [.idx A_p0_Config_Cells p0.Config.At p0.Config.Cells.length] [0, 1, 2, 3, 4] [(4, ⟨g_p0, 3, none⟩, (.int .i64 p0.Config.State)), (9, ⟨g_p0, 1, none⟩, (.int .i64 p0.m.Symbols)), (15, ⟨g_p0, 5, none⟩, (.slice A_p0_Config_Cells p0.Config.Cells.length c_p0_Config_Cells)), (20, ⟨g_p0, 4, none⟩, (.int .i64 p0.Config.At)), (22, ((adr A_p0_Config_Cells).add ((p0.Config.At).toNat * 1)), (.int .i64 (rdD p0.Config.Cells p0.Config.At 0)))] (fun fb => by kernel_rfl) rfl ⟨rowR.adr (hS1729.rd 2).1 h1731.1 h1731.2, trivial⟩ rfl ?_
  refine WL.done rfl ?_
  refine WX.next ?_
  refine WC.ret ?_
  injection hf with hf
  subst hf
  exact WX.ret_ [] (.int .i64 (w64 ((w64 (p0.Config.State * p0.m.Symbols)) + (rdD p0.Config.Cells p0.Config.At 0)))) [] (fun fb => by kernel_rfl) trivial ⟨_, rfl, rfl, hS1729.keep⟩
theorem machine_runner_step_calls (p0 : Runner) (g_p0 : Nat) (A_p0_m_Actions : Option Addr) (c_p0_m_Actions : Nat) (A_p0_Config_Cells : Option Addr) (c_p0_Config_Cells : Nat) (r : Int × Runner) (w : World) (hR0 : RO (fpL [blk g_p0 (.cells #[(.int .i64 p0.m.States), (.int .i64 p0.m.Symbols), (.slice A_p0_m_Actions p0.m.Actions.length c_p0_m_Actions), (.int .i64 p0.Config.State), (.int .i64 p0.Config.At), (.slice A_p0_Config_Cells p0.Config.Cells.length c_p0_Config_Cells)] 82 (0, 0)), rowO 3 encInt A_p0_Config_Cells c_p0_Config_Cells p0.Config.Cells]) w (rowR enc_Action A_p0_m_Actions c_p0_m_Actions p0.m.Actions)) (hI : IoOK w [blk g_p0 (.cells #[(.int .i64 p0.m.States), (.int .i64 p0.m.Symbols), (.slice A_p0_m_Actions p0.m.Actions.length c_p0_m_Actions), (.int .i64 p0.Config.State), (.int .i64 p0.Config.At), (.slice A_p0_Config_Cells p0.Config.Cells.length c_p0_Config_Cells)] 82 (0, 0)), rowO 3 encInt A_p0_Config_Cells c_p0_Config_Cells p0.Config.Cells]) (hf : machine_runner_step p0 = some r) :
    CallsR Try.prog 43 #[(.pointer (some ⟨g_p0, 0, none⟩))] w (fun v w' => ∃ (A1_ : Option Addr), ∃ (c1_ : Nat), v = (.int .i64 r.1) ∧ St (fpL [blk g_p0 (.cells #[(.int .i64 p0.m.States), (.int .i64 p0.m.Symbols), (.slice A_p0_m_Actions p0.m.Actions.length c_p0_m_Actions), (.int .i64 p0.Config.State), (.int .i64 p0.Config.At), (.slice A_p0_Config_Cells p0.Config.Cells.length c_p0_Config_Cells)] 82 (0, 0)), rowO 3 encInt A_p0_Config_Cells c_p0_Config_Cells p0.Config.Cells]) w w' [] [blk g_p0 (.cells #[(.int .i64 r.2.m.States), (.int .i64 r.2.m.Symbols), (.slice A_p0_m_Actions p0.m.Actions.length c_p0_m_Actions), (.int .i64 r.2.Config.State), (.int .i64 r.2.Config.At), (.slice A1_ r.2.Config.Cells.length c1_)] 82 (0, 0)), rowO 3 encInt A1_ c1_ r.2.Config.Cells]) := by
  have hS : St (fpL [blk g_p0 (.cells #[(.int .i64 p0.m.States), (.int .i64 p0.m.Symbols), (.slice A_p0_m_Actions p0.m.Actions.length c_p0_m_Actions), (.int .i64 p0.Config.State), (.int .i64 p0.Config.At), (.slice A_p0_Config_Cells p0.Config.Cells.length c_p0_Config_Cells)] 82 (0, 0)), rowO 3 encInt A_p0_Config_Cells c_p0_Config_Cells p0.Config.Cells]) w w [rowR enc_Action A_p0_m_Actions c_p0_m_Actions p0.m.Actions] [blk g_p0 (.cells #[(.int .i64 p0.m.States), (.int .i64 p0.m.Symbols), (.slice A_p0_m_Actions p0.m.Actions.length c_p0_m_Actions), (.int .i64 p0.Config.State), (.int .i64 p0.Config.At), (.slice A_p0_Config_Cells p0.Config.Cells.length c_p0_Config_Cells)] 82 (0, 0)), rowO 3 encInt A_p0_Config_Cells c_p0_Config_Cells p0.Config.Cells] := St.initIO (ro_cons hR0 (ro_nil _ _)) hI
  refine enter 70 Try.func43 rfl Try.ntmps43 rfl ?_
  unfold machine_runner_step at hf
  refine WC.seq ?_
  refine WC.region ?_
  refine seg 1 [] [0] [(0, (.pointer (some ⟨g_p0, 0, none⟩)))] [] (fun fb => by kernel_rfl) rfl trivial ?_
  refine WL.done rfl ?_
  refine WX.next ?_
  refine WC.seq ?_
  obtain ⟨x1893, hx1894, hf⟩ := bind_some hf
  refine WC.cutN (T := (Int × Int × Int) × Nat) (fun t => [(0, (.pointer (some ⟨g_p0, 0, none⟩))), (3, (.pointer (some ⟨t.2, 0, none⟩)))]) (fun t w1 => St (fpL [blk g_p0 (.cells #[(.int .i64 p0.m.States), (.int .i64 p0.m.Symbols), (.slice A_p0_m_Actions p0.m.Actions.length c_p0_m_Actions), (.int .i64 p0.Config.State), (.int .i64 p0.Config.At), (.slice A_p0_Config_Cells p0.Config.Cells.length c_p0_Config_Cells)] 82 (0, 0)), rowO 3 encInt A_p0_Config_Cells c_p0_Config_Cells p0.Config.Cells]) w w1 [rowR enc_Action A_p0_m_Actions c_p0_m_Actions p0.m.Actions] [blk g_p0 (.cells #[(.int .i64 p0.m.States), (.int .i64 p0.m.Symbols), (.slice A_p0_m_Actions p0.m.Actions.length c_p0_m_Actions), (.int .i64 p0.Config.State), (.int .i64 p0.Config.At), (.slice A_p0_Config_Cells p0.Config.Cells.length c_p0_Config_Cells)] 82 (0, 0)), rowO 3 encInt A_p0_Config_Cells c_p0_Config_Cells p0.Config.Cells, blk t.2 (.cells #[(.int .i64 t.1.1), (.int .i64 t.1.2.1), (.int .i64 t.1.2.2)] 88 (0, 0))] ∧ x1893 = t.1) (fun Kx1893 => ?_) ?_
  ·
    refine WC.regionD ([(4, ⟨g_p0, 2, none⟩, (.slice A_p0_m_Actions p0.m.Actions.length c_p0_m_Actions))], [0, 1, 2, 3, 4, 5, 7], [[], [0], [0, 1], [0, 1, 2], [0, 1, 2, 3], [], [5], [0, 1, 2, 3, 4, 5, 6], [0, 1, 2, 3, 4, 5, 6, 7], [], [0, 1, 2, 3, 4, 5, 6, 7, 8, 9]]) [[0, 1, 2, 3, 4, 5, 6, 7, 8, 9, 10], [0, 1, 2, 3, 4, 5, 6, 7, 9, 8, 10], [0, 1, 2, 3, 4, 5, 9, 6, 7, 8, 10]] (by kernel_rfl) (by kernel_rfl) (NoPanic.seq (NoPanic.body)) ?_
    have hS1896 := hS.drew
    revert hS1896
    generalize World.drew w = w1895
    intro hS1896
    refine ⟨⟨hS1896.cell 0 rfl 2 rfl, trivial⟩, forallC ?_ (forallC ?_ (forallC ?_ (forallN)))⟩
    ·
      refine segF 6 [.v (.slice A_p0_m_Actions p0.m.Actions.length c_p0_m_Actions)] [0, 9, 10] [(0, (.pointer (some ⟨g_p0, 0, none⟩))), (9, (.slice A_p0_m_Actions p0.m.Actions.length c_p0_m_Actions)), (10, (.pointer (some ⟨g_p0, 0, none⟩)))] [] [0] [(4, ⟨g_p0, 2, none⟩, (.slice A_p0_m_Actions p0.m.Actions.length c_p0_m_Actions))] (fun fb => by kernel_rfl) rfl trivial rfl ?_
      obtain ⟨t1897, ht1898, hx1894⟩ := bind_some hx1894
      refine WL.call (some 11) 63 #[(.pointer (some ⟨g_p0, 0, none⟩))] (fun fb => by kernel_rfl) (machine_runner_does_calls p0 g_p0 A_p0_m_Actions c_p0_m_Actions A_p0_Config_Cells c_p0_Config_Cells t1897 _ (hS1896.ow 0) (hS1896.rd 0) (hS1896.ow 1).ofO ht1898) (fun v w1899 hR1900 => ?_)
      obtain ⟨rfl, hk_⟩ := hR1900
      have hS1901 := hS1896.keepN hk_
      refine ⟨⟨hS1901.cell 0 rfl 2 rfl, trivial⟩, ?_⟩
      obtain ⟨h1902, hx1894⟩ := as_some hx1894
      refine seg 9 [.v (.int .i64 ((rdD p0.m.Actions t1897 z_Action).Write)), .v (.int .i64 ((rdD p0.m.Actions t1897 z_Action).Move)), .v (.int .i64 ((rdD p0.m.Actions t1897 z_Action).Next))] [0, 13] [(0, (.pointer (some ⟨g_p0, 0, none⟩))), (13, (.agg #[(.int .i64 ((rdD p0.m.Actions t1897 z_Action).Write)), (.int .i64 ((rdD p0.m.Actions t1897 z_Action).Move)), (.int .i64 ((rdD p0.m.Actions t1897 z_Action).Next))]))] [.idx A_p0_m_Actions t1897 p0.m.Actions.length, .cell ((adr A_p0_m_Actions).add ((t1897).toNat * 3)) (.int .i64 ((rdD p0.m.Actions t1897 z_Action).Write)), .cell (((adr A_p0_m_Actions).add ((t1897).toNat * 3)).add 1) (.int .i64 ((rdD p0.m.Actions t1897 z_Action).Move)), .cell (((adr A_p0_m_Actions).add ((t1897).toNat * 3)).add 2) (.int .i64 ((rdD p0.m.Actions t1897 z_Action).Next))] (fun fb => by kernel_rfl) rfl ⟨rowR.adr (hS1901.rd 0).1 h1902.1 h1902.2, rowR.cell (hS1901.rd 0).1 z_Action h1902.1 h1902.2 0 rfl, rowR.cell (hS1901.rd 0).1 z_Action h1902.1 h1902.2 1 rfl, rowR.cell (hS1901.rd 0).1 z_Action h1902.1 h1902.2 2 rfl, trivial⟩ ?_
      refine WL.new hS1901 3 [] (fun g => (.pointer (some ⟨g, 0, none⟩))) (.cells #[(.int .i64 0), (.int .i64 0), (.int .i64 0)] 88 (0, 0)) [] (fun fb g => by kernel_rfl) trivial (fun g1903 w1904 hS1905 => ?_)
      refine ⟨⟨hS1905.cell 1 rfl 2 rfl, trivial⟩, ?_⟩
      refine WL.store hS1905 0 rfl [(0, (.int .i64 ((rdD p0.m.Actions t1897 z_Action).Write))), (1, (.int .i64 ((rdD p0.m.Actions t1897 z_Action).Move))), (2, (.int .i64 ((rdD p0.m.Actions t1897 z_Action).Next)))] #[(.int .i64 ((rdD p0.m.Actions t1897 z_Action).Write)), (.int .i64 ((rdD p0.m.Actions t1897 z_Action).Move)), (.int .i64 ((rdD p0.m.Actions t1897 z_Action).Next))] (fun fb => by kernel_rfl) (by kernel_rfl) rfl [1, 2] (by decide) (by decide) (fun w1907 hS1908 => ?_)
      refine ⟨trivial, ?_⟩
      refine WL.done rfl ?_
      injection hx1894 with hx1894
      exact WX.to Kx1893 (((rdD p0.m.Actions t1897 z_Action).Write, (rdD p0.m.Actions t1897 z_Action).Move, (rdD p0.m.Actions t1897 z_Action).Next), g1903) [0, 3] rfl ⟨(hS1908.subR [0]).sub [1, 2, 0] (by decide), hx1894.symm⟩
    ·
      refine segF 6 [.v (.slice A_p0_m_Actions p0.m.Actions.length c_p0_m_Actions)] [0, 9, 10] [(0, (.pointer (some ⟨g_p0, 0, none⟩))), (9, (.slice A_p0_m_Actions p0.m.Actions.length c_p0_m_Actions)), (10, (.pointer (some ⟨g_p0, 0, none⟩)))] [] [0] [(4, ⟨g_p0, 2, none⟩, (.slice A_p0_m_Actions p0.m.Actions.length c_p0_m_Actions))] (fun fb => by kernel_rfl) rfl trivial rfl ?_
      obtain ⟨t1909, ht1910, hx1894⟩ := bind_some hx1894
      refine WL.call (some 11) 63 #[(.pointer (some ⟨g_p0, 0, none⟩))] (fun fb => by kernel_rfl) (machine_runner_does_calls p0 g_p0 A_p0_m_Actions c_p0_m_Actions A_p0_Config_Cells c_p0_Config_Cells t1909 _ (hS1896.ow 0) (hS1896.rd 0) (hS1896.ow 1).ofO ht1910) (fun v w1911 hR1912 => ?_)
      obtain ⟨rfl, hk_⟩ := hR1912
      have hS1913 := hS1896.keepN hk_
      refine ⟨⟨hS1913.cell 0 rfl 2 rfl, trivial⟩, ?_⟩
      obtain ⟨h1914, hx1894⟩ := as_some hx1894
      refine seg 8 [] [0, 12] [(0, (.pointer (some ⟨g_p0, 0, none⟩))), (12, (.pointer (some ((adr A_p0_m_Actions).add ((t1909).toNat * 3)))))] [.idx A_p0_m_Actions t1909 p0.m.Actions.length] (fun fb => by kernel_rfl) rfl ⟨rowR.adr (hS1913.rd 0).1 h1914.1 h1914.2, trivial⟩ ?_
      refine WL.new hS1913 3 [] (fun g => (.pointer (some ⟨g, 0, none⟩))) (.cells #[(.int .i64 0), (.int .i64 0), (.int .i64 0)] 88 (0, 0)) [] (fun fb g => by kernel_rfl) trivial (fun g1915 w1916 hS1917 => ?_)
      refine ⟨⟨hS1917.cell 1 rfl 2 rfl, trivial⟩, ?_⟩
      refine seg 10 [.v (.int .i64 ((rdD p0.m.Actions t1909 z_Action).Write)), .v (.int .i64 ((rdD p0.m.Actions t1909 z_Action).Move)), .v (.int .i64 ((rdD p0.m.Actions t1909 z_Action).Next))] [0, 3, 13] [(0, (.pointer (some ⟨g_p0, 0, none⟩))), (3, (.pointer (some ⟨g1915, 0, none⟩))), (13, (.agg #[(.int .i64 ((rdD p0.m.Actions t1909 z_Action).Write)), (.int .i64 ((rdD p0.m.Actions t1909 z_Action).Move)), (.int .i64 ((rdD p0.m.Actions t1909 z_Action).Next))]))] [.cell ((adr A_p0_m_Actions).add ((t1909).toNat * 3)) (.int .i64 ((rdD p0.m.Actions t1909 z_Action).Write)), .cell (((adr A_p0_m_Actions).add ((t1909).toNat * 3)).add 1) (.int .i64 ((rdD p0.m.Actions t1909 z_Action).Move)), .cell (((adr A_p0_m_Actions).add ((t1909).toNat * 3)).add 2) (.int .i64 ((rdD p0.m.Actions t1909 z_Action).Next))] (fun fb => by kernel_rfl) rfl ⟨rowR.cell (hS1917.rd 0).1 z_Action h1914.1 h1914.2 0 rfl, rowR.cell (hS1917.rd 0).1 z_Action h1914.1 h1914.2 1 rfl, rowR.cell (hS1917.rd 0).1 z_Action h1914.1 h1914.2 2 rfl, trivial⟩ ?_
      refine WL.store hS1917 0 rfl [(0, (.int .i64 ((rdD p0.m.Actions t1909 z_Action).Write))), (1, (.int .i64 ((rdD p0.m.Actions t1909 z_Action).Move))), (2, (.int .i64 ((rdD p0.m.Actions t1909 z_Action).Next)))] #[(.int .i64 ((rdD p0.m.Actions t1909 z_Action).Write)), (.int .i64 ((rdD p0.m.Actions t1909 z_Action).Move)), (.int .i64 ((rdD p0.m.Actions t1909 z_Action).Next))] (fun fb => by kernel_rfl) (by kernel_rfl) rfl [1, 2] (by decide) (by decide) (fun w1919 hS1920 => ?_)
      refine ⟨trivial, ?_⟩
      refine WL.done rfl ?_
      injection hx1894 with hx1894
      exact WX.to Kx1893 (((rdD p0.m.Actions t1909 z_Action).Write, (rdD p0.m.Actions t1909 z_Action).Move, (rdD p0.m.Actions t1909 z_Action).Next), g1915) [0, 3] rfl ⟨(hS1920.subR [0]).sub [1, 2, 0] (by decide), hx1894.symm⟩
    refine segF 6 [.v (.slice A_p0_m_Actions p0.m.Actions.length c_p0_m_Actions)] [0, 9, 10] [(0, (.pointer (some ⟨g_p0, 0, none⟩))), (9, (.slice A_p0_m_Actions p0.m.Actions.length c_p0_m_Actions)), (10, (.pointer (some ⟨g_p0, 0, none⟩)))] [] [0] [(4, ⟨g_p0, 2, none⟩, (.slice A_p0_m_Actions p0.m.Actions.length c_p0_m_Actions))] (fun fb => by kernel_rfl) rfl trivial rfl ?_
    refine WL.new hS1896 3 [] (fun g => (.pointer (some ⟨g, 0, none⟩))) (.cells #[(.int .i64 0), (.int .i64 0), (.int .i64 0)] 88 (0, 0)) [] (fun fb g => by kernel_rfl) trivial (fun g1921 w1922 hS1923 => ?_)
    refine ⟨⟨hS1923.cell 1 rfl 2 rfl, trivial⟩, ?_⟩
    obtain ⟨t1925, ht1926, hx1894⟩ := bind_some hx1894
    refine WL.call (some 11) 63 #[(.pointer (some ⟨g_p0, 0, none⟩))] (fun fb => by kernel_rfl) (machine_runner_does_calls p0 g_p0 A_p0_m_Actions c_p0_m_Actions A_p0_Config_Cells c_p0_Config_Cells t1925 _ (hS1923.ow 1) (hS1923.rd 0) (hS1923.ow 2).ofO ht1926) (fun v w1927 hR1928 => ?_)
    obtain ⟨rfl, hk_⟩ := hR1928
    have hS1929 := hS1923.keepN hk_
    refine ⟨⟨hS1929.cell 1 rfl 2 rfl, trivial⟩, ?_⟩
    obtain ⟨h1930, hx1894⟩ := as_some hx1894
    refine seg 10 [.v (.int .i64 ((rdD p0.m.Actions t1925 z_Action).Write)), .v (.int .i64 ((rdD p0.m.Actions t1925 z_Action).Move)), .v (.int .i64 ((rdD p0.m.Actions t1925 z_Action).Next))] [0, 3, 13] [(0, (.pointer (some ⟨g_p0, 0, none⟩))), (3, (.pointer (some ⟨g1921, 0, none⟩))), (13, (.agg #[(.int .i64 ((rdD p0.m.Actions t1925 z_Action).Write)), (.int .i64 ((rdD p0.m.Actions t1925 z_Action).Move)), (.int .i64 ((rdD p0.m.Actions t1925 z_Action).Next))]))] [.idx A_p0_m_Actions t1925 p0.m.Actions.length, .cell ((adr A_p0_m_Actions).add ((t1925).toNat * 3)) (.int .i64 ((rdD p0.m.Actions t1925 z_Action).Write)), .cell (((adr A_p0_m_Actions).add ((t1925).toNat * 3)).add 1) (.int .i64 ((rdD p0.m.Actions t1925 z_Action).Move)), .cell (((adr A_p0_m_Actions).add ((t1925).toNat * 3)).add 2) (.int .i64 ((rdD p0.m.Actions t1925 z_Action).Next))] (fun fb => by kernel_rfl) rfl ⟨rowR.adr (hS1929.rd 0).1 h1930.1 h1930.2, rowR.cell (hS1929.rd 0).1 z_Action h1930.1 h1930.2 0 rfl, rowR.cell (hS1929.rd 0).1 z_Action h1930.1 h1930.2 1 rfl, rowR.cell (hS1929.rd 0).1 z_Action h1930.1 h1930.2 2 rfl, trivial⟩ ?_
    refine WL.store hS1929 0 rfl [(0, (.int .i64 ((rdD p0.m.Actions t1925 z_Action).Write))), (1, (.int .i64 ((rdD p0.m.Actions t1925 z_Action).Move))), (2, (.int .i64 ((rdD p0.m.Actions t1925 z_Action).Next)))] #[(.int .i64 ((rdD p0.m.Actions t1925 z_Action).Write)), (.int .i64 ((rdD p0.m.Actions t1925 z_Action).Move)), (.int .i64 ((rdD p0.m.Actions t1925 z_Action).Next))] (fun fb => by kernel_rfl) (by kernel_rfl) rfl [1, 2] (by decide) (by decide) (fun w1931 hS1932 => ?_)
    refine ⟨trivial, ?_⟩
    refine WL.done rfl ?_
    injection hx1894 with hx1894
    exact WX.to Kx1893 (((rdD p0.m.Actions t1925 z_Action).Write, (rdD p0.m.Actions t1925 z_Action).Move, (rdD p0.m.Actions t1925 z_Action).Next), g1921) [0, 3] rfl ⟨(hS1932.subR [0]).sub [1, 2, 0] (by decide), hx1894.symm⟩
  rintro ⟨y1936, g1889⟩ w1933 ⟨hS1934, hq1935⟩
  subst hq1935
  refine WX.next ?_
  refine WC.seq ?_
  refine WC.regionD ([(4, ⟨g_p0, 4, none⟩, (.int .i64 p0.Config.At)), (6, ⟨g1889, 1, none⟩, (.int .i64 x1893.2.1))], [0, 1, 2, 3, 4, 5, 6, 7, 8, 9, 10], [[], [0], [0, 1], [0, 1, 2], [0, 1, 2, 3], [], [5], [5, 6], [0, 1, 2, 3, 4, 5, 6, 7], [0, 1, 2, 3, 4, 5, 6, 7, 8], [0, 1, 2, 3, 4, 5, 6, 7, 8, 9]]) [[0, 1, 2, 3, 4, 5, 6, 7, 8, 9, 10]] (by kernel_rfl) (by kernel_rfl) (NoPanic.seq (NoPanic.body)) ?_
  have hS1938 := hS1934.drew
  revert hS1938
  generalize World.drew w1933 = w1937
  intro hS1938
  refine ⟨⟨hS1938.cell 0 rfl 4 rfl, hS1938.cell 2 rfl 1 rfl, trivial⟩, forallC ?_ (forallN)⟩
  refine segF 11 [.v (.int .i64 p0.Config.At), .v (.int .i64 x1893.2.1)] [0, 3, 4] [(0, (.pointer (some ⟨g_p0, 0, none⟩))), (3, (.pointer (some ⟨g1889, 0, none⟩))), (4, (.int .i64 (w64 ((w64 (p0.Config.At + (w64 (2 * x1893.2.1)))) - 1))))] [] [0, 1] [(4, ⟨g_p0, 4, none⟩, (.int .i64 p0.Config.At)), (6, ⟨g1889, 1, none⟩, (.int .i64 x1893.2.1))] (fun fb => by kernel_rfl) rfl trivial rfl ?_
  refine WL.done rfl ?_
  refine WX.next ?_
  refine WC.seq ?_
  refine WC.block ?_
  refine WC.seq ?_
  refine WC.regionD ([(1, ⟨g1889, 2, none⟩, (.int .i64 x1893.2.2)), (6, ⟨g_p0, 0, none⟩, (.int .i64 p0.m.States))], [0, 1, 2, 3, 4, 5, 6, 7, 8], [[], [0], [], [2], [2, 3], [2, 3, 4], [2, 3, 4, 5], [0, 1, 2, 3, 4, 5, 6], [0, 1, 2, 3, 4, 5, 6, 7]]) [[0, 1, 2, 3, 4, 5, 6, 7, 8]] (by kernel_rfl) (by kernel_rfl) (NoPanic.seq (NoPanic.block (NoPanic.seq (NoPanic.body)))) ?_
  have hS1940 := hS1938.drew
  revert hS1940
  generalize World.drew w1937 = w1939
  intro hS1940
  refine ⟨⟨hS1940.cell 2 rfl 2 rfl, hS1940.cell 0 rfl 0 rfl, trivial⟩, forallC ?_ (forallN)⟩
  refine segF 9 [.v (.int .i64 x1893.2.2), .v (.int .i64 p0.m.States)] [0, 3, 4, 24] [(0, (.pointer (some ⟨g_p0, 0, none⟩))), (3, (.pointer (some ⟨g1889, 0, none⟩))), (4, (.int .i64 (w64 ((w64 (p0.Config.At + (w64 (2 * x1893.2.1)))) - 1)))), (24, (.bool (x1893.2.2 == p0.m.States)))] [] [0, 1] [(1, ⟨g1889, 2, none⟩, (.int .i64 x1893.2.2)), (6, ⟨g_p0, 0, none⟩, (.int .i64 p0.m.States))] (fun fb => by kernel_rfl) rfl trivial rfl ?_
  refine WL.done rfl ?_
  refine WX.next ?_
  rcases br_some hf with ⟨h1941, hf⟩ | ⟨h1941, hf⟩
  · refine WC.condT2 (fun fb => by kernel_rfl) h1941 ?_
    refine WC.seq ?_
    refine WC.region ?_
    refine seg 1 [] [0, 2] [(0, (.pointer (some ⟨g_p0, 0, none⟩))), (2, (.int .i64 5))] [] (fun fb => by kernel_rfl) rfl trivial ?_
    refine WL.done rfl ?_
    refine WX.next ?_
    refine WC.ret ?_
    injection hf with hf
    subst hf
    exact WX.blockR (WX.thenR (WX.ret_ [] (.int .i64 5) [] (fun fb => by kernel_rfl) trivial ⟨_, rfl, A_p0_Config_Cells, c_p0_Config_Cells, rfl, (hS1940.sub [0, 1] (by decide)).noR⟩))
  refine WC.condF2 (fun fb => by kernel_rfl) h1941 ?_
  refine WC.seq ?_
  refine WC.region ?_
  refine seg 3 [] [0, 3, 4, 36] [(0, (.pointer (some ⟨g_p0, 0, none⟩))), (3, (.pointer (some ⟨g1889, 0, none⟩))), (4, (.int .i64 (w64 ((w64 (p0.Config.At + (w64 (2 * x1893.2.1)))) - 1)))), (36, (.bool (decide (w64 ((w64 (p0.Config.At + (w64 (2 * x1893.2.1)))) - 1) < 0))))] [] (fun fb => by kernel_rfl) rfl trivial ?_
  refine WL.cutV (T := Bool) 12 (fun t => [(45, (.bool t)), (0, (.pointer (some ⟨g_p0, 0, none⟩))), (3, (.pointer (some ⟨g1889, 0, none⟩))), (4, (.int .i64 (w64 ((w64 (p0.Config.At + (w64 (2 * x1893.2.1)))) - 1))))]) (fun t => t = ((decide (w64 ((w64 (p0.Config.At + (w64 (2 * x1893.2.1)))) - 1) < 0)) || (decide (w64 ((w64 (p0.Config.At + (w64 (2 * x1893.2.1)))) - 1) ≥ (p0.Config.Cells.length : Int))))) (fun K => ?_) ?_
  ·
    rcases Bool.eq_false_or_eq_true (decide (w64 ((w64 (p0.Config.At + (w64 (2 * x1893.2.1)))) - 1) < 0)) with h1942 | h1942
    ·
      refine WL.setB 36 h1942 rfl ?_
      refine seg 12 [] [0, 3, 4, 45] [(0, (.pointer (some ⟨g_p0, 0, none⟩))), (3, (.pointer (some ⟨g1889, 0, none⟩))), (4, (.int .i64 (w64 ((w64 (p0.Config.At + (w64 (2 * x1893.2.1)))) - 1)))), (45, (.bool true))] [] (fun fb => by kernel_rfl) rfl trivial ?_
      exact WL.toV K true [45, 0, 3, 4] rfl (by rw [h1942]; rfl)
    refine WL.setB 36 h1942 rfl ?_
    refine seg 12 [.v (.slice A_p0_Config_Cells p0.Config.Cells.length c_p0_Config_Cells)] [0, 3, 4, 45] [(0, (.pointer (some ⟨g_p0, 0, none⟩))), (3, (.pointer (some ⟨g1889, 0, none⟩))), (4, (.int .i64 (w64 ((w64 (p0.Config.At + (w64 (2 * x1893.2.1)))) - 1)))), (45, (.bool (decide (w64 ((w64 (p0.Config.At + (w64 (2 * x1893.2.1)))) - 1) ≥ (p0.Config.Cells.length : Int)))))] [.cell ⟨g_p0, 5, none⟩ (.slice A_p0_Config_Cells p0.Config.Cells.length c_p0_Config_Cells)] (fun fb => by kernel_rfl) rfl ⟨hS1940.cell 0 rfl 5 rfl, trivial⟩ ?_
    exact WL.toV K (decide (w64 ((w64 (p0.Config.At + (w64 (2 * x1893.2.1)))) - 1) ≥ (p0.Config.Cells.length : Int))) [45, 0, 3, 4] rfl (by rw [h1942]; rfl)
  rintro b1943 rfl
  refine seg 13 [] [0, 3, 4, 33] [(0, (.pointer (some ⟨g_p0, 0, none⟩))), (3, (.pointer (some ⟨g1889, 0, none⟩))), (4, (.int .i64 (w64 ((w64 (p0.Config.At + (w64 (2 * x1893.2.1)))) - 1)))), (33, (.bool ((decide (w64 ((w64 (p0.Config.At + (w64 (2 * x1893.2.1)))) - 1) < 0)) || (decide (w64 ((w64 (p0.Config.At + (w64 (2 * x1893.2.1)))) - 1) ≥ (p0.Config.Cells.length : Int))))))] [] (fun fb => by kernel_rfl) rfl trivial ?_
  refine WL.done rfl ?_
  refine WX.next ?_
  rcases br_some hf with ⟨h1944, hf⟩ | ⟨h1944, hf⟩
  · refine WC.condT2 (fun fb => by kernel_rfl) h1944 ?_
    refine WC.seq ?_
    refine WC.region ?_
    refine seg 1 [] [0, 2] [(0, (.pointer (some ⟨g_p0, 0, none⟩))), (2, (.int .i64 6))] [] (fun fb => by kernel_rfl) rfl trivial ?_
    refine WL.done rfl ?_
    refine WX.next ?_
    refine WC.ret ?_
    injection hf with hf
    subst hf
    exact WX.blockR (WX.thenR (WX.ret_ [] (.int .i64 6) [] (fun fb => by kernel_rfl) trivial ⟨_, rfl, A_p0_Config_Cells, c_p0_Config_Cells, rfl, (hS1940.sub [0, 1] (by decide)).noR⟩))
  refine WC.condF2 (fun fb => by kernel_rfl) h1944 ?_
  refine WC.skip ?_
  refine WX.blockN (WX.next ?_)
  refine WC.seq ?_
  obtain ⟨h1952, hf⟩ := as_some hf
  refine WC.regionD ([(4, ⟨g_p0, 5, none⟩, (.slice A_p0_Config_Cells p0.Config.Cells.length c_p0_Config_Cells)), (9, ⟨g_p0, 4, none⟩, (.int .i64 p0.Config.At)), (11, ⟨g1889, 0, none⟩, (.int .i64 x1893.1))], [0, 1, 2, 3, 4, 5, 6, 7, 8, 9, 10, 11, 12], [[], [0], [0, 1], [0, 1, 2], [0, 1, 2, 3], [], [5], [5, 6], [5, 6, 7], [5, 6, 7, 8], [], [10], [0, 1, 2, 3, 4, 5, 6, 7, 8, 9, 10, 11], [0, 1, 2, 3, 4, 5, 6, 7, 8, 9, 10, 11, 12]]) [[0, 1, 2, 3, 4, 5, 6, 7, 8, 9, 10, 11, 12, 13]] (by kernel_rfl) (by kernel_rfl) (NoPanic.seq (NoPanic.body)) ?_
  have hS1950 := hS1940.drew
  revert hS1950
  generalize World.drew w1939 = w1949
  intro hS1950
  refine ⟨⟨hS1950.cell 0 rfl 5 rfl, hS1950.cell 0 rfl 4 rfl, hS1950.cell 2 rfl 0 rfl, trivial⟩, forallC ?_ (forallN)⟩
  refine segF 13 [.v (.slice A_p0_Config_Cells p0.Config.Cells.length c_p0_Config_Cells), .v (.int .i64 p0.Config.At), .v (.int .i64 x1893.1)] [0, 3, 4, 57, 58] [(0, (.pointer (some ⟨g_p0, 0, none⟩))), (3, (.pointer (some ⟨g1889, 0, none⟩))), (4, (.int .i64 (w64 ((w64 (p0.Config.At + (w64 (2 * x1893.2.1)))) - 1)))), (57, (.int .i64 x1893.1)), (58, (.pointer (some ((adr A_p0_Config_Cells).add ((p0.Config.At).toNat * 1)))))] [.idx A_p0_Config_Cells p0.Config.At p0.Config.Cells.length] [0, 1, 2] [(4, ⟨g_p0, 5, none⟩, (.slice A_p0_Config_Cells p0.Config.Cells.length c_p0_Config_Cells)), (9, ⟨g_p0, 4, none⟩, (.int .i64 p0.Config.At)), (11, ⟨g1889, 0, none⟩, (.int .i64 x1893.1))] (fun fb => by kernel_rfl) rfl ⟨rowR.adr (rowO.rd (hS1950.own 1).1) h1952.1 h1952.2, trivial⟩ rfl ?_
  refine WL.storeRow hS1950 1 rfl (p0.Config.At) (x1893.1) (0) [(0, (.int .i64 x1893.1))] (fun fb => by kernel_rfl) h1952.1 h1952.2 (by kernel_rfl) rfl [0, 2] (by decide) (by decide) (fun w1953 hS1954 => ?_)
  refine ⟨trivial, ?_⟩
  have hS1955 : St (fpL [blk g_p0 (.cells #[(.int .i64 p0.m.States), (.int .i64 p0.m.Symbols), (.slice A_p0_m_Actions p0.m.Actions.length c_p0_m_Actions), (.int .i64 p0.Config.State), (.int .i64 p0.Config.At), (.slice A_p0_Config_Cells p0.Config.Cells.length c_p0_Config_Cells)] 82 (0, 0)), rowO 3 encInt A_p0_Config_Cells c_p0_Config_Cells p0.Config.Cells]) w w1953 [rowR enc_Action A_p0_m_Actions c_p0_m_Actions p0.m.Actions] [rowO 3 encInt A_p0_Config_Cells c_p0_Config_Cells (p0.Config.Cells.set (p0.Config.At).toNat x1893.1), blk g_p0 (.cells #[(.int .i64 p0.m.States), (.int .i64 p0.m.Symbols), (.slice A_p0_m_Actions p0.m.Actions.length c_p0_m_Actions), (.int .i64 p0.Config.State), (.int .i64 p0.Config.At), (.slice A_p0_Config_Cells (p0.Config.Cells.set (p0.Config.At).toNat x1893.1).length c_p0_Config_Cells)] 82 (0, 0)), blk g1889 (.cells #[(.int .i64 x1893.1), (.int .i64 x1893.2.1), (.int .i64 x1893.2.2)] 88 (0, 0))] := by simpa only [List.length_set] using (show St (fpL [blk g_p0 (.cells #[(.int .i64 p0.m.States), (.int .i64 p0.m.Symbols), (.slice A_p0_m_Actions p0.m.Actions.length c_p0_m_Actions), (.int .i64 p0.Config.State), (.int .i64 p0.Config.At), (.slice A_p0_Config_Cells p0.Config.Cells.length c_p0_Config_Cells)] 82 (0, 0)), rowO 3 encInt A_p0_Config_Cells c_p0_Config_Cells p0.Config.Cells]) w w1953 [rowR enc_Action A_p0_m_Actions c_p0_m_Actions p0.m.Actions] [rowO 3 encInt A_p0_Config_Cells c_p0_Config_Cells (p0.Config.Cells.set (p0.Config.At).toNat x1893.1), blk g_p0 (.cells #[(.int .i64 p0.m.States), (.int .i64 p0.m.Symbols), (.slice A_p0_m_Actions p0.m.Actions.length c_p0_m_Actions), (.int .i64 p0.Config.State), (.int .i64 p0.Config.At), (.slice A_p0_Config_Cells p0.Config.Cells.length c_p0_Config_Cells)] 82 (0, 0)), blk g1889 (.cells #[(.int .i64 x1893.1), (.int .i64 x1893.2.1), (.int .i64 x1893.2.2)] 88 (0, 0))] from hS1954)
  refine WL.done rfl ?_
  refine WX.next ?_
  refine WC.seq ?_
  refine WC.regionD ([(4, ⟨g1889, 2, none⟩, (.int .i64 x1893.2.2))], [0, 1, 2, 3, 4, 5, 6, 7, 9, 10, 11], [[], [], [], [], [3], [0, 2], [0, 2, 5], [0, 2, 5, 6], [0, 2, 5, 6, 7], [0, 1, 2, 3, 4, 5, 6, 7, 8], [0, 1, 2, 3, 4, 5, 6, 7, 8, 9], [0, 1, 2, 3, 4, 5, 6, 7, 8, 9, 10], [0, 1, 2, 3, 4, 5, 6, 7, 8, 9, 10, 11]]) [[0, 1, 2, 3, 4, 5, 6, 7, 8, 9, 10, 11, 12]] (by kernel_rfl) (by kernel_rfl) (NoPanic.seq (NoPanic.body)) ?_
  have hS1961 := hS1955.drew
  revert hS1961
  generalize World.drew w1953 = w1960
  intro hS1961
  refine ⟨⟨hS1961.cell 2 rfl 2 rfl, trivial⟩, forallC ?_ (forallN)⟩
  refine segF 8 [.v (.int .i64 x1893.2.2)] [0, 60, 61, 63, 66] [(0, (.pointer (some ⟨g_p0, 0, none⟩))), (60, (.pointer (some ⟨g_p0, 0, none⟩))), (61, (.int .i64 (w64 ((w64 (p0.Config.At + (w64 (2 * x1893.2.1)))) - 1)))), (63, (.int .i64 x1893.2.2)), (66, (.pointer (some ⟨g_p0, 4, none⟩)))] [] [0] [(4, ⟨g1889, 2, none⟩, (.int .i64 x1893.2.2))] (fun fb => by kernel_rfl) rfl trivial rfl ?_
  refine WL.store hS1961 1 rfl [(4, (.int .i64 (w64 ((w64 (p0.Config.At + (w64 (2 * x1893.2.1)))) - 1))))] #[(.int .i64 p0.m.States), (.int .i64 p0.m.Symbols), (.slice A_p0_m_Actions p0.m.Actions.length c_p0_m_Actions), (.int .i64 p0.Config.State), (.int .i64 (w64 ((w64 (p0.Config.At + (w64 (2 * x1893.2.1)))) - 1))), (.slice A_p0_Config_Cells (p0.Config.Cells.set (p0.Config.At).toNat x1893.1).length c_p0_Config_Cells)] (fun fb => by kernel_rfl) (by kernel_rfl) rfl [0, 2] (by decide) (by decide) (fun w1962 hS1963 => ?_)
  refine ⟨⟨hS1963.cell 2 rfl 2 rfl, trivial⟩, ?_⟩
  refine seg 12 [] [0, 63, 69] [(0, (.pointer (some ⟨g_p0, 0, none⟩))), (63, (.int .i64 x1893.2.2)), (69, (.pointer (some ⟨g_p0, 3, none⟩)))] [] (fun fb => by kernel_rfl) rfl trivial ?_
  refine WL.store hS1963 0 rfl [(3, (.int .i64 x1893.2.2))] #[(.int .i64 p0.m.States), (.int .i64 p0.m.Symbols), (.slice A_p0_m_Actions p0.m.Actions.length c_p0_m_Actions), (.int .i64 x1893.2.2), (.int .i64 (w64 ((w64 (p0.Config.At + (w64 (2 * x1893.2.1)))) - 1))), (.slice A_p0_Config_Cells (p0.Config.Cells.set (p0.Config.At).toNat x1893.1).length c_p0_Config_Cells)] (fun fb => by kernel_rfl) (by kernel_rfl) rfl [1, 2] (by decide) (by decide) (fun w1964 hS1965 => ?_)
  refine ⟨trivial, ?_⟩
  refine WL.done rfl ?_
  refine WX.next ?_
  refine WC.seq ?_
  refine WC.region ?_
  refine seg 1 [] [0, 2] [(0, (.pointer (some ⟨g_p0, 0, none⟩))), (2, (.int .i64 0))] [] (fun fb => by kernel_rfl) rfl trivial ?_
  refine WL.done rfl ?_
  refine WX.next ?_
  refine WC.ret ?_
  injection hf with hf
  subst hf
  exact WX.ret_ [] (.int .i64 0) [] (fun fb => by kernel_rfl) trivial ⟨_, rfl, A_p0_Config_Cells, c_p0_Config_Cells, rfl, (hS1965.sub [0, 1] (by decide)).noR⟩
theorem machine_kit_row_calls (k : Nat) (p0 : Kit) (p1 : Runner) (g_p0 : Nat) (A_p0_m_Actions : Option Addr) (c_p0_m_Actions : Nat) (A_p0_set : Option Addr) (c_p0_set : Nat) (A_p0_does : Option Addr) (c_p0_does : Nat) (g_p1 : Nat) (A_p1_m_Actions : Option Addr) (c_p1_m_Actions : Nat) (A_p1_Config_Cells : Option Addr) (c_p1_Config_Cells : Nat) (r : (List Int)) (w : World) (hR0 : RO NoS w (blk g_p0 (.cells #[(.int .i64 p0.m.States), (.int .i64 p0.m.Symbols), (.slice A_p0_m_Actions p0.m.Actions.length c_p0_m_Actions), (.slice A_p0_set p0.set.length c_p0_set), (.slice A_p0_does p0.does.length c_p0_does), (.int .i64 p0.base)] 96 (0, 0)))) (hR1 : RO NoS w (rowR enc_Action A_p0_m_Actions c_p0_m_Actions p0.m.Actions)) (hR2 : RO NoS w (rowR enc_Tile A_p0_set c_p0_set p0.set)) (hR3 : RO NoS w (rowR encInt A_p0_does c_p0_does p0.does)) (hR4 : RO NoS w (blk g_p1 (.cells #[(.int .i64 p1.m.States), (.int .i64 p1.m.Symbols), (.slice A_p1_m_Actions p1.m.Actions.length c_p1_m_Actions), (.int .i64 p1.Config.State), (.int .i64 p1.Config.At), (.slice A_p1_Config_Cells p1.Config.Cells.length c_p1_Config_Cells)] 82 (0, 0)))) (hR5 : RO NoS w (rowR enc_Action A_p1_m_Actions c_p1_m_Actions p1.m.Actions)) (hR6 : RO NoS w (rowR encInt A_p1_Config_Cells c_p1_Config_Cells p1.Config.Cells)) (hf : machine_kit_row k p0 p1 = some r) :
    CallsR Try.prog 44 #[(.pointer (some ⟨g_p0, 0, none⟩)), (.pointer (some ⟨g_p1, 0, none⟩))] w (fun v w' => ∃ (A1_ : Option Addr), ∃ (c1_ : Nat), v = (.slice A1_ r.length c1_) ∧ St NoS w w' [] [rowO 3 encInt A1_ c1_ r]) := by
  have hS : St NoS w w [blk g_p0 (.cells #[(.int .i64 p0.m.States), (.int .i64 p0.m.Symbols), (.slice A_p0_m_Actions p0.m.Actions.length c_p0_m_Actions), (.slice A_p0_set p0.set.length c_p0_set), (.slice A_p0_does p0.does.length c_p0_does), (.int .i64 p0.base)] 96 (0, 0)), rowR enc_Action A_p0_m_Actions c_p0_m_Actions p0.m.Actions, rowR enc_Tile A_p0_set c_p0_set p0.set, rowR encInt A_p0_does c_p0_does p0.does, blk g_p1 (.cells #[(.int .i64 p1.m.States), (.int .i64 p1.m.Symbols), (.slice A_p1_m_Actions p1.m.Actions.length c_p1_m_Actions), (.int .i64 p1.Config.State), (.int .i64 p1.Config.At), (.slice A_p1_Config_Cells p1.Config.Cells.length c_p1_Config_Cells)] 82 (0, 0)), rowR enc_Action A_p1_m_Actions c_p1_m_Actions p1.m.Actions, rowR encInt A_p1_Config_Cells c_p1_Config_Cells p1.Config.Cells] [] := St.init (ro_cons hR0 (ro_cons hR1 (ro_cons hR2 (ro_cons hR3 (ro_cons hR4 (ro_cons hR5 (ro_cons hR6 (ro_nil _ _))))))))
  refine enter 87 Try.func44 rfl Try.ntmps44 rfl ?_
  unfold machine_kit_row at hf
  refine WC.seq ?_
  refine WC.region ?_
  refine seg 1 [] [0, 1] [(0, (.pointer (some ⟨g_p0, 0, none⟩))), (1, (.pointer (some ⟨g_p1, 0, none⟩)))] [] (fun fb => by kernel_rfl) rfl trivial ?_
  refine WL.done rfl ?_
  refine WX.next ?_
  refine WC.seq ?_
  refine WC.region ?_
  refine seg 1 [] [0, 1, 5] [(0, (.pointer (some ⟨g_p0, 0, none⟩))), (1, (.pointer (some ⟨g_p1, 0, none⟩))), (5, (.slice none 0 0))] [] (fun fb => by kernel_rfl) rfl trivial ?_
  refine WL.done rfl ?_
  refine WX.next ?_
  refine WC.seq ?_
  obtain ⟨x2031, hx2032, hf⟩ := bind_some hf
  refine WC.cutN (T := (Int × Int × Int) × Nat) (fun t => [(0, (.pointer (some ⟨g_p0, 0, none⟩))), (1, (.pointer (some ⟨g_p1, 0, none⟩))), (5, (.slice none 0 0)), (6, (.pointer (some ⟨t.2, 0, none⟩)))]) (fun t w1 => St NoS w w1 [blk g_p0 (.cells #[(.int .i64 p0.m.States), (.int .i64 p0.m.Symbols), (.slice A_p0_m_Actions p0.m.Actions.length c_p0_m_Actions), (.slice A_p0_set p0.set.length c_p0_set), (.slice A_p0_does p0.does.length c_p0_does), (.int .i64 p0.base)] 96 (0, 0)), rowR enc_Action A_p0_m_Actions c_p0_m_Actions p0.m.Actions, rowR enc_Tile A_p0_set c_p0_set p0.set, rowR encInt A_p0_does c_p0_does p0.does, blk g_p1 (.cells #[(.int .i64 p1.m.States), (.int .i64 p1.m.Symbols), (.slice A_p1_m_Actions p1.m.Actions.length c_p1_m_Actions), (.int .i64 p1.Config.State), (.int .i64 p1.Config.At), (.slice A_p1_Config_Cells p1.Config.Cells.length c_p1_Config_Cells)] 82 (0, 0)), rowR enc_Action A_p1_m_Actions c_p1_m_Actions p1.m.Actions, rowR encInt A_p1_Config_Cells c_p1_Config_Cells p1.Config.Cells] [blk t.2 (.cells #[(.int .i64 t.1.1), (.int .i64 t.1.2.1), (.int .i64 t.1.2.2)] 88 (0, 0))] ∧ x2031 = t.1) (fun Kx2031 => ?_) ?_
  ·
    refine WC.regionD ([(4, ⟨g_p1, 2, none⟩, (.slice A_p1_m_Actions p1.m.Actions.length c_p1_m_Actions))], [0, 1, 2, 3, 4, 5, 7], [[], [0], [0, 1], [0, 1, 2], [0, 1, 2, 3], [], [5], [0, 1, 2, 3, 4, 5, 6], [0, 1, 2, 3, 4, 5, 6, 7], [], [0, 1, 2, 3, 4, 5, 6, 7, 8, 9]]) [[0, 1, 2, 3, 4, 5, 6, 7, 8, 9, 10], [0, 1, 2, 3, 4, 5, 6, 7, 9, 8, 10], [0, 1, 2, 3, 4, 5, 9, 6, 7, 8, 10]] (by kernel_rfl) (by kernel_rfl) (NoPanic.seq (NoPanic.body)) ?_
    have hS2034 := hS.drew
    revert hS2034
    generalize World.drew w = w2033
    intro hS2034
    refine ⟨⟨blk_cell (hS2034.rd 4).1 2 rfl, trivial⟩, forallC ?_ (forallC ?_ (forallC ?_ (forallN)))⟩
    ·
      refine segF 6 [.v (.slice A_p1_m_Actions p1.m.Actions.length c_p1_m_Actions)] [0, 1, 5, 15, 16] [(0, (.pointer (some ⟨g_p0, 0, none⟩))), (1, (.pointer (some ⟨g_p1, 0, none⟩))), (5, (.slice none 0 0)), (15, (.slice A_p1_m_Actions p1.m.Actions.length c_p1_m_Actions)), (16, (.pointer (some ⟨g_p1, 0, none⟩)))] [] [0] [(4, ⟨g_p1, 2, none⟩, (.slice A_p1_m_Actions p1.m.Actions.length c_p1_m_Actions))] (fun fb => by kernel_rfl) rfl trivial rfl ?_
      obtain ⟨t2035, ht2036, hx2032⟩ := bind_some hx2032
      refine WL.call (some 17) 63 #[(.pointer (some ⟨g_p1, 0, none⟩))] (fun fb => by kernel_rfl) (machine_runner_does_calls p1 g_p1 A_p1_m_Actions c_p1_m_Actions A_p1_Config_Cells c_p1_Config_Cells t2035 _ (hS2034.rd 4) (hS2034.rd 5) (hS2034.rd 6) ht2036) (fun v w2037 hR2038 => ?_)
      obtain ⟨rfl, hk_⟩ := hR2038
      have hS2039 := hS2034.keepN hk_
      refine ⟨⟨blk_cell (hS2039.rd 4).1 2 rfl, trivial⟩, ?_⟩
      obtain ⟨h2040, hx2032⟩ := as_some hx2032
      refine seg 9 [.v (.int .i64 ((rdD p1.m.Actions t2035 z_Action).Write)), .v (.int .i64 ((rdD p1.m.Actions t2035 z_Action).Move)), .v (.int .i64 ((rdD p1.m.Actions t2035 z_Action).Next))] [0, 1, 5, 19] [(0, (.pointer (some ⟨g_p0, 0, none⟩))), (1, (.pointer (some ⟨g_p1, 0, none⟩))), (5, (.slice none 0 0)), (19, (.agg #[(.int .i64 ((rdD p1.m.Actions t2035 z_Action).Write)), (.int .i64 ((rdD p1.m.Actions t2035 z_Action).Move)), (.int .i64 ((rdD p1.m.Actions t2035 z_Action).Next))]))] [.idx A_p1_m_Actions t2035 p1.m.Actions.length, .cell ((adr A_p1_m_Actions).add ((t2035).toNat * 3)) (.int .i64 ((rdD p1.m.Actions t2035 z_Action).Write)), .cell (((adr A_p1_m_Actions).add ((t2035).toNat * 3)).add 1) (.int .i64 ((rdD p1.m.Actions t2035 z_Action).Move)), .cell (((adr A_p1_m_Actions).add ((t2035).toNat * 3)).add 2) (.int .i64 ((rdD p1.m.Actions t2035 z_Action).Next))] (fun fb => by kernel_rfl) rfl ⟨rowR.adr (hS2039.rd 5).1 h2040.1 h2040.2, rowR.cell (hS2039.rd 5).1 z_Action h2040.1 h2040.2 0 rfl, rowR.cell (hS2039.rd 5).1 z_Action h2040.1 h2040.2 1 rfl, rowR.cell (hS2039.rd 5).1 z_Action h2040.1 h2040.2 2 rfl, trivial⟩ ?_
      refine WL.new hS2039 6 [] (fun g => (.pointer (some ⟨g, 0, none⟩))) (.cells #[(.int .i64 0), (.int .i64 0), (.int .i64 0)] 88 (0, 0)) [] (fun fb g => by kernel_rfl) trivial (fun g2041 w2042 hS2043 => ?_)
      refine ⟨⟨blk_cell (hS2043.rd 4).1 2 rfl, trivial⟩, ?_⟩
      refine WL.store hS2043 0 rfl [(0, (.int .i64 ((rdD p1.m.Actions t2035 z_Action).Write))), (1, (.int .i64 ((rdD p1.m.Actions t2035 z_Action).Move))), (2, (.int .i64 ((rdD p1.m.Actions t2035 z_Action).Next)))] #[(.int .i64 ((rdD p1.m.Actions t2035 z_Action).Write)), (.int .i64 ((rdD p1.m.Actions t2035 z_Action).Move)), (.int .i64 ((rdD p1.m.Actions t2035 z_Action).Next))] (fun fb => by kernel_rfl) (by kernel_rfl) rfl [] (by decide) (by decide) (fun w2045 hS2046 => ?_)
      refine ⟨trivial, ?_⟩
      refine WL.done rfl ?_
      injection hx2032 with hx2032
      exact WX.to Kx2031 (((rdD p1.m.Actions t2035 z_Action).Write, (rdD p1.m.Actions t2035 z_Action).Move, (rdD p1.m.Actions t2035 z_Action).Next), g2041) [0, 1, 5, 6] rfl ⟨(hS2046.subR [0, 1, 2, 3, 4, 5, 6]).sub [0] (by decide), hx2032.symm⟩
    ·
      refine segF 6 [.v (.slice A_p1_m_Actions p1.m.Actions.length c_p1_m_Actions)] [0, 1, 5, 15, 16] [(0, (.pointer (some ⟨g_p0, 0, none⟩))), (1, (.pointer (some ⟨g_p1, 0, none⟩))), (5, (.slice none 0 0)), (15, (.slice A_p1_m_Actions p1.m.Actions.length c_p1_m_Actions)), (16, (.pointer (some ⟨g_p1, 0, none⟩)))] [] [0] [(4, ⟨g_p1, 2, none⟩, (.slice A_p1_m_Actions p1.m.Actions.length c_p1_m_Actions))] (fun fb => by kernel_rfl) rfl trivial rfl ?_
      obtain ⟨t2047, ht2048, hx2032⟩ := bind_some hx2032
      refine WL.call (some 17) 63 #[(.pointer (some ⟨g_p1, 0, none⟩))] (fun fb => by kernel_rfl) (machine_runner_does_calls p1 g_p1 A_p1_m_Actions c_p1_m_Actions A_p1_Config_Cells c_p1_Config_Cells t2047 _ (hS2034.rd 4) (hS2034.rd 5) (hS2034.rd 6) ht2048) (fun v w2049 hR2050 => ?_)
      obtain ⟨rfl, hk_⟩ := hR2050
      have hS2051 := hS2034.keepN hk_
      refine ⟨⟨blk_cell (hS2051.rd 4).1 2 rfl, trivial⟩, ?_⟩
      obtain ⟨h2052, hx2032⟩ := as_some hx2032
      refine seg 8 [] [0, 1, 5, 18] [(0, (.pointer (some ⟨g_p0, 0, none⟩))), (1, (.pointer (some ⟨g_p1, 0, none⟩))), (5, (.slice none 0 0)), (18, (.pointer (some ((adr A_p1_m_Actions).add ((t2047).toNat * 3)))))] [.idx A_p1_m_Actions t2047 p1.m.Actions.length] (fun fb => by kernel_rfl) rfl ⟨rowR.adr (hS2051.rd 5).1 h2052.1 h2052.2, trivial⟩ ?_
      refine WL.new hS2051 6 [] (fun g => (.pointer (some ⟨g, 0, none⟩))) (.cells #[(.int .i64 0), (.int .i64 0), (.int .i64 0)] 88 (0, 0)) [] (fun fb g => by kernel_rfl) trivial (fun g2053 w2054 hS2055 => ?_)
      refine ⟨⟨blk_cell (hS2055.rd 4).1 2 rfl, trivial⟩, ?_⟩
      refine seg 10 [.v (.int .i64 ((rdD p1.m.Actions t2047 z_Action).Write)), .v (.int .i64 ((rdD p1.m.Actions t2047 z_Action).Move)), .v (.int .i64 ((rdD p1.m.Actions t2047 z_Action).Next))] [0, 1, 5, 6, 19] [(0, (.pointer (some ⟨g_p0, 0, none⟩))), (1, (.pointer (some ⟨g_p1, 0, none⟩))), (5, (.slice none 0 0)), (6, (.pointer (some ⟨g2053, 0, none⟩))), (19, (.agg #[(.int .i64 ((rdD p1.m.Actions t2047 z_Action).Write)), (.int .i64 ((rdD p1.m.Actions t2047 z_Action).Move)), (.int .i64 ((rdD p1.m.Actions t2047 z_Action).Next))]))] [.cell ((adr A_p1_m_Actions).add ((t2047).toNat * 3)) (.int .i64 ((rdD p1.m.Actions t2047 z_Action).Write)), .cell (((adr A_p1_m_Actions).add ((t2047).toNat * 3)).add 1) (.int .i64 ((rdD p1.m.Actions t2047 z_Action).Move)), .cell (((adr A_p1_m_Actions).add ((t2047).toNat * 3)).add 2) (.int .i64 ((rdD p1.m.Actions t2047 z_Action).Next))] (fun fb => by kernel_rfl) rfl ⟨rowR.cell (hS2055.rd 5).1 z_Action h2052.1 h2052.2 0 rfl, rowR.cell (hS2055.rd 5).1 z_Action h2052.1 h2052.2 1 rfl, rowR.cell (hS2055.rd 5).1 z_Action h2052.1 h2052.2 2 rfl, trivial⟩ ?_
      refine WL.store hS2055 0 rfl [(0, (.int .i64 ((rdD p1.m.Actions t2047 z_Action).Write))), (1, (.int .i64 ((rdD p1.m.Actions t2047 z_Action).Move))), (2, (.int .i64 ((rdD p1.m.Actions t2047 z_Action).Next)))] #[(.int .i64 ((rdD p1.m.Actions t2047 z_Action).Write)), (.int .i64 ((rdD p1.m.Actions t2047 z_Action).Move)), (.int .i64 ((rdD p1.m.Actions t2047 z_Action).Next))] (fun fb => by kernel_rfl) (by kernel_rfl) rfl [] (by decide) (by decide) (fun w2057 hS2058 => ?_)
      refine ⟨trivial, ?_⟩
      refine WL.done rfl ?_
      injection hx2032 with hx2032
      exact WX.to Kx2031 (((rdD p1.m.Actions t2047 z_Action).Write, (rdD p1.m.Actions t2047 z_Action).Move, (rdD p1.m.Actions t2047 z_Action).Next), g2053) [0, 1, 5, 6] rfl ⟨(hS2058.subR [0, 1, 2, 3, 4, 5, 6]).sub [0] (by decide), hx2032.symm⟩
    refine segF 6 [.v (.slice A_p1_m_Actions p1.m.Actions.length c_p1_m_Actions)] [0, 1, 5, 15, 16] [(0, (.pointer (some ⟨g_p0, 0, none⟩))), (1, (.pointer (some ⟨g_p1, 0, none⟩))), (5, (.slice none 0 0)), (15, (.slice A_p1_m_Actions p1.m.Actions.length c_p1_m_Actions)), (16, (.pointer (some ⟨g_p1, 0, none⟩)))] [] [0] [(4, ⟨g_p1, 2, none⟩, (.slice A_p1_m_Actions p1.m.Actions.length c_p1_m_Actions))] (fun fb => by kernel_rfl) rfl trivial rfl ?_
    refine WL.new hS2034 6 [] (fun g => (.pointer (some ⟨g, 0, none⟩))) (.cells #[(.int .i64 0), (.int .i64 0), (.int .i64 0)] 88 (0, 0)) [] (fun fb g => by kernel_rfl) trivial (fun g2059 w2060 hS2061 => ?_)
    refine ⟨⟨blk_cell (hS2061.rd 4).1 2 rfl, trivial⟩, ?_⟩
    obtain ⟨t2063, ht2064, hx2032⟩ := bind_some hx2032
    refine WL.call (some 17) 63 #[(.pointer (some ⟨g_p1, 0, none⟩))] (fun fb => by kernel_rfl) (machine_runner_does_calls p1 g_p1 A_p1_m_Actions c_p1_m_Actions A_p1_Config_Cells c_p1_Config_Cells t2063 _ (hS2061.rd 4) (hS2061.rd 5) (hS2061.rd 6) ht2064) (fun v w2065 hR2066 => ?_)
    obtain ⟨rfl, hk_⟩ := hR2066
    have hS2067 := hS2061.keepN hk_
    refine ⟨⟨blk_cell (hS2067.rd 4).1 2 rfl, trivial⟩, ?_⟩
    obtain ⟨h2068, hx2032⟩ := as_some hx2032
    refine seg 10 [.v (.int .i64 ((rdD p1.m.Actions t2063 z_Action).Write)), .v (.int .i64 ((rdD p1.m.Actions t2063 z_Action).Move)), .v (.int .i64 ((rdD p1.m.Actions t2063 z_Action).Next))] [0, 1, 5, 6, 19] [(0, (.pointer (some ⟨g_p0, 0, none⟩))), (1, (.pointer (some ⟨g_p1, 0, none⟩))), (5, (.slice none 0 0)), (6, (.pointer (some ⟨g2059, 0, none⟩))), (19, (.agg #[(.int .i64 ((rdD p1.m.Actions t2063 z_Action).Write)), (.int .i64 ((rdD p1.m.Actions t2063 z_Action).Move)), (.int .i64 ((rdD p1.m.Actions t2063 z_Action).Next))]))] [.idx A_p1_m_Actions t2063 p1.m.Actions.length, .cell ((adr A_p1_m_Actions).add ((t2063).toNat * 3)) (.int .i64 ((rdD p1.m.Actions t2063 z_Action).Write)), .cell (((adr A_p1_m_Actions).add ((t2063).toNat * 3)).add 1) (.int .i64 ((rdD p1.m.Actions t2063 z_Action).Move)), .cell (((adr A_p1_m_Actions).add ((t2063).toNat * 3)).add 2) (.int .i64 ((rdD p1.m.Actions t2063 z_Action).Next))] (fun fb => by kernel_rfl) rfl ⟨rowR.adr (hS2067.rd 5).1 h2068.1 h2068.2, rowR.cell (hS2067.rd 5).1 z_Action h2068.1 h2068.2 0 rfl, rowR.cell (hS2067.rd 5).1 z_Action h2068.1 h2068.2 1 rfl, rowR.cell (hS2067.rd 5).1 z_Action h2068.1 h2068.2 2 rfl, trivial⟩ ?_
    refine WL.store hS2067 0 rfl [(0, (.int .i64 ((rdD p1.m.Actions t2063 z_Action).Write))), (1, (.int .i64 ((rdD p1.m.Actions t2063 z_Action).Move))), (2, (.int .i64 ((rdD p1.m.Actions t2063 z_Action).Next)))] #[(.int .i64 ((rdD p1.m.Actions t2063 z_Action).Write)), (.int .i64 ((rdD p1.m.Actions t2063 z_Action).Move)), (.int .i64 ((rdD p1.m.Actions t2063 z_Action).Next))] (fun fb => by kernel_rfl) (by kernel_rfl) rfl [] (by decide) (by decide) (fun w2069 hS2070 => ?_)
    refine ⟨trivial, ?_⟩
    refine WL.done rfl ?_
    injection hx2032 with hx2032
    exact WX.to Kx2031 (((rdD p1.m.Actions t2063 z_Action).Write, (rdD p1.m.Actions t2063 z_Action).Move, (rdD p1.m.Actions t2063 z_Action).Next), g2059) [0, 1, 5, 6] rfl ⟨(hS2070.subR [0, 1, 2, 3, 4, 5, 6]).sub [0] (by decide), hx2032.symm⟩
  rintro ⟨y2074, g2027⟩ w2071 ⟨hS2072, hq2073⟩
  subst hq2073
  refine WX.next ?_
  refine WC.seq ?_
  refine WC.regionD ([(4, ⟨g_p1, 4, none⟩, (.int .i64 p1.Config.At)), (6, ⟨g2027, 1, none⟩, (.int .i64 x2031.2.1))], [0, 1, 2, 3, 4, 5, 6, 7, 8, 9, 10], [[], [0], [0, 1], [0, 1, 2], [0, 1, 2, 3], [], [5], [5, 6], [0, 1, 2, 3, 4, 5, 6, 7], [0, 1, 2, 3, 4, 5, 6, 7, 8], [0, 1, 2, 3, 4, 5, 6, 7, 8, 9]]) [[0, 1, 2, 3, 4, 5, 6, 7, 8, 9, 10]] (by kernel_rfl) (by kernel_rfl) (NoPanic.seq (NoPanic.body)) ?_
  have hS2076 := hS2072.drew
  revert hS2076
  generalize World.drew w2071 = w2075
  intro hS2076
  refine ⟨⟨blk_cell (hS2076.rd 4).1 4 rfl, hS2076.cell 0 rfl 1 rfl, trivial⟩, forallC ?_ (forallN)⟩
  refine segF 11 [.v (.int .i64 p1.Config.At), .v (.int .i64 x2031.2.1)] [0, 1, 5, 6, 7] [(0, (.pointer (some ⟨g_p0, 0, none⟩))), (1, (.pointer (some ⟨g_p1, 0, none⟩))), (5, (.slice none 0 0)), (6, (.pointer (some ⟨g2027, 0, none⟩))), (7, (.int .i64 (w64 ((w64 (p1.Config.At + (w64 (2 * x2031.2.1)))) - 1))))] [] [0, 1] [(4, ⟨g_p1, 4, none⟩, (.int .i64 p1.Config.At)), (6, ⟨g2027, 1, none⟩, (.int .i64 x2031.2.1))] (fun fb => by kernel_rfl) rfl trivial rfl ?_
  refine WL.done rfl ?_
  refine WX.next ?_
  refine WC.seq ?_
  refine WC.seq ?_
  refine WC.region ?_
  refine seg 7 [.v (.slice A_p1_Config_Cells p1.Config.Cells.length c_p1_Config_Cells)] [0, 1, 5, 6, 7, 34, 35, 36] [(0, (.pointer (some ⟨g_p0, 0, none⟩))), (1, (.pointer (some ⟨g_p1, 0, none⟩))), (5, (.slice none 0 0)), (6, (.pointer (some ⟨g2027, 0, none⟩))), (7, (.int .i64 (w64 ((w64 (p1.Config.At + (w64 (2 * x2031.2.1)))) - 1)))), (34, (.slice A_p1_Config_Cells p1.Config.Cells.length c_p1_Config_Cells)), (35, (.int .i64 (p1.Config.Cells.length : Int))), (36, (.int .i64 0))] [.cell ⟨g_p1, 5, none⟩ (.slice A_p1_Config_Cells p1.Config.Cells.length c_p1_Config_Cells)] (fun fb => by kernel_rfl) rfl ⟨blk_cell (hS2076.rd 4).1 5 rfl, trivial⟩ ?_
  refine WL.done rfl ?_
  refine WX.next ?_
  have hS2233 := hS2076.nilrow 3 encInt
  obtain ⟨x2241, hx2242, hf⟩ := bind_some hf
  refine WC.cutN (T := (List Int) × (Option Addr) × Nat) (fun t => [(5, (.slice t.2.1 t.1.length t.2.2))]) (fun t w1 => St NoS w w1 [blk g_p0 (.cells #[(.int .i64 p0.m.States), (.int .i64 p0.m.Symbols), (.slice A_p0_m_Actions p0.m.Actions.length c_p0_m_Actions), (.slice A_p0_set p0.set.length c_p0_set), (.slice A_p0_does p0.does.length c_p0_does), (.int .i64 p0.base)] 96 (0, 0)), rowR enc_Action A_p0_m_Actions c_p0_m_Actions p0.m.Actions, rowR enc_Tile A_p0_set c_p0_set p0.set, rowR encInt A_p0_does c_p0_does p0.does, blk g_p1 (.cells #[(.int .i64 p1.m.States), (.int .i64 p1.m.Symbols), (.slice A_p1_m_Actions p1.m.Actions.length c_p1_m_Actions), (.int .i64 p1.Config.State), (.int .i64 p1.Config.At), (.slice A_p1_Config_Cells p1.Config.Cells.length c_p1_Config_Cells)] 82 (0, 0)), rowR enc_Action A_p1_m_Actions c_p1_m_Actions p1.m.Actions, rowR encInt A_p1_Config_Cells c_p1_Config_Cells p1.Config.Cells] [rowO 3 encInt t.2.1 t.2.2 t.1] ∧ x2241 = t.1) (fun Kx2241 => ?_) ?_
  ·
    refine WC.block ?_
    refine WC.loop (T := ((List Int) × Int) × (Option Addr) × Nat) (fun t => [(0, (.pointer (some ⟨g_p0, 0, none⟩))), (1, (.pointer (some ⟨g_p1, 0, none⟩))), (5, (.slice t.2.1 t.1.1.length t.2.2)), (6, (.pointer (some ⟨g2027, 0, none⟩))), (7, (.int .i64 (w64 ((w64 (p1.Config.At + (w64 (2 * x2031.2.1)))) - 1)))), (34, (.slice A_p1_Config_Cells p1.Config.Cells.length c_p1_Config_Cells)), (35, (.int .i64 (p1.Config.Cells.length : Int))), (36, (.int .i64 t.1.2))]) (fun n t w1 => St NoS w w1 [blk g_p0 (.cells #[(.int .i64 p0.m.States), (.int .i64 p0.m.Symbols), (.slice A_p0_m_Actions p0.m.Actions.length c_p0_m_Actions), (.slice A_p0_set p0.set.length c_p0_set), (.slice A_p0_does p0.does.length c_p0_does), (.int .i64 p0.base)] 96 (0, 0)), rowR enc_Action A_p0_m_Actions c_p0_m_Actions p0.m.Actions, rowR enc_Tile A_p0_set c_p0_set p0.set, rowR encInt A_p0_does c_p0_does p0.does, blk g_p1 (.cells #[(.int .i64 p1.m.States), (.int .i64 p1.m.Symbols), (.slice A_p1_m_Actions p1.m.Actions.length c_p1_m_Actions), (.int .i64 p1.Config.State), (.int .i64 p1.Config.At), (.slice A_p1_Config_Cells p1.Config.Cells.length c_p1_Config_Cells)] 82 (0, 0)), rowR enc_Action A_p1_m_Actions c_p1_m_Actions p1.m.Actions, rowR encInt A_p1_Config_Cells c_p1_Config_Cells p1.Config.Cells] [rowO 3 encInt t.2.1 t.2.2 t.1.1, blk g2027 (.cells #[(.int .i64 x2031.1), (.int .i64 x2031.2.1), (.int .i64 x2031.2.2)] 88 (0, 0))] ∧ machine_kit_row.l0 n t.1.1 t.1.2 p0 p1 x2031 = some x2241) k ((([] : List Int), 0), none, 0) [0, 1, 5, 6, 7, 34, 35, 36] rfl ⟨(hS2233.subR [0, 1, 2, 3, 4, 5, 6]).sub [0, 1] (by decide), hx2242⟩ ?_
    rintro k2243 ⟨⟨l2236, x2237⟩, A2234, c2235⟩ w2244 ⟨hS2245, hl2246⟩
    cases k2243 with
    | zero => rw [machine_kit_row.l0] at hl2246; cases hl2246
    | succ k2243 =>
      rw [machine_kit_row.l0] at hl2246
      refine WC.seq ?_
      refine WC.region ?_
      refine seg 1 [] [0, 1, 5, 6, 7, 34, 35, 36, 37] [(0, (.pointer (some ⟨g_p0, 0, none⟩))), (1, (.pointer (some ⟨g_p1, 0, none⟩))), (5, (.slice A2234 l2236.length c2235)), (6, (.pointer (some ⟨g2027, 0, none⟩))), (7, (.int .i64 (w64 ((w64 (p1.Config.At + (w64 (2 * x2031.2.1)))) - 1)))), (34, (.slice A_p1_Config_Cells p1.Config.Cells.length c_p1_Config_Cells)), (35, (.int .i64 (p1.Config.Cells.length : Int))), (36, (.int .i64 x2237)), (37, (.bool (decide (x2237 < (p1.Config.Cells.length : Int)))))] [] (fun fb => by kernel_rfl) rfl trivial ?_
      refine WL.done rfl ?_
      refine WX.next ?_
      refine WC.seq ?_
      rcases br_some hl2246 with ⟨h2247, hl2246⟩ | ⟨h2247, hl2246⟩
      · refine WC.condT2 (fun fb => by kernel_rfl) h2247 ?_
        refine WC.skip ?_
        refine WX.next ?_
        refine WC.seq ?_
        refine WC.block ?_
        refine WC.seq ?_
        refine WC.region ?_
        refine seg 1 [] [0, 1, 5, 6, 7, 34, 35, 36, 38] [(0, (.pointer (some ⟨g_p0, 0, none⟩))), (1, (.pointer (some ⟨g_p1, 0, none⟩))), (5, (.slice A2234 l2236.length c2235)), (6, (.pointer (some ⟨g2027, 0, none⟩))), (7, (.int .i64 (w64 ((w64 (p1.Config.At + (w64 (2 * x2031.2.1)))) - 1)))), (34, (.slice A_p1_Config_Cells p1.Config.Cells.length c_p1_Config_Cells)), (35, (.int .i64 (p1.Config.Cells.length : Int))), (36, (.int .i64 x2237)), (38, (.int .i64 x2237))] [] (fun fb => by kernel_rfl) rfl trivial ?_
        obtain ⟨h2248, hl2246⟩ := as_some hl2246
        refine seg 5 [.v (.int .i64 (rdD p1.Config.Cells x2237 0))] [0, 1, 5, 6, 7, 8, 9, 34, 35, 36] [(0, (.pointer (some ⟨g_p0, 0, none⟩))), (1, (.pointer (some ⟨g_p1, 0, none⟩))), (5, (.slice A2234 l2236.length c2235)), (6, (.pointer (some ⟨g2027, 0, none⟩))), (7, (.int .i64 (w64 ((w64 (p1.Config.At + (w64 (2 * x2031.2.1)))) - 1)))), (8, (.int .i64 x2237)), (9, (.int .i64 (rdD p1.Config.Cells x2237 0))), (34, (.slice A_p1_Config_Cells p1.Config.Cells.length c_p1_Config_Cells)), (35, (.int .i64 (p1.Config.Cells.length : Int))), (36, (.int .i64 x2237))] [.idx A_p1_Config_Cells x2237 p1.Config.Cells.length, .cell ((adr A_p1_Config_Cells).add ((x2237).toNat * 1)) (.int .i64 (rdD p1.Config.Cells x2237 0))] (fun fb => by kernel_rfl) rfl ⟨rowR.adr (hS2245.rd 6).1 h2248.1 h2248.2, rowR.cell (hS2245.rd 6).1 0 h2248.1 h2248.2 0 rfl, trivial⟩ ?_
        refine WL.done rfl ?_
        refine WX.next ?_
        refine WC.seq ?_
        refine WC.region ?_
        refine seg 2 [] [0, 1, 5, 6, 7, 8, 9, 10, 34, 35, 36] [(0, (.pointer (some ⟨g_p0, 0, none⟩))), (1, (.pointer (some ⟨g_p1, 0, none⟩))), (5, (.slice A2234 l2236.length c2235)), (6, (.pointer (some ⟨g2027, 0, none⟩))), (7, (.int .i64 (w64 ((w64 (p1.Config.At + (w64 (2 * x2031.2.1)))) - 1)))), (8, (.int .i64 x2237)), (9, (.int .i64 (rdD p1.Config.Cells x2237 0))), (10, (.int .i64 (rdD p1.Config.Cells x2237 0))), (34, (.slice A_p1_Config_Cells p1.Config.Cells.length c_p1_Config_Cells)), (35, (.int .i64 (p1.Config.Cells.length : Int))), (36, (.int .i64 x2237))] [] (fun fb => by kernel_rfl) rfl trivial ?_
        refine WL.done rfl ?_
        refine WX.next ?_
        refine WC.seq ?_
        refine WC.seq ?_
        refine WC.region ?_
        refine seg 1 [] [0, 1, 5, 6, 7, 9, 10, 34, 35, 36, 42] [(0, (.pointer (some ⟨g_p0, 0, none⟩))), (1, (.pointer (some ⟨g_p1, 0, none⟩))), (5, (.slice A2234 l2236.length c2235)), (6, (.pointer (some ⟨g2027, 0, none⟩))), (7, (.int .i64 (w64 ((w64 (p1.Config.At + (w64 (2 * x2031.2.1)))) - 1)))), (9, (.int .i64 (rdD p1.Config.Cells x2237 0))), (10, (.int .i64 (rdD p1.Config.Cells x2237 0))), (34, (.slice A_p1_Config_Cells p1.Config.Cells.length c_p1_Config_Cells)), (35, (.int .i64 (p1.Config.Cells.length : Int))), (36, (.int .i64 x2237)), (42, (.int .i64 x2237))] [] (fun fb => by kernel_rfl) rfl trivial ?_
        refine WL.done rfl ?_
        refine WX.next ?_
        refine WC.block ?_
        refine WC.seq ?_
        refine WC.region ?_
        refine seg 7 [.v (.int .i64 p1.Config.At)] [0, 1, 5, 6, 7, 9, 10, 34, 35, 36, 42, 43] [(0, (.pointer (some ⟨g_p0, 0, none⟩))), (1, (.pointer (some ⟨g_p1, 0, none⟩))), (5, (.slice A2234 l2236.length c2235)), (6, (.pointer (some ⟨g2027, 0, none⟩))), (7, (.int .i64 (w64 ((w64 (p1.Config.At + (w64 (2 * x2031.2.1)))) - 1)))), (9, (.int .i64 (rdD p1.Config.Cells x2237 0))), (10, (.int .i64 (rdD p1.Config.Cells x2237 0))), (34, (.slice A_p1_Config_Cells p1.Config.Cells.length c_p1_Config_Cells)), (35, (.int .i64 (p1.Config.Cells.length : Int))), (36, (.int .i64 x2237)), (42, (.int .i64 x2237)), (43, (.bool (x2237 == p1.Config.At)))] [.cell ⟨g_p1, 4, none⟩ (.int .i64 p1.Config.At)] (fun fb => by kernel_rfl) rfl ⟨blk_cell (hS2245.rd 4).1 4 rfl, trivial⟩ ?_
        refine WL.done rfl ?_
        refine WX.next ?_
        obtain ⟨x2278, hx2279, hl2246⟩ := bind_some hl2246
        refine WC.cutN (T := Int) (fun t => [(0, (.pointer (some ⟨g_p0, 0, none⟩))), (1, (.pointer (some ⟨g_p1, 0, none⟩))), (5, (.slice A2234 l2236.length c2235)), (6, (.pointer (some ⟨g2027, 0, none⟩))), (7, (.int .i64 (w64 ((w64 (p1.Config.At + (w64 (2 * x2031.2.1)))) - 1)))), (10, (.int .i64 t)), (34, (.slice A_p1_Config_Cells p1.Config.Cells.length c_p1_Config_Cells)), (35, (.int .i64 (p1.Config.Cells.length : Int))), (36, (.int .i64 x2237))]) (fun t w1 => St NoS w w1 [blk g_p0 (.cells #[(.int .i64 p0.m.States), (.int .i64 p0.m.Symbols), (.slice A_p0_m_Actions p0.m.Actions.length c_p0_m_Actions), (.slice A_p0_set p0.set.length c_p0_set), (.slice A_p0_does p0.does.length c_p0_does), (.int .i64 p0.base)] 96 (0, 0)), rowR enc_Action A_p0_m_Actions c_p0_m_Actions p0.m.Actions, rowR enc_Tile A_p0_set c_p0_set p0.set, rowR encInt A_p0_does c_p0_does p0.does, blk g_p1 (.cells #[(.int .i64 p1.m.States), (.int .i64 p1.m.Symbols), (.slice A_p1_m_Actions p1.m.Actions.length c_p1_m_Actions), (.int .i64 p1.Config.State), (.int .i64 p1.Config.At), (.slice A_p1_Config_Cells p1.Config.Cells.length c_p1_Config_Cells)] 82 (0, 0)), rowR enc_Action A_p1_m_Actions c_p1_m_Actions p1.m.Actions, rowR encInt A_p1_Config_Cells c_p1_Config_Cells p1.Config.Cells] [rowO 3 encInt A2234 c2235 l2236, blk g2027 (.cells #[(.int .i64 x2031.1), (.int .i64 x2031.2.1), (.int .i64 x2031.2.2)] 88 (0, 0))] ∧ x2278 = t) (fun Kx2278 => ?_) ?_
        ·
          rcases br_some hx2279 with ⟨h2280, hx2279⟩ | ⟨h2280, hx2279⟩
          · refine WC.condT2 (fun fb => by kernel_rfl) h2280 ?_
            refine WC.regionD ([(3, ⟨g_p0, 4, none⟩, (.slice A_p0_does p0.does.length c_p0_does))], [0, 1, 2, 3, 4, 6, 8], [[], [0], [0, 1], [0, 1, 2], [], [4], [0, 1, 2, 3, 4, 5], [0, 1, 2, 3, 4, 5, 6], [0, 1, 2, 3, 4, 5, 6, 7]]) [[0, 1, 2, 3, 4, 5, 6, 7, 8]] (by kernel_rfl) (by kernel_rfl) (NoPanic.block (NoPanic.seq (NoPanic.block (NoPanic.seq (NoPanic.seq (NoPanic.block (NoPanic.seq (NoPanic.body)))))))) ?_
            have hS2288 := hS2245.drew
            revert hS2288
            generalize World.drew w2244 = w2287
            intro hS2288
            refine ⟨⟨blk_cell (hS2288.rd 0).1 4 rfl, trivial⟩, forallC ?_ (forallN)⟩
            refine segF 5 [.v (.slice A_p0_does p0.does.length c_p0_does)] [0, 1, 5, 6, 7, 34, 35, 36, 53, 54] [(0, (.pointer (some ⟨g_p0, 0, none⟩))), (1, (.pointer (some ⟨g_p1, 0, none⟩))), (5, (.slice A2234 l2236.length c2235)), (6, (.pointer (some ⟨g2027, 0, none⟩))), (7, (.int .i64 (w64 ((w64 (p1.Config.At + (w64 (2 * x2031.2.1)))) - 1)))), (34, (.slice A_p1_Config_Cells p1.Config.Cells.length c_p1_Config_Cells)), (35, (.int .i64 (p1.Config.Cells.length : Int))), (36, (.int .i64 x2237)), (53, (.slice A_p0_does p0.does.length c_p0_does)), (54, (.pointer (some ⟨g_p1, 0, none⟩)))] [] [0] [(3, ⟨g_p0, 4, none⟩, (.slice A_p0_does p0.does.length c_p0_does))] (fun fb => by kernel_rfl) rfl trivial rfl ?_
            obtain ⟨t2289, ht2290, hx2279⟩ := bind_some hx2279
            refine WL.call (some 55) 63 #[(.pointer (some ⟨g_p1, 0, none⟩))] (fun fb => by kernel_rfl) (machine_runner_does_calls p1 g_p1 A_p1_m_Actions c_p1_m_Actions A_p1_Config_Cells c_p1_Config_Cells t2289 _ (hS2288.rd 4) (hS2288.rd 5) (hS2288.rd 6) ht2290) (fun v w2291 hR2292 => ?_)
            obtain ⟨rfl, hk_⟩ := hR2292
            have hS2293 := hS2288.keepN hk_
            refine ⟨⟨blk_cell (hS2293.rd 0).1 4 rfl, trivial⟩, ?_⟩
            obtain ⟨h2294, hx2279⟩ := as_some hx2279
            refine seg 9 [.v (.int .i64 (rdD p0.does t2289 0))] [0, 1, 5, 6, 7, 10, 34, 35, 36] [(0, (.pointer (some ⟨g_p0, 0, none⟩))), (1, (.pointer (some ⟨g_p1, 0, none⟩))), (5, (.slice A2234 l2236.length c2235)), (6, (.pointer (some ⟨g2027, 0, none⟩))), (7, (.int .i64 (w64 ((w64 (p1.Config.At + (w64 (2 * x2031.2.1)))) - 1)))), (10, (.int .i64 (rdD p0.does t2289 0))), (34, (.slice A_p1_Config_Cells p1.Config.Cells.length c_p1_Config_Cells)), (35, (.int .i64 (p1.Config.Cells.length : Int))), (36, (.int .i64 x2237))] [.idx A_p0_does t2289 p0.does.length, .cell ((adr A_p0_does).add ((t2289).toNat * 1)) (.int .i64 (rdD p0.does t2289 0))] (fun fb => by kernel_rfl) rfl ⟨rowR.adr (hS2293.rd 3).1 h2294.1 h2294.2, rowR.cell (hS2293.rd 3).1 0 h2294.1 h2294.2 0 rfl, trivial⟩ ?_
            refine WL.done rfl ?_
            injection hx2279 with hx2279
            exact WX.to Kx2278 (rdD p0.does t2289 0) [0, 1, 5, 6, 7, 10, 34, 35, 36] rfl ⟨(hS2293.subR [0, 1, 2, 3, 4, 5, 6]).sub [0, 1] (by decide), hx2279.symm⟩
          refine WC.condF2 (fun fb => by kernel_rfl) h2280 ?_
          refine WC.seq ?_
          refine WC.region ?_
          refine seg 3 [] [0, 1, 5, 6, 7, 9, 10, 34, 35, 36, 58] [(0, (.pointer (some ⟨g_p0, 0, none⟩))), (1, (.pointer (some ⟨g_p1, 0, none⟩))), (5, (.slice A2234 l2236.length c2235)), (6, (.pointer (some ⟨g2027, 0, none⟩))), (7, (.int .i64 (w64 ((w64 (p1.Config.At + (w64 (2 * x2031.2.1)))) - 1)))), (9, (.int .i64 (rdD p1.Config.Cells x2237 0))), (10, (.int .i64 (rdD p1.Config.Cells x2237 0))), (34, (.slice A_p1_Config_Cells p1.Config.Cells.length c_p1_Config_Cells)), (35, (.int .i64 (p1.Config.Cells.length : Int))), (36, (.int .i64 x2237)), (58, (.bool (x2237 == (w64 ((w64 (p1.Config.At + (w64 (2 * x2031.2.1)))) - 1)))))] [] (fun fb => by kernel_rfl) rfl trivial ?_
          refine WL.done rfl ?_
          refine WX.next ?_
          obtain ⟨x2299, hx2300, hx2279⟩ := bind_some hx2279
          refine WC.cutN (T := Int) (fun t => [(0, (.pointer (some ⟨g_p0, 0, none⟩))), (1, (.pointer (some ⟨g_p1, 0, none⟩))), (5, (.slice A2234 l2236.length c2235)), (6, (.pointer (some ⟨g2027, 0, none⟩))), (7, (.int .i64 (w64 ((w64 (p1.Config.At + (w64 (2 * x2031.2.1)))) - 1)))), (10, (.int .i64 t)), (34, (.slice A_p1_Config_Cells p1.Config.Cells.length c_p1_Config_Cells)), (35, (.int .i64 (p1.Config.Cells.length : Int))), (36, (.int .i64 x2237))]) (fun t w1 => St NoS w w1 [blk g_p0 (.cells #[(.int .i64 p0.m.States), (.int .i64 p0.m.Symbols), (.slice A_p0_m_Actions p0.m.Actions.length c_p0_m_Actions), (.slice A_p0_set p0.set.length c_p0_set), (.slice A_p0_does p0.does.length c_p0_does), (.int .i64 p0.base)] 96 (0, 0)), rowR enc_Action A_p0_m_Actions c_p0_m_Actions p0.m.Actions, rowR enc_Tile A_p0_set c_p0_set p0.set, rowR encInt A_p0_does c_p0_does p0.does, blk g_p1 (.cells #[(.int .i64 p1.m.States), (.int .i64 p1.m.Symbols), (.slice A_p1_m_Actions p1.m.Actions.length c_p1_m_Actions), (.int .i64 p1.Config.State), (.int .i64 p1.Config.At), (.slice A_p1_Config_Cells p1.Config.Cells.length c_p1_Config_Cells)] 82 (0, 0)), rowR enc_Action A_p1_m_Actions c_p1_m_Actions p1.m.Actions, rowR encInt A_p1_Config_Cells c_p1_Config_Cells p1.Config.Cells] [rowO 3 encInt A2234 c2235 l2236, blk g2027 (.cells #[(.int .i64 x2031.1), (.int .i64 x2031.2.1), (.int .i64 x2031.2.2)] 88 (0, 0))] ∧ x2299 = t) (fun Kx2299 => ?_) ?_
          ·
            rcases br_some hx2300 with ⟨h2301, hx2300⟩ | ⟨h2301, hx2300⟩
            · refine WC.condT2 (fun fb => by kernel_rfl) h2301 ?_
              refine WC.regionD ([(3, ⟨g_p0, 5, none⟩, (.int .i64 p0.base)), (5, ⟨g2027, 2, none⟩, (.int .i64 x2031.2.2)), (10, ⟨g_p1, 1, none⟩, (.int .i64 p1.m.Symbols)), (18, ⟨g2027, 1, none⟩, (.int .i64 x2031.2.1))], [0, 1, 2, 3, 4, 5, 6, 7, 8, 9, 10, 11, 12, 13, 14, 15, 16, 17, 18, 19, 20], [[], [0], [0, 1], [0, 1, 2], [], [4], [], [6], [6, 7], [6, 7, 8], [6, 7, 8, 9], [4, 5, 6, 7, 8, 9, 10], [], [4, 5, 6, 7, 8, 9, 10, 11, 12], [4, 5, 6, 7, 8, 9, 10, 11, 12, 13], [0, 1, 2, 3, 4, 5, 6, 7, 8, 9, 10, 11, 12, 13, 14], [0, 1, 2, 3, 4, 5, 6, 7, 8, 9, 10, 11, 12, 13, 14, 15], [], [17], [0, 1, 2, 3, 4, 5, 6, 7, 8, 9, 10, 11, 12, 13, 14, 15, 16, 17, 18], [0, 1, 2, 3, 4, 5, 6, 7, 8, 9, 10, 11, 12, 13, 14, 15, 16, 17, 18, 19]]) [[0, 1, 2, 3, 4, 5, 6, 7, 8, 9, 10, 11, 12, 13, 14, 15, 16, 17, 18, 19, 20]] (by kernel_rfl) (by kernel_rfl) (NoPanic.block (NoPanic.seq (NoPanic.block (NoPanic.seq (NoPanic.seq (NoPanic.block (NoPanic.seq (NoPanic.body)))))))) ?_
              have hS2303 := hS2245.drew
              revert hS2303
              generalize World.drew w2244 = w2302
              intro hS2303
              refine ⟨⟨blk_cell (hS2303.rd 0).1 5 rfl, hS2303.cell 1 rfl 2 rfl, blk_cell (hS2303.rd 4).1 1 rfl, hS2303.cell 1 rfl 1 rfl, trivial⟩, forallC ?_ (forallN)⟩
              refine segF 21 [.v (.int .i64 p0.base), .v (.int .i64 x2031.2.2), .v (.int .i64 p1.m.Symbols), .v (.int .i64 x2031.2.1)] [0, 1, 5, 6, 7, 10, 34, 35, 36] [(0, (.pointer (some ⟨g_p0, 0, none⟩))), (1, (.pointer (some ⟨g_p1, 0, none⟩))), (5, (.slice A2234 l2236.length c2235)), (6, (.pointer (some ⟨g2027, 0, none⟩))), (7, (.int .i64 (w64 ((w64 (p1.Config.At + (w64 (2 * x2031.2.1)))) - 1)))), (10, (.int .i64 (w64 ((w64 ((w64 (p0.base + (w64 (2 * (w64 ((w64 (x2031.2.2 * p1.m.Symbols)) + (rdD p1.Config.Cells x2237 0))))))) + 1)) - x2031.2.1)))), (34, (.slice A_p1_Config_Cells p1.Config.Cells.length c_p1_Config_Cells)), (35, (.int .i64 (p1.Config.Cells.length : Int))), (36, (.int .i64 x2237))] [] [0, 1, 2, 3] [(3, ⟨g_p0, 5, none⟩, (.int .i64 p0.base)), (5, ⟨g2027, 2, none⟩, (.int .i64 x2031.2.2)), (10, ⟨g_p1, 1, none⟩, (.int .i64 p1.m.Symbols)), (18, ⟨g2027, 1, none⟩, (.int .i64 x2031.2.1))] (fun fb => by kernel_rfl) rfl trivial rfl ?_
              refine WL.done rfl ?_
              injection hx2300 with hx2300
              exact WX.to Kx2299 (w64 ((w64 ((w64 (p0.base + (w64 (2 * (w64 ((w64 (x2031.2.2 * p1.m.Symbols)) + (rdD p1.Config.Cells x2237 0))))))) + 1)) - x2031.2.1)) [0, 1, 5, 6, 7, 10, 34, 35, 36] rfl ⟨(hS2303.subR [0, 1, 2, 3, 4, 5, 6]).sub [0, 1] (by decide), hx2300.symm⟩
            refine WC.condF2 (fun fb => by kernel_rfl) h2301 ?_
            refine WC.skip ?_
            injection hx2300 with hx2300
            exact WX.to Kx2299 (rdD p1.Config.Cells x2237 0) [0, 1, 5, 6, 7, 10, 34, 35, 36] rfl ⟨(hS2245.subR [0, 1, 2, 3, 4, 5, 6]).sub [0, 1] (by decide), hx2300.symm⟩
          rintro y2307 w2304 ⟨hS2305, hq2306⟩
          subst hq2306
          injection hx2279 with hx2279
          exact WX.to Kx2278 x2299 [0, 1, 5, 6, 7, 10, 34, 35, 36] rfl ⟨(hS2305.subR [0, 1, 2, 3, 4, 5, 6]).sub [0, 1] (by decide), hx2279.symm⟩
        rintro y2311 w2308 ⟨hS2309, hq2310⟩
        subst hq2310
        refine WX.blockN (WX.next ?_)
        refine WC.region ?_
        refine seg 2 [] [0, 1, 6, 7, 34, 35, 36, 81, 82] [(0, (.pointer (some ⟨g_p0, 0, none⟩))), (1, (.pointer (some ⟨g_p1, 0, none⟩))), (6, (.pointer (some ⟨g2027, 0, none⟩))), (7, (.int .i64 (w64 ((w64 (p1.Config.At + (w64 (2 * x2031.2.1)))) - 1)))), (34, (.slice A_p1_Config_Cells p1.Config.Cells.length c_p1_Config_Cells)), (35, (.int .i64 (p1.Config.Cells.length : Int))), (36, (.int .i64 x2237)), (81, (.slice A2234 l2236.length c2235)), (82, (.int .i64 x2278))] [] (fun fb => by kernel_rfl) rfl trivial ?_
        refine WL.new hS2309 83 [] (fun g => (.slice (some ⟨g, 0, none⟩) 1 1)) (.cells #[(.int .i64 x2278)] 3 (0, 0)) [] (fun fb g => by kernel_rfl) trivial (fun g2312 w2313 hS2314 => ?_)
        refine ⟨trivial, ?_⟩
        have hS2316 : St NoS w w2313 [blk g_p0 (.cells #[(.int .i64 p0.m.States), (.int .i64 p0.m.Symbols), (.slice A_p0_m_Actions p0.m.Actions.length c_p0_m_Actions), (.slice A_p0_set p0.set.length c_p0_set), (.slice A_p0_does p0.does.length c_p0_does), (.int .i64 p0.base)] 96 (0, 0)), rowR enc_Action A_p0_m_Actions c_p0_m_Actions p0.m.Actions, rowR enc_Tile A_p0_set c_p0_set p0.set, rowR encInt A_p0_does c_p0_does p0.does, blk g_p1 (.cells #[(.int .i64 p1.m.States), (.int .i64 p1.m.Symbols), (.slice A_p1_m_Actions p1.m.Actions.length c_p1_m_Actions), (.int .i64 p1.Config.State), (.int .i64 p1.Config.At), (.slice A_p1_Config_Cells p1.Config.Cells.length c_p1_Config_Cells)] 82 (0, 0)), rowR enc_Action A_p1_m_Actions c_p1_m_Actions p1.m.Actions, rowR encInt A_p1_Config_Cells c_p1_Config_Cells p1.Config.Cells] [rowO 3 encInt (some ⟨g2312, 0, none⟩) 1 [x2278], rowO 3 encInt A2234 c2235 l2236, blk g2027 (.cells #[(.int .i64 x2031.1), (.int .i64 x2031.2.1), (.int .i64 x2031.2.2)] 88 (0, 0))] := hS2314.map1 0 _ (fun h => rowO.ofBlk h rfl (Nat.le_of_ble_eq_true (by kernel_rfl))) (fun _ h => by obtain ⟨_, h1, h2⟩ := h; injection h1 with h1; subst h1; exact h2) [1, 2] (by decide) (by decide)
        obtain ⟨h2317, hl2246⟩ := as_some hl2246
        refine WL.append hS2316 1 (d := 84) (tS := 25) (z := (.int .i64 0)) (bytes := 8) (c2 := 1) rfl (fun fb => by kernel_rfl) (rowO.rd (hS2316.own 0).1) (by kernel_rfl) (by kernel_rfl) rfl (by decide) h2317 (by decide) [0, 2] (by decide) (by decide) (fun A2318 c2319 w2320 hS2321 => ?_)
        refine ⟨trivial, ?_⟩
        refine seg 5 [] [0, 1, 5, 6, 7, 34, 35, 36] [(0, (.pointer (some ⟨g_p0, 0, none⟩))), (1, (.pointer (some ⟨g_p1, 0, none⟩))), (5, (.slice A2318 (l2236 ++ [x2278]).length c2319)), (6, (.pointer (some ⟨g2027, 0, none⟩))), (7, (.int .i64 (w64 ((w64 (p1.Config.At + (w64 (2 * x2031.2.1)))) - 1)))), (34, (.slice A_p1_Config_Cells p1.Config.Cells.length c_p1_Config_Cells)), (35, (.int .i64 (p1.Config.Cells.length : Int))), (36, (.int .i64 x2237))] [] (fun fb => by kernel_rfl) rfl trivial ?_
        refine WL.done rfl ?_
        refine WX.blockN (WX.next ?_)
        refine WC.region ?_
        refine seg 2 [] [0, 1, 5, 6, 7, 34, 35, 36] [(0, (.pointer (some ⟨g_p0, 0, none⟩))), (1, (.pointer (some ⟨g_p1, 0, none⟩))), (5, (.slice A2318 (l2236 ++ [x2278]).length c2319)), (6, (.pointer (some ⟨g2027, 0, none⟩))), (7, (.int .i64 (w64 ((w64 (p1.Config.At + (w64 (2 * x2031.2.1)))) - 1)))), (34, (.slice A_p1_Config_Cells p1.Config.Cells.length c_p1_Config_Cells)), (35, (.int .i64 (p1.Config.Cells.length : Int))), (36, (.int .i64 (w64 (x2237 + 1))))] [] (fun fb => by kernel_rfl) rfl trivial ?_
        refine WL.done rfl ?_
        exact WX.again k2243 (Nat.lt_succ_self _) ((l2236 ++ [x2278], w64 (x2237 + 1)), A2318, c2319) [0, 1, 5, 6, 7, 34, 35, 36] rfl ⟨(hS2321.subR [0, 1, 2, 3, 4, 5, 6]).sub [0, 2] (by decide), hl2246⟩
      refine WC.condF2 (fun fb => by kernel_rfl) h2247 ?_
      refine WC.exit ?_
      injection hl2246 with hl2246
      exact WX.thenX (WX.thenX (WX.blockHere (WX.to Kx2241 (l2236, A2234, c2235) [5] rfl ⟨(hS2245.subR [0, 1, 2, 3, 4, 5, 6]).sub [0] (by decide), hl2246.symm⟩)))
  rintro ⟨y2325, A2238, c2239⟩ w2322 ⟨hS2323, hq2324⟩
  subst hq2324
  refine WX.next ?_
  refine WC.seq ?_
  refine WC.region ?_
  refine seg 2 [] [4] [(4, (.slice A2238 x2241.length c2239))] [] (fun fb => by kernel_rfl) rfl trivial ?_
  refine WL.done rfl ?_
  refine WX.next ?_
  refine WC.ret ?_
  injection hf with hf
  subst hf
  exact WX.ret_ [] (.slice A2238 x2241.length c2239) [] (fun fb => by kernel_rfl) trivial ⟨_, rfl, A2238, c2239, rfl, (hS2323.sub [0] (by decide)).noR⟩
end Gp
