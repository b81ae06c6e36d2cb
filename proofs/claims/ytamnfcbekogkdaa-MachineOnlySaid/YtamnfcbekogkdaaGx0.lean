/- Walks: each function of the program computes its plain function. -/
import Derived.Test.YtamnfcbekogkdaaGp
set_option linter.unusedVariables false
set_option linter.unusedSimpArgs false
namespace Gp
open Go Gw Go.Proofs
theorem law08_goes_calls   (r : Machine) (w : World)  (hf : law08_goes = some r) :
    CallsR Try.prog 40 #[] w (fun v w' => ∃ (A1_ : Option Addr), ∃ (c1_ : Nat), v = (.agg #[(.int .i64 r.States), (.int .i64 r.Symbols), (.slice A1_ r.Actions.length c1_)]) ∧ St NoS w w' [] [rowO 88 enc_Action A1_ c1_ r.Actions]) := by
  have hS : St NoS w w [] [] := St.init (ro_nil _ _)
  refine enter 5 Try.func40 rfl Try.ntmps40 rfl ?_
  unfold law08_goes at hf
  refine WC.seq ?_
  refine WC.region ?_
  refine WL.new hS 0 [] (fun g => (.pointer (some ⟨g, 0, none⟩))) (.cells #[(.int .i64 0), (.int .i64 0), (.slice none 0 0)] 24 (0, 0)) [] (fun fb g => by kernel_rfl) trivial (fun g12 w13 hS14 => ?_)
  refine ⟨trivial, ?_⟩
  refine WL.done rfl ?_
  refine WX.next ?_
  refine WC.seq ?_
  refine WC.region ?_
  refine seg 2 [] [0, 1, 2] [(0, (.pointer (some ⟨g12, 0, none⟩))), (1, (.agg #[(.int .i64 1), (.int .i64 1), (.int .i64 0)])), (2, (.agg #[(.int .i64 1), (.int .i64 1), (.int .i64 0)]))] [] (fun fb => by kernel_rfl) rfl trivial ?_
  refine WL.new hS14 3 [] (fun g => (.slice (some ⟨g, 0, none⟩) 2 2)) (.cells #[(.int .i64 1), (.int .i64 1), (.int .i64 0), (.int .i64 1), (.int .i64 1), (.int .i64 0)] 88 (0, 0)) [] (fun fb g => by kernel_rfl) trivial (fun g16 w17 hS18 => ?_)
  refine ⟨trivial, ?_⟩
  have hS20 : St NoS w w17 [] [rowO 88 enc_Action (some ⟨g16, 0, none⟩) 2 [(Action.mk 1 1 0), (Action.mk 1 1 0)], blk g12 (.cells #[(.int .i64 0), (.int .i64 0), (.slice none 0 0)] 24 (0, 0))] := hS18.map1 0 _ (fun h => rowO.ofBlk h rfl (Nat.le_of_ble_eq_true (by kernel_rfl))) (fun _ h => by obtain ⟨_, h1, h2⟩ := h; injection h1 with h1; subst h1; exact h2) [1] (by decide) (by decide)
  refine seg 4 [] [0, 4] [(0, (.pointer (some ⟨g12, 0, none⟩))), (4, (.agg #[(.int .i64 1), (.int .i64 2), (.slice (some ⟨g16, 0, none⟩) [(Action.mk 1 1 0), (Action.mk 1 1 0)].length 2)]))] [] (fun fb => by kernel_rfl) rfl trivial ?_
  refine WL.store hS20 1 rfl [(0, (.int .i64 1)), (1, (.int .i64 2)), (2, (.slice (some ⟨g16, 0, none⟩) [(Action.mk 1 1 0), (Action.mk 1 1 0)].length 2))] #[(.int .i64 1), (.int .i64 2), (.slice (some ⟨g16, 0, none⟩) [(Action.mk 1 1 0), (Action.mk 1 1 0)].length 2)] (fun fb => by kernel_rfl) (by kernel_rfl) rfl [0] (by decide) (by decide) (fun w21 hS22 => ?_)
  refine ⟨trivial, ?_⟩
  refine WL.done rfl ?_
  refine WX.next ?_
  refine WC.ret ?_
  injection hf with hf
  subst hf
  exact WX.ret_ [.v (.int .i64 1), .v (.int .i64 2), .v (.slice (some ⟨g16, 0, none⟩) [(Action.mk 1 1 0), (Action.mk 1 1 0)].length 2)] (.agg #[(.int .i64 1), (.int .i64 2), (.slice (some ⟨g16, 0, none⟩) [(Action.mk 1 1 0), (Action.mk 1 1 0)].length 2)]) [.cell ⟨g12, 0, none⟩ (.int .i64 1), .cell ⟨g12, 1, none⟩ (.int .i64 2), .cell ⟨g12, 2, none⟩ (.slice (some ⟨g16, 0, none⟩) [(Action.mk 1 1 0), (Action.mk 1 1 0)].length 2)] (fun fb => by kernel_rfl) ⟨hS22.cell 0 rfl 0 rfl, hS22.cell 0 rfl 1 rfl, hS22.cell 0 rfl 2 rfl, trivial⟩ ⟨_, rfl, (some ⟨g16, 0, none⟩), 2, rfl, (hS22.sub [1] (by decide)).noR⟩
theorem machine_action_calls (p0 : Machine) (p1 : Action) (A_p0_Actions : Option Addr) (c_p0_Actions : Nat) (r : Bool) (w : World) (hR0 : RO NoS w (rowR enc_Action A_p0_Actions c_p0_Actions p0.Actions)) (hf : machine_action p0 p1 = some r) :
    CallsR Try.prog 48 #[(.agg #[(.int .i64 p0.States), (.int .i64 p0.Symbols), (.slice A_p0_Actions p0.Actions.length c_p0_Actions)]), (.agg #[(.int .i64 p1.Write), (.int .i64 p1.Move), (.int .i64 p1.Next)])] w (fun v w' => v = (.bool r) ∧ Keeps NoS w w') := by
  have hS : St NoS w w [rowR enc_Action A_p0_Actions c_p0_Actions p0.Actions] [] := St.init (ro_cons hR0 (ro_nil _ _))
  refine enter 50 Try.func48 rfl Try.ntmps48 rfl ?_
  unfold machine_action at hf
  refine WC.seq ?_
  refine WC.region ?_
  refine WL.new hS 2 [] (fun g => (.pointer (some ⟨g, 0, none⟩))) (.cells #[(.int .i64 p0.States), (.int .i64 p0.Symbols), (.slice A_p0_Actions p0.Actions.length c_p0_Actions)] 24 (0, 0)) [] (fun fb g => by kernel_rfl) trivial (fun g52 w53 hS54 => ?_)
  refine ⟨trivial, ?_⟩
  refine WL.new hS54 3 [] (fun g => (.pointer (some ⟨g, 0, none⟩))) (.cells #[(.int .i64 p1.Write), (.int .i64 p1.Move), (.int .i64 p1.Next)] 88 (0, 0)) [] (fun fb g => by kernel_rfl) trivial (fun g56 w57 hS58 => ?_)
  refine ⟨trivial, ?_⟩
  refine seg 3 [] [2, 3] [(2, (.pointer (some ⟨g52, 0, none⟩))), (3, (.pointer (some ⟨g56, 0, none⟩)))] [] (fun fb => by kernel_rfl) rfl trivial ?_
  refine WL.done rfl ?_
  refine WX.next ?_
  refine WC.seq ?_
  refine WC.seq ?_
  refine WC.region ?_
  refine seg 5 [.v (.int .i64 p1.Next), .v (.int .i64 p0.States)] [2, 3, 9] [(2, (.pointer (some ⟨g52, 0, none⟩))), (3, (.pointer (some ⟨g56, 0, none⟩))), (9, (.bool (p1.Next == p0.States)))] [.cell ⟨g56, 2, none⟩ (.int .i64 p1.Next), .cell ⟨g52, 0, none⟩ (.int .i64 p0.States)] (fun fb => by kernel_rfl) rfl ⟨hS58.cell 0 rfl 2 rfl, hS58.cell 1 rfl 0 rfl, trivial⟩ ?_
  refine WL.done rfl ?_
  refine WX.next ?_
  rcases br_some hf with ⟨h60, hf⟩ | ⟨h60, hf⟩
  · refine WC.condT2 (fun fb => by kernel_rfl) h60 ?_
    refine WC.seq ?_
    refine WC.region ?_
    refine seg 4 [.v (.int .i64 p1.Write)] [3, 13] [(3, (.pointer (some ⟨g56, 0, none⟩))), (13, (.bool (p1.Write == 0)))] [.cell ⟨g56, 0, none⟩ (.int .i64 p1.Write)] (fun fb => by kernel_rfl) rfl ⟨hS58.cell 0 rfl 0 rfl, trivial⟩ ?_
    refine WL.cutV (T := Bool) 8 (fun t => [(17, (.bool t))]) (fun t => t = ((p1.Write == 0) && (p1.Move == 0))) (fun K => ?_) ?_
    ·
      rcases Bool.eq_false_or_eq_true (p1.Write == 0) with h61 | h61
      ·
        refine WL.setB 13 h61 rfl ?_
        refine seg 8 [.v (.int .i64 p1.Move)] [17] [(17, (.bool (p1.Move == 0)))] [.cell ⟨g56, 1, none⟩ (.int .i64 p1.Move)] (fun fb => by kernel_rfl) rfl ⟨hS58.cell 0 rfl 1 rfl, trivial⟩ ?_
        exact WL.toV K (p1.Move == 0) [17] rfl (by rw [h61]; rfl)
      refine WL.setB 13 h61 rfl ?_
      refine seg 8 [] [17] [(17, (.bool false))] [] (fun fb => by kernel_rfl) rfl trivial ?_
      exact WL.toV K false [17] rfl (by rw [h61]; rfl)
    rintro b62 rfl
    refine seg 9 [] [4] [(4, (.bool ((p1.Write == 0) && (p1.Move == 0))))] [] (fun fb => by kernel_rfl) rfl trivial ?_
    refine WL.done rfl ?_
    refine WX.next ?_
    refine WC.ret ?_
    injection hf with hf
    subst hf
    exact WX.thenR (WX.ret_ [] (.bool ((p1.Write == 0) && (p1.Move == 0))) [] (fun fb => by kernel_rfl) trivial ⟨_, rfl, rfl, hS58.keep⟩)
  refine WC.condF2 (fun fb => by kernel_rfl) h60 ?_
  refine WC.skip ?_
  refine WX.next ?_
  refine WC.seq ?_
  refine WC.region ?_
  refine seg 4 [.v (.int .i64 p1.Write)] [2, 3, 21] [(2, (.pointer (some ⟨g52, 0, none⟩))), (3, (.pointer (some ⟨g56, 0, none⟩))), (21, (.bool (decide (p1.Write ≥ 0))))] [.cell ⟨g56, 0, none⟩ (.int .i64 p1.Write)] (fun fb => by kernel_rfl) rfl ⟨hS58.cell 0 rfl 0 rfl, trivial⟩ ?_
  refine WL.cutV (T := Bool) 10 (fun t => [(27, (.bool t)), (2, (.pointer (some ⟨g52, 0, none⟩))), (3, (.pointer (some ⟨g56, 0, none⟩)))]) (fun t => t = ((decide (p1.Write ≥ 0)) && (decide (p1.Write < p0.Symbols)))) (fun K => ?_) ?_
  ·
    rcases Bool.eq_false_or_eq_true (decide (p1.Write ≥ 0)) with h63 | h63
    ·
      refine WL.setB 21 h63 rfl ?_
      refine seg 10 [.v (.int .i64 p1.Write), .v (.int .i64 p0.Symbols)] [2, 3, 27] [(2, (.pointer (some ⟨g52, 0, none⟩))), (3, (.pointer (some ⟨g56, 0, none⟩))), (27, (.bool (decide (p1.Write < p0.Symbols))))] [.cell ⟨g56, 0, none⟩ (.int .i64 p1.Write), .cell ⟨g52, 1, none⟩ (.int .i64 p0.Symbols)] (fun fb => by kernel_rfl) rfl ⟨hS58.cell 0 rfl 0 rfl, hS58.cell 1 rfl 1 rfl, trivial⟩ ?_
      exact WL.toV K (decide (p1.Write < p0.Symbols)) [27, 2, 3] rfl (by rw [h63]; rfl)
    refine WL.setB 21 h63 rfl ?_
    refine seg 10 [] [2, 3, 27] [(2, (.pointer (some ⟨g52, 0, none⟩))), (3, (.pointer (some ⟨g56, 0, none⟩))), (27, (.bool false))] [] (fun fb => by kernel_rfl) rfl trivial ?_
    exact WL.toV K false [27, 2, 3] rfl (by rw [h63]; rfl)
  rintro b64 rfl
  refine seg 11 [] [2, 3, 28] [(2, (.pointer (some ⟨g52, 0, none⟩))), (3, (.pointer (some ⟨g56, 0, none⟩))), (28, (.bool ((decide (p1.Write ≥ 0)) && (decide (p1.Write < p0.Symbols)))))] [] (fun fb => by kernel_rfl) rfl trivial ?_
  refine WL.cutV (T := Bool) 15 (fun t => [(32, (.bool t)), (2, (.pointer (some ⟨g52, 0, none⟩))), (3, (.pointer (some ⟨g56, 0, none⟩)))]) (fun t => t = (((decide (p1.Write ≥ 0)) && (decide (p1.Write < p0.Symbols))) && (decide (p1.Move ≥ 0)))) (fun K => ?_) ?_
  ·
    rcases Bool.eq_false_or_eq_true ((decide (p1.Write ≥ 0)) && (decide (p1.Write < p0.Symbols))) with h65 | h65
    ·
      refine WL.setB 28 h65 rfl ?_
      refine seg 15 [.v (.int .i64 p1.Move)] [2, 3, 32] [(2, (.pointer (some ⟨g52, 0, none⟩))), (3, (.pointer (some ⟨g56, 0, none⟩))), (32, (.bool (decide (p1.Move ≥ 0))))] [.cell ⟨g56, 1, none⟩ (.int .i64 p1.Move)] (fun fb => by kernel_rfl) rfl ⟨hS58.cell 0 rfl 1 rfl, trivial⟩ ?_
      exact WL.toV K (decide (p1.Move ≥ 0)) [32, 2, 3] rfl (by rw [h65]; rfl)
    refine WL.setB 28 h65 rfl ?_
    refine seg 15 [] [2, 3, 32] [(2, (.pointer (some ⟨g52, 0, none⟩))), (3, (.pointer (some ⟨g56, 0, none⟩))), (32, (.bool false))] [] (fun fb => by kernel_rfl) rfl trivial ?_
    exact WL.toV K false [32, 2, 3] rfl (by rw [h65]; rfl)
  rintro b66 rfl
  refine seg 16 [] [2, 3, 33] [(2, (.pointer (some ⟨g52, 0, none⟩))), (3, (.pointer (some ⟨g56, 0, none⟩))), (33, (.bool (((decide (p1.Write ≥ 0)) && (decide (p1.Write < p0.Symbols))) && (decide (p1.Move ≥ 0)))))] [] (fun fb => by kernel_rfl) rfl trivial ?_
  refine WL.cutV (T := Bool) 20 (fun t => [(37, (.bool t)), (2, (.pointer (some ⟨g52, 0, none⟩))), (3, (.pointer (some ⟨g56, 0, none⟩)))]) (fun t => t = ((((decide (p1.Write ≥ 0)) && (decide (p1.Write < p0.Symbols))) && (decide (p1.Move ≥ 0))) && (decide (p1.Move < 2)))) (fun K => ?_) ?_
  ·
    rcases Bool.eq_false_or_eq_true (((decide (p1.Write ≥ 0)) && (decide (p1.Write < p0.Symbols))) && (decide (p1.Move ≥ 0))) with h67 | h67
    ·
      refine WL.setB 33 h67 rfl ?_
      refine seg 20 [.v (.int .i64 p1.Move)] [2, 3, 37] [(2, (.pointer (some ⟨g52, 0, none⟩))), (3, (.pointer (some ⟨g56, 0, none⟩))), (37, (.bool (decide (p1.Move < 2))))] [.cell ⟨g56, 1, none⟩ (.int .i64 p1.Move)] (fun fb => by kernel_rfl) rfl ⟨hS58.cell 0 rfl 1 rfl, trivial⟩ ?_
      exact WL.toV K (decide (p1.Move < 2)) [37, 2, 3] rfl (by rw [h67]; rfl)
    refine WL.setB 33 h67 rfl ?_
    refine seg 20 [] [2, 3, 37] [(2, (.pointer (some ⟨g52, 0, none⟩))), (3, (.pointer (some ⟨g56, 0, none⟩))), (37, (.bool false))] [] (fun fb => by kernel_rfl) rfl trivial ?_
    exact WL.toV K false [37, 2, 3] rfl (by rw [h67]; rfl)
  rintro b68 rfl
  refine seg 21 [] [2, 3, 38] [(2, (.pointer (some ⟨g52, 0, none⟩))), (3, (.pointer (some ⟨g56, 0, none⟩))), (38, (.bool ((((decide (p1.Write ≥ 0)) && (decide (p1.Write < p0.Symbols))) && (decide (p1.Move ≥ 0))) && (decide (p1.Move < 2)))))] [] (fun fb => by kernel_rfl) rfl trivial ?_
  refine WL.cutV (T := Bool) 25 (fun t => [(42, (.bool t)), (2, (.pointer (some ⟨g52, 0, none⟩))), (3, (.pointer (some ⟨g56, 0, none⟩)))]) (fun t => t = (((((decide (p1.Write ≥ 0)) && (decide (p1.Write < p0.Symbols))) && (decide (p1.Move ≥ 0))) && (decide (p1.Move < 2))) && (decide (p1.Next ≥ 0)))) (fun K => ?_) ?_
  ·
    rcases Bool.eq_false_or_eq_true ((((decide (p1.Write ≥ 0)) && (decide (p1.Write < p0.Symbols))) && (decide (p1.Move ≥ 0))) && (decide (p1.Move < 2))) with h69 | h69
    ·
      refine WL.setB 38 h69 rfl ?_
      refine seg 25 [.v (.int .i64 p1.Next)] [2, 3, 42] [(2, (.pointer (some ⟨g52, 0, none⟩))), (3, (.pointer (some ⟨g56, 0, none⟩))), (42, (.bool (decide (p1.Next ≥ 0))))] [.cell ⟨g56, 2, none⟩ (.int .i64 p1.Next)] (fun fb => by kernel_rfl) rfl ⟨hS58.cell 0 rfl 2 rfl, trivial⟩ ?_
      exact WL.toV K (decide (p1.Next ≥ 0)) [42, 2, 3] rfl (by rw [h69]; rfl)
    refine WL.setB 38 h69 rfl ?_
    refine seg 25 [] [2, 3, 42] [(2, (.pointer (some ⟨g52, 0, none⟩))), (3, (.pointer (some ⟨g56, 0, none⟩))), (42, (.bool false))] [] (fun fb => by kernel_rfl) rfl trivial ?_
    exact WL.toV K false [42, 2, 3] rfl (by rw [h69]; rfl)
  rintro b70 rfl
  refine seg 26 [] [2, 3, 43] [(2, (.pointer (some ⟨g52, 0, none⟩))), (3, (.pointer (some ⟨g56, 0, none⟩))), (43, (.bool (((((decide (p1.Write ≥ 0)) && (decide (p1.Write < p0.Symbols))) && (decide (p1.Move ≥ 0))) && (decide (p1.Move < 2))) && (decide (p1.Next ≥ 0)))))] [] (fun fb => by kernel_rfl) rfl trivial ?_
  refine WL.cutV (T := Bool) 32 (fun t => [(49, (.bool t))]) (fun t => t = ((((((decide (p1.Write ≥ 0)) && (decide (p1.Write < p0.Symbols))) && (decide (p1.Move ≥ 0))) && (decide (p1.Move < 2))) && (decide (p1.Next ≥ 0))) && (decide (p1.Next < p0.States)))) (fun K => ?_) ?_
  ·
    rcases Bool.eq_false_or_eq_true (((((decide (p1.Write ≥ 0)) && (decide (p1.Write < p0.Symbols))) && (decide (p1.Move ≥ 0))) && (decide (p1.Move < 2))) && (decide (p1.Next ≥ 0))) with h71 | h71
    ·
      refine WL.setB 43 h71 rfl ?_
      refine seg 32 [.v (.int .i64 p1.Next), .v (.int .i64 p0.States)] [49] [(49, (.bool (decide (p1.Next < p0.States))))] [.cell ⟨g56, 2, none⟩ (.int .i64 p1.Next), .cell ⟨g52, 0, none⟩ (.int .i64 p0.States)] (fun fb => by kernel_rfl) rfl ⟨hS58.cell 0 rfl 2 rfl, hS58.cell 1 rfl 0 rfl, trivial⟩ ?_
      exact WL.toV K (decide (p1.Next < p0.States)) [49] rfl (by rw [h71]; rfl)
    refine WL.setB 43 h71 rfl ?_
    refine seg 32 [] [49] [(49, (.bool false))] [] (fun fb => by kernel_rfl) rfl trivial ?_
    exact WL.toV K false [49] rfl (by rw [h71]; rfl)
  rintro b72 rfl
  refine seg 33 [] [4] [(4, (.bool ((((((decide (p1.Write ≥ 0)) && (decide (p1.Write < p0.Symbols))) && (decide (p1.Move ≥ 0))) && (decide (p1.Move < 2))) && (decide (p1.Next ≥ 0))) && (decide (p1.Next < p0.States)))))] [] (fun fb => by kernel_rfl) rfl trivial ?_
  refine WL.done rfl ?_
  refine WX.next ?_
  refine WC.ret ?_
  injection hf with hf
  subst hf
  exact WX.ret_ [] (.bool ((((((decide (p1.Write ≥ 0)) && (decide (p1.Write < p0.Symbols))) && (decide (p1.Move ≥ 0))) && (decide (p1.Move < 2))) && (decide (p1.Next ≥ 0))) && (decide (p1.Next < p0.States)))) [] (fun fb => by kernel_rfl) trivial ⟨_, rfl, rfl, hS58.keep⟩
theorem machine_Valid_1_calls (p0 : Action) (f0 : Machine) (g_f0 : Nat) (A_f0_Actions : Option Addr) (c_f0_Actions : Nat) (r : Bool) (w : World) (hR0 : RO NoS w (blk g_f0 (.cells #[(.int .i64 f0.States), (.int .i64 f0.Symbols), (.slice A_f0_Actions f0.Actions.length c_f0_Actions)] 24 (0, 0)))) (hR1 : RO NoS w (rowR enc_Action A_f0_Actions c_f0_Actions f0.Actions)) (hf : machine_Valid_1 p0 f0 = some r) :
    CallsR Try.prog 47 #[(.agg #[(.int .i64 p0.Write), (.int .i64 p0.Move), (.int .i64 p0.Next)]), (.pointer (some ⟨g_f0, 0, none⟩))] w (fun v w' => v = (.bool r) ∧ Keeps NoS w w') := by
  have hS : St NoS w w [blk g_f0 (.cells #[(.int .i64 f0.States), (.int .i64 f0.Symbols), (.slice A_f0_Actions f0.Actions.length c_f0_Actions)] 24 (0, 0)), rowR enc_Action A_f0_Actions c_f0_Actions f0.Actions] [] := St.init (ro_cons hR0 (ro_cons hR1 (ro_nil _ _)))
  refine enter 8 Try.func47 rfl Try.ntmps47 rfl ?_
  unfold machine_Valid_1 at hf
  refine WC.seq ?_
  refine WC.region ?_
  refine WL.new hS 2 [] (fun g => (.pointer (some ⟨g, 0, none⟩))) (.cells #[(.int .i64 p0.Write), (.int .i64 p0.Move), (.int .i64 p0.Next)] 88 (0, 0)) [] (fun fb g => by kernel_rfl) trivial (fun g48 w49 hS50 => ?_)
  refine ⟨trivial, ?_⟩
  refine seg 2 [] [1, 2] [(1, (.pointer (some ⟨g_f0, 0, none⟩))), (2, (.pointer (some ⟨g48, 0, none⟩)))] [] (fun fb => by kernel_rfl) rfl trivial ?_
  refine WL.done rfl ?_
  refine WX.next ?_
  refine WC.seq ?_
  refine WC.region ?_
  refine seg 2 [.v (.int .i64 f0.States), .v (.int .i64 f0.Symbols), .v (.slice A_f0_Actions f0.Actions.length c_f0_Actions), .v (.int .i64 p0.Write), .v (.int .i64 p0.Move), .v (.int .i64 p0.Next)] [4, 5] [(4, (.agg #[(.int .i64 f0.States), (.int .i64 f0.Symbols), (.slice A_f0_Actions f0.Actions.length c_f0_Actions)])), (5, (.agg #[(.int .i64 p0.Write), (.int .i64 p0.Move), (.int .i64 p0.Next)]))] [.cell ⟨g_f0, 0, none⟩ (.int .i64 f0.States), .cell ⟨g_f0, 1, none⟩ (.int .i64 f0.Symbols), .cell ⟨g_f0, 2, none⟩ (.slice A_f0_Actions f0.Actions.length c_f0_Actions), .cell ⟨g48, 0, none⟩ (.int .i64 p0.Write), .cell ⟨g48, 1, none⟩ (.int .i64 p0.Move), .cell ⟨g48, 2, none⟩ (.int .i64 p0.Next)] (fun fb => by kernel_rfl) rfl ⟨blk_cell (hS50.rd 0).1 0 rfl, blk_cell (hS50.rd 0).1 1 rfl, blk_cell (hS50.rd 0).1 2 rfl, hS50.cell 0 rfl 0 rfl, hS50.cell 0 rfl 1 rfl, hS50.cell 0 rfl 2 rfl, trivial⟩ ?_
  obtain ⟨t73, ht74, hf⟩ := bind_some hf
  refine WL.call (some 6) 48 #[(.agg #[(.int .i64 f0.States), (.int .i64 f0.Symbols), (.slice A_f0_Actions f0.Actions.length c_f0_Actions)]), (.agg #[(.int .i64 p0.Write), (.int .i64 p0.Move), (.int .i64 p0.Next)])] (fun fb => by kernel_rfl) (machine_action_calls f0 p0 A_f0_Actions c_f0_Actions t73 _ (hS50.rd 1) ht74) (fun v w75 hR76 => ?_)
  obtain ⟨rfl, hk_⟩ := hR76
  have hS77 := hS50.keepN hk_
  refine ⟨trivial, ?_⟩
  refine seg 5 [] [3] [(3, (.bool (!t73)))] [] (fun fb => by kernel_rfl) rfl trivial ?_
  refine WL.done rfl ?_
  refine WX.next ?_
  refine WC.ret ?_
  injection hf with hf
  subst hf
  exact WX.ret_ [] (.bool (!t73)) [] (fun fb => by kernel_rfl) trivial ⟨_, rfl, rfl, hS77.keep⟩
theorem slices_IndexFunc_api_Action_api_Action_with_machine_Valid_1_calls (k : Nat) (p0 : List Action) (p1_0 : Machine) (A_p0 : Option Addr) (c_p0 : Nat) (g_p1_0 : Nat) (A_p1_0_Actions : Option Addr) (c_p1_0_Actions : Nat) (r : Int) (w : World) (hR0 : RO NoS w (rowR enc_Action A_p0 c_p0 p0)) (hR1 : RO NoS w (blk g_p1_0 (.cells #[(.int .i64 p1_0.States), (.int .i64 p1_0.Symbols), (.slice A_p1_0_Actions p1_0.Actions.length c_p1_0_Actions)] 24 (0, 0)))) (hR2 : RO NoS w (rowR enc_Action A_p1_0_Actions c_p1_0_Actions p1_0.Actions)) (hf : slices_IndexFunc_api_Action_api_Action_with_machine_Valid_1 k p0 p1_0 = some r) :
    CallsR Try.prog 64 #[(.slice A_p0 p0.length c_p0), (.func (.func 47) #[] #[(.pointer (some ⟨g_p1_0, 0, none⟩))])] w (fun v w' => v = (.int .i64 r) ∧ Keeps NoS w w') := by
  have hS : St NoS w w [rowR enc_Action A_p0 c_p0 p0, blk g_p1_0 (.cells #[(.int .i64 p1_0.States), (.int .i64 p1_0.Symbols), (.slice A_p1_0_Actions p1_0.Actions.length c_p1_0_Actions)] 24 (0, 0)), rowR enc_Action A_p1_0_Actions c_p1_0_Actions p1_0.Actions] [] := St.init (ro_cons hR0 (ro_cons hR1 (ro_cons hR2 (ro_nil _ _))))
  refine enter 19 Try.func64 rfl Try.ntmps64 rfl ?_
  unfold slices_IndexFunc_api_Action_api_Action_with_machine_Valid_1 at hf
  refine WC.seq ?_
  refine WC.region ?_
  refine seg 1 [] [0, 1] [(0, (.slice A_p0 p0.length c_p0)), (1, (.func (.func 47) #[] #[(.pointer (some ⟨g_p1_0, 0, none⟩))]))] [] (fun fb => by kernel_rfl) rfl trivial ?_
  refine WL.done rfl ?_
  refine WX.next ?_
  refine WC.seq ?_
  refine WC.seq ?_
  refine WC.region ?_
  refine seg 3 [] [0, 1, 7, 8] [(0, (.slice A_p0 p0.length c_p0)), (1, (.func (.func 47) #[] #[(.pointer (some ⟨g_p1_0, 0, none⟩))])), (7, (.int .i64 (p0.length : Int))), (8, (.int .i64 0))] [] (fun fb => by kernel_rfl) rfl trivial ?_
  refine WL.done rfl ?_
  refine WX.next ?_
  obtain ⟨x94, hx95, hf⟩ := bind_some hf
  refine WC.cutN (T := Unit) (fun t => []) (fun t w1 => St NoS w w1 [rowR enc_Action A_p0 c_p0 p0, blk g_p1_0 (.cells #[(.int .i64 p1_0.States), (.int .i64 p1_0.Symbols), (.slice A_p1_0_Actions p1_0.Actions.length c_p1_0_Actions)] 24 (0, 0)), rowR enc_Action A_p1_0_Actions c_p1_0_Actions p1_0.Actions] [] ∧ x94 = .inr t) (fun Kx94 => ?_) ?_
  ·
    refine WC.block ?_
    refine WC.loop (T := Int) (fun t => [(0, (.slice A_p0 p0.length c_p0)), (1, (.func (.func 47) #[] #[(.pointer (some ⟨g_p1_0, 0, none⟩))])), (7, (.int .i64 (p0.length : Int))), (8, (.int .i64 t))]) (fun n t w1 => St NoS w w1 [rowR enc_Action A_p0 c_p0 p0, blk g_p1_0 (.cells #[(.int .i64 p1_0.States), (.int .i64 p1_0.Symbols), (.slice A_p1_0_Actions p1_0.Actions.length c_p1_0_Actions)] 24 (0, 0)), rowR enc_Action A_p1_0_Actions c_p1_0_Actions p1_0.Actions] [] ∧ slices_IndexFunc_api_Action_api_Action_with_machine_Valid_1.l0 n t p0 p1_0 = some x94) k 0 [0, 1, 7, 8] rfl ⟨(hS.subR [0, 1, 2]).sub [] (by decide), hx95⟩ ?_
    rintro k96 x93 w97 ⟨hS98, hl99⟩
    cases k96 with
    | zero => rw [slices_IndexFunc_api_Action_api_Action_with_machine_Valid_1.l0] at hl99; cases hl99
    | succ k96 =>
      rw [slices_IndexFunc_api_Action_api_Action_with_machine_Valid_1.l0] at hl99
      refine WC.seq ?_
      refine WC.region ?_
      refine seg 1 [] [0, 1, 7, 8, 9] [(0, (.slice A_p0 p0.length c_p0)), (1, (.func (.func 47) #[] #[(.pointer (some ⟨g_p1_0, 0, none⟩))])), (7, (.int .i64 (p0.length : Int))), (8, (.int .i64 x93)), (9, (.bool (decide (x93 < (p0.length : Int)))))] [] (fun fb => by kernel_rfl) rfl trivial ?_
      refine WL.done rfl ?_
      refine WX.next ?_
      refine WC.seq ?_
      rcases br_some hl99 with ⟨h100, hl99⟩ | ⟨h100, hl99⟩
      · refine WC.condT2 (fun fb => by kernel_rfl) h100 ?_
        refine WC.skip ?_
        refine WX.next ?_
        refine WC.seq ?_
        refine WC.block ?_
        refine WC.seq ?_
        refine WC.region ?_
        refine seg 2 [] [0, 1, 5, 7, 8] [(0, (.slice A_p0 p0.length c_p0)), (1, (.func (.func 47) #[] #[(.pointer (some ⟨g_p1_0, 0, none⟩))])), (5, (.int .i64 x93)), (7, (.int .i64 (p0.length : Int))), (8, (.int .i64 x93))] [] (fun fb => by kernel_rfl) rfl trivial ?_
        refine WL.done rfl ?_
        refine WX.next ?_
        refine WC.seq ?_
        refine WC.region ?_
        refine seg 3 [] [0, 1, 5, 7, 8, 11, 12, 13] [(0, (.slice A_p0 p0.length c_p0)), (1, (.func (.func 47) #[] #[(.pointer (some ⟨g_p1_0, 0, none⟩))])), (5, (.int .i64 x93)), (7, (.int .i64 (p0.length : Int))), (8, (.int .i64 x93)), (11, (.func (.func 47) #[] #[(.pointer (some ⟨g_p1_0, 0, none⟩))])), (12, (.slice A_p0 p0.length c_p0)), (13, (.int .i64 x93))] [] (fun fb => by kernel_rfl) rfl trivial ?_
        obtain ⟨h101, hl99⟩ := as_some hl99
        refine seg 5 [.v (.int .i64 ((rdD p0 x93 z_Action).Write)), .v (.int .i64 ((rdD p0 x93 z_Action).Move)), .v (.int .i64 ((rdD p0 x93 z_Action).Next))] [0, 1, 5, 7, 8, 11, 15] [(0, (.slice A_p0 p0.length c_p0)), (1, (.func (.func 47) #[] #[(.pointer (some ⟨g_p1_0, 0, none⟩))])), (5, (.int .i64 x93)), (7, (.int .i64 (p0.length : Int))), (8, (.int .i64 x93)), (11, (.func (.func 47) #[] #[(.pointer (some ⟨g_p1_0, 0, none⟩))])), (15, (.agg #[(.int .i64 ((rdD p0 x93 z_Action).Write)), (.int .i64 ((rdD p0 x93 z_Action).Move)), (.int .i64 ((rdD p0 x93 z_Action).Next))]))] [.idx A_p0 x93 p0.length, .cell ((adr A_p0).add ((x93).toNat * 3)) (.int .i64 ((rdD p0 x93 z_Action).Write)), .cell (((adr A_p0).add ((x93).toNat * 3)).add 1) (.int .i64 ((rdD p0 x93 z_Action).Move)), .cell (((adr A_p0).add ((x93).toNat * 3)).add 2) (.int .i64 ((rdD p0 x93 z_Action).Next))] (fun fb => by kernel_rfl) rfl ⟨rowR.adr (hS98.rd 0).1 h101.1 h101.2, rowR.cell (hS98.rd 0).1 z_Action h101.1 h101.2 0 rfl, rowR.cell (hS98.rd 0).1 z_Action h101.1 h101.2 1 rfl, rowR.cell (hS98.rd 0).1 z_Action h101.1 h101.2 2 rfl, trivial⟩ ?_
        obtain ⟨t102, ht103, hl99⟩ := bind_some hl99
        refine WL.call (some 16) 47 #[(.agg #[(.int .i64 ((rdD p0 x93 z_Action).Write)), (.int .i64 ((rdD p0 x93 z_Action).Move)), (.int .i64 ((rdD p0 x93 z_Action).Next))]), (.pointer (some ⟨g_p1_0, 0, none⟩))] (fun fb => by kernel_rfl) (machine_Valid_1_calls (rdD p0 x93 z_Action) p1_0 g_p1_0 A_p1_0_Actions c_p1_0_Actions t102 _ (hS98.rd 1) (hS98.rd 2) ht103) (fun v w104 hR105 => ?_)
        obtain ⟨rfl, hk_⟩ := hR105
        have hS106 := hS98.keepN hk_
        refine ⟨trivial, ?_⟩
        refine WL.done rfl ?_
        refine WX.next ?_
        rcases br_some hl99 with ⟨h107, hl99⟩ | ⟨h107, hl99⟩
        · refine WC.condT2 (fun fb => by kernel_rfl) h107 ?_
          refine WC.seq ?_
          refine WC.region ?_
          refine seg 2 [] [4] [(4, (.int .i64 x93))] [] (fun fb => by kernel_rfl) rfl trivial ?_
          refine WL.done rfl ?_
          refine WX.next ?_
          refine WC.ret ?_
          injection hl99 with hl99
          subst hl99
          injection hf with hf
          subst hf
          exact WX.blockR (WX.thenR (WX.thenR (WX.blockR (WX.thenR (WX.ret_ [] (.int .i64 x93) [] (fun fb => by kernel_rfl) trivial ⟨_, rfl, rfl, hS106.keep⟩)))))
        refine WC.condF2 (fun fb => by kernel_rfl) h107 ?_
        refine WC.skip ?_
        refine WX.blockN (WX.next ?_)
        refine WC.region ?_
        refine seg 2 [] [0, 1, 7, 8] [(0, (.slice A_p0 p0.length c_p0)), (1, (.func (.func 47) #[] #[(.pointer (some ⟨g_p1_0, 0, none⟩))])), (7, (.int .i64 (p0.length : Int))), (8, (.int .i64 (w64 (x93 + 1))))] [] (fun fb => by kernel_rfl) rfl trivial ?_
        refine WL.done rfl ?_
        exact WX.again k96 (Nat.lt_succ_self _) (w64 (x93 + 1)) [0, 1, 7, 8] rfl ⟨(hS106.subR [0, 1, 2]).sub [] (by decide), hl99⟩
      refine WC.condF2 (fun fb => by kernel_rfl) h100 ?_
      refine WC.exit ?_
      injection hl99 with hl99
      exact WX.thenX (WX.thenX (WX.blockHere (WX.to Kx94 () [] rfl ⟨(hS98.subR [0, 1, 2]).sub [] (by decide), hl99.symm⟩)))
  rintro y111 w108 ⟨hS109, hq110⟩
  subst hq110
  have hf := sum_inr hf
  refine WX.next ?_
  refine WC.seq ?_
  refine WC.region ?_
  refine seg 1 [] [4] [(4, (.int .i64 (-1)))] [] (fun fb => by kernel_rfl) rfl trivial ?_
  refine WL.done rfl ?_
  refine WX.next ?_
  refine WC.ret ?_
  injection hf with hf
  subst hf
  exact WX.ret_ [] (.int .i64 (-1)) [] (fun fb => by kernel_rfl) trivial ⟨_, rfl, rfl, hS109.keep⟩
theorem slices_ContainsFunc_api_Action_api_Action_with_machine_Valid_1_calls (k : Nat) (p0 : List Action) (p1_0 : Machine) (A_p0 : Option Addr) (c_p0 : Nat) (g_p1_0 : Nat) (A_p1_0_Actions : Option Addr) (c_p1_0_Actions : Nat) (r : Bool) (w : World) (hR0 : RO NoS w (rowR enc_Action A_p0 c_p0 p0)) (hR1 : RO NoS w (blk g_p1_0 (.cells #[(.int .i64 p1_0.States), (.int .i64 p1_0.Symbols), (.slice A_p1_0_Actions p1_0.Actions.length c_p1_0_Actions)] 24 (0, 0)))) (hR2 : RO NoS w (rowR enc_Action A_p1_0_Actions c_p1_0_Actions p1_0.Actions)) (hf : slices_ContainsFunc_api_Action_api_Action_with_machine_Valid_1 k p0 p1_0 = some r) :
    CallsR Try.prog 46 #[(.slice A_p0 p0.length c_p0), (.func (.func 47) #[] #[(.pointer (some ⟨g_p1_0, 0, none⟩))])] w (fun v w' => v = (.bool r) ∧ Keeps NoS w w') := by
  have hS : St NoS w w [rowR enc_Action A_p0 c_p0 p0, blk g_p1_0 (.cells #[(.int .i64 p1_0.States), (.int .i64 p1_0.Symbols), (.slice A_p1_0_Actions p1_0.Actions.length c_p1_0_Actions)] 24 (0, 0)), rowR enc_Action A_p1_0_Actions c_p1_0_Actions p1_0.Actions] [] := St.init (ro_cons hR0 (ro_cons hR1 (ro_cons hR2 (ro_nil _ _))))
  refine enter 9 Try.func46 rfl Try.ntmps46 rfl ?_
  unfold slices_ContainsFunc_api_Action_api_Action_with_machine_Valid_1 at hf
  refine WC.seq ?_
  refine WC.region ?_
  refine seg 1 [] [0, 1] [(0, (.slice A_p0 p0.length c_p0)), (1, (.func (.func 47) #[] #[(.pointer (some ⟨g_p1_0, 0, none⟩))]))] [] (fun fb => by kernel_rfl) rfl trivial ?_
  refine WL.done rfl ?_
  refine WX.next ?_
  refine WC.seq ?_
  refine WC.region ?_
  refine seg 2 [] [5, 6] [(5, (.slice A_p0 p0.length c_p0)), (6, (.func (.func 47) #[] #[(.pointer (some ⟨g_p1_0, 0, none⟩))]))] [] (fun fb => by kernel_rfl) rfl trivial ?_
  obtain ⟨t113, ht114, hf⟩ := bind_some hf
  refine WL.call (some 7) 64 #[(.slice A_p0 p0.length c_p0), (.func (.func 47) #[] #[(.pointer (some ⟨g_p1_0, 0, none⟩))])] (fun fb => by kernel_rfl) (slices_IndexFunc_api_Action_api_Action_with_machine_Valid_1_calls _ p0 p1_0 A_p0 c_p0 g_p1_0 A_p1_0_Actions c_p1_0_Actions t113 _ (hS.rd 0) (hS.rd 1) (hS.rd 2) ht114) (fun v w115 hR116 => ?_)
  obtain ⟨rfl, hk_⟩ := hR116
  have hS117 := hS.keepN hk_
  refine ⟨trivial, ?_⟩
  refine seg 5 [] [4] [(4, (.bool (decide (t113 ≥ 0))))] [] (fun fb => by kernel_rfl) rfl trivial ?_
  refine WL.done rfl ?_
  refine WX.next ?_
  refine WC.ret ?_
  injection hf with hf
  subst hf
  exact WX.ret_ [] (.bool (decide (t113 ≥ 0))) [] (fun fb => by kernel_rfl) trivial ⟨_, rfl, rfl, hS117.keep⟩
theorem machine_Valid_calls (k : Nat) (p0 : Machine) (A_p0_Actions : Option Addr) (c_p0_Actions : Nat) (r : Bool) (w : World) (hR0 : RO NoS w (rowR enc_Action A_p0_Actions c_p0_Actions p0.Actions)) (hf : machine_Valid k p0 = some r) :
    CallsR Try.prog 16 #[(.agg #[(.int .i64 p0.States), (.int .i64 p0.Symbols), (.slice A_p0_Actions p0.Actions.length c_p0_Actions)])] w (fun v w' => v = (.bool r) ∧ Keeps NoS w w') := by
  have hS : St NoS w w [rowR enc_Action A_p0_Actions c_p0_Actions p0.Actions] [] := St.init (ro_cons hR0 (ro_nil _ _))
  refine enter 39 Try.func16 rfl Try.ntmps16 rfl ?_
  unfold machine_Valid at hf
  refine WC.seq ?_
  refine WC.region ?_
  refine WL.new hS 1 [] (fun g => (.pointer (some ⟨g, 0, none⟩))) (.cells #[(.int .i64 p0.States), (.int .i64 p0.Symbols), (.slice A_p0_Actions p0.Actions.length c_p0_Actions)] 24 (0, 0)) [] (fun fb g => by kernel_rfl) trivial (fun g34 w35 hS36 => ?_)
  refine ⟨trivial, ?_⟩
  refine seg 2 [] [1] [(1, (.pointer (some ⟨g34, 0, none⟩)))] [] (fun fb => by kernel_rfl) rfl trivial ?_
  refine WL.done rfl ?_
  refine WX.next ?_
  refine WC.seq ?_
  refine WC.region ?_
  refine seg 4 [.v (.int .i64 p0.States)] [1, 6] [(1, (.pointer (some ⟨g34, 0, none⟩))), (6, (.bool (decide (p0.States ≥ 1))))] [.cell ⟨g34, 0, none⟩ (.int .i64 p0.States)] (fun fb => by kernel_rfl) rfl ⟨hS36.cell 0 rfl 0 rfl, trivial⟩ ?_
  refine WL.cutV (T := Bool) 8 (fun t => [(10, (.bool t)), (1, (.pointer (some ⟨g34, 0, none⟩)))]) (fun t => t = ((decide (p0.States ≥ 1)) && (decide (p0.States ≤ 6)))) (fun K => ?_) ?_
  ·
    rcases Bool.eq_false_or_eq_true (decide (p0.States ≥ 1)) with h38 | h38
    ·
      refine WL.setB 6 h38 rfl ?_
      refine seg 8 [.v (.int .i64 p0.States)] [1, 10] [(1, (.pointer (some ⟨g34, 0, none⟩))), (10, (.bool (decide (p0.States ≤ 6))))] [.cell ⟨g34, 0, none⟩ (.int .i64 p0.States)] (fun fb => by kernel_rfl) rfl ⟨hS36.cell 0 rfl 0 rfl, trivial⟩ ?_
      exact WL.toV K (decide (p0.States ≤ 6)) [10, 1] rfl (by rw [h38]; rfl)
    refine WL.setB 6 h38 rfl ?_
    refine seg 8 [] [1, 10] [(1, (.pointer (some ⟨g34, 0, none⟩))), (10, (.bool false))] [] (fun fb => by kernel_rfl) rfl trivial ?_
    exact WL.toV K false [10, 1] rfl (by rw [h38]; rfl)
  rintro b39 rfl
  refine seg 9 [] [1, 11] [(1, (.pointer (some ⟨g34, 0, none⟩))), (11, (.bool ((decide (p0.States ≥ 1)) && (decide (p0.States ≤ 6)))))] [] (fun fb => by kernel_rfl) rfl trivial ?_
  refine WL.cutV (T := Bool) 13 (fun t => [(15, (.bool t)), (1, (.pointer (some ⟨g34, 0, none⟩)))]) (fun t => t = (((decide (p0.States ≥ 1)) && (decide (p0.States ≤ 6))) && (decide (p0.Symbols ≥ 2)))) (fun K => ?_) ?_
  ·
    rcases Bool.eq_false_or_eq_true ((decide (p0.States ≥ 1)) && (decide (p0.States ≤ 6))) with h40 | h40
    ·
      refine WL.setB 11 h40 rfl ?_
      refine seg 13 [.v (.int .i64 p0.Symbols)] [1, 15] [(1, (.pointer (some ⟨g34, 0, none⟩))), (15, (.bool (decide (p0.Symbols ≥ 2))))] [.cell ⟨g34, 1, none⟩ (.int .i64 p0.Symbols)] (fun fb => by kernel_rfl) rfl ⟨hS36.cell 0 rfl 1 rfl, trivial⟩ ?_
      exact WL.toV K (decide (p0.Symbols ≥ 2)) [15, 1] rfl (by rw [h40]; rfl)
    refine WL.setB 11 h40 rfl ?_
    refine seg 13 [] [1, 15] [(1, (.pointer (some ⟨g34, 0, none⟩))), (15, (.bool false))] [] (fun fb => by kernel_rfl) rfl trivial ?_
    exact WL.toV K false [15, 1] rfl (by rw [h40]; rfl)
  rintro b41 rfl
  refine seg 14 [] [1, 16] [(1, (.pointer (some ⟨g34, 0, none⟩))), (16, (.bool (((decide (p0.States ≥ 1)) && (decide (p0.States ≤ 6))) && (decide (p0.Symbols ≥ 2)))))] [] (fun fb => by kernel_rfl) rfl trivial ?_
  refine WL.cutV (T := Bool) 18 (fun t => [(20, (.bool t)), (1, (.pointer (some ⟨g34, 0, none⟩)))]) (fun t => t = ((((decide (p0.States ≥ 1)) && (decide (p0.States ≤ 6))) && (decide (p0.Symbols ≥ 2))) && (decide (p0.Symbols ≤ 4)))) (fun K => ?_) ?_
  ·
    rcases Bool.eq_false_or_eq_true (((decide (p0.States ≥ 1)) && (decide (p0.States ≤ 6))) && (decide (p0.Symbols ≥ 2))) with h42 | h42
    ·
      refine WL.setB 16 h42 rfl ?_
      refine seg 18 [.v (.int .i64 p0.Symbols)] [1, 20] [(1, (.pointer (some ⟨g34, 0, none⟩))), (20, (.bool (decide (p0.Symbols ≤ 4))))] [.cell ⟨g34, 1, none⟩ (.int .i64 p0.Symbols)] (fun fb => by kernel_rfl) rfl ⟨hS36.cell 0 rfl 1 rfl, trivial⟩ ?_
      exact WL.toV K (decide (p0.Symbols ≤ 4)) [20, 1] rfl (by rw [h42]; rfl)
    refine WL.setB 16 h42 rfl ?_
    refine seg 18 [] [1, 20] [(1, (.pointer (some ⟨g34, 0, none⟩))), (20, (.bool false))] [] (fun fb => by kernel_rfl) rfl trivial ?_
    exact WL.toV K false [20, 1] rfl (by rw [h42]; rfl)
  rintro b43 rfl
  refine seg 19 [] [1, 21] [(1, (.pointer (some ⟨g34, 0, none⟩))), (21, (.bool ((((decide (p0.States ≥ 1)) && (decide (p0.States ≤ 6))) && (decide (p0.Symbols ≥ 2))) && (decide (p0.Symbols ≤ 4)))))] [] (fun fb => by kernel_rfl) rfl trivial ?_
  refine WL.cutV (T := Bool) 29 (fun t => [(31, (.bool t)), (1, (.pointer (some ⟨g34, 0, none⟩)))]) (fun t => t = (((((decide (p0.States ≥ 1)) && (decide (p0.States ≤ 6))) && (decide (p0.Symbols ≥ 2))) && (decide (p0.Symbols ≤ 4))) && ((p0.Actions.length : Int) == (w64 (p0.States * p0.Symbols))))) (fun K => ?_) ?_
  ·
    rcases Bool.eq_false_or_eq_true ((((decide (p0.States ≥ 1)) && (decide (p0.States ≤ 6))) && (decide (p0.Symbols ≥ 2))) && (decide (p0.Symbols ≤ 4))) with h44 | h44
    ·
      refine WL.setB 21 h44 rfl ?_
      refine seg 29 [.v (.slice A_p0_Actions p0.Actions.length c_p0_Actions), .v (.int .i64 p0.States), .v (.int .i64 p0.Symbols)] [1, 31] [(1, (.pointer (some ⟨g34, 0, none⟩))), (31, (.bool ((p0.Actions.length : Int) == (w64 (p0.States * p0.Symbols)))))] [.cell ⟨g34, 2, none⟩ (.slice A_p0_Actions p0.Actions.length c_p0_Actions), .cell ⟨g34, 0, none⟩ (.int .i64 p0.States), .cell ⟨g34, 1, none⟩ (.int .i64 p0.Symbols)] (fun fb => by kernel_rfl) rfl ⟨hS36.cell 0 rfl 2 rfl, hS36.cell 0 rfl 0 rfl, hS36.cell 0 rfl 1 rfl, trivial⟩ ?_
      exact WL.toV K ((p0.Actions.length : Int) == (w64 (p0.States * p0.Symbols))) [31, 1] rfl (by rw [h44]; rfl)
    refine WL.setB 21 h44 rfl ?_
    refine seg 29 [] [1, 31] [(1, (.pointer (some ⟨g34, 0, none⟩))), (31, (.bool false))] [] (fun fb => by kernel_rfl) rfl trivial ?_
    exact WL.toV K false [31, 1] rfl (by rw [h44]; rfl)
  rintro b45 rfl
  refine seg 30 [] [1, 32] [(1, (.pointer (some ⟨g34, 0, none⟩))), (32, (.bool (((((decide (p0.States ≥ 1)) && (decide (p0.States ≤ 6))) && (decide (p0.Symbols ≥ 2))) && (decide (p0.Symbols ≤ 4))) && ((p0.Actions.length : Int) == (w64 (p0.States * p0.Symbols))))))] [] (fun fb => by kernel_rfl) rfl trivial ?_
  obtain ⟨x124, hx125, hf⟩ := bind_some hf
  refine WL.cutW (T := Bool) 36 (fun t => [(38, (.bool t))]) (fun t w1 => (St NoS w w1 [rowR enc_Action A_p0_Actions c_p0_Actions p0.Actions] [] ∧ x124 = t) ∧ CellsOK [] w1) (fun K => ?_) ?_
  ·
    rcases br_some hx125 with ⟨h126, hx125⟩ | ⟨h126, hx125⟩
    ·
      refine WL.setB 32 h126 rfl ?_
      refine seg 33 [.v (.slice A_p0_Actions p0.Actions.length c_p0_Actions)] [32, 34, 35] [(32, (.bool true)), (34, (.slice A_p0_Actions p0.Actions.length c_p0_Actions)), (35, (.func (.func 47) #[] #[(.pointer (some ⟨g34, 0, none⟩))]))] [.cell ⟨g34, 2, none⟩ (.slice A_p0_Actions p0.Actions.length c_p0_Actions)] (fun fb => by kernel_rfl) rfl ⟨hS36.cell 0 rfl 2 rfl, trivial⟩ ?_
      obtain ⟨t127, ht128, hx125⟩ := bind_some hx125
      refine WL.call (some 36) 46 #[(.slice A_p0_Actions p0.Actions.length c_p0_Actions), (.func (.func 47) #[] #[(.pointer (some ⟨g34, 0, none⟩))])] (fun fb => by kernel_rfl) (slices_ContainsFunc_api_Action_api_Action_with_machine_Valid_1_calls _ p0.Actions p0 A_p0_Actions c_p0_Actions g34 A_p0_Actions c_p0_Actions t127 _ (hS36.rd 0) (hS36.ow 0) (hS36.rd 0) ht128) (fun v w129 hR130 => ?_)
      obtain ⟨rfl, hk_⟩ := hR130
      have hS131 := hS36.keepN hk_
      refine ⟨trivial, ?_⟩
      refine seg 36 [] [38] [(38, (.bool (!t127)))] [] (fun fb => by kernel_rfl) rfl trivial ?_
      injection hx125 with hx125
      exact WL.to K (!t127) [38] rfl ⟨⟨(hS131.subR [0]).sub [] (by decide), hx125.symm⟩, trivial⟩
    refine WL.setB 32 h126 rfl ?_
    refine seg 36 [] [38] [(38, (.bool false))] [] (fun fb => by kernel_rfl) rfl trivial ?_
    injection hx125 with hx125
    exact WL.to K false [38] rfl ⟨⟨(hS36.subR [0]).sub [] (by decide), hx125.symm⟩, trivial⟩
  rintro y132 w134 ⟨⟨hS135, hq133⟩, hF136⟩
  subst hq133
  refine seg 37 [] [2] [(2, (.bool x124))] [] (fun fb => by kernel_rfl) rfl trivial ?_
  refine WL.done rfl ?_
  refine WX.next ?_
  refine WC.ret ?_
  injection hf with hf
  subst hf
  exact WX.ret_ [] (.bool x124) [] (fun fb => by kernel_rfl) trivial ⟨_, rfl, rfl, hS135.keep⟩
theorem machine_head_calls (p0 : Machine) (p1 : Int) (p2 : Int) (A_p0_Actions : Option Addr) (c_p0_Actions : Nat) (r : Int) (w : World) (hR0 : RO NoS w (rowR enc_Action A_p0_Actions c_p0_Actions p0.Actions)) (hf : machine_head p0 p1 p2 = some r) :
    CallsR Try.prog 61 #[(.agg #[(.int .i64 p0.States), (.int .i64 p0.Symbols), (.slice A_p0_Actions p0.Actions.length c_p0_Actions)]), (.int .i64 p1), (.int .i64 p2)] w (fun v w' => v = (.int .i64 r) ∧ Keeps NoS w w') := by
  have hS : St NoS w w [rowR enc_Action A_p0_Actions c_p0_Actions p0.Actions] [] := St.init (ro_cons hR0 (ro_nil _ _))
  refine enter 16 Try.func61 rfl Try.ntmps61 rfl ?_
  unfold machine_head at hf
  refine WC.seq ?_
  refine WC.region ?_
  refine WL.new hS 3 [] (fun g => (.pointer (some ⟨g, 0, none⟩))) (.cells #[(.int .i64 p0.States), (.int .i64 p0.Symbols), (.slice A_p0_Actions p0.Actions.length c_p0_Actions)] 24 (0, 0)) [] (fun fb g => by kernel_rfl) trivial (fun g274 w275 hS276 => ?_)
  refine ⟨trivial, ?_⟩
  refine seg 2 [] [1, 2, 3] [(1, (.int .i64 p1)), (2, (.int .i64 p2)), (3, (.pointer (some ⟨g274, 0, none⟩)))] [] (fun fb => by kernel_rfl) rfl trivial ?_
  refine WL.done rfl ?_
  refine WX.next ?_
  refine WC.seq ?_
  refine WC.region ?_
  refine seg 10 [.v (.int .i64 p0.Symbols), .v (.int .i64 p0.Symbols)] [6] [(6, (.int .i64 (w64 ((w64 (p0.Symbols + (w64 (p1 * p0.Symbols)))) + p2))))] [.cell ⟨g274, 1, none⟩ (.int .i64 p0.Symbols), .cell ⟨g274, 1, none⟩ (.int .i64 p0.Symbols)] (fun fb => by kernel_rfl) rfl ⟨hS276.cell 0 rfl 1 rfl, hS276.cell 0 rfl 1 rfl, trivial⟩ ?_
  refine WL.done rfl ?_
  refine WX.next ?_
  refine WC.ret ?_
  injection hf with hf
  subst hf
  exact WX.ret_ [] (.int .i64 (w64 ((w64 (p0.Symbols + (w64 (p1 * p0.Symbols)))) + p2))) [] (fun fb => by kernel_rfl) trivial ⟨_, rfl, rfl, hS276.keep⟩
theorem machine_kit_signal_calls (p0 : Kit) (p1 : Int) (p2 : Int) (g_p0 : Nat) (A_p0_m_Actions : Option Addr) (c_p0_m_Actions : Nat) (A_p0_set : Option Addr) (c_p0_set : Nat) (A_p0_does : Option Addr) (c_p0_does : Nat) (r : Int) (w : World) (hR0 : RO NoS w (blk g_p0 (.cells #[(.int .i64 p0.m.States), (.int .i64 p0.m.Symbols), (.slice A_p0_m_Actions p0.m.Actions.length c_p0_m_Actions), (.slice A_p0_set p0.set.length c_p0_set), (.slice A_p0_does p0.does.length c_p0_does), (.int .i64 p0.base)] 96 (0, 0)))) (hR1 : RO NoS w (rowR enc_Action A_p0_m_Actions c_p0_m_Actions p0.m.Actions)) (hR2 : RO NoS w (rowR enc_Tile A_p0_set c_p0_set p0.set)) (hR3 : RO NoS w (rowR encInt A_p0_does c_p0_does p0.does)) (hf : machine_kit_signal p0 p1 p2 = some r) :
    CallsR Try.prog 62 #[(.pointer (some ⟨g_p0, 0, none⟩)), (.int .i64 p1), (.int .i64 p2)] w (fun v w' => v = (.int .i64 r) ∧ Keeps NoS w w') := by
  have hS : St NoS w w [blk g_p0 (.cells #[(.int .i64 p0.m.States), (.int .i64 p0.m.Symbols), (.slice A_p0_m_Actions p0.m.Actions.length c_p0_m_Actions), (.slice A_p0_set p0.set.length c_p0_set), (.slice A_p0_does p0.does.length c_p0_does), (.int .i64 p0.base)] 96 (0, 0)), rowR enc_Action A_p0_m_Actions c_p0_m_Actions p0.m.Actions, rowR enc_Tile A_p0_set c_p0_set p0.set, rowR encInt A_p0_does c_p0_does p0.does] [] := St.init (ro_cons hR0 (ro_cons hR1 (ro_cons hR2 (ro_cons hR3 (ro_nil _ _)))))
  refine enter 19 Try.func62 rfl Try.ntmps62 rfl ?_
  unfold machine_kit_signal at hf
  refine WC.seq ?_
  refine WC.region ?_
  refine seg 1 [] [0, 1, 2] [(0, (.pointer (some ⟨g_p0, 0, none⟩))), (1, (.int .i64 p1)), (2, (.int .i64 p2))] [] (fun fb => by kernel_rfl) rfl trivial ?_
  refine WL.done rfl ?_
  refine WX.next ?_
  refine WC.seq ?_
  refine WC.seq ?_
  refine WC.region ?_
  refine seg 2 [] [0, 2, 8] [(0, (.pointer (some ⟨g_p0, 0, none⟩))), (2, (.int .i64 p2)), (8, (.bool (p1 == 1)))] [] (fun fb => by kernel_rfl) rfl trivial ?_
  refine WL.done rfl ?_
  refine WX.next ?_
  rcases br_some hf with ⟨h349, hf⟩ | ⟨h349, hf⟩
  · refine WC.condT2 (fun fb => by kernel_rfl) h349 ?_
    refine WC.seq ?_
    refine WC.region ?_
    refine seg 3 [] [6] [(6, (.int .i64 (w64 (1 + p2))))] [] (fun fb => by kernel_rfl) rfl trivial ?_
    refine WL.done rfl ?_
    refine WX.next ?_
    refine WC.ret ?_
    injection hf with hf
    subst hf
    exact WX.thenR (WX.ret_ [] (.int .i64 (w64 (1 + p2))) [] (fun fb => by kernel_rfl) trivial ⟨_, rfl, rfl, hS.keep⟩)
  refine WC.condF2 (fun fb => by kernel_rfl) h349 ?_
  refine WC.skip ?_
  refine WX.next ?_
  refine WC.seq ?_
  refine WC.region ?_
  refine seg 9 [.v (.int .i64 p0.m.States)] [6] [(6, (.int .i64 (w64 ((w64 (1 + p0.m.States)) + p2))))] [.cell ⟨g_p0, 0, none⟩ (.int .i64 p0.m.States)] (fun fb => by kernel_rfl) rfl ⟨blk_cell (hS.rd 0).1 0 rfl, trivial⟩ ?_
  refine WL.done rfl ?_
  refine WX.next ?_
  refine WC.ret ?_
  injection hf with hf
  subst hf
  exact WX.ret_ [] (.int .i64 (w64 ((w64 (1 + p0.m.States)) + p2))) [] (fun fb => by kernel_rfl) trivial ⟨_, rfl, rfl, hS.keep⟩
theorem machine_kit_acts_calls (p0 : Kit) (p1 : Int) (p2 : Int) (p3 : Action) (g_p0 : Nat) (A_p0_m_Actions : Option Addr) (c_p0_m_Actions : Nat) (A_p0_set : Option Addr) (c_p0_set : Nat) (A_p0_does : Option Addr) (c_p0_does : Nat) (r : Tile) (w : World) (hR0 : RO NoS w (blk g_p0 (.cells #[(.int .i64 p0.m.States), (.int .i64 p0.m.Symbols), (.slice A_p0_m_Actions p0.m.Actions.length c_p0_m_Actions), (.slice A_p0_set p0.set.length c_p0_set), (.slice A_p0_does p0.does.length c_p0_does), (.int .i64 p0.base)] 96 (0, 0)))) (hR1 : RO NoS w (rowR enc_Action A_p0_m_Actions c_p0_m_Actions p0.m.Actions)) (hR2 : RO NoS w (rowR enc_Tile A_p0_set c_p0_set p0.set)) (hR3 : RO NoS w (rowR encInt A_p0_does c_p0_does p0.does)) (hf : machine_kit_acts p0 p1 p2 p3 = some r) :
    CallsR Try.prog 60 #[(.pointer (some ⟨g_p0, 0, none⟩)), (.int .i64 p1), (.int .i64 p2), (.agg #[(.int .i64 p3.Write), (.int .i64 p3.Move), (.int .i64 p3.Next)])] w (fun v w' => v = (.agg #[(.int .i64 r.N), (.int .i64 r.E), (.int .i64 r.S), (.int .i64 r.W)]) ∧ Keeps NoS w w') := by
  have hS : St NoS w w [blk g_p0 (.cells #[(.int .i64 p0.m.States), (.int .i64 p0.m.Symbols), (.slice A_p0_m_Actions p0.m.Actions.length c_p0_m_Actions), (.slice A_p0_set p0.set.length c_p0_set), (.slice A_p0_does p0.does.length c_p0_does), (.int .i64 p0.base)] 96 (0, 0)), rowR enc_Action A_p0_m_Actions c_p0_m_Actions p0.m.Actions, rowR enc_Tile A_p0_set c_p0_set p0.set, rowR encInt A_p0_does c_p0_does p0.does] [] := St.init (ro_cons hR0 (ro_cons hR1 (ro_cons hR2 (ro_cons hR3 (ro_nil _ _)))))
  refine enter 36 Try.func60 rfl Try.ntmps60 rfl ?_
  unfold machine_kit_acts at hf
  refine WC.seq ?_
  refine WC.region ?_
  refine WL.new hS 7 [] (fun g => (.pointer (some ⟨g, 0, none⟩))) (.cells #[(.int .i64 p3.Write), (.int .i64 p3.Move), (.int .i64 p3.Next)] 88 (0, 0)) [] (fun fb g => by kernel_rfl) trivial (fun g266 w267 hS268 => ?_)
  refine ⟨trivial, ?_⟩
  refine WL.new hS268 8 [] (fun g => (.pointer (some ⟨g, 0, none⟩))) (.cells #[(.int .i64 0), (.int .i64 0), (.int .i64 0), (.int .i64 0)] 65 (0, 0)) [] (fun fb g => by kernel_rfl) trivial (fun g270 w271 hS272 => ?_)
  refine ⟨trivial, ?_⟩
  refine WL.done rfl ?_
  refine WX.next ?_
  refine WC.seq ?_
  obtain ⟨x318, hx319, hf⟩ := bind_some hf
  refine WC.cutN (T := (Int × Int × Int × Int) × Nat) (fun t => [(0, (.pointer (some ⟨g_p0, 0, none⟩))), (7, (.pointer (some ⟨g266, 0, none⟩))), (8, (.pointer (some ⟨g270, 0, none⟩))), (9, (.pointer (some ⟨t.2, 0, none⟩)))]) (fun t w1 => St NoS w w1 [blk g_p0 (.cells #[(.int .i64 p0.m.States), (.int .i64 p0.m.Symbols), (.slice A_p0_m_Actions p0.m.Actions.length c_p0_m_Actions), (.slice A_p0_set p0.set.length c_p0_set), (.slice A_p0_does p0.does.length c_p0_does), (.int .i64 p0.base)] 96 (0, 0)), rowR enc_Action A_p0_m_Actions c_p0_m_Actions p0.m.Actions, rowR enc_Tile A_p0_set c_p0_set p0.set, rowR encInt A_p0_does c_p0_does p0.does] [blk g266 (.cells #[(.int .i64 p3.Write), (.int .i64 p3.Move), (.int .i64 p3.Next)] 88 (0, 0)), blk g270 (.cells #[(.int .i64 0), (.int .i64 0), (.int .i64 0), (.int .i64 0)] 65 (0, 0)), blk t.2 (.cells #[(.int .i64 t.1.1), (.int .i64 t.1.2.1), (.int .i64 t.1.2.2.1), (.int .i64 t.1.2.2.2)] 65 (0, 0))] ∧ x318 = t.1) (fun Kx318 => ?_) ?_
  ·
    refine WC.regionD ([(1, ⟨g266, 0, none⟩, (.int .i64 p3.Write)), (5, ⟨g_p0, 0, none⟩, (.int .i64 p0.m.States)), (5, ⟨g_p0, 1, none⟩, (.int .i64 p0.m.Symbols)), (5, ⟨g_p0, 2, none⟩, (.slice A_p0_m_Actions p0.m.Actions.length c_p0_m_Actions))], [0, 1, 2, 3, 4, 5, 6, 7, 9], [[], [0], [], [2], [2, 3], [2, 3, 4], [], [], [2, 3, 4, 5, 6, 7], [0, 1, 2, 3, 4, 5, 6, 7, 8], [], [0, 1, 2, 3, 4, 5, 6, 7, 8, 9, 10]]) [[0, 1, 2, 3, 4, 5, 6, 7, 8, 9, 10, 11], [0, 1, 2, 3, 4, 5, 6, 7, 10, 8, 9, 11]] (by kernel_rfl) (by kernel_rfl) (NoPanic.seq (NoPanic.body)) ?_
    have hS321 := hS272.drew
    revert hS321
    generalize World.drew w271 = w320
    intro hS321
    refine ⟨⟨hS321.cell 1 rfl 0 rfl, blk_cell (hS321.rd 0).1 0 rfl, blk_cell (hS321.rd 0).1 1 rfl, blk_cell (hS321.rd 0).1 2 rfl, trivial⟩, forallC ?_ (forallC ?_ (forallN))⟩
    ·
      refine segF 8 [.v (.int .i64 p3.Write), .v (.int .i64 p0.m.States), .v (.int .i64 p0.m.Symbols), .v (.slice A_p0_m_Actions p0.m.Actions.length c_p0_m_Actions)] [0, 7, 8, 12, 16, 17, 18] [(0, (.pointer (some ⟨g_p0, 0, none⟩))), (7, (.pointer (some ⟨g266, 0, none⟩))), (8, (.pointer (some ⟨g270, 0, none⟩))), (12, (.int .i64 p3.Write)), (16, (.agg #[(.int .i64 p0.m.States), (.int .i64 p0.m.Symbols), (.slice A_p0_m_Actions p0.m.Actions.length c_p0_m_Actions)])), (17, (.int .i64 p1)), (18, (.int .i64 p2))] [] [0, 1, 2, 3] [(1, ⟨g266, 0, none⟩, (.int .i64 p3.Write)), (5, ⟨g_p0, 0, none⟩, (.int .i64 p0.m.States)), (5, ⟨g_p0, 1, none⟩, (.int .i64 p0.m.Symbols)), (5, ⟨g_p0, 2, none⟩, (.slice A_p0_m_Actions p0.m.Actions.length c_p0_m_Actions))] (fun fb => by kernel_rfl) rfl trivial rfl ?_
      obtain ⟨t322, ht323, hx319⟩ := bind_some hx319
      refine WL.call (some 19) 61 #[(.agg #[(.int .i64 p0.m.States), (.int .i64 p0.m.Symbols), (.slice A_p0_m_Actions p0.m.Actions.length c_p0_m_Actions)]), (.int .i64 p1), (.int .i64 p2)] (fun fb => by kernel_rfl) (machine_head_calls p0.m p1 p2 A_p0_m_Actions c_p0_m_Actions t322 _ (hS321.rd 1) ht323) (fun v w324 hR325 => ?_)
      obtain ⟨rfl, hk_⟩ := hR325
      have hS326 := hS321.keepN hk_
      refine ⟨⟨hS326.cell 1 rfl 0 rfl, trivial⟩, ?_⟩
      refine seg 10 [] [0, 7, 8, 20] [(0, (.pointer (some ⟨g_p0, 0, none⟩))), (7, (.pointer (some ⟨g266, 0, none⟩))), (8, (.pointer (some ⟨g270, 0, none⟩))), (20, (.agg #[(.int .i64 p3.Write), (.int .i64 0), (.int .i64 t322), (.int .i64 0)]))] [] (fun fb => by kernel_rfl) rfl trivial ?_
      refine WL.new hS326 9 [] (fun g => (.pointer (some ⟨g, 0, none⟩))) (.cells #[(.int .i64 0), (.int .i64 0), (.int .i64 0), (.int .i64 0)] 65 (0, 0)) [] (fun fb g => by kernel_rfl) trivial (fun g327 w328 hS329 => ?_)
      refine ⟨⟨hS329.cell 2 rfl 0 rfl, blk_cell (hS329.rd 0).1 0 rfl, blk_cell (hS329.rd 0).1 1 rfl, blk_cell (hS329.rd 0).1 2 rfl, trivial⟩, ?_⟩
      refine WL.store hS329 0 rfl [(0, (.int .i64 p3.Write)), (1, (.int .i64 0)), (2, (.int .i64 t322)), (3, (.int .i64 0))] #[(.int .i64 p3.Write), (.int .i64 0), (.int .i64 t322), (.int .i64 0)] (fun fb => by kernel_rfl) (by kernel_rfl) rfl [1, 2] (by decide) (by decide) (fun w331 hS332 => ?_)
      refine ⟨trivial, ?_⟩
      refine WL.done rfl ?_
      injection hx319 with hx319
      exact WX.to Kx318 ((p3.Write, 0, t322, 0), g327) [0, 7, 8, 9] rfl ⟨(hS332.subR [0, 1, 2, 3]).sub [2, 1, 0] (by decide), hx319.symm⟩
    refine segF 8 [.v (.int .i64 p3.Write), .v (.int .i64 p0.m.States), .v (.int .i64 p0.m.Symbols), .v (.slice A_p0_m_Actions p0.m.Actions.length c_p0_m_Actions)] [0, 7, 8, 12, 16, 17, 18] [(0, (.pointer (some ⟨g_p0, 0, none⟩))), (7, (.pointer (some ⟨g266, 0, none⟩))), (8, (.pointer (some ⟨g270, 0, none⟩))), (12, (.int .i64 p3.Write)), (16, (.agg #[(.int .i64 p0.m.States), (.int .i64 p0.m.Symbols), (.slice A_p0_m_Actions p0.m.Actions.length c_p0_m_Actions)])), (17, (.int .i64 p1)), (18, (.int .i64 p2))] [] [0, 1, 2, 3] [(1, ⟨g266, 0, none⟩, (.int .i64 p3.Write)), (5, ⟨g_p0, 0, none⟩, (.int .i64 p0.m.States)), (5, ⟨g_p0, 1, none⟩, (.int .i64 p0.m.Symbols)), (5, ⟨g_p0, 2, none⟩, (.slice A_p0_m_Actions p0.m.Actions.length c_p0_m_Actions))] (fun fb => by kernel_rfl) rfl trivial rfl ?_
    refine WL.new hS321 9 [] (fun g => (.pointer (some ⟨g, 0, none⟩))) (.cells #[(.int .i64 0), (.int .i64 0), (.int .i64 0), (.int .i64 0)] 65 (0, 0)) [] (fun fb g => by kernel_rfl) trivial (fun g333 w334 hS335 => ?_)
    refine ⟨⟨hS335.cell 2 rfl 0 rfl, blk_cell (hS335.rd 0).1 0 rfl, blk_cell (hS335.rd 0).1 1 rfl, blk_cell (hS335.rd 0).1 2 rfl, trivial⟩, ?_⟩
    obtain ⟨t337, ht338, hx319⟩ := bind_some hx319
    refine WL.call (some 19) 61 #[(.agg #[(.int .i64 p0.m.States), (.int .i64 p0.m.Symbols), (.slice A_p0_m_Actions p0.m.Actions.length c_p0_m_Actions)]), (.int .i64 p1), (.int .i64 p2)] (fun fb => by kernel_rfl) (machine_head_calls p0.m p1 p2 A_p0_m_Actions c_p0_m_Actions t337 _ (hS335.rd 1) ht338) (fun v w339 hR340 => ?_)
    obtain ⟨rfl, hk_⟩ := hR340
    have hS341 := hS335.keepN hk_
    refine ⟨⟨hS341.cell 2 rfl 0 rfl, trivial⟩, ?_⟩
    refine seg 11 [] [0, 7, 8, 9, 20] [(0, (.pointer (some ⟨g_p0, 0, none⟩))), (7, (.pointer (some ⟨g266, 0, none⟩))), (8, (.pointer (some ⟨g270, 0, none⟩))), (9, (.pointer (some ⟨g333, 0, none⟩))), (20, (.agg #[(.int .i64 p3.Write), (.int .i64 0), (.int .i64 t337), (.int .i64 0)]))] [] (fun fb => by kernel_rfl) rfl trivial ?_
    refine WL.store hS341 0 rfl [(0, (.int .i64 p3.Write)), (1, (.int .i64 0)), (2, (.int .i64 t337)), (3, (.int .i64 0))] #[(.int .i64 p3.Write), (.int .i64 0), (.int .i64 t337), (.int .i64 0)] (fun fb => by kernel_rfl) (by kernel_rfl) rfl [1, 2] (by decide) (by decide) (fun w342 hS343 => ?_)
    refine ⟨trivial, ?_⟩
    refine WL.done rfl ?_
    injection hx319 with hx319
    exact WX.to Kx318 ((p3.Write, 0, t337, 0), g333) [0, 7, 8, 9] rfl ⟨(hS343.subR [0, 1, 2, 3]).sub [2, 1, 0] (by decide), hx319.symm⟩
  rintro ⟨y347, g313⟩ w344 ⟨hS345, hq346⟩
  subst hq346
  refine WX.next ?_
  refine WC.seq ?_
  refine WC.region ?_
  refine seg 5 [.v (.int .i64 p3.Move)] [0, 7, 8, 9, 23, 25] [(0, (.pointer (some ⟨g_p0, 0, none⟩))), (7, (.pointer (some ⟨g266, 0, none⟩))), (8, (.pointer (some ⟨g270, 0, none⟩))), (9, (.pointer (some ⟨g313, 0, none⟩))), (23, (.agg #[(.pointer (some ⟨g313, 3, none⟩)), (.pointer (some ⟨g313, 1, none⟩))])), (25, (.int .i64 p3.Move))] [.cell ⟨g266, 1, none⟩ (.int .i64 p3.Move)] (fun fb => by kernel_rfl) rfl ⟨hS345.cell 0 rfl 1 rfl, trivial⟩ ?_
  rcases br_some hf with ⟨h348, hf⟩ | ⟨h348, hf⟩
  ·
    refine WL.setI 25 (eq_of_beq h348) rfl ?_
    refine seg 7 [] [0, 7, 8, 9, 10] [(0, (.pointer (some ⟨g_p0, 0, none⟩))), (7, (.pointer (some ⟨g266, 0, none⟩))), (8, (.pointer (some ⟨g270, 0, none⟩))), (9, (.pointer (some ⟨g313, 0, none⟩))), (10, (.pointer (some ⟨g313, 3, none⟩)))] [] (fun fb => by kernel_rfl) rfl trivial ?_
    refine WL.done rfl ?_
    refine WX.next ?_
    refine WC.seq ?_
    refine WC.region ?_
    refine seg 6 [.v (.int .i64 p3.Move), .v (.int .i64 p3.Next)] [8, 9, 27, 28, 30, 32] [(8, (.pointer (some ⟨g270, 0, none⟩))), (9, (.pointer (some ⟨g313, 0, none⟩))), (27, (.pointer (some ⟨g313, 3, none⟩))), (28, (.pointer (some ⟨g_p0, 0, none⟩))), (30, (.int .i64 p3.Move)), (32, (.int .i64 p3.Next))] [.cell ⟨g266, 1, none⟩ (.int .i64 p3.Move), .cell ⟨g266, 2, none⟩ (.int .i64 p3.Next)] (fun fb => by kernel_rfl) rfl ⟨hS345.cell 0 rfl 1 rfl, hS345.cell 0 rfl 2 rfl, trivial⟩ ?_
    obtain ⟨t350, ht351, hf⟩ := bind_some hf
    refine WL.call (some 33) 62 #[(.pointer (some ⟨g_p0, 0, none⟩)), (.int .i64 p3.Move), (.int .i64 p3.Next)] (fun fb => by kernel_rfl) (machine_kit_signal_calls p0 p3.Move p3.Next g_p0 A_p0_m_Actions c_p0_m_Actions A_p0_set c_p0_set A_p0_does c_p0_does t350 _ (hS345.rd 0) (hS345.rd 1) (hS345.rd 2) (hS345.rd 3) ht351) (fun v w352 hR353 => ?_)
    obtain ⟨rfl, hk_⟩ := hR353
    have hS354 := hS345.keepN hk_
    refine ⟨trivial, ?_⟩
    refine seg 8 [] [8, 9, 33, 34] [(8, (.pointer (some ⟨g270, 0, none⟩))), (9, (.pointer (some ⟨g313, 0, none⟩))), (33, (.int .i64 t350)), (34, (.pointer (some ⟨g313, 3, none⟩)))] [] (fun fb => by kernel_rfl) rfl trivial ?_
    refine WL.store hS354 2 rfl [(3, (.int .i64 t350))] #[(.int .i64 x318.1), (.int .i64 x318.2.1), (.int .i64 x318.2.2.1), (.int .i64 t350)] (fun fb => by kernel_rfl) (by kernel_rfl) rfl [0, 1] (by decide) (by decide) (fun w355 hS356 => ?_)
    refine ⟨trivial, ?_⟩
    refine WL.done rfl ?_
    refine WX.next ?_
    refine WC.seq ?_
    refine WC.region ?_
    refine seg 1 [.v (.int .i64 x318.1), .v (.int .i64 x318.2.1), .v (.int .i64 x318.2.2.1), .v (.int .i64 t350)] [8, 35] [(8, (.pointer (some ⟨g270, 0, none⟩))), (35, (.agg #[(.int .i64 x318.1), (.int .i64 x318.2.1), (.int .i64 x318.2.2.1), (.int .i64 t350)]))] [.cell ⟨g313, 0, none⟩ (.int .i64 x318.1), .cell ⟨g313, 1, none⟩ (.int .i64 x318.2.1), .cell ⟨g313, 2, none⟩ (.int .i64 x318.2.2.1), .cell ⟨g313, 3, none⟩ (.int .i64 t350)] (fun fb => by kernel_rfl) rfl ⟨hS356.cell 0 rfl 0 rfl, hS356.cell 0 rfl 1 rfl, hS356.cell 0 rfl 2 rfl, hS356.cell 0 rfl 3 rfl, trivial⟩ ?_
    refine WL.store hS356 2 rfl [(0, (.int .i64 x318.1)), (1, (.int .i64 x318.2.1)), (2, (.int .i64 x318.2.2.1)), (3, (.int .i64 t350))] #[(.int .i64 x318.1), (.int .i64 x318.2.1), (.int .i64 x318.2.2.1), (.int .i64 t350)] (fun fb => by kernel_rfl) (by kernel_rfl) rfl [0, 1] (by decide) (by decide) (fun w357 hS358 => ?_)
    refine ⟨trivial, ?_⟩
    refine WL.done rfl ?_
    refine WX.next ?_
    refine WC.ret ?_
    injection hf with hf
    subst hf
    exact WX.ret_ [.v (.int .i64 x318.1), .v (.int .i64 x318.2.1), .v (.int .i64 x318.2.2.1), .v (.int .i64 t350)] (.agg #[(.int .i64 x318.1), (.int .i64 x318.2.1), (.int .i64 x318.2.2.1), (.int .i64 t350)]) [.cell ⟨g270, 0, none⟩ (.int .i64 x318.1), .cell ⟨g270, 1, none⟩ (.int .i64 x318.2.1), .cell ⟨g270, 2, none⟩ (.int .i64 x318.2.2.1), .cell ⟨g270, 3, none⟩ (.int .i64 t350)] (fun fb => by kernel_rfl) ⟨hS358.cell 0 rfl 0 rfl, hS358.cell 0 rfl 1 rfl, hS358.cell 0 rfl 2 rfl, hS358.cell 0 rfl 3 rfl, trivial⟩ ⟨_, rfl, rfl, hS358.keep⟩
  rcases br_some hf with ⟨h359, hf⟩ | ⟨h359, hf⟩
  ·
    refine WL.setI 25 (eq_of_beq h359) rfl ?_
    refine seg 7 [] [0, 7, 8, 9, 10] [(0, (.pointer (some ⟨g_p0, 0, none⟩))), (7, (.pointer (some ⟨g266, 0, none⟩))), (8, (.pointer (some ⟨g270, 0, none⟩))), (9, (.pointer (some ⟨g313, 0, none⟩))), (10, (.pointer (some ⟨g313, 1, none⟩)))] [] (fun fb => by kernel_rfl) rfl trivial ?_
    refine WL.done rfl ?_
    refine WX.next ?_
    refine WC.seq ?_
    refine WC.region ?_
    refine seg 6 [.v (.int .i64 p3.Move), .v (.int .i64 p3.Next)] [8, 9, 27, 28, 30, 32] [(8, (.pointer (some ⟨g270, 0, none⟩))), (9, (.pointer (some ⟨g313, 0, none⟩))), (27, (.pointer (some ⟨g313, 1, none⟩))), (28, (.pointer (some ⟨g_p0, 0, none⟩))), (30, (.int .i64 p3.Move)), (32, (.int .i64 p3.Next))] [.cell ⟨g266, 1, none⟩ (.int .i64 p3.Move), .cell ⟨g266, 2, none⟩ (.int .i64 p3.Next)] (fun fb => by kernel_rfl) rfl ⟨hS345.cell 0 rfl 1 rfl, hS345.cell 0 rfl 2 rfl, trivial⟩ ?_
    obtain ⟨t360, ht361, hf⟩ := bind_some hf
    refine WL.call (some 33) 62 #[(.pointer (some ⟨g_p0, 0, none⟩)), (.int .i64 p3.Move), (.int .i64 p3.Next)] (fun fb => by kernel_rfl) (machine_kit_signal_calls p0 p3.Move p3.Next g_p0 A_p0_m_Actions c_p0_m_Actions A_p0_set c_p0_set A_p0_does c_p0_does t360 _ (hS345.rd 0) (hS345.rd 1) (hS345.rd 2) (hS345.rd 3) ht361) (fun v w362 hR363 => ?_)
    obtain ⟨rfl, hk_⟩ := hR363
    have hS364 := hS345.keepN hk_
    refine ⟨trivial, ?_⟩
    refine seg 8 [] [8, 9, 33, 34] [(8, (.pointer (some ⟨g270, 0, none⟩))), (9, (.pointer (some ⟨g313, 0, none⟩))), (33, (.int .i64 t360)), (34, (.pointer (some ⟨g313, 1, none⟩)))] [] (fun fb => by kernel_rfl) rfl trivial ?_
    refine WL.store hS364 2 rfl [(1, (.int .i64 t360))] #[(.int .i64 x318.1), (.int .i64 t360), (.int .i64 x318.2.2.1), (.int .i64 x318.2.2.2)] (fun fb => by kernel_rfl) (by kernel_rfl) rfl [0, 1] (by decide) (by decide) (fun w365 hS366 => ?_)
    refine ⟨trivial, ?_⟩
    refine WL.done rfl ?_
    refine WX.next ?_
    refine WC.seq ?_
    refine WC.region ?_
    refine seg 1 [.v (.int .i64 x318.1), .v (.int .i64 t360), .v (.int .i64 x318.2.2.1), .v (.int .i64 x318.2.2.2)] [8, 35] [(8, (.pointer (some ⟨g270, 0, none⟩))), (35, (.agg #[(.int .i64 x318.1), (.int .i64 t360), (.int .i64 x318.2.2.1), (.int .i64 x318.2.2.2)]))] [.cell ⟨g313, 0, none⟩ (.int .i64 x318.1), .cell ⟨g313, 1, none⟩ (.int .i64 t360), .cell ⟨g313, 2, none⟩ (.int .i64 x318.2.2.1), .cell ⟨g313, 3, none⟩ (.int .i64 x318.2.2.2)] (fun fb => by kernel_rfl) rfl ⟨hS366.cell 0 rfl 0 rfl, hS366.cell 0 rfl 1 rfl, hS366.cell 0 rfl 2 rfl, hS366.cell 0 rfl 3 rfl, trivial⟩ ?_
    refine WL.store hS366 2 rfl [(0, (.int .i64 x318.1)), (1, (.int .i64 t360)), (2, (.int .i64 x318.2.2.1)), (3, (.int .i64 x318.2.2.2))] #[(.int .i64 x318.1), (.int .i64 t360), (.int .i64 x318.2.2.1), (.int .i64 x318.2.2.2)] (fun fb => by kernel_rfl) (by kernel_rfl) rfl [0, 1] (by decide) (by decide) (fun w367 hS368 => ?_)
    refine ⟨trivial, ?_⟩
    refine WL.done rfl ?_
    refine WX.next ?_
    refine WC.ret ?_
    injection hf with hf
    subst hf
    exact WX.ret_ [.v (.int .i64 x318.1), .v (.int .i64 t360), .v (.int .i64 x318.2.2.1), .v (.int .i64 x318.2.2.2)] (.agg #[(.int .i64 x318.1), (.int .i64 t360), (.int .i64 x318.2.2.1), (.int .i64 x318.2.2.2)]) [.cell ⟨g270, 0, none⟩ (.int .i64 x318.1), .cell ⟨g270, 1, none⟩ (.int .i64 t360), .cell ⟨g270, 2, none⟩ (.int .i64 x318.2.2.1), .cell ⟨g270, 3, none⟩ (.int .i64 x318.2.2.2)] (fun fb => by kernel_rfl) ⟨hS368.cell 0 rfl 0 rfl, hS368.cell 0 rfl 1 rfl, hS368.cell 0 rfl 2 rfl, hS368.cell 0 rfl 3 rfl, trivial⟩ ⟨_, rfl, rfl, hS368.keep⟩
  cases hf
theorem machine_kitOf_calls (k : Nat) (p0 : Machine) (A_p0_Actions : Option Addr) (c_p0_Actions : Nat) (r : Kit) (w : World) (hR0 : RO NoS w (rowR enc_Action A_p0_Actions c_p0_Actions p0.Actions)) (hf : machine_kitOf k p0 = some r) :
    CallsR Try.prog 41 #[(.agg #[(.int .i64 p0.States), (.int .i64 p0.Symbols), (.slice A_p0_Actions p0.Actions.length c_p0_Actions)])] w (fun v w' => ∃ (g1_ : Nat), ∃ (A2_ : Option Addr), ∃ (c2_ : Nat), ∃ (A3_ : Option Addr), ∃ (c3_ : Nat), v = (.pointer (some ⟨g1_, 0, none⟩)) ∧ St NoS w w' [] [blk g1_ (.cells #[(.int .i64 r.m.States), (.int .i64 r.m.Symbols), (.slice A_p0_Actions p0.Actions.length c_p0_Actions), (.slice A2_ r.set.length c2_), (.slice A3_ r.does.length c3_), (.int .i64 r.base)] 96 (0, 0)), rowO 65 enc_Tile A2_ c2_ r.set, rowO 3 encInt A3_ c3_ r.does]) := by
  have hS : St NoS w w [rowR enc_Action A_p0_Actions c_p0_Actions p0.Actions] [] := St.init (ro_cons hR0 (ro_nil _ _))
  refine enter 134 Try.func41 rfl Try.ntmps41 rfl ?_
  unfold machine_kitOf at hf
  refine WC.seq ?_
  refine WC.region ?_
  refine WL.new hS 1 [] (fun g => (.pointer (some ⟨g, 0, none⟩))) (.cells #[(.int .i64 p0.States), (.int .i64 p0.Symbols), (.slice A_p0_Actions p0.Actions.length c_p0_Actions)] 24 (0, 0)) [] (fun fb g => by kernel_rfl) trivial (fun g144 w145 hS146 => ?_)
  refine ⟨trivial, ?_⟩
  refine seg 2 [] [1] [(1, (.pointer (some ⟨g144, 0, none⟩)))] [] (fun fb => by kernel_rfl) rfl trivial ?_
  refine WL.done rfl ?_
  refine WX.next ?_
  refine WC.seq ?_
  refine WC.region ?_
  refine seg 2 [.v (.int .i64 p0.States), .v (.int .i64 p0.Symbols), .v (.slice A_p0_Actions p0.Actions.length c_p0_Actions)] [1, 11] [(1, (.pointer (some ⟨g144, 0, none⟩))), (11, (.agg #[(.int .i64 p0.States), (.int .i64 p0.Symbols), (.slice A_p0_Actions p0.Actions.length c_p0_Actions), (.slice none 0 0), (.slice none 0 0), (.int .i64 0)]))] [.cell ⟨g144, 0, none⟩ (.int .i64 p0.States), .cell ⟨g144, 1, none⟩ (.int .i64 p0.Symbols), .cell ⟨g144, 2, none⟩ (.slice A_p0_Actions p0.Actions.length c_p0_Actions)] (fun fb => by kernel_rfl) rfl ⟨hS146.cell 0 rfl 0 rfl, hS146.cell 0 rfl 1 rfl, hS146.cell 0 rfl 2 rfl, trivial⟩ ?_
  refine WL.new hS146 12 [] (fun g => (.pointer (some ⟨g, 0, none⟩))) (.cells #[(.int .i64 p0.States), (.int .i64 p0.Symbols), (.slice A_p0_Actions p0.Actions.length c_p0_Actions), (.slice none 0 0), (.slice none 0 0), (.int .i64 0)] 96 (0, 0)) [] (fun fb g => by kernel_rfl) trivial (fun g148 w149 hS150 => ?_)
  refine ⟨trivial, ?_⟩
  refine seg 4 [] [1, 3] [(1, (.pointer (some ⟨g144, 0, none⟩))), (3, (.pointer (some ⟨g148, 0, none⟩)))] [] (fun fb => by kernel_rfl) rfl trivial ?_
  refine WL.done rfl ?_
  refine WX.next ?_
  refine WC.seq ?_
  refine WC.seq ?_
  refine WC.region ?_
  refine seg 3 [.v (.int .i64 p0.Symbols)] [1, 3, 14, 15] [(1, (.pointer (some ⟨g144, 0, none⟩))), (3, (.pointer (some ⟨g148, 0, none⟩))), (14, (.int .i64 p0.Symbols)), (15, (.int .i64 0))] [.cell ⟨g144, 1, none⟩ (.int .i64 p0.Symbols)] (fun fb => by kernel_rfl) rfl ⟨hS150.cell 1 rfl 1 rfl, trivial⟩ ?_
  refine WL.done rfl ?_
  refine WX.next ?_
  have hS184 := hS150.nilrow 65 enc_Tile
  obtain ⟨x192, hx193, hf⟩ := bind_some hf
  refine WC.cutN (T := (List Tile) × (Option Addr) × Nat) (fun t => [(1, (.pointer (some ⟨g144, 0, none⟩))), (3, (.pointer (some ⟨g148, 0, none⟩)))]) (fun t w1 => St NoS w w1 [rowR enc_Action A_p0_Actions c_p0_Actions p0.Actions] [blk g144 (.cells #[(.int .i64 p0.States), (.int .i64 p0.Symbols), (.slice A_p0_Actions p0.Actions.length c_p0_Actions)] 24 (0, 0)), blk g148 (.cells #[(.int .i64 p0.States), (.int .i64 p0.Symbols), (.slice A_p0_Actions p0.Actions.length c_p0_Actions), (.slice t.2.1 t.1.length t.2.2), (.slice none 0 0), (.int .i64 0)] 96 (0, 0)), rowO 65 enc_Tile t.2.1 t.2.2 t.1] ∧ x192 = t.1) (fun Kx192 => ?_) ?_
  ·
    refine WC.block ?_
    refine WC.loop (T := ((List Tile) × Int) × (Option Addr) × Nat) (fun t => [(1, (.pointer (some ⟨g144, 0, none⟩))), (3, (.pointer (some ⟨g148, 0, none⟩))), (14, (.int .i64 p0.Symbols)), (15, (.int .i64 t.1.2))]) (fun n t w1 => St NoS w w1 [rowR enc_Action A_p0_Actions c_p0_Actions p0.Actions] [blk g144 (.cells #[(.int .i64 p0.States), (.int .i64 p0.Symbols), (.slice A_p0_Actions p0.Actions.length c_p0_Actions)] 24 (0, 0)), blk g148 (.cells #[(.int .i64 p0.States), (.int .i64 p0.Symbols), (.slice A_p0_Actions p0.Actions.length c_p0_Actions), (.slice t.2.1 t.1.1.length t.2.2), (.slice none 0 0), (.int .i64 0)] 96 (0, 0)), rowO 65 enc_Tile t.2.1 t.2.2 t.1.1] ∧ machine_kitOf.l0 n t.1.1 t.1.2 p0 = some x192) k ((([] : List Tile), 0), none, 0) [1, 3, 14, 15] rfl ⟨(hS184.subR [0]).sub [2, 1, 0] (by decide), hx193⟩ ?_
    rintro k194 ⟨⟨l187, x188⟩, A185, c186⟩ w195 ⟨hS196, hl197⟩
    cases k194 with
    | zero => rw [machine_kitOf.l0] at hl197; cases hl197
    | succ k194 =>
      rw [machine_kitOf.l0] at hl197
      refine WC.seq ?_
      refine WC.region ?_
      refine seg 1 [] [1, 3, 14, 15, 16] [(1, (.pointer (some ⟨g144, 0, none⟩))), (3, (.pointer (some ⟨g148, 0, none⟩))), (14, (.int .i64 p0.Symbols)), (15, (.int .i64 x188)), (16, (.bool (decide (x188 < p0.Symbols))))] [] (fun fb => by kernel_rfl) rfl trivial ?_
      refine WL.done rfl ?_
      refine WX.next ?_
      refine WC.seq ?_
      rcases br_some hl197 with ⟨h198, hl197⟩ | ⟨h198, hl197⟩
      · refine WC.condT2 (fun fb => by kernel_rfl) h198 ?_
        refine WC.skip ?_
        refine WX.next ?_
        refine WC.seq ?_
        refine WC.block ?_
        refine WC.seq ?_
        refine WC.region ?_
        refine seg 2 [] [1, 3, 4, 14, 15] [(1, (.pointer (some ⟨g144, 0, none⟩))), (3, (.pointer (some ⟨g148, 0, none⟩))), (4, (.int .i64 x188)), (14, (.int .i64 p0.Symbols)), (15, (.int .i64 x188))] [] (fun fb => by kernel_rfl) rfl trivial ?_
        refine WL.done rfl ?_
        refine WX.next ?_
        refine WC.region ?_
        refine seg 8 [.v (.slice A185 l187.length c186)] [1, 3, 14, 15, 18, 22, 25] [(1, (.pointer (some ⟨g144, 0, none⟩))), (3, (.pointer (some ⟨g148, 0, none⟩))), (14, (.int .i64 p0.Symbols)), (15, (.int .i64 x188)), (18, (.pointer (some ⟨g148, 0, none⟩))), (22, (.slice A185 l187.length c186)), (25, (.agg #[(.int .i64 x188), (.int .i64 0), (.int .i64 x188), (.int .i64 0)]))] [.cell ⟨g148, 3, none⟩ (.slice A185 l187.length c186)] (fun fb => by kernel_rfl) rfl ⟨hS196.cell 1 rfl 3 rfl, trivial⟩ ?_
        refine WL.new hS196 26 [] (fun g => (.slice (some ⟨g, 0, none⟩) 1 1)) (.cells #[(.int .i64 x188), (.int .i64 0), (.int .i64 x188), (.int .i64 0)] 65 (0, 0)) [] (fun fb g => by kernel_rfl) trivial (fun g199 w200 hS201 => ?_)
        refine ⟨trivial, ?_⟩
        have hS203 : St NoS w w200 [rowR enc_Action A_p0_Actions c_p0_Actions p0.Actions] [rowO 65 enc_Tile (some ⟨g199, 0, none⟩) 1 [(Tile.mk x188 0 x188 0)], blk g144 (.cells #[(.int .i64 p0.States), (.int .i64 p0.Symbols), (.slice A_p0_Actions p0.Actions.length c_p0_Actions)] 24 (0, 0)), blk g148 (.cells #[(.int .i64 p0.States), (.int .i64 p0.Symbols), (.slice A_p0_Actions p0.Actions.length c_p0_Actions), (.slice A185 l187.length c186), (.slice none 0 0), (.int .i64 0)] 96 (0, 0)), rowO 65 enc_Tile A185 c186 l187] := hS201.map1 0 _ (fun h => rowO.ofBlk h rfl (Nat.le_of_ble_eq_true (by kernel_rfl))) (fun _ h => by obtain ⟨_, h1, h2⟩ := h; injection h1 with h1; subst h1; exact h2) [1, 2, 3] (by decide) (by decide)
        obtain ⟨h204, hl197⟩ := as_some hl197
        refine WL.append hS203 3 (d := 27) (tS := 50) (z := (.agg #[(.int .i64 0), (.int .i64 0), (.int .i64 0), (.int .i64 0)])) (bytes := 32) (c2 := 1) rfl (fun fb => by kernel_rfl) (rowO.rd (hS203.own 0).1) (by kernel_rfl) (by kernel_rfl) rfl (by decide) h204 (by decide) [0, 1, 2] (by decide) (by decide) (fun A205 c206 w207 hS208 => ?_)
        refine ⟨trivial, ?_⟩
        refine seg 12 [] [1, 3, 14, 15, 27, 29] [(1, (.pointer (some ⟨g144, 0, none⟩))), (3, (.pointer (some ⟨g148, 0, none⟩))), (14, (.int .i64 p0.Symbols)), (15, (.int .i64 x188)), (27, (.slice A205 (l187 ++ [(Tile.mk x188 0 x188 0)]).length c206)), (29, (.pointer (some ⟨g148, 3, none⟩)))] [] (fun fb => by kernel_rfl) rfl trivial ?_
        refine WL.store hS208 3 rfl [(3, (.slice A205 (l187 ++ [(Tile.mk x188 0 x188 0)]).length c206))] #[(.int .i64 p0.States), (.int .i64 p0.Symbols), (.slice A_p0_Actions p0.Actions.length c_p0_Actions), (.slice A205 (l187 ++ [(Tile.mk x188 0 x188 0)]).length c206), (.slice none 0 0), (.int .i64 0)] (fun fb => by kernel_rfl) (by kernel_rfl) rfl [0, 1, 2] (by decide) (by decide) (fun w209 hS210 => ?_)
        refine ⟨trivial, ?_⟩
        refine WL.done rfl ?_
        refine WX.blockN (WX.next ?_)
        refine WC.region ?_
        refine seg 2 [] [1, 3, 14, 15] [(1, (.pointer (some ⟨g144, 0, none⟩))), (3, (.pointer (some ⟨g148, 0, none⟩))), (14, (.int .i64 p0.Symbols)), (15, (.int .i64 (w64 (x188 + 1))))] [] (fun fb => by kernel_rfl) rfl trivial ?_
        refine WL.done rfl ?_
        exact WX.again k194 (Nat.lt_succ_self _) ((l187 ++ [(Tile.mk x188 0 x188 0)], w64 (x188 + 1)), A205, c206) [1, 3, 14, 15] rfl ⟨(hS210.subR [0]).sub [3, 0, 1] (by decide), hl197⟩
      refine WC.condF2 (fun fb => by kernel_rfl) h198 ?_
      refine WC.exit ?_
      injection hl197 with hl197
      exact WX.thenX (WX.thenX (WX.blockHere (WX.to Kx192 (l187, A185, c186) [1, 3] rfl ⟨(hS196.subR [0]).sub [0, 1, 2] (by decide), hl197.symm⟩)))
  rintro ⟨y214, A189, c190⟩ w211 ⟨hS212, hq213⟩
  subst hq213
  refine WX.next ?_
  refine WC.seq ?_
  refine WC.seq ?_
  refine WC.region ?_
  refine seg 4 [.v (.slice A_p0_Actions p0.Actions.length c_p0_Actions)] [1, 3, 32, 33, 34] [(1, (.pointer (some ⟨g144, 0, none⟩))), (3, (.pointer (some ⟨g148, 0, none⟩))), (32, (.slice A_p0_Actions p0.Actions.length c_p0_Actions)), (33, (.int .i64 (p0.Actions.length : Int))), (34, (.int .i64 0))] [.cell ⟨g144, 2, none⟩ (.slice A_p0_Actions p0.Actions.length c_p0_Actions)] (fun fb => by kernel_rfl) rfl ⟨hS212.cell 0 rfl 2 rfl, trivial⟩ ?_
  refine WL.done rfl ?_
  refine WX.next ?_
  have hS698 := hS212.nilrow 3 encInt
  obtain ⟨x712, hx713, hf⟩ := bind_some hf
  refine WC.cutN (T := ((List Tile) × (List Int)) × (Option Addr) × Nat × (Option Addr) × Nat) (fun t => [(1, (.pointer (some ⟨g144, 0, none⟩))), (3, (.pointer (some ⟨g148, 0, none⟩)))]) (fun t w1 => St NoS w w1 [rowR enc_Action A_p0_Actions c_p0_Actions p0.Actions] [blk g144 (.cells #[(.int .i64 p0.States), (.int .i64 p0.Symbols), (.slice A_p0_Actions p0.Actions.length c_p0_Actions)] 24 (0, 0)), blk g148 (.cells #[(.int .i64 p0.States), (.int .i64 p0.Symbols), (.slice A_p0_Actions p0.Actions.length c_p0_Actions), (.slice t.2.1 t.1.1.length t.2.2.1), (.slice t.2.2.2.1 t.1.2.length t.2.2.2.2), (.int .i64 0)] 96 (0, 0)), rowO 65 enc_Tile t.2.1 t.2.2.1 t.1.1, rowO 3 encInt t.2.2.2.1 t.2.2.2.2 t.1.2] ∧ x712 = t.1) (fun Kx712 => ?_) ?_
  ·
    refine WC.block ?_
    refine WC.loop (T := ((List Tile) × (List Int) × Int) × (Option Addr) × Nat × (Option Addr) × Nat) (fun t => [(1, (.pointer (some ⟨g144, 0, none⟩))), (3, (.pointer (some ⟨g148, 0, none⟩))), (32, (.slice A_p0_Actions p0.Actions.length c_p0_Actions)), (33, (.int .i64 (p0.Actions.length : Int))), (34, (.int .i64 t.1.2.2))]) (fun n t w1 => St NoS w w1 [rowR enc_Action A_p0_Actions c_p0_Actions p0.Actions] [blk g144 (.cells #[(.int .i64 p0.States), (.int .i64 p0.Symbols), (.slice A_p0_Actions p0.Actions.length c_p0_Actions)] 24 (0, 0)), blk g148 (.cells #[(.int .i64 p0.States), (.int .i64 p0.Symbols), (.slice A_p0_Actions p0.Actions.length c_p0_Actions), (.slice t.2.1 t.1.1.length t.2.2.1), (.slice t.2.2.2.1 t.1.2.1.length t.2.2.2.2), (.int .i64 0)] 96 (0, 0)), rowO 65 enc_Tile t.2.1 t.2.2.1 t.1.1, rowO 3 encInt t.2.2.2.1 t.2.2.2.2 t.1.2.1] ∧ machine_kitOf.l1 n t.1.1 t.1.2.1 t.1.2.2 p0 = some x712) k ((x192, ([] : List Int), 0), A189, c190, none, 0) [1, 3, 32, 33, 34] rfl ⟨(hS698.subR [0]).sub [1, 2, 3, 0] (by decide), hx713⟩ ?_
    rintro k714 ⟨⟨l701, l704, x705⟩, A699, c700, A702, c703⟩ w715 ⟨hS716, hl717⟩
    cases k714 with
    | zero => rw [machine_kitOf.l1] at hl717; cases hl717
    | succ k714 =>
      rw [machine_kitOf.l1] at hl717
      refine WC.seq ?_
      refine WC.region ?_
      refine seg 1 [] [1, 3, 32, 33, 34, 35] [(1, (.pointer (some ⟨g144, 0, none⟩))), (3, (.pointer (some ⟨g148, 0, none⟩))), (32, (.slice A_p0_Actions p0.Actions.length c_p0_Actions)), (33, (.int .i64 (p0.Actions.length : Int))), (34, (.int .i64 x705)), (35, (.bool (decide (x705 < (p0.Actions.length : Int)))))] [] (fun fb => by kernel_rfl) rfl trivial ?_
      refine WL.done rfl ?_
      refine WX.next ?_
      refine WC.seq ?_
      rcases br_some hl717 with ⟨h718, hl717⟩ | ⟨h718, hl717⟩
      · refine WC.condT2 (fun fb => by kernel_rfl) h718 ?_
        refine WC.skip ?_
        refine WX.next ?_
        refine WC.seq ?_
        obtain ⟨x810, hx811, hl717⟩ := bind_some hl717
        refine WC.cutN (T := ((List Tile) × (List Int)) × (Option Addr) × Nat × (Option Addr) × Nat) (fun t => [(1, (.pointer (some ⟨g144, 0, none⟩))), (3, (.pointer (some ⟨g148, 0, none⟩))), (32, (.slice A_p0_Actions p0.Actions.length c_p0_Actions)), (33, (.int .i64 (p0.Actions.length : Int))), (34, (.int .i64 x705))]) (fun t w1 => St NoS w w1 [rowR enc_Action A_p0_Actions c_p0_Actions p0.Actions] [blk g144 (.cells #[(.int .i64 p0.States), (.int .i64 p0.Symbols), (.slice A_p0_Actions p0.Actions.length c_p0_Actions)] 24 (0, 0)), blk g148 (.cells #[(.int .i64 p0.States), (.int .i64 p0.Symbols), (.slice A_p0_Actions p0.Actions.length c_p0_Actions), (.slice t.2.1 t.1.1.length t.2.2.1), (.slice t.2.2.2.1 t.1.2.length t.2.2.2.2), (.int .i64 0)] 96 (0, 0)), rowO 65 enc_Tile t.2.1 t.2.2.1 t.1.1, rowO 3 encInt t.2.2.2.1 t.2.2.2.2 t.1.2] ∧ x810 = t.1) (fun Kx810 => ?_) ?_
        ·
          refine WC.block ?_
          refine WC.seq ?_
          refine WC.region ?_
          refine seg 1 [] [1, 3, 32, 33, 34, 36] [(1, (.pointer (some ⟨g144, 0, none⟩))), (3, (.pointer (some ⟨g148, 0, none⟩))), (32, (.slice A_p0_Actions p0.Actions.length c_p0_Actions)), (33, (.int .i64 (p0.Actions.length : Int))), (34, (.int .i64 x705)), (36, (.int .i64 x705))] [] (fun fb => by kernel_rfl) rfl trivial ?_
          obtain ⟨h812, hx811⟩ := as_some hx811
          refine seg 3 [.v (.int .i64 ((rdD p0.Actions x705 z_Action).Write)), .v (.int .i64 ((rdD p0.Actions x705 z_Action).Move)), .v (.int .i64 ((rdD p0.Actions x705 z_Action).Next))] [1, 3, 32, 33, 34, 36, 38] [(1, (.pointer (some ⟨g144, 0, none⟩))), (3, (.pointer (some ⟨g148, 0, none⟩))), (32, (.slice A_p0_Actions p0.Actions.length c_p0_Actions)), (33, (.int .i64 (p0.Actions.length : Int))), (34, (.int .i64 x705)), (36, (.int .i64 x705)), (38, (.agg #[(.int .i64 ((rdD p0.Actions x705 z_Action).Write)), (.int .i64 ((rdD p0.Actions x705 z_Action).Move)), (.int .i64 ((rdD p0.Actions x705 z_Action).Next))]))] [.idx A_p0_Actions x705 p0.Actions.length, .cell ((adr A_p0_Actions).add ((x705).toNat * 3)) (.int .i64 ((rdD p0.Actions x705 z_Action).Write)), .cell (((adr A_p0_Actions).add ((x705).toNat * 3)).add 1) (.int .i64 ((rdD p0.Actions x705 z_Action).Move)), .cell (((adr A_p0_Actions).add ((x705).toNat * 3)).add 2) (.int .i64 ((rdD p0.Actions x705 z_Action).Next))] (fun fb => by kernel_rfl) rfl ⟨rowR.adr (hS716.rd 0).1 h812.1 h812.2, rowR.cell (hS716.rd 0).1 z_Action h812.1 h812.2 0 rfl, rowR.cell (hS716.rd 0).1 z_Action h812.1 h812.2 1 rfl, rowR.cell (hS716.rd 0).1 z_Action h812.1 h812.2 2 rfl, trivial⟩ ?_
          refine WL.new hS716 6 [] (fun g => (.pointer (some ⟨g, 0, none⟩))) (.cells #[(.int .i64 0), (.int .i64 0), (.int .i64 0)] 88 (0, 0)) [] (fun fb g => by kernel_rfl) trivial (fun g813 w814 hS815 => ?_)
          refine ⟨trivial, ?_⟩
          refine seg 5 [] [1, 3, 5, 6, 32, 33, 34, 38] [(1, (.pointer (some ⟨g144, 0, none⟩))), (3, (.pointer (some ⟨g148, 0, none⟩))), (5, (.int .i64 x705)), (6, (.pointer (some ⟨g813, 0, none⟩))), (32, (.slice A_p0_Actions p0.Actions.length c_p0_Actions)), (33, (.int .i64 (p0.Actions.length : Int))), (34, (.int .i64 x705)), (38, (.agg #[(.int .i64 ((rdD p0.Actions x705 z_Action).Write)), (.int .i64 ((rdD p0.Actions x705 z_Action).Move)), (.int .i64 ((rdD p0.Actions x705 z_Action).Next))]))] [] (fun fb => by kernel_rfl) rfl trivial ?_
          refine WL.store hS815 0 rfl [(0, (.int .i64 ((rdD p0.Actions x705 z_Action).Write))), (1, (.int .i64 ((rdD p0.Actions x705 z_Action).Move))), (2, (.int .i64 ((rdD p0.Actions x705 z_Action).Next)))] #[(.int .i64 ((rdD p0.Actions x705 z_Action).Write)), (.int .i64 ((rdD p0.Actions x705 z_Action).Move)), (.int .i64 ((rdD p0.Actions x705 z_Action).Next))] (fun fb => by kernel_rfl) (by kernel_rfl) rfl [1, 2, 3, 4] (by decide) (by decide) (fun w817 hS818 => ?_)
          refine ⟨trivial, ?_⟩
          refine WL.done rfl ?_
          refine WX.next ?_
          refine WC.seq ?_
          refine WC.seq ?_
          refine WC.region ?_
          refine seg 5 [.v (.int .i64 ((rdD p0.Actions x705 z_Action).Next)), .v (.int .i64 p0.States)] [1, 3, 5, 6, 32, 33, 34, 43] [(1, (.pointer (some ⟨g144, 0, none⟩))), (3, (.pointer (some ⟨g148, 0, none⟩))), (5, (.int .i64 x705)), (6, (.pointer (some ⟨g813, 0, none⟩))), (32, (.slice A_p0_Actions p0.Actions.length c_p0_Actions)), (33, (.int .i64 (p0.Actions.length : Int))), (34, (.int .i64 x705)), (43, (.bool (((rdD p0.Actions x705 z_Action).Next) == p0.States)))] [.cell ⟨g813, 2, none⟩ (.int .i64 ((rdD p0.Actions x705 z_Action).Next)), .cell ⟨g144, 0, none⟩ (.int .i64 p0.States)] (fun fb => by kernel_rfl) rfl ⟨hS818.cell 0 rfl 2 rfl, hS818.cell 1 rfl 0 rfl, trivial⟩ ?_
          refine WL.done rfl ?_
          refine WX.next ?_
          rcases br_some hx811 with ⟨h819, hx811⟩ | ⟨h819, hx811⟩
          · refine WC.condT2 (fun fb => by kernel_rfl) h819 ?_
            refine WC.seq ?_
            refine WC.region ?_
            refine seg 5 [.v (.slice A702 l704.length c703)] [1, 3, 32, 33, 34, 44, 48] [(1, (.pointer (some ⟨g144, 0, none⟩))), (3, (.pointer (some ⟨g148, 0, none⟩))), (32, (.slice A_p0_Actions p0.Actions.length c_p0_Actions)), (33, (.int .i64 (p0.Actions.length : Int))), (34, (.int .i64 x705)), (44, (.pointer (some ⟨g148, 0, none⟩))), (48, (.slice A702 l704.length c703))] [.cell ⟨g148, 4, none⟩ (.slice A702 l704.length c703)] (fun fb => by kernel_rfl) rfl ⟨hS818.cell 2 rfl 4 rfl, trivial⟩ ?_
            refine WL.new hS818 49 [] (fun g => (.slice (some ⟨g, 0, none⟩) 1 1)) (.cells #[(.int .i64 (-1))] 3 (0, 0)) [] (fun fb g => by kernel_rfl) trivial (fun g820 w821 hS822 => ?_)
            refine ⟨trivial, ?_⟩
            have hS824 : St NoS w w821 [rowR enc_Action A_p0_Actions c_p0_Actions p0.Actions] [rowO 3 encInt (some ⟨g820, 0, none⟩) 1 [(-1)], blk g813 (.cells #[(.int .i64 ((rdD p0.Actions x705 z_Action).Write)), (.int .i64 ((rdD p0.Actions x705 z_Action).Move)), (.int .i64 ((rdD p0.Actions x705 z_Action).Next))] 88 (0, 0)), blk g144 (.cells #[(.int .i64 p0.States), (.int .i64 p0.Symbols), (.slice A_p0_Actions p0.Actions.length c_p0_Actions)] 24 (0, 0)), blk g148 (.cells #[(.int .i64 p0.States), (.int .i64 p0.Symbols), (.slice A_p0_Actions p0.Actions.length c_p0_Actions), (.slice A699 l701.length c700), (.slice A702 l704.length c703), (.int .i64 0)] 96 (0, 0)), rowO 65 enc_Tile A699 c700 l701, rowO 3 encInt A702 c703 l704] := hS822.map1 0 _ (fun h => rowO.ofBlk h rfl (Nat.le_of_ble_eq_true (by kernel_rfl))) (fun _ h => by obtain ⟨_, h1, h2⟩ := h; injection h1 with h1; subst h1; exact h2) [1, 2, 3, 4, 5] (by decide) (by decide)
            obtain ⟨h825, hx811⟩ := as_some hx811
            refine WL.append hS824 5 (d := 50) (tS := 25) (z := (.int .i64 0)) (bytes := 8) (c2 := 1) rfl (fun fb => by kernel_rfl) (rowO.rd (hS824.own 0).1) (by kernel_rfl) (by kernel_rfl) rfl (by decide) h825 (by decide) [0, 1, 2, 3, 4] (by decide) (by decide) (fun A826 c827 w828 hS829 => ?_)
            refine ⟨trivial, ?_⟩
            refine seg 9 [] [1, 3, 32, 33, 34, 50, 52] [(1, (.pointer (some ⟨g144, 0, none⟩))), (3, (.pointer (some ⟨g148, 0, none⟩))), (32, (.slice A_p0_Actions p0.Actions.length c_p0_Actions)), (33, (.int .i64 (p0.Actions.length : Int))), (34, (.int .i64 x705)), (50, (.slice A826 (l704 ++ [(-1)]).length c827)), (52, (.pointer (some ⟨g148, 4, none⟩)))] [] (fun fb => by kernel_rfl) rfl trivial ?_
            refine WL.store hS829 4 rfl [(4, (.slice A826 (l704 ++ [(-1)]).length c827))] #[(.int .i64 p0.States), (.int .i64 p0.Symbols), (.slice A_p0_Actions p0.Actions.length c_p0_Actions), (.slice A699 l701.length c700), (.slice A826 (l704 ++ [(-1)]).length c827), (.int .i64 0)] (fun fb => by kernel_rfl) (by kernel_rfl) rfl [0, 1, 2, 3, 5] (by decide) (by decide) (fun w830 hS831 => ?_)
            refine ⟨trivial, ?_⟩
            refine WL.done rfl ?_
            refine WX.next ?_
            refine WC.exit ?_
            injection hx811 with hx811
            exact WX.thenX (WX.blockHere (WX.to Kx810 ((l701, l704 ++ [(-1)]), A699, c700, A826, c827) [1, 3, 32, 33, 34] rfl ⟨(hS831.subR [0]).sub [4, 0, 5, 1] (by decide), hx811.symm⟩))
          refine WC.condF2 (fun fb => by kernel_rfl) h819 ?_
          refine WC.skip ?_
          refine WX.next ?_
          refine WC.seq ?_
          refine WC.regionD ([(4, ⟨g148, 4, none⟩, (.slice A702 l704.length c703)), (8, ⟨g148, 3, none⟩, (.slice A699 l701.length c700))], [0, 1, 2, 3, 4, 5, 6, 7, 8, 9, 12, 13], [[], [], [1], [1, 2], [1, 2, 3], [], [5], [5, 6], [5, 6, 7], [5, 6, 7, 8], [5, 6, 7, 8, 9], [1, 2, 3, 4, 5, 6, 7, 8, 9, 10], [0, 1, 2, 3, 4, 5, 6, 7, 8, 9, 10, 11], [0, 1, 2, 3, 4, 5, 6, 7, 8, 9, 10, 11, 12], [0, 1, 2, 3, 4, 5, 6, 7, 8, 9, 10, 11, 12, 13]]) [[0, 1, 2, 3, 4, 5, 6, 7, 8, 9, 10, 11, 12, 13, 14]] (by kernel_rfl) (by kernel_rfl) (NoPanic.seq (NoPanic.block (NoPanic.seq (NoPanic.seq (NoPanic.block (NoPanic.seq (NoPanic.body))))))) ?_
          have hS845 := hS818.drew
          revert hS845
          generalize World.drew w817 = w844
          intro hS845
          refine ⟨⟨hS845.cell 2 rfl 4 rfl, hS845.cell 2 rfl 3 rfl, trivial⟩, forallC ?_ (forallN)⟩
          refine segF 10 [.v (.slice A702 l704.length c703), .v (.slice A699 l701.length c700)] [1, 3, 5, 6, 32, 33, 34, 53, 57, 62] [(1, (.pointer (some ⟨g144, 0, none⟩))), (3, (.pointer (some ⟨g148, 0, none⟩))), (5, (.int .i64 x705)), (6, (.pointer (some ⟨g813, 0, none⟩))), (32, (.slice A_p0_Actions p0.Actions.length c_p0_Actions)), (33, (.int .i64 (p0.Actions.length : Int))), (34, (.int .i64 x705)), (53, (.pointer (some ⟨g148, 0, none⟩))), (57, (.slice A702 l704.length c703)), (62, (.int .i64 (l701.length : Int)))] [] [0, 1] [(4, ⟨g148, 4, none⟩, (.slice A702 l704.length c703)), (8, ⟨g148, 3, none⟩, (.slice A699 l701.length c700))] (fun fb => by kernel_rfl) rfl trivial rfl ?_
          refine WL.new hS845 63 [] (fun g => (.slice (some ⟨g, 0, none⟩) 1 1)) (.cells #[(.int .i64 (l701.length : Int))] 3 (0, 0)) [] (fun fb g => by kernel_rfl) trivial (fun g846 w847 hS848 => ?_)
          refine ⟨⟨hS848.cell 3 rfl 4 rfl, trivial⟩, ?_⟩
          have hS850 : St NoS w w847 [rowR enc_Action A_p0_Actions c_p0_Actions p0.Actions] [rowO 3 encInt (some ⟨g846, 0, none⟩) 1 [(l701.length : Int)], blk g813 (.cells #[(.int .i64 ((rdD p0.Actions x705 z_Action).Write)), (.int .i64 ((rdD p0.Actions x705 z_Action).Move)), (.int .i64 ((rdD p0.Actions x705 z_Action).Next))] 88 (0, 0)), blk g144 (.cells #[(.int .i64 p0.States), (.int .i64 p0.Symbols), (.slice A_p0_Actions p0.Actions.length c_p0_Actions)] 24 (0, 0)), blk g148 (.cells #[(.int .i64 p0.States), (.int .i64 p0.Symbols), (.slice A_p0_Actions p0.Actions.length c_p0_Actions), (.slice A699 l701.length c700), (.slice A702 l704.length c703), (.int .i64 0)] 96 (0, 0)), rowO 65 enc_Tile A699 c700 l701, rowO 3 encInt A702 c703 l704] := hS848.map1 0 _ (fun h => rowO.ofBlk h rfl (Nat.le_of_ble_eq_true (by kernel_rfl))) (fun _ h => by obtain ⟨_, h1, h2⟩ := h; injection h1 with h1; subst h1; exact h2) [1, 2, 3, 4, 5] (by decide) (by decide)
          obtain ⟨h851, hx811⟩ := as_some hx811
          refine WL.append hS850 5 (d := 64) (tS := 25) (z := (.int .i64 0)) (bytes := 8) (c2 := 1) rfl (fun fb => by kernel_rfl) (rowO.rd (hS850.own 0).1) (by kernel_rfl) (by kernel_rfl) rfl (by decide) h851 (by decide) [0, 1, 2, 3, 4] (by decide) (by decide) (fun A852 c853 w854 hS855 => ?_)
          refine ⟨trivial, ?_⟩
          refine seg 14 [] [1, 3, 5, 6, 32, 33, 34, 64, 66] [(1, (.pointer (some ⟨g144, 0, none⟩))), (3, (.pointer (some ⟨g148, 0, none⟩))), (5, (.int .i64 x705)), (6, (.pointer (some ⟨g813, 0, none⟩))), (32, (.slice A_p0_Actions p0.Actions.length c_p0_Actions)), (33, (.int .i64 (p0.Actions.length : Int))), (34, (.int .i64 x705)), (64, (.slice A852 (l704 ++ [(l701.length : Int)]).length c853)), (66, (.pointer (some ⟨g148, 4, none⟩)))] [] (fun fb => by kernel_rfl) rfl trivial ?_
          refine WL.store hS855 4 rfl [(4, (.slice A852 (l704 ++ [(l701.length : Int)]).length c853))] #[(.int .i64 p0.States), (.int .i64 p0.Symbols), (.slice A_p0_Actions p0.Actions.length c_p0_Actions), (.slice A699 l701.length c700), (.slice A852 (l704 ++ [(l701.length : Int)]).length c853), (.int .i64 0)] (fun fb => by kernel_rfl) (by kernel_rfl) rfl [0, 1, 2, 3, 5] (by decide) (by decide) (fun w856 hS857 => ?_)
          refine ⟨trivial, ?_⟩
          refine WL.done rfl ?_
          refine WX.next ?_
          obtain ⟨h879, hx811⟩ := as_some hx811
          refine WC.regionD ([(4, ⟨g148, 3, none⟩, (.slice A699 l701.length c700)), (8, ⟨g144, 1, none⟩, (.int .i64 p0.Symbols)), (12, ⟨g144, 1, none⟩, (.int .i64 p0.Symbols)), (14, ⟨g813, 0, none⟩, (.int .i64 ((rdD p0.Actions x705 z_Action).Write))), (14, ⟨g813, 1, none⟩, (.int .i64 ((rdD p0.Actions x705 z_Action).Move))), (14, ⟨g813, 2, none⟩, (.int .i64 ((rdD p0.Actions x705 z_Action).Next)))], [0, 1, 2, 3, 4, 5, 6, 7, 8, 9, 10, 11, 12, 13, 14, 18, 19], [[], [], [1], [1, 2], [1, 2, 3], [], [], [], [7], [6, 7, 8], [], [], [11], [10, 11, 12], [], [5, 6, 7, 8, 9, 10, 11, 12, 13, 14], [5, 6, 7, 8, 9, 10, 11, 12, 13, 14, 15], [1, 2, 3, 4, 5, 6, 7, 8, 9, 10, 11, 12, 13, 14, 15, 16], [0, 1, 2, 3, 4, 5, 6, 7, 8, 9, 10, 11, 12, 13, 14, 15, 16, 17], [0, 1, 2, 3, 4, 5, 6, 7, 8, 9, 10, 11, 12, 13, 14, 15, 16, 17, 18], [0, 1, 2, 3, 4, 5, 6, 7, 8, 9, 10, 11, 12, 13, 14, 15, 16, 17, 18, 19]]) [[0, 1, 2, 3, 4, 5, 6, 7, 8, 9, 10, 11, 12, 13, 14, 15, 16, 17, 18, 19, 20]] (by kernel_rfl) (by kernel_rfl) (NoPanic.block (NoPanic.seq (NoPanic.seq (NoPanic.block (NoPanic.seq (NoPanic.body)))))) ?_
          have hS877 := hS857.drew
          revert hS877
          generalize World.drew w856 = w876
          intro hS877
          refine ⟨⟨hS877.cell 0 rfl 3 rfl, hS877.cell 4 rfl 1 rfl, hS877.cell 4 rfl 1 rfl, hS877.cell 3 rfl 0 rfl, hS877.cell 3 rfl 1 rfl, hS877.cell 3 rfl 2 rfl, trivial⟩, forallC ?_ (forallN)⟩
          refine segF 15 [.v (.slice A699 l701.length c700), .v (.int .i64 p0.Symbols), .v (.int .i64 p0.Symbols), .v (.int .i64 ((rdD p0.Actions x705 z_Action).Write)), .v (.int .i64 ((rdD p0.Actions x705 z_Action).Move)), .v (.int .i64 ((rdD p0.Actions x705 z_Action).Next))] [1, 3, 32, 33, 34, 67, 71, 72, 76, 80, 81] [(1, (.pointer (some ⟨g144, 0, none⟩))), (3, (.pointer (some ⟨g148, 0, none⟩))), (32, (.slice A_p0_Actions p0.Actions.length c_p0_Actions)), (33, (.int .i64 (p0.Actions.length : Int))), (34, (.int .i64 x705)), (67, (.pointer (some ⟨g148, 0, none⟩))), (71, (.slice A699 l701.length c700)), (72, (.pointer (some ⟨g148, 0, none⟩))), (76, (.int .i64 (w64 (Int.tdiv x705 p0.Symbols)))), (80, (.int .i64 (Int.tmod x705 p0.Symbols))), (81, (.agg #[(.int .i64 ((rdD p0.Actions x705 z_Action).Write)), (.int .i64 ((rdD p0.Actions x705 z_Action).Move)), (.int .i64 ((rdD p0.Actions x705 z_Action).Next))]))] [.ne p0.Symbols, .ne p0.Symbols] [0, 1, 2, 3, 4, 5] [(4, ⟨g148, 3, none⟩, (.slice A699 l701.length c700)), (8, ⟨g144, 1, none⟩, (.int .i64 p0.Symbols)), (12, ⟨g144, 1, none⟩, (.int .i64 p0.Symbols)), (14, ⟨g813, 0, none⟩, (.int .i64 ((rdD p0.Actions x705 z_Action).Write))), (14, ⟨g813, 1, none⟩, (.int .i64 ((rdD p0.Actions x705 z_Action).Move))), (14, ⟨g813, 2, none⟩, (.int .i64 ((rdD p0.Actions x705 z_Action).Next)))] (fun fb => by kernel_rfl) rfl ⟨h879, h879, trivial⟩ rfl ?_
          obtain ⟨t880, ht881, hx811⟩ := bind_some hx811
          refine WL.call (some 82) 60 #[(.pointer (some ⟨g148, 0, none⟩)), (.int .i64 (w64 (Int.tdiv x705 p0.Symbols))), (.int .i64 (Int.tmod x705 p0.Symbols)), (.agg #[(.int .i64 ((rdD p0.Actions x705 z_Action).Write)), (.int .i64 ((rdD p0.Actions x705 z_Action).Move)), (.int .i64 ((rdD p0.Actions x705 z_Action).Next))])] (fun fb => by kernel_rfl) (machine_kit_acts_calls (Kit.mk p0 l701 (l704 ++ [(l701.length : Int)]) 0) (w64 (Int.tdiv x705 p0.Symbols)) (Int.tmod x705 p0.Symbols) (rdD p0.Actions x705 z_Action) g148 A_p0_Actions c_p0_Actions A699 c700 A852 c853 t880 _ (hS877.ow 0) (hS877.rd 0) (hS877.ow 5).ofO (hS877.ow 1).ofO ht881) (fun v w882 hR883 => ?_)
          obtain ⟨rfl, hk_⟩ := hR883
          have hS884 := hS877.keepN hk_
          refine ⟨⟨hS884.cell 0 rfl 3 rfl, trivial⟩, ?_⟩
          refine WL.new hS884 83 [] (fun g => (.slice (some ⟨g, 0, none⟩) 1 1)) (.cells #[(.int .i64 t880.N), (.int .i64 t880.E), (.int .i64 t880.S), (.int .i64 t880.W)] 65 (0, 0)) [] (fun fb g => by kernel_rfl) trivial (fun g885 w886 hS887 => ?_)
          refine ⟨⟨hS887.cell 1 rfl 3 rfl, trivial⟩, ?_⟩
          have hS889 : St NoS w w886 [rowR enc_Action A_p0_Actions c_p0_Actions p0.Actions] [rowO 65 enc_Tile (some ⟨g885, 0, none⟩) 1 [t880], blk g148 (.cells #[(.int .i64 p0.States), (.int .i64 p0.Symbols), (.slice A_p0_Actions p0.Actions.length c_p0_Actions), (.slice A699 l701.length c700), (.slice A852 (l704 ++ [(l701.length : Int)]).length c853), (.int .i64 0)] 96 (0, 0)), rowO 3 encInt A852 c853 (l704 ++ [(l701.length : Int)]), rowO 3 encInt (some ⟨g846, 0, none⟩) 1 [(l701.length : Int)], blk g813 (.cells #[(.int .i64 ((rdD p0.Actions x705 z_Action).Write)), (.int .i64 ((rdD p0.Actions x705 z_Action).Move)), (.int .i64 ((rdD p0.Actions x705 z_Action).Next))] 88 (0, 0)), blk g144 (.cells #[(.int .i64 p0.States), (.int .i64 p0.Symbols), (.slice A_p0_Actions p0.Actions.length c_p0_Actions)] 24 (0, 0)), rowO 65 enc_Tile A699 c700 l701] := hS887.map1 0 _ (fun h => rowO.ofBlk h rfl (Nat.le_of_ble_eq_true (by kernel_rfl))) (fun _ h => by obtain ⟨_, h1, h2⟩ := h; injection h1 with h1; subst h1; exact h2) [1, 2, 3, 4, 5, 6] (by decide) (by decide)
          obtain ⟨h890, hx811⟩ := as_some hx811
          refine WL.append hS889 6 (d := 84) (tS := 50) (z := (.agg #[(.int .i64 0), (.int .i64 0), (.int .i64 0), (.int .i64 0)])) (bytes := 32) (c2 := 1) rfl (fun fb => by kernel_rfl) (rowO.rd (hS889.own 0).1) (by kernel_rfl) (by kernel_rfl) rfl (by decide) h890 (by decide) [0, 1, 2, 3, 4, 5] (by decide) (by decide) (fun A891 c892 w893 hS894 => ?_)
          refine ⟨trivial, ?_⟩
          refine seg 20 [] [1, 3, 32, 33, 34, 84, 86] [(1, (.pointer (some ⟨g144, 0, none⟩))), (3, (.pointer (some ⟨g148, 0, none⟩))), (32, (.slice A_p0_Actions p0.Actions.length c_p0_Actions)), (33, (.int .i64 (p0.Actions.length : Int))), (34, (.int .i64 x705)), (84, (.slice A891 (l701 ++ [t880]).length c892)), (86, (.pointer (some ⟨g148, 3, none⟩)))] [] (fun fb => by kernel_rfl) rfl trivial ?_
          refine WL.store hS894 2 rfl [(3, (.slice A891 (l701 ++ [t880]).length c892))] #[(.int .i64 p0.States), (.int .i64 p0.Symbols), (.slice A_p0_Actions p0.Actions.length c_p0_Actions), (.slice A891 (l701 ++ [t880]).length c892), (.slice A852 (l704 ++ [(l701.length : Int)]).length c853), (.int .i64 0)] (fun fb => by kernel_rfl) (by kernel_rfl) rfl [0, 1, 3, 4, 5, 6] (by decide) (by decide) (fun w895 hS896 => ?_)
          refine ⟨trivial, ?_⟩
          refine WL.done rfl ?_
          injection hx811 with hx811
          exact WX.blockN (WX.to Kx810 ((l701 ++ [t880], l704 ++ [(l701.length : Int)]), A891, c892, A852, c853) [1, 3, 32, 33, 34] rfl ⟨(hS896.subR [0]).sub [6, 0, 1, 3] (by decide), hx811.symm⟩)
        rintro ⟨y900, A804, c805, A807, c808⟩ w897 ⟨hS898, hq899⟩
        subst hq899
        refine WX.next ?_
        refine WC.region ?_
        refine seg 2 [] [1, 3, 32, 33, 34] [(1, (.pointer (some ⟨g144, 0, none⟩))), (3, (.pointer (some ⟨g148, 0, none⟩))), (32, (.slice A_p0_Actions p0.Actions.length c_p0_Actions)), (33, (.int .i64 (p0.Actions.length : Int))), (34, (.int .i64 (w64 (x705 + 1))))] [] (fun fb => by kernel_rfl) rfl trivial ?_
        refine WL.done rfl ?_
        exact WX.again k714 (Nat.lt_succ_self _) ((x810.1, x810.2, w64 (x705 + 1)), A804, c805, A807, c808) [1, 3, 32, 33, 34] rfl ⟨(hS898.subR [0]).sub [0, 1, 2, 3] (by decide), hl717⟩
      refine WC.condF2 (fun fb => by kernel_rfl) h718 ?_
      refine WC.exit ?_
      injection hl717 with hl717
      exact WX.thenX (WX.thenX (WX.blockHere (WX.to Kx712 ((l701, l704), A699, c700, A702, c703) [1, 3] rfl ⟨(hS716.subR [0]).sub [0, 1, 2, 3] (by decide), hl717.symm⟩)))
  rintro ⟨y904, A706, c707, A709, c710⟩ w901 ⟨hS902, hq903⟩
  subst hq903
  refine WX.next ?_
  refine WC.seq ?_
  refine WC.region ?_
  refine seg 8 [.v (.slice A706 x712.1.length c707)] [1, 3, 93, 95] [(1, (.pointer (some ⟨g144, 0, none⟩))), (3, (.pointer (some ⟨g148, 0, none⟩))), (93, (.int .i64 (x712.1.length : Int))), (95, (.pointer (some ⟨g148, 5, none⟩)))] [.cell ⟨g148, 3, none⟩ (.slice A706 x712.1.length c707)] (fun fb => by kernel_rfl) rfl ⟨hS902.cell 1 rfl 3 rfl, trivial⟩ ?_
  refine WL.store hS902 1 rfl [(5, (.int .i64 (x712.1.length : Int)))] #[(.int .i64 p0.States), (.int .i64 p0.Symbols), (.slice A_p0_Actions p0.Actions.length c_p0_Actions), (.slice A706 x712.1.length c707), (.slice A709 x712.2.length c710), (.int .i64 (x712.1.length : Int))] (fun fb => by kernel_rfl) (by kernel_rfl) rfl [0, 2, 3] (by decide) (by decide) (fun w905 hS906 => ?_)
  refine ⟨trivial, ?_⟩
  refine WL.done rfl ?_
  refine WX.next ?_
  refine WC.seq ?_
  refine WC.seq ?_
  refine WC.region ?_
  refine seg 3 [.v (.int .i64 p0.States)] [1, 3, 97, 98] [(1, (.pointer (some ⟨g144, 0, none⟩))), (3, (.pointer (some ⟨g148, 0, none⟩))), (97, (.int .i64 p0.States)), (98, (.int .i64 0))] [.cell ⟨g144, 0, none⟩ (.int .i64 p0.States)] (fun fb => by kernel_rfl) rfl ⟨hS906.cell 1 rfl 0 rfl, trivial⟩ ?_
  refine WL.done rfl ?_
  refine WX.next ?_
  obtain ⟨x1274, hx1275, hf⟩ := bind_some hf
  refine WC.cutN (T := (List Tile) × (Option Addr) × Nat) (fun t => [(3, (.pointer (some ⟨g148, 0, none⟩)))]) (fun t w1 => St NoS w w1 [rowR enc_Action A_p0_Actions c_p0_Actions p0.Actions] [blk g148 (.cells #[(.int .i64 p0.States), (.int .i64 p0.Symbols), (.slice A_p0_Actions p0.Actions.length c_p0_Actions), (.slice t.2.1 t.1.length t.2.2), (.slice A709 x712.2.length c710), (.int .i64 (x712.1.length : Int))] 96 (0, 0)), rowO 65 enc_Tile t.2.1 t.2.2 t.1, rowO 3 encInt A709 c710 x712.2] ∧ x1274 = t.1) (fun Kx1274 => ?_) ?_
  ·
    refine WC.block ?_
    refine WC.loop (T := ((List Tile) × Int) × (Option Addr) × Nat) (fun t => [(1, (.pointer (some ⟨g144, 0, none⟩))), (3, (.pointer (some ⟨g148, 0, none⟩))), (97, (.int .i64 p0.States)), (98, (.int .i64 t.1.2))]) (fun n t w1 => St NoS w w1 [rowR enc_Action A_p0_Actions c_p0_Actions p0.Actions] [blk g144 (.cells #[(.int .i64 p0.States), (.int .i64 p0.Symbols), (.slice A_p0_Actions p0.Actions.length c_p0_Actions)] 24 (0, 0)), blk g148 (.cells #[(.int .i64 p0.States), (.int .i64 p0.Symbols), (.slice A_p0_Actions p0.Actions.length c_p0_Actions), (.slice t.2.1 t.1.1.length t.2.2), (.slice A709 x712.2.length c710), (.int .i64 (x712.1.length : Int))] 96 (0, 0)), rowO 65 enc_Tile t.2.1 t.2.2 t.1.1, rowO 3 encInt A709 c710 x712.2] ∧ machine_kitOf.l2 n t.1.1 t.1.2 p0 x712 = some x1274) k ((x712.1, 0), A706, c707) [1, 3, 97, 98] rfl ⟨(hS906.subR [0]).sub [1, 0, 2, 3] (by decide), hx1275⟩ ?_
    rintro k1276 ⟨⟨l1269, x1270⟩, A1267, c1268⟩ w1277 ⟨hS1278, hl1279⟩
    cases k1276 with
    | zero => rw [machine_kitOf.l2] at hl1279; cases hl1279
    | succ k1276 =>
      rw [machine_kitOf.l2] at hl1279
      refine WC.seq ?_
      refine WC.region ?_
      refine seg 1 [] [1, 3, 97, 98, 99] [(1, (.pointer (some ⟨g144, 0, none⟩))), (3, (.pointer (some ⟨g148, 0, none⟩))), (97, (.int .i64 p0.States)), (98, (.int .i64 x1270)), (99, (.bool (decide (x1270 < p0.States))))] [] (fun fb => by kernel_rfl) rfl trivial ?_
      refine WL.done rfl ?_
      refine WX.next ?_
      refine WC.seq ?_
      rcases br_some hl1279 with ⟨h1280, hl1279⟩ | ⟨h1280, hl1279⟩
      · refine WC.condT2 (fun fb => by kernel_rfl) h1280 ?_
        refine WC.skip ?_
        refine WX.next ?_
        refine WC.seq ?_
        refine WC.block ?_
        refine WC.seq ?_
        refine WC.region ?_
        refine seg 2 [] [1, 3, 7, 97, 98] [(1, (.pointer (some ⟨g144, 0, none⟩))), (3, (.pointer (some ⟨g148, 0, none⟩))), (7, (.int .i64 x1270)), (97, (.int .i64 p0.States)), (98, (.int .i64 x1270))] [] (fun fb => by kernel_rfl) rfl trivial ?_
        refine WL.done rfl ?_
        refine WX.next ?_
        refine WC.seq ?_
        refine WC.region ?_
        refine seg 3 [.v (.int .i64 p0.Symbols)] [1, 3, 7, 97, 98, 102, 103] [(1, (.pointer (some ⟨g144, 0, none⟩))), (3, (.pointer (some ⟨g148, 0, none⟩))), (7, (.int .i64 x1270)), (97, (.int .i64 p0.States)), (98, (.int .i64 x1270)), (102, (.int .i64 p0.Symbols)), (103, (.int .i64 0))] [.cell ⟨g144, 1, none⟩ (.int .i64 p0.Symbols)] (fun fb => by kernel_rfl) rfl ⟨hS1278.cell 0 rfl 1 rfl, trivial⟩ ?_
        refine WL.done rfl ?_
        refine WX.next ?_
        obtain ⟨x1396, hx1397, hl1279⟩ := bind_some hl1279
        refine WC.cutN (T := (List Tile) × (Option Addr) × Nat) (fun t => [(1, (.pointer (some ⟨g144, 0, none⟩))), (3, (.pointer (some ⟨g148, 0, none⟩))), (97, (.int .i64 p0.States)), (98, (.int .i64 x1270))]) (fun t w1 => St NoS w w1 [rowR enc_Action A_p0_Actions c_p0_Actions p0.Actions] [blk g144 (.cells #[(.int .i64 p0.States), (.int .i64 p0.Symbols), (.slice A_p0_Actions p0.Actions.length c_p0_Actions)] 24 (0, 0)), blk g148 (.cells #[(.int .i64 p0.States), (.int .i64 p0.Symbols), (.slice A_p0_Actions p0.Actions.length c_p0_Actions), (.slice t.2.1 t.1.length t.2.2), (.slice A709 x712.2.length c710), (.int .i64 (x712.1.length : Int))] 96 (0, 0)), rowO 65 enc_Tile t.2.1 t.2.2 t.1, rowO 3 encInt A709 c710 x712.2] ∧ x1396 = t.1) (fun Kx1396 => ?_) ?_
        ·
          refine WC.block ?_
          refine WC.loop (T := ((List Tile) × Int) × (Option Addr) × Nat) (fun t => [(1, (.pointer (some ⟨g144, 0, none⟩))), (3, (.pointer (some ⟨g148, 0, none⟩))), (7, (.int .i64 x1270)), (97, (.int .i64 p0.States)), (98, (.int .i64 x1270)), (102, (.int .i64 p0.Symbols)), (103, (.int .i64 t.1.2))]) (fun n t w1 => St NoS w w1 [rowR enc_Action A_p0_Actions c_p0_Actions p0.Actions] [blk g144 (.cells #[(.int .i64 p0.States), (.int .i64 p0.Symbols), (.slice A_p0_Actions p0.Actions.length c_p0_Actions)] 24 (0, 0)), blk g148 (.cells #[(.int .i64 p0.States), (.int .i64 p0.Symbols), (.slice A_p0_Actions p0.Actions.length c_p0_Actions), (.slice t.2.1 t.1.1.length t.2.2), (.slice A709 x712.2.length c710), (.int .i64 (x712.1.length : Int))] 96 (0, 0)), rowO 65 enc_Tile t.2.1 t.2.2 t.1.1, rowO 3 encInt A709 c710 x712.2] ∧ machine_kitOf.l3 n t.1.1 t.1.2 p0 x712 x1270 = some x1396) k1276 ((l1269, 0), A1267, c1268) [1, 3, 7, 97, 98, 102, 103] rfl ⟨(hS1278.subR [0]).sub [0, 1, 2, 3] (by decide), hx1397⟩ ?_
          rintro k1398 ⟨⟨l1391, x1392⟩, A1389, c1390⟩ w1399 ⟨hS1400, hl1401⟩
          cases k1398 with
          | zero => rw [machine_kitOf.l3] at hl1401; cases hl1401
          | succ k1398 =>
            rw [machine_kitOf.l3] at hl1401
            refine WC.seq ?_
            refine WC.region ?_
            refine seg 1 [] [1, 3, 7, 97, 98, 102, 103, 104] [(1, (.pointer (some ⟨g144, 0, none⟩))), (3, (.pointer (some ⟨g148, 0, none⟩))), (7, (.int .i64 x1270)), (97, (.int .i64 p0.States)), (98, (.int .i64 x1270)), (102, (.int .i64 p0.Symbols)), (103, (.int .i64 x1392)), (104, (.bool (decide (x1392 < p0.Symbols))))] [] (fun fb => by kernel_rfl) rfl trivial ?_
            refine WL.done rfl ?_
            refine WX.next ?_
            refine WC.seq ?_
            rcases br_some hl1401 with ⟨h1402, hl1401⟩ | ⟨h1402, hl1401⟩
            · refine WC.condT2 (fun fb => by kernel_rfl) h1402 ?_
              refine WC.skip ?_
              refine WX.next ?_
              refine WC.seq ?_
              refine WC.block ?_
              refine WC.seq ?_
              refine WC.region ?_
              refine seg 2 [] [1, 3, 7, 8, 97, 98, 102, 103] [(1, (.pointer (some ⟨g144, 0, none⟩))), (3, (.pointer (some ⟨g148, 0, none⟩))), (7, (.int .i64 x1270)), (8, (.int .i64 x1392)), (97, (.int .i64 p0.States)), (98, (.int .i64 x1270)), (102, (.int .i64 p0.Symbols)), (103, (.int .i64 x1392))] [] (fun fb => by kernel_rfl) rfl trivial ?_
              refine WL.done rfl ?_
              refine WX.next ?_
              refine WC.seq ?_
              refine WC.region ?_
              refine seg 3 [.v (.int .i64 p0.States), .v (.int .i64 p0.Symbols), .v (.slice A_p0_Actions p0.Actions.length c_p0_Actions)] [1, 3, 7, 8, 97, 98, 102, 103, 106, 107, 108] [(1, (.pointer (some ⟨g144, 0, none⟩))), (3, (.pointer (some ⟨g148, 0, none⟩))), (7, (.int .i64 x1270)), (8, (.int .i64 x1392)), (97, (.int .i64 p0.States)), (98, (.int .i64 x1270)), (102, (.int .i64 p0.Symbols)), (103, (.int .i64 x1392)), (106, (.agg #[(.int .i64 p0.States), (.int .i64 p0.Symbols), (.slice A_p0_Actions p0.Actions.length c_p0_Actions)])), (107, (.int .i64 x1270)), (108, (.int .i64 x1392))] [.cell ⟨g144, 0, none⟩ (.int .i64 p0.States), .cell ⟨g144, 1, none⟩ (.int .i64 p0.Symbols), .cell ⟨g144, 2, none⟩ (.slice A_p0_Actions p0.Actions.length c_p0_Actions)] (fun fb => by kernel_rfl) rfl ⟨hS1400.cell 0 rfl 0 rfl, hS1400.cell 0 rfl 1 rfl, hS1400.cell 0 rfl 2 rfl, trivial⟩ ?_
              obtain ⟨t1403, ht1404, hl1401⟩ := bind_some hl1401
              refine WL.call (some 109) 61 #[(.agg #[(.int .i64 p0.States), (.int .i64 p0.Symbols), (.slice A_p0_Actions p0.Actions.length c_p0_Actions)]), (.int .i64 x1270), (.int .i64 x1392)] (fun fb => by kernel_rfl) (machine_head_calls p0 x1270 x1392 A_p0_Actions c_p0_Actions t1403 _ (hS1400.rd 0) ht1404) (fun v w1405 hR1406 => ?_)
              obtain ⟨rfl, hk_⟩ := hR1406
              have hS1407 := hS1400.keepN hk_
              refine ⟨trivial, ?_⟩
              refine seg 5 [] [1, 3, 7, 8, 9, 97, 98, 102, 103] [(1, (.pointer (some ⟨g144, 0, none⟩))), (3, (.pointer (some ⟨g148, 0, none⟩))), (7, (.int .i64 x1270)), (8, (.int .i64 x1392)), (9, (.int .i64 t1403)), (97, (.int .i64 p0.States)), (98, (.int .i64 x1270)), (102, (.int .i64 p0.Symbols)), (103, (.int .i64 x1392))] [] (fun fb => by kernel_rfl) rfl trivial ?_
              refine WL.done rfl ?_
              refine WX.next ?_
              refine WC.regionD ([(4, ⟨g148, 3, none⟩, (.slice A1389 l1391.length c1390))], [0, 1, 2, 3, 4, 5, 6, 7, 8, 10, 11, 12, 13, 14, 16, 19, 20], [[], [], [1], [1, 2], [1, 2, 3], [], [], [], [], [7, 8], [5, 6, 7, 8, 9], [], [], [], [], [7, 8, 9, 13, 14], [7, 8, 9, 11, 12, 13, 14, 15], [5, 6, 7, 8, 9, 10, 11, 12, 13, 14, 15, 16], [1, 2, 3, 4, 5, 6, 7, 8, 9, 10, 11, 12, 13, 14, 15, 16, 17], [0, 1, 2, 3, 4, 5, 6, 7, 8, 9, 10, 11, 12, 13, 14, 15, 16, 17, 18], [0, 1, 2, 3, 4, 5, 6, 7, 8, 9, 10, 11, 12, 13, 14, 15, 16, 17, 18, 19], [0, 1, 2, 3, 4, 5, 6, 7, 8, 9, 10, 11, 12, 13, 14, 15, 16, 17, 18, 19, 20]]) [[0, 1, 2, 3, 4, 5, 6, 7, 8, 11, 12, 13, 14, 9, 10, 15, 16, 17, 18, 19, 20, 21]] (by kernel_rfl) (by kernel_rfl) (NoPanic.block (NoPanic.seq (NoPanic.seq (NoPanic.block (NoPanic.block (NoPanic.seq (NoPanic.seq (NoPanic.block (NoPanic.seq (NoPanic.body)))))))))) ?_
              have hS1431 := hS1407.drew
              revert hS1431
              generalize World.drew w1405 = w1430
              intro hS1431
              refine ⟨⟨hS1431.cell 1 rfl 3 rfl, trivial⟩, forallC ?_ (forallN)⟩
              refine segF 13 [.v (.slice A1389 l1391.length c1390)] [1, 3, 7, 97, 98, 102, 103, 110, 114, 115, 116, 117, 118, 121, 122, 123, 124] [(1, (.pointer (some ⟨g144, 0, none⟩))), (3, (.pointer (some ⟨g148, 0, none⟩))), (7, (.int .i64 x1270)), (97, (.int .i64 p0.States)), (98, (.int .i64 x1270)), (102, (.int .i64 p0.Symbols)), (103, (.int .i64 x1392)), (110, (.pointer (some ⟨g148, 0, none⟩))), (114, (.slice A1389 l1391.length c1390)), (115, (.int .i64 t1403)), (116, (.int .i64 x1392)), (117, (.pointer (some ⟨g148, 0, none⟩))), (118, (.int .i64 x1270)), (121, (.int .i64 t1403)), (122, (.int .i64 x1392)), (123, (.pointer (some ⟨g148, 0, none⟩))), (124, (.int .i64 x1270))] [] [0] [(4, ⟨g148, 3, none⟩, (.slice A1389 l1391.length c1390))] (fun fb => by kernel_rfl) rfl trivial rfl ?_
              obtain ⟨t1432, ht1433, hl1401⟩ := bind_some hl1401
              refine WL.call (some 119) 62 #[(.pointer (some ⟨g148, 0, none⟩)), (.int .i64 1), (.int .i64 x1270)] (fun fb => by kernel_rfl) (machine_kit_signal_calls (Kit.mk p0 l1391 x712.2 (x712.1.length : Int)) 1 x1270 g148 A_p0_Actions c_p0_Actions A1389 c1390 A709 c710 t1432 _ (hS1431.ow 1) (hS1431.rd 0) (hS1431.ow 2).ofO (hS1431.ow 3).ofO ht1433) (fun v w1434 hR1435 => ?_)
              obtain ⟨rfl, hk_⟩ := hR1435
              have hS1436 := hS1431.keepN hk_
              refine ⟨⟨hS1436.cell 1 rfl 3 rfl, trivial⟩, ?_⟩
              refine seg 15 [] [1, 3, 7, 97, 98, 102, 103, 110, 114, 120, 121, 122, 123, 124] [(1, (.pointer (some ⟨g144, 0, none⟩))), (3, (.pointer (some ⟨g148, 0, none⟩))), (7, (.int .i64 x1270)), (97, (.int .i64 p0.States)), (98, (.int .i64 x1270)), (102, (.int .i64 p0.Symbols)), (103, (.int .i64 x1392)), (110, (.pointer (some ⟨g148, 0, none⟩))), (114, (.slice A1389 l1391.length c1390)), (120, (.agg #[(.int .i64 t1403), (.int .i64 0), (.int .i64 x1392), (.int .i64 t1432)])), (121, (.int .i64 t1403)), (122, (.int .i64 x1392)), (123, (.pointer (some ⟨g148, 0, none⟩))), (124, (.int .i64 x1270))] [] (fun fb => by kernel_rfl) rfl trivial ?_
              obtain ⟨t1437, ht1438, hl1401⟩ := bind_some hl1401
              refine WL.call (some 125) 62 #[(.pointer (some ⟨g148, 0, none⟩)), (.int .i64 0), (.int .i64 x1270)] (fun fb => by kernel_rfl) (machine_kit_signal_calls (Kit.mk p0 l1391 x712.2 (x712.1.length : Int)) 0 x1270 g148 A_p0_Actions c_p0_Actions A1389 c1390 A709 c710 t1437 _ (hS1436.ow 1) (hS1436.rd 0) (hS1436.ow 2).ofO (hS1436.ow 3).ofO ht1438) (fun v w1439 hR1440 => ?_)
              obtain ⟨rfl, hk_⟩ := hR1440
              have hS1441 := hS1436.keepN hk_
              refine ⟨⟨hS1441.cell 1 rfl 3 rfl, trivial⟩, ?_⟩
              refine seg 17 [] [1, 3, 7, 97, 98, 102, 103, 110, 114, 120, 126] [(1, (.pointer (some ⟨g144, 0, none⟩))), (3, (.pointer (some ⟨g148, 0, none⟩))), (7, (.int .i64 x1270)), (97, (.int .i64 p0.States)), (98, (.int .i64 x1270)), (102, (.int .i64 p0.Symbols)), (103, (.int .i64 x1392)), (110, (.pointer (some ⟨g148, 0, none⟩))), (114, (.slice A1389 l1391.length c1390)), (120, (.agg #[(.int .i64 t1403), (.int .i64 0), (.int .i64 x1392), (.int .i64 t1432)])), (126, (.agg #[(.int .i64 t1403), (.int .i64 t1437), (.int .i64 x1392), (.int .i64 0)]))] [] (fun fb => by kernel_rfl) rfl trivial ?_
              refine WL.new hS1441 127 [] (fun g => (.slice (some ⟨g, 0, none⟩) 2 2)) (.cells #[(.int .i64 t1403), (.int .i64 0), (.int .i64 x1392), (.int .i64 t1432), (.int .i64 t1403), (.int .i64 t1437), (.int .i64 x1392), (.int .i64 0)] 65 (0, 0)) [] (fun fb g => by kernel_rfl) trivial (fun g1442 w1443 hS1444 => ?_)
              refine ⟨⟨hS1444.cell 2 rfl 3 rfl, trivial⟩, ?_⟩
              have hS1446 : St NoS w w1443 [rowR enc_Action A_p0_Actions c_p0_Actions p0.Actions] [rowO 65 enc_Tile (some ⟨g1442, 0, none⟩) 2 [(Tile.mk t1403 0 x1392 t1432), (Tile.mk t1403 t1437 x1392 0)], blk g144 (.cells #[(.int .i64 p0.States), (.int .i64 p0.Symbols), (.slice A_p0_Actions p0.Actions.length c_p0_Actions)] 24 (0, 0)), blk g148 (.cells #[(.int .i64 p0.States), (.int .i64 p0.Symbols), (.slice A_p0_Actions p0.Actions.length c_p0_Actions), (.slice A1389 l1391.length c1390), (.slice A709 x712.2.length c710), (.int .i64 (x712.1.length : Int))] 96 (0, 0)), rowO 65 enc_Tile A1389 c1390 l1391, rowO 3 encInt A709 c710 x712.2] := hS1444.map1 0 _ (fun h => rowO.ofBlk h rfl (Nat.le_of_ble_eq_true (by kernel_rfl))) (fun _ h => by obtain ⟨_, h1, h2⟩ := h; injection h1 with h1; subst h1; exact h2) [1, 2, 3, 4] (by decide) (by decide)
              obtain ⟨h1447, hl1401⟩ := as_some hl1401
              refine WL.append hS1446 3 (d := 128) (tS := 50) (z := (.agg #[(.int .i64 0), (.int .i64 0), (.int .i64 0), (.int .i64 0)])) (bytes := 32) (c2 := 2) rfl (fun fb => by kernel_rfl) (rowO.rd (hS1446.own 0).1) (by kernel_rfl) (by kernel_rfl) rfl (by decide) h1447 (by decide) [0, 1, 2, 4] (by decide) (by decide) (fun A1448 c1449 w1450 hS1451 => ?_)
              refine ⟨trivial, ?_⟩
              refine seg 21 [] [1, 3, 7, 97, 98, 102, 103, 128, 130] [(1, (.pointer (some ⟨g144, 0, none⟩))), (3, (.pointer (some ⟨g148, 0, none⟩))), (7, (.int .i64 x1270)), (97, (.int .i64 p0.States)), (98, (.int .i64 x1270)), (102, (.int .i64 p0.Symbols)), (103, (.int .i64 x1392)), (128, (.slice A1448 (l1391 ++ [(Tile.mk t1403 0 x1392 t1432), (Tile.mk t1403 t1437 x1392 0)]).length c1449)), (130, (.pointer (some ⟨g148, 3, none⟩)))] [] (fun fb => by kernel_rfl) rfl trivial ?_
              refine WL.store hS1451 3 rfl [(3, (.slice A1448 (l1391 ++ [(Tile.mk t1403 0 x1392 t1432), (Tile.mk t1403 t1437 x1392 0)]).length c1449))] #[(.int .i64 p0.States), (.int .i64 p0.Symbols), (.slice A_p0_Actions p0.Actions.length c_p0_Actions), (.slice A1448 (l1391 ++ [(Tile.mk t1403 0 x1392 t1432), (Tile.mk t1403 t1437 x1392 0)]).length c1449), (.slice A709 x712.2.length c710), (.int .i64 (x712.1.length : Int))] (fun fb => by kernel_rfl) (by kernel_rfl) rfl [0, 1, 2, 4] (by decide) (by decide) (fun w1452 hS1453 => ?_)
              refine ⟨trivial, ?_⟩
              refine WL.done rfl ?_
              refine WX.blockN (WX.next ?_)
              refine WC.region ?_
              refine seg 2 [] [1, 3, 7, 97, 98, 102, 103] [(1, (.pointer (some ⟨g144, 0, none⟩))), (3, (.pointer (some ⟨g148, 0, none⟩))), (7, (.int .i64 x1270)), (97, (.int .i64 p0.States)), (98, (.int .i64 x1270)), (102, (.int .i64 p0.Symbols)), (103, (.int .i64 (w64 (x1392 + 1))))] [] (fun fb => by kernel_rfl) rfl trivial ?_
              refine WL.done rfl ?_
              exact WX.again k1398 (Nat.lt_succ_self _) ((l1391 ++ [(Tile.mk t1403 0 x1392 t1432), (Tile.mk t1403 t1437 x1392 0)], w64 (x1392 + 1)), A1448, c1449) [1, 3, 7, 97, 98, 102, 103] rfl ⟨(hS1453.subR [0]).sub [3, 0, 1, 4] (by decide), hl1401⟩
            refine WC.condF2 (fun fb => by kernel_rfl) h1402 ?_
            refine WC.exit ?_
            injection hl1401 with hl1401
            exact WX.thenX (WX.thenX (WX.blockHere (WX.to Kx1396 (l1391, A1389, c1390) [1, 3, 97, 98] rfl ⟨(hS1400.subR [0]).sub [0, 1, 2, 3] (by decide), hl1401.symm⟩)))
        rintro ⟨y1457, A1393, c1394⟩ w1454 ⟨hS1455, hq1456⟩
        subst hq1456
        refine WX.blockN (WX.next ?_)
        refine WC.region ?_
        refine seg 2 [] [1, 3, 97, 98] [(1, (.pointer (some ⟨g144, 0, none⟩))), (3, (.pointer (some ⟨g148, 0, none⟩))), (97, (.int .i64 p0.States)), (98, (.int .i64 (w64 (x1270 + 1))))] [] (fun fb => by kernel_rfl) rfl trivial ?_
        refine WL.done rfl ?_
        exact WX.again k1276 (Nat.lt_succ_self _) ((x1396, w64 (x1270 + 1)), A1393, c1394) [1, 3, 97, 98] rfl ⟨(hS1455.subR [0]).sub [0, 1, 2, 3] (by decide), hl1279⟩
      refine WC.condF2 (fun fb => by kernel_rfl) h1280 ?_
      refine WC.exit ?_
      injection hl1279 with hl1279
      exact WX.thenX (WX.thenX (WX.blockHere (WX.to Kx1274 (l1269, A1267, c1268) [3] rfl ⟨(hS1278.subR [0]).sub [1, 2, 3] (by decide), hl1279.symm⟩)))
  rintro ⟨y1461, A1271, c1272⟩ w1458 ⟨hS1459, hq1460⟩
  subst hq1460
  refine WX.next ?_
  refine WC.seq ?_
  refine WC.region ?_
  refine seg 2 [] [2] [(2, (.pointer (some ⟨g148, 0, none⟩)))] [] (fun fb => by kernel_rfl) rfl trivial ?_
  refine WL.done rfl ?_
  refine WX.next ?_
  refine WC.ret ?_
  injection hf with hf
  subst hf
  exact WX.ret_ [] (.pointer (some ⟨g148, 0, none⟩)) [] (fun fb => by kernel_rfl) trivial ⟨_, rfl, g148, A1271, c1272, A709, c710, rfl, (hS1459.sub [0, 1, 2] (by decide)).noR⟩
theorem machine_Tiles_calls (k : Nat) (p0 : Machine) (A_p0_Actions : Option Addr) (c_p0_Actions : Nat) (r : (List Tile) × Int) (w : World) (hR0 : RO NoS w (rowR enc_Action A_p0_Actions c_p0_Actions p0.Actions)) (hf : machine_Tiles k p0 = some r) :
    CallsR Try.prog 25 #[(.agg #[(.int .i64 p0.States), (.int .i64 p0.Symbols), (.slice A_p0_Actions p0.Actions.length c_p0_Actions)])] w (fun v w' => ∃ (A1_ : Option Addr), ∃ (c1_ : Nat), v = (.tuple #[(.slice A1_ r.1.length c1_), (.int .i64 r.2)]) ∧ St NoS w w' [] [rowO 65 enc_Tile A1_ c1_ r.1]) := by
  have hS : St NoS w w [rowR enc_Action A_p0_Actions c_p0_Actions p0.Actions] [] := St.init (ro_cons hR0 (ro_nil _ _))
  refine enter 12 Try.func25 rfl Try.ntmps25 rfl ?_
  unfold machine_Tiles at hf
  refine WC.seq ?_
  refine WC.region ?_
  refine WL.new hS 1 [] (fun g => (.pointer (some ⟨g, 0, none⟩))) (.cells #[(.int .i64 p0.States), (.int .i64 p0.Symbols), (.slice A_p0_Actions p0.Actions.length c_p0_Actions)] 24 (0, 0)) [] (fun fb g => by kernel_rfl) trivial (fun g30 w31 hS32 => ?_)
  refine ⟨trivial, ?_⟩
  refine seg 3 [] [1] [(1, (.pointer (some ⟨g30, 0, none⟩)))] [] (fun fb => by kernel_rfl) rfl trivial ?_
  refine WL.done rfl ?_
  refine WX.next ?_
  refine WC.seq ?_
  refine WC.seq ?_
  refine WC.region ?_
  refine seg 1 [.v (.int .i64 p0.States), .v (.int .i64 p0.Symbols), .v (.slice A_p0_Actions p0.Actions.length c_p0_Actions)] [1, 4] [(1, (.pointer (some ⟨g30, 0, none⟩))), (4, (.agg #[(.int .i64 p0.States), (.int .i64 p0.Symbols), (.slice A_p0_Actions p0.Actions.length c_p0_Actions)]))] [.cell ⟨g30, 0, none⟩ (.int .i64 p0.States), .cell ⟨g30, 1, none⟩ (.int .i64 p0.Symbols), .cell ⟨g30, 2, none⟩ (.slice A_p0_Actions p0.Actions.length c_p0_Actions)] (fun fb => by kernel_rfl) rfl ⟨hS32.cell 0 rfl 0 rfl, hS32.cell 0 rfl 1 rfl, hS32.cell 0 rfl 2 rfl, trivial⟩ ?_
  obtain ⟨t137, ht138, hf⟩ := bind_some hf
  refine WL.call (some 5) 16 #[(.agg #[(.int .i64 p0.States), (.int .i64 p0.Symbols), (.slice A_p0_Actions p0.Actions.length c_p0_Actions)])] (fun fb => by kernel_rfl) (machine_Valid_calls _ p0 A_p0_Actions c_p0_Actions t137 _ (hS32.rd 0) ht138) (fun v w139 hR140 => ?_)
  obtain ⟨rfl, hk_⟩ := hR140
  have hS141 := hS32.keepN hk_
  refine ⟨trivial, ?_⟩
  refine seg 3 [] [1, 6] [(1, (.pointer (some ⟨g30, 0, none⟩))), (6, (.bool (!t137)))] [] (fun fb => by kernel_rfl) rfl trivial ?_
  refine WL.done rfl ?_
  refine WX.next ?_
  rcases br_some hf with ⟨h142, hf⟩ | ⟨h142, hf⟩
  · refine WC.condT2 (fun fb => by kernel_rfl) h142 ?_
    refine WC.seq ?_
    refine WC.region ?_
    refine seg 2 [] [2, 3] [(2, (.slice none 0 0)), (3, (.int .i64 1))] [] (fun fb => by kernel_rfl) rfl trivial ?_
    refine WL.done rfl ?_
    refine WX.next ?_
    refine WC.ret ?_
    have hS143 := hS141.nilrow 65 enc_Tile
    injection hf with hf
    subst hf
    exact WX.thenR (WX.ret_ [] (.tuple #[(.slice none ([] : List Tile).length 0), (.int .i64 1)]) [] (fun fb => by kernel_rfl) trivial ⟨_, rfl, none, 0, rfl, (hS143.sub [0] (by decide)).noR⟩)
  refine WC.condF2 (fun fb => by kernel_rfl) h142 ?_
  refine WC.skip ?_
  refine WX.next ?_
  refine WC.seq ?_
  refine WC.region ?_
  refine seg 1 [.v (.int .i64 p0.States), .v (.int .i64 p0.Symbols), .v (.slice A_p0_Actions p0.Actions.length c_p0_Actions)] [7] [(7, (.agg #[(.int .i64 p0.States), (.int .i64 p0.Symbols), (.slice A_p0_Actions p0.Actions.length c_p0_Actions)]))] [.cell ⟨g30, 0, none⟩ (.int .i64 p0.States), .cell ⟨g30, 1, none⟩ (.int .i64 p0.Symbols), .cell ⟨g30, 2, none⟩ (.slice A_p0_Actions p0.Actions.length c_p0_Actions)] (fun fb => by kernel_rfl) rfl ⟨hS141.cell 0 rfl 0 rfl, hS141.cell 0 rfl 1 rfl, hS141.cell 0 rfl 2 rfl, trivial⟩ ?_
  obtain ⟨t1462, ht1463, hf⟩ := bind_some hf
  refine WL.call (some 8) 41 #[(.agg #[(.int .i64 p0.States), (.int .i64 p0.Symbols), (.slice A_p0_Actions p0.Actions.length c_p0_Actions)])] (fun fb => by kernel_rfl) (machine_kitOf_calls _ p0 A_p0_Actions c_p0_Actions t1462 _ (hS141.rd 0) ht1463) (fun v w1464 hR1465 => ?_)
  obtain ⟨g1467, A1468, c1469, A1470, c1471, rfl, hk_⟩ := hR1465
  have hS1466 : St NoS w w1464 [rowR enc_Action A_p0_Actions c_p0_Actions p0.Actions] [blk g1467 (.cells #[(.int .i64 t1462.m.States), (.int .i64 t1462.m.Symbols), (.slice A_p0_Actions p0.Actions.length c_p0_Actions), (.slice A1468 t1462.set.length c1469), (.slice A1470 t1462.does.length c1471), (.int .i64 t1462.base)] 96 (0, 0)), rowO 65 enc_Tile A1468 c1469 t1462.set, rowO 3 encInt A1470 c1471 t1462.does, blk g30 (.cells #[(.int .i64 p0.States), (.int .i64 p0.Symbols), (.slice A_p0_Actions p0.Actions.length c_p0_Actions)] 24 (0, 0))] := hS141.call hk_ [] [0] (fun g hg => hg.elim) (by simp) (by decide)
  refine ⟨trivial, ?_⟩
  refine seg 7 [.v (.slice A1468 t1462.set.length c1469)] [2, 3] [(2, (.slice A1468 t1462.set.length c1469)), (3, (.int .i64 0))] [.cell ⟨g1467, 3, none⟩ (.slice A1468 t1462.set.length c1469)] (fun fb => by kernel_rfl) rfl ⟨hS1466.cell 0 rfl 3 rfl, trivial⟩ ?_
  refine WL.done rfl ?_
  refine WX.next ?_
  refine WC.ret ?_
  injection hf with hf
  subst hf
  exact WX.ret_ [] (.tuple #[(.slice A1468 t1462.set.length c1469), (.int .i64 0)]) [] (fun fb => by kernel_rfl) trivial ⟨_, rfl, A1468, c1469, rfl, (hS1466.sub [1] (by decide)).noR⟩
theorem machine_Fits_1_calls (p0 : Int) (f0 : Machine) (g_f0 : Nat) (A_f0_Actions : Option Addr) (c_f0_Actions : Nat) (r : Bool) (w : World) (hR0 : RO NoS w (blk g_f0 (.cells #[(.int .i64 f0.States), (.int .i64 f0.Symbols), (.slice A_f0_Actions f0.Actions.length c_f0_Actions)] 24 (0, 0)))) (hR1 : RO NoS w (rowR enc_Action A_f0_Actions c_f0_Actions f0.Actions)) (hf : machine_Fits_1 p0 f0 = some r) :
    CallsR Try.prog 50 #[(.int .i64 p0), (.pointer (some ⟨g_f0, 0, none⟩))] w (fun v w' => v = (.bool r) ∧ Keeps NoS w w') := by
  have hS : St NoS w w [blk g_f0 (.cells #[(.int .i64 f0.States), (.int .i64 f0.Symbols), (.slice A_f0_Actions f0.Actions.length c_f0_Actions)] 24 (0, 0)), rowR enc_Action A_f0_Actions c_f0_Actions f0.Actions] [] := St.init (ro_cons hR0 (ro_cons hR1 (ro_nil _ _)))
  refine enter 12 Try.func50 rfl Try.ntmps50 rfl ?_
  unfold machine_Fits_1 at hf
  refine WC.seq ?_
  refine WC.region ?_
  refine seg 1 [] [0, 1] [(0, (.int .i64 p0)), (1, (.pointer (some ⟨g_f0, 0, none⟩)))] [] (fun fb => by kernel_rfl) rfl trivial ?_
  refine WL.done rfl ?_
  refine WX.next ?_
  refine WC.seq ?_
  refine WC.region ?_
  refine seg 3 [] [0, 1, 6] [(0, (.int .i64 p0)), (1, (.pointer (some ⟨g_f0, 0, none⟩))), (6, (.bool (decide (p0 < 0))))] [] (fun fb => by kernel_rfl) rfl trivial ?_
  refine WL.cutV (T := Bool) 8 (fun t => [(11, (.bool t))]) (fun t => t = ((decide (p0 < 0)) || (decide (p0 ≥ f0.Symbols)))) (fun K => ?_) ?_
  ·
    rcases Bool.eq_false_or_eq_true (decide (p0 < 0)) with h1530 | h1530
    ·
      refine WL.setB 6 h1530 rfl ?_
      refine seg 8 [] [11] [(11, (.bool true))] [] (fun fb => by kernel_rfl) rfl trivial ?_
      exact WL.toV K true [11] rfl (by rw [h1530]; rfl)
    refine WL.setB 6 h1530 rfl ?_
    refine seg 8 [.v (.int .i64 f0.Symbols)] [11] [(11, (.bool (decide (p0 ≥ f0.Symbols))))] [.cell ⟨g_f0, 1, none⟩ (.int .i64 f0.Symbols)] (fun fb => by kernel_rfl) rfl ⟨blk_cell (hS.rd 0).1 1 rfl, trivial⟩ ?_
    exact WL.toV K (decide (p0 ≥ f0.Symbols)) [11] rfl (by rw [h1530]; rfl)
  rintro b1531 rfl
  refine seg 9 [] [3] [(3, (.bool ((decide (p0 < 0)) || (decide (p0 ≥ f0.Symbols)))))] [] (fun fb => by kernel_rfl) rfl trivial ?_
  refine WL.done rfl ?_
  refine WX.next ?_
  refine WC.ret ?_
  injection hf with hf
  subst hf
  exact WX.ret_ [] (.bool ((decide (p0 < 0)) || (decide (p0 ≥ f0.Symbols)))) [] (fun fb => by kernel_rfl) trivial ⟨_, rfl, rfl, hS.keep⟩
theorem slices_IndexFunc_int_int_with_machine_Fits_1_calls (k : Nat) (p0 : List Int) (p1_0 : Machine) (A_p0 : Option Addr) (c_p0 : Nat) (g_p1_0 : Nat) (A_p1_0_Actions : Option Addr) (c_p1_0_Actions : Nat) (r : Int) (w : World) (hR0 : RO NoS w (rowR encInt A_p0 c_p0 p0)) (hR1 : RO NoS w (blk g_p1_0 (.cells #[(.int .i64 p1_0.States), (.int .i64 p1_0.Symbols), (.slice A_p1_0_Actions p1_0.Actions.length c_p1_0_Actions)] 24 (0, 0)))) (hR2 : RO NoS w (rowR enc_Action A_p1_0_Actions c_p1_0_Actions p1_0.Actions)) (hf : slices_IndexFunc_int_int_with_machine_Fits_1 k p0 p1_0 = some r) :
    CallsR Try.prog 65 #[(.slice A_p0 p0.length c_p0), (.func (.func 50) #[] #[(.pointer (some ⟨g_p1_0, 0, none⟩))])] w (fun v w' => v = (.int .i64 r) ∧ Keeps NoS w w') := by
  have hS : St NoS w w [rowR encInt A_p0 c_p0 p0, blk g_p1_0 (.cells #[(.int .i64 p1_0.States), (.int .i64 p1_0.Symbols), (.slice A_p1_0_Actions p1_0.Actions.length c_p1_0_Actions)] 24 (0, 0)), rowR enc_Action A_p1_0_Actions c_p1_0_Actions p1_0.Actions] [] := St.init (ro_cons hR0 (ro_cons hR1 (ro_cons hR2 (ro_nil _ _))))
  refine enter 19 Try.func65 rfl Try.ntmps65 rfl ?_
  unfold slices_IndexFunc_int_int_with_machine_Fits_1 at hf
  refine WC.seq ?_
  refine WC.region ?_
  refine seg 1 [] [0, 1] [(0, (.slice A_p0 p0.length c_p0)), (1, (.func (.func 50) #[] #[(.pointer (some ⟨g_p1_0, 0, none⟩))]))] [] (fun fb => by kernel_rfl) rfl trivial ?_
  refine WL.done rfl ?_
  refine WX.next ?_
  refine WC.seq ?_
  refine WC.seq ?_
  refine WC.region ?_
  refine seg 3 [] [0, 1, 7, 8] [(0, (.slice A_p0 p0.length c_p0)), (1, (.func (.func 50) #[] #[(.pointer (some ⟨g_p1_0, 0, none⟩))])), (7, (.int .i64 (p0.length : Int))), (8, (.int .i64 0))] [] (fun fb => by kernel_rfl) rfl trivial ?_
  refine WL.done rfl ?_
  refine WX.next ?_
  obtain ⟨x1548, hx1549, hf⟩ := bind_some hf
  refine WC.cutN (T := Unit) (fun t => []) (fun t w1 => St NoS w w1 [rowR encInt A_p0 c_p0 p0, blk g_p1_0 (.cells #[(.int .i64 p1_0.States), (.int .i64 p1_0.Symbols), (.slice A_p1_0_Actions p1_0.Actions.length c_p1_0_Actions)] 24 (0, 0)), rowR enc_Action A_p1_0_Actions c_p1_0_Actions p1_0.Actions] [] ∧ x1548 = .inr t) (fun Kx1548 => ?_) ?_
  ·
    refine WC.block ?_
    refine WC.loop (T := Int) (fun t => [(0, (.slice A_p0 p0.length c_p0)), (1, (.func (.func 50) #[] #[(.pointer (some ⟨g_p1_0, 0, none⟩))])), (7, (.int .i64 (p0.length : Int))), (8, (.int .i64 t))]) (fun n t w1 => St NoS w w1 [rowR encInt A_p0 c_p0 p0, blk g_p1_0 (.cells #[(.int .i64 p1_0.States), (.int .i64 p1_0.Symbols), (.slice A_p1_0_Actions p1_0.Actions.length c_p1_0_Actions)] 24 (0, 0)), rowR enc_Action A_p1_0_Actions c_p1_0_Actions p1_0.Actions] [] ∧ slices_IndexFunc_int_int_with_machine_Fits_1.l0 n t p0 p1_0 = some x1548) k 0 [0, 1, 7, 8] rfl ⟨(hS.subR [0, 1, 2]).sub [] (by decide), hx1549⟩ ?_
    rintro k1550 x1547 w1551 ⟨hS1552, hl1553⟩
    cases k1550 with
    | zero => rw [slices_IndexFunc_int_int_with_machine_Fits_1.l0] at hl1553; cases hl1553
    | succ k1550 =>
      rw [slices_IndexFunc_int_int_with_machine_Fits_1.l0] at hl1553
      refine WC.seq ?_
      refine WC.region ?_
      refine seg 1 [] [0, 1, 7, 8, 9] [(0, (.slice A_p0 p0.length c_p0)), (1, (.func (.func 50) #[] #[(.pointer (some ⟨g_p1_0, 0, none⟩))])), (7, (.int .i64 (p0.length : Int))), (8, (.int .i64 x1547)), (9, (.bool (decide (x1547 < (p0.length : Int)))))] [] (fun fb => by kernel_rfl) rfl trivial ?_
      refine WL.done rfl ?_
      refine WX.next ?_
      refine WC.seq ?_
      rcases br_some hl1553 with ⟨h1554, hl1553⟩ | ⟨h1554, hl1553⟩
      · refine WC.condT2 (fun fb => by kernel_rfl) h1554 ?_
        refine WC.skip ?_
        refine WX.next ?_
        refine WC.seq ?_
        refine WC.block ?_
        refine WC.seq ?_
        refine WC.region ?_
        refine seg 2 [] [0, 1, 5, 7, 8] [(0, (.slice A_p0 p0.length c_p0)), (1, (.func (.func 50) #[] #[(.pointer (some ⟨g_p1_0, 0, none⟩))])), (5, (.int .i64 x1547)), (7, (.int .i64 (p0.length : Int))), (8, (.int .i64 x1547))] [] (fun fb => by kernel_rfl) rfl trivial ?_
        refine WL.done rfl ?_
        refine WX.next ?_
        refine WC.seq ?_
        refine WC.region ?_
        refine seg 3 [] [0, 1, 5, 7, 8, 11, 12, 13] [(0, (.slice A_p0 p0.length c_p0)), (1, (.func (.func 50) #[] #[(.pointer (some ⟨g_p1_0, 0, none⟩))])), (5, (.int .i64 x1547)), (7, (.int .i64 (p0.length : Int))), (8, (.int .i64 x1547)), (11, (.func (.func 50) #[] #[(.pointer (some ⟨g_p1_0, 0, none⟩))])), (12, (.slice A_p0 p0.length c_p0)), (13, (.int .i64 x1547))] [] (fun fb => by kernel_rfl) rfl trivial ?_
        obtain ⟨h1555, hl1553⟩ := as_some hl1553
        refine seg 5 [.v (.int .i64 (rdD p0 x1547 0))] [0, 1, 5, 7, 8, 11, 15] [(0, (.slice A_p0 p0.length c_p0)), (1, (.func (.func 50) #[] #[(.pointer (some ⟨g_p1_0, 0, none⟩))])), (5, (.int .i64 x1547)), (7, (.int .i64 (p0.length : Int))), (8, (.int .i64 x1547)), (11, (.func (.func 50) #[] #[(.pointer (some ⟨g_p1_0, 0, none⟩))])), (15, (.int .i64 (rdD p0 x1547 0)))] [.idx A_p0 x1547 p0.length, .cell ((adr A_p0).add ((x1547).toNat * 1)) (.int .i64 (rdD p0 x1547 0))] (fun fb => by kernel_rfl) rfl ⟨rowR.adr (hS1552.rd 0).1 h1555.1 h1555.2, rowR.cell (hS1552.rd 0).1 0 h1555.1 h1555.2 0 rfl, trivial⟩ ?_
        obtain ⟨t1556, ht1557, hl1553⟩ := bind_some hl1553
        refine WL.call (some 16) 50 #[(.int .i64 (rdD p0 x1547 0)), (.pointer (some ⟨g_p1_0, 0, none⟩))] (fun fb => by kernel_rfl) (machine_Fits_1_calls (rdD p0 x1547 0) p1_0 g_p1_0 A_p1_0_Actions c_p1_0_Actions t1556 _ (hS1552.rd 1) (hS1552.rd 2) ht1557) (fun v w1558 hR1559 => ?_)
        obtain ⟨rfl, hk_⟩ := hR1559
        have hS1560 := hS1552.keepN hk_
        refine ⟨trivial, ?_⟩
        refine WL.done rfl ?_
        refine WX.next ?_
        rcases br_some hl1553 with ⟨h1561, hl1553⟩ | ⟨h1561, hl1553⟩
        · refine WC.condT2 (fun fb => by kernel_rfl) h1561 ?_
          refine WC.seq ?_
          refine WC.region ?_
          refine seg 2 [] [4] [(4, (.int .i64 x1547))] [] (fun fb => by kernel_rfl) rfl trivial ?_
          refine WL.done rfl ?_
          refine WX.next ?_
          refine WC.ret ?_
          injection hl1553 with hl1553
          subst hl1553
          injection hf with hf
          subst hf
          exact WX.blockR (WX.thenR (WX.thenR (WX.blockR (WX.thenR (WX.ret_ [] (.int .i64 x1547) [] (fun fb => by kernel_rfl) trivial ⟨_, rfl, rfl, hS1560.keep⟩)))))
        refine WC.condF2 (fun fb => by kernel_rfl) h1561 ?_
        refine WC.skip ?_
        refine WX.blockN (WX.next ?_)
        refine WC.region ?_
        refine seg 2 [] [0, 1, 7, 8] [(0, (.slice A_p0 p0.length c_p0)), (1, (.func (.func 50) #[] #[(.pointer (some ⟨g_p1_0, 0, none⟩))])), (7, (.int .i64 (p0.length : Int))), (8, (.int .i64 (w64 (x1547 + 1))))] [] (fun fb => by kernel_rfl) rfl trivial ?_
        refine WL.done rfl ?_
        exact WX.again k1550 (Nat.lt_succ_self _) (w64 (x1547 + 1)) [0, 1, 7, 8] rfl ⟨(hS1560.subR [0, 1, 2]).sub [] (by decide), hl1553⟩
      refine WC.condF2 (fun fb => by kernel_rfl) h1554 ?_
      refine WC.exit ?_
      injection hl1553 with hl1553
      exact WX.thenX (WX.thenX (WX.blockHere (WX.to Kx1548 () [] rfl ⟨(hS1552.subR [0, 1, 2]).sub [] (by decide), hl1553.symm⟩)))
  rintro y1565 w1562 ⟨hS1563, hq1564⟩
  subst hq1564
  have hf := sum_inr hf
  refine WX.next ?_
  refine WC.seq ?_
  refine WC.region ?_
  refine seg 1 [] [4] [(4, (.int .i64 (-1)))] [] (fun fb => by kernel_rfl) rfl trivial ?_
  refine WL.done rfl ?_
  refine WX.next ?_
  refine WC.ret ?_
  injection hf with hf
  subst hf
  exact WX.ret_ [] (.int .i64 (-1)) [] (fun fb => by kernel_rfl) trivial ⟨_, rfl, rfl, hS1563.keep⟩
theorem slices_ContainsFunc_int_int_with_machine_Fits_1_calls (k : Nat) (p0 : List Int) (p1_0 : Machine) (A_p0 : Option Addr) (c_p0 : Nat) (g_p1_0 : Nat) (A_p1_0_Actions : Option Addr) (c_p1_0_Actions : Nat) (r : Bool) (w : World) (hR0 : RO NoS w (rowR encInt A_p0 c_p0 p0)) (hR1 : RO NoS w (blk g_p1_0 (.cells #[(.int .i64 p1_0.States), (.int .i64 p1_0.Symbols), (.slice A_p1_0_Actions p1_0.Actions.length c_p1_0_Actions)] 24 (0, 0)))) (hR2 : RO NoS w (rowR enc_Action A_p1_0_Actions c_p1_0_Actions p1_0.Actions)) (hf : slices_ContainsFunc_int_int_with_machine_Fits_1 k p0 p1_0 = some r) :
    CallsR Try.prog 49 #[(.slice A_p0 p0.length c_p0), (.func (.func 50) #[] #[(.pointer (some ⟨g_p1_0, 0, none⟩))])] w (fun v w' => v = (.bool r) ∧ Keeps NoS w w') := by
  have hS : St NoS w w [rowR encInt A_p0 c_p0 p0, blk g_p1_0 (.cells #[(.int .i64 p1_0.States), (.int .i64 p1_0.Symbols), (.slice A_p1_0_Actions p1_0.Actions.length c_p1_0_Actions)] 24 (0, 0)), rowR enc_Action A_p1_0_Actions c_p1_0_Actions p1_0.Actions] [] := St.init (ro_cons hR0 (ro_cons hR1 (ro_cons hR2 (ro_nil _ _))))
  refine enter 9 Try.func49 rfl Try.ntmps49 rfl ?_
  unfold slices_ContainsFunc_int_int_with_machine_Fits_1 at hf
  refine WC.seq ?_
  refine WC.region ?_
  refine seg 1 [] [0, 1] [(0, (.slice A_p0 p0.length c_p0)), (1, (.func (.func 50) #[] #[(.pointer (some ⟨g_p1_0, 0, none⟩))]))] [] (fun fb => by kernel_rfl) rfl trivial ?_
  refine WL.done rfl ?_
  refine WX.next ?_
  refine WC.seq ?_
  refine WC.region ?_
  refine seg 2 [] [5, 6] [(5, (.slice A_p0 p0.length c_p0)), (6, (.func (.func 50) #[] #[(.pointer (some ⟨g_p1_0, 0, none⟩))]))] [] (fun fb => by kernel_rfl) rfl trivial ?_
  obtain ⟨t1567, ht1568, hf⟩ := bind_some hf
  refine WL.call (some 7) 65 #[(.slice A_p0 p0.length c_p0), (.func (.func 50) #[] #[(.pointer (some ⟨g_p1_0, 0, none⟩))])] (fun fb => by kernel_rfl) (slices_IndexFunc_int_int_with_machine_Fits_1_calls _ p0 p1_0 A_p0 c_p0 g_p1_0 A_p1_0_Actions c_p1_0_Actions t1567 _ (hS.rd 0) (hS.rd 1) (hS.rd 2) ht1568) (fun v w1569 hR1570 => ?_)
  obtain ⟨rfl, hk_⟩ := hR1570
  have hS1571 := hS.keepN hk_
  refine ⟨trivial, ?_⟩
  refine seg 5 [] [4] [(4, (.bool (decide (t1567 ≥ 0))))] [] (fun fb => by kernel_rfl) rfl trivial ?_
  refine WL.done rfl ?_
  refine WX.next ?_
  refine WC.ret ?_
  injection hf with hf
  subst hf
  exact WX.ret_ [] (.bool (decide (t1567 ≥ 0))) [] (fun fb => by kernel_rfl) trivial ⟨_, rfl, rfl, hS1571.keep⟩
theorem machine_Fits_calls (k : Nat) (p0 : Machine) (p1 : Config) (A_p0_Actions : Option Addr) (c_p0_Actions : Nat) (A_p1_Cells : Option Addr) (c_p1_Cells : Nat) (r : Bool) (w : World) (hR0 : RO NoS w (rowR enc_Action A_p0_Actions c_p0_Actions p0.Actions)) (hR1 : RO NoS w (rowR encInt A_p1_Cells c_p1_Cells p1.Cells)) (hf : machine_Fits k p0 p1 = some r) :
    CallsR Try.prog 18 #[(.agg #[(.int .i64 p0.States), (.int .i64 p0.Symbols), (.slice A_p0_Actions p0.Actions.length c_p0_Actions)]), (.agg #[(.int .i64 p1.State), (.int .i64 p1.At), (.slice A_p1_Cells p1.Cells.length c_p1_Cells)])] w (fun v w' => v = (.bool r) ∧ Keeps NoS w w') := by
  have hS : St NoS w w [rowR enc_Action A_p0_Actions c_p0_Actions p0.Actions, rowR encInt A_p1_Cells c_p1_Cells p1.Cells] [] := St.init (ro_cons hR0 (ro_cons hR1 (ro_nil _ _)))
  refine enter 51 Try.func18 rfl Try.ntmps18 rfl ?_
  unfold machine_Fits at hf
  refine WC.seq ?_
  refine WC.region ?_
  refine WL.new hS 2 [] (fun g => (.pointer (some ⟨g, 0, none⟩))) (.cells #[(.int .i64 p0.States), (.int .i64 p0.Symbols), (.slice A_p0_Actions p0.Actions.length c_p0_Actions)] 24 (0, 0)) [] (fun fb g => by kernel_rfl) trivial (fun g1503 w1504 hS1505 => ?_)
  refine ⟨trivial, ?_⟩
  refine WL.new hS1505 3 [] (fun g => (.pointer (some ⟨g, 0, none⟩))) (.cells #[(.int .i64 p1.State), (.int .i64 p1.At), (.slice A_p1_Cells p1.Cells.length c_p1_Cells)] 27 (0, 0)) [] (fun fb g => by kernel_rfl) trivial (fun g1507 w1508 hS1509 => ?_)
  refine ⟨trivial, ?_⟩
  refine seg 3 [] [2, 3] [(2, (.pointer (some ⟨g1503, 0, none⟩))), (3, (.pointer (some ⟨g1507, 0, none⟩)))] [] (fun fb => by kernel_rfl) rfl trivial ?_
  refine WL.done rfl ?_
  refine WX.next ?_
  refine WC.seq ?_
  refine WC.region ?_
  refine seg 1 [.v (.int .i64 p0.States), .v (.int .i64 p0.Symbols), .v (.slice A_p0_Actions p0.Actions.length c_p0_Actions)] [2, 3, 5] [(2, (.pointer (some ⟨g1503, 0, none⟩))), (3, (.pointer (some ⟨g1507, 0, none⟩))), (5, (.agg #[(.int .i64 p0.States), (.int .i64 p0.Symbols), (.slice A_p0_Actions p0.Actions.length c_p0_Actions)]))] [.cell ⟨g1503, 0, none⟩ (.int .i64 p0.States), .cell ⟨g1503, 1, none⟩ (.int .i64 p0.Symbols), .cell ⟨g1503, 2, none⟩ (.slice A_p0_Actions p0.Actions.length c_p0_Actions)] (fun fb => by kernel_rfl) rfl ⟨hS1509.cell 1 rfl 0 rfl, hS1509.cell 1 rfl 1 rfl, hS1509.cell 1 rfl 2 rfl, trivial⟩ ?_
  obtain ⟨t1511, ht1512, hf⟩ := bind_some hf
  refine WL.call (some 6) 16 #[(.agg #[(.int .i64 p0.States), (.int .i64 p0.Symbols), (.slice A_p0_Actions p0.Actions.length c_p0_Actions)])] (fun fb => by kernel_rfl) (machine_Valid_calls _ p0 A_p0_Actions c_p0_Actions t1511 _ (hS1509.rd 0) ht1512) (fun v w1513 hR1514 => ?_)
  obtain ⟨rfl, hk_⟩ := hR1514
  have hS1515 := hS1509.keepN hk_
  refine ⟨trivial, ?_⟩
  refine seg 3 [] [2, 3, 7] [(2, (.pointer (some ⟨g1503, 0, none⟩))), (3, (.pointer (some ⟨g1507, 0, none⟩))), (7, (.bool t1511))] [] (fun fb => by kernel_rfl) rfl trivial ?_
  refine WL.cutV (T := Bool) 7 (fun t => [(11, (.bool t)), (2, (.pointer (some ⟨g1503, 0, none⟩))), (3, (.pointer (some ⟨g1507, 0, none⟩)))]) (fun t => t = (t1511 && (decide (p1.State ≥ 0)))) (fun K => ?_) ?_
  ·
    rcases Bool.eq_false_or_eq_true t1511 with h1516 | h1516
    ·
      refine WL.setB 7 h1516 rfl ?_
      refine seg 7 [.v (.int .i64 p1.State)] [2, 3, 11] [(2, (.pointer (some ⟨g1503, 0, none⟩))), (3, (.pointer (some ⟨g1507, 0, none⟩))), (11, (.bool (decide (p1.State ≥ 0))))] [.cell ⟨g1507, 0, none⟩ (.int .i64 p1.State)] (fun fb => by kernel_rfl) rfl ⟨hS1515.cell 0 rfl 0 rfl, trivial⟩ ?_
      exact WL.toV K (decide (p1.State ≥ 0)) [11, 2, 3] rfl (by rw [h1516]; rfl)
    refine WL.setB 7 h1516 rfl ?_
    refine seg 7 [] [2, 3, 11] [(2, (.pointer (some ⟨g1503, 0, none⟩))), (3, (.pointer (some ⟨g1507, 0, none⟩))), (11, (.bool false))] [] (fun fb => by kernel_rfl) rfl trivial ?_
    exact WL.toV K false [11, 2, 3] rfl (by rw [h1516]; rfl)
  rintro b1517 rfl
  refine seg 8 [] [2, 3, 12] [(2, (.pointer (some ⟨g1503, 0, none⟩))), (3, (.pointer (some ⟨g1507, 0, none⟩))), (12, (.bool (t1511 && (decide (p1.State ≥ 0)))))] [] (fun fb => by kernel_rfl) rfl trivial ?_
  refine WL.cutV (T := Bool) 14 (fun t => [(18, (.bool t)), (2, (.pointer (some ⟨g1503, 0, none⟩))), (3, (.pointer (some ⟨g1507, 0, none⟩)))]) (fun t => t = ((t1511 && (decide (p1.State ≥ 0))) && (decide (p1.State < p0.States)))) (fun K => ?_) ?_
  ·
    rcases Bool.eq_false_or_eq_true (t1511 && (decide (p1.State ≥ 0))) with h1518 | h1518
    ·
      refine WL.setB 12 h1518 rfl ?_
      refine seg 14 [.v (.int .i64 p1.State), .v (.int .i64 p0.States)] [2, 3, 18] [(2, (.pointer (some ⟨g1503, 0, none⟩))), (3, (.pointer (some ⟨g1507, 0, none⟩))), (18, (.bool (decide (p1.State < p0.States))))] [.cell ⟨g1507, 0, none⟩ (.int .i64 p1.State), .cell ⟨g1503, 0, none⟩ (.int .i64 p0.States)] (fun fb => by kernel_rfl) rfl ⟨hS1515.cell 0 rfl 0 rfl, hS1515.cell 1 rfl 0 rfl, trivial⟩ ?_
      exact WL.toV K (decide (p1.State < p0.States)) [18, 2, 3] rfl (by rw [h1518]; rfl)
    refine WL.setB 12 h1518 rfl ?_
    refine seg 14 [] [2, 3, 18] [(2, (.pointer (some ⟨g1503, 0, none⟩))), (3, (.pointer (some ⟨g1507, 0, none⟩))), (18, (.bool false))] [] (fun fb => by kernel_rfl) rfl trivial ?_
    exact WL.toV K false [18, 2, 3] rfl (by rw [h1518]; rfl)
  rintro b1519 rfl
  refine seg 15 [] [2, 3, 19] [(2, (.pointer (some ⟨g1503, 0, none⟩))), (3, (.pointer (some ⟨g1507, 0, none⟩))), (19, (.bool ((t1511 && (decide (p1.State ≥ 0))) && (decide (p1.State < p0.States)))))] [] (fun fb => by kernel_rfl) rfl trivial ?_
  refine WL.cutV (T := Bool) 20 (fun t => [(24, (.bool t)), (2, (.pointer (some ⟨g1503, 0, none⟩))), (3, (.pointer (some ⟨g1507, 0, none⟩)))]) (fun t => t = (((t1511 && (decide (p1.State ≥ 0))) && (decide (p1.State < p0.States))) && (decide ((p1.Cells.length : Int) ≥ 1)))) (fun K => ?_) ?_
  ·
    rcases Bool.eq_false_or_eq_true ((t1511 && (decide (p1.State ≥ 0))) && (decide (p1.State < p0.States))) with h1520 | h1520
    ·
      refine WL.setB 19 h1520 rfl ?_
      refine seg 20 [.v (.slice A_p1_Cells p1.Cells.length c_p1_Cells)] [2, 3, 24] [(2, (.pointer (some ⟨g1503, 0, none⟩))), (3, (.pointer (some ⟨g1507, 0, none⟩))), (24, (.bool (decide ((p1.Cells.length : Int) ≥ 1))))] [.cell ⟨g1507, 2, none⟩ (.slice A_p1_Cells p1.Cells.length c_p1_Cells)] (fun fb => by kernel_rfl) rfl ⟨hS1515.cell 0 rfl 2 rfl, trivial⟩ ?_
      exact WL.toV K (decide ((p1.Cells.length : Int) ≥ 1)) [24, 2, 3] rfl (by rw [h1520]; rfl)
    refine WL.setB 19 h1520 rfl ?_
    refine seg 20 [] [2, 3, 24] [(2, (.pointer (some ⟨g1503, 0, none⟩))), (3, (.pointer (some ⟨g1507, 0, none⟩))), (24, (.bool false))] [] (fun fb => by kernel_rfl) rfl trivial ?_
    exact WL.toV K false [24, 2, 3] rfl (by rw [h1520]; rfl)
  rintro b1521 rfl
  refine seg 21 [] [2, 3, 25] [(2, (.pointer (some ⟨g1503, 0, none⟩))), (3, (.pointer (some ⟨g1507, 0, none⟩))), (25, (.bool (((t1511 && (decide (p1.State ≥ 0))) && (decide (p1.State < p0.States))) && (decide ((p1.Cells.length : Int) ≥ 1)))))] [] (fun fb => by kernel_rfl) rfl trivial ?_
  refine WL.cutV (T := Bool) 26 (fun t => [(30, (.bool t)), (2, (.pointer (some ⟨g1503, 0, none⟩))), (3, (.pointer (some ⟨g1507, 0, none⟩)))]) (fun t => t = ((((t1511 && (decide (p1.State ≥ 0))) && (decide (p1.State < p0.States))) && (decide ((p1.Cells.length : Int) ≥ 1))) && (decide ((p1.Cells.length : Int) ≤ 200)))) (fun K => ?_) ?_
  ·
    rcases Bool.eq_false_or_eq_true (((t1511 && (decide (p1.State ≥ 0))) && (decide (p1.State < p0.States))) && (decide ((p1.Cells.length : Int) ≥ 1))) with h1522 | h1522
    ·
      refine WL.setB 25 h1522 rfl ?_
      refine seg 26 [.v (.slice A_p1_Cells p1.Cells.length c_p1_Cells)] [2, 3, 30] [(2, (.pointer (some ⟨g1503, 0, none⟩))), (3, (.pointer (some ⟨g1507, 0, none⟩))), (30, (.bool (decide ((p1.Cells.length : Int) ≤ 200))))] [.cell ⟨g1507, 2, none⟩ (.slice A_p1_Cells p1.Cells.length c_p1_Cells)] (fun fb => by kernel_rfl) rfl ⟨hS1515.cell 0 rfl 2 rfl, trivial⟩ ?_
      exact WL.toV K (decide ((p1.Cells.length : Int) ≤ 200)) [30, 2, 3] rfl (by rw [h1522]; rfl)
    refine WL.setB 25 h1522 rfl ?_
    refine seg 26 [] [2, 3, 30] [(2, (.pointer (some ⟨g1503, 0, none⟩))), (3, (.pointer (some ⟨g1507, 0, none⟩))), (30, (.bool false))] [] (fun fb => by kernel_rfl) rfl trivial ?_
    exact WL.toV K false [30, 2, 3] rfl (by rw [h1522]; rfl)
  rintro b1523 rfl
  refine seg 27 [] [2, 3, 31] [(2, (.pointer (some ⟨g1503, 0, none⟩))), (3, (.pointer (some ⟨g1507, 0, none⟩))), (31, (.bool ((((t1511 && (decide (p1.State ≥ 0))) && (decide (p1.State < p0.States))) && (decide ((p1.Cells.length : Int) ≥ 1))) && (decide ((p1.Cells.length : Int) ≤ 200)))))] [] (fun fb => by kernel_rfl) rfl trivial ?_
  refine WL.cutV (T := Bool) 31 (fun t => [(35, (.bool t)), (2, (.pointer (some ⟨g1503, 0, none⟩))), (3, (.pointer (some ⟨g1507, 0, none⟩)))]) (fun t => t = (((((t1511 && (decide (p1.State ≥ 0))) && (decide (p1.State < p0.States))) && (decide ((p1.Cells.length : Int) ≥ 1))) && (decide ((p1.Cells.length : Int) ≤ 200))) && (decide (p1.At ≥ 0)))) (fun K => ?_) ?_
  ·
    rcases Bool.eq_false_or_eq_true ((((t1511 && (decide (p1.State ≥ 0))) && (decide (p1.State < p0.States))) && (decide ((p1.Cells.length : Int) ≥ 1))) && (decide ((p1.Cells.length : Int) ≤ 200))) with h1524 | h1524
    ·
      refine WL.setB 31 h1524 rfl ?_
      refine seg 31 [.v (.int .i64 p1.At)] [2, 3, 35] [(2, (.pointer (some ⟨g1503, 0, none⟩))), (3, (.pointer (some ⟨g1507, 0, none⟩))), (35, (.bool (decide (p1.At ≥ 0))))] [.cell ⟨g1507, 1, none⟩ (.int .i64 p1.At)] (fun fb => by kernel_rfl) rfl ⟨hS1515.cell 0 rfl 1 rfl, trivial⟩ ?_
      exact WL.toV K (decide (p1.At ≥ 0)) [35, 2, 3] rfl (by rw [h1524]; rfl)
    refine WL.setB 31 h1524 rfl ?_
    refine seg 31 [] [2, 3, 35] [(2, (.pointer (some ⟨g1503, 0, none⟩))), (3, (.pointer (some ⟨g1507, 0, none⟩))), (35, (.bool false))] [] (fun fb => by kernel_rfl) rfl trivial ?_
    exact WL.toV K false [35, 2, 3] rfl (by rw [h1524]; rfl)
  rintro b1525 rfl
  refine seg 32 [] [2, 3, 36] [(2, (.pointer (some ⟨g1503, 0, none⟩))), (3, (.pointer (some ⟨g1507, 0, none⟩))), (36, (.bool (((((t1511 && (decide (p1.State ≥ 0))) && (decide (p1.State < p0.States))) && (decide ((p1.Cells.length : Int) ≥ 1))) && (decide ((p1.Cells.length : Int) ≤ 200))) && (decide (p1.At ≥ 0)))))] [] (fun fb => by kernel_rfl) rfl trivial ?_
  refine WL.cutV (T := Bool) 39 (fun t => [(43, (.bool t)), (2, (.pointer (some ⟨g1503, 0, none⟩))), (3, (.pointer (some ⟨g1507, 0, none⟩)))]) (fun t => t = ((((((t1511 && (decide (p1.State ≥ 0))) && (decide (p1.State < p0.States))) && (decide ((p1.Cells.length : Int) ≥ 1))) && (decide ((p1.Cells.length : Int) ≤ 200))) && (decide (p1.At ≥ 0))) && (decide (p1.At < (p1.Cells.length : Int))))) (fun K => ?_) ?_
  ·
    rcases Bool.eq_false_or_eq_true (((((t1511 && (decide (p1.State ≥ 0))) && (decide (p1.State < p0.States))) && (decide ((p1.Cells.length : Int) ≥ 1))) && (decide ((p1.Cells.length : Int) ≤ 200))) && (decide (p1.At ≥ 0))) with h1526 | h1526
    ·
      refine WL.setB 36 h1526 rfl ?_
      refine seg 39 [.v (.int .i64 p1.At), .v (.slice A_p1_Cells p1.Cells.length c_p1_Cells)] [2, 3, 43] [(2, (.pointer (some ⟨g1503, 0, none⟩))), (3, (.pointer (some ⟨g1507, 0, none⟩))), (43, (.bool (decide (p1.At < (p1.Cells.length : Int)))))] [.cell ⟨g1507, 1, none⟩ (.int .i64 p1.At), .cell ⟨g1507, 2, none⟩ (.slice A_p1_Cells p1.Cells.length c_p1_Cells)] (fun fb => by kernel_rfl) rfl ⟨hS1515.cell 0 rfl 1 rfl, hS1515.cell 0 rfl 2 rfl, trivial⟩ ?_
      exact WL.toV K (decide (p1.At < (p1.Cells.length : Int))) [43, 2, 3] rfl (by rw [h1526]; rfl)
    refine WL.setB 36 h1526 rfl ?_
    refine seg 39 [] [2, 3, 43] [(2, (.pointer (some ⟨g1503, 0, none⟩))), (3, (.pointer (some ⟨g1507, 0, none⟩))), (43, (.bool false))] [] (fun fb => by kernel_rfl) rfl trivial ?_
    exact WL.toV K false [43, 2, 3] rfl (by rw [h1526]; rfl)
  rintro b1527 rfl
  refine seg 40 [] [2, 3, 44] [(2, (.pointer (some ⟨g1503, 0, none⟩))), (3, (.pointer (some ⟨g1507, 0, none⟩))), (44, (.bool ((((((t1511 && (decide (p1.State ≥ 0))) && (decide (p1.State < p0.States))) && (decide ((p1.Cells.length : Int) ≥ 1))) && (decide ((p1.Cells.length : Int) ≤ 200))) && (decide (p1.At ≥ 0))) && (decide (p1.At < (p1.Cells.length : Int))))))] [] (fun fb => by kernel_rfl) rfl trivial ?_
  obtain ⟨x1578, hx1579, hf⟩ := bind_some hf
  refine WL.cutW (T := Bool) 46 (fun t => [(50, (.bool t))]) (fun t w1 => (St NoS w w1 [rowR enc_Action A_p0_Actions c_p0_Actions p0.Actions, rowR encInt A_p1_Cells c_p1_Cells p1.Cells] [] ∧ x1578 = t) ∧ CellsOK [] w1) (fun K => ?_) ?_
  ·
    rcases br_some hx1579 with ⟨h1580, hx1579⟩ | ⟨h1580, hx1579⟩
    ·
      refine WL.setB 44 h1580 rfl ?_
      refine seg 43 [.v (.slice A_p1_Cells p1.Cells.length c_p1_Cells)] [44, 46, 47] [(44, (.bool true)), (46, (.slice A_p1_Cells p1.Cells.length c_p1_Cells)), (47, (.func (.func 50) #[] #[(.pointer (some ⟨g1503, 0, none⟩))]))] [.cell ⟨g1507, 2, none⟩ (.slice A_p1_Cells p1.Cells.length c_p1_Cells)] (fun fb => by kernel_rfl) rfl ⟨hS1515.cell 0 rfl 2 rfl, trivial⟩ ?_
      obtain ⟨t1581, ht1582, hx1579⟩ := bind_some hx1579
      refine WL.call (some 48) 49 #[(.slice A_p1_Cells p1.Cells.length c_p1_Cells), (.func (.func 50) #[] #[(.pointer (some ⟨g1503, 0, none⟩))])] (fun fb => by kernel_rfl) (slices_ContainsFunc_int_int_with_machine_Fits_1_calls _ p1.Cells p0 A_p1_Cells c_p1_Cells g1503 A_p0_Actions c_p0_Actions t1581 _ (hS1515.rd 1) (hS1515.ow 1) (hS1515.rd 0) ht1582) (fun v w1583 hR1584 => ?_)
      obtain ⟨rfl, hk_⟩ := hR1584
      have hS1585 := hS1515.keepN hk_
      refine ⟨trivial, ?_⟩
      refine seg 46 [] [50] [(50, (.bool (!t1581)))] [] (fun fb => by kernel_rfl) rfl trivial ?_
      injection hx1579 with hx1579
      exact WL.to K (!t1581) [50] rfl ⟨⟨(hS1585.subR [0, 1]).sub [] (by decide), hx1579.symm⟩, trivial⟩
    refine WL.setB 44 h1580 rfl ?_
    refine seg 46 [] [50] [(50, (.bool false))] [] (fun fb => by kernel_rfl) rfl trivial ?_
    injection hx1579 with hx1579
    exact WL.to K false [50] rfl ⟨⟨(hS1515.subR [0, 1]).sub [] (by decide), hx1579.symm⟩, trivial⟩
  rintro y1586 w1588 ⟨⟨hS1589, hq1587⟩, hF1590⟩
  subst hq1587
  refine seg 47 [] [4] [(4, (.bool x1578))] [] (fun fb => by kernel_rfl) rfl trivial ?_
  refine WL.done rfl ?_
  refine WX.next ?_
  refine WC.ret ?_
  injection hf with hf
  subst hf
  exact WX.ret_ [] (.bool x1578) [] (fun fb => by kernel_rfl) trivial ⟨_, rfl, rfl, hS1589.keep⟩
theorem slices_Clone_int_int_nil_calls (p0 : List Int) (c_p0 : Nat) (r : (List Int)) (w : World) (hR0 : RO NoS w (rowR encInt none c_p0 ([] : List Int))) (hf : slices_Clone_int_int_nil p0 = some r) :
    CallsR Try.prog 54 #[(.slice none ([] : List Int).length c_p0)] w (fun v w' => ∃ (A1_ : Option Addr), ∃ (c1_ : Nat), v = (.slice A1_ r.length c1_) ∧ St NoS w w' [] [rowO 3 encInt A1_ c1_ r]) := by
  have hS : St NoS w w [rowR encInt none c_p0 ([] : List Int)] [] := St.init (ro_cons hR0 (ro_nil _ _))
  refine enter 8 Try.func54 rfl Try.ntmps54 rfl ?_
  unfold slices_Clone_int_int_nil at hf
  refine WC.seq ?_
  refine WC.region ?_
  refine seg 1 [] [0] [(0, (.slice none ([] : List Int).length c_p0))] [] (fun fb => by kernel_rfl) rfl trivial ?_
  refine WL.done rfl ?_
  refine WX.next ?_
  refine WC.seq ?_
  refine WC.seq ?_
  refine WC.region ?_
  refine seg 2 [] [0, 4] [(0, (.slice none ([] : List Int).length c_p0)), (4, (.bool true))] [] (fun fb => by kernel_rfl) rfl trivial ?_
  refine WL.done rfl ?_
  refine WX.next ?_
  refine WC.condT (fun fb => by kernel_rfl) ?_
  refine WC.seq ?_
  refine WC.region ?_
  refine seg 1 [] [2] [(2, (.slice none 0 0))] [] (fun fb => by kernel_rfl) rfl trivial ?_
  refine WL.done rfl ?_
  refine WX.next ?_
  refine WC.ret ?_
  have hS1614 := hS.nilrow 3 encInt
  injection hf with hf
  subst hf
  exact WX.thenR (WX.ret_ [] (.slice none ([] : List Int).length 0) [] (fun fb => by kernel_rfl) trivial ⟨_, rfl, none, 0, rfl, (hS1614.sub [0] (by decide)).noR⟩)
theorem slices_Clone_int_int_some_calls (p0 : List Int) (a_p0 : Addr) (c_p0 : Nat) (r : (List Int)) (w : World) (hR0 : RO NoS w (rowR encInt (some a_p0) c_p0 p0)) (hf : slices_Clone_int_int_some p0 = some r) :
    CallsR Try.prog 54 #[(.slice (some a_p0) p0.length c_p0)] w (fun v w' => ∃ (A1_ : Option Addr), ∃ (c1_ : Nat), v = (.slice A1_ r.length c1_) ∧ St NoS w w' [] [rowO 3 encInt A1_ c1_ r]) := by
  have hS : St NoS w w [rowR encInt (some a_p0) c_p0 p0] [] := St.init (ro_cons hR0 (ro_nil _ _))
  refine enter 8 Try.func54 rfl Try.ntmps54 rfl ?_
  unfold slices_Clone_int_int_some at hf
  refine WC.seq ?_
  refine WC.region ?_
  refine seg 1 [] [0] [(0, (.slice (some a_p0) p0.length c_p0))] [] (fun fb => by kernel_rfl) rfl trivial ?_
  refine WL.done rfl ?_
  refine WX.next ?_
  refine WC.seq ?_
  refine WC.seq ?_
  refine WC.region ?_
  refine seg 2 [] [0, 4] [(0, (.slice (some a_p0) p0.length c_p0)), (4, (.bool false))] [] (fun fb => by kernel_rfl) rfl trivial ?_
  refine WL.done rfl ?_
  refine WX.next ?_
  refine WC.condF (fun fb => by kernel_rfl) ?_
  refine WC.skip ?_
  refine WX.next ?_
  refine WC.seq ?_
  refine WC.region ?_
  refine WL.new hS 5 [] (fun g => (.slice (some ⟨g, 0, none⟩) 0 0)) (.cells #[] 3 (0, 0)) [] (fun fb g => by kernel_rfl) trivial (fun g1615 w1616 hS1617 => ?_)
  refine ⟨trivial, ?_⟩
  have hS1619 : St NoS w w1616 [rowR encInt (some a_p0) c_p0 p0] [rowO 3 encInt (some ⟨g1615, 0, none⟩) 0 ([] : List Int)] := hS1617.map1 0 _ (fun h => rowO.ofBlk h rfl (Nat.le_of_ble_eq_true (by kernel_rfl))) (fun _ h => by obtain ⟨_, h1, h2⟩ := h; injection h1 with h1; subst h1; exact h2) [] (by decide) (by decide)
  refine seg 2 [] [5, 6] [(5, (.slice (some ⟨g1615, 0, none⟩) ([] : List Int).length 0)), (6, (.slice (some a_p0) p0.length c_p0))] [] (fun fb => by kernel_rfl) rfl trivial ?_
  obtain ⟨h1620, hf⟩ := as_some hf
  refine WL.append hS1619 0 (d := 7) (tS := 25) (z := (.int .i64 0)) (bytes := 8) (c2 := c_p0) rfl (fun fb => by kernel_rfl) (hS1619.rd 0).1 (by kernel_rfl) (by kernel_rfl) rfl (by decide) h1620 (by decide) [] (by decide) (by decide) (fun A1621 c1622 w1623 hS1624 => ?_)
  refine ⟨trivial, ?_⟩
  refine seg 4 [] [2] [(2, (.slice A1621 (([] : List Int) ++ p0).length c1622))] [] (fun fb => by kernel_rfl) rfl trivial ?_
  refine WL.done rfl ?_
  refine WX.next ?_
  refine WC.ret ?_
  injection hf with hf
  subst hf
  exact WX.ret_ [] (.slice A1621 (([] : List Int) ++ p0).length c1622) [] (fun fb => by kernel_rfl) trivial ⟨_, rfl, A1621, c1622, rfl, (hS1624.sub [0] (by decide)).noR⟩
theorem slices_Clone_int_int_calls (p0 : List Int) (A_p0 : Option Addr) (c_p0 : Nat) (r : List Int) (w : World) (hR0 : RO NoS w (rowR encInt A_p0 c_p0 p0)) (hf : slices_Clone_int_int p0 = some r) :
    CallsR Try.prog 54 #[(.slice A_p0 p0.length c_p0)] w (fun v w' => ∃ (A1_ : Option Addr), ∃ (c1_ : Nat), v = (.slice A1_ r.length c1_) ∧ St NoS w w' [] [rowO 3 encInt A1_ c1_ r]) := by
  unfold slices_Clone_int_int at hf
  cases A_p0 with
  | none =>
    have h3 : p0 = [] := by
      cases p0 with
      | nil => rfl
      | cons x xs => exact absurd (hR0.1.1 0 x rfl).1 (by simp)
    subst h3
    rw [slices_Clone_int_int_some] at hf
    obtain ⟨h4, hf⟩ := as_some hf
    injection hf with hf; subst hf
    exact slices_Clone_int_int_nil_calls [] c_p0 [] w hR0 rfl
  | some a => exact slices_Clone_int_int_some_calls p0 a c_p0 r w hR0 hf
theorem machine_begin_calls (p0 : Machine) (p1 : Config) (A_p0_Actions : Option Addr) (c_p0_Actions : Nat) (A_p1_Cells : Option Addr) (c_p1_Cells : Nat) (r : Runner) (w : World) (hR0 : RO NoS w (rowR enc_Action A_p0_Actions c_p0_Actions p0.Actions)) (hR1 : RO NoS w (rowR encInt A_p1_Cells c_p1_Cells p1.Cells)) (hf : machine_begin p0 p1 = some r) :
    CallsR Try.prog 42 #[(.agg #[(.int .i64 p0.States), (.int .i64 p0.Symbols), (.slice A_p0_Actions p0.Actions.length c_p0_Actions)]), (.agg #[(.int .i64 p1.State), (.int .i64 p1.At), (.slice A_p1_Cells p1.Cells.length c_p1_Cells)])] w (fun v w' => ∃ (g1_ : Nat), ∃ (A2_ : Option Addr), ∃ (c2_ : Nat), v = (.pointer (some ⟨g1_, 0, none⟩)) ∧ St NoS w w' [] [blk g1_ (.cells #[(.int .i64 r.m.States), (.int .i64 r.m.Symbols), (.slice A_p0_Actions p0.Actions.length c_p0_Actions), (.int .i64 r.Config.State), (.int .i64 r.Config.At), (.slice A2_ r.Config.Cells.length c2_)] 82 (0, 0)), rowO 3 encInt A2_ c2_ r.Config.Cells]) := by
  have hS : St NoS w w [rowR enc_Action A_p0_Actions c_p0_Actions p0.Actions, rowR encInt A_p1_Cells c_p1_Cells p1.Cells] [] := St.init (ro_cons hR0 (ro_cons hR1 (ro_nil _ _)))
  refine enter 13 Try.func42 rfl Try.ntmps42 rfl ?_
  unfold machine_begin at hf
  refine WC.seq ?_
  refine WC.region ?_
  refine WL.new hS 2 [] (fun g => (.pointer (some ⟨g, 0, none⟩))) (.cells #[(.int .i64 p0.States), (.int .i64 p0.Symbols), (.slice A_p0_Actions p0.Actions.length c_p0_Actions)] 24 (0, 0)) [] (fun fb g => by kernel_rfl) trivial (fun g1606 w1607 hS1608 => ?_)
  refine ⟨trivial, ?_⟩
  refine WL.new hS1608 3 [] (fun g => (.pointer (some ⟨g, 0, none⟩))) (.cells #[(.int .i64 p1.State), (.int .i64 p1.At), (.slice A_p1_Cells p1.Cells.length c_p1_Cells)] 27 (0, 0)) [] (fun fb g => by kernel_rfl) trivial (fun g1610 w1611 hS1612 => ?_)
  refine ⟨trivial, ?_⟩
  refine seg 3 [] [2, 3] [(2, (.pointer (some ⟨g1606, 0, none⟩))), (3, (.pointer (some ⟨g1610, 0, none⟩)))] [] (fun fb => by kernel_rfl) rfl trivial ?_
  refine WL.done rfl ?_
  refine WX.next ?_
  refine WC.seq ?_
  refine WC.region ?_
  refine seg 2 [.v (.slice A_p1_Cells p1.Cells.length c_p1_Cells)] [2, 3, 6] [(2, (.pointer (some ⟨g1606, 0, none⟩))), (3, (.pointer (some ⟨g1610, 0, none⟩))), (6, (.slice A_p1_Cells p1.Cells.length c_p1_Cells))] [.cell ⟨g1610, 2, none⟩ (.slice A_p1_Cells p1.Cells.length c_p1_Cells)] (fun fb => by kernel_rfl) rfl ⟨hS1612.cell 0 rfl 2 rfl, trivial⟩ ?_
  obtain ⟨t1625, ht1626, hf⟩ := bind_some hf
  refine WL.call (some 7) 54 #[(.slice A_p1_Cells p1.Cells.length c_p1_Cells)] (fun fb => by kernel_rfl) (slices_Clone_int_int_calls p1.Cells A_p1_Cells c_p1_Cells t1625 _ (hS1612.rd 1) ht1626) (fun v w1627 hR1628 => ?_)
  obtain ⟨A1630, c1631, rfl, hk_⟩ := hR1628
  have hS1629 : St NoS w w1627 [rowR enc_Action A_p0_Actions c_p0_Actions p0.Actions, rowR encInt A_p1_Cells c_p1_Cells p1.Cells] [rowO 3 encInt A1630 c1631 t1625, blk g1610 (.cells #[(.int .i64 p1.State), (.int .i64 p1.At), (.slice A_p1_Cells p1.Cells.length c_p1_Cells)] 27 (0, 0)), blk g1606 (.cells #[(.int .i64 p0.States), (.int .i64 p0.Symbols), (.slice A_p0_Actions p0.Actions.length c_p0_Actions)] 24 (0, 0))] := hS1612.call hk_ [] [0, 1] (fun g hg => hg.elim) (by simp) (by decide)
  refine ⟨trivial, ?_⟩
  refine seg 4 [] [2, 3, 7, 8] [(2, (.pointer (some ⟨g1606, 0, none⟩))), (3, (.pointer (some ⟨g1610, 0, none⟩))), (7, (.slice A1630 t1625.length c1631)), (8, (.pointer (some ⟨g1610, 2, none⟩)))] [] (fun fb => by kernel_rfl) rfl trivial ?_
  refine WL.store hS1629 1 rfl [(2, (.slice A1630 t1625.length c1631))] #[(.int .i64 p1.State), (.int .i64 p1.At), (.slice A1630 t1625.length c1631)] (fun fb => by kernel_rfl) (by kernel_rfl) rfl [0, 2] (by decide) (by decide) (fun w1632 hS1633 => ?_)
  refine ⟨trivial, ?_⟩
  refine WL.done rfl ?_
  refine WX.next ?_
  refine WC.seq ?_
  refine WC.region ?_
  refine seg 3 [.v (.int .i64 p0.States), .v (.int .i64 p0.Symbols), .v (.slice A_p0_Actions p0.Actions.length c_p0_Actions), .v (.int .i64 p1.State), .v (.int .i64 p1.At), .v (.slice A1630 t1625.length c1631)] [11] [(11, (.agg #[(.int .i64 p0.States), (.int .i64 p0.Symbols), (.slice A_p0_Actions p0.Actions.length c_p0_Actions), (.int .i64 p1.State), (.int .i64 p1.At), (.slice A1630 t1625.length c1631)]))] [.cell ⟨g1606, 0, none⟩ (.int .i64 p0.States), .cell ⟨g1606, 1, none⟩ (.int .i64 p0.Symbols), .cell ⟨g1606, 2, none⟩ (.slice A_p0_Actions p0.Actions.length c_p0_Actions), .cell ⟨g1610, 0, none⟩ (.int .i64 p1.State), .cell ⟨g1610, 1, none⟩ (.int .i64 p1.At), .cell ⟨g1610, 2, none⟩ (.slice A1630 t1625.length c1631)] (fun fb => by kernel_rfl) rfl ⟨hS1633.cell 2 rfl 0 rfl, hS1633.cell 2 rfl 1 rfl, hS1633.cell 2 rfl 2 rfl, hS1633.cell 0 rfl 0 rfl, hS1633.cell 0 rfl 1 rfl, hS1633.cell 0 rfl 2 rfl, trivial⟩ ?_
  refine WL.new hS1633 12 [] (fun g => (.pointer (some ⟨g, 0, none⟩))) (.cells #[(.int .i64 p0.States), (.int .i64 p0.Symbols), (.slice A_p0_Actions p0.Actions.length c_p0_Actions), (.int .i64 p1.State), (.int .i64 p1.At), (.slice A1630 t1625.length c1631)] 82 (0, 0)) [] (fun fb g => by kernel_rfl) trivial (fun g1634 w1635 hS1636 => ?_)
  refine ⟨trivial, ?_⟩
  refine seg 5 [] [4] [(4, (.pointer (some ⟨g1634, 0, none⟩)))] [] (fun fb => by kernel_rfl) rfl trivial ?_
  refine WL.done rfl ?_
  refine WX.next ?_
  refine WC.ret ?_
  injection hf with hf
  subst hf
  exact WX.ret_ [] (.pointer (some ⟨g1634, 0, none⟩)) [] (fun fb => by kernel_rfl) trivial ⟨_, rfl, g1634, A1630, c1631, rfl, (hS1636.sub [0, 2] (by decide)).noR⟩
theorem machine_runner_does_calls (p0 : Runner) (g_p0 : Nat) (A_p0_m_Actions : Option Addr) (c_p0_m_Actions : Nat) (A_p0_Config_Cells : Option Addr) (c_p0_Config_Cells : Nat) (r : Int) (w : World) (hR0 : RO NoS w (blk g_p0 (.cells #[(.int .i64 p0.m.States), (.int .i64 p0.m.Symbols), (.slice A_p0_m_Actions p0.m.Actions.length c_p0_m_Actions), (.int .i64 p0.Config.State), (.int .i64 p0.Config.At), (.slice A_p0_Config_Cells p0.Config.Cells.length c_p0_Config_Cells)] 82 (0, 0)))) (hR1 : RO NoS w (rowR enc_Action A_p0_m_Actions c_p0_m_Actions p0.m.Actions)) (hR2 : RO NoS w (rowR encInt A_p0_Config_Cells c_p0_Config_Cells p0.Config.Cells)) (hf : machine_runner_does p0 = some r) :
    CallsR Try.prog 63 #[(.pointer (some ⟨g_p0, 0, none⟩))] w (fun v w' => v = (.int .i64 r) ∧ Keeps NoS w w') := by
  have hS : St NoS w w [blk g_p0 (.cells #[(.int .i64 p0.m.States), (.int .i64 p0.m.Symbols), (.slice A_p0_m_Actions p0.m.Actions.length c_p0_m_Actions), (.int .i64 p0.Config.State), (.int .i64 p0.Config.At), (.slice A_p0_Config_Cells p0.Config.Cells.length c_p0_Config_Cells)] 82 (0, 0)), rowR enc_Action A_p0_m_Actions c_p0_m_Actions p0.m.Actions, rowR encInt A_p0_Config_Cells c_p0_Config_Cells p0.Config.Cells] [] := St.init (ro_cons hR0 (ro_cons hR1 (ro_cons hR2 (ro_nil _ _))))
  refine enter 27 Try.func63 rfl Try.ntmps63 rfl ?_
  unfold machine_runner_does at hf
  refine WC.seq ?_
  refine WC.region ?_
  refine seg 1 [] [0] [(0, (.pointer (some ⟨g_p0, 0, none⟩)))] [] (fun fb => by kernel_rfl) rfl trivial ?_
  refine WL.done rfl ?_
  refine WX.next ?_
  refine WC.seq ?_
  obtain ⟨h1650, hf⟩ := as_some hf
  refine WC.regionD ([(4, ⟨g_p0, 3, none⟩, (.int .i64 p0.Config.State)), (9, ⟨g_p0, 1, none⟩, (.int .i64 p0.m.Symbols)), (15, ⟨g_p0, 5, none⟩, (.slice A_p0_Config_Cells p0.Config.Cells.length c_p0_Config_Cells)), (20, ⟨g_p0, 4, none⟩, (.int .i64 p0.Config.At)), (22, ((adr A_p0_Config_Cells).add ((p0.Config.At).toNat * 1)), (.int .i64 (rdD p0.Config.Cells p0.Config.At 0)))], [0, 1, 2, 3, 4, 5, 6, 7, 8, 9, 10, 11, 12, 13, 14, 15, 16, 17, 18, 19, 20, 21, 22, 23, 24], [[], [0], [0, 1], [0, 1, 2], [0, 1, 2, 3], [], [5], [5, 6], [5, 6, 7], [5, 6, 7, 8], [0, 1, 2, 3, 4, 5, 6, 7, 8, 9], [], [11], [11, 12], [11, 12, 13], [11, 12, 13, 14], [], [16], [16, 17], [16, 17, 18], [16, 17, 18, 19], [11, 12, 13, 14, 15, 16, 17, 18, 19, 20], [11, 12, 13, 14, 15, 16, 17, 18, 19, 20, 21], [0, 1, 2, 3, 4, 5, 6, 7, 8, 9, 10, 11, 12, 13, 14, 15, 16, 17, 18, 19, 20, 21, 22], [0, 1, 2, 3, 4, 5, 6, 7, 8, 9, 10, 11, 12, 13, 14, 15, 16, 17, 18, 19, 20, 21, 22, 23]]) [[0, 1, 2, 3, 4, 5, 6, 7, 8, 9, 10, 11, 12, 13, 14, 15, 16, 17, 18, 19, 20, 21, 22, 23, 24]] (by kernel_rfl) (by kernel_rfl) (NoPanic.seq (NoPanic.body)) ?_
  have hS1648 := hS.drew
  revert hS1648
  generalize World.drew w = w1647
  intro hS1648
  refine ⟨⟨blk_cell (hS1648.rd 0).1 3 rfl, blk_cell (hS1648.rd 0).1 1 rfl, blk_cell (hS1648.rd 0).1 5 rfl, blk_cell (hS1648.rd 0).1 4 rfl, rowR.cell (hS1648.rd 2).1 0 h1650.1 h1650.2 0 rfl, trivial⟩, forallC ?_ (forallN)⟩
  refine segF 25 [.v (.int .i64 p0.Config.State), .v (.int .i64 p0.m.Symbols), .v (.slice A_p0_Config_Cells p0.Config.Cells.length c_p0_Config_Cells), .v (.int .i64 p0.Config.At), .v (.int .i64 (rdD p0.Config.Cells p0.Config.At 0))] [2] [(2, (.int .i64 (w64 ((w64 (p0.Config.State * p0.m.Symbols)) + (rdD p0.Config.Cells p0.Config.At 0)))))] [.idx A_p0_Config_Cells p0.Config.At p0.Config.Cells.length] [0, 1, 2, 3, 4] [(4, ⟨g_p0, 3, none⟩, (.int .i64 p0.Config.State)), (9, ⟨g_p0, 1, none⟩, (.int .i64 p0.m.Symbols)), (15, ⟨g_p0, 5, none⟩, (.slice A_p0_Config_Cells p0.Config.Cells.length c_p0_Config_Cells)), (20, ⟨g_p0, 4, none⟩, (.int .i64 p0.Config.At)), (22, ((adr A_p0_Config_Cells).add ((p0.Config.At).toNat * 1)), (.int .i64 (rdD p0.Config.Cells p0.Config.At 0)))] (fun fb => by kernel_rfl) rfl ⟨rowR.adr (hS1648.rd 2).1 h1650.1 h1650.2, trivial⟩ rfl ?_
  refine WL.done rfl ?_
  refine WX.next ?_
  refine WC.ret ?_
  injection hf with hf
  subst hf
  exact WX.ret_ [] (.int .i64 (w64 ((w64 (p0.Config.State * p0.m.Symbols)) + (rdD p0.Config.Cells p0.Config.At 0)))) [] (fun fb => by kernel_rfl) trivial ⟨_, rfl, rfl, hS1648.keep⟩
theorem machine_runner_step_calls (p0 : Runner) (g_p0 : Nat) (A_p0_m_Actions : Option Addr) (c_p0_m_Actions : Nat) (A_p0_Config_Cells : Option Addr) (c_p0_Config_Cells : Nat) (r : Int × Runner) (w : World) (hR0 : RO (fpL [blk g_p0 (.cells #[(.int .i64 p0.m.States), (.int .i64 p0.m.Symbols), (.slice A_p0_m_Actions p0.m.Actions.length c_p0_m_Actions), (.int .i64 p0.Config.State), (.int .i64 p0.Config.At), (.slice A_p0_Config_Cells p0.Config.Cells.length c_p0_Config_Cells)] 82 (0, 0)), rowO 3 encInt A_p0_Config_Cells c_p0_Config_Cells p0.Config.Cells]) w (rowR enc_Action A_p0_m_Actions c_p0_m_Actions p0.m.Actions)) (hI : IoOK w [blk g_p0 (.cells #[(.int .i64 p0.m.States), (.int .i64 p0.m.Symbols), (.slice A_p0_m_Actions p0.m.Actions.length c_p0_m_Actions), (.int .i64 p0.Config.State), (.int .i64 p0.Config.At), (.slice A_p0_Config_Cells p0.Config.Cells.length c_p0_Config_Cells)] 82 (0, 0)), rowO 3 encInt A_p0_Config_Cells c_p0_Config_Cells p0.Config.Cells]) (hf : machine_runner_step p0 = some r) :
    CallsR Try.prog 43 #[(.pointer (some ⟨g_p0, 0, none⟩))] w (fun v w' => ∃ (A1_ : Option Addr), ∃ (c1_ : Nat), v = (.int .i64 r.1) ∧ St (fpL [blk g_p0 (.cells #[(.int .i64 p0.m.States), (.int .i64 p0.m.Symbols), (.slice A_p0_m_Actions p0.m.Actions.length c_p0_m_Actions), (.int .i64 p0.Config.State), (.int .i64 p0.Config.At), (.slice A_p0_Config_Cells p0.Config.Cells.length c_p0_Config_Cells)] 82 (0, 0)), rowO 3 encInt A_p0_Config_Cells c_p0_Config_Cells p0.Config.Cells]) w w' [] [blk g_p0 (.cells #[(.int .i64 r.2.m.States), (.int .i64 r.2.m.Symbols), (.slice A_p0_m_Actions p0.m.Actions.length c_p0_m_Actions), (.int .i64 r.2.Config.State), (.int .i64 r.2.Config.At), (.slice A1_ r.2.Config.Cells.length c1_)] 82 (0, 0)), rowO 3 encInt A1_ c1_ r.2.Config.Cells]) := by
  have hS : St (fpL [blk g_p0 (.cells #[(.int .i64 p0.m.States), (.int .i64 p0.m.Symbols), (.slice A_p0_m_Actions p0.m.Actions.length c_p0_m_Actions), (.int .i64 p0.Config.State), (.int .i64 p0.Config.At), (.slice A_p0_Config_Cells p0.Config.Cells.length c_p0_Config_Cells)] 82 (0, 0)), rowO 3 encInt A_p0_Config_Cells c_p0_Config_Cells p0.Config.Cells]) w w [rowR enc_Action A_p0_m_Actions c_p0_m_Actions p0.m.Actions] [blk g_p0 (.cells #[(.int .i64 p0.m.States), (.int .i64 p0.m.Symbols), (.slice A_p0_m_Actions p0.m.Actions.length c_p0_m_Actions), (.int .i64 p0.Config.State), (.int .i64 p0.Config.At), (.slice A_p0_Config_Cells p0.Config.Cells.length c_p0_Config_Cells)] 82 (0, 0)), rowO 3 encInt A_p0_Config_Cells c_p0_Config_Cells p0.Config.Cells] := St.initIO (ro_cons hR0 (ro_nil _ _)) hI
  refine enter 70 Try.func43 rfl Try.ntmps43 rfl ?_
  unfold machine_runner_step at hf
  refine WC.seq ?_
  refine WC.region ?_
  refine seg 1 [] [0] [(0, (.pointer (some ⟨g_p0, 0, none⟩)))] [] (fun fb => by kernel_rfl) rfl trivial ?_
  refine WL.done rfl ?_
  refine WX.next ?_
  refine WC.seq ?_
  obtain ⟨x1812, hx1813, hf⟩ := bind_some hf
  refine WC.cutN (T := (Int × Int × Int) × Nat) (fun t => [(0, (.pointer (some ⟨g_p0, 0, none⟩))), (3, (.pointer (some ⟨t.2, 0, none⟩)))]) (fun t w1 => St (fpL [blk g_p0 (.cells #[(.int .i64 p0.m.States), (.int .i64 p0.m.Symbols), (.slice A_p0_m_Actions p0.m.Actions.length c_p0_m_Actions), (.int .i64 p0.Config.State), (.int .i64 p0.Config.At), (.slice A_p0_Config_Cells p0.Config.Cells.length c_p0_Config_Cells)] 82 (0, 0)), rowO 3 encInt A_p0_Config_Cells c_p0_Config_Cells p0.Config.Cells]) w w1 [rowR enc_Action A_p0_m_Actions c_p0_m_Actions p0.m.Actions] [blk g_p0 (.cells #[(.int .i64 p0.m.States), (.int .i64 p0.m.Symbols), (.slice A_p0_m_Actions p0.m.Actions.length c_p0_m_Actions), (.int .i64 p0.Config.State), (.int .i64 p0.Config.At), (.slice A_p0_Config_Cells p0.Config.Cells.length c_p0_Config_Cells)] 82 (0, 0)), rowO 3 encInt A_p0_Config_Cells c_p0_Config_Cells p0.Config.Cells, blk t.2 (.cells #[(.int .i64 t.1.1), (.int .i64 t.1.2.1), (.int .i64 t.1.2.2)] 88 (0, 0))] ∧ x1812 = t.1) (fun Kx1812 => ?_) ?_
  ·
    refine WC.regionD ([(4, ⟨g_p0, 2, none⟩, (.slice A_p0_m_Actions p0.m.Actions.length c_p0_m_Actions))], [0, 1, 2, 3, 4, 5, 7], [[], [0], [0, 1], [0, 1, 2], [0, 1, 2, 3], [], [5], [0, 1, 2, 3, 4, 5, 6], [0, 1, 2, 3, 4, 5, 6, 7], [], [0, 1, 2, 3, 4, 5, 6, 7, 8, 9]]) [[0, 1, 2, 3, 4, 5, 6, 7, 8, 9, 10], [0, 1, 2, 3, 4, 5, 6, 7, 9, 8, 10], [0, 1, 2, 3, 4, 5, 9, 6, 7, 8, 10]] (by kernel_rfl) (by kernel_rfl) (NoPanic.seq (NoPanic.body)) ?_
    have hS1815 := hS.drew
    revert hS1815
    generalize World.drew w = w1814
    intro hS1815
    refine ⟨⟨hS1815.cell 0 rfl 2 rfl, trivial⟩, forallC ?_ (forallC ?_ (forallC ?_ (forallN)))⟩
    ·
      refine segF 6 [.v (.slice A_p0_m_Actions p0.m.Actions.length c_p0_m_Actions)] [0, 9, 10] [(0, (.pointer (some ⟨g_p0, 0, none⟩))), (9, (.slice A_p0_m_Actions p0.m.Actions.length c_p0_m_Actions)), (10, (.pointer (some ⟨g_p0, 0, none⟩)))] [] [0] [(4, ⟨g_p0, 2, none⟩, (.slice A_p0_m_Actions p0.m.Actions.length c_p0_m_Actions))] (fun fb => by kernel_rfl) rfl trivial rfl ?_
      obtain ⟨t1816, ht1817, hx1813⟩ := bind_some hx1813
      refine WL.call (some 11) 63 #[(.pointer (some ⟨g_p0, 0, none⟩))] (fun fb => by kernel_rfl) (machine_runner_does_calls p0 g_p0 A_p0_m_Actions c_p0_m_Actions A_p0_Config_Cells c_p0_Config_Cells t1816 _ (hS1815.ow 0) (hS1815.rd 0) (hS1815.ow 1).ofO ht1817) (fun v w1818 hR1819 => ?_)
      obtain ⟨rfl, hk_⟩ := hR1819
      have hS1820 := hS1815.keepN hk_
      refine ⟨⟨hS1820.cell 0 rfl 2 rfl, trivial⟩, ?_⟩
      obtain ⟨h1821, hx1813⟩ := as_some hx1813
      refine seg 9 [.v (.int .i64 ((rdD p0.m.Actions t1816 z_Action).Write)), .v (.int .i64 ((rdD p0.m.Actions t1816 z_Action).Move)), .v (.int .i64 ((rdD p0.m.Actions t1816 z_Action).Next))] [0, 13] [(0, (.pointer (some ⟨g_p0, 0, none⟩))), (13, (.agg #[(.int .i64 ((rdD p0.m.Actions t1816 z_Action).Write)), (.int .i64 ((rdD p0.m.Actions t1816 z_Action).Move)), (.int .i64 ((rdD p0.m.Actions t1816 z_Action).Next))]))] [.idx A_p0_m_Actions t1816 p0.m.Actions.length, .cell ((adr A_p0_m_Actions).add ((t1816).toNat * 3)) (.int .i64 ((rdD p0.m.Actions t1816 z_Action).Write)), .cell (((adr A_p0_m_Actions).add ((t1816).toNat * 3)).add 1) (.int .i64 ((rdD p0.m.Actions t1816 z_Action).Move)), .cell (((adr A_p0_m_Actions).add ((t1816).toNat * 3)).add 2) (.int .i64 ((rdD p0.m.Actions t1816 z_Action).Next))] (fun fb => by kernel_rfl) rfl ⟨rowR.adr (hS1820.rd 0).1 h1821.1 h1821.2, rowR.cell (hS1820.rd 0).1 z_Action h1821.1 h1821.2 0 rfl, rowR.cell (hS1820.rd 0).1 z_Action h1821.1 h1821.2 1 rfl, rowR.cell (hS1820.rd 0).1 z_Action h1821.1 h1821.2 2 rfl, trivial⟩ ?_
      refine WL.new hS1820 3 [] (fun g => (.pointer (some ⟨g, 0, none⟩))) (.cells #[(.int .i64 0), (.int .i64 0), (.int .i64 0)] 88 (0, 0)) [] (fun fb g => by kernel_rfl) trivial (fun g1822 w1823 hS1824 => ?_)
      refine ⟨⟨hS1824.cell 1 rfl 2 rfl, trivial⟩, ?_⟩
      refine WL.store hS1824 0 rfl [(0, (.int .i64 ((rdD p0.m.Actions t1816 z_Action).Write))), (1, (.int .i64 ((rdD p0.m.Actions t1816 z_Action).Move))), (2, (.int .i64 ((rdD p0.m.Actions t1816 z_Action).Next)))] #[(.int .i64 ((rdD p0.m.Actions t1816 z_Action).Write)), (.int .i64 ((rdD p0.m.Actions t1816 z_Action).Move)), (.int .i64 ((rdD p0.m.Actions t1816 z_Action).Next))] (fun fb => by kernel_rfl) (by kernel_rfl) rfl [1, 2] (by decide) (by decide) (fun w1826 hS1827 => ?_)
      refine ⟨trivial, ?_⟩
      refine WL.done rfl ?_
      injection hx1813 with hx1813
      exact WX.to Kx1812 (((rdD p0.m.Actions t1816 z_Action).Write, (rdD p0.m.Actions t1816 z_Action).Move, (rdD p0.m.Actions t1816 z_Action).Next), g1822) [0, 3] rfl ⟨(hS1827.subR [0]).sub [1, 2, 0] (by decide), hx1813.symm⟩
    ·
      refine segF 6 [.v (.slice A_p0_m_Actions p0.m.Actions.length c_p0_m_Actions)] [0, 9, 10] [(0, (.pointer (some ⟨g_p0, 0, none⟩))), (9, (.slice A_p0_m_Actions p0.m.Actions.length c_p0_m_Actions)), (10, (.pointer (some ⟨g_p0, 0, none⟩)))] [] [0] [(4, ⟨g_p0, 2, none⟩, (.slice A_p0_m_Actions p0.m.Actions.length c_p0_m_Actions))] (fun fb => by kernel_rfl) rfl trivial rfl ?_
      obtain ⟨t1828, ht1829, hx1813⟩ := bind_some hx1813
      refine WL.call (some 11) 63 #[(.pointer (some ⟨g_p0, 0, none⟩))] (fun fb => by kernel_rfl) (machine_runner_does_calls p0 g_p0 A_p0_m_Actions c_p0_m_Actions A_p0_Config_Cells c_p0_Config_Cells t1828 _ (hS1815.ow 0) (hS1815.rd 0) (hS1815.ow 1).ofO ht1829) (fun v w1830 hR1831 => ?_)
      obtain ⟨rfl, hk_⟩ := hR1831
      have hS1832 := hS1815.keepN hk_
      refine ⟨⟨hS1832.cell 0 rfl 2 rfl, trivial⟩, ?_⟩
      obtain ⟨h1833, hx1813⟩ := as_some hx1813
      refine seg 8 [] [0, 12] [(0, (.pointer (some ⟨g_p0, 0, none⟩))), (12, (.pointer (some ((adr A_p0_m_Actions).add ((t1828).toNat * 3)))))] [.idx A_p0_m_Actions t1828 p0.m.Actions.length] (fun fb => by kernel_rfl) rfl ⟨rowR.adr (hS1832.rd 0).1 h1833.1 h1833.2, trivial⟩ ?_
      refine WL.new hS1832 3 [] (fun g => (.pointer (some ⟨g, 0, none⟩))) (.cells #[(.int .i64 0), (.int .i64 0), (.int .i64 0)] 88 (0, 0)) [] (fun fb g => by kernel_rfl) trivial (fun g1834 w1835 hS1836 => ?_)
      refine ⟨⟨hS1836.cell 1 rfl 2 rfl, trivial⟩, ?_⟩
      refine seg 10 [.v (.int .i64 ((rdD p0.m.Actions t1828 z_Action).Write)), .v (.int .i64 ((rdD p0.m.Actions t1828 z_Action).Move)), .v (.int .i64 ((rdD p0.m.Actions t1828 z_Action).Next))] [0, 3, 13] [(0, (.pointer (some ⟨g_p0, 0, none⟩))), (3, (.pointer (some ⟨g1834, 0, none⟩))), (13, (.agg #[(.int .i64 ((rdD p0.m.Actions t1828 z_Action).Write)), (.int .i64 ((rdD p0.m.Actions t1828 z_Action).Move)), (.int .i64 ((rdD p0.m.Actions t1828 z_Action).Next))]))] [.cell ((adr A_p0_m_Actions).add ((t1828).toNat * 3)) (.int .i64 ((rdD p0.m.Actions t1828 z_Action).Write)), .cell (((adr A_p0_m_Actions).add ((t1828).toNat * 3)).add 1) (.int .i64 ((rdD p0.m.Actions t1828 z_Action).Move)), .cell (((adr A_p0_m_Actions).add ((t1828).toNat * 3)).add 2) (.int .i64 ((rdD p0.m.Actions t1828 z_Action).Next))] (fun fb => by kernel_rfl) rfl ⟨rowR.cell (hS1836.rd 0).1 z_Action h1833.1 h1833.2 0 rfl, rowR.cell (hS1836.rd 0).1 z_Action h1833.1 h1833.2 1 rfl, rowR.cell (hS1836.rd 0).1 z_Action h1833.1 h1833.2 2 rfl, trivial⟩ ?_
      refine WL.store hS1836 0 rfl [(0, (.int .i64 ((rdD p0.m.Actions t1828 z_Action).Write))), (1, (.int .i64 ((rdD p0.m.Actions t1828 z_Action).Move))), (2, (.int .i64 ((rdD p0.m.Actions t1828 z_Action).Next)))] #[(.int .i64 ((rdD p0.m.Actions t1828 z_Action).Write)), (.int .i64 ((rdD p0.m.Actions t1828 z_Action).Move)), (.int .i64 ((rdD p0.m.Actions t1828 z_Action).Next))] (fun fb => by kernel_rfl) (by kernel_rfl) rfl [1, 2] (by decide) (by decide) (fun w1838 hS1839 => ?_)
      refine ⟨trivial, ?_⟩
      refine WL.done rfl ?_
      injection hx1813 with hx1813
      exact WX.to Kx1812 (((rdD p0.m.Actions t1828 z_Action).Write, (rdD p0.m.Actions t1828 z_Action).Move, (rdD p0.m.Actions t1828 z_Action).Next), g1834) [0, 3] rfl ⟨(hS1839.subR [0]).sub [1, 2, 0] (by decide), hx1813.symm⟩
    refine segF 6 [.v (.slice A_p0_m_Actions p0.m.Actions.length c_p0_m_Actions)] [0, 9, 10] [(0, (.pointer (some ⟨g_p0, 0, none⟩))), (9, (.slice A_p0_m_Actions p0.m.Actions.length c_p0_m_Actions)), (10, (.pointer (some ⟨g_p0, 0, none⟩)))] [] [0] [(4, ⟨g_p0, 2, none⟩, (.slice A_p0_m_Actions p0.m.Actions.length c_p0_m_Actions))] (fun fb => by kernel_rfl) rfl trivial rfl ?_
    refine WL.new hS1815 3 [] (fun g => (.pointer (some ⟨g, 0, none⟩))) (.cells #[(.int .i64 0), (.int .i64 0), (.int .i64 0)] 88 (0, 0)) [] (fun fb g => by kernel_rfl) trivial (fun g1840 w1841 hS1842 => ?_)
    refine ⟨⟨hS1842.cell 1 rfl 2 rfl, trivial⟩, ?_⟩
    obtain ⟨t1844, ht1845, hx1813⟩ := bind_some hx1813
    refine WL.call (some 11) 63 #[(.pointer (some ⟨g_p0, 0, none⟩))] (fun fb => by kernel_rfl) (machine_runner_does_calls p0 g_p0 A_p0_m_Actions c_p0_m_Actions A_p0_Config_Cells c_p0_Config_Cells t1844 _ (hS1842.ow 1) (hS1842.rd 0) (hS1842.ow 2).ofO ht1845) (fun v w1846 hR1847 => ?_)
    obtain ⟨rfl, hk_⟩ := hR1847
    have hS1848 := hS1842.keepN hk_
    refine ⟨⟨hS1848.cell 1 rfl 2 rfl, trivial⟩, ?_⟩
    obtain ⟨h1849, hx1813⟩ := as_some hx1813
    refine seg 10 [.v (.int .i64 ((rdD p0.m.Actions t1844 z_Action).Write)), .v (.int .i64 ((rdD p0.m.Actions t1844 z_Action).Move)), .v (.int .i64 ((rdD p0.m.Actions t1844 z_Action).Next))] [0, 3, 13] [(0, (.pointer (some ⟨g_p0, 0, none⟩))), (3, (.pointer (some ⟨g1840, 0, none⟩))), (13, (.agg #[(.int .i64 ((rdD p0.m.Actions t1844 z_Action).Write)), (.int .i64 ((rdD p0.m.Actions t1844 z_Action).Move)), (.int .i64 ((rdD p0.m.Actions t1844 z_Action).Next))]))] [.idx A_p0_m_Actions t1844 p0.m.Actions.length, .cell ((adr A_p0_m_Actions).add ((t1844).toNat * 3)) (.int .i64 ((rdD p0.m.Actions t1844 z_Action).Write)), .cell (((adr A_p0_m_Actions).add ((t1844).toNat * 3)).add 1) (.int .i64 ((rdD p0.m.Actions t1844 z_Action).Move)), .cell (((adr A_p0_m_Actions).add ((t1844).toNat * 3)).add 2) (.int .i64 ((rdD p0.m.Actions t1844 z_Action).Next))] (fun fb => by kernel_rfl) rfl ⟨rowR.adr (hS1848.rd 0).1 h1849.1 h1849.2, rowR.cell (hS1848.rd 0).1 z_Action h1849.1 h1849.2 0 rfl, rowR.cell (hS1848.rd 0).1 z_Action h1849.1 h1849.2 1 rfl, rowR.cell (hS1848.rd 0).1 z_Action h1849.1 h1849.2 2 rfl, trivial⟩ ?_
    refine WL.store hS1848 0 rfl [(0, (.int .i64 ((rdD p0.m.Actions t1844 z_Action).Write))), (1, (.int .i64 ((rdD p0.m.Actions t1844 z_Action).Move))), (2, (.int .i64 ((rdD p0.m.Actions t1844 z_Action).Next)))] #[(.int .i64 ((rdD p0.m.Actions t1844 z_Action).Write)), (.int .i64 ((rdD p0.m.Actions t1844 z_Action).Move)), (.int .i64 ((rdD p0.m.Actions t1844 z_Action).Next))] (fun fb => by kernel_rfl) (by kernel_rfl) rfl [1, 2] (by decide) (by decide) (fun w1850 hS1851 => ?_)
    refine ⟨trivial, ?_⟩
    refine WL.done rfl ?_
    injection hx1813 with hx1813
    exact WX.to Kx1812 (((rdD p0.m.Actions t1844 z_Action).Write, (rdD p0.m.Actions t1844 z_Action).Move, (rdD p0.m.Actions t1844 z_Action).Next), g1840) [0, 3] rfl ⟨(hS1851.subR [0]).sub [1, 2, 0] (by decide), hx1813.symm⟩
  rintro ⟨y1855, g1808⟩ w1852 ⟨hS1853, hq1854⟩
  subst hq1854
  refine WX.next ?_
  refine WC.seq ?_
  refine WC.regionD ([(4, ⟨g_p0, 4, none⟩, (.int .i64 p0.Config.At)), (6, ⟨g1808, 1, none⟩, (.int .i64 x1812.2.1))], [0, 1, 2, 3, 4, 5, 6, 7, 8, 9, 10], [[], [0], [0, 1], [0, 1, 2], [0, 1, 2, 3], [], [5], [5, 6], [0, 1, 2, 3, 4, 5, 6, 7], [0, 1, 2, 3, 4, 5, 6, 7, 8], [0, 1, 2, 3, 4, 5, 6, 7, 8, 9]]) [[0, 1, 2, 3, 4, 5, 6, 7, 8, 9, 10]] (by kernel_rfl) (by kernel_rfl) (NoPanic.seq (NoPanic.body)) ?_
  have hS1857 := hS1853.drew
  revert hS1857
  generalize World.drew w1852 = w1856
  intro hS1857
  refine ⟨⟨hS1857.cell 0 rfl 4 rfl, hS1857.cell 2 rfl 1 rfl, trivial⟩, forallC ?_ (forallN)⟩
  refine segF 11 [.v (.int .i64 p0.Config.At), .v (.int .i64 x1812.2.1)] [0, 3, 4] [(0, (.pointer (some ⟨g_p0, 0, none⟩))), (3, (.pointer (some ⟨g1808, 0, none⟩))), (4, (.int .i64 (w64 ((w64 (p0.Config.At + (w64 (2 * x1812.2.1)))) - 1))))] [] [0, 1] [(4, ⟨g_p0, 4, none⟩, (.int .i64 p0.Config.At)), (6, ⟨g1808, 1, none⟩, (.int .i64 x1812.2.1))] (fun fb => by kernel_rfl) rfl trivial rfl ?_
  refine WL.done rfl ?_
  refine WX.next ?_
  refine WC.seq ?_
  refine WC.block ?_
  refine WC.seq ?_
  refine WC.regionD ([(1, ⟨g1808, 2, none⟩, (.int .i64 x1812.2.2)), (6, ⟨g_p0, 0, none⟩, (.int .i64 p0.m.States))], [0, 1, 2, 3, 4, 5, 6, 7, 8], [[], [0], [], [2], [2, 3], [2, 3, 4], [2, 3, 4, 5], [0, 1, 2, 3, 4, 5, 6], [0, 1, 2, 3, 4, 5, 6, 7]]) [[0, 1, 2, 3, 4, 5, 6, 7, 8]] (by kernel_rfl) (by kernel_rfl) (NoPanic.seq (NoPanic.block (NoPanic.seq (NoPanic.body)))) ?_
  have hS1859 := hS1857.drew
  revert hS1859
  generalize World.drew w1856 = w1858
  intro hS1859
  refine ⟨⟨hS1859.cell 2 rfl 2 rfl, hS1859.cell 0 rfl 0 rfl, trivial⟩, forallC ?_ (forallN)⟩
  refine segF 9 [.v (.int .i64 x1812.2.2), .v (.int .i64 p0.m.States)] [0, 3, 4, 24] [(0, (.pointer (some ⟨g_p0, 0, none⟩))), (3, (.pointer (some ⟨g1808, 0, none⟩))), (4, (.int .i64 (w64 ((w64 (p0.Config.At + (w64 (2 * x1812.2.1)))) - 1)))), (24, (.bool (x1812.2.2 == p0.m.States)))] [] [0, 1] [(1, ⟨g1808, 2, none⟩, (.int .i64 x1812.2.2)), (6, ⟨g_p0, 0, none⟩, (.int .i64 p0.m.States))] (fun fb => by kernel_rfl) rfl trivial rfl ?_
  refine WL.done rfl ?_
  refine WX.next ?_
  rcases br_some hf with ⟨h1860, hf⟩ | ⟨h1860, hf⟩
  · refine WC.condT2 (fun fb => by kernel_rfl) h1860 ?_
    refine WC.seq ?_
    refine WC.region ?_
    refine seg 1 [] [0, 2] [(0, (.pointer (some ⟨g_p0, 0, none⟩))), (2, (.int .i64 5))] [] (fun fb => by kernel_rfl) rfl trivial ?_
    refine WL.done rfl ?_
    refine WX.next ?_
    refine WC.ret ?_
    injection hf with hf
    subst hf
    exact WX.blockR (WX.thenR (WX.ret_ [] (.int .i64 5) [] (fun fb => by kernel_rfl) trivial ⟨_, rfl, A_p0_Config_Cells, c_p0_Config_Cells, rfl, (hS1859.sub [0, 1] (by decide)).noR⟩))
  refine WC.condF2 (fun fb => by kernel_rfl) h1860 ?_
  refine WC.seq ?_
  refine WC.region ?_
  refine seg 3 [] [0, 3, 4, 36] [(0, (.pointer (some ⟨g_p0, 0, none⟩))), (3, (.pointer (some ⟨g1808, 0, none⟩))), (4, (.int .i64 (w64 ((w64 (p0.Config.At + (w64 (2 * x1812.2.1)))) - 1)))), (36, (.bool (decide (w64 ((w64 (p0.Config.At + (w64 (2 * x1812.2.1)))) - 1) < 0))))] [] (fun fb => by kernel_rfl) rfl trivial ?_
  refine WL.cutV (T := Bool) 12 (fun t => [(45, (.bool t)), (0, (.pointer (some ⟨g_p0, 0, none⟩))), (3, (.pointer (some ⟨g1808, 0, none⟩))), (4, (.int .i64 (w64 ((w64 (p0.Config.At + (w64 (2 * x1812.2.1)))) - 1))))]) (fun t => t = ((decide (w64 ((w64 (p0.Config.At + (w64 (2 * x1812.2.1)))) - 1) < 0)) || (decide (w64 ((w64 (p0.Config.At + (w64 (2 * x1812.2.1)))) - 1) ≥ (p0.Config.Cells.length : Int))))) (fun K => ?_) ?_
  ·
    rcases Bool.eq_false_or_eq_true (decide (w64 ((w64 (p0.Config.At + (w64 (2 * x1812.2.1)))) - 1) < 0)) with h1861 | h1861
    ·
      refine WL.setB 36 h1861 rfl ?_
      refine seg 12 [] [0, 3, 4, 45] [(0, (.pointer (some ⟨g_p0, 0, none⟩))), (3, (.pointer (some ⟨g1808, 0, none⟩))), (4, (.int .i64 (w64 ((w64 (p0.Config.At + (w64 (2 * x1812.2.1)))) - 1)))), (45, (.bool true))] [] (fun fb => by kernel_rfl) rfl trivial ?_
      exact WL.toV K true [45, 0, 3, 4] rfl (by rw [h1861]; rfl)
    refine WL.setB 36 h1861 rfl ?_
    refine seg 12 [.v (.slice A_p0_Config_Cells p0.Config.Cells.length c_p0_Config_Cells)] [0, 3, 4, 45] [(0, (.pointer (some ⟨g_p0, 0, none⟩))), (3, (.pointer (some ⟨g1808, 0, none⟩))), (4, (.int .i64 (w64 ((w64 (p0.Config.At + (w64 (2 * x1812.2.1)))) - 1)))), (45, (.bool (decide (w64 ((w64 (p0.Config.At + (w64 (2 * x1812.2.1)))) - 1) ≥ (p0.Config.Cells.length : Int)))))] [.cell ⟨g_p0, 5, none⟩ (.slice A_p0_Config_Cells p0.Config.Cells.length c_p0_Config_Cells)] (fun fb => by kernel_rfl) rfl ⟨hS1859.cell 0 rfl 5 rfl, trivial⟩ ?_
    exact WL.toV K (decide (w64 ((w64 (p0.Config.At + (w64 (2 * x1812.2.1)))) - 1) ≥ (p0.Config.Cells.length : Int))) [45, 0, 3, 4] rfl (by rw [h1861]; rfl)
  rintro b1862 rfl
  refine seg 13 [] [0, 3, 4, 33] [(0, (.pointer (some ⟨g_p0, 0, none⟩))), (3, (.pointer (some ⟨g1808, 0, none⟩))), (4, (.int .i64 (w64 ((w64 (p0.Config.At + (w64 (2 * x1812.2.1)))) - 1)))), (33, (.bool ((decide (w64 ((w64 (p0.Config.At + (w64 (2 * x1812.2.1)))) - 1) < 0)) || (decide (w64 ((w64 (p0.Config.At + (w64 (2 * x1812.2.1)))) - 1) ≥ (p0.Config.Cells.length : Int))))))] [] (fun fb => by kernel_rfl) rfl trivial ?_
  refine WL.done rfl ?_
  refine WX.next ?_
  rcases br_some hf with ⟨h1863, hf⟩ | ⟨h1863, hf⟩
  · refine WC.condT2 (fun fb => by kernel_rfl) h1863 ?_
    refine WC.seq ?_
    refine WC.region ?_
    refine seg 1 [] [0, 2] [(0, (.pointer (some ⟨g_p0, 0, none⟩))), (2, (.int .i64 6))] [] (fun fb => by kernel_rfl) rfl trivial ?_
    refine WL.done rfl ?_
    refine WX.next ?_
    refine WC.ret ?_
    injection hf with hf
    subst hf
    exact WX.blockR (WX.thenR (WX.ret_ [] (.int .i64 6) [] (fun fb => by kernel_rfl) trivial ⟨_, rfl, A_p0_Config_Cells, c_p0_Config_Cells, rfl, (hS1859.sub [0, 1] (by decide)).noR⟩))
  refine WC.condF2 (fun fb => by kernel_rfl) h1863 ?_
  refine WC.skip ?_
  refine WX.blockN (WX.next ?_)
  refine WC.seq ?_
  obtain ⟨h1871, hf⟩ := as_some hf
  refine WC.regionD ([(4, ⟨g_p0, 5, none⟩, (.slice A_p0_Config_Cells p0.Config.Cells.length c_p0_Config_Cells)), (9, ⟨g_p0, 4, none⟩, (.int .i64 p0.Config.At)), (11, ⟨g1808, 0, none⟩, (.int .i64 x1812.1))], [0, 1, 2, 3, 4, 5, 6, 7, 8, 9, 10, 11, 12], [[], [0], [0, 1], [0, 1, 2], [0, 1, 2, 3], [], [5], [5, 6], [5, 6, 7], [5, 6, 7, 8], [], [10], [0, 1, 2, 3, 4, 5, 6, 7, 8, 9, 10, 11], [0, 1, 2, 3, 4, 5, 6, 7, 8, 9, 10, 11, 12]]) [[0, 1, 2, 3, 4, 5, 6, 7, 8, 9, 10, 11, 12, 13]] (by kernel_rfl) (by kernel_rfl) (NoPanic.seq (NoPanic.body)) ?_
  have hS1869 := hS1859.drew
  revert hS1869
  generalize World.drew w1858 = w1868
  intro hS1869
  refine ⟨⟨hS1869.cell 0 rfl 5 rfl, hS1869.cell 0 rfl 4 rfl, hS1869.cell 2 rfl 0 rfl, trivial⟩, forallC ?_ (forallN)⟩
  refine segF 13 [.v (.slice A_p0_Config_Cells p0.Config.Cells.length c_p0_Config_Cells), .v (.int .i64 p0.Config.At), .v (.int .i64 x1812.1)] [0, 3, 4, 57, 58] [(0, (.pointer (some ⟨g_p0, 0, none⟩))), (3, (.pointer (some ⟨g1808, 0, none⟩))), (4, (.int .i64 (w64 ((w64 (p0.Config.At + (w64 (2 * x1812.2.1)))) - 1)))), (57, (.int .i64 x1812.1)), (58, (.pointer (some ((adr A_p0_Config_Cells).add ((p0.Config.At).toNat * 1)))))] [.idx A_p0_Config_Cells p0.Config.At p0.Config.Cells.length] [0, 1, 2] [(4, ⟨g_p0, 5, none⟩, (.slice A_p0_Config_Cells p0.Config.Cells.length c_p0_Config_Cells)), (9, ⟨g_p0, 4, none⟩, (.int .i64 p0.Config.At)), (11, ⟨g1808, 0, none⟩, (.int .i64 x1812.1))] (fun fb => by kernel_rfl) rfl ⟨rowR.adr (rowO.rd (hS1869.own 1).1) h1871.1 h1871.2, trivial⟩ rfl ?_
  refine WL.storeRow hS1869 1 rfl (p0.Config.At) (x1812.1) (0) [(0, (.int .i64 x1812.1))] (fun fb => by kernel_rfl) h1871.1 h1871.2 (by kernel_rfl) rfl [0, 2] (by decide) (by decide) (fun w1872 hS1873 => ?_)
  refine ⟨trivial, ?_⟩
  have hS1874 : St (fpL [blk g_p0 (.cells #[(.int .i64 p0.m.States), (.int .i64 p0.m.Symbols), (.slice A_p0_m_Actions p0.m.Actions.length c_p0_m_Actions), (.int .i64 p0.Config.State), (.int .i64 p0.Config.At), (.slice A_p0_Config_Cells p0.Config.Cells.length c_p0_Config_Cells)] 82 (0, 0)), rowO 3 encInt A_p0_Config_Cells c_p0_Config_Cells p0.Config.Cells]) w w1872 [rowR enc_Action A_p0_m_Actions c_p0_m_Actions p0.m.Actions] [rowO 3 encInt A_p0_Config_Cells c_p0_Config_Cells (p0.Config.Cells.set (p0.Config.At).toNat x1812.1), blk g_p0 (.cells #[(.int .i64 p0.m.States), (.int .i64 p0.m.Symbols), (.slice A_p0_m_Actions p0.m.Actions.length c_p0_m_Actions), (.int .i64 p0.Config.State), (.int .i64 p0.Config.At), (.slice A_p0_Config_Cells (p0.Config.Cells.set (p0.Config.At).toNat x1812.1).length c_p0_Config_Cells)] 82 (0, 0)), blk g1808 (.cells #[(.int .i64 x1812.1), (.int .i64 x1812.2.1), (.int .i64 x1812.2.2)] 88 (0, 0))] := by simpa only [List.length_set] using (show St (fpL [blk g_p0 (.cells #[(.int .i64 p0.m.States), (.int .i64 p0.m.Symbols), (.slice A_p0_m_Actions p0.m.Actions.length c_p0_m_Actions), (.int .i64 p0.Config.State), (.int .i64 p0.Config.At), (.slice A_p0_Config_Cells p0.Config.Cells.length c_p0_Config_Cells)] 82 (0, 0)), rowO 3 encInt A_p0_Config_Cells c_p0_Config_Cells p0.Config.Cells]) w w1872 [rowR enc_Action A_p0_m_Actions c_p0_m_Actions p0.m.Actions] [rowO 3 encInt A_p0_Config_Cells c_p0_Config_Cells (p0.Config.Cells.set (p0.Config.At).toNat x1812.1), blk g_p0 (.cells #[(.int .i64 p0.m.States), (.int .i64 p0.m.Symbols), (.slice A_p0_m_Actions p0.m.Actions.length c_p0_m_Actions), (.int .i64 p0.Config.State), (.int .i64 p0.Config.At), (.slice A_p0_Config_Cells p0.Config.Cells.length c_p0_Config_Cells)] 82 (0, 0)), blk g1808 (.cells #[(.int .i64 x1812.1), (.int .i64 x1812.2.1), (.int .i64 x1812.2.2)] 88 (0, 0))] from hS1873)
  refine WL.done rfl ?_
  refine WX.next ?_
  refine WC.seq ?_
  refine WC.regionD ([(4, ⟨g1808, 2, none⟩, (.int .i64 x1812.2.2))], [0, 1, 2, 3, 4, 5, 6, 7, 9, 10, 11], [[], [], [], [], [3], [0, 2], [0, 2, 5], [0, 2, 5, 6], [0, 2, 5, 6, 7], [0, 1, 2, 3, 4, 5, 6, 7, 8], [0, 1, 2, 3, 4, 5, 6, 7, 8, 9], [0, 1, 2, 3, 4, 5, 6, 7, 8, 9, 10], [0, 1, 2, 3, 4, 5, 6, 7, 8, 9, 10, 11]]) [[0, 1, 2, 3, 4, 5, 6, 7, 8, 9, 10, 11, 12]] (by kernel_rfl) (by kernel_rfl) (NoPanic.seq (NoPanic.body)) ?_
  have hS1880 := hS1874.drew
  revert hS1880
  generalize World.drew w1872 = w1879
  intro hS1880
  refine ⟨⟨hS1880.cell 2 rfl 2 rfl, trivial⟩, forallC ?_ (forallN)⟩
  refine segF 8 [.v (.int .i64 x1812.2.2)] [0, 60, 61, 63, 66] [(0, (.pointer (some ⟨g_p0, 0, none⟩))), (60, (.pointer (some ⟨g_p0, 0, none⟩))), (61, (.int .i64 (w64 ((w64 (p0.Config.At + (w64 (2 * x1812.2.1)))) - 1)))), (63, (.int .i64 x1812.2.2)), (66, (.pointer (some ⟨g_p0, 4, none⟩)))] [] [0] [(4, ⟨g1808, 2, none⟩, (.int .i64 x1812.2.2))] (fun fb => by kernel_rfl) rfl trivial rfl ?_
  refine WL.store hS1880 1 rfl [(4, (.int .i64 (w64 ((w64 (p0.Config.At + (w64 (2 * x1812.2.1)))) - 1))))] #[(.int .i64 p0.m.States), (.int .i64 p0.m.Symbols), (.slice A_p0_m_Actions p0.m.Actions.length c_p0_m_Actions), (.int .i64 p0.Config.State), (.int .i64 (w64 ((w64 (p0.Config.At + (w64 (2 * x1812.2.1)))) - 1))), (.slice A_p0_Config_Cells (p0.Config.Cells.set (p0.Config.At).toNat x1812.1).length c_p0_Config_Cells)] (fun fb => by kernel_rfl) (by kernel_rfl) rfl [0, 2] (by decide) (by decide) (fun w1881 hS1882 => ?_)
  refine ⟨⟨hS1882.cell 2 rfl 2 rfl, trivial⟩, ?_⟩
  refine seg 12 [] [0, 63, 69] [(0, (.pointer (some ⟨g_p0, 0, none⟩))), (63, (.int .i64 x1812.2.2)), (69, (.pointer (some ⟨g_p0, 3, none⟩)))] [] (fun fb => by kernel_rfl) rfl trivial ?_
  refine WL.store hS1882 0 rfl [(3, (.int .i64 x1812.2.2))] #[(.int .i64 p0.m.States), (.int .i64 p0.m.Symbols), (.slice A_p0_m_Actions p0.m.Actions.length c_p0_m_Actions), (.int .i64 x1812.2.2), (.int .i64 (w64 ((w64 (p0.Config.At + (w64 (2 * x1812.2.1)))) - 1))), (.slice A_p0_Config_Cells (p0.Config.Cells.set (p0.Config.At).toNat x1812.1).length c_p0_Config_Cells)] (fun fb => by kernel_rfl) (by kernel_rfl) rfl [1, 2] (by decide) (by decide) (fun w1883 hS1884 => ?_)
  refine ⟨trivial, ?_⟩
  refine WL.done rfl ?_
  refine WX.next ?_
  refine WC.seq ?_
  refine WC.region ?_
  refine seg 1 [] [0, 2] [(0, (.pointer (some ⟨g_p0, 0, none⟩))), (2, (.int .i64 0))] [] (fun fb => by kernel_rfl) rfl trivial ?_
  refine WL.done rfl ?_
  refine WX.next ?_
  refine WC.ret ?_
  injection hf with hf
  subst hf
  exact WX.ret_ [] (.int .i64 0) [] (fun fb => by kernel_rfl) trivial ⟨_, rfl, A_p0_Config_Cells, c_p0_Config_Cells, rfl, (hS1884.sub [0, 1] (by decide)).noR⟩
theorem machine_Run_calls (k : Nat) (p0 : Machine) (p1 : Config) (p2 : Int) (A_p0_Actions : Option Addr) (c_p0_Actions : Nat) (A_p1_Cells : Option Addr) (c_p1_Cells : Nat) (r : Config × Int × Int) (w : World) (hR0 : RO NoS w (rowR enc_Action A_p0_Actions c_p0_Actions p0.Actions)) (hR1 : RO NoS w (rowR encInt A_p1_Cells c_p1_Cells p1.Cells)) (hf : machine_Run k p0 p1 p2 = some r) :
    CallsR Try.prog 20 #[(.agg #[(.int .i64 p0.States), (.int .i64 p0.Symbols), (.slice A_p0_Actions p0.Actions.length c_p0_Actions)]), (.agg #[(.int .i64 p1.State), (.int .i64 p1.At), (.slice A_p1_Cells p1.Cells.length c_p1_Cells)]), (.int .i64 p2)] w (fun v w' => ∃ (A1_ : Option Addr), ∃ (c1_ : Nat), v = (.tuple #[(.agg #[(.int .i64 r.1.State), (.int .i64 r.1.At), (.slice A1_ r.1.Cells.length c1_)]), (.int .i64 r.2.1), (.int .i64 r.2.2)]) ∧ St NoS w w' [] [rowO 3 encInt A1_ c1_ r.1.Cells]) := by
  have hS : St NoS w w [rowR enc_Action A_p0_Actions c_p0_Actions p0.Actions, rowR encInt A_p1_Cells c_p1_Cells p1.Cells] [] := St.init (ro_cons hR0 (ro_cons hR1 (ro_nil _ _)))
  refine enter 41 Try.func20 rfl Try.ntmps20 rfl ?_
  unfold machine_Run at hf
  refine WC.seq ?_
  refine WC.region ?_
  refine WL.new hS 3 [] (fun g => (.pointer (some ⟨g, 0, none⟩))) (.cells #[(.int .i64 p0.States), (.int .i64 p0.Symbols), (.slice A_p0_Actions p0.Actions.length c_p0_Actions)] 24 (0, 0)) [] (fun fb g => by kernel_rfl) trivial (fun g1491 w1492 hS1493 => ?_)
  refine ⟨trivial, ?_⟩
  refine WL.new hS1493 4 [] (fun g => (.pointer (some ⟨g, 0, none⟩))) (.cells #[(.int .i64 p1.State), (.int .i64 p1.At), (.slice A_p1_Cells p1.Cells.length c_p1_Cells)] 27 (0, 0)) [] (fun fb g => by kernel_rfl) trivial (fun g1495 w1496 hS1497 => ?_)
  refine ⟨trivial, ?_⟩
  refine WL.new hS1497 6 [] (fun g => (.pointer (some ⟨g, 0, none⟩))) (.cells #[(.int .i64 0), (.int .i64 0), (.slice none 0 0)] 27 (0, 0)) [] (fun fb g => by kernel_rfl) trivial (fun g1499 w1500 hS1501 => ?_)
  refine ⟨trivial, ?_⟩
  refine seg 5 [] [2, 3, 4, 6] [(2, (.int .i64 p2)), (3, (.pointer (some ⟨g1491, 0, none⟩))), (4, (.pointer (some ⟨g1495, 0, none⟩))), (6, (.pointer (some ⟨g1499, 0, none⟩)))] [] (fun fb => by kernel_rfl) rfl trivial ?_
  refine WL.done rfl ?_
  refine WX.next ?_
  refine WC.seq ?_
  refine WC.seq ?_
  refine WC.region ?_
  refine seg 2 [.v (.int .i64 p0.States), .v (.int .i64 p0.Symbols), .v (.slice A_p0_Actions p0.Actions.length c_p0_Actions), .v (.int .i64 p1.State), .v (.int .i64 p1.At), .v (.slice A_p1_Cells p1.Cells.length c_p1_Cells)] [2, 3, 4, 6, 11, 12] [(2, (.int .i64 p2)), (3, (.pointer (some ⟨g1491, 0, none⟩))), (4, (.pointer (some ⟨g1495, 0, none⟩))), (6, (.pointer (some ⟨g1499, 0, none⟩))), (11, (.agg #[(.int .i64 p0.States), (.int .i64 p0.Symbols), (.slice A_p0_Actions p0.Actions.length c_p0_Actions)])), (12, (.agg #[(.int .i64 p1.State), (.int .i64 p1.At), (.slice A_p1_Cells p1.Cells.length c_p1_Cells)]))] [.cell ⟨g1491, 0, none⟩ (.int .i64 p0.States), .cell ⟨g1491, 1, none⟩ (.int .i64 p0.Symbols), .cell ⟨g1491, 2, none⟩ (.slice A_p0_Actions p0.Actions.length c_p0_Actions), .cell ⟨g1495, 0, none⟩ (.int .i64 p1.State), .cell ⟨g1495, 1, none⟩ (.int .i64 p1.At), .cell ⟨g1495, 2, none⟩ (.slice A_p1_Cells p1.Cells.length c_p1_Cells)] (fun fb => by kernel_rfl) rfl ⟨hS1501.cell 2 rfl 0 rfl, hS1501.cell 2 rfl 1 rfl, hS1501.cell 2 rfl 2 rfl, hS1501.cell 1 rfl 0 rfl, hS1501.cell 1 rfl 1 rfl, hS1501.cell 1 rfl 2 rfl, trivial⟩ ?_
  obtain ⟨t1591, ht1592, hf⟩ := bind_some hf
  refine WL.call (some 13) 18 #[(.agg #[(.int .i64 p0.States), (.int .i64 p0.Symbols), (.slice A_p0_Actions p0.Actions.length c_p0_Actions)]), (.agg #[(.int .i64 p1.State), (.int .i64 p1.At), (.slice A_p1_Cells p1.Cells.length c_p1_Cells)])] (fun fb => by kernel_rfl) (machine_Fits_calls _ p0 p1 A_p0_Actions c_p0_Actions A_p1_Cells c_p1_Cells t1591 _ (hS1501.rd 0) (hS1501.rd 1) ht1592) (fun v w1593 hR1594 => ?_)
  obtain ⟨rfl, hk_⟩ := hR1594
  have hS1595 := hS1501.keepN hk_
  refine ⟨trivial, ?_⟩
  refine seg 4 [] [2, 3, 4, 6, 14] [(2, (.int .i64 p2)), (3, (.pointer (some ⟨g1491, 0, none⟩))), (4, (.pointer (some ⟨g1495, 0, none⟩))), (6, (.pointer (some ⟨g1499, 0, none⟩))), (14, (.bool (!t1591)))] [] (fun fb => by kernel_rfl) rfl trivial ?_
  refine WL.done rfl ?_
  refine WX.next ?_
  rcases br_some hf with ⟨h1596, hf⟩ | ⟨h1596, hf⟩
  · refine WC.condT2 (fun fb => by kernel_rfl) h1596 ?_
    refine WC.seq ?_
    refine WC.region ?_
    refine seg 1 [] [6, 15] [(6, (.pointer (some ⟨g1499, 0, none⟩))), (15, (.agg #[(.int .i64 0), (.int .i64 0), (.slice none 0 0)]))] [] (fun fb => by kernel_rfl) rfl trivial ?_
    refine WL.store hS1595 0 rfl [(0, (.int .i64 0)), (1, (.int .i64 0)), (2, (.slice none 0 0))] #[(.int .i64 0), (.int .i64 0), (.slice none 0 0)] (fun fb => by kernel_rfl) (by kernel_rfl) rfl [1, 2] (by decide) (by decide) (fun w1597 hS1598 => ?_)
    refine ⟨trivial, ?_⟩
    refine seg 4 [] [6, 7, 8] [(6, (.pointer (some ⟨g1499, 0, none⟩))), (7, (.int .i64 0)), (8, (.int .i64 1))] [] (fun fb => by kernel_rfl) rfl trivial ?_
    refine WL.done rfl ?_
    refine WX.next ?_
    refine WC.ret ?_
    have hS1599 := hS1598.nilrow 3 encInt
    injection hf with hf
    subst hf
    exact WX.thenR (WX.ret_ [.v (.int .i64 0), .v (.int .i64 0), .v (.slice none 0 0)] (.tuple #[(.agg #[(.int .i64 0), (.int .i64 0), (.slice none ([] : List Int).length 0)]), (.int .i64 0), (.int .i64 1)]) [.cell ⟨g1499, 0, none⟩ (.int .i64 0), .cell ⟨g1499, 1, none⟩ (.int .i64 0), .cell ⟨g1499, 2, none⟩ (.slice none 0 0)] (fun fb => by kernel_rfl) ⟨hS1598.cell 0 rfl 0 rfl, hS1598.cell 0 rfl 1 rfl, hS1598.cell 0 rfl 2 rfl, trivial⟩ ⟨_, rfl, none, 0, rfl, (hS1599.sub [0] (by decide)).noR⟩)
  refine WC.condF2 (fun fb => by kernel_rfl) h1596 ?_
  refine WC.skip ?_
  refine WX.next ?_
  refine WC.seq ?_
  refine WC.seq ?_
  refine WC.region ?_
  refine seg 3 [] [2, 3, 4, 6, 18] [(2, (.int .i64 p2)), (3, (.pointer (some ⟨g1491, 0, none⟩))), (4, (.pointer (some ⟨g1495, 0, none⟩))), (6, (.pointer (some ⟨g1499, 0, none⟩))), (18, (.bool (decide (p2 < 0))))] [] (fun fb => by kernel_rfl) rfl trivial ?_
  refine WL.cutV (T := Bool) 6 (fun t => [(21, (.bool t)), (2, (.int .i64 p2)), (3, (.pointer (some ⟨g1491, 0, none⟩))), (4, (.pointer (some ⟨g1495, 0, none⟩))), (6, (.pointer (some ⟨g1499, 0, none⟩)))]) (fun t => t = ((decide (p2 < 0)) || (decide (p2 > 100000)))) (fun K => ?_) ?_
  ·
    rcases Bool.eq_false_or_eq_true (decide (p2 < 0)) with h1600 | h1600
    ·
      refine WL.setB 18 h1600 rfl ?_
      refine seg 6 [] [2, 3, 4, 6, 21] [(2, (.int .i64 p2)), (3, (.pointer (some ⟨g1491, 0, none⟩))), (4, (.pointer (some ⟨g1495, 0, none⟩))), (6, (.pointer (some ⟨g1499, 0, none⟩))), (21, (.bool true))] [] (fun fb => by kernel_rfl) rfl trivial ?_
      exact WL.toV K true [21, 2, 3, 4, 6] rfl (by rw [h1600]; rfl)
    refine WL.setB 18 h1600 rfl ?_
    refine seg 6 [] [2, 3, 4, 6, 21] [(2, (.int .i64 p2)), (3, (.pointer (some ⟨g1491, 0, none⟩))), (4, (.pointer (some ⟨g1495, 0, none⟩))), (6, (.pointer (some ⟨g1499, 0, none⟩))), (21, (.bool (decide (p2 > 100000))))] [] (fun fb => by kernel_rfl) rfl trivial ?_
    exact WL.toV K (decide (p2 > 100000)) [21, 2, 3, 4, 6] rfl (by rw [h1600]; rfl)
  rintro b1601 rfl
  refine WL.done rfl ?_
  refine WX.next ?_
  rcases br_some hf with ⟨h1602, hf⟩ | ⟨h1602, hf⟩
  · refine WC.condT2 (fun fb => by kernel_rfl) h1602 ?_
    refine WC.seq ?_
    refine WC.region ?_
    refine seg 1 [] [6, 22] [(6, (.pointer (some ⟨g1499, 0, none⟩))), (22, (.agg #[(.int .i64 0), (.int .i64 0), (.slice none 0 0)]))] [] (fun fb => by kernel_rfl) rfl trivial ?_
    refine WL.store hS1595 0 rfl [(0, (.int .i64 0)), (1, (.int .i64 0)), (2, (.slice none 0 0))] #[(.int .i64 0), (.int .i64 0), (.slice none 0 0)] (fun fb => by kernel_rfl) (by kernel_rfl) rfl [1, 2] (by decide) (by decide) (fun w1603 hS1604 => ?_)
    refine ⟨trivial, ?_⟩
    refine seg 4 [] [6, 7, 8] [(6, (.pointer (some ⟨g1499, 0, none⟩))), (7, (.int .i64 0)), (8, (.int .i64 2))] [] (fun fb => by kernel_rfl) rfl trivial ?_
    refine WL.done rfl ?_
    refine WX.next ?_
    refine WC.ret ?_
    have hS1605 := hS1604.nilrow 3 encInt
    injection hf with hf
    subst hf
    exact WX.thenR (WX.ret_ [.v (.int .i64 0), .v (.int .i64 0), .v (.slice none 0 0)] (.tuple #[(.agg #[(.int .i64 0), (.int .i64 0), (.slice none ([] : List Int).length 0)]), (.int .i64 0), (.int .i64 2)]) [.cell ⟨g1499, 0, none⟩ (.int .i64 0), .cell ⟨g1499, 1, none⟩ (.int .i64 0), .cell ⟨g1499, 2, none⟩ (.slice none 0 0)] (fun fb => by kernel_rfl) ⟨hS1604.cell 0 rfl 0 rfl, hS1604.cell 0 rfl 1 rfl, hS1604.cell 0 rfl 2 rfl, trivial⟩ ⟨_, rfl, none, 0, rfl, (hS1605.sub [0] (by decide)).noR⟩)
  refine WC.condF2 (fun fb => by kernel_rfl) h1602 ?_
  refine WC.skip ?_
  refine WX.next ?_
  refine WC.seq ?_
  refine WC.region ?_
  refine seg 2 [.v (.int .i64 p0.States), .v (.int .i64 p0.Symbols), .v (.slice A_p0_Actions p0.Actions.length c_p0_Actions), .v (.int .i64 p1.State), .v (.int .i64 p1.At), .v (.slice A_p1_Cells p1.Cells.length c_p1_Cells)] [2, 6, 23, 24] [(2, (.int .i64 p2)), (6, (.pointer (some ⟨g1499, 0, none⟩))), (23, (.agg #[(.int .i64 p0.States), (.int .i64 p0.Symbols), (.slice A_p0_Actions p0.Actions.length c_p0_Actions)])), (24, (.agg #[(.int .i64 p1.State), (.int .i64 p1.At), (.slice A_p1_Cells p1.Cells.length c_p1_Cells)]))] [.cell ⟨g1491, 0, none⟩ (.int .i64 p0.States), .cell ⟨g1491, 1, none⟩ (.int .i64 p0.Symbols), .cell ⟨g1491, 2, none⟩ (.slice A_p0_Actions p0.Actions.length c_p0_Actions), .cell ⟨g1495, 0, none⟩ (.int .i64 p1.State), .cell ⟨g1495, 1, none⟩ (.int .i64 p1.At), .cell ⟨g1495, 2, none⟩ (.slice A_p1_Cells p1.Cells.length c_p1_Cells)] (fun fb => by kernel_rfl) rfl ⟨hS1595.cell 2 rfl 0 rfl, hS1595.cell 2 rfl 1 rfl, hS1595.cell 2 rfl 2 rfl, hS1595.cell 1 rfl 0 rfl, hS1595.cell 1 rfl 1 rfl, hS1595.cell 1 rfl 2 rfl, trivial⟩ ?_
  obtain ⟨t1638, ht1639, hf⟩ := bind_some hf
  refine WL.call (some 25) 42 #[(.agg #[(.int .i64 p0.States), (.int .i64 p0.Symbols), (.slice A_p0_Actions p0.Actions.length c_p0_Actions)]), (.agg #[(.int .i64 p1.State), (.int .i64 p1.At), (.slice A_p1_Cells p1.Cells.length c_p1_Cells)])] (fun fb => by kernel_rfl) (machine_begin_calls p0 p1 A_p0_Actions c_p0_Actions A_p1_Cells c_p1_Cells t1638 _ (hS1595.rd 0) (hS1595.rd 1) ht1639) (fun v w1640 hR1641 => ?_)
  obtain ⟨g1643, A1644, c1645, rfl, hk_⟩ := hR1641
  have hS1642 : St NoS w w1640 [rowR enc_Action A_p0_Actions c_p0_Actions p0.Actions, rowR encInt A_p1_Cells c_p1_Cells p1.Cells] [blk g1643 (.cells #[(.int .i64 t1638.m.States), (.int .i64 t1638.m.Symbols), (.slice A_p0_Actions p0.Actions.length c_p0_Actions), (.int .i64 t1638.Config.State), (.int .i64 t1638.Config.At), (.slice A1644 t1638.Config.Cells.length c1645)] 82 (0, 0)), rowO 3 encInt A1644 c1645 t1638.Config.Cells, blk g1499 (.cells #[(.int .i64 0), (.int .i64 0), (.slice none 0 0)] 27 (0, 0)), blk g1495 (.cells #[(.int .i64 p1.State), (.int .i64 p1.At), (.slice A_p1_Cells p1.Cells.length c_p1_Cells)] 27 (0, 0)), blk g1491 (.cells #[(.int .i64 p0.States), (.int .i64 p0.Symbols), (.slice A_p0_Actions p0.Actions.length c_p0_Actions)] 24 (0, 0))] := hS1595.call hk_ [] [0, 1, 2] (fun g hg => hg.elim) (by simp) (by decide)
  refine ⟨trivial, ?_⟩
  refine seg 4 [] [2, 6, 9] [(2, (.int .i64 p2)), (6, (.pointer (some ⟨g1499, 0, none⟩))), (9, (.pointer (some ⟨g1643, 0, none⟩)))] [] (fun fb => by kernel_rfl) rfl trivial ?_
  refine WL.done rfl ?_
  refine WX.next ?_
  refine WC.seq ?_
  refine WC.region ?_
  refine seg 1 [] [2, 6, 9, 10] [(2, (.int .i64 p2)), (6, (.pointer (some ⟨g1499, 0, none⟩))), (9, (.pointer (some ⟨g1643, 0, none⟩))), (10, (.int .i64 0))] [] (fun fb => by kernel_rfl) rfl trivial ?_
  refine WL.done rfl ?_
  refine WX.next ?_
  refine WC.seq ?_
  obtain ⟨x1971, hx1972, hf⟩ := bind_some hf
  refine WC.cutN (T := (Int × Int × Int × Int × (List Int) × Int) × (Option Addr) × Nat) (fun t => [(6, (.pointer (some ⟨g1499, 0, none⟩))), (9, (.pointer (some ⟨g1643, 0, none⟩))), (10, (.int .i64 t.1.2.2.2.2.2))]) (fun t w1 => St NoS w w1 [rowR enc_Action A_p0_Actions c_p0_Actions p0.Actions, rowR encInt A_p1_Cells c_p1_Cells p1.Cells] [blk g1499 (.cells #[(.int .i64 0), (.int .i64 0), (.slice none 0 0)] 27 (0, 0)), blk g1643 (.cells #[(.int .i64 t.1.1), (.int .i64 t.1.2.1), (.slice A_p0_Actions p0.Actions.length c_p0_Actions), (.int .i64 t.1.2.2.1), (.int .i64 t.1.2.2.2.1), (.slice t.2.1 t.1.2.2.2.2.1.length t.2.2)] 82 (0, 0)), rowO 3 encInt t.2.1 t.2.2 t.1.2.2.2.2.1] ∧ x1971 = t.1) (fun Kx1971 => ?_) ?_
  ·
    refine WC.block ?_
    refine WC.loop (T := (Int × Int × Int × Int × (List Int) × Int) × (Option Addr) × Nat) (fun t => [(2, (.int .i64 p2)), (6, (.pointer (some ⟨g1499, 0, none⟩))), (9, (.pointer (some ⟨g1643, 0, none⟩))), (10, (.int .i64 t.1.2.2.2.2.2))]) (fun n t w1 => St NoS w w1 [rowR enc_Action A_p0_Actions c_p0_Actions p0.Actions, rowR encInt A_p1_Cells c_p1_Cells p1.Cells] [blk g1499 (.cells #[(.int .i64 0), (.int .i64 0), (.slice none 0 0)] 27 (0, 0)), blk g1643 (.cells #[(.int .i64 t.1.1), (.int .i64 t.1.2.1), (.slice A_p0_Actions p0.Actions.length c_p0_Actions), (.int .i64 t.1.2.2.1), (.int .i64 t.1.2.2.2.1), (.slice t.2.1 t.1.2.2.2.2.1.length t.2.2)] 82 (0, 0)), rowO 3 encInt t.2.1 t.2.2 t.1.2.2.2.2.1] ∧ machine_Run.l0 n t.1.1 t.1.2.1 t.1.2.2.1 t.1.2.2.2.1 t.1.2.2.2.2.1 t.1.2.2.2.2.2 p0 p2 = some x1971) k ((t1638.m.States, t1638.m.Symbols, t1638.Config.State, t1638.Config.At, t1638.Config.Cells, 0), A1644, c1645) [2, 6, 9, 10] rfl ⟨(hS1642.subR [0, 1]).sub [2, 0, 1] (by decide), hx1972⟩ ?_
    rintro k1973 ⟨⟨x1955, x1956, x1957, x1958, l1961, x1962⟩, A1959, c1960⟩ w1974 ⟨hS1975, hl1976⟩
    cases k1973 with
    | zero => rw [machine_Run.l0] at hl1976; cases hl1976
    | succ k1973 =>
      rw [machine_Run.l0] at hl1976
      refine WC.seq ?_
      refine WC.seq ?_
      refine WC.region ?_
      refine seg 4 [] [2, 6, 9, 10, 29] [(2, (.int .i64 p2)), (6, (.pointer (some ⟨g1499, 0, none⟩))), (9, (.pointer (some ⟨g1643, 0, none⟩))), (10, (.int .i64 x1962)), (29, (.bool (decide (x1962 < p2))))] [] (fun fb => by kernel_rfl) rfl trivial ?_
      obtain ⟨x1992, hx1993, hl1976⟩ := bind_some hl1976
      refine WL.cutW (T := (Int × Int × Int × Int × (List Int) × Bool) × (Option Addr) × Nat) 8 (fun t => [(2, (.int .i64 p2)), (6, (.pointer (some ⟨g1499, 0, none⟩))), (9, (.pointer (some ⟨g1643, 0, none⟩))), (10, (.int .i64 x1962)), (33, (.bool t.1.2.2.2.2.2))]) (fun t w1 => (St NoS w w1 [rowR enc_Action A_p0_Actions c_p0_Actions p0.Actions, rowR encInt A_p1_Cells c_p1_Cells p1.Cells] [blk g1499 (.cells #[(.int .i64 0), (.int .i64 0), (.slice none 0 0)] 27 (0, 0)), blk g1643 (.cells #[(.int .i64 t.1.1), (.int .i64 t.1.2.1), (.slice A_p0_Actions p0.Actions.length c_p0_Actions), (.int .i64 t.1.2.2.1), (.int .i64 t.1.2.2.2.1), (.slice t.2.1 t.1.2.2.2.2.1.length t.2.2)] 82 (0, 0)), rowO 3 encInt t.2.1 t.2.2 t.1.2.2.2.2.1] ∧ x1992 = t.1) ∧ CellsOK [] w1) (fun K => ?_) ?_
      ·
        rcases br_some hx1993 with ⟨h1994, hx1993⟩ | ⟨h1994, hx1993⟩
        ·
          refine WL.setB 29 h1994 rfl ?_
          refine seg 5 [] [2, 6, 9, 10, 29, 30] [(2, (.int .i64 p2)), (6, (.pointer (some ⟨g1499, 0, none⟩))), (9, (.pointer (some ⟨g1643, 0, none⟩))), (10, (.int .i64 x1962)), (29, (.bool true)), (30, (.pointer (some ⟨g1643, 0, none⟩)))] [] (fun fb => by kernel_rfl) rfl trivial ?_
          obtain ⟨t1995, ht1996, hx1993⟩ := bind_some hx1993
          refine WL.call (some 31) 43 #[(.pointer (some ⟨g1643, 0, none⟩))] (fun fb => by kernel_rfl) (machine_runner_step_calls (Runner.mk (Machine.mk x1955 x1956 p0.Actions) (Config.mk x1957 x1958 l1961)) g1643 A_p0_Actions c_p0_Actions A1959 c1960 t1995 _ (hS1975.rdT [1, 2] 0) (hS1975.io [1, 2] (by decide)) ht1996) (fun v w1997 hR1998 => ?_)
          obtain ⟨A2000, c2001, rfl, hk_⟩ := hR1998
          have hS1999 : St NoS w w1997 [rowR enc_Action A_p0_Actions c_p0_Actions p0.Actions, rowR encInt A_p1_Cells c_p1_Cells p1.Cells] [blk g1643 (.cells #[(.int .i64 t1995.2.m.States), (.int .i64 t1995.2.m.Symbols), (.slice A_p0_Actions p0.Actions.length c_p0_Actions), (.int .i64 t1995.2.Config.State), (.int .i64 t1995.2.Config.At), (.slice A2000 t1995.2.Config.Cells.length c2001)] 82 (0, 0)), rowO 3 encInt A2000 c2001 t1995.2.Config.Cells, blk g1499 (.cells #[(.int .i64 0), (.int .i64 0), (.slice none 0 0)] 27 (0, 0))] := hS1975.call hk_ [1, 2] [0] (fun g hg => fpL_sel g hg) (by decide) (by decide)
          refine ⟨trivial, ?_⟩
          refine seg 8 [] [2, 6, 9, 10, 33] [(2, (.int .i64 p2)), (6, (.pointer (some ⟨g1499, 0, none⟩))), (9, (.pointer (some ⟨g1643, 0, none⟩))), (10, (.int .i64 x1962)), (33, (.bool (t1995.1 == 0)))] [] (fun fb => by kernel_rfl) rfl trivial ?_
          injection hx1993 with hx1993
          exact WL.to K ((t1995.2.m.States, t1995.2.m.Symbols, t1995.2.Config.State, t1995.2.Config.At, t1995.2.Config.Cells, t1995.1 == 0), A2000, c2001) [2, 6, 9, 10, 33] rfl ⟨⟨(hS1999.subR [0, 1]).sub [2, 0, 1] (by decide), hx1993.symm⟩, trivial⟩
        refine WL.setB 29 h1994 rfl ?_
        refine seg 8 [] [2, 6, 9, 10, 33] [(2, (.int .i64 p2)), (6, (.pointer (some ⟨g1499, 0, none⟩))), (9, (.pointer (some ⟨g1643, 0, none⟩))), (10, (.int .i64 x1962)), (33, (.bool false))] [] (fun fb => by kernel_rfl) rfl trivial ?_
        injection hx1993 with hx1993
        exact WL.to K ((x1955, x1956, x1957, x1958, l1961, false), A1959, c1960) [2, 6, 9, 10, 33] rfl ⟨⟨(hS1975.subR [0, 1]).sub [0, 1, 2] (by decide), hx1993.symm⟩, trivial⟩
      rintro ⟨y2002, A1988, c1989⟩ w2004 ⟨⟨hS2005, hq2003⟩, hF2006⟩
      subst hq2003
      refine WL.done rfl ?_
      refine WX.next ?_
      rcases br_some hl1976 with ⟨h2007, hl1976⟩ | ⟨h2007, hl1976⟩
      · refine WC.condT2 (fun fb => by kernel_rfl) h2007 ?_
        refine WC.skip ?_
        refine WX.next ?_
        refine WC.block ?_
        refine WC.region ?_
        refine seg 3 [] [2, 6, 9, 10] [(2, (.int .i64 p2)), (6, (.pointer (some ⟨g1499, 0, none⟩))), (9, (.pointer (some ⟨g1643, 0, none⟩))), (10, (.int .i64 (w64 (x1962 + 1))))] [] (fun fb => by kernel_rfl) rfl trivial ?_
        refine WL.done rfl ?_
        exact WX.blockN (WX.again k1973 (Nat.lt_succ_self _) ((x1992.1, x1992.2.1, x1992.2.2.1, x1992.2.2.2.1, x1992.2.2.2.2.1, w64 (x1962 + 1)), A1988, c1989) [2, 6, 9, 10] rfl ⟨(hS2005.subR [0, 1]).sub [0, 1, 2] (by decide), hl1976⟩)
      refine WC.condF2 (fun fb => by kernel_rfl) h2007 ?_
      refine WC.exit ?_
      injection hl1976 with hl1976
      exact WX.thenX (WX.thenX (WX.blockHere (WX.to Kx1971 ((x1992.1, x1992.2.1, x1992.2.2.1, x1992.2.2.2.1, x1992.2.2.2.2.1, x1962), A1988, c1989) [6, 9, 10] rfl ⟨(hS2005.subR [0, 1]).sub [0, 1, 2] (by decide), hl1976.symm⟩)))
  rintro ⟨y2011, A1967, c1968⟩ w2008 ⟨hS2009, hq2010⟩
  subst hq2010
  refine WX.next ?_
  refine WC.seq ?_
  refine WC.region ?_
  refine seg 5 [.v (.int .i64 x1971.2.2.1), .v (.int .i64 x1971.2.2.2.1), .v (.slice A1967 x1971.2.2.2.2.1.length c1968)] [6, 39, 40] [(6, (.pointer (some ⟨g1499, 0, none⟩))), (39, (.agg #[(.int .i64 x1971.2.2.1), (.int .i64 x1971.2.2.2.1), (.slice A1967 x1971.2.2.2.2.1.length c1968)])), (40, (.int .i64 x1971.2.2.2.2.2))] [.cell ⟨g1643, 3, none⟩ (.int .i64 x1971.2.2.1), .cell ⟨g1643, 4, none⟩ (.int .i64 x1971.2.2.2.1), .cell ⟨g1643, 5, none⟩ (.slice A1967 x1971.2.2.2.2.1.length c1968)] (fun fb => by kernel_rfl) rfl ⟨hS2009.cell 1 rfl 3 rfl, hS2009.cell 1 rfl 4 rfl, hS2009.cell 1 rfl 5 rfl, trivial⟩ ?_
  refine WL.store hS2009 0 rfl [(0, (.int .i64 x1971.2.2.1)), (1, (.int .i64 x1971.2.2.2.1)), (2, (.slice A1967 x1971.2.2.2.2.1.length c1968))] #[(.int .i64 x1971.2.2.1), (.int .i64 x1971.2.2.2.1), (.slice A1967 x1971.2.2.2.2.1.length c1968)] (fun fb => by kernel_rfl) (by kernel_rfl) rfl [1, 2] (by decide) (by decide) (fun w2012 hS2013 => ?_)
  refine ⟨trivial, ?_⟩
  refine seg 8 [] [6, 7, 8] [(6, (.pointer (some ⟨g1499, 0, none⟩))), (7, (.int .i64 x1971.2.2.2.2.2)), (8, (.int .i64 0))] [] (fun fb => by kernel_rfl) rfl trivial ?_
  refine WL.done rfl ?_
  refine WX.next ?_
  refine WC.ret ?_
  injection hf with hf
  subst hf
  exact WX.ret_ [.v (.int .i64 x1971.2.2.1), .v (.int .i64 x1971.2.2.2.1), .v (.slice A1967 x1971.2.2.2.2.1.length c1968)] (.tuple #[(.agg #[(.int .i64 x1971.2.2.1), (.int .i64 x1971.2.2.2.1), (.slice A1967 x1971.2.2.2.2.1.length c1968)]), (.int .i64 x1971.2.2.2.2.2), (.int .i64 0)]) [.cell ⟨g1499, 0, none⟩ (.int .i64 x1971.2.2.1), .cell ⟨g1499, 1, none⟩ (.int .i64 x1971.2.2.2.1), .cell ⟨g1499, 2, none⟩ (.slice A1967 x1971.2.2.2.2.1.length c1968)] (fun fb => by kernel_rfl) ⟨hS2013.cell 0 rfl 0 rfl, hS2013.cell 0 rfl 1 rfl, hS2013.cell 0 rfl 2 rfl, trivial⟩ ⟨_, rfl, A1967, c1968, rfl, (hS2013.sub [2] (by decide)).noR⟩
theorem machine_kit_row_calls (k : Nat) (p0 : Kit) (p1 : Runner) (g_p0 : Nat) (A_p0_m_Actions : Option Addr) (c_p0_m_Actions : Nat) (A_p0_set : Option Addr) (c_p0_set : Nat) (A_p0_does : Option Addr) (c_p0_does : Nat) (g_p1 : Nat) (A_p1_m_Actions : Option Addr) (c_p1_m_Actions : Nat) (A_p1_Config_Cells : Option Addr) (c_p1_Config_Cells : Nat) (r : (List Int)) (w : World) (hR0 : RO NoS w (blk g_p0 (.cells #[(.int .i64 p0.m.States), (.int .i64 p0.m.Symbols), (.slice A_p0_m_Actions p0.m.Actions.length c_p0_m_Actions), (.slice A_p0_set p0.set.length c_p0_set), (.slice A_p0_does p0.does.length c_p0_does), (.int .i64 p0.base)] 96 (0, 0)))) (hR1 : RO NoS w (rowR enc_Action A_p0_m_Actions c_p0_m_Actions p0.m.Actions)) (hR2 : RO NoS w (rowR enc_Tile A_p0_set c_p0_set p0.set)) (hR3 : RO NoS w (rowR encInt A_p0_does c_p0_does p0.does)) (hR4 : RO NoS w (blk g_p1 (.cells #[(.int .i64 p1.m.States), (.int .i64 p1.m.Symbols), (.slice A_p1_m_Actions p1.m.Actions.length c_p1_m_Actions), (.int .i64 p1.Config.State), (.int .i64 p1.Config.At), (.slice A_p1_Config_Cells p1.Config.Cells.length c_p1_Config_Cells)] 82 (0, 0)))) (hR5 : RO NoS w (rowR enc_Action A_p1_m_Actions c_p1_m_Actions p1.m.Actions)) (hR6 : RO NoS w (rowR encInt A_p1_Config_Cells c_p1_Config_Cells p1.Config.Cells)) (hf : machine_kit_row k p0 p1 = some r) :
    CallsR Try.prog 44 #[(.pointer (some ⟨g_p0, 0, none⟩)), (.pointer (some ⟨g_p1, 0, none⟩))] w (fun v w' => ∃ (A1_ : Option Addr), ∃ (c1_ : Nat), v = (.slice A1_ r.length c1_) ∧ St NoS w w' [] [rowO 3 encInt A1_ c1_ r]) := by
  have hS : St NoS w w [blk g_p0 (.cells #[(.int .i64 p0.m.States), (.int .i64 p0.m.Symbols), (.slice A_p0_m_Actions p0.m.Actions.length c_p0_m_Actions), (.slice A_p0_set p0.set.length c_p0_set), (.slice A_p0_does p0.does.length c_p0_does), (.int .i64 p0.base)] 96 (0, 0)), rowR enc_Action A_p0_m_Actions c_p0_m_Actions p0.m.Actions, rowR enc_Tile A_p0_set c_p0_set p0.set, rowR encInt A_p0_does c_p0_does p0.does, blk g_p1 (.cells #[(.int .i64 p1.m.States), (.int .i64 p1.m.Symbols), (.slice A_p1_m_Actions p1.m.Actions.length c_p1_m_Actions), (.int .i64 p1.Config.State), (.int .i64 p1.Config.At), (.slice A_p1_Config_Cells p1.Config.Cells.length c_p1_Config_Cells)] 82 (0, 0)), rowR enc_Action A_p1_m_Actions c_p1_m_Actions p1.m.Actions, rowR encInt A_p1_Config_Cells c_p1_Config_Cells p1.Config.Cells] [] := St.init (ro_cons hR0 (ro_cons hR1 (ro_cons hR2 (ro_cons hR3 (ro_cons hR4 (ro_cons hR5 (ro_cons hR6 (ro_nil _ _))))))))
  refine enter 87 Try.func44 rfl Try.ntmps44 rfl ?_
  unfold machine_kit_row at hf
  refine WC.seq ?_
  refine WC.region ?_
  refine seg 1 [] [0, 1] [(0, (.pointer (some ⟨g_p0, 0, none⟩))), (1, (.pointer (some ⟨g_p1, 0, none⟩)))] [] (fun fb => by kernel_rfl) rfl trivial ?_
  refine WL.done rfl ?_
  refine WX.next ?_
  refine WC.seq ?_
  refine WC.region ?_
  refine seg 1 [] [0, 1, 5] [(0, (.pointer (some ⟨g_p0, 0, none⟩))), (1, (.pointer (some ⟨g_p1, 0, none⟩))), (5, (.slice none 0 0))] [] (fun fb => by kernel_rfl) rfl trivial ?_
  refine WL.done rfl ?_
  refine WX.next ?_
  refine WC.seq ?_
  obtain ⟨x2198, hx2199, hf⟩ := bind_some hf
  refine WC.cutN (T := (Int × Int × Int) × Nat) (fun t => [(0, (.pointer (some ⟨g_p0, 0, none⟩))), (1, (.pointer (some ⟨g_p1, 0, none⟩))), (5, (.slice none 0 0)), (6, (.pointer (some ⟨t.2, 0, none⟩)))]) (fun t w1 => St NoS w w1 [blk g_p0 (.cells #[(.int .i64 p0.m.States), (.int .i64 p0.m.Symbols), (.slice A_p0_m_Actions p0.m.Actions.length c_p0_m_Actions), (.slice A_p0_set p0.set.length c_p0_set), (.slice A_p0_does p0.does.length c_p0_does), (.int .i64 p0.base)] 96 (0, 0)), rowR enc_Action A_p0_m_Actions c_p0_m_Actions p0.m.Actions, rowR enc_Tile A_p0_set c_p0_set p0.set, rowR encInt A_p0_does c_p0_does p0.does, blk g_p1 (.cells #[(.int .i64 p1.m.States), (.int .i64 p1.m.Symbols), (.slice A_p1_m_Actions p1.m.Actions.length c_p1_m_Actions), (.int .i64 p1.Config.State), (.int .i64 p1.Config.At), (.slice A_p1_Config_Cells p1.Config.Cells.length c_p1_Config_Cells)] 82 (0, 0)), rowR enc_Action A_p1_m_Actions c_p1_m_Actions p1.m.Actions, rowR encInt A_p1_Config_Cells c_p1_Config_Cells p1.Config.Cells] [blk t.2 (.cells #[(.int .i64 t.1.1), (.int .i64 t.1.2.1), (.int .i64 t.1.2.2)] 88 (0, 0))] ∧ x2198 = t.1) (fun Kx2198 => ?_) ?_
  ·
    refine WC.regionD ([(4, ⟨g_p1, 2, none⟩, (.slice A_p1_m_Actions p1.m.Actions.length c_p1_m_Actions))], [0, 1, 2, 3, 4, 5, 7], [[], [0], [0, 1], [0, 1, 2], [0, 1, 2, 3], [], [5], [0, 1, 2, 3, 4, 5, 6], [0, 1, 2, 3, 4, 5, 6, 7], [], [0, 1, 2, 3, 4, 5, 6, 7, 8, 9]]) [[0, 1, 2, 3, 4, 5, 6, 7, 8, 9, 10], [0, 1, 2, 3, 4, 5, 6, 7, 9, 8, 10], [0, 1, 2, 3, 4, 5, 9, 6, 7, 8, 10]] (by kernel_rfl) (by kernel_rfl) (NoPanic.seq (NoPanic.body)) ?_
    have hS2201 := hS.drew
    revert hS2201
    generalize World.drew w = w2200
    intro hS2201
    refine ⟨⟨blk_cell (hS2201.rd 4).1 2 rfl, trivial⟩, forallC ?_ (forallC ?_ (forallC ?_ (forallN)))⟩
    ·
      refine segF 6 [.v (.slice A_p1_m_Actions p1.m.Actions.length c_p1_m_Actions)] [0, 1, 5, 15, 16] [(0, (.pointer (some ⟨g_p0, 0, none⟩))), (1, (.pointer (some ⟨g_p1, 0, none⟩))), (5, (.slice none 0 0)), (15, (.slice A_p1_m_Actions p1.m.Actions.length c_p1_m_Actions)), (16, (.pointer (some ⟨g_p1, 0, none⟩)))] [] [0] [(4, ⟨g_p1, 2, none⟩, (.slice A_p1_m_Actions p1.m.Actions.length c_p1_m_Actions))] (fun fb => by kernel_rfl) rfl trivial rfl ?_
      obtain ⟨t2202, ht2203, hx2199⟩ := bind_some hx2199
      refine WL.call (some 17) 63 #[(.pointer (some ⟨g_p1, 0, none⟩))] (fun fb => by kernel_rfl) (machine_runner_does_calls p1 g_p1 A_p1_m_Actions c_p1_m_Actions A_p1_Config_Cells c_p1_Config_Cells t2202 _ (hS2201.rd 4) (hS2201.rd 5) (hS2201.rd 6) ht2203) (fun v w2204 hR2205 => ?_)
      obtain ⟨rfl, hk_⟩ := hR2205
      have hS2206 := hS2201.keepN hk_
      refine ⟨⟨blk_cell (hS2206.rd 4).1 2 rfl, trivial⟩, ?_⟩
      obtain ⟨h2207, hx2199⟩ := as_some hx2199
      refine seg 9 [.v (.int .i64 ((rdD p1.m.Actions t2202 z_Action).Write)), .v (.int .i64 ((rdD p1.m.Actions t2202 z_Action).Move)), .v (.int .i64 ((rdD p1.m.Actions t2202 z_Action).Next))] [0, 1, 5, 19] [(0, (.pointer (some ⟨g_p0, 0, none⟩))), (1, (.pointer (some ⟨g_p1, 0, none⟩))), (5, (.slice none 0 0)), (19, (.agg #[(.int .i64 ((rdD p1.m.Actions t2202 z_Action).Write)), (.int .i64 ((rdD p1.m.Actions t2202 z_Action).Move)), (.int .i64 ((rdD p1.m.Actions t2202 z_Action).Next))]))] [.idx A_p1_m_Actions t2202 p1.m.Actions.length, .cell ((adr A_p1_m_Actions).add ((t2202).toNat * 3)) (.int .i64 ((rdD p1.m.Actions t2202 z_Action).Write)), .cell (((adr A_p1_m_Actions).add ((t2202).toNat * 3)).add 1) (.int .i64 ((rdD p1.m.Actions t2202 z_Action).Move)), .cell (((adr A_p1_m_Actions).add ((t2202).toNat * 3)).add 2) (.int .i64 ((rdD p1.m.Actions t2202 z_Action).Next))] (fun fb => by kernel_rfl) rfl ⟨rowR.adr (hS2206.rd 5).1 h2207.1 h2207.2, rowR.cell (hS2206.rd 5).1 z_Action h2207.1 h2207.2 0 rfl, rowR.cell (hS2206.rd 5).1 z_Action h2207.1 h2207.2 1 rfl, rowR.cell (hS2206.rd 5).1 z_Action h2207.1 h2207.2 2 rfl, trivial⟩ ?_
      refine WL.new hS2206 6 [] (fun g => (.pointer (some ⟨g, 0, none⟩))) (.cells #[(.int .i64 0), (.int .i64 0), (.int .i64 0)] 88 (0, 0)) [] (fun fb g => by kernel_rfl) trivial (fun g2208 w2209 hS2210 => ?_)
      refine ⟨⟨blk_cell (hS2210.rd 4).1 2 rfl, trivial⟩, ?_⟩
      refine WL.store hS2210 0 rfl [(0, (.int .i64 ((rdD p1.m.Actions t2202 z_Action).Write))), (1, (.int .i64 ((rdD p1.m.Actions t2202 z_Action).Move))), (2, (.int .i64 ((rdD p1.m.Actions t2202 z_Action).Next)))] #[(.int .i64 ((rdD p1.m.Actions t2202 z_Action).Write)), (.int .i64 ((rdD p1.m.Actions t2202 z_Action).Move)), (.int .i64 ((rdD p1.m.Actions t2202 z_Action).Next))] (fun fb => by kernel_rfl) (by kernel_rfl) rfl [] (by decide) (by decide) (fun w2212 hS2213 => ?_)
      refine ⟨trivial, ?_⟩
      refine WL.done rfl ?_
      injection hx2199 with hx2199
      exact WX.to Kx2198 (((rdD p1.m.Actions t2202 z_Action).Write, (rdD p1.m.Actions t2202 z_Action).Move, (rdD p1.m.Actions t2202 z_Action).Next), g2208) [0, 1, 5, 6] rfl ⟨(hS2213.subR [0, 1, 2, 3, 4, 5, 6]).sub [0] (by decide), hx2199.symm⟩
    ·
      refine segF 6 [.v (.slice A_p1_m_Actions p1.m.Actions.length c_p1_m_Actions)] [0, 1, 5, 15, 16] [(0, (.pointer (some ⟨g_p0, 0, none⟩))), (1, (.pointer (some ⟨g_p1, 0, none⟩))), (5, (.slice none 0 0)), (15, (.slice A_p1_m_Actions p1.m.Actions.length c_p1_m_Actions)), (16, (.pointer (some ⟨g_p1, 0, none⟩)))] [] [0] [(4, ⟨g_p1, 2, none⟩, (.slice A_p1_m_Actions p1.m.Actions.length c_p1_m_Actions))] (fun fb => by kernel_rfl) rfl trivial rfl ?_
      obtain ⟨t2214, ht2215, hx2199⟩ := bind_some hx2199
      refine WL.call (some 17) 63 #[(.pointer (some ⟨g_p1, 0, none⟩))] (fun fb => by kernel_rfl) (machine_runner_does_calls p1 g_p1 A_p1_m_Actions c_p1_m_Actions A_p1_Config_Cells c_p1_Config_Cells t2214 _ (hS2201.rd 4) (hS2201.rd 5) (hS2201.rd 6) ht2215) (fun v w2216 hR2217 => ?_)
      obtain ⟨rfl, hk_⟩ := hR2217
      have hS2218 := hS2201.keepN hk_
      refine ⟨⟨blk_cell (hS2218.rd 4).1 2 rfl, trivial⟩, ?_⟩
      obtain ⟨h2219, hx2199⟩ := as_some hx2199
      refine seg 8 [] [0, 1, 5, 18] [(0, (.pointer (some ⟨g_p0, 0, none⟩))), (1, (.pointer (some ⟨g_p1, 0, none⟩))), (5, (.slice none 0 0)), (18, (.pointer (some ((adr A_p1_m_Actions).add ((t2214).toNat * 3)))))] [.idx A_p1_m_Actions t2214 p1.m.Actions.length] (fun fb => by kernel_rfl) rfl ⟨rowR.adr (hS2218.rd 5).1 h2219.1 h2219.2, trivial⟩ ?_
      refine WL.new hS2218 6 [] (fun g => (.pointer (some ⟨g, 0, none⟩))) (.cells #[(.int .i64 0), (.int .i64 0), (.int .i64 0)] 88 (0, 0)) [] (fun fb g => by kernel_rfl) trivial (fun g2220 w2221 hS2222 => ?_)
      refine ⟨⟨blk_cell (hS2222.rd 4).1 2 rfl, trivial⟩, ?_⟩
      refine seg 10 [.v (.int .i64 ((rdD p1.m.Actions t2214 z_Action).Write)), .v (.int .i64 ((rdD p1.m.Actions t2214 z_Action).Move)), .v (.int .i64 ((rdD p1.m.Actions t2214 z_Action).Next))] [0, 1, 5, 6, 19] [(0, (.pointer (some ⟨g_p0, 0, none⟩))), (1, (.pointer (some ⟨g_p1, 0, none⟩))), (5, (.slice none 0 0)), (6, (.pointer (some ⟨g2220, 0, none⟩))), (19, (.agg #[(.int .i64 ((rdD p1.m.Actions t2214 z_Action).Write)), (.int .i64 ((rdD p1.m.Actions t2214 z_Action).Move)), (.int .i64 ((rdD p1.m.Actions t2214 z_Action).Next))]))] [.cell ((adr A_p1_m_Actions).add ((t2214).toNat * 3)) (.int .i64 ((rdD p1.m.Actions t2214 z_Action).Write)), .cell (((adr A_p1_m_Actions).add ((t2214).toNat * 3)).add 1) (.int .i64 ((rdD p1.m.Actions t2214 z_Action).Move)), .cell (((adr A_p1_m_Actions).add ((t2214).toNat * 3)).add 2) (.int .i64 ((rdD p1.m.Actions t2214 z_Action).Next))] (fun fb => by kernel_rfl) rfl ⟨rowR.cell (hS2222.rd 5).1 z_Action h2219.1 h2219.2 0 rfl, rowR.cell (hS2222.rd 5).1 z_Action h2219.1 h2219.2 1 rfl, rowR.cell (hS2222.rd 5).1 z_Action h2219.1 h2219.2 2 rfl, trivial⟩ ?_
      refine WL.store hS2222 0 rfl [(0, (.int .i64 ((rdD p1.m.Actions t2214 z_Action).Write))), (1, (.int .i64 ((rdD p1.m.Actions t2214 z_Action).Move))), (2, (.int .i64 ((rdD p1.m.Actions t2214 z_Action).Next)))] #[(.int .i64 ((rdD p1.m.Actions t2214 z_Action).Write)), (.int .i64 ((rdD p1.m.Actions t2214 z_Action).Move)), (.int .i64 ((rdD p1.m.Actions t2214 z_Action).Next))] (fun fb => by kernel_rfl) (by kernel_rfl) rfl [] (by decide) (by decide) (fun w2224 hS2225 => ?_)
      refine ⟨trivial, ?_⟩
      refine WL.done rfl ?_
      injection hx2199 with hx2199
      exact WX.to Kx2198 (((rdD p1.m.Actions t2214 z_Action).Write, (rdD p1.m.Actions t2214 z_Action).Move, (rdD p1.m.Actions t2214 z_Action).Next), g2220) [0, 1, 5, 6] rfl ⟨(hS2225.subR [0, 1, 2, 3, 4, 5, 6]).sub [0] (by decide), hx2199.symm⟩
    refine segF 6 [.v (.slice A_p1_m_Actions p1.m.Actions.length c_p1_m_Actions)] [0, 1, 5, 15, 16] [(0, (.pointer (some ⟨g_p0, 0, none⟩))), (1, (.pointer (some ⟨g_p1, 0, none⟩))), (5, (.slice none 0 0)), (15, (.slice A_p1_m_Actions p1.m.Actions.length c_p1_m_Actions)), (16, (.pointer (some ⟨g_p1, 0, none⟩)))] [] [0] [(4, ⟨g_p1, 2, none⟩, (.slice A_p1_m_Actions p1.m.Actions.length c_p1_m_Actions))] (fun fb => by kernel_rfl) rfl trivial rfl ?_
    refine WL.new hS2201 6 [] (fun g => (.pointer (some ⟨g, 0, none⟩))) (.cells #[(.int .i64 0), (.int .i64 0), (.int .i64 0)] 88 (0, 0)) [] (fun fb g => by kernel_rfl) trivial (fun g2226 w2227 hS2228 => ?_)
    refine ⟨⟨blk_cell (hS2228.rd 4).1 2 rfl, trivial⟩, ?_⟩
    obtain ⟨t2230, ht2231, hx2199⟩ := bind_some hx2199
    refine WL.call (some 17) 63 #[(.pointer (some ⟨g_p1, 0, none⟩))] (fun fb => by kernel_rfl) (machine_runner_does_calls p1 g_p1 A_p1_m_Actions c_p1_m_Actions A_p1_Config_Cells c_p1_Config_Cells t2230 _ (hS2228.rd 4) (hS2228.rd 5) (hS2228.rd 6) ht2231) (fun v w2232 hR2233 => ?_)
    obtain ⟨rfl, hk_⟩ := hR2233
    have hS2234 := hS2228.keepN hk_
    refine ⟨⟨blk_cell (hS2234.rd 4).1 2 rfl, trivial⟩, ?_⟩
    obtain ⟨h2235, hx2199⟩ := as_some hx2199
    refine seg 10 [.v (.int .i64 ((rdD p1.m.Actions t2230 z_Action).Write)), .v (.int .i64 ((rdD p1.m.Actions t2230 z_Action).Move)), .v (.int .i64 ((rdD p1.m.Actions t2230 z_Action).Next))] [0, 1, 5, 6, 19] [(0, (.pointer (some ⟨g_p0, 0, none⟩))), (1, (.pointer (some ⟨g_p1, 0, none⟩))), (5, (.slice none 0 0)), (6, (.pointer (some ⟨g2226, 0, none⟩))), (19, (.agg #[(.int .i64 ((rdD p1.m.Actions t2230 z_Action).Write)), (.int .i64 ((rdD p1.m.Actions t2230 z_Action).Move)), (.int .i64 ((rdD p1.m.Actions t2230 z_Action).Next))]))] [.idx A_p1_m_Actions t2230 p1.m.Actions.length, .cell ((adr A_p1_m_Actions).add ((t2230).toNat * 3)) (.int .i64 ((rdD p1.m.Actions t2230 z_Action).Write)), .cell (((adr A_p1_m_Actions).add ((t2230).toNat * 3)).add 1) (.int .i64 ((rdD p1.m.Actions t2230 z_Action).Move)), .cell (((adr A_p1_m_Actions).add ((t2230).toNat * 3)).add 2) (.int .i64 ((rdD p1.m.Actions t2230 z_Action).Next))] (fun fb => by kernel_rfl) rfl ⟨rowR.adr (hS2234.rd 5).1 h2235.1 h2235.2, rowR.cell (hS2234.rd 5).1 z_Action h2235.1 h2235.2 0 rfl, rowR.cell (hS2234.rd 5).1 z_Action h2235.1 h2235.2 1 rfl, rowR.cell (hS2234.rd 5).1 z_Action h2235.1 h2235.2 2 rfl, trivial⟩ ?_
    refine WL.store hS2234 0 rfl [(0, (.int .i64 ((rdD p1.m.Actions t2230 z_Action).Write))), (1, (.int .i64 ((rdD p1.m.Actions t2230 z_Action).Move))), (2, (.int .i64 ((rdD p1.m.Actions t2230 z_Action).Next)))] #[(.int .i64 ((rdD p1.m.Actions t2230 z_Action).Write)), (.int .i64 ((rdD p1.m.Actions t2230 z_Action).Move)), (.int .i64 ((rdD p1.m.Actions t2230 z_Action).Next))] (fun fb => by kernel_rfl) (by kernel_rfl) rfl [] (by decide) (by decide) (fun w2236 hS2237 => ?_)
    refine ⟨trivial, ?_⟩
    refine WL.done rfl ?_
    injection hx2199 with hx2199
    exact WX.to Kx2198 (((rdD p1.m.Actions t2230 z_Action).Write, (rdD p1.m.Actions t2230 z_Action).Move, (rdD p1.m.Actions t2230 z_Action).Next), g2226) [0, 1, 5, 6] rfl ⟨(hS2237.subR [0, 1, 2, 3, 4, 5, 6]).sub [0] (by decide), hx2199.symm⟩
  rintro ⟨y2241, g2194⟩ w2238 ⟨hS2239, hq2240⟩
  subst hq2240
  refine WX.next ?_
  refine WC.seq ?_
  refine WC.regionD ([(4, ⟨g_p1, 4, none⟩, (.int .i64 p1.Config.At)), (6, ⟨g2194, 1, none⟩, (.int .i64 x2198.2.1))], [0, 1, 2, 3, 4, 5, 6, 7, 8, 9, 10], [[], [0], [0, 1], [0, 1, 2], [0, 1, 2, 3], [], [5], [5, 6], [0, 1, 2, 3, 4, 5, 6, 7], [0, 1, 2, 3, 4, 5, 6, 7, 8], [0, 1, 2, 3, 4, 5, 6, 7, 8, 9]]) [[0, 1, 2, 3, 4, 5, 6, 7, 8, 9, 10]] (by kernel_rfl) (by kernel_rfl) (NoPanic.seq (NoPanic.body)) ?_
  have hS2243 := hS2239.drew
  revert hS2243
  generalize World.drew w2238 = w2242
  intro hS2243
  refine ⟨⟨blk_cell (hS2243.rd 4).1 4 rfl, hS2243.cell 0 rfl 1 rfl, trivial⟩, forallC ?_ (forallN)⟩
  refine segF 11 [.v (.int .i64 p1.Config.At), .v (.int .i64 x2198.2.1)] [0, 1, 5, 6, 7] [(0, (.pointer (some ⟨g_p0, 0, none⟩))), (1, (.pointer (some ⟨g_p1, 0, none⟩))), (5, (.slice none 0 0)), (6, (.pointer (some ⟨g2194, 0, none⟩))), (7, (.int .i64 (w64 ((w64 (p1.Config.At + (w64 (2 * x2198.2.1)))) - 1))))] [] [0, 1] [(4, ⟨g_p1, 4, none⟩, (.int .i64 p1.Config.At)), (6, ⟨g2194, 1, none⟩, (.int .i64 x2198.2.1))] (fun fb => by kernel_rfl) rfl trivial rfl ?_
  refine WL.done rfl ?_
  refine WX.next ?_
  refine WC.seq ?_
  refine WC.seq ?_
  refine WC.region ?_
  refine seg 7 [.v (.slice A_p1_Config_Cells p1.Config.Cells.length c_p1_Config_Cells)] [0, 1, 5, 6, 7, 34, 35, 36] [(0, (.pointer (some ⟨g_p0, 0, none⟩))), (1, (.pointer (some ⟨g_p1, 0, none⟩))), (5, (.slice none 0 0)), (6, (.pointer (some ⟨g2194, 0, none⟩))), (7, (.int .i64 (w64 ((w64 (p1.Config.At + (w64 (2 * x2198.2.1)))) - 1)))), (34, (.slice A_p1_Config_Cells p1.Config.Cells.length c_p1_Config_Cells)), (35, (.int .i64 (p1.Config.Cells.length : Int))), (36, (.int .i64 0))] [.cell ⟨g_p1, 5, none⟩ (.slice A_p1_Config_Cells p1.Config.Cells.length c_p1_Config_Cells)] (fun fb => by kernel_rfl) rfl ⟨blk_cell (hS2243.rd 4).1 5 rfl, trivial⟩ ?_
  refine WL.done rfl ?_
  refine WX.next ?_
  have hS2400 := hS2243.nilrow 3 encInt
  obtain ⟨x2408, hx2409, hf⟩ := bind_some hf
  refine WC.cutN (T := (List Int) × (Option Addr) × Nat) (fun t => [(5, (.slice t.2.1 t.1.length t.2.2))]) (fun t w1 => St NoS w w1 [blk g_p0 (.cells #[(.int .i64 p0.m.States), (.int .i64 p0.m.Symbols), (.slice A_p0_m_Actions p0.m.Actions.length c_p0_m_Actions), (.slice A_p0_set p0.set.length c_p0_set), (.slice A_p0_does p0.does.length c_p0_does), (.int .i64 p0.base)] 96 (0, 0)), rowR enc_Action A_p0_m_Actions c_p0_m_Actions p0.m.Actions, rowR enc_Tile A_p0_set c_p0_set p0.set, rowR encInt A_p0_does c_p0_does p0.does, blk g_p1 (.cells #[(.int .i64 p1.m.States), (.int .i64 p1.m.Symbols), (.slice A_p1_m_Actions p1.m.Actions.length c_p1_m_Actions), (.int .i64 p1.Config.State), (.int .i64 p1.Config.At), (.slice A_p1_Config_Cells p1.Config.Cells.length c_p1_Config_Cells)] 82 (0, 0)), rowR enc_Action A_p1_m_Actions c_p1_m_Actions p1.m.Actions, rowR encInt A_p1_Config_Cells c_p1_Config_Cells p1.Config.Cells] [rowO 3 encInt t.2.1 t.2.2 t.1] ∧ x2408 = t.1) (fun Kx2408 => ?_) ?_
  ·
    refine WC.block ?_
    refine WC.loop (T := ((List Int) × Int) × (Option Addr) × Nat) (fun t => [(0, (.pointer (some ⟨g_p0, 0, none⟩))), (1, (.pointer (some ⟨g_p1, 0, none⟩))), (5, (.slice t.2.1 t.1.1.length t.2.2)), (6, (.pointer (some ⟨g2194, 0, none⟩))), (7, (.int .i64 (w64 ((w64 (p1.Config.At + (w64 (2 * x2198.2.1)))) - 1)))), (34, (.slice A_p1_Config_Cells p1.Config.Cells.length c_p1_Config_Cells)), (35, (.int .i64 (p1.Config.Cells.length : Int))), (36, (.int .i64 t.1.2))]) (fun n t w1 => St NoS w w1 [blk g_p0 (.cells #[(.int .i64 p0.m.States), (.int .i64 p0.m.Symbols), (.slice A_p0_m_Actions p0.m.Actions.length c_p0_m_Actions), (.slice A_p0_set p0.set.length c_p0_set), (.slice A_p0_does p0.does.length c_p0_does), (.int .i64 p0.base)] 96 (0, 0)), rowR enc_Action A_p0_m_Actions c_p0_m_Actions p0.m.Actions, rowR enc_Tile A_p0_set c_p0_set p0.set, rowR encInt A_p0_does c_p0_does p0.does, blk g_p1 (.cells #[(.int .i64 p1.m.States), (.int .i64 p1.m.Symbols), (.slice A_p1_m_Actions p1.m.Actions.length c_p1_m_Actions), (.int .i64 p1.Config.State), (.int .i64 p1.Config.At), (.slice A_p1_Config_Cells p1.Config.Cells.length c_p1_Config_Cells)] 82 (0, 0)), rowR enc_Action A_p1_m_Actions c_p1_m_Actions p1.m.Actions, rowR encInt A_p1_Config_Cells c_p1_Config_Cells p1.Config.Cells] [rowO 3 encInt t.2.1 t.2.2 t.1.1, blk g2194 (.cells #[(.int .i64 x2198.1), (.int .i64 x2198.2.1), (.int .i64 x2198.2.2)] 88 (0, 0))] ∧ machine_kit_row.l0 n t.1.1 t.1.2 p0 p1 x2198 = some x2408) k ((([] : List Int), 0), none, 0) [0, 1, 5, 6, 7, 34, 35, 36] rfl ⟨(hS2400.subR [0, 1, 2, 3, 4, 5, 6]).sub [0, 1] (by decide), hx2409⟩ ?_
    rintro k2410 ⟨⟨l2403, x2404⟩, A2401, c2402⟩ w2411 ⟨hS2412, hl2413⟩
    cases k2410 with
    | zero => rw [machine_kit_row.l0] at hl2413; cases hl2413
    | succ k2410 =>
      rw [machine_kit_row.l0] at hl2413
      refine WC.seq ?_
      refine WC.region ?_
      refine seg 1 [] [0, 1, 5, 6, 7, 34, 35, 36, 37] [(0, (.pointer (some ⟨g_p0, 0, none⟩))), (1, (.pointer (some ⟨g_p1, 0, none⟩))), (5, (.slice A2401 l2403.length c2402)), (6, (.pointer (some ⟨g2194, 0, none⟩))), (7, (.int .i64 (w64 ((w64 (p1.Config.At + (w64 (2 * x2198.2.1)))) - 1)))), (34, (.slice A_p1_Config_Cells p1.Config.Cells.length c_p1_Config_Cells)), (35, (.int .i64 (p1.Config.Cells.length : Int))), (36, (.int .i64 x2404)), (37, (.bool (decide (x2404 < (p1.Config.Cells.length : Int)))))] [] (fun fb => by kernel_rfl) rfl trivial ?_
      refine WL.done rfl ?_
      refine WX.next ?_
      refine WC.seq ?_
      rcases br_some hl2413 with ⟨h2414, hl2413⟩ | ⟨h2414, hl2413⟩
      · refine WC.condT2 (fun fb => by kernel_rfl) h2414 ?_
        refine WC.skip ?_
        refine WX.next ?_
        refine WC.seq ?_
        refine WC.block ?_
        refine WC.seq ?_
        refine WC.region ?_
        refine seg 1 [] [0, 1, 5, 6, 7, 34, 35, 36, 38] [(0, (.pointer (some ⟨g_p0, 0, none⟩))), (1, (.pointer (some ⟨g_p1, 0, none⟩))), (5, (.slice A2401 l2403.length c2402)), (6, (.pointer (some ⟨g2194, 0, none⟩))), (7, (.int .i64 (w64 ((w64 (p1.Config.At + (w64 (2 * x2198.2.1)))) - 1)))), (34, (.slice A_p1_Config_Cells p1.Config.Cells.length c_p1_Config_Cells)), (35, (.int .i64 (p1.Config.Cells.length : Int))), (36, (.int .i64 x2404)), (38, (.int .i64 x2404))] [] (fun fb => by kernel_rfl) rfl trivial ?_
        obtain ⟨h2415, hl2413⟩ := as_some hl2413
        refine seg 5 [.v (.int .i64 (rdD p1.Config.Cells x2404 0))] [0, 1, 5, 6, 7, 8, 9, 34, 35, 36] [(0, (.pointer (some ⟨g_p0, 0, none⟩))), (1, (.pointer (some ⟨g_p1, 0, none⟩))), (5, (.slice A2401 l2403.length c2402)), (6, (.pointer (some ⟨g2194, 0, none⟩))), (7, (.int .i64 (w64 ((w64 (p1.Config.At + (w64 (2 * x2198.2.1)))) - 1)))), (8, (.int .i64 x2404)), (9, (.int .i64 (rdD p1.Config.Cells x2404 0))), (34, (.slice A_p1_Config_Cells p1.Config.Cells.length c_p1_Config_Cells)), (35, (.int .i64 (p1.Config.Cells.length : Int))), (36, (.int .i64 x2404))] [.idx A_p1_Config_Cells x2404 p1.Config.Cells.length, .cell ((adr A_p1_Config_Cells).add ((x2404).toNat * 1)) (.int .i64 (rdD p1.Config.Cells x2404 0))] (fun fb => by kernel_rfl) rfl ⟨rowR.adr (hS2412.rd 6).1 h2415.1 h2415.2, rowR.cell (hS2412.rd 6).1 0 h2415.1 h2415.2 0 rfl, trivial⟩ ?_
        refine WL.done rfl ?_
        refine WX.next ?_
        refine WC.seq ?_
        refine WC.region ?_
        refine seg 2 [] [0, 1, 5, 6, 7, 8, 9, 10, 34, 35, 36] [(0, (.pointer (some ⟨g_p0, 0, none⟩))), (1, (.pointer (some ⟨g_p1, 0, none⟩))), (5, (.slice A2401 l2403.length c2402)), (6, (.pointer (some ⟨g2194, 0, none⟩))), (7, (.int .i64 (w64 ((w64 (p1.Config.At + (w64 (2 * x2198.2.1)))) - 1)))), (8, (.int .i64 x2404)), (9, (.int .i64 (rdD p1.Config.Cells x2404 0))), (10, (.int .i64 (rdD p1.Config.Cells x2404 0))), (34, (.slice A_p1_Config_Cells p1.Config.Cells.length c_p1_Config_Cells)), (35, (.int .i64 (p1.Config.Cells.length : Int))), (36, (.int .i64 x2404))] [] (fun fb => by kernel_rfl) rfl trivial ?_
        refine WL.done rfl ?_
        refine WX.next ?_
        refine WC.seq ?_
        refine WC.seq ?_
        refine WC.region ?_
        refine seg 1 [] [0, 1, 5, 6, 7, 9, 10, 34, 35, 36, 42] [(0, (.pointer (some ⟨g_p0, 0, none⟩))), (1, (.pointer (some ⟨g_p1, 0, none⟩))), (5, (.slice A2401 l2403.length c2402)), (6, (.pointer (some ⟨g2194, 0, none⟩))), (7, (.int .i64 (w64 ((w64 (p1.Config.At + (w64 (2 * x2198.2.1)))) - 1)))), (9, (.int .i64 (rdD p1.Config.Cells x2404 0))), (10, (.int .i64 (rdD p1.Config.Cells x2404 0))), (34, (.slice A_p1_Config_Cells p1.Config.Cells.length c_p1_Config_Cells)), (35, (.int .i64 (p1.Config.Cells.length : Int))), (36, (.int .i64 x2404)), (42, (.int .i64 x2404))] [] (fun fb => by kernel_rfl) rfl trivial ?_
        refine WL.done rfl ?_
        refine WX.next ?_
        refine WC.block ?_
        refine WC.seq ?_
        refine WC.region ?_
        refine seg 7 [.v (.int .i64 p1.Config.At)] [0, 1, 5, 6, 7, 9, 10, 34, 35, 36, 42, 43] [(0, (.pointer (some ⟨g_p0, 0, none⟩))), (1, (.pointer (some ⟨g_p1, 0, none⟩))), (5, (.slice A2401 l2403.length c2402)), (6, (.pointer (some ⟨g2194, 0, none⟩))), (7, (.int .i64 (w64 ((w64 (p1.Config.At + (w64 (2 * x2198.2.1)))) - 1)))), (9, (.int .i64 (rdD p1.Config.Cells x2404 0))), (10, (.int .i64 (rdD p1.Config.Cells x2404 0))), (34, (.slice A_p1_Config_Cells p1.Config.Cells.length c_p1_Config_Cells)), (35, (.int .i64 (p1.Config.Cells.length : Int))), (36, (.int .i64 x2404)), (42, (.int .i64 x2404)), (43, (.bool (x2404 == p1.Config.At)))] [.cell ⟨g_p1, 4, none⟩ (.int .i64 p1.Config.At)] (fun fb => by kernel_rfl) rfl ⟨blk_cell (hS2412.rd 4).1 4 rfl, trivial⟩ ?_
        refine WL.done rfl ?_
        refine WX.next ?_
        obtain ⟨x2445, hx2446, hl2413⟩ := bind_some hl2413
        refine WC.cutN (T := Int) (fun t => [(0, (.pointer (some ⟨g_p0, 0, none⟩))), (1, (.pointer (some ⟨g_p1, 0, none⟩))), (5, (.slice A2401 l2403.length c2402)), (6, (.pointer (some ⟨g2194, 0, none⟩))), (7, (.int .i64 (w64 ((w64 (p1.Config.At + (w64 (2 * x2198.2.1)))) - 1)))), (10, (.int .i64 t)), (34, (.slice A_p1_Config_Cells p1.Config.Cells.length c_p1_Config_Cells)), (35, (.int .i64 (p1.Config.Cells.length : Int))), (36, (.int .i64 x2404))]) (fun t w1 => St NoS w w1 [blk g_p0 (.cells #[(.int .i64 p0.m.States), (.int .i64 p0.m.Symbols), (.slice A_p0_m_Actions p0.m.Actions.length c_p0_m_Actions), (.slice A_p0_set p0.set.length c_p0_set), (.slice A_p0_does p0.does.length c_p0_does), (.int .i64 p0.base)] 96 (0, 0)), rowR enc_Action A_p0_m_Actions c_p0_m_Actions p0.m.Actions, rowR enc_Tile A_p0_set c_p0_set p0.set, rowR encInt A_p0_does c_p0_does p0.does, blk g_p1 (.cells #[(.int .i64 p1.m.States), (.int .i64 p1.m.Symbols), (.slice A_p1_m_Actions p1.m.Actions.length c_p1_m_Actions), (.int .i64 p1.Config.State), (.int .i64 p1.Config.At), (.slice A_p1_Config_Cells p1.Config.Cells.length c_p1_Config_Cells)] 82 (0, 0)), rowR enc_Action A_p1_m_Actions c_p1_m_Actions p1.m.Actions, rowR encInt A_p1_Config_Cells c_p1_Config_Cells p1.Config.Cells] [rowO 3 encInt A2401 c2402 l2403, blk g2194 (.cells #[(.int .i64 x2198.1), (.int .i64 x2198.2.1), (.int .i64 x2198.2.2)] 88 (0, 0))] ∧ x2445 = t) (fun Kx2445 => ?_) ?_
        ·
          rcases br_some hx2446 with ⟨h2447, hx2446⟩ | ⟨h2447, hx2446⟩
          · refine WC.condT2 (fun fb => by kernel_rfl) h2447 ?_
            refine WC.regionD ([(3, ⟨g_p0, 4, none⟩, (.slice A_p0_does p0.does.length c_p0_does))], [0, 1, 2, 3, 4, 6, 8], [[], [0], [0, 1], [0, 1, 2], [], [4], [0, 1, 2, 3, 4, 5], [0, 1, 2, 3, 4, 5, 6], [0, 1, 2, 3, 4, 5, 6, 7]]) [[0, 1, 2, 3, 4, 5, 6, 7, 8]] (by kernel_rfl) (by kernel_rfl) (NoPanic.block (NoPanic.seq (NoPanic.block (NoPanic.seq (NoPanic.seq (NoPanic.block (NoPanic.seq (NoPanic.body)))))))) ?_
            have hS2455 := hS2412.drew
            revert hS2455
            generalize World.drew w2411 = w2454
            intro hS2455
            refine ⟨⟨blk_cell (hS2455.rd 0).1 4 rfl, trivial⟩, forallC ?_ (forallN)⟩
            refine segF 5 [.v (.slice A_p0_does p0.does.length c_p0_does)] [0, 1, 5, 6, 7, 34, 35, 36, 53, 54] [(0, (.pointer (some ⟨g_p0, 0, none⟩))), (1, (.pointer (some ⟨g_p1, 0, none⟩))), (5, (.slice A2401 l2403.length c2402)), (6, (.pointer (some ⟨g2194, 0, none⟩))), (7, (.int .i64 (w64 ((w64 (p1.Config.At + (w64 (2 * x2198.2.1)))) - 1)))), (34, (.slice A_p1_Config_Cells p1.Config.Cells.length c_p1_Config_Cells)), (35, (.int .i64 (p1.Config.Cells.length : Int))), (36, (.int .i64 x2404)), (53, (.slice A_p0_does p0.does.length c_p0_does)), (54, (.pointer (some ⟨g_p1, 0, none⟩)))] [] [0] [(3, ⟨g_p0, 4, none⟩, (.slice A_p0_does p0.does.length c_p0_does))] (fun fb => by kernel_rfl) rfl trivial rfl ?_
            obtain ⟨t2456, ht2457, hx2446⟩ := bind_some hx2446
            refine WL.call (some 55) 63 #[(.pointer (some ⟨g_p1, 0, none⟩))] (fun fb => by kernel_rfl) (machine_runner_does_calls p1 g_p1 A_p1_m_Actions c_p1_m_Actions A_p1_Config_Cells c_p1_Config_Cells t2456 _ (hS2455.rd 4) (hS2455.rd 5) (hS2455.rd 6) ht2457) (fun v w2458 hR2459 => ?_)
            obtain ⟨rfl, hk_⟩ := hR2459
            have hS2460 := hS2455.keepN hk_
            refine ⟨⟨blk_cell (hS2460.rd 0).1 4 rfl, trivial⟩, ?_⟩
            obtain ⟨h2461, hx2446⟩ := as_some hx2446
            refine seg 9 [.v (.int .i64 (rdD p0.does t2456 0))] [0, 1, 5, 6, 7, 10, 34, 35, 36] [(0, (.pointer (some ⟨g_p0, 0, none⟩))), (1, (.pointer (some ⟨g_p1, 0, none⟩))), (5, (.slice A2401 l2403.length c2402)), (6, (.pointer (some ⟨g2194, 0, none⟩))), (7, (.int .i64 (w64 ((w64 (p1.Config.At + (w64 (2 * x2198.2.1)))) - 1)))), (10, (.int .i64 (rdD p0.does t2456 0))), (34, (.slice A_p1_Config_Cells p1.Config.Cells.length c_p1_Config_Cells)), (35, (.int .i64 (p1.Config.Cells.length : Int))), (36, (.int .i64 x2404))] [.idx A_p0_does t2456 p0.does.length, .cell ((adr A_p0_does).add ((t2456).toNat * 1)) (.int .i64 (rdD p0.does t2456 0))] (fun fb => by kernel_rfl) rfl ⟨rowR.adr (hS2460.rd 3).1 h2461.1 h2461.2, rowR.cell (hS2460.rd 3).1 0 h2461.1 h2461.2 0 rfl, trivial⟩ ?_
            refine WL.done rfl ?_
            injection hx2446 with hx2446
            exact WX.to Kx2445 (rdD p0.does t2456 0) [0, 1, 5, 6, 7, 10, 34, 35, 36] rfl ⟨(hS2460.subR [0, 1, 2, 3, 4, 5, 6]).sub [0, 1] (by decide), hx2446.symm⟩
          refine WC.condF2 (fun fb => by kernel_rfl) h2447 ?_
          refine WC.seq ?_
          refine WC.region ?_
          refine seg 3 [] [0, 1, 5, 6, 7, 9, 10, 34, 35, 36, 58] [(0, (.pointer (some ⟨g_p0, 0, none⟩))), (1, (.pointer (some ⟨g_p1, 0, none⟩))), (5, (.slice A2401 l2403.length c2402)), (6, (.pointer (some ⟨g2194, 0, none⟩))), (7, (.int .i64 (w64 ((w64 (p1.Config.At + (w64 (2 * x2198.2.1)))) - 1)))), (9, (.int .i64 (rdD p1.Config.Cells x2404 0))), (10, (.int .i64 (rdD p1.Config.Cells x2404 0))), (34, (.slice A_p1_Config_Cells p1.Config.Cells.length c_p1_Config_Cells)), (35, (.int .i64 (p1.Config.Cells.length : Int))), (36, (.int .i64 x2404)), (58, (.bool (x2404 == (w64 ((w64 (p1.Config.At + (w64 (2 * x2198.2.1)))) - 1)))))] [] (fun fb => by kernel_rfl) rfl trivial ?_
          refine WL.done rfl ?_
          refine WX.next ?_
          obtain ⟨x2466, hx2467, hx2446⟩ := bind_some hx2446
          refine WC.cutN (T := Int) (fun t => [(0, (.pointer (some ⟨g_p0, 0, none⟩))), (1, (.pointer (some ⟨g_p1, 0, none⟩))), (5, (.slice A2401 l2403.length c2402)), (6, (.pointer (some ⟨g2194, 0, none⟩))), (7, (.int .i64 (w64 ((w64 (p1.Config.At + (w64 (2 * x2198.2.1)))) - 1)))), (10, (.int .i64 t)), (34, (.slice A_p1_Config_Cells p1.Config.Cells.length c_p1_Config_Cells)), (35, (.int .i64 (p1.Config.Cells.length : Int))), (36, (.int .i64 x2404))]) (fun t w1 => St NoS w w1 [blk g_p0 (.cells #[(.int .i64 p0.m.States), (.int .i64 p0.m.Symbols), (.slice A_p0_m_Actions p0.m.Actions.length c_p0_m_Actions), (.slice A_p0_set p0.set.length c_p0_set), (.slice A_p0_does p0.does.length c_p0_does), (.int .i64 p0.base)] 96 (0, 0)), rowR enc_Action A_p0_m_Actions c_p0_m_Actions p0.m.Actions, rowR enc_Tile A_p0_set c_p0_set p0.set, rowR encInt A_p0_does c_p0_does p0.does, blk g_p1 (.cells #[(.int .i64 p1.m.States), (.int .i64 p1.m.Symbols), (.slice A_p1_m_Actions p1.m.Actions.length c_p1_m_Actions), (.int .i64 p1.Config.State), (.int .i64 p1.Config.At), (.slice A_p1_Config_Cells p1.Config.Cells.length c_p1_Config_Cells)] 82 (0, 0)), rowR enc_Action A_p1_m_Actions c_p1_m_Actions p1.m.Actions, rowR encInt A_p1_Config_Cells c_p1_Config_Cells p1.Config.Cells] [rowO 3 encInt A2401 c2402 l2403, blk g2194 (.cells #[(.int .i64 x2198.1), (.int .i64 x2198.2.1), (.int .i64 x2198.2.2)] 88 (0, 0))] ∧ x2466 = t) (fun Kx2466 => ?_) ?_
          ·
            rcases br_some hx2467 with ⟨h2468, hx2467⟩ | ⟨h2468, hx2467⟩
            · refine WC.condT2 (fun fb => by kernel_rfl) h2468 ?_
              refine WC.regionD ([(3, ⟨g_p0, 5, none⟩, (.int .i64 p0.base)), (5, ⟨g2194, 2, none⟩, (.int .i64 x2198.2.2)), (10, ⟨g_p1, 1, none⟩, (.int .i64 p1.m.Symbols)), (18, ⟨g2194, 1, none⟩, (.int .i64 x2198.2.1))], [0, 1, 2, 3, 4, 5, 6, 7, 8, 9, 10, 11, 12, 13, 14, 15, 16, 17, 18, 19, 20], [[], [0], [0, 1], [0, 1, 2], [], [4], [], [6], [6, 7], [6, 7, 8], [6, 7, 8, 9], [4, 5, 6, 7, 8, 9, 10], [], [4, 5, 6, 7, 8, 9, 10, 11, 12], [4, 5, 6, 7, 8, 9, 10, 11, 12, 13], [0, 1, 2, 3, 4, 5, 6, 7, 8, 9, 10, 11, 12, 13, 14], [0, 1, 2, 3, 4, 5, 6, 7, 8, 9, 10, 11, 12, 13, 14, 15], [], [17], [0, 1, 2, 3, 4, 5, 6, 7, 8, 9, 10, 11, 12, 13, 14, 15, 16, 17, 18], [0, 1, 2, 3, 4, 5, 6, 7, 8, 9, 10, 11, 12, 13, 14, 15, 16, 17, 18, 19]]) [[0, 1, 2, 3, 4, 5, 6, 7, 8, 9, 10, 11, 12, 13, 14, 15, 16, 17, 18, 19, 20]] (by kernel_rfl) (by kernel_rfl) (NoPanic.block (NoPanic.seq (NoPanic.block (NoPanic.seq (NoPanic.seq (NoPanic.block (NoPanic.seq (NoPanic.body)))))))) ?_
              have hS2470 := hS2412.drew
              revert hS2470
              generalize World.drew w2411 = w2469
              intro hS2470
              refine ⟨⟨blk_cell (hS2470.rd 0).1 5 rfl, hS2470.cell 1 rfl 2 rfl, blk_cell (hS2470.rd 4).1 1 rfl, hS2470.cell 1 rfl 1 rfl, trivial⟩, forallC ?_ (forallN)⟩
              refine segF 21 [.v (.int .i64 p0.base), .v (.int .i64 x2198.2.2), .v (.int .i64 p1.m.Symbols), .v (.int .i64 x2198.2.1)] [0, 1, 5, 6, 7, 10, 34, 35, 36] [(0, (.pointer (some ⟨g_p0, 0, none⟩))), (1, (.pointer (some ⟨g_p1, 0, none⟩))), (5, (.slice A2401 l2403.length c2402)), (6, (.pointer (some ⟨g2194, 0, none⟩))), (7, (.int .i64 (w64 ((w64 (p1.Config.At + (w64 (2 * x2198.2.1)))) - 1)))), (10, (.int .i64 (w64 ((w64 ((w64 (p0.base + (w64 (2 * (w64 ((w64 (x2198.2.2 * p1.m.Symbols)) + (rdD p1.Config.Cells x2404 0))))))) + 1)) - x2198.2.1)))), (34, (.slice A_p1_Config_Cells p1.Config.Cells.length c_p1_Config_Cells)), (35, (.int .i64 (p1.Config.Cells.length : Int))), (36, (.int .i64 x2404))] [] [0, 1, 2, 3] [(3, ⟨g_p0, 5, none⟩, (.int .i64 p0.base)), (5, ⟨g2194, 2, none⟩, (.int .i64 x2198.2.2)), (10, ⟨g_p1, 1, none⟩, (.int .i64 p1.m.Symbols)), (18, ⟨g2194, 1, none⟩, (.int .i64 x2198.2.1))] (fun fb => by kernel_rfl) rfl trivial rfl ?_
              refine WL.done rfl ?_
              injection hx2467 with hx2467
              exact WX.to Kx2466 (w64 ((w64 ((w64 (p0.base + (w64 (2 * (w64 ((w64 (x2198.2.2 * p1.m.Symbols)) + (rdD p1.Config.Cells x2404 0))))))) + 1)) - x2198.2.1)) [0, 1, 5, 6, 7, 10, 34, 35, 36] rfl ⟨(hS2470.subR [0, 1, 2, 3, 4, 5, 6]).sub [0, 1] (by decide), hx2467.symm⟩
            refine WC.condF2 (fun fb => by kernel_rfl) h2468 ?_
            refine WC.skip ?_
            injection hx2467 with hx2467
            exact WX.to Kx2466 (rdD p1.Config.Cells x2404 0) [0, 1, 5, 6, 7, 10, 34, 35, 36] rfl ⟨(hS2412.subR [0, 1, 2, 3, 4, 5, 6]).sub [0, 1] (by decide), hx2467.symm⟩
          rintro y2474 w2471 ⟨hS2472, hq2473⟩
          subst hq2473
          injection hx2446 with hx2446
          exact WX.to Kx2445 x2466 [0, 1, 5, 6, 7, 10, 34, 35, 36] rfl ⟨(hS2472.subR [0, 1, 2, 3, 4, 5, 6]).sub [0, 1] (by decide), hx2446.symm⟩
        rintro y2478 w2475 ⟨hS2476, hq2477⟩
        subst hq2477
        refine WX.blockN (WX.next ?_)
        refine WC.region ?_
        refine seg 2 [] [0, 1, 6, 7, 34, 35, 36, 81, 82] [(0, (.pointer (some ⟨g_p0, 0, none⟩))), (1, (.pointer (some ⟨g_p1, 0, none⟩))), (6, (.pointer (some ⟨g2194, 0, none⟩))), (7, (.int .i64 (w64 ((w64 (p1.Config.At + (w64 (2 * x2198.2.1)))) - 1)))), (34, (.slice A_p1_Config_Cells p1.Config.Cells.length c_p1_Config_Cells)), (35, (.int .i64 (p1.Config.Cells.length : Int))), (36, (.int .i64 x2404)), (81, (.slice A2401 l2403.length c2402)), (82, (.int .i64 x2445))] [] (fun fb => by kernel_rfl) rfl trivial ?_
        refine WL.new hS2476 83 [] (fun g => (.slice (some ⟨g, 0, none⟩) 1 1)) (.cells #[(.int .i64 x2445)] 3 (0, 0)) [] (fun fb g => by kernel_rfl) trivial (fun g2479 w2480 hS2481 => ?_)
        refine ⟨trivial, ?_⟩
        have hS2483 : St NoS w w2480 [blk g_p0 (.cells #[(.int .i64 p0.m.States), (.int .i64 p0.m.Symbols), (.slice A_p0_m_Actions p0.m.Actions.length c_p0_m_Actions), (.slice A_p0_set p0.set.length c_p0_set), (.slice A_p0_does p0.does.length c_p0_does), (.int .i64 p0.base)] 96 (0, 0)), rowR enc_Action A_p0_m_Actions c_p0_m_Actions p0.m.Actions, rowR enc_Tile A_p0_set c_p0_set p0.set, rowR encInt A_p0_does c_p0_does p0.does, blk g_p1 (.cells #[(.int .i64 p1.m.States), (.int .i64 p1.m.Symbols), (.slice A_p1_m_Actions p1.m.Actions.length c_p1_m_Actions), (.int .i64 p1.Config.State), (.int .i64 p1.Config.At), (.slice A_p1_Config_Cells p1.Config.Cells.length c_p1_Config_Cells)] 82 (0, 0)), rowR enc_Action A_p1_m_Actions c_p1_m_Actions p1.m.Actions, rowR encInt A_p1_Config_Cells c_p1_Config_Cells p1.Config.Cells] [rowO 3 encInt (some ⟨g2479, 0, none⟩) 1 [x2445], rowO 3 encInt A2401 c2402 l2403, blk g2194 (.cells #[(.int .i64 x2198.1), (.int .i64 x2198.2.1), (.int .i64 x2198.2.2)] 88 (0, 0))] := hS2481.map1 0 _ (fun h => rowO.ofBlk h rfl (Nat.le_of_ble_eq_true (by kernel_rfl))) (fun _ h => by obtain ⟨_, h1, h2⟩ := h; injection h1 with h1; subst h1; exact h2) [1, 2] (by decide) (by decide)
        obtain ⟨h2484, hl2413⟩ := as_some hl2413
        refine WL.append hS2483 1 (d := 84) (tS := 25) (z := (.int .i64 0)) (bytes := 8) (c2 := 1) rfl (fun fb => by kernel_rfl) (rowO.rd (hS2483.own 0).1) (by kernel_rfl) (by kernel_rfl) rfl (by decide) h2484 (by decide) [0, 2] (by decide) (by decide) (fun A2485 c2486 w2487 hS2488 => ?_)
        refine ⟨trivial, ?_⟩
        refine seg 5 [] [0, 1, 5, 6, 7, 34, 35, 36] [(0, (.pointer (some ⟨g_p0, 0, none⟩))), (1, (.pointer (some ⟨g_p1, 0, none⟩))), (5, (.slice A2485 (l2403 ++ [x2445]).length c2486)), (6, (.pointer (some ⟨g2194, 0, none⟩))), (7, (.int .i64 (w64 ((w64 (p1.Config.At + (w64 (2 * x2198.2.1)))) - 1)))), (34, (.slice A_p1_Config_Cells p1.Config.Cells.length c_p1_Config_Cells)), (35, (.int .i64 (p1.Config.Cells.length : Int))), (36, (.int .i64 x2404))] [] (fun fb => by kernel_rfl) rfl trivial ?_
        refine WL.done rfl ?_
        refine WX.blockN (WX.next ?_)
        refine WC.region ?_
        refine seg 2 [] [0, 1, 5, 6, 7, 34, 35, 36] [(0, (.pointer (some ⟨g_p0, 0, none⟩))), (1, (.pointer (some ⟨g_p1, 0, none⟩))), (5, (.slice A2485 (l2403 ++ [x2445]).length c2486)), (6, (.pointer (some ⟨g2194, 0, none⟩))), (7, (.int .i64 (w64 ((w64 (p1.Config.At + (w64 (2 * x2198.2.1)))) - 1)))), (34, (.slice A_p1_Config_Cells p1.Config.Cells.length c_p1_Config_Cells)), (35, (.int .i64 (p1.Config.Cells.length : Int))), (36, (.int .i64 (w64 (x2404 + 1))))] [] (fun fb => by kernel_rfl) rfl trivial ?_
        refine WL.done rfl ?_
        exact WX.again k2410 (Nat.lt_succ_self _) ((l2403 ++ [x2445], w64 (x2404 + 1)), A2485, c2486) [0, 1, 5, 6, 7, 34, 35, 36] rfl ⟨(hS2488.subR [0, 1, 2, 3, 4, 5, 6]).sub [0, 2] (by decide), hl2413⟩
      refine WC.condF2 (fun fb => by kernel_rfl) h2414 ?_
      refine WC.exit ?_
      injection hl2413 with hl2413
      exact WX.thenX (WX.thenX (WX.blockHere (WX.to Kx2408 (l2403, A2401, c2402) [5] rfl ⟨(hS2412.subR [0, 1, 2, 3, 4, 5, 6]).sub [0] (by decide), hl2413.symm⟩)))
  rintro ⟨y2492, A2405, c2406⟩ w2489 ⟨hS2490, hq2491⟩
  subst hq2491
  refine WX.next ?_
  refine WC.seq ?_
  refine WC.region ?_
  refine seg 2 [] [4] [(4, (.slice A2405 x2408.length c2406))] [] (fun fb => by kernel_rfl) rfl trivial ?_
  refine WL.done rfl ?_
  refine WX.next ?_
  refine WC.ret ?_
  injection hf with hf
  subst hf
  exact WX.ret_ [] (.slice A2405 x2408.length c2406) [] (fun fb => by kernel_rfl) trivial ⟨_, rfl, A2405, c2406, rfl, (hS2490.sub [0] (by decide)).noR⟩
end Gp
