/- Walks: each function of the program computes its plain function. -/
import Derived.Test.YtamnfcbekogkdaaGp
set_option linter.unusedVariables false
set_option linter.unusedSimpArgs false
namespace Gp
open Go Gw Go.Proofs
theorem law08_wide_calls (p0 : Machine) (p1 : Config) (A_p0_Actions : Option Addr) (c_p0_Actions : Nat) (A_p1_Cells : Option Addr) (c_p1_Cells : Nat) (r : Bool) (w : World) (hR0 : RO NoS w (rowR enc_Action A_p0_Actions c_p0_Actions p0.Actions)) (hR1 : RO NoS w (rowR encInt A_p1_Cells c_p1_Cells p1.Cells)) (hf : law08_wide p0 p1 = some r) :
    CallsR Try.prog 10 #[(.agg #[(.int .i64 p0.States), (.int .i64 p0.Symbols), (.slice A_p0_Actions p0.Actions.length c_p0_Actions)]), (.agg #[(.int .i64 p1.State), (.int .i64 p1.At), (.slice A_p1_Cells p1.Cells.length c_p1_Cells)])] w (fun v w' => v = (.bool r) ∧ Keeps NoS w w') := by
  have hS : St NoS w w [rowR enc_Action A_p0_Actions c_p0_Actions p0.Actions, rowR encInt A_p1_Cells c_p1_Cells p1.Cells] [] := St.init (ro_cons hR0 (ro_cons hR1 (ro_nil _ _)))
  refine enter 15 Try.func10 rfl Try.ntmps10 rfl ?_
  unfold law08_wide at hf
  refine WC.seq ?_
  refine WC.region ?_
  refine WL.new hS 2 [] (fun g => (.pointer (some ⟨g, 0, none⟩))) (.cells #[(.int .i64 p0.States), (.int .i64 p0.Symbols), (.slice A_p0_Actions p0.Actions.length c_p0_Actions)] 24 (0, 0)) [] (fun fb g => by kernel_rfl) trivial (fun g9 w10 hS11 => ?_)
  refine ⟨trivial, ?_⟩
  refine WL.new hS11 3 [] (fun g => (.pointer (some ⟨g, 0, none⟩))) (.cells #[(.int .i64 p1.State), (.int .i64 p1.At), (.slice A_p1_Cells p1.Cells.length c_p1_Cells)] 27 (0, 0)) [] (fun fb g => by kernel_rfl) trivial (fun g13 w14 hS15 => ?_)
  refine ⟨trivial, ?_⟩
  refine seg 3 [] [2, 3] [(2, (.pointer (some ⟨g9, 0, none⟩))), (3, (.pointer (some ⟨g13, 0, none⟩)))] [] (fun fb => by kernel_rfl) rfl trivial ?_
  refine WL.done rfl ?_
  refine WX.next ?_
  refine WC.seq ?_
  refine WC.region ?_
  refine seg 5 [.v (.slice A_p0_Actions p0.Actions.length c_p0_Actions)] [3, 9] [(3, (.pointer (some ⟨g13, 0, none⟩))), (9, (.bool (decide ((p0.Actions.length : Int) > 200))))] [.cell ⟨g9, 2, none⟩ (.slice A_p0_Actions p0.Actions.length c_p0_Actions)] (fun fb => by kernel_rfl) rfl ⟨hS15.cell 1 rfl 2 rfl, trivial⟩ ?_
  refine WL.cutV (T := Bool) 10 (fun t => [(14, (.bool t))]) (fun t => t = ((decide ((p0.Actions.length : Int) > 200)) || (decide ((p1.Cells.length : Int) > 1000)))) (fun K => ?_) ?_
  ·
    rcases Bool.eq_false_or_eq_true (decide ((p0.Actions.length : Int) > 200)) with h17 | h17
    ·
      refine WL.setB 9 h17 rfl ?_
      refine seg 10 [] [14] [(14, (.bool true))] [] (fun fb => by kernel_rfl) rfl trivial ?_
      exact WL.toV K true [14] rfl (by rw [h17]; rfl)
    refine WL.setB 9 h17 rfl ?_
    refine seg 10 [.v (.slice A_p1_Cells p1.Cells.length c_p1_Cells)] [14] [(14, (.bool (decide ((p1.Cells.length : Int) > 1000))))] [.cell ⟨g13, 2, none⟩ (.slice A_p1_Cells p1.Cells.length c_p1_Cells)] (fun fb => by kernel_rfl) rfl ⟨hS15.cell 0 rfl 2 rfl, trivial⟩ ?_
    exact WL.toV K (decide ((p1.Cells.length : Int) > 1000)) [14] rfl (by rw [h17]; rfl)
  rintro b18 rfl
  refine seg 11 [] [4] [(4, (.bool ((decide ((p0.Actions.length : Int) > 200)) || (decide ((p1.Cells.length : Int) > 1000)))))] [] (fun fb => by kernel_rfl) rfl trivial ?_
  refine WL.done rfl ?_
  refine WX.next ?_
  refine WC.ret ?_
  injection hf with hf
  subst hf
  exact WX.ret_ [] (.bool ((decide ((p0.Actions.length : Int) > 200)) || (decide ((p1.Cells.length : Int) > 1000)))) [] (fun fb => by kernel_rfl) trivial ⟨_, rfl, rfl, hS15.keep⟩
theorem ref08_Valid_calls (k : Nat) (p0 : Machine) (A_p0_Actions : Option Addr) (c_p0_Actions : Nat) (r : Bool) (w : World) (hR0 : RO NoS w (rowR enc_Action A_p0_Actions c_p0_Actions p0.Actions)) (hf : ref08_Valid k p0 = some r) :
    CallsR Try.prog 17 #[(.agg #[(.int .i64 p0.States), (.int .i64 p0.Symbols), (.slice A_p0_Actions p0.Actions.length c_p0_Actions)])] w (fun v w' => v = (.bool r) ∧ Keeps NoS w w') := by
  have hS : St NoS w w [rowR enc_Action A_p0_Actions c_p0_Actions p0.Actions] [] := St.init (ro_cons hR0 (ro_nil _ _))
  refine enter 93 Try.func17 rfl Try.ntmps17 rfl ?_
  unfold ref08_Valid at hf
  refine WC.seq ?_
  refine WC.region ?_
  refine WL.new hS 1 [] (fun g => (.pointer (some ⟨g, 0, none⟩))) (.cells #[(.int .i64 p0.States), (.int .i64 p0.Symbols), (.slice A_p0_Actions p0.Actions.length c_p0_Actions)] 24 (0, 0)) [] (fun fb g => by kernel_rfl) trivial (fun g32 w33 hS34 => ?_)
  refine ⟨trivial, ?_⟩
  refine seg 2 [] [1] [(1, (.pointer (some ⟨g32, 0, none⟩)))] [] (fun fb => by kernel_rfl) rfl trivial ?_
  refine WL.done rfl ?_
  refine WX.next ?_
  refine WC.seq ?_
  refine WC.seq ?_
  refine WC.region ?_
  refine seg 4 [.v (.int .i64 p0.States)] [1, 8] [(1, (.pointer (some ⟨g32, 0, none⟩))), (8, (.bool (decide (p0.States < 1))))] [.cell ⟨g32, 0, none⟩ (.int .i64 p0.States)] (fun fb => by kernel_rfl) rfl ⟨hS34.cell 0 rfl 0 rfl, trivial⟩ ?_
  refine WL.cutV (T := Bool) 8 (fun t => [(12, (.bool t)), (1, (.pointer (some ⟨g32, 0, none⟩)))]) (fun t => t = ((decide (p0.States < 1)) || (decide (p0.States > 6)))) (fun K => ?_) ?_
  ·
    rcases Bool.eq_false_or_eq_true (decide (p0.States < 1)) with h36 | h36
    ·
      refine WL.setB 8 h36 rfl ?_
      refine seg 8 [] [1, 12] [(1, (.pointer (some ⟨g32, 0, none⟩))), (12, (.bool true))] [] (fun fb => by kernel_rfl) rfl trivial ?_
      exact WL.toV K true [12, 1] rfl (by rw [h36]; rfl)
    refine WL.setB 8 h36 rfl ?_
    refine seg 8 [.v (.int .i64 p0.States)] [1, 12] [(1, (.pointer (some ⟨g32, 0, none⟩))), (12, (.bool (decide (p0.States > 6))))] [.cell ⟨g32, 0, none⟩ (.int .i64 p0.States)] (fun fb => by kernel_rfl) rfl ⟨hS34.cell 0 rfl 0 rfl, trivial⟩ ?_
    exact WL.toV K (decide (p0.States > 6)) [12, 1] rfl (by rw [h36]; rfl)
  rintro b37 rfl
  refine seg 9 [] [1, 13] [(1, (.pointer (some ⟨g32, 0, none⟩))), (13, (.bool ((decide (p0.States < 1)) || (decide (p0.States > 6)))))] [] (fun fb => by kernel_rfl) rfl trivial ?_
  refine WL.cutV (T := Bool) 13 (fun t => [(17, (.bool t)), (1, (.pointer (some ⟨g32, 0, none⟩)))]) (fun t => t = (((decide (p0.States < 1)) || (decide (p0.States > 6))) || (decide (p0.Symbols < 2)))) (fun K => ?_) ?_
  ·
    rcases Bool.eq_false_or_eq_true ((decide (p0.States < 1)) || (decide (p0.States > 6))) with h38 | h38
    ·
      refine WL.setB 13 h38 rfl ?_
      refine seg 13 [] [1, 17] [(1, (.pointer (some ⟨g32, 0, none⟩))), (17, (.bool true))] [] (fun fb => by kernel_rfl) rfl trivial ?_
      exact WL.toV K true [17, 1] rfl (by rw [h38]; rfl)
    refine WL.setB 13 h38 rfl ?_
    refine seg 13 [.v (.int .i64 p0.Symbols)] [1, 17] [(1, (.pointer (some ⟨g32, 0, none⟩))), (17, (.bool (decide (p0.Symbols < 2))))] [.cell ⟨g32, 1, none⟩ (.int .i64 p0.Symbols)] (fun fb => by kernel_rfl) rfl ⟨hS34.cell 0 rfl 1 rfl, trivial⟩ ?_
    exact WL.toV K (decide (p0.Symbols < 2)) [17, 1] rfl (by rw [h38]; rfl)
  rintro b39 rfl
  refine seg 14 [] [1, 18] [(1, (.pointer (some ⟨g32, 0, none⟩))), (18, (.bool (((decide (p0.States < 1)) || (decide (p0.States > 6))) || (decide (p0.Symbols < 2)))))] [] (fun fb => by kernel_rfl) rfl trivial ?_
  refine WL.cutV (T := Bool) 18 (fun t => [(22, (.bool t)), (1, (.pointer (some ⟨g32, 0, none⟩)))]) (fun t => t = ((((decide (p0.States < 1)) || (decide (p0.States > 6))) || (decide (p0.Symbols < 2))) || (decide (p0.Symbols > 4)))) (fun K => ?_) ?_
  ·
    rcases Bool.eq_false_or_eq_true (((decide (p0.States < 1)) || (decide (p0.States > 6))) || (decide (p0.Symbols < 2))) with h40 | h40
    ·
      refine WL.setB 18 h40 rfl ?_
      refine seg 18 [] [1, 22] [(1, (.pointer (some ⟨g32, 0, none⟩))), (22, (.bool true))] [] (fun fb => by kernel_rfl) rfl trivial ?_
      exact WL.toV K true [22, 1] rfl (by rw [h40]; rfl)
    refine WL.setB 18 h40 rfl ?_
    refine seg 18 [.v (.int .i64 p0.Symbols)] [1, 22] [(1, (.pointer (some ⟨g32, 0, none⟩))), (22, (.bool (decide (p0.Symbols > 4))))] [.cell ⟨g32, 1, none⟩ (.int .i64 p0.Symbols)] (fun fb => by kernel_rfl) rfl ⟨hS34.cell 0 rfl 1 rfl, trivial⟩ ?_
    exact WL.toV K (decide (p0.Symbols > 4)) [22, 1] rfl (by rw [h40]; rfl)
  rintro b41 rfl
  refine seg 19 [] [1, 23] [(1, (.pointer (some ⟨g32, 0, none⟩))), (23, (.bool ((((decide (p0.States < 1)) || (decide (p0.States > 6))) || (decide (p0.Symbols < 2))) || (decide (p0.Symbols > 4)))))] [] (fun fb => by kernel_rfl) rfl trivial ?_
  refine WL.cutV (T := Bool) 29 (fun t => [(33, (.bool t)), (1, (.pointer (some ⟨g32, 0, none⟩)))]) (fun t => t = (((((decide (p0.States < 1)) || (decide (p0.States > 6))) || (decide (p0.Symbols < 2))) || (decide (p0.Symbols > 4))) || ((p0.Actions.length : Int) != (w64 (p0.States * p0.Symbols))))) (fun K => ?_) ?_
  ·
    rcases Bool.eq_false_or_eq_true ((((decide (p0.States < 1)) || (decide (p0.States > 6))) || (decide (p0.Symbols < 2))) || (decide (p0.Symbols > 4))) with h42 | h42
    ·
      refine WL.setB 23 h42 rfl ?_
      refine seg 29 [] [1, 33] [(1, (.pointer (some ⟨g32, 0, none⟩))), (33, (.bool true))] [] (fun fb => by kernel_rfl) rfl trivial ?_
      exact WL.toV K true [33, 1] rfl (by rw [h42]; rfl)
    refine WL.setB 23 h42 rfl ?_
    refine seg 29 [.v (.slice A_p0_Actions p0.Actions.length c_p0_Actions), .v (.int .i64 p0.States), .v (.int .i64 p0.Symbols)] [1, 33] [(1, (.pointer (some ⟨g32, 0, none⟩))), (33, (.bool ((p0.Actions.length : Int) != (w64 (p0.States * p0.Symbols)))))] [.cell ⟨g32, 2, none⟩ (.slice A_p0_Actions p0.Actions.length c_p0_Actions), .cell ⟨g32, 0, none⟩ (.int .i64 p0.States), .cell ⟨g32, 1, none⟩ (.int .i64 p0.Symbols)] (fun fb => by kernel_rfl) rfl ⟨hS34.cell 0 rfl 2 rfl, hS34.cell 0 rfl 0 rfl, hS34.cell 0 rfl 1 rfl, trivial⟩ ?_
    exact WL.toV K ((p0.Actions.length : Int) != (w64 (p0.States * p0.Symbols))) [33, 1] rfl (by rw [h42]; rfl)
  rintro b43 rfl
  refine WL.done rfl ?_
  refine WX.next ?_
  rcases br_some hf with ⟨h44, hf⟩ | ⟨h44, hf⟩
  · refine WC.condT2 (fun fb => by kernel_rfl) h44 ?_
    refine WC.seq ?_
    refine WC.region ?_
    refine seg 1 [] [2] [(2, (.bool false))] [] (fun fb => by kernel_rfl) rfl trivial ?_
    refine WL.done rfl ?_
    refine WX.next ?_
    refine WC.ret ?_
    injection hf with hf
    subst hf
    exact WX.thenR (WX.ret_ [] (.bool false) [] (fun fb => by kernel_rfl) trivial ⟨_, rfl, rfl, hS34.keep⟩)
  refine WC.condF2 (fun fb => by kernel_rfl) h44 ?_
  refine WC.skip ?_
  refine WX.next ?_
  refine WC.seq ?_
  refine WC.seq ?_
  refine WC.region ?_
  refine seg 1 [] [1, 3] [(1, (.pointer (some ⟨g32, 0, none⟩))), (3, (.int .i64 0))] [] (fun fb => by kernel_rfl) rfl trivial ?_
  refine WL.done rfl ?_
  refine WX.next ?_
  obtain ⟨x103, hx104, hf⟩ := bind_some hf
  refine WC.cutN (T := Unit) (fun t => []) (fun t w1 => St NoS w w1 [rowR enc_Action A_p0_Actions c_p0_Actions p0.Actions] [] ∧ x103 = .inr t) (fun Kx103 => ?_) ?_
  ·
    refine WC.block ?_
    refine WC.loop (T := Int) (fun t => [(1, (.pointer (some ⟨g32, 0, none⟩))), (3, (.int .i64 t))]) (fun n t w1 => St NoS w w1 [rowR enc_Action A_p0_Actions c_p0_Actions p0.Actions] [blk g32 (.cells #[(.int .i64 p0.States), (.int .i64 p0.Symbols), (.slice A_p0_Actions p0.Actions.length c_p0_Actions)] 24 (0, 0))] ∧ ref08_Valid.l0 n t p0 = some x103) k 0 [1, 3] rfl ⟨(hS34.subR [0]).sub [0] (by decide), hx104⟩ ?_
    rintro k105 x102 w106 ⟨hS107, hl108⟩
    cases k105 with
    | zero => rw [ref08_Valid.l0] at hl108; cases hl108
    | succ k105 =>
      rw [ref08_Valid.l0] at hl108
      refine WC.seq ?_
      refine WC.seq ?_
      refine WC.region ?_
      refine seg 5 [.v (.slice A_p0_Actions p0.Actions.length c_p0_Actions)] [1, 3, 38] [(1, (.pointer (some ⟨g32, 0, none⟩))), (3, (.int .i64 x102)), (38, (.bool (decide (x102 < (p0.Actions.length : Int)))))] [.cell ⟨g32, 2, none⟩ (.slice A_p0_Actions p0.Actions.length c_p0_Actions)] (fun fb => by kernel_rfl) rfl ⟨hS107.cell 0 rfl 2 rfl, trivial⟩ ?_
      refine WL.done rfl ?_
      refine WX.next ?_
      rcases br_some hl108 with ⟨h109, hl108⟩ | ⟨h109, hl108⟩
      · refine WC.condT2 (fun fb => by kernel_rfl) h109 ?_
        refine WC.skip ?_
        refine WX.next ?_
        refine WC.seq ?_
        refine WC.block ?_
        refine WC.seq ?_
        refine WC.region ?_
        refine seg 3 [.v (.slice A_p0_Actions p0.Actions.length c_p0_Actions)] [1, 3, 42, 43] [(1, (.pointer (some ⟨g32, 0, none⟩))), (3, (.int .i64 x102)), (42, (.slice A_p0_Actions p0.Actions.length c_p0_Actions)), (43, (.int .i64 x102))] [.cell ⟨g32, 2, none⟩ (.slice A_p0_Actions p0.Actions.length c_p0_Actions)] (fun fb => by kernel_rfl) rfl ⟨hS107.cell 0 rfl 2 rfl, trivial⟩ ?_
        obtain ⟨h110, hl108⟩ := as_some hl108
        refine seg 5 [.v (.int .i64 ((rdD p0.Actions x102 z_Action).Write)), .v (.int .i64 ((rdD p0.Actions x102 z_Action).Move)), .v (.int .i64 ((rdD p0.Actions x102 z_Action).Next))] [1, 3, 45] [(1, (.pointer (some ⟨g32, 0, none⟩))), (3, (.int .i64 x102)), (45, (.agg #[(.int .i64 ((rdD p0.Actions x102 z_Action).Write)), (.int .i64 ((rdD p0.Actions x102 z_Action).Move)), (.int .i64 ((rdD p0.Actions x102 z_Action).Next))]))] [.idx A_p0_Actions x102 p0.Actions.length, .cell ((adr A_p0_Actions).add ((x102).toNat * 3)) (.int .i64 ((rdD p0.Actions x102 z_Action).Write)), .cell (((adr A_p0_Actions).add ((x102).toNat * 3)).add 1) (.int .i64 ((rdD p0.Actions x102 z_Action).Move)), .cell (((adr A_p0_Actions).add ((x102).toNat * 3)).add 2) (.int .i64 ((rdD p0.Actions x102 z_Action).Next))] (fun fb => by kernel_rfl) rfl ⟨rowR.adr (hS107.rd 0).1 h110.1 h110.2, rowR.cell (hS107.rd 0).1 z_Action h110.1 h110.2 0 rfl, rowR.cell (hS107.rd 0).1 z_Action h110.1 h110.2 1 rfl, rowR.cell (hS107.rd 0).1 z_Action h110.1 h110.2 2 rfl, trivial⟩ ?_
        refine WL.new hS107 4 [] (fun g => (.pointer (some ⟨g, 0, none⟩))) (.cells #[(.int .i64 0), (.int .i64 0), (.int .i64 0)] 88 (0, 0)) [] (fun fb g => by kernel_rfl) trivial (fun g111 w112 hS113 => ?_)
        refine ⟨trivial, ?_⟩
        refine WL.store hS113 0 rfl [(0, (.int .i64 ((rdD p0.Actions x102 z_Action).Write))), (1, (.int .i64 ((rdD p0.Actions x102 z_Action).Move))), (2, (.int .i64 ((rdD p0.Actions x102 z_Action).Next)))] #[(.int .i64 ((rdD p0.Actions x102 z_Action).Write)), (.int .i64 ((rdD p0.Actions x102 z_Action).Move)), (.int .i64 ((rdD p0.Actions x102 z_Action).Next))] (fun fb => by kernel_rfl) (by kernel_rfl) rfl [1] (by decide) (by decide) (fun w115 hS116 => ?_)
        refine ⟨trivial, ?_⟩
        refine WL.done rfl ?_
        refine WX.next ?_
        refine WC.seq ?_
        refine WC.seq ?_
        refine WC.region ?_
        refine seg 4 [.v (.int .i64 ((rdD p0.Actions x102 z_Action).Write))] [1, 3, 4, 49] [(1, (.pointer (some ⟨g32, 0, none⟩))), (3, (.int .i64 x102)), (4, (.pointer (some ⟨g111, 0, none⟩))), (49, (.bool (decide ((rdD p0.Actions x102 z_Action).Write < 0))))] [.cell ⟨g111, 0, none⟩ (.int .i64 ((rdD p0.Actions x102 z_Action).Write))] (fun fb => by kernel_rfl) rfl ⟨hS116.cell 0 rfl 0 rfl, trivial⟩ ?_
        refine WL.cutV (T := Bool) 10 (fun t => [(55, (.bool t)), (1, (.pointer (some ⟨g32, 0, none⟩))), (3, (.int .i64 x102)), (4, (.pointer (some ⟨g111, 0, none⟩)))]) (fun t => t = ((decide ((rdD p0.Actions x102 z_Action).Write < 0)) || (decide ((rdD p0.Actions x102 z_Action).Write ≥ p0.Symbols)))) (fun K => ?_) ?_
        ·
          rcases Bool.eq_false_or_eq_true (decide ((rdD p0.Actions x102 z_Action).Write < 0)) with h117 | h117
          ·
            refine WL.setB 49 h117 rfl ?_
            refine seg 10 [] [1, 3, 4, 55] [(1, (.pointer (some ⟨g32, 0, none⟩))), (3, (.int .i64 x102)), (4, (.pointer (some ⟨g111, 0, none⟩))), (55, (.bool true))] [] (fun fb => by kernel_rfl) rfl trivial ?_
            exact WL.toV K true [55, 1, 3, 4] rfl (by rw [h117]; rfl)
          refine WL.setB 49 h117 rfl ?_
          refine seg 10 [.v (.int .i64 ((rdD p0.Actions x102 z_Action).Write)), .v (.int .i64 p0.Symbols)] [1, 3, 4, 55] [(1, (.pointer (some ⟨g32, 0, none⟩))), (3, (.int .i64 x102)), (4, (.pointer (some ⟨g111, 0, none⟩))), (55, (.bool (decide ((rdD p0.Actions x102 z_Action).Write ≥ p0.Symbols))))] [.cell ⟨g111, 0, none⟩ (.int .i64 ((rdD p0.Actions x102 z_Action).Write)), .cell ⟨g32, 1, none⟩ (.int .i64 p0.Symbols)] (fun fb => by kernel_rfl) rfl ⟨hS116.cell 0 rfl 0 rfl, hS116.cell 1 rfl 1 rfl, trivial⟩ ?_
          exact WL.toV K (decide ((rdD p0.Actions x102 z_Action).Write ≥ p0.Symbols)) [55, 1, 3, 4] rfl (by rw [h117]; rfl)
        rintro b118 rfl
        refine seg 11 [] [1, 3, 4, 56] [(1, (.pointer (some ⟨g32, 0, none⟩))), (3, (.int .i64 x102)), (4, (.pointer (some ⟨g111, 0, none⟩))), (56, (.bool ((decide ((rdD p0.Actions x102 z_Action).Write < 0)) || (decide ((rdD p0.Actions x102 z_Action).Write ≥ p0.Symbols)))))] [] (fun fb => by kernel_rfl) rfl trivial ?_
        refine WL.cutV (T := Bool) 20 (fun t => [(65, (.bool t)), (1, (.pointer (some ⟨g32, 0, none⟩))), (3, (.int .i64 x102)), (4, (.pointer (some ⟨g111, 0, none⟩)))]) (fun t => t = (((decide ((rdD p0.Actions x102 z_Action).Write < 0)) || (decide ((rdD p0.Actions x102 z_Action).Write ≥ p0.Symbols))) || ((((rdD p0.Actions x102 z_Action).Move) != 0) && (((rdD p0.Actions x102 z_Action).Move) != 1)))) (fun K => ?_) ?_
        ·
          rcases Bool.eq_false_or_eq_true ((decide ((rdD p0.Actions x102 z_Action).Write < 0)) || (decide ((rdD p0.Actions x102 z_Action).Write ≥ p0.Symbols))) with h121 | h121
          ·
            refine WL.setB 56 h121 rfl ?_
            refine seg 20 [] [1, 3, 4, 65] [(1, (.pointer (some ⟨g32, 0, none⟩))), (3, (.int .i64 x102)), (4, (.pointer (some ⟨g111, 0, none⟩))), (65, (.bool true))] [] (fun fb => by kernel_rfl) rfl trivial ?_
            exact WL.toV K true [65, 1, 3, 4] rfl (by rw [h121]; rfl)
          refine WL.setB 56 h121 rfl ?_
          refine seg 15 [.v (.int .i64 ((rdD p0.Actions x102 z_Action).Move))] [1, 3, 4, 56, 60] [(1, (.pointer (some ⟨g32, 0, none⟩))), (3, (.int .i64 x102)), (4, (.pointer (some ⟨g111, 0, none⟩))), (56, (.bool false)), (60, (.bool (((rdD p0.Actions x102 z_Action).Move) != 0)))] [.cell ⟨g111, 1, none⟩ (.int .i64 ((rdD p0.Actions x102 z_Action).Move))] (fun fb => by kernel_rfl) rfl ⟨hS116.cell 0 rfl 1 rfl, trivial⟩ ?_
          refine WL.cutV (T := Bool) 19 (fun t => [(64, (.bool t)), (1, (.pointer (some ⟨g32, 0, none⟩))), (3, (.int .i64 x102)), (4, (.pointer (some ⟨g111, 0, none⟩))), (56, (.bool false))]) (fun t => t = ((((rdD p0.Actions x102 z_Action).Move) != 0) && (((rdD p0.Actions x102 z_Action).Move) != 1))) (fun K => ?_) ?_
          ·
            rcases Bool.eq_false_or_eq_true (((rdD p0.Actions x102 z_Action).Move) != 0) with h122 | h122
            ·
              refine WL.setB 60 h122 rfl ?_
              refine seg 19 [.v (.int .i64 ((rdD p0.Actions x102 z_Action).Move))] [1, 3, 4, 56, 64] [(1, (.pointer (some ⟨g32, 0, none⟩))), (3, (.int .i64 x102)), (4, (.pointer (some ⟨g111, 0, none⟩))), (56, (.bool false)), (64, (.bool (((rdD p0.Actions x102 z_Action).Move) != 1)))] [.cell ⟨g111, 1, none⟩ (.int .i64 ((rdD p0.Actions x102 z_Action).Move))] (fun fb => by kernel_rfl) rfl ⟨hS116.cell 0 rfl 1 rfl, trivial⟩ ?_
              exact WL.toV K (((rdD p0.Actions x102 z_Action).Move) != 1) [64, 1, 3, 4, 56] rfl (by rw [h122]; rfl)
            refine WL.setB 60 h122 rfl ?_
            refine seg 19 [] [1, 3, 4, 56, 64] [(1, (.pointer (some ⟨g32, 0, none⟩))), (3, (.int .i64 x102)), (4, (.pointer (some ⟨g111, 0, none⟩))), (56, (.bool false)), (64, (.bool false))] [] (fun fb => by kernel_rfl) rfl trivial ?_
            exact WL.toV K false [64, 1, 3, 4, 56] rfl (by rw [h122]; rfl)
          rintro b123 rfl
          refine seg 20 [] [1, 3, 4, 65] [(1, (.pointer (some ⟨g32, 0, none⟩))), (3, (.int .i64 x102)), (4, (.pointer (some ⟨g111, 0, none⟩))), (65, (.bool ((((rdD p0.Actions x102 z_Action).Move) != 0) && (((rdD p0.Actions x102 z_Action).Move) != 1))))] [] (fun fb => by kernel_rfl) rfl trivial ?_
          exact WL.toV K ((((rdD p0.Actions x102 z_Action).Move) != 0) && (((rdD p0.Actions x102 z_Action).Move) != 1)) [65, 1, 3, 4] rfl (by rw [h121]; rfl)
        rintro b124 rfl
        refine seg 21 [] [1, 3, 4, 66] [(1, (.pointer (some ⟨g32, 0, none⟩))), (3, (.int .i64 x102)), (4, (.pointer (some ⟨g111, 0, none⟩))), (66, (.bool (((decide ((rdD p0.Actions x102 z_Action).Write < 0)) || (decide ((rdD p0.Actions x102 z_Action).Write ≥ p0.Symbols))) || ((((rdD p0.Actions x102 z_Action).Move) != 0) && (((rdD p0.Actions x102 z_Action).Move) != 1)))))] [] (fun fb => by kernel_rfl) rfl trivial ?_
        refine WL.cutV (T := Bool) 25 (fun t => [(70, (.bool t)), (1, (.pointer (some ⟨g32, 0, none⟩))), (3, (.int .i64 x102)), (4, (.pointer (some ⟨g111, 0, none⟩)))]) (fun t => t = ((((decide ((rdD p0.Actions x102 z_Action).Write < 0)) || (decide ((rdD p0.Actions x102 z_Action).Write ≥ p0.Symbols))) || ((((rdD p0.Actions x102 z_Action).Move) != 0) && (((rdD p0.Actions x102 z_Action).Move) != 1))) || (decide ((rdD p0.Actions x102 z_Action).Next < 0)))) (fun K => ?_) ?_
        ·
          rcases Bool.eq_false_or_eq_true (((decide ((rdD p0.Actions x102 z_Action).Write < 0)) || (decide ((rdD p0.Actions x102 z_Action).Write ≥ p0.Symbols))) || ((((rdD p0.Actions x102 z_Action).Move) != 0) && (((rdD p0.Actions x102 z_Action).Move) != 1))) with h125 | h125
          ·
            refine WL.setB 66 h125 rfl ?_
            refine seg 25 [] [1, 3, 4, 70] [(1, (.pointer (some ⟨g32, 0, none⟩))), (3, (.int .i64 x102)), (4, (.pointer (some ⟨g111, 0, none⟩))), (70, (.bool true))] [] (fun fb => by kernel_rfl) rfl trivial ?_
            exact WL.toV K true [70, 1, 3, 4] rfl (by rw [h125]; rfl)
          refine WL.setB 66 h125 rfl ?_
          refine seg 25 [.v (.int .i64 ((rdD p0.Actions x102 z_Action).Next))] [1, 3, 4, 70] [(1, (.pointer (some ⟨g32, 0, none⟩))), (3, (.int .i64 x102)), (4, (.pointer (some ⟨g111, 0, none⟩))), (70, (.bool (decide ((rdD p0.Actions x102 z_Action).Next < 0))))] [.cell ⟨g111, 2, none⟩ (.int .i64 ((rdD p0.Actions x102 z_Action).Next))] (fun fb => by kernel_rfl) rfl ⟨hS116.cell 0 rfl 2 rfl, trivial⟩ ?_
          exact WL.toV K (decide ((rdD p0.Actions x102 z_Action).Next < 0)) [70, 1, 3, 4] rfl (by rw [h125]; rfl)
        rintro b126 rfl
        refine seg 26 [] [1, 3, 4, 71] [(1, (.pointer (some ⟨g32, 0, none⟩))), (3, (.int .i64 x102)), (4, (.pointer (some ⟨g111, 0, none⟩))), (71, (.bool ((((decide ((rdD p0.Actions x102 z_Action).Write < 0)) || (decide ((rdD p0.Actions x102 z_Action).Write ≥ p0.Symbols))) || ((((rdD p0.Actions x102 z_Action).Move) != 0) && (((rdD p0.Actions x102 z_Action).Move) != 1))) || (decide ((rdD p0.Actions x102 z_Action).Next < 0)))))] [] (fun fb => by kernel_rfl) rfl trivial ?_
        refine WL.cutV (T := Bool) 32 (fun t => [(77, (.bool t)), (1, (.pointer (some ⟨g32, 0, none⟩))), (3, (.int .i64 x102)), (4, (.pointer (some ⟨g111, 0, none⟩)))]) (fun t => t = (((((decide ((rdD p0.Actions x102 z_Action).Write < 0)) || (decide ((rdD p0.Actions x102 z_Action).Write ≥ p0.Symbols))) || ((((rdD p0.Actions x102 z_Action).Move) != 0) && (((rdD p0.Actions x102 z_Action).Move) != 1))) || (decide ((rdD p0.Actions x102 z_Action).Next < 0))) || (decide ((rdD p0.Actions x102 z_Action).Next > p0.States)))) (fun K => ?_) ?_
        ·
          rcases Bool.eq_false_or_eq_true ((((decide ((rdD p0.Actions x102 z_Action).Write < 0)) || (decide ((rdD p0.Actions x102 z_Action).Write ≥ p0.Symbols))) || ((((rdD p0.Actions x102 z_Action).Move) != 0) && (((rdD p0.Actions x102 z_Action).Move) != 1))) || (decide ((rdD p0.Actions x102 z_Action).Next < 0))) with h127 | h127
          ·
            refine WL.setB 71 h127 rfl ?_
            refine seg 32 [] [1, 3, 4, 77] [(1, (.pointer (some ⟨g32, 0, none⟩))), (3, (.int .i64 x102)), (4, (.pointer (some ⟨g111, 0, none⟩))), (77, (.bool true))] [] (fun fb => by kernel_rfl) rfl trivial ?_
            exact WL.toV K true [77, 1, 3, 4] rfl (by rw [h127]; rfl)
          refine WL.setB 71 h127 rfl ?_
          refine seg 32 [.v (.int .i64 ((rdD p0.Actions x102 z_Action).Next)), .v (.int .i64 p0.States)] [1, 3, 4, 77] [(1, (.pointer (some ⟨g32, 0, none⟩))), (3, (.int .i64 x102)), (4, (.pointer (some ⟨g111, 0, none⟩))), (77, (.bool (decide ((rdD p0.Actions x102 z_Action).Next > p0.States))))] [.cell ⟨g111, 2, none⟩ (.int .i64 ((rdD p0.Actions x102 z_Action).Next)), .cell ⟨g32, 0, none⟩ (.int .i64 p0.States)] (fun fb => by kernel_rfl) rfl ⟨hS116.cell 0 rfl 2 rfl, hS116.cell 1 rfl 0 rfl, trivial⟩ ?_
          exact WL.toV K (decide ((rdD p0.Actions x102 z_Action).Next > p0.States)) [77, 1, 3, 4] rfl (by rw [h127]; rfl)
        rintro b128 rfl
        refine WL.done rfl ?_
        refine WX.next ?_
        rcases br_some hl108 with ⟨h129, hl108⟩ | ⟨h129, hl108⟩
        · refine WC.condT2 (fun fb => by kernel_rfl) h129 ?_
          refine WC.seq ?_
          refine WC.region ?_
          refine seg 1 [] [2] [(2, (.bool false))] [] (fun fb => by kernel_rfl) rfl trivial ?_
          refine WL.done rfl ?_
          refine WX.next ?_
          refine WC.ret ?_
          injection hl108 with hl108
          subst hl108
          injection hf with hf
          subst hf
          exact WX.thenR (WX.blockR (WX.thenR (WX.thenR (WX.blockR (WX.thenR (WX.ret_ [] (.bool false) [] (fun fb => by kernel_rfl) trivial ⟨_, rfl, rfl, hS116.keep⟩))))))
        refine WC.condF2 (fun fb => by kernel_rfl) h129 ?_
        refine WC.skip ?_
        refine WX.next ?_
        refine WC.seq ?_
        refine WC.region ?_
        refine seg 6 [.v (.int .i64 ((rdD p0.Actions x102 z_Action).Next)), .v (.int .i64 p0.States)] [1, 3, 4, 83] [(1, (.pointer (some ⟨g32, 0, none⟩))), (3, (.int .i64 x102)), (4, (.pointer (some ⟨g111, 0, none⟩))), (83, (.bool (((rdD p0.Actions x102 z_Action).Next) == p0.States)))] [.cell ⟨g111, 2, none⟩ (.int .i64 ((rdD p0.Actions x102 z_Action).Next)), .cell ⟨g32, 0, none⟩ (.int .i64 p0.States)] (fun fb => by kernel_rfl) rfl ⟨hS116.cell 0 rfl 2 rfl, hS116.cell 1 rfl 0 rfl, trivial⟩ ?_
        refine WL.cutV (T := Bool) 15 (fun t => [(92, (.bool t)), (1, (.pointer (some ⟨g32, 0, none⟩))), (3, (.int .i64 x102))]) (fun t => t = ((((rdD p0.Actions x102 z_Action).Next) == p0.States) && ((((rdD p0.Actions x102 z_Action).Write) != 0) || (((rdD p0.Actions x102 z_Action).Move) != 0)))) (fun K => ?_) ?_
        ·
          rcases Bool.eq_false_or_eq_true (((rdD p0.Actions x102 z_Action).Next) == p0.States) with h132 | h132
          ·
            refine WL.setB 83 h132 rfl ?_
            refine seg 10 [.v (.int .i64 ((rdD p0.Actions x102 z_Action).Write))] [1, 3, 4, 83, 87] [(1, (.pointer (some ⟨g32, 0, none⟩))), (3, (.int .i64 x102)), (4, (.pointer (some ⟨g111, 0, none⟩))), (83, (.bool true)), (87, (.bool (((rdD p0.Actions x102 z_Action).Write) != 0)))] [.cell ⟨g111, 0, none⟩ (.int .i64 ((rdD p0.Actions x102 z_Action).Write))] (fun fb => by kernel_rfl) rfl ⟨hS116.cell 0 rfl 0 rfl, trivial⟩ ?_
            refine WL.cutV (T := Bool) 14 (fun t => [(91, (.bool t)), (1, (.pointer (some ⟨g32, 0, none⟩))), (3, (.int .i64 x102)), (83, (.bool true))]) (fun t => t = ((((rdD p0.Actions x102 z_Action).Write) != 0) || (((rdD p0.Actions x102 z_Action).Move) != 0))) (fun K => ?_) ?_
            ·
              rcases Bool.eq_false_or_eq_true (((rdD p0.Actions x102 z_Action).Write) != 0) with h133 | h133
              ·
                refine WL.setB 87 h133 rfl ?_
                refine seg 14 [] [1, 3, 83, 91] [(1, (.pointer (some ⟨g32, 0, none⟩))), (3, (.int .i64 x102)), (83, (.bool true)), (91, (.bool true))] [] (fun fb => by kernel_rfl) rfl trivial ?_
                exact WL.toV K true [91, 1, 3, 83] rfl (by rw [h133]; rfl)
              refine WL.setB 87 h133 rfl ?_
              refine seg 14 [.v (.int .i64 ((rdD p0.Actions x102 z_Action).Move))] [1, 3, 83, 91] [(1, (.pointer (some ⟨g32, 0, none⟩))), (3, (.int .i64 x102)), (83, (.bool true)), (91, (.bool (((rdD p0.Actions x102 z_Action).Move) != 0)))] [.cell ⟨g111, 1, none⟩ (.int .i64 ((rdD p0.Actions x102 z_Action).Move))] (fun fb => by kernel_rfl) rfl ⟨hS116.cell 0 rfl 1 rfl, trivial⟩ ?_
              exact WL.toV K (((rdD p0.Actions x102 z_Action).Move) != 0) [91, 1, 3, 83] rfl (by rw [h133]; rfl)
            rintro b134 rfl
            refine seg 15 [] [1, 3, 92] [(1, (.pointer (some ⟨g32, 0, none⟩))), (3, (.int .i64 x102)), (92, (.bool ((((rdD p0.Actions x102 z_Action).Write) != 0) || (((rdD p0.Actions x102 z_Action).Move) != 0))))] [] (fun fb => by kernel_rfl) rfl trivial ?_
            exact WL.toV K ((((rdD p0.Actions x102 z_Action).Write) != 0) || (((rdD p0.Actions x102 z_Action).Move) != 0)) [92, 1, 3] rfl (by rw [h132]; rfl)
          refine WL.setB 83 h132 rfl ?_
          refine seg 15 [] [1, 3, 92] [(1, (.pointer (some ⟨g32, 0, none⟩))), (3, (.int .i64 x102)), (92, (.bool false))] [] (fun fb => by kernel_rfl) rfl trivial ?_
          exact WL.toV K false [92, 1, 3] rfl (by rw [h132]; rfl)
        rintro b135 rfl
        refine WL.done rfl ?_
        refine WX.next ?_
        rcases br_some hl108 with ⟨h136, hl108⟩ | ⟨h136, hl108⟩
        · refine WC.condT2 (fun fb => by kernel_rfl) h136 ?_
          refine WC.seq ?_
          refine WC.region ?_
          refine seg 1 [] [2] [(2, (.bool false))] [] (fun fb => by kernel_rfl) rfl trivial ?_
          refine WL.done rfl ?_
          refine WX.next ?_
          refine WC.ret ?_
          injection hl108 with hl108
          subst hl108
          injection hf with hf
          subst hf
          exact WX.blockR (WX.thenR (WX.thenR (WX.blockR (WX.thenR (WX.ret_ [] (.bool false) [] (fun fb => by kernel_rfl) trivial ⟨_, rfl, rfl, hS116.keep⟩)))))
        refine WC.condF2 (fun fb => by kernel_rfl) h136 ?_
        refine WC.skip ?_
        refine WX.blockN (WX.next ?_)
        refine WC.region ?_
        refine seg 3 [] [1, 3] [(1, (.pointer (some ⟨g32, 0, none⟩))), (3, (.int .i64 (w64 (x102 + 1))))] [] (fun fb => by kernel_rfl) rfl trivial ?_
        refine WL.done rfl ?_
        exact WX.again k105 (Nat.lt_succ_self _) (w64 (x102 + 1)) [1, 3] rfl ⟨(hS116.subR [0]).sub [1] (by decide), hl108⟩
      refine WC.condF2 (fun fb => by kernel_rfl) h109 ?_
      refine WC.exit ?_
      injection hl108 with hl108
      exact WX.thenX (WX.thenX (WX.blockHere (WX.to Kx103 () [] rfl ⟨(hS107.subR [0]).sub [] (by decide), hl108.symm⟩)))
  rintro y140 w137 ⟨hS138, hq139⟩
  subst hq139
  have hf := sum_inr hf
  refine WX.next ?_
  refine WC.seq ?_
  refine WC.region ?_
  refine seg 1 [] [2] [(2, (.bool true))] [] (fun fb => by kernel_rfl) rfl trivial ?_
  refine WL.done rfl ?_
  refine WX.next ?_
  refine WC.ret ?_
  injection hf with hf
  subst hf
  exact WX.ret_ [] (.bool true) [] (fun fb => by kernel_rfl) trivial ⟨_, rfl, rfl, hS138.keep⟩
theorem ref08_Fits_calls (k : Nat) (p0 : Machine) (p1 : Config) (A_p0_Actions : Option Addr) (c_p0_Actions : Nat) (A_p1_Cells : Option Addr) (c_p1_Cells : Nat) (r : Bool) (w : World) (hR0 : RO NoS w (rowR enc_Action A_p0_Actions c_p0_Actions p0.Actions)) (hR1 : RO NoS w (rowR encInt A_p1_Cells c_p1_Cells p1.Cells)) (hf : ref08_Fits k p0 p1 = some r) :
    CallsR Try.prog 13 #[(.agg #[(.int .i64 p0.States), (.int .i64 p0.Symbols), (.slice A_p0_Actions p0.Actions.length c_p0_Actions)]), (.agg #[(.int .i64 p1.State), (.int .i64 p1.At), (.slice A_p1_Cells p1.Cells.length c_p1_Cells)])] w (fun v w' => v = (.bool r) ∧ Keeps NoS w w') := by
  have hS : St NoS w w [rowR enc_Action A_p0_Actions c_p0_Actions p0.Actions, rowR encInt A_p1_Cells c_p1_Cells p1.Cells] [] := St.init (ro_cons hR0 (ro_cons hR1 (ro_nil _ _)))
  refine enter 69 Try.func13 rfl Try.ntmps13 rfl ?_
  unfold ref08_Fits at hf
  refine WC.seq ?_
  refine WC.region ?_
  refine WL.new hS 2 [] (fun g => (.pointer (some ⟨g, 0, none⟩))) (.cells #[(.int .i64 p0.States), (.int .i64 p0.Symbols), (.slice A_p0_Actions p0.Actions.length c_p0_Actions)] 24 (0, 0)) [] (fun fb g => by kernel_rfl) trivial (fun g24 w25 hS26 => ?_)
  refine ⟨trivial, ?_⟩
  refine WL.new hS26 3 [] (fun g => (.pointer (some ⟨g, 0, none⟩))) (.cells #[(.int .i64 p1.State), (.int .i64 p1.At), (.slice A_p1_Cells p1.Cells.length c_p1_Cells)] 27 (0, 0)) [] (fun fb g => by kernel_rfl) trivial (fun g28 w29 hS30 => ?_)
  refine ⟨trivial, ?_⟩
  refine seg 3 [] [2, 3] [(2, (.pointer (some ⟨g24, 0, none⟩))), (3, (.pointer (some ⟨g28, 0, none⟩)))] [] (fun fb => by kernel_rfl) rfl trivial ?_
  refine WL.done rfl ?_
  refine WX.next ?_
  refine WC.seq ?_
  refine WC.seq ?_
  refine WC.region ?_
  refine seg 1 [.v (.int .i64 p0.States), .v (.int .i64 p0.Symbols), .v (.slice A_p0_Actions p0.Actions.length c_p0_Actions)] [2, 3, 6] [(2, (.pointer (some ⟨g24, 0, none⟩))), (3, (.pointer (some ⟨g28, 0, none⟩))), (6, (.agg #[(.int .i64 p0.States), (.int .i64 p0.Symbols), (.slice A_p0_Actions p0.Actions.length c_p0_Actions)]))] [.cell ⟨g24, 0, none⟩ (.int .i64 p0.States), .cell ⟨g24, 1, none⟩ (.int .i64 p0.Symbols), .cell ⟨g24, 2, none⟩ (.slice A_p0_Actions p0.Actions.length c_p0_Actions)] (fun fb => by kernel_rfl) rfl ⟨hS30.cell 1 rfl 0 rfl, hS30.cell 1 rfl 1 rfl, hS30.cell 1 rfl 2 rfl, trivial⟩ ?_
  obtain ⟨t142, ht143, hf⟩ := bind_some hf
  refine WL.call (some 7) 17 #[(.agg #[(.int .i64 p0.States), (.int .i64 p0.Symbols), (.slice A_p0_Actions p0.Actions.length c_p0_Actions)])] (fun fb => by kernel_rfl) (ref08_Valid_calls _ p0 A_p0_Actions c_p0_Actions t142 _ (hS30.rd 0) ht143) (fun v w144 hR145 => ?_)
  obtain ⟨rfl, hk_⟩ := hR145
  have hS146 := hS30.keepN hk_
  refine ⟨trivial, ?_⟩
  refine seg 4 [] [2, 3, 9] [(2, (.pointer (some ⟨g24, 0, none⟩))), (3, (.pointer (some ⟨g28, 0, none⟩))), (9, (.bool (!t142)))] [] (fun fb => by kernel_rfl) rfl trivial ?_
  refine WL.cutV (T := Bool) 8 (fun t => [(13, (.bool t)), (2, (.pointer (some ⟨g24, 0, none⟩))), (3, (.pointer (some ⟨g28, 0, none⟩)))]) (fun t => t = ((!t142) || (decide (p1.State < 0)))) (fun K => ?_) ?_
  ·
    rcases Bool.eq_false_or_eq_true (!t142) with h147 | h147
    ·
      refine WL.setB 9 h147 rfl ?_
      refine seg 8 [] [2, 3, 13] [(2, (.pointer (some ⟨g24, 0, none⟩))), (3, (.pointer (some ⟨g28, 0, none⟩))), (13, (.bool true))] [] (fun fb => by kernel_rfl) rfl trivial ?_
      exact WL.toV K true [13, 2, 3] rfl (by rw [h147]; rfl)
    refine WL.setB 9 h147 rfl ?_
    refine seg 8 [.v (.int .i64 p1.State)] [2, 3, 13] [(2, (.pointer (some ⟨g24, 0, none⟩))), (3, (.pointer (some ⟨g28, 0, none⟩))), (13, (.bool (decide (p1.State < 0))))] [.cell ⟨g28, 0, none⟩ (.int .i64 p1.State)] (fun fb => by kernel_rfl) rfl ⟨hS146.cell 0 rfl 0 rfl, trivial⟩ ?_
    exact WL.toV K (decide (p1.State < 0)) [13, 2, 3] rfl (by rw [h147]; rfl)
  rintro b148 rfl
  refine seg 9 [] [2, 3, 14] [(2, (.pointer (some ⟨g24, 0, none⟩))), (3, (.pointer (some ⟨g28, 0, none⟩))), (14, (.bool ((!t142) || (decide (p1.State < 0)))))] [] (fun fb => by kernel_rfl) rfl trivial ?_
  refine WL.cutV (T := Bool) 15 (fun t => [(20, (.bool t)), (2, (.pointer (some ⟨g24, 0, none⟩))), (3, (.pointer (some ⟨g28, 0, none⟩)))]) (fun t => t = (((!t142) || (decide (p1.State < 0))) || (decide (p1.State ≥ p0.States)))) (fun K => ?_) ?_
  ·
    rcases Bool.eq_false_or_eq_true ((!t142) || (decide (p1.State < 0))) with h149 | h149
    ·
      refine WL.setB 14 h149 rfl ?_
      refine seg 15 [] [2, 3, 20] [(2, (.pointer (some ⟨g24, 0, none⟩))), (3, (.pointer (some ⟨g28, 0, none⟩))), (20, (.bool true))] [] (fun fb => by kernel_rfl) rfl trivial ?_
      exact WL.toV K true [20, 2, 3] rfl (by rw [h149]; rfl)
    refine WL.setB 14 h149 rfl ?_
    refine seg 15 [.v (.int .i64 p1.State), .v (.int .i64 p0.States)] [2, 3, 20] [(2, (.pointer (some ⟨g24, 0, none⟩))), (3, (.pointer (some ⟨g28, 0, none⟩))), (20, (.bool (decide (p1.State ≥ p0.States))))] [.cell ⟨g28, 0, none⟩ (.int .i64 p1.State), .cell ⟨g24, 0, none⟩ (.int .i64 p0.States)] (fun fb => by kernel_rfl) rfl ⟨hS146.cell 0 rfl 0 rfl, hS146.cell 1 rfl 0 rfl, trivial⟩ ?_
    exact WL.toV K (decide (p1.State ≥ p0.States)) [20, 2, 3] rfl (by rw [h149]; rfl)
  rintro b150 rfl
  refine seg 16 [] [2, 3, 21] [(2, (.pointer (some ⟨g24, 0, none⟩))), (3, (.pointer (some ⟨g28, 0, none⟩))), (21, (.bool (((!t142) || (decide (p1.State < 0))) || (decide (p1.State ≥ p0.States)))))] [] (fun fb => by kernel_rfl) rfl trivial ?_
  refine WL.cutV (T := Bool) 21 (fun t => [(26, (.bool t)), (2, (.pointer (some ⟨g24, 0, none⟩))), (3, (.pointer (some ⟨g28, 0, none⟩)))]) (fun t => t = ((((!t142) || (decide (p1.State < 0))) || (decide (p1.State ≥ p0.States))) || (decide ((p1.Cells.length : Int) < 1)))) (fun K => ?_) ?_
  ·
    rcases Bool.eq_false_or_eq_true (((!t142) || (decide (p1.State < 0))) || (decide (p1.State ≥ p0.States))) with h151 | h151
    ·
      refine WL.setB 21 h151 rfl ?_
      refine seg 21 [] [2, 3, 26] [(2, (.pointer (some ⟨g24, 0, none⟩))), (3, (.pointer (some ⟨g28, 0, none⟩))), (26, (.bool true))] [] (fun fb => by kernel_rfl) rfl trivial ?_
      exact WL.toV K true [26, 2, 3] rfl (by rw [h151]; rfl)
    refine WL.setB 21 h151 rfl ?_
    refine seg 21 [.v (.slice A_p1_Cells p1.Cells.length c_p1_Cells)] [2, 3, 26] [(2, (.pointer (some ⟨g24, 0, none⟩))), (3, (.pointer (some ⟨g28, 0, none⟩))), (26, (.bool (decide ((p1.Cells.length : Int) < 1))))] [.cell ⟨g28, 2, none⟩ (.slice A_p1_Cells p1.Cells.length c_p1_Cells)] (fun fb => by kernel_rfl) rfl ⟨hS146.cell 0 rfl 2 rfl, trivial⟩ ?_
    exact WL.toV K (decide ((p1.Cells.length : Int) < 1)) [26, 2, 3] rfl (by rw [h151]; rfl)
  rintro b152 rfl
  refine seg 22 [] [2, 3, 27] [(2, (.pointer (some ⟨g24, 0, none⟩))), (3, (.pointer (some ⟨g28, 0, none⟩))), (27, (.bool ((((!t142) || (decide (p1.State < 0))) || (decide (p1.State ≥ p0.States))) || (decide ((p1.Cells.length : Int) < 1)))))] [] (fun fb => by kernel_rfl) rfl trivial ?_
  refine WL.cutV (T := Bool) 27 (fun t => [(32, (.bool t)), (2, (.pointer (some ⟨g24, 0, none⟩))), (3, (.pointer (some ⟨g28, 0, none⟩)))]) (fun t => t = (((((!t142) || (decide (p1.State < 0))) || (decide (p1.State ≥ p0.States))) || (decide ((p1.Cells.length : Int) < 1))) || (decide ((p1.Cells.length : Int) > 200)))) (fun K => ?_) ?_
  ·
    rcases Bool.eq_false_or_eq_true ((((!t142) || (decide (p1.State < 0))) || (decide (p1.State ≥ p0.States))) || (decide ((p1.Cells.length : Int) < 1))) with h153 | h153
    ·
      refine WL.setB 27 h153 rfl ?_
      refine seg 27 [] [2, 3, 32] [(2, (.pointer (some ⟨g24, 0, none⟩))), (3, (.pointer (some ⟨g28, 0, none⟩))), (32, (.bool true))] [] (fun fb => by kernel_rfl) rfl trivial ?_
      exact WL.toV K true [32, 2, 3] rfl (by rw [h153]; rfl)
    refine WL.setB 27 h153 rfl ?_
    refine seg 27 [.v (.slice A_p1_Cells p1.Cells.length c_p1_Cells)] [2, 3, 32] [(2, (.pointer (some ⟨g24, 0, none⟩))), (3, (.pointer (some ⟨g28, 0, none⟩))), (32, (.bool (decide ((p1.Cells.length : Int) > 200))))] [.cell ⟨g28, 2, none⟩ (.slice A_p1_Cells p1.Cells.length c_p1_Cells)] (fun fb => by kernel_rfl) rfl ⟨hS146.cell 0 rfl 2 rfl, trivial⟩ ?_
    exact WL.toV K (decide ((p1.Cells.length : Int) > 200)) [32, 2, 3] rfl (by rw [h153]; rfl)
  rintro b154 rfl
  refine seg 28 [] [2, 3, 33] [(2, (.pointer (some ⟨g24, 0, none⟩))), (3, (.pointer (some ⟨g28, 0, none⟩))), (33, (.bool (((((!t142) || (decide (p1.State < 0))) || (decide (p1.State ≥ p0.States))) || (decide ((p1.Cells.length : Int) < 1))) || (decide ((p1.Cells.length : Int) > 200)))))] [] (fun fb => by kernel_rfl) rfl trivial ?_
  refine WL.cutV (T := Bool) 32 (fun t => [(37, (.bool t)), (2, (.pointer (some ⟨g24, 0, none⟩))), (3, (.pointer (some ⟨g28, 0, none⟩)))]) (fun t => t = ((((((!t142) || (decide (p1.State < 0))) || (decide (p1.State ≥ p0.States))) || (decide ((p1.Cells.length : Int) < 1))) || (decide ((p1.Cells.length : Int) > 200))) || (decide (p1.At < 0)))) (fun K => ?_) ?_
  ·
    rcases Bool.eq_false_or_eq_true (((((!t142) || (decide (p1.State < 0))) || (decide (p1.State ≥ p0.States))) || (decide ((p1.Cells.length : Int) < 1))) || (decide ((p1.Cells.length : Int) > 200))) with h155 | h155
    ·
      refine WL.setB 33 h155 rfl ?_
      refine seg 32 [] [2, 3, 37] [(2, (.pointer (some ⟨g24, 0, none⟩))), (3, (.pointer (some ⟨g28, 0, none⟩))), (37, (.bool true))] [] (fun fb => by kernel_rfl) rfl trivial ?_
      exact WL.toV K true [37, 2, 3] rfl (by rw [h155]; rfl)
    refine WL.setB 33 h155 rfl ?_
    refine seg 32 [.v (.int .i64 p1.At)] [2, 3, 37] [(2, (.pointer (some ⟨g24, 0, none⟩))), (3, (.pointer (some ⟨g28, 0, none⟩))), (37, (.bool (decide (p1.At < 0))))] [.cell ⟨g28, 1, none⟩ (.int .i64 p1.At)] (fun fb => by kernel_rfl) rfl ⟨hS146.cell 0 rfl 1 rfl, trivial⟩ ?_
    exact WL.toV K (decide (p1.At < 0)) [37, 2, 3] rfl (by rw [h155]; rfl)
  rintro b156 rfl
  refine seg 33 [] [2, 3, 38] [(2, (.pointer (some ⟨g24, 0, none⟩))), (3, (.pointer (some ⟨g28, 0, none⟩))), (38, (.bool ((((((!t142) || (decide (p1.State < 0))) || (decide (p1.State ≥ p0.States))) || (decide ((p1.Cells.length : Int) < 1))) || (decide ((p1.Cells.length : Int) > 200))) || (decide (p1.At < 0)))))] [] (fun fb => by kernel_rfl) rfl trivial ?_
  refine WL.cutV (T := Bool) 40 (fun t => [(45, (.bool t)), (2, (.pointer (some ⟨g24, 0, none⟩))), (3, (.pointer (some ⟨g28, 0, none⟩)))]) (fun t => t = (((((((!t142) || (decide (p1.State < 0))) || (decide (p1.State ≥ p0.States))) || (decide ((p1.Cells.length : Int) < 1))) || (decide ((p1.Cells.length : Int) > 200))) || (decide (p1.At < 0))) || (decide (p1.At ≥ (p1.Cells.length : Int))))) (fun K => ?_) ?_
  ·
    rcases Bool.eq_false_or_eq_true ((((((!t142) || (decide (p1.State < 0))) || (decide (p1.State ≥ p0.States))) || (decide ((p1.Cells.length : Int) < 1))) || (decide ((p1.Cells.length : Int) > 200))) || (decide (p1.At < 0))) with h157 | h157
    ·
      refine WL.setB 38 h157 rfl ?_
      refine seg 40 [] [2, 3, 45] [(2, (.pointer (some ⟨g24, 0, none⟩))), (3, (.pointer (some ⟨g28, 0, none⟩))), (45, (.bool true))] [] (fun fb => by kernel_rfl) rfl trivial ?_
      exact WL.toV K true [45, 2, 3] rfl (by rw [h157]; rfl)
    refine WL.setB 38 h157 rfl ?_
    refine seg 40 [.v (.int .i64 p1.At), .v (.slice A_p1_Cells p1.Cells.length c_p1_Cells)] [2, 3, 45] [(2, (.pointer (some ⟨g24, 0, none⟩))), (3, (.pointer (some ⟨g28, 0, none⟩))), (45, (.bool (decide (p1.At ≥ (p1.Cells.length : Int)))))] [.cell ⟨g28, 1, none⟩ (.int .i64 p1.At), .cell ⟨g28, 2, none⟩ (.slice A_p1_Cells p1.Cells.length c_p1_Cells)] (fun fb => by kernel_rfl) rfl ⟨hS146.cell 0 rfl 1 rfl, hS146.cell 0 rfl 2 rfl, trivial⟩ ?_
    exact WL.toV K (decide (p1.At ≥ (p1.Cells.length : Int))) [45, 2, 3] rfl (by rw [h157]; rfl)
  rintro b158 rfl
  refine WL.done rfl ?_
  refine WX.next ?_
  rcases br_some hf with ⟨h159, hf⟩ | ⟨h159, hf⟩
  · refine WC.condT2 (fun fb => by kernel_rfl) h159 ?_
    refine WC.seq ?_
    refine WC.region ?_
    refine seg 1 [] [4] [(4, (.bool false))] [] (fun fb => by kernel_rfl) rfl trivial ?_
    refine WL.done rfl ?_
    refine WX.next ?_
    refine WC.ret ?_
    injection hf with hf
    subst hf
    exact WX.thenR (WX.ret_ [] (.bool false) [] (fun fb => by kernel_rfl) trivial ⟨_, rfl, rfl, hS146.keep⟩)
  refine WC.condF2 (fun fb => by kernel_rfl) h159 ?_
  refine WC.skip ?_
  refine WX.next ?_
  refine WC.seq ?_
  refine WC.seq ?_
  refine WC.region ?_
  refine seg 1 [] [2, 3, 5] [(2, (.pointer (some ⟨g24, 0, none⟩))), (3, (.pointer (some ⟨g28, 0, none⟩))), (5, (.int .i64 0))] [] (fun fb => by kernel_rfl) rfl trivial ?_
  refine WL.done rfl ?_
  refine WX.next ?_
  obtain ⟨x230, hx231, hf⟩ := bind_some hf
  refine WC.cutN (T := Unit) (fun t => []) (fun t w1 => St NoS w w1 [rowR enc_Action A_p0_Actions c_p0_Actions p0.Actions, rowR encInt A_p1_Cells c_p1_Cells p1.Cells] [] ∧ x230 = .inr t) (fun Kx230 => ?_) ?_
  ·
    refine WC.block ?_
    refine WC.loop (T := Int) (fun t => [(2, (.pointer (some ⟨g24, 0, none⟩))), (3, (.pointer (some ⟨g28, 0, none⟩))), (5, (.int .i64 t))]) (fun n t w1 => St NoS w w1 [rowR enc_Action A_p0_Actions c_p0_Actions p0.Actions, rowR encInt A_p1_Cells c_p1_Cells p1.Cells] [blk g24 (.cells #[(.int .i64 p0.States), (.int .i64 p0.Symbols), (.slice A_p0_Actions p0.Actions.length c_p0_Actions)] 24 (0, 0)), blk g28 (.cells #[(.int .i64 p1.State), (.int .i64 p1.At), (.slice A_p1_Cells p1.Cells.length c_p1_Cells)] 27 (0, 0))] ∧ ref08_Fits.l0 n t p0 p1 = some x230) k 0 [2, 3, 5] rfl ⟨(hS146.subR [0, 1]).sub [1, 0] (by decide), hx231⟩ ?_
    rintro k232 x229 w233 ⟨hS234, hl235⟩
    cases k232 with
    | zero => rw [ref08_Fits.l0] at hl235; cases hl235
    | succ k232 =>
      rw [ref08_Fits.l0] at hl235
      refine WC.seq ?_
      refine WC.seq ?_
      refine WC.region ?_
      refine seg 5 [.v (.slice A_p1_Cells p1.Cells.length c_p1_Cells)] [2, 3, 5, 50] [(2, (.pointer (some ⟨g24, 0, none⟩))), (3, (.pointer (some ⟨g28, 0, none⟩))), (5, (.int .i64 x229)), (50, (.bool (decide (x229 < (p1.Cells.length : Int)))))] [.cell ⟨g28, 2, none⟩ (.slice A_p1_Cells p1.Cells.length c_p1_Cells)] (fun fb => by kernel_rfl) rfl ⟨hS234.cell 1 rfl 2 rfl, trivial⟩ ?_
      refine WL.done rfl ?_
      refine WX.next ?_
      rcases br_some hl235 with ⟨h236, hl235⟩ | ⟨h236, hl235⟩
      · refine WC.condT2 (fun fb => by kernel_rfl) h236 ?_
        refine WC.skip ?_
        refine WX.next ?_
        refine WC.seq ?_
        refine WC.block ?_
        refine WC.seq ?_
        obtain ⟨x251, hx252, hl235⟩ := bind_some hl235
        refine WC.cutN (T := Bool) (fun t => [(2, (.pointer (some ⟨g24, 0, none⟩))), (3, (.pointer (some ⟨g28, 0, none⟩))), (5, (.int .i64 x229)), (68, (.bool t))]) (fun t w1 => St NoS w w1 [rowR enc_Action A_p0_Actions c_p0_Actions p0.Actions, rowR encInt A_p1_Cells c_p1_Cells p1.Cells] [blk g24 (.cells #[(.int .i64 p0.States), (.int .i64 p0.Symbols), (.slice A_p0_Actions p0.Actions.length c_p0_Actions)] 24 (0, 0)), blk g28 (.cells #[(.int .i64 p1.State), (.int .i64 p1.At), (.slice A_p1_Cells p1.Cells.length c_p1_Cells)] 27 (0, 0))] ∧ x251 = t) (fun Kx251 => ?_) ?_
        ·
          rcases br_some hx252 with ⟨h254, hx252⟩ | ⟨h254, hx252⟩
          ·
            obtain ⟨h259, hx252⟩ := as_some hx252
            refine WC.regionD ([(1, ⟨g28, 2, none⟩, (.slice A_p1_Cells p1.Cells.length c_p1_Cells)), (4, ((adr A_p1_Cells).add ((x229).toNat * 1)), (.int .i64 (rdD p1.Cells x229 0)))], [0, 1, 2, 3, 4, 5, 6, 7, 8, 9, 10, 11, 12, 13, 14, 15], [[], [0], [], [0, 1, 2], [0, 1, 2, 3], [0, 1, 2, 3, 4], [0, 1, 2, 3, 4, 5], [0, 1, 2, 3, 4, 5, 6], [0, 1, 2, 3, 4, 5, 6, 7], [0, 1, 2, 3, 4, 5, 6], [0, 1, 2, 3, 4, 5, 6, 7, 8, 9], [0, 1, 2, 3, 4, 5, 6, 7, 8, 9, 10], [0, 1, 2, 3, 4, 5, 6], [0, 1, 2, 3, 4, 5, 6, 12], [0, 1, 2, 3, 4, 5, 6, 7, 8, 9, 10, 11, 12, 13], [0, 1, 2, 3, 4, 5, 6, 7, 8, 9, 10, 11, 12, 13, 14]]) [[0, 1, 2, 3, 4, 5, 6, 7, 8, 9, 10, 11, 12, 13, 14, 15]] (by kernel_rfl) (by kernel_rfl) (NoPanic.seq (NoPanic.block (NoPanic.seq (NoPanic.seq (NoPanic.block (NoPanic.seq (NoPanic.body))))))) ?_
            have hS257 := hS234.drew
            revert hS257
            generalize World.drew w233 = w256
            intro hS257
            refine ⟨⟨hS257.cell 1 rfl 2 rfl, rowR.cell (hS257.rd 1).1 0 h259.1 h259.2 0 rfl, trivial⟩, forallC ?_ (forallN)⟩
            refine segF 7 [.v (.slice A_p1_Cells p1.Cells.length c_p1_Cells), .v (.int .i64 (rdD p1.Cells x229 0))] [2, 3, 5, 59] [(2, (.pointer (some ⟨g24, 0, none⟩))), (3, (.pointer (some ⟨g28, 0, none⟩))), (5, (.int .i64 x229)), (59, (.bool (decide ((rdD p1.Cells x229 0) < 0))))] [.idx A_p1_Cells x229 p1.Cells.length] [0, 1] [(1, ⟨g28, 2, none⟩, (.slice A_p1_Cells p1.Cells.length c_p1_Cells)), (4, ((adr A_p1_Cells).add ((x229).toNat * 1)), (.int .i64 (rdD p1.Cells x229 0)))] (fun fb => by kernel_rfl) rfl ⟨rowR.adr (hS257.rd 1).1 h259.1 h259.2, trivial⟩ rfl ?_
            refine WL.setB 59 h254 rfl ?_
            refine seg 16 [] [2, 3, 5, 68] [(2, (.pointer (some ⟨g24, 0, none⟩))), (3, (.pointer (some ⟨g28, 0, none⟩))), (5, (.int .i64 x229)), (68, (.bool true))] [] (fun fb => by kernel_rfl) rfl trivial ?_
            refine WL.done rfl ?_
            injection hx252 with hx252
            exact WX.to Kx251 true [2, 3, 5, 68] rfl ⟨(hS257.subR [0, 1]).sub [0, 1] (by decide), hx252.symm⟩
          obtain ⟨h264, hx252⟩ := as_some hx252
          refine WC.regionD ([(1, ⟨g28, 2, none⟩, (.slice A_p1_Cells p1.Cells.length c_p1_Cells)), (4, ((adr A_p1_Cells).add ((x229).toNat * 1)), (.int .i64 (rdD p1.Cells x229 0))), (8, ⟨g28, 2, none⟩, (.slice A_p1_Cells p1.Cells.length c_p1_Cells)), (11, ((adr A_p1_Cells).add ((x229).toNat * 1)), (.int .i64 (rdD p1.Cells x229 0))), (13, ⟨g24, 1, none⟩, (.int .i64 p0.Symbols))], [0, 1, 2, 3, 4, 5, 6, 7, 8, 9, 10, 11, 12, 13, 14, 15], [[], [0], [], [0, 1, 2], [0, 1, 2, 3], [0, 1, 2, 3, 4], [0, 1, 2, 3, 4, 5], [0, 1, 2, 3, 4, 5, 6], [0, 1, 2, 3, 4, 5, 6, 7], [0, 1, 2, 3, 4, 5, 6], [0, 1, 2, 3, 4, 5, 6, 7, 8, 9], [0, 1, 2, 3, 4, 5, 6, 7, 8, 9, 10], [0, 1, 2, 3, 4, 5, 6], [0, 1, 2, 3, 4, 5, 6, 12], [0, 1, 2, 3, 4, 5, 6, 7, 8, 9, 10, 11, 12, 13], [0, 1, 2, 3, 4, 5, 6, 7, 8, 9, 10, 11, 12, 13, 14]]) [[0, 1, 2, 3, 4, 5, 6, 7, 8, 9, 10, 11, 12, 13, 14, 15]] (by kernel_rfl) (by kernel_rfl) (NoPanic.seq (NoPanic.block (NoPanic.seq (NoPanic.seq (NoPanic.block (NoPanic.seq (NoPanic.body))))))) ?_
          have hS262 := hS234.drew
          revert hS262
          generalize World.drew w233 = w261
          intro hS262
          refine ⟨⟨hS262.cell 1 rfl 2 rfl, rowR.cell (hS262.rd 1).1 0 h264.1 h264.2 0 rfl, hS262.cell 1 rfl 2 rfl, rowR.cell (hS262.rd 1).1 0 h264.1 h264.2 0 rfl, hS262.cell 0 rfl 1 rfl, trivial⟩, forallC ?_ (forallN)⟩
          refine segF 7 [.v (.slice A_p1_Cells p1.Cells.length c_p1_Cells), .v (.int .i64 (rdD p1.Cells x229 0))] [2, 3, 5, 59] [(2, (.pointer (some ⟨g24, 0, none⟩))), (3, (.pointer (some ⟨g28, 0, none⟩))), (5, (.int .i64 x229)), (59, (.bool (decide ((rdD p1.Cells x229 0) < 0))))] [.idx A_p1_Cells x229 p1.Cells.length] [0, 1] [(1, ⟨g28, 2, none⟩, (.slice A_p1_Cells p1.Cells.length c_p1_Cells)), (4, ((adr A_p1_Cells).add ((x229).toNat * 1)), (.int .i64 (rdD p1.Cells x229 0)))] (fun fb => by kernel_rfl) rfl ⟨rowR.adr (hS262.rd 1).1 h264.1 h264.2, trivial⟩ rfl ?_
          refine WL.setB 59 h254 rfl ?_
          refine segF 16 [.v (.slice A_p1_Cells p1.Cells.length c_p1_Cells), .v (.int .i64 (rdD p1.Cells x229 0)), .v (.int .i64 p0.Symbols)] [2, 3, 5, 68] [(2, (.pointer (some ⟨g24, 0, none⟩))), (3, (.pointer (some ⟨g28, 0, none⟩))), (5, (.int .i64 x229)), (68, (.bool (decide ((rdD p1.Cells x229 0) ≥ p0.Symbols))))] [.idx A_p1_Cells x229 p1.Cells.length] [2, 3, 4] [(8, ⟨g28, 2, none⟩, (.slice A_p1_Cells p1.Cells.length c_p1_Cells)), (11, ((adr A_p1_Cells).add ((x229).toNat * 1)), (.int .i64 (rdD p1.Cells x229 0))), (13, ⟨g24, 1, none⟩, (.int .i64 p0.Symbols))] (fun fb => by kernel_rfl) rfl ⟨rowR.adr (hS262.rd 1).1 h264.1 h264.2, trivial⟩ rfl ?_
          refine WL.done rfl ?_
          injection hx252 with hx252
          exact WX.to Kx251 (decide ((rdD p1.Cells x229 0) ≥ p0.Symbols)) [2, 3, 5, 68] rfl ⟨(hS262.subR [0, 1]).sub [0, 1] (by decide), hx252.symm⟩
        rintro y268 w265 ⟨hS266, hq267⟩
        subst hq267
        refine WX.next ?_
        rcases br_some hl235 with ⟨h269, hl235⟩ | ⟨h269, hl235⟩
        · refine WC.condT2 (fun fb => by kernel_rfl) h269 ?_
          refine WC.seq ?_
          refine WC.region ?_
          refine seg 1 [] [4] [(4, (.bool false))] [] (fun fb => by kernel_rfl) rfl trivial ?_
          refine WL.done rfl ?_
          refine WX.next ?_
          refine WC.ret ?_
          injection hl235 with hl235
          subst hl235
          injection hf with hf
          subst hf
          exact WX.blockR (WX.thenR (WX.thenR (WX.blockR (WX.thenR (WX.ret_ [] (.bool false) [] (fun fb => by kernel_rfl) trivial ⟨_, rfl, rfl, hS266.keep⟩)))))
        refine WC.condF2 (fun fb => by kernel_rfl) h269 ?_
        refine WC.skip ?_
        refine WX.blockN (WX.next ?_)
        refine WC.region ?_
        refine seg 3 [] [2, 3, 5] [(2, (.pointer (some ⟨g24, 0, none⟩))), (3, (.pointer (some ⟨g28, 0, none⟩))), (5, (.int .i64 (w64 (x229 + 1))))] [] (fun fb => by kernel_rfl) rfl trivial ?_
        refine WL.done rfl ?_
        exact WX.again k232 (Nat.lt_succ_self _) (w64 (x229 + 1)) [2, 3, 5] rfl ⟨(hS266.subR [0, 1]).sub [0, 1] (by decide), hl235⟩
      refine WC.condF2 (fun fb => by kernel_rfl) h236 ?_
      refine WC.exit ?_
      injection hl235 with hl235
      exact WX.thenX (WX.thenX (WX.blockHere (WX.to Kx230 () [] rfl ⟨(hS234.subR [0, 1]).sub [] (by decide), hl235.symm⟩)))
  rintro y273 w270 ⟨hS271, hq272⟩
  subst hq272
  have hf := sum_inr hf
  refine WX.next ?_
  refine WC.seq ?_
  refine WC.region ?_
  refine seg 1 [] [4] [(4, (.bool true))] [] (fun fb => by kernel_rfl) rfl trivial ?_
  refine WL.done rfl ?_
  refine WX.next ?_
  refine WC.ret ?_
  injection hf with hf
  subst hf
  exact WX.ret_ [] (.bool true) [] (fun fb => by kernel_rfl) trivial ⟨_, rfl, rfl, hS271.keep⟩
theorem law08_goes_calls   (r : Machine) (w : World)  (hf : law08_goes = some r) :
    CallsR Try.prog 40 #[] w (fun v w' => ∃ (A1_ : Option Addr), ∃ (c1_ : Nat), v = (.agg #[(.int .i64 r.States), (.int .i64 r.Symbols), (.slice A1_ r.Actions.length c1_)]) ∧ St NoS w w' [] [rowO 88 enc_Action A1_ c1_ r.Actions]) := by
  have hS : St NoS w w [] [] := St.init (ro_nil _ _)
  refine enter 5 Try.func40 rfl Try.ntmps40 rfl ?_
  unfold law08_goes at hf
  refine WC.seq ?_
  refine WC.region ?_
  refine WL.new hS 0 [] (fun g => (.pointer (some ⟨g, 0, none⟩))) (.cells #[(.int .i64 0), (.int .i64 0), (.slice none 0 0)] 24 (0, 0)) [] (fun fb g => by kernel_rfl) trivial (fun g297 w298 hS299 => ?_)
  refine ⟨trivial, ?_⟩
  refine WL.done rfl ?_
  refine WX.next ?_
  refine WC.seq ?_
  refine WC.region ?_
  refine seg 2 [] [0, 1, 2] [(0, (.pointer (some ⟨g297, 0, none⟩))), (1, (.agg #[(.int .i64 1), (.int .i64 1), (.int .i64 0)])), (2, (.agg #[(.int .i64 1), (.int .i64 1), (.int .i64 0)]))] [] (fun fb => by kernel_rfl) rfl trivial ?_
  refine WL.new hS299 3 [] (fun g => (.slice (some ⟨g, 0, none⟩) 2 2)) (.cells #[(.int .i64 1), (.int .i64 1), (.int .i64 0), (.int .i64 1), (.int .i64 1), (.int .i64 0)] 88 (0, 0)) [] (fun fb g => by kernel_rfl) trivial (fun g301 w302 hS303 => ?_)
  refine ⟨trivial, ?_⟩
  have hS305 : St NoS w w302 [] [rowO 88 enc_Action (some ⟨g301, 0, none⟩) 2 [(Action.mk 1 1 0), (Action.mk 1 1 0)], blk g297 (.cells #[(.int .i64 0), (.int .i64 0), (.slice none 0 0)] 24 (0, 0))] := hS303.map1 0 _ (fun h => rowO.ofBlk h rfl (Nat.le_of_ble_eq_true (by kernel_rfl))) (fun _ h => by obtain ⟨_, h1, h2⟩ := h; injection h1 with h1; subst h1; exact h2) [1] (by decide) (by decide)
  refine seg 4 [] [0, 4] [(0, (.pointer (some ⟨g297, 0, none⟩))), (4, (.agg #[(.int .i64 1), (.int .i64 2), (.slice (some ⟨g301, 0, none⟩) [(Action.mk 1 1 0), (Action.mk 1 1 0)].length 2)]))] [] (fun fb => by kernel_rfl) rfl trivial ?_
  refine WL.store hS305 1 rfl [(0, (.int .i64 1)), (1, (.int .i64 2)), (2, (.slice (some ⟨g301, 0, none⟩) [(Action.mk 1 1 0), (Action.mk 1 1 0)].length 2))] #[(.int .i64 1), (.int .i64 2), (.slice (some ⟨g301, 0, none⟩) [(Action.mk 1 1 0), (Action.mk 1 1 0)].length 2)] (fun fb => by kernel_rfl) (by kernel_rfl) rfl [0] (by decide) (by decide) (fun w306 hS307 => ?_)
  refine ⟨trivial, ?_⟩
  refine WL.done rfl ?_
  refine WX.next ?_
  refine WC.ret ?_
  injection hf with hf
  subst hf
  exact WX.ret_ [.v (.int .i64 1), .v (.int .i64 2), .v (.slice (some ⟨g301, 0, none⟩) [(Action.mk 1 1 0), (Action.mk 1 1 0)].length 2)] (.agg #[(.int .i64 1), (.int .i64 2), (.slice (some ⟨g301, 0, none⟩) [(Action.mk 1 1 0), (Action.mk 1 1 0)].length 2)]) [.cell ⟨g297, 0, none⟩ (.int .i64 1), .cell ⟨g297, 1, none⟩ (.int .i64 2), .cell ⟨g297, 2, none⟩ (.slice (some ⟨g301, 0, none⟩) [(Action.mk 1 1 0), (Action.mk 1 1 0)].length 2)] (fun fb => by kernel_rfl) ⟨hS307.cell 0 rfl 0 rfl, hS307.cell 0 rfl 1 rfl, hS307.cell 0 rfl 2 rfl, trivial⟩ ⟨_, rfl, (some ⟨g301, 0, none⟩), 2, rfl, (hS307.sub [1] (by decide)).noR⟩
theorem machine_action_calls (p0 : Machine) (p1 : Action) (A_p0_Actions : Option Addr) (c_p0_Actions : Nat) (r : Bool) (w : World) (hR0 : RO NoS w (rowR enc_Action A_p0_Actions c_p0_Actions p0.Actions)) (hf : machine_action p0 p1 = some r) :
    CallsR Try.prog 48 #[(.agg #[(.int .i64 p0.States), (.int .i64 p0.Symbols), (.slice A_p0_Actions p0.Actions.length c_p0_Actions)]), (.agg #[(.int .i64 p1.Write), (.int .i64 p1.Move), (.int .i64 p1.Next)])] w (fun v w' => v = (.bool r) ∧ Keeps NoS w w') := by
  have hS : St NoS w w [rowR enc_Action A_p0_Actions c_p0_Actions p0.Actions] [] := St.init (ro_cons hR0 (ro_nil _ _))
  refine enter 50 Try.func48 rfl Try.ntmps48 rfl ?_
  unfold machine_action at hf
  refine WC.seq ?_
  refine WC.region ?_
  refine WL.new hS 2 [] (fun g => (.pointer (some ⟨g, 0, none⟩))) (.cells #[(.int .i64 p0.States), (.int .i64 p0.Symbols), (.slice A_p0_Actions p0.Actions.length c_p0_Actions)] 24 (0, 0)) [] (fun fb g => by kernel_rfl) trivial (fun g337 w338 hS339 => ?_)
  refine ⟨trivial, ?_⟩
  refine WL.new hS339 3 [] (fun g => (.pointer (some ⟨g, 0, none⟩))) (.cells #[(.int .i64 p1.Write), (.int .i64 p1.Move), (.int .i64 p1.Next)] 88 (0, 0)) [] (fun fb g => by kernel_rfl) trivial (fun g341 w342 hS343 => ?_)
  refine ⟨trivial, ?_⟩
  refine seg 3 [] [2, 3] [(2, (.pointer (some ⟨g337, 0, none⟩))), (3, (.pointer (some ⟨g341, 0, none⟩)))] [] (fun fb => by kernel_rfl) rfl trivial ?_
  refine WL.done rfl ?_
  refine WX.next ?_
  refine WC.seq ?_
  refine WC.seq ?_
  refine WC.region ?_
  refine seg 5 [.v (.int .i64 p1.Next), .v (.int .i64 p0.States)] [2, 3, 9] [(2, (.pointer (some ⟨g337, 0, none⟩))), (3, (.pointer (some ⟨g341, 0, none⟩))), (9, (.bool (p1.Next == p0.States)))] [.cell ⟨g341, 2, none⟩ (.int .i64 p1.Next), .cell ⟨g337, 0, none⟩ (.int .i64 p0.States)] (fun fb => by kernel_rfl) rfl ⟨hS343.cell 0 rfl 2 rfl, hS343.cell 1 rfl 0 rfl, trivial⟩ ?_
  refine WL.done rfl ?_
  refine WX.next ?_
  rcases br_some hf with ⟨h345, hf⟩ | ⟨h345, hf⟩
  · refine WC.condT2 (fun fb => by kernel_rfl) h345 ?_
    refine WC.seq ?_
    refine WC.region ?_
    refine seg 4 [.v (.int .i64 p1.Write)] [3, 13] [(3, (.pointer (some ⟨g341, 0, none⟩))), (13, (.bool (p1.Write == 0)))] [.cell ⟨g341, 0, none⟩ (.int .i64 p1.Write)] (fun fb => by kernel_rfl) rfl ⟨hS343.cell 0 rfl 0 rfl, trivial⟩ ?_
    refine WL.cutV (T := Bool) 8 (fun t => [(17, (.bool t))]) (fun t => t = ((p1.Write == 0) && (p1.Move == 0))) (fun K => ?_) ?_
    ·
      rcases Bool.eq_false_or_eq_true (p1.Write == 0) with h346 | h346
      ·
        refine WL.setB 13 h346 rfl ?_
        refine seg 8 [.v (.int .i64 p1.Move)] [17] [(17, (.bool (p1.Move == 0)))] [.cell ⟨g341, 1, none⟩ (.int .i64 p1.Move)] (fun fb => by kernel_rfl) rfl ⟨hS343.cell 0 rfl 1 rfl, trivial⟩ ?_
        exact WL.toV K (p1.Move == 0) [17] rfl (by rw [h346]; rfl)
      refine WL.setB 13 h346 rfl ?_
      refine seg 8 [] [17] [(17, (.bool false))] [] (fun fb => by kernel_rfl) rfl trivial ?_
      exact WL.toV K false [17] rfl (by rw [h346]; rfl)
    rintro b347 rfl
    refine seg 9 [] [4] [(4, (.bool ((p1.Write == 0) && (p1.Move == 0))))] [] (fun fb => by kernel_rfl) rfl trivial ?_
    refine WL.done rfl ?_
    refine WX.next ?_
    refine WC.ret ?_
    injection hf with hf
    subst hf
    exact WX.thenR (WX.ret_ [] (.bool ((p1.Write == 0) && (p1.Move == 0))) [] (fun fb => by kernel_rfl) trivial ⟨_, rfl, rfl, hS343.keep⟩)
  refine WC.condF2 (fun fb => by kernel_rfl) h345 ?_
  refine WC.skip ?_
  refine WX.next ?_
  refine WC.seq ?_
  refine WC.region ?_
  refine seg 4 [.v (.int .i64 p1.Write)] [2, 3, 21] [(2, (.pointer (some ⟨g337, 0, none⟩))), (3, (.pointer (some ⟨g341, 0, none⟩))), (21, (.bool (decide (p1.Write ≥ 0))))] [.cell ⟨g341, 0, none⟩ (.int .i64 p1.Write)] (fun fb => by kernel_rfl) rfl ⟨hS343.cell 0 rfl 0 rfl, trivial⟩ ?_
  refine WL.cutV (T := Bool) 10 (fun t => [(27, (.bool t)), (2, (.pointer (some ⟨g337, 0, none⟩))), (3, (.pointer (some ⟨g341, 0, none⟩)))]) (fun t => t = ((decide (p1.Write ≥ 0)) && (decide (p1.Write < p0.Symbols)))) (fun K => ?_) ?_
  ·
    rcases Bool.eq_false_or_eq_true (decide (p1.Write ≥ 0)) with h348 | h348
    ·
      refine WL.setB 21 h348 rfl ?_
      refine seg 10 [.v (.int .i64 p1.Write), .v (.int .i64 p0.Symbols)] [2, 3, 27] [(2, (.pointer (some ⟨g337, 0, none⟩))), (3, (.pointer (some ⟨g341, 0, none⟩))), (27, (.bool (decide (p1.Write < p0.Symbols))))] [.cell ⟨g341, 0, none⟩ (.int .i64 p1.Write), .cell ⟨g337, 1, none⟩ (.int .i64 p0.Symbols)] (fun fb => by kernel_rfl) rfl ⟨hS343.cell 0 rfl 0 rfl, hS343.cell 1 rfl 1 rfl, trivial⟩ ?_
      exact WL.toV K (decide (p1.Write < p0.Symbols)) [27, 2, 3] rfl (by rw [h348]; rfl)
    refine WL.setB 21 h348 rfl ?_
    refine seg 10 [] [2, 3, 27] [(2, (.pointer (some ⟨g337, 0, none⟩))), (3, (.pointer (some ⟨g341, 0, none⟩))), (27, (.bool false))] [] (fun fb => by kernel_rfl) rfl trivial ?_
    exact WL.toV K false [27, 2, 3] rfl (by rw [h348]; rfl)
  rintro b349 rfl
  refine seg 11 [] [2, 3, 28] [(2, (.pointer (some ⟨g337, 0, none⟩))), (3, (.pointer (some ⟨g341, 0, none⟩))), (28, (.bool ((decide (p1.Write ≥ 0)) && (decide (p1.Write < p0.Symbols)))))] [] (fun fb => by kernel_rfl) rfl trivial ?_
  refine WL.cutV (T := Bool) 15 (fun t => [(32, (.bool t)), (2, (.pointer (some ⟨g337, 0, none⟩))), (3, (.pointer (some ⟨g341, 0, none⟩)))]) (fun t => t = (((decide (p1.Write ≥ 0)) && (decide (p1.Write < p0.Symbols))) && (decide (p1.Move ≥ 0)))) (fun K => ?_) ?_
  ·
    rcases Bool.eq_false_or_eq_true ((decide (p1.Write ≥ 0)) && (decide (p1.Write < p0.Symbols))) with h350 | h350
    ·
      refine WL.setB 28 h350 rfl ?_
      refine seg 15 [.v (.int .i64 p1.Move)] [2, 3, 32] [(2, (.pointer (some ⟨g337, 0, none⟩))), (3, (.pointer (some ⟨g341, 0, none⟩))), (32, (.bool (decide (p1.Move ≥ 0))))] [.cell ⟨g341, 1, none⟩ (.int .i64 p1.Move)] (fun fb => by kernel_rfl) rfl ⟨hS343.cell 0 rfl 1 rfl, trivial⟩ ?_
      exact WL.toV K (decide (p1.Move ≥ 0)) [32, 2, 3] rfl (by rw [h350]; rfl)
    refine WL.setB 28 h350 rfl ?_
    refine seg 15 [] [2, 3, 32] [(2, (.pointer (some ⟨g337, 0, none⟩))), (3, (.pointer (some ⟨g341, 0, none⟩))), (32, (.bool false))] [] (fun fb => by kernel_rfl) rfl trivial ?_
    exact WL.toV K false [32, 2, 3] rfl (by rw [h350]; rfl)
  rintro b351 rfl
  refine seg 16 [] [2, 3, 33] [(2, (.pointer (some ⟨g337, 0, none⟩))), (3, (.pointer (some ⟨g341, 0, none⟩))), (33, (.bool (((decide (p1.Write ≥ 0)) && (decide (p1.Write < p0.Symbols))) && (decide (p1.Move ≥ 0)))))] [] (fun fb => by kernel_rfl) rfl trivial ?_
  refine WL.cutV (T := Bool) 20 (fun t => [(37, (.bool t)), (2, (.pointer (some ⟨g337, 0, none⟩))), (3, (.pointer (some ⟨g341, 0, none⟩)))]) (fun t => t = ((((decide (p1.Write ≥ 0)) && (decide (p1.Write < p0.Symbols))) && (decide (p1.Move ≥ 0))) && (decide (p1.Move < 2)))) (fun K => ?_) ?_
  ·
    rcases Bool.eq_false_or_eq_true (((decide (p1.Write ≥ 0)) && (decide (p1.Write < p0.Symbols))) && (decide (p1.Move ≥ 0))) with h352 | h352
    ·
      refine WL.setB 33 h352 rfl ?_
      refine seg 20 [.v (.int .i64 p1.Move)] [2, 3, 37] [(2, (.pointer (some ⟨g337, 0, none⟩))), (3, (.pointer (some ⟨g341, 0, none⟩))), (37, (.bool (decide (p1.Move < 2))))] [.cell ⟨g341, 1, none⟩ (.int .i64 p1.Move)] (fun fb => by kernel_rfl) rfl ⟨hS343.cell 0 rfl 1 rfl, trivial⟩ ?_
      exact WL.toV K (decide (p1.Move < 2)) [37, 2, 3] rfl (by rw [h352]; rfl)
    refine WL.setB 33 h352 rfl ?_
    refine seg 20 [] [2, 3, 37] [(2, (.pointer (some ⟨g337, 0, none⟩))), (3, (.pointer (some ⟨g341, 0, none⟩))), (37, (.bool false))] [] (fun fb => by kernel_rfl) rfl trivial ?_
    exact WL.toV K false [37, 2, 3] rfl (by rw [h352]; rfl)
  rintro b353 rfl
  refine seg 21 [] [2, 3, 38] [(2, (.pointer (some ⟨g337, 0, none⟩))), (3, (.pointer (some ⟨g341, 0, none⟩))), (38, (.bool ((((decide (p1.Write ≥ 0)) && (decide (p1.Write < p0.Symbols))) && (decide (p1.Move ≥ 0))) && (decide (p1.Move < 2)))))] [] (fun fb => by kernel_rfl) rfl trivial ?_
  refine WL.cutV (T := Bool) 25 (fun t => [(42, (.bool t)), (2, (.pointer (some ⟨g337, 0, none⟩))), (3, (.pointer (some ⟨g341, 0, none⟩)))]) (fun t => t = (((((decide (p1.Write ≥ 0)) && (decide (p1.Write < p0.Symbols))) && (decide (p1.Move ≥ 0))) && (decide (p1.Move < 2))) && (decide (p1.Next ≥ 0)))) (fun K => ?_) ?_
  ·
    rcases Bool.eq_false_or_eq_true ((((decide (p1.Write ≥ 0)) && (decide (p1.Write < p0.Symbols))) && (decide (p1.Move ≥ 0))) && (decide (p1.Move < 2))) with h354 | h354
    ·
      refine WL.setB 38 h354 rfl ?_
      refine seg 25 [.v (.int .i64 p1.Next)] [2, 3, 42] [(2, (.pointer (some ⟨g337, 0, none⟩))), (3, (.pointer (some ⟨g341, 0, none⟩))), (42, (.bool (decide (p1.Next ≥ 0))))] [.cell ⟨g341, 2, none⟩ (.int .i64 p1.Next)] (fun fb => by kernel_rfl) rfl ⟨hS343.cell 0 rfl 2 rfl, trivial⟩ ?_
      exact WL.toV K (decide (p1.Next ≥ 0)) [42, 2, 3] rfl (by rw [h354]; rfl)
    refine WL.setB 38 h354 rfl ?_
    refine seg 25 [] [2, 3, 42] [(2, (.pointer (some ⟨g337, 0, none⟩))), (3, (.pointer (some ⟨g341, 0, none⟩))), (42, (.bool false))] [] (fun fb => by kernel_rfl) rfl trivial ?_
    exact WL.toV K false [42, 2, 3] rfl (by rw [h354]; rfl)
  rintro b355 rfl
  refine seg 26 [] [2, 3, 43] [(2, (.pointer (some ⟨g337, 0, none⟩))), (3, (.pointer (some ⟨g341, 0, none⟩))), (43, (.bool (((((decide (p1.Write ≥ 0)) && (decide (p1.Write < p0.Symbols))) && (decide (p1.Move ≥ 0))) && (decide (p1.Move < 2))) && (decide (p1.Next ≥ 0)))))] [] (fun fb => by kernel_rfl) rfl trivial ?_
  refine WL.cutV (T := Bool) 32 (fun t => [(49, (.bool t))]) (fun t => t = ((((((decide (p1.Write ≥ 0)) && (decide (p1.Write < p0.Symbols))) && (decide (p1.Move ≥ 0))) && (decide (p1.Move < 2))) && (decide (p1.Next ≥ 0))) && (decide (p1.Next < p0.States)))) (fun K => ?_) ?_
  ·
    rcases Bool.eq_false_or_eq_true (((((decide (p1.Write ≥ 0)) && (decide (p1.Write < p0.Symbols))) && (decide (p1.Move ≥ 0))) && (decide (p1.Move < 2))) && (decide (p1.Next ≥ 0))) with h356 | h356
    ·
      refine WL.setB 43 h356 rfl ?_
      refine seg 32 [.v (.int .i64 p1.Next), .v (.int .i64 p0.States)] [49] [(49, (.bool (decide (p1.Next < p0.States))))] [.cell ⟨g341, 2, none⟩ (.int .i64 p1.Next), .cell ⟨g337, 0, none⟩ (.int .i64 p0.States)] (fun fb => by kernel_rfl) rfl ⟨hS343.cell 0 rfl 2 rfl, hS343.cell 1 rfl 0 rfl, trivial⟩ ?_
      exact WL.toV K (decide (p1.Next < p0.States)) [49] rfl (by rw [h356]; rfl)
    refine WL.setB 43 h356 rfl ?_
    refine seg 32 [] [49] [(49, (.bool false))] [] (fun fb => by kernel_rfl) rfl trivial ?_
    exact WL.toV K false [49] rfl (by rw [h356]; rfl)
  rintro b357 rfl
  refine seg 33 [] [4] [(4, (.bool ((((((decide (p1.Write ≥ 0)) && (decide (p1.Write < p0.Symbols))) && (decide (p1.Move ≥ 0))) && (decide (p1.Move < 2))) && (decide (p1.Next ≥ 0))) && (decide (p1.Next < p0.States)))))] [] (fun fb => by kernel_rfl) rfl trivial ?_
  refine WL.done rfl ?_
  refine WX.next ?_
  refine WC.ret ?_
  injection hf with hf
  subst hf
  exact WX.ret_ [] (.bool ((((((decide (p1.Write ≥ 0)) && (decide (p1.Write < p0.Symbols))) && (decide (p1.Move ≥ 0))) && (decide (p1.Move < 2))) && (decide (p1.Next ≥ 0))) && (decide (p1.Next < p0.States)))) [] (fun fb => by kernel_rfl) trivial ⟨_, rfl, rfl, hS343.keep⟩
theorem machine_Valid_1_calls (p0 : Action) (f0 : Machine) (g_f0 : Nat) (A_f0_Actions : Option Addr) (c_f0_Actions : Nat) (r : Bool) (w : World) (hR0 : RO NoS w (blk g_f0 (.cells #[(.int .i64 f0.States), (.int .i64 f0.Symbols), (.slice A_f0_Actions f0.Actions.length c_f0_Actions)] 24 (0, 0)))) (hR1 : RO NoS w (rowR enc_Action A_f0_Actions c_f0_Actions f0.Actions)) (hf : machine_Valid_1 p0 f0 = some r) :
    CallsR Try.prog 47 #[(.agg #[(.int .i64 p0.Write), (.int .i64 p0.Move), (.int .i64 p0.Next)]), (.pointer (some ⟨g_f0, 0, none⟩))] w (fun v w' => v = (.bool r) ∧ Keeps NoS w w') := by
  have hS : St NoS w w [blk g_f0 (.cells #[(.int .i64 f0.States), (.int .i64 f0.Symbols), (.slice A_f0_Actions f0.Actions.length c_f0_Actions)] 24 (0, 0)), rowR enc_Action A_f0_Actions c_f0_Actions f0.Actions] [] := St.init (ro_cons hR0 (ro_cons hR1 (ro_nil _ _)))
  refine enter 8 Try.func47 rfl Try.ntmps47 rfl ?_
  unfold machine_Valid_1 at hf
  refine WC.seq ?_
  refine WC.region ?_
  refine WL.new hS 2 [] (fun g => (.pointer (some ⟨g, 0, none⟩))) (.cells #[(.int .i64 p0.Write), (.int .i64 p0.Move), (.int .i64 p0.Next)] 88 (0, 0)) [] (fun fb g => by kernel_rfl) trivial (fun g333 w334 hS335 => ?_)
  refine ⟨trivial, ?_⟩
  refine seg 2 [] [1, 2] [(1, (.pointer (some ⟨g_f0, 0, none⟩))), (2, (.pointer (some ⟨g333, 0, none⟩)))] [] (fun fb => by kernel_rfl) rfl trivial ?_
  refine WL.done rfl ?_
  refine WX.next ?_
  refine WC.seq ?_
  refine WC.region ?_
  refine seg 2 [.v (.int .i64 f0.States), .v (.int .i64 f0.Symbols), .v (.slice A_f0_Actions f0.Actions.length c_f0_Actions), .v (.int .i64 p0.Write), .v (.int .i64 p0.Move), .v (.int .i64 p0.Next)] [4, 5] [(4, (.agg #[(.int .i64 f0.States), (.int .i64 f0.Symbols), (.slice A_f0_Actions f0.Actions.length c_f0_Actions)])), (5, (.agg #[(.int .i64 p0.Write), (.int .i64 p0.Move), (.int .i64 p0.Next)]))] [.cell ⟨g_f0, 0, none⟩ (.int .i64 f0.States), .cell ⟨g_f0, 1, none⟩ (.int .i64 f0.Symbols), .cell ⟨g_f0, 2, none⟩ (.slice A_f0_Actions f0.Actions.length c_f0_Actions), .cell ⟨g333, 0, none⟩ (.int .i64 p0.Write), .cell ⟨g333, 1, none⟩ (.int .i64 p0.Move), .cell ⟨g333, 2, none⟩ (.int .i64 p0.Next)] (fun fb => by kernel_rfl) rfl ⟨blk_cell (hS335.rd 0).1 0 rfl, blk_cell (hS335.rd 0).1 1 rfl, blk_cell (hS335.rd 0).1 2 rfl, hS335.cell 0 rfl 0 rfl, hS335.cell 0 rfl 1 rfl, hS335.cell 0 rfl 2 rfl, trivial⟩ ?_
  obtain ⟨t358, ht359, hf⟩ := bind_some hf
  refine WL.call (some 6) 48 #[(.agg #[(.int .i64 f0.States), (.int .i64 f0.Symbols), (.slice A_f0_Actions f0.Actions.length c_f0_Actions)]), (.agg #[(.int .i64 p0.Write), (.int .i64 p0.Move), (.int .i64 p0.Next)])] (fun fb => by kernel_rfl) (machine_action_calls f0 p0 A_f0_Actions c_f0_Actions t358 _ (hS335.rd 1) ht359) (fun v w360 hR361 => ?_)
  obtain ⟨rfl, hk_⟩ := hR361
  have hS362 := hS335.keepN hk_
  refine ⟨trivial, ?_⟩
  refine seg 5 [] [3] [(3, (.bool (!t358)))] [] (fun fb => by kernel_rfl) rfl trivial ?_
  refine WL.done rfl ?_
  refine WX.next ?_
  refine WC.ret ?_
  injection hf with hf
  subst hf
  exact WX.ret_ [] (.bool (!t358)) [] (fun fb => by kernel_rfl) trivial ⟨_, rfl, rfl, hS362.keep⟩
theorem slices_IndexFunc_api_Action_api_Action_with_machine_Valid_1_calls (k : Nat) (p0 : List Action) (p1_0 : Machine) (A_p0 : Option Addr) (c_p0 : Nat) (g_p1_0 : Nat) (A_p1_0_Actions : Option Addr) (c_p1_0_Actions : Nat) (r : Int) (w : World) (hR0 : RO NoS w (rowR enc_Action A_p0 c_p0 p0)) (hR1 : RO NoS w (blk g_p1_0 (.cells #[(.int .i64 p1_0.States), (.int .i64 p1_0.Symbols), (.slice A_p1_0_Actions p1_0.Actions.length c_p1_0_Actions)] 24 (0, 0)))) (hR2 : RO NoS w (rowR enc_Action A_p1_0_Actions c_p1_0_Actions p1_0.Actions)) (hf : slices_IndexFunc_api_Action_api_Action_with_machine_Valid_1 k p0 p1_0 = some r) :
    CallsR Try.prog 64 #[(.slice A_p0 p0.length c_p0), (.func (.func 47) #[] #[(.pointer (some ⟨g_p1_0, 0, none⟩))])] w (fun v w' => v = (.int .i64 r) ∧ Keeps NoS w w') := by
  have hS : St NoS w w [rowR enc_Action A_p0 c_p0 p0, blk g_p1_0 (.cells #[(.int .i64 p1_0.States), (.int .i64 p1_0.Symbols), (.slice A_p1_0_Actions p1_0.Actions.length c_p1_0_Actions)] 24 (0, 0)), rowR enc_Action A_p1_0_Actions c_p1_0_Actions p1_0.Actions] [] := St.init (ro_cons hR0 (ro_cons hR1 (ro_cons hR2 (ro_nil _ _))))
  refine enter 19 Try.func64 rfl Try.ntmps64 rfl ?_
  unfold slices_IndexFunc_api_Action_api_Action_with_machine_Valid_1 at hf
  refine WC.seq ?_
  refine WC.region ?_
  refine seg 1 [] [0, 1] [(0, (.slice A_p0 p0.length c_p0)), (1, (.func (.func 47) #[] #[(.pointer (some ⟨g_p1_0, 0, none⟩))]))] [] (fun fb => by kernel_rfl) rfl trivial ?_
  refine WL.done rfl ?_
  refine WX.next ?_
  refine WC.seq ?_
  refine WC.seq ?_
  refine WC.region ?_
  refine seg 3 [] [0, 1, 7, 8] [(0, (.slice A_p0 p0.length c_p0)), (1, (.func (.func 47) #[] #[(.pointer (some ⟨g_p1_0, 0, none⟩))])), (7, (.int .i64 (p0.length : Int))), (8, (.int .i64 0))] [] (fun fb => by kernel_rfl) rfl trivial ?_
  refine WL.done rfl ?_
  refine WX.next ?_
  obtain ⟨x379, hx380, hf⟩ := bind_some hf
  refine WC.cutN (T := Unit) (fun t => []) (fun t w1 => St NoS w w1 [rowR enc_Action A_p0 c_p0 p0, blk g_p1_0 (.cells #[(.int .i64 p1_0.States), (.int .i64 p1_0.Symbols), (.slice A_p1_0_Actions p1_0.Actions.length c_p1_0_Actions)] 24 (0, 0)), rowR enc_Action A_p1_0_Actions c_p1_0_Actions p1_0.Actions] [] ∧ x379 = .inr t) (fun Kx379 => ?_) ?_
  ·
    refine WC.block ?_
    refine WC.loop (T := Int) (fun t => [(0, (.slice A_p0 p0.length c_p0)), (1, (.func (.func 47) #[] #[(.pointer (some ⟨g_p1_0, 0, none⟩))])), (7, (.int .i64 (p0.length : Int))), (8, (.int .i64 t))]) (fun n t w1 => St NoS w w1 [rowR enc_Action A_p0 c_p0 p0, blk g_p1_0 (.cells #[(.int .i64 p1_0.States), (.int .i64 p1_0.Symbols), (.slice A_p1_0_Actions p1_0.Actions.length c_p1_0_Actions)] 24 (0, 0)), rowR enc_Action A_p1_0_Actions c_p1_0_Actions p1_0.Actions] [] ∧ slices_IndexFunc_api_Action_api_Action_with_machine_Valid_1.l0 n t p0 p1_0 = some x379) k 0 [0, 1, 7, 8] rfl ⟨(hS.subR [0, 1, 2]).sub [] (by decide), hx380⟩ ?_
    rintro k381 x378 w382 ⟨hS383, hl384⟩
    cases k381 with
    | zero => rw [slices_IndexFunc_api_Action_api_Action_with_machine_Valid_1.l0] at hl384; cases hl384
    | succ k381 =>
      rw [slices_IndexFunc_api_Action_api_Action_with_machine_Valid_1.l0] at hl384
      refine WC.seq ?_
      refine WC.region ?_
      refine seg 1 [] [0, 1, 7, 8, 9] [(0, (.slice A_p0 p0.length c_p0)), (1, (.func (.func 47) #[] #[(.pointer (some ⟨g_p1_0, 0, none⟩))])), (7, (.int .i64 (p0.length : Int))), (8, (.int .i64 x378)), (9, (.bool (decide (x378 < (p0.length : Int)))))] [] (fun fb => by kernel_rfl) rfl trivial ?_
      refine WL.done rfl ?_
      refine WX.next ?_
      refine WC.seq ?_
      rcases br_some hl384 with ⟨h385, hl384⟩ | ⟨h385, hl384⟩
      · refine WC.condT2 (fun fb => by kernel_rfl) h385 ?_
        refine WC.skip ?_
        refine WX.next ?_
        refine WC.seq ?_
        refine WC.block ?_
        refine WC.seq ?_
        refine WC.region ?_
        refine seg 2 [] [0, 1, 5, 7, 8] [(0, (.slice A_p0 p0.length c_p0)), (1, (.func (.func 47) #[] #[(.pointer (some ⟨g_p1_0, 0, none⟩))])), (5, (.int .i64 x378)), (7, (.int .i64 (p0.length : Int))), (8, (.int .i64 x378))] [] (fun fb => by kernel_rfl) rfl trivial ?_
        refine WL.done rfl ?_
        refine WX.next ?_
        refine WC.seq ?_
        refine WC.region ?_
        refine seg 3 [] [0, 1, 5, 7, 8, 11, 12, 13] [(0, (.slice A_p0 p0.length c_p0)), (1, (.func (.func 47) #[] #[(.pointer (some ⟨g_p1_0, 0, none⟩))])), (5, (.int .i64 x378)), (7, (.int .i64 (p0.length : Int))), (8, (.int .i64 x378)), (11, (.func (.func 47) #[] #[(.pointer (some ⟨g_p1_0, 0, none⟩))])), (12, (.slice A_p0 p0.length c_p0)), (13, (.int .i64 x378))] [] (fun fb => by kernel_rfl) rfl trivial ?_
        obtain ⟨h386, hl384⟩ := as_some hl384
        refine seg 5 [.v (.int .i64 ((rdD p0 x378 z_Action).Write)), .v (.int .i64 ((rdD p0 x378 z_Action).Move)), .v (.int .i64 ((rdD p0 x378 z_Action).Next))] [0, 1, 5, 7, 8, 11, 15] [(0, (.slice A_p0 p0.length c_p0)), (1, (.func (.func 47) #[] #[(.pointer (some ⟨g_p1_0, 0, none⟩))])), (5, (.int .i64 x378)), (7, (.int .i64 (p0.length : Int))), (8, (.int .i64 x378)), (11, (.func (.func 47) #[] #[(.pointer (some ⟨g_p1_0, 0, none⟩))])), (15, (.agg #[(.int .i64 ((rdD p0 x378 z_Action).Write)), (.int .i64 ((rdD p0 x378 z_Action).Move)), (.int .i64 ((rdD p0 x378 z_Action).Next))]))] [.idx A_p0 x378 p0.length, .cell ((adr A_p0).add ((x378).toNat * 3)) (.int .i64 ((rdD p0 x378 z_Action).Write)), .cell (((adr A_p0).add ((x378).toNat * 3)).add 1) (.int .i64 ((rdD p0 x378 z_Action).Move)), .cell (((adr A_p0).add ((x378).toNat * 3)).add 2) (.int .i64 ((rdD p0 x378 z_Action).Next))] (fun fb => by kernel_rfl) rfl ⟨rowR.adr (hS383.rd 0).1 h386.1 h386.2, rowR.cell (hS383.rd 0).1 z_Action h386.1 h386.2 0 rfl, rowR.cell (hS383.rd 0).1 z_Action h386.1 h386.2 1 rfl, rowR.cell (hS383.rd 0).1 z_Action h386.1 h386.2 2 rfl, trivial⟩ ?_
        obtain ⟨t387, ht388, hl384⟩ := bind_some hl384
        refine WL.call (some 16) 47 #[(.agg #[(.int .i64 ((rdD p0 x378 z_Action).Write)), (.int .i64 ((rdD p0 x378 z_Action).Move)), (.int .i64 ((rdD p0 x378 z_Action).Next))]), (.pointer (some ⟨g_p1_0, 0, none⟩))] (fun fb => by kernel_rfl) (machine_Valid_1_calls (rdD p0 x378 z_Action) p1_0 g_p1_0 A_p1_0_Actions c_p1_0_Actions t387 _ (hS383.rd 1) (hS383.rd 2) ht388) (fun v w389 hR390 => ?_)
        obtain ⟨rfl, hk_⟩ := hR390
        have hS391 := hS383.keepN hk_
        refine ⟨trivial, ?_⟩
        refine WL.done rfl ?_
        refine WX.next ?_
        rcases br_some hl384 with ⟨h392, hl384⟩ | ⟨h392, hl384⟩
        · refine WC.condT2 (fun fb => by kernel_rfl) h392 ?_
          refine WC.seq ?_
          refine WC.region ?_
          refine seg 2 [] [4] [(4, (.int .i64 x378))] [] (fun fb => by kernel_rfl) rfl trivial ?_
          refine WL.done rfl ?_
          refine WX.next ?_
          refine WC.ret ?_
          injection hl384 with hl384
          subst hl384
          injection hf with hf
          subst hf
          exact WX.blockR (WX.thenR (WX.thenR (WX.blockR (WX.thenR (WX.ret_ [] (.int .i64 x378) [] (fun fb => by kernel_rfl) trivial ⟨_, rfl, rfl, hS391.keep⟩)))))
        refine WC.condF2 (fun fb => by kernel_rfl) h392 ?_
        refine WC.skip ?_
        refine WX.blockN (WX.next ?_)
        refine WC.region ?_
        refine seg 2 [] [0, 1, 7, 8] [(0, (.slice A_p0 p0.length c_p0)), (1, (.func (.func 47) #[] #[(.pointer (some ⟨g_p1_0, 0, none⟩))])), (7, (.int .i64 (p0.length : Int))), (8, (.int .i64 (w64 (x378 + 1))))] [] (fun fb => by kernel_rfl) rfl trivial ?_
        refine WL.done rfl ?_
        exact WX.again k381 (Nat.lt_succ_self _) (w64 (x378 + 1)) [0, 1, 7, 8] rfl ⟨(hS391.subR [0, 1, 2]).sub [] (by decide), hl384⟩
      refine WC.condF2 (fun fb => by kernel_rfl) h385 ?_
      refine WC.exit ?_
      injection hl384 with hl384
      exact WX.thenX (WX.thenX (WX.blockHere (WX.to Kx379 () [] rfl ⟨(hS383.subR [0, 1, 2]).sub [] (by decide), hl384.symm⟩)))
  rintro y396 w393 ⟨hS394, hq395⟩
  subst hq395
  have hf := sum_inr hf
  refine WX.next ?_
  refine WC.seq ?_
  refine WC.region ?_
  refine seg 1 [] [4] [(4, (.int .i64 (-1)))] [] (fun fb => by kernel_rfl) rfl trivial ?_
  refine WL.done rfl ?_
  refine WX.next ?_
  refine WC.ret ?_
  injection hf with hf
  subst hf
  exact WX.ret_ [] (.int .i64 (-1)) [] (fun fb => by kernel_rfl) trivial ⟨_, rfl, rfl, hS394.keep⟩
theorem slices_ContainsFunc_api_Action_api_Action_with_machine_Valid_1_calls (k : Nat) (p0 : List Action) (p1_0 : Machine) (A_p0 : Option Addr) (c_p0 : Nat) (g_p1_0 : Nat) (A_p1_0_Actions : Option Addr) (c_p1_0_Actions : Nat) (r : Bool) (w : World) (hR0 : RO NoS w (rowR enc_Action A_p0 c_p0 p0)) (hR1 : RO NoS w (blk g_p1_0 (.cells #[(.int .i64 p1_0.States), (.int .i64 p1_0.Symbols), (.slice A_p1_0_Actions p1_0.Actions.length c_p1_0_Actions)] 24 (0, 0)))) (hR2 : RO NoS w (rowR enc_Action A_p1_0_Actions c_p1_0_Actions p1_0.Actions)) (hf : slices_ContainsFunc_api_Action_api_Action_with_machine_Valid_1 k p0 p1_0 = some r) :
    CallsR Try.prog 46 #[(.slice A_p0 p0.length c_p0), (.func (.func 47) #[] #[(.pointer (some ⟨g_p1_0, 0, none⟩))])] w (fun v w' => v = (.bool r) ∧ Keeps NoS w w') := by
  have hS : St NoS w w [rowR enc_Action A_p0 c_p0 p0, blk g_p1_0 (.cells #[(.int .i64 p1_0.States), (.int .i64 p1_0.Symbols), (.slice A_p1_0_Actions p1_0.Actions.length c_p1_0_Actions)] 24 (0, 0)), rowR enc_Action A_p1_0_Actions c_p1_0_Actions p1_0.Actions] [] := St.init (ro_cons hR0 (ro_cons hR1 (ro_cons hR2 (ro_nil _ _))))
  refine enter 9 Try.func46 rfl Try.ntmps46 rfl ?_
  unfold slices_ContainsFunc_api_Action_api_Action_with_machine_Valid_1 at hf
  refine WC.seq ?_
  refine WC.region ?_
  refine seg 1 [] [0, 1] [(0, (.slice A_p0 p0.length c_p0)), (1, (.func (.func 47) #[] #[(.pointer (some ⟨g_p1_0, 0, none⟩))]))] [] (fun fb => by kernel_rfl) rfl trivial ?_
  refine WL.done rfl ?_
  refine WX.next ?_
  refine WC.seq ?_
  refine WC.region ?_
  refine seg 2 [] [5, 6] [(5, (.slice A_p0 p0.length c_p0)), (6, (.func (.func 47) #[] #[(.pointer (some ⟨g_p1_0, 0, none⟩))]))] [] (fun fb => by kernel_rfl) rfl trivial ?_
  obtain ⟨t398, ht399, hf⟩ := bind_some hf
  refine WL.call (some 7) 64 #[(.slice A_p0 p0.length c_p0), (.func (.func 47) #[] #[(.pointer (some ⟨g_p1_0, 0, none⟩))])] (fun fb => by kernel_rfl) (slices_IndexFunc_api_Action_api_Action_with_machine_Valid_1_calls _ p0 p1_0 A_p0 c_p0 g_p1_0 A_p1_0_Actions c_p1_0_Actions t398 _ (hS.rd 0) (hS.rd 1) (hS.rd 2) ht399) (fun v w400 hR401 => ?_)
  obtain ⟨rfl, hk_⟩ := hR401
  have hS402 := hS.keepN hk_
  refine ⟨trivial, ?_⟩
  refine seg 5 [] [4] [(4, (.bool (decide (t398 ≥ 0))))] [] (fun fb => by kernel_rfl) rfl trivial ?_
  refine WL.done rfl ?_
  refine WX.next ?_
  refine WC.ret ?_
  injection hf with hf
  subst hf
  exact WX.ret_ [] (.bool (decide (t398 ≥ 0))) [] (fun fb => by kernel_rfl) trivial ⟨_, rfl, rfl, hS402.keep⟩
theorem machine_Valid_calls (k : Nat) (p0 : Machine) (A_p0_Actions : Option Addr) (c_p0_Actions : Nat) (r : Bool) (w : World) (hR0 : RO NoS w (rowR enc_Action A_p0_Actions c_p0_Actions p0.Actions)) (hf : machine_Valid k p0 = some r) :
    CallsR Try.prog 16 #[(.agg #[(.int .i64 p0.States), (.int .i64 p0.Symbols), (.slice A_p0_Actions p0.Actions.length c_p0_Actions)])] w (fun v w' => v = (.bool r) ∧ Keeps NoS w w') := by
  have hS : St NoS w w [rowR enc_Action A_p0_Actions c_p0_Actions p0.Actions] [] := St.init (ro_cons hR0 (ro_nil _ _))
  refine enter 39 Try.func16 rfl Try.ntmps16 rfl ?_
  unfold machine_Valid at hf
  refine WC.seq ?_
  refine WC.region ?_
  refine WL.new hS 1 [] (fun g => (.pointer (some ⟨g, 0, none⟩))) (.cells #[(.int .i64 p0.States), (.int .i64 p0.Symbols), (.slice A_p0_Actions p0.Actions.length c_p0_Actions)] 24 (0, 0)) [] (fun fb g => by kernel_rfl) trivial (fun g319 w320 hS321 => ?_)
  refine ⟨trivial, ?_⟩
  refine seg 2 [] [1] [(1, (.pointer (some ⟨g319, 0, none⟩)))] [] (fun fb => by kernel_rfl) rfl trivial ?_
  refine WL.done rfl ?_
  refine WX.next ?_
  refine WC.seq ?_
  refine WC.region ?_
  refine seg 4 [.v (.int .i64 p0.States)] [1, 6] [(1, (.pointer (some ⟨g319, 0, none⟩))), (6, (.bool (decide (p0.States ≥ 1))))] [.cell ⟨g319, 0, none⟩ (.int .i64 p0.States)] (fun fb => by kernel_rfl) rfl ⟨hS321.cell 0 rfl 0 rfl, trivial⟩ ?_
  refine WL.cutV (T := Bool) 8 (fun t => [(10, (.bool t)), (1, (.pointer (some ⟨g319, 0, none⟩)))]) (fun t => t = ((decide (p0.States ≥ 1)) && (decide (p0.States ≤ 6)))) (fun K => ?_) ?_
  ·
    rcases Bool.eq_false_or_eq_true (decide (p0.States ≥ 1)) with h323 | h323
    ·
      refine WL.setB 6 h323 rfl ?_
      refine seg 8 [.v (.int .i64 p0.States)] [1, 10] [(1, (.pointer (some ⟨g319, 0, none⟩))), (10, (.bool (decide (p0.States ≤ 6))))] [.cell ⟨g319, 0, none⟩ (.int .i64 p0.States)] (fun fb => by kernel_rfl) rfl ⟨hS321.cell 0 rfl 0 rfl, trivial⟩ ?_
      exact WL.toV K (decide (p0.States ≤ 6)) [10, 1] rfl (by rw [h323]; rfl)
    refine WL.setB 6 h323 rfl ?_
    refine seg 8 [] [1, 10] [(1, (.pointer (some ⟨g319, 0, none⟩))), (10, (.bool false))] [] (fun fb => by kernel_rfl) rfl trivial ?_
    exact WL.toV K false [10, 1] rfl (by rw [h323]; rfl)
  rintro b324 rfl
  refine seg 9 [] [1, 11] [(1, (.pointer (some ⟨g319, 0, none⟩))), (11, (.bool ((decide (p0.States ≥ 1)) && (decide (p0.States ≤ 6)))))] [] (fun fb => by kernel_rfl) rfl trivial ?_
  refine WL.cutV (T := Bool) 13 (fun t => [(15, (.bool t)), (1, (.pointer (some ⟨g319, 0, none⟩)))]) (fun t => t = (((decide (p0.States ≥ 1)) && (decide (p0.States ≤ 6))) && (decide (p0.Symbols ≥ 2)))) (fun K => ?_) ?_
  ·
    rcases Bool.eq_false_or_eq_true ((decide (p0.States ≥ 1)) && (decide (p0.States ≤ 6))) with h325 | h325
    ·
      refine WL.setB 11 h325 rfl ?_
      refine seg 13 [.v (.int .i64 p0.Symbols)] [1, 15] [(1, (.pointer (some ⟨g319, 0, none⟩))), (15, (.bool (decide (p0.Symbols ≥ 2))))] [.cell ⟨g319, 1, none⟩ (.int .i64 p0.Symbols)] (fun fb => by kernel_rfl) rfl ⟨hS321.cell 0 rfl 1 rfl, trivial⟩ ?_
      exact WL.toV K (decide (p0.Symbols ≥ 2)) [15, 1] rfl (by rw [h325]; rfl)
    refine WL.setB 11 h325 rfl ?_
    refine seg 13 [] [1, 15] [(1, (.pointer (some ⟨g319, 0, none⟩))), (15, (.bool false))] [] (fun fb => by kernel_rfl) rfl trivial ?_
    exact WL.toV K false [15, 1] rfl (by rw [h325]; rfl)
  rintro b326 rfl
  refine seg 14 [] [1, 16] [(1, (.pointer (some ⟨g319, 0, none⟩))), (16, (.bool (((decide (p0.States ≥ 1)) && (decide (p0.States ≤ 6))) && (decide (p0.Symbols ≥ 2)))))] [] (fun fb => by kernel_rfl) rfl trivial ?_
  refine WL.cutV (T := Bool) 18 (fun t => [(20, (.bool t)), (1, (.pointer (some ⟨g319, 0, none⟩)))]) (fun t => t = ((((decide (p0.States ≥ 1)) && (decide (p0.States ≤ 6))) && (decide (p0.Symbols ≥ 2))) && (decide (p0.Symbols ≤ 4)))) (fun K => ?_) ?_
  ·
    rcases Bool.eq_false_or_eq_true (((decide (p0.States ≥ 1)) && (decide (p0.States ≤ 6))) && (decide (p0.Symbols ≥ 2))) with h327 | h327
    ·
      refine WL.setB 16 h327 rfl ?_
      refine seg 18 [.v (.int .i64 p0.Symbols)] [1, 20] [(1, (.pointer (some ⟨g319, 0, none⟩))), (20, (.bool (decide (p0.Symbols ≤ 4))))] [.cell ⟨g319, 1, none⟩ (.int .i64 p0.Symbols)] (fun fb => by kernel_rfl) rfl ⟨hS321.cell 0 rfl 1 rfl, trivial⟩ ?_
      exact WL.toV K (decide (p0.Symbols ≤ 4)) [20, 1] rfl (by rw [h327]; rfl)
    refine WL.setB 16 h327 rfl ?_
    refine seg 18 [] [1, 20] [(1, (.pointer (some ⟨g319, 0, none⟩))), (20, (.bool false))] [] (fun fb => by kernel_rfl) rfl trivial ?_
    exact WL.toV K false [20, 1] rfl (by rw [h327]; rfl)
  rintro b328 rfl
  refine seg 19 [] [1, 21] [(1, (.pointer (some ⟨g319, 0, none⟩))), (21, (.bool ((((decide (p0.States ≥ 1)) && (decide (p0.States ≤ 6))) && (decide (p0.Symbols ≥ 2))) && (decide (p0.Symbols ≤ 4)))))] [] (fun fb => by kernel_rfl) rfl trivial ?_
  refine WL.cutV (T := Bool) 29 (fun t => [(31, (.bool t)), (1, (.pointer (some ⟨g319, 0, none⟩)))]) (fun t => t = (((((decide (p0.States ≥ 1)) && (decide (p0.States ≤ 6))) && (decide (p0.Symbols ≥ 2))) && (decide (p0.Symbols ≤ 4))) && ((p0.Actions.length : Int) == (w64 (p0.States * p0.Symbols))))) (fun K => ?_) ?_
  ·
    rcases Bool.eq_false_or_eq_true ((((decide (p0.States ≥ 1)) && (decide (p0.States ≤ 6))) && (decide (p0.Symbols ≥ 2))) && (decide (p0.Symbols ≤ 4))) with h329 | h329
    ·
      refine WL.setB 21 h329 rfl ?_
      refine seg 29 [.v (.slice A_p0_Actions p0.Actions.length c_p0_Actions), .v (.int .i64 p0.States), .v (.int .i64 p0.Symbols)] [1, 31] [(1, (.pointer (some ⟨g319, 0, none⟩))), (31, (.bool ((p0.Actions.length : Int) == (w64 (p0.States * p0.Symbols)))))] [.cell ⟨g319, 2, none⟩ (.slice A_p0_Actions p0.Actions.length c_p0_Actions), .cell ⟨g319, 0, none⟩ (.int .i64 p0.States), .cell ⟨g319, 1, none⟩ (.int .i64 p0.Symbols)] (fun fb => by kernel_rfl) rfl ⟨hS321.cell 0 rfl 2 rfl, hS321.cell 0 rfl 0 rfl, hS321.cell 0 rfl 1 rfl, trivial⟩ ?_
      exact WL.toV K ((p0.Actions.length : Int) == (w64 (p0.States * p0.Symbols))) [31, 1] rfl (by rw [h329]; rfl)
    refine WL.setB 21 h329 rfl ?_
    refine seg 29 [] [1, 31] [(1, (.pointer (some ⟨g319, 0, none⟩))), (31, (.bool false))] [] (fun fb => by kernel_rfl) rfl trivial ?_
    exact WL.toV K false [31, 1] rfl (by rw [h329]; rfl)
  rintro b330 rfl
  refine seg 30 [] [1, 32] [(1, (.pointer (some ⟨g319, 0, none⟩))), (32, (.bool (((((decide (p0.States ≥ 1)) && (decide (p0.States ≤ 6))) && (decide (p0.Symbols ≥ 2))) && (decide (p0.Symbols ≤ 4))) && ((p0.Actions.length : Int) == (w64 (p0.States * p0.Symbols))))))] [] (fun fb => by kernel_rfl) rfl trivial ?_
  obtain ⟨x409, hx410, hf⟩ := bind_some hf
  refine WL.cutW (T := Bool) 36 (fun t => [(38, (.bool t))]) (fun t w1 => (St NoS w w1 [rowR enc_Action A_p0_Actions c_p0_Actions p0.Actions] [] ∧ x409 = t) ∧ CellsOK [] w1) (fun K => ?_) ?_
  ·
    rcases br_some hx410 with ⟨h411, hx410⟩ | ⟨h411, hx410⟩
    ·
      refine WL.setB 32 h411 rfl ?_
      refine seg 33 [.v (.slice A_p0_Actions p0.Actions.length c_p0_Actions)] [32, 34, 35] [(32, (.bool true)), (34, (.slice A_p0_Actions p0.Actions.length c_p0_Actions)), (35, (.func (.func 47) #[] #[(.pointer (some ⟨g319, 0, none⟩))]))] [.cell ⟨g319, 2, none⟩ (.slice A_p0_Actions p0.Actions.length c_p0_Actions)] (fun fb => by kernel_rfl) rfl ⟨hS321.cell 0 rfl 2 rfl, trivial⟩ ?_
      obtain ⟨t412, ht413, hx410⟩ := bind_some hx410
      refine WL.call (some 36) 46 #[(.slice A_p0_Actions p0.Actions.length c_p0_Actions), (.func (.func 47) #[] #[(.pointer (some ⟨g319, 0, none⟩))])] (fun fb => by kernel_rfl) (slices_ContainsFunc_api_Action_api_Action_with_machine_Valid_1_calls _ p0.Actions p0 A_p0_Actions c_p0_Actions g319 A_p0_Actions c_p0_Actions t412 _ (hS321.rd 0) (hS321.ow 0) (hS321.rd 0) ht413) (fun v w414 hR415 => ?_)
      obtain ⟨rfl, hk_⟩ := hR415
      have hS416 := hS321.keepN hk_
      refine ⟨trivial, ?_⟩
      refine seg 36 [] [38] [(38, (.bool (!t412)))] [] (fun fb => by kernel_rfl) rfl trivial ?_
      injection hx410 with hx410
      exact WL.to K (!t412) [38] rfl ⟨⟨(hS416.subR [0]).sub [] (by decide), hx410.symm⟩, trivial⟩
    refine WL.setB 32 h411 rfl ?_
    refine seg 36 [] [38] [(38, (.bool false))] [] (fun fb => by kernel_rfl) rfl trivial ?_
    injection hx410 with hx410
    exact WL.to K false [38] rfl ⟨⟨(hS321.subR [0]).sub [] (by decide), hx410.symm⟩, trivial⟩
  rintro y417 w419 ⟨⟨hS420, hq418⟩, hF421⟩
  subst hq418
  refine seg 37 [] [2] [(2, (.bool x409))] [] (fun fb => by kernel_rfl) rfl trivial ?_
  refine WL.done rfl ?_
  refine WX.next ?_
  refine WC.ret ?_
  injection hf with hf
  subst hf
  exact WX.ret_ [] (.bool x409) [] (fun fb => by kernel_rfl) trivial ⟨_, rfl, rfl, hS420.keep⟩
theorem machine_head_calls (p0 : Machine) (p1 : Int) (p2 : Int) (A_p0_Actions : Option Addr) (c_p0_Actions : Nat) (r : Int) (w : World) (hR0 : RO NoS w (rowR enc_Action A_p0_Actions c_p0_Actions p0.Actions)) (hf : machine_head p0 p1 p2 = some r) :
    CallsR Try.prog 61 #[(.agg #[(.int .i64 p0.States), (.int .i64 p0.Symbols), (.slice A_p0_Actions p0.Actions.length c_p0_Actions)]), (.int .i64 p1), (.int .i64 p2)] w (fun v w' => v = (.int .i64 r) ∧ Keeps NoS w w') := by
  have hS : St NoS w w [rowR enc_Action A_p0_Actions c_p0_Actions p0.Actions] [] := St.init (ro_cons hR0 (ro_nil _ _))
  refine enter 16 Try.func61 rfl Try.ntmps61 rfl ?_
  unfold machine_head at hf
  refine WC.seq ?_
  refine WC.region ?_
  refine WL.new hS 3 [] (fun g => (.pointer (some ⟨g, 0, none⟩))) (.cells #[(.int .i64 p0.States), (.int .i64 p0.Symbols), (.slice A_p0_Actions p0.Actions.length c_p0_Actions)] 24 (0, 0)) [] (fun fb g => by kernel_rfl) trivial (fun g559 w560 hS561 => ?_)
  refine ⟨trivial, ?_⟩
  refine seg 2 [] [1, 2, 3] [(1, (.int .i64 p1)), (2, (.int .i64 p2)), (3, (.pointer (some ⟨g559, 0, none⟩)))] [] (fun fb => by kernel_rfl) rfl trivial ?_
  refine WL.done rfl ?_
  refine WX.next ?_
  refine WC.seq ?_
  refine WC.region ?_
  refine seg 10 [.v (.int .i64 p0.Symbols), .v (.int .i64 p0.Symbols)] [6] [(6, (.int .i64 (w64 ((w64 (p0.Symbols + (w64 (p1 * p0.Symbols)))) + p2))))] [.cell ⟨g559, 1, none⟩ (.int .i64 p0.Symbols), .cell ⟨g559, 1, none⟩ (.int .i64 p0.Symbols)] (fun fb => by kernel_rfl) rfl ⟨hS561.cell 0 rfl 1 rfl, hS561.cell 0 rfl 1 rfl, trivial⟩ ?_
  refine WL.done rfl ?_
  refine WX.next ?_
  refine WC.ret ?_
  injection hf with hf
  subst hf
  exact WX.ret_ [] (.int .i64 (w64 ((w64 (p0.Symbols + (w64 (p1 * p0.Symbols)))) + p2))) [] (fun fb => by kernel_rfl) trivial ⟨_, rfl, rfl, hS561.keep⟩
theorem machine_kit_signal_calls (p0 : Kit) (p1 : Int) (p2 : Int) (g_p0 : Nat) (A_p0_m_Actions : Option Addr) (c_p0_m_Actions : Nat) (A_p0_set : Option Addr) (c_p0_set : Nat) (A_p0_does : Option Addr) (c_p0_does : Nat) (r : Int) (w : World) (hR0 : RO NoS w (blk g_p0 (.cells #[(.int .i64 p0.m.States), (.int .i64 p0.m.Symbols), (.slice A_p0_m_Actions p0.m.Actions.length c_p0_m_Actions), (.slice A_p0_set p0.set.length c_p0_set), (.slice A_p0_does p0.does.length c_p0_does), (.int .i64 p0.base)] 96 (0, 0)))) (hR1 : RO NoS w (rowR enc_Action A_p0_m_Actions c_p0_m_Actions p0.m.Actions)) (hR2 : RO NoS w (rowR enc_Tile A_p0_set c_p0_set p0.set)) (hR3 : RO NoS w (rowR encInt A_p0_does c_p0_does p0.does)) (hf : machine_kit_signal p0 p1 p2 = some r) :
    CallsR Try.prog 62 #[(.pointer (some ⟨g_p0, 0, none⟩)), (.int .i64 p1), (.int .i64 p2)] w (fun v w' => v = (.int .i64 r) ∧ Keeps NoS w w') := by
  have hS : St NoS w w [blk g_p0 (.cells #[(.int .i64 p0.m.States), (.int .i64 p0.m.Symbols), (.slice A_p0_m_Actions p0.m.Actions.length c_p0_m_Actions), (.slice A_p0_set p0.set.length c_p0_set), (.slice A_p0_does p0.does.length c_p0_does), (.int .i64 p0.base)] 96 (0, 0)), rowR enc_Action A_p0_m_Actions c_p0_m_Actions p0.m.Actions, rowR enc_Tile A_p0_set c_p0_set p0.set, rowR encInt A_p0_does c_p0_does p0.does] [] := St.init (ro_cons hR0 (ro_cons hR1 (ro_cons hR2 (ro_cons hR3 (ro_nil _ _)))))
  refine enter 19 Try.func62 rfl Try.ntmps62 rfl ?_
  unfold machine_kit_signal at hf
  refine WC.seq ?_
  refine WC.region ?_
  refine seg 1 [] [0, 1, 2] [(0, (.pointer (some ⟨g_p0, 0, none⟩))), (1, (.int .i64 p1)), (2, (.int .i64 p2))] [] (fun fb => by kernel_rfl) rfl trivial ?_
  refine WL.done rfl ?_
  refine WX.next ?_
  refine WC.seq ?_
  refine WC.seq ?_
  refine WC.region ?_
  refine seg 2 [] [0, 2, 8] [(0, (.pointer (some ⟨g_p0, 0, none⟩))), (2, (.int .i64 p2)), (8, (.bool (p1 == 1)))] [] (fun fb => by kernel_rfl) rfl trivial ?_
  refine WL.done rfl ?_
  refine WX.next ?_
  rcases br_some hf with ⟨h634, hf⟩ | ⟨h634, hf⟩
  · refine WC.condT2 (fun fb => by kernel_rfl) h634 ?_
    refine WC.seq ?_
    refine WC.region ?_
    refine seg 3 [] [6] [(6, (.int .i64 (w64 (1 + p2))))] [] (fun fb => by kernel_rfl) rfl trivial ?_
    refine WL.done rfl ?_
    refine WX.next ?_
    refine WC.ret ?_
    injection hf with hf
    subst hf
    exact WX.thenR (WX.ret_ [] (.int .i64 (w64 (1 + p2))) [] (fun fb => by kernel_rfl) trivial ⟨_, rfl, rfl, hS.keep⟩)
  refine WC.condF2 (fun fb => by kernel_rfl) h634 ?_
  refine WC.skip ?_
  refine WX.next ?_
  refine WC.seq ?_
  refine WC.region ?_
  refine seg 9 [.v (.int .i64 p0.m.States)] [6] [(6, (.int .i64 (w64 ((w64 (1 + p0.m.States)) + p2))))] [.cell ⟨g_p0, 0, none⟩ (.int .i64 p0.m.States)] (fun fb => by kernel_rfl) rfl ⟨blk_cell (hS.rd 0).1 0 rfl, trivial⟩ ?_
  refine WL.done rfl ?_
  refine WX.next ?_
  refine WC.ret ?_
  injection hf with hf
  subst hf
  exact WX.ret_ [] (.int .i64 (w64 ((w64 (1 + p0.m.States)) + p2))) [] (fun fb => by kernel_rfl) trivial ⟨_, rfl, rfl, hS.keep⟩
theorem machine_kit_acts_calls (p0 : Kit) (p1 : Int) (p2 : Int) (p3 : Action) (g_p0 : Nat) (A_p0_m_Actions : Option Addr) (c_p0_m_Actions : Nat) (A_p0_set : Option Addr) (c_p0_set : Nat) (A_p0_does : Option Addr) (c_p0_does : Nat) (r : Tile) (w : World) (hR0 : RO NoS w (blk g_p0 (.cells #[(.int .i64 p0.m.States), (.int .i64 p0.m.Symbols), (.slice A_p0_m_Actions p0.m.Actions.length c_p0_m_Actions), (.slice A_p0_set p0.set.length c_p0_set), (.slice A_p0_does p0.does.length c_p0_does), (.int .i64 p0.base)] 96 (0, 0)))) (hR1 : RO NoS w (rowR enc_Action A_p0_m_Actions c_p0_m_Actions p0.m.Actions)) (hR2 : RO NoS w (rowR enc_Tile A_p0_set c_p0_set p0.set)) (hR3 : RO NoS w (rowR encInt A_p0_does c_p0_does p0.does)) (hf : machine_kit_acts p0 p1 p2 p3 = some r) :
    CallsR Try.prog 60 #[(.pointer (some ⟨g_p0, 0, none⟩)), (.int .i64 p1), (.int .i64 p2), (.agg #[(.int .i64 p3.Write), (.int .i64 p3.Move), (.int .i64 p3.Next)])] w (fun v w' => v = (.agg #[(.int .i64 r.N), (.int .i64 r.E), (.int .i64 r.S), (.int .i64 r.W)]) ∧ Keeps NoS w w') := by
  have hS : St NoS w w [blk g_p0 (.cells #[(.int .i64 p0.m.States), (.int .i64 p0.m.Symbols), (.slice A_p0_m_Actions p0.m.Actions.length c_p0_m_Actions), (.slice A_p0_set p0.set.length c_p0_set), (.slice A_p0_does p0.does.length c_p0_does), (.int .i64 p0.base)] 96 (0, 0)), rowR enc_Action A_p0_m_Actions c_p0_m_Actions p0.m.Actions, rowR enc_Tile A_p0_set c_p0_set p0.set, rowR encInt A_p0_does c_p0_does p0.does] [] := St.init (ro_cons hR0 (ro_cons hR1 (ro_cons hR2 (ro_cons hR3 (ro_nil _ _)))))
  refine enter 36 Try.func60 rfl Try.ntmps60 rfl ?_
  unfold machine_kit_acts at hf
  refine WC.seq ?_
  refine WC.region ?_
  refine WL.new hS 7 [] (fun g => (.pointer (some ⟨g, 0, none⟩))) (.cells #[(.int .i64 p3.Write), (.int .i64 p3.Move), (.int .i64 p3.Next)] 88 (0, 0)) [] (fun fb g => by kernel_rfl) trivial (fun g551 w552 hS553 => ?_)
  refine ⟨trivial, ?_⟩
  refine WL.new hS553 8 [] (fun g => (.pointer (some ⟨g, 0, none⟩))) (.cells #[(.int .i64 0), (.int .i64 0), (.int .i64 0), (.int .i64 0)] 65 (0, 0)) [] (fun fb g => by kernel_rfl) trivial (fun g555 w556 hS557 => ?_)
  refine ⟨trivial, ?_⟩
  refine WL.done rfl ?_
  refine WX.next ?_
  refine WC.seq ?_
  obtain ⟨x603, hx604, hf⟩ := bind_some hf
  refine WC.cutN (T := (Int × Int × Int × Int) × Nat) (fun t => [(0, (.pointer (some ⟨g_p0, 0, none⟩))), (7, (.pointer (some ⟨g551, 0, none⟩))), (8, (.pointer (some ⟨g555, 0, none⟩))), (9, (.pointer (some ⟨t.2, 0, none⟩)))]) (fun t w1 => St NoS w w1 [blk g_p0 (.cells #[(.int .i64 p0.m.States), (.int .i64 p0.m.Symbols), (.slice A_p0_m_Actions p0.m.Actions.length c_p0_m_Actions), (.slice A_p0_set p0.set.length c_p0_set), (.slice A_p0_does p0.does.length c_p0_does), (.int .i64 p0.base)] 96 (0, 0)), rowR enc_Action A_p0_m_Actions c_p0_m_Actions p0.m.Actions, rowR enc_Tile A_p0_set c_p0_set p0.set, rowR encInt A_p0_does c_p0_does p0.does] [blk g551 (.cells #[(.int .i64 p3.Write), (.int .i64 p3.Move), (.int .i64 p3.Next)] 88 (0, 0)), blk g555 (.cells #[(.int .i64 0), (.int .i64 0), (.int .i64 0), (.int .i64 0)] 65 (0, 0)), blk t.2 (.cells #[(.int .i64 t.1.1), (.int .i64 t.1.2.1), (.int .i64 t.1.2.2.1), (.int .i64 t.1.2.2.2)] 65 (0, 0))] ∧ x603 = t.1) (fun Kx603 => ?_) ?_
  ·
    refine WC.regionD ([(1, ⟨g551, 0, none⟩, (.int .i64 p3.Write)), (5, ⟨g_p0, 0, none⟩, (.int .i64 p0.m.States)), (5, ⟨g_p0, 1, none⟩, (.int .i64 p0.m.Symbols)), (5, ⟨g_p0, 2, none⟩, (.slice A_p0_m_Actions p0.m.Actions.length c_p0_m_Actions))], [0, 1, 2, 3, 4, 5, 6, 7, 9], [[], [0], [], [2], [2, 3], [2, 3, 4], [], [], [2, 3, 4, 5, 6, 7], [0, 1, 2, 3, 4, 5, 6, 7, 8], [], [0, 1, 2, 3, 4, 5, 6, 7, 8, 9, 10]]) [[0, 1, 2, 3, 4, 5, 6, 7, 8, 9, 10, 11], [0, 1, 2, 3, 4, 5, 6, 7, 10, 8, 9, 11]] (by kernel_rfl) (by kernel_rfl) (NoPanic.seq (NoPanic.body)) ?_
    have hS606 := hS557.drew
    revert hS606
    generalize World.drew w556 = w605
    intro hS606
    refine ⟨⟨hS606.cell 1 rfl 0 rfl, blk_cell (hS606.rd 0).1 0 rfl, blk_cell (hS606.rd 0).1 1 rfl, blk_cell (hS606.rd 0).1 2 rfl, trivial⟩, forallC ?_ (forallC ?_ (forallN))⟩
    ·
      refine segF 8 [.v (.int .i64 p3.Write), .v (.int .i64 p0.m.States), .v (.int .i64 p0.m.Symbols), .v (.slice A_p0_m_Actions p0.m.Actions.length c_p0_m_Actions)] [0, 7, 8, 12, 16, 17, 18] [(0, (.pointer (some ⟨g_p0, 0, none⟩))), (7, (.pointer (some ⟨g551, 0, none⟩))), (8, (.pointer (some ⟨g555, 0, none⟩))), (12, (.int .i64 p3.Write)), (16, (.agg #[(.int .i64 p0.m.States), (.int .i64 p0.m.Symbols), (.slice A_p0_m_Actions p0.m.Actions.length c_p0_m_Actions)])), (17, (.int .i64 p1)), (18, (.int .i64 p2))] [] [0, 1, 2, 3] [(1, ⟨g551, 0, none⟩, (.int .i64 p3.Write)), (5, ⟨g_p0, 0, none⟩, (.int .i64 p0.m.States)), (5, ⟨g_p0, 1, none⟩, (.int .i64 p0.m.Symbols)), (5, ⟨g_p0, 2, none⟩, (.slice A_p0_m_Actions p0.m.Actions.length c_p0_m_Actions))] (fun fb => by kernel_rfl) rfl trivial rfl ?_
      obtain ⟨t607, ht608, hx604⟩ := bind_some hx604
      refine WL.call (some 19) 61 #[(.agg #[(.int .i64 p0.m.States), (.int .i64 p0.m.Symbols), (.slice A_p0_m_Actions p0.m.Actions.length c_p0_m_Actions)]), (.int .i64 p1), (.int .i64 p2)] (fun fb => by kernel_rfl) (machine_head_calls p0.m p1 p2 A_p0_m_Actions c_p0_m_Actions t607 _ (hS606.rd 1) ht608) (fun v w609 hR610 => ?_)
      obtain ⟨rfl, hk_⟩ := hR610
      have hS611 := hS606.keepN hk_
      refine ⟨⟨hS611.cell 1 rfl 0 rfl, trivial⟩, ?_⟩
      refine seg 10 [] [0, 7, 8, 20] [(0, (.pointer (some ⟨g_p0, 0, none⟩))), (7, (.pointer (some ⟨g551, 0, none⟩))), (8, (.pointer (some ⟨g555, 0, none⟩))), (20, (.agg #[(.int .i64 p3.Write), (.int .i64 0), (.int .i64 t607), (.int .i64 0)]))] [] (fun fb => by kernel_rfl) rfl trivial ?_
      refine WL.new hS611 9 [] (fun g => (.pointer (some ⟨g, 0, none⟩))) (.cells #[(.int .i64 0), (.int .i64 0), (.int .i64 0), (.int .i64 0)] 65 (0, 0)) [] (fun fb g => by kernel_rfl) trivial (fun g612 w613 hS614 => ?_)
      refine ⟨⟨hS614.cell 2 rfl 0 rfl, blk_cell (hS614.rd 0).1 0 rfl, blk_cell (hS614.rd 0).1 1 rfl, blk_cell (hS614.rd 0).1 2 rfl, trivial⟩, ?_⟩
      refine WL.store hS614 0 rfl [(0, (.int .i64 p3.Write)), (1, (.int .i64 0)), (2, (.int .i64 t607)), (3, (.int .i64 0))] #[(.int .i64 p3.Write), (.int .i64 0), (.int .i64 t607), (.int .i64 0)] (fun fb => by kernel_rfl) (by kernel_rfl) rfl [1, 2] (by decide) (by decide) (fun w616 hS617 => ?_)
      refine ⟨trivial, ?_⟩
      refine WL.done rfl ?_
      injection hx604 with hx604
      exact WX.to Kx603 ((p3.Write, 0, t607, 0), g612) [0, 7, 8, 9] rfl ⟨(hS617.subR [0, 1, 2, 3]).sub [2, 1, 0] (by decide), hx604.symm⟩
    refine segF 8 [.v (.int .i64 p3.Write), .v (.int .i64 p0.m.States), .v (.int .i64 p0.m.Symbols), .v (.slice A_p0_m_Actions p0.m.Actions.length c_p0_m_Actions)] [0, 7, 8, 12, 16, 17, 18] [(0, (.pointer (some ⟨g_p0, 0, none⟩))), (7, (.pointer (some ⟨g551, 0, none⟩))), (8, (.pointer (some ⟨g555, 0, none⟩))), (12, (.int .i64 p3.Write)), (16, (.agg #[(.int .i64 p0.m.States), (.int .i64 p0.m.Symbols), (.slice A_p0_m_Actions p0.m.Actions.length c_p0_m_Actions)])), (17, (.int .i64 p1)), (18, (.int .i64 p2))] [] [0, 1, 2, 3] [(1, ⟨g551, 0, none⟩, (.int .i64 p3.Write)), (5, ⟨g_p0, 0, none⟩, (.int .i64 p0.m.States)), (5, ⟨g_p0, 1, none⟩, (.int .i64 p0.m.Symbols)), (5, ⟨g_p0, 2, none⟩, (.slice A_p0_m_Actions p0.m.Actions.length c_p0_m_Actions))] (fun fb => by kernel_rfl) rfl trivial rfl ?_
    refine WL.new hS606 9 [] (fun g => (.pointer (some ⟨g, 0, none⟩))) (.cells #[(.int .i64 0), (.int .i64 0), (.int .i64 0), (.int .i64 0)] 65 (0, 0)) [] (fun fb g => by kernel_rfl) trivial (fun g618 w619 hS620 => ?_)
    refine ⟨⟨hS620.cell 2 rfl 0 rfl, blk_cell (hS620.rd 0).1 0 rfl, blk_cell (hS620.rd 0).1 1 rfl, blk_cell (hS620.rd 0).1 2 rfl, trivial⟩, ?_⟩
    obtain ⟨t622, ht623, hx604⟩ := bind_some hx604
    refine WL.call (some 19) 61 #[(.agg #[(.int .i64 p0.m.States), (.int .i64 p0.m.Symbols), (.slice A_p0_m_Actions p0.m.Actions.length c_p0_m_Actions)]), (.int .i64 p1), (.int .i64 p2)] (fun fb => by kernel_rfl) (machine_head_calls p0.m p1 p2 A_p0_m_Actions c_p0_m_Actions t622 _ (hS620.rd 1) ht623) (fun v w624 hR625 => ?_)
    obtain ⟨rfl, hk_⟩ := hR625
    have hS626 := hS620.keepN hk_
    refine ⟨⟨hS626.cell 2 rfl 0 rfl, trivial⟩, ?_⟩
    refine seg 11 [] [0, 7, 8, 9, 20] [(0, (.pointer (some ⟨g_p0, 0, none⟩))), (7, (.pointer (some ⟨g551, 0, none⟩))), (8, (.pointer (some ⟨g555, 0, none⟩))), (9, (.pointer (some ⟨g618, 0, none⟩))), (20, (.agg #[(.int .i64 p3.Write), (.int .i64 0), (.int .i64 t622), (.int .i64 0)]))] [] (fun fb => by kernel_rfl) rfl trivial ?_
    refine WL.store hS626 0 rfl [(0, (.int .i64 p3.Write)), (1, (.int .i64 0)), (2, (.int .i64 t622)), (3, (.int .i64 0))] #[(.int .i64 p3.Write), (.int .i64 0), (.int .i64 t622), (.int .i64 0)] (fun fb => by kernel_rfl) (by kernel_rfl) rfl [1, 2] (by decide) (by decide) (fun w627 hS628 => ?_)
    refine ⟨trivial, ?_⟩
    refine WL.done rfl ?_
    injection hx604 with hx604
    exact WX.to Kx603 ((p3.Write, 0, t622, 0), g618) [0, 7, 8, 9] rfl ⟨(hS628.subR [0, 1, 2, 3]).sub [2, 1, 0] (by decide), hx604.symm⟩
  rintro ⟨y632, g598⟩ w629 ⟨hS630, hq631⟩
  subst hq631
  refine WX.next ?_
  refine WC.seq ?_
  refine WC.region ?_
  refine seg 5 [.v (.int .i64 p3.Move)] [0, 7, 8, 9, 23, 25] [(0, (.pointer (some ⟨g_p0, 0, none⟩))), (7, (.pointer (some ⟨g551, 0, none⟩))), (8, (.pointer (some ⟨g555, 0, none⟩))), (9, (.pointer (some ⟨g598, 0, none⟩))), (23, (.agg #[(.pointer (some ⟨g598, 3, none⟩)), (.pointer (some ⟨g598, 1, none⟩))])), (25, (.int .i64 p3.Move))] [.cell ⟨g551, 1, none⟩ (.int .i64 p3.Move)] (fun fb => by kernel_rfl) rfl ⟨hS630.cell 0 rfl 1 rfl, trivial⟩ ?_
  rcases br_some hf with ⟨h633, hf⟩ | ⟨h633, hf⟩
  ·
    refine WL.setI 25 (eq_of_beq h633) rfl ?_
    refine seg 7 [] [0, 7, 8, 9, 10] [(0, (.pointer (some ⟨g_p0, 0, none⟩))), (7, (.pointer (some ⟨g551, 0, none⟩))), (8, (.pointer (some ⟨g555, 0, none⟩))), (9, (.pointer (some ⟨g598, 0, none⟩))), (10, (.pointer (some ⟨g598, 3, none⟩)))] [] (fun fb => by kernel_rfl) rfl trivial ?_
    refine WL.done rfl ?_
    refine WX.next ?_
    refine WC.seq ?_
    refine WC.region ?_
    refine seg 6 [.v (.int .i64 p3.Move), .v (.int .i64 p3.Next)] [8, 9, 27, 28, 30, 32] [(8, (.pointer (some ⟨g555, 0, none⟩))), (9, (.pointer (some ⟨g598, 0, none⟩))), (27, (.pointer (some ⟨g598, 3, none⟩))), (28, (.pointer (some ⟨g_p0, 0, none⟩))), (30, (.int .i64 p3.Move)), (32, (.int .i64 p3.Next))] [.cell ⟨g551, 1, none⟩ (.int .i64 p3.Move), .cell ⟨g551, 2, none⟩ (.int .i64 p3.Next)] (fun fb => by kernel_rfl) rfl ⟨hS630.cell 0 rfl 1 rfl, hS630.cell 0 rfl 2 rfl, trivial⟩ ?_
    obtain ⟨t635, ht636, hf⟩ := bind_some hf
    refine WL.call (some 33) 62 #[(.pointer (some ⟨g_p0, 0, none⟩)), (.int .i64 p3.Move), (.int .i64 p3.Next)] (fun fb => by kernel_rfl) (machine_kit_signal_calls p0 p3.Move p3.Next g_p0 A_p0_m_Actions c_p0_m_Actions A_p0_set c_p0_set A_p0_does c_p0_does t635 _ (hS630.rd 0) (hS630.rd 1) (hS630.rd 2) (hS630.rd 3) ht636) (fun v w637 hR638 => ?_)
    obtain ⟨rfl, hk_⟩ := hR638
    have hS639 := hS630.keepN hk_
    refine ⟨trivial, ?_⟩
    refine seg 8 [] [8, 9, 33, 34] [(8, (.pointer (some ⟨g555, 0, none⟩))), (9, (.pointer (some ⟨g598, 0, none⟩))), (33, (.int .i64 t635)), (34, (.pointer (some ⟨g598, 3, none⟩)))] [] (fun fb => by kernel_rfl) rfl trivial ?_
    refine WL.store hS639 2 rfl [(3, (.int .i64 t635))] #[(.int .i64 x603.1), (.int .i64 x603.2.1), (.int .i64 x603.2.2.1), (.int .i64 t635)] (fun fb => by kernel_rfl) (by kernel_rfl) rfl [0, 1] (by decide) (by decide) (fun w640 hS641 => ?_)
    refine ⟨trivial, ?_⟩
    refine WL.done rfl ?_
    refine WX.next ?_
    refine WC.seq ?_
    refine WC.region ?_
    refine seg 1 [.v (.int .i64 x603.1), .v (.int .i64 x603.2.1), .v (.int .i64 x603.2.2.1), .v (.int .i64 t635)] [8, 35] [(8, (.pointer (some ⟨g555, 0, none⟩))), (35, (.agg #[(.int .i64 x603.1), (.int .i64 x603.2.1), (.int .i64 x603.2.2.1), (.int .i64 t635)]))] [.cell ⟨g598, 0, none⟩ (.int .i64 x603.1), .cell ⟨g598, 1, none⟩ (.int .i64 x603.2.1), .cell ⟨g598, 2, none⟩ (.int .i64 x603.2.2.1), .cell ⟨g598, 3, none⟩ (.int .i64 t635)] (fun fb => by kernel_rfl) rfl ⟨hS641.cell 0 rfl 0 rfl, hS641.cell 0 rfl 1 rfl, hS641.cell 0 rfl 2 rfl, hS641.cell 0 rfl 3 rfl, trivial⟩ ?_
    refine WL.store hS641 2 rfl [(0, (.int .i64 x603.1)), (1, (.int .i64 x603.2.1)), (2, (.int .i64 x603.2.2.1)), (3, (.int .i64 t635))] #[(.int .i64 x603.1), (.int .i64 x603.2.1), (.int .i64 x603.2.2.1), (.int .i64 t635)] (fun fb => by kernel_rfl) (by kernel_rfl) rfl [0, 1] (by decide) (by decide) (fun w642 hS643 => ?_)
    refine ⟨trivial, ?_⟩
    refine WL.done rfl ?_
    refine WX.next ?_
    refine WC.ret ?_
    injection hf with hf
    subst hf
    exact WX.ret_ [.v (.int .i64 x603.1), .v (.int .i64 x603.2.1), .v (.int .i64 x603.2.2.1), .v (.int .i64 t635)] (.agg #[(.int .i64 x603.1), (.int .i64 x603.2.1), (.int .i64 x603.2.2.1), (.int .i64 t635)]) [.cell ⟨g555, 0, none⟩ (.int .i64 x603.1), .cell ⟨g555, 1, none⟩ (.int .i64 x603.2.1), .cell ⟨g555, 2, none⟩ (.int .i64 x603.2.2.1), .cell ⟨g555, 3, none⟩ (.int .i64 t635)] (fun fb => by kernel_rfl) ⟨hS643.cell 0 rfl 0 rfl, hS643.cell 0 rfl 1 rfl, hS643.cell 0 rfl 2 rfl, hS643.cell 0 rfl 3 rfl, trivial⟩ ⟨_, rfl, rfl, hS643.keep⟩
  rcases br_some hf with ⟨h644, hf⟩ | ⟨h644, hf⟩
  ·
    refine WL.setI 25 (eq_of_beq h644) rfl ?_
    refine seg 7 [] [0, 7, 8, 9, 10] [(0, (.pointer (some ⟨g_p0, 0, none⟩))), (7, (.pointer (some ⟨g551, 0, none⟩))), (8, (.pointer (some ⟨g555, 0, none⟩))), (9, (.pointer (some ⟨g598, 0, none⟩))), (10, (.pointer (some ⟨g598, 1, none⟩)))] [] (fun fb => by kernel_rfl) rfl trivial ?_
    refine WL.done rfl ?_
    refine WX.next ?_
    refine WC.seq ?_
    refine WC.region ?_
    refine seg 6 [.v (.int .i64 p3.Move), .v (.int .i64 p3.Next)] [8, 9, 27, 28, 30, 32] [(8, (.pointer (some ⟨g555, 0, none⟩))), (9, (.pointer (some ⟨g598, 0, none⟩))), (27, (.pointer (some ⟨g598, 1, none⟩))), (28, (.pointer (some ⟨g_p0, 0, none⟩))), (30, (.int .i64 p3.Move)), (32, (.int .i64 p3.Next))] [.cell ⟨g551, 1, none⟩ (.int .i64 p3.Move), .cell ⟨g551, 2, none⟩ (.int .i64 p3.Next)] (fun fb => by kernel_rfl) rfl ⟨hS630.cell 0 rfl 1 rfl, hS630.cell 0 rfl 2 rfl, trivial⟩ ?_
    obtain ⟨t645, ht646, hf⟩ := bind_some hf
    refine WL.call (some 33) 62 #[(.pointer (some ⟨g_p0, 0, none⟩)), (.int .i64 p3.Move), (.int .i64 p3.Next)] (fun fb => by kernel_rfl) (machine_kit_signal_calls p0 p3.Move p3.Next g_p0 A_p0_m_Actions c_p0_m_Actions A_p0_set c_p0_set A_p0_does c_p0_does t645 _ (hS630.rd 0) (hS630.rd 1) (hS630.rd 2) (hS630.rd 3) ht646) (fun v w647 hR648 => ?_)
    obtain ⟨rfl, hk_⟩ := hR648
    have hS649 := hS630.keepN hk_
    refine ⟨trivial, ?_⟩
    refine seg 8 [] [8, 9, 33, 34] [(8, (.pointer (some ⟨g555, 0, none⟩))), (9, (.pointer (some ⟨g598, 0, none⟩))), (33, (.int .i64 t645)), (34, (.pointer (some ⟨g598, 1, none⟩)))] [] (fun fb => by kernel_rfl) rfl trivial ?_
    refine WL.store hS649 2 rfl [(1, (.int .i64 t645))] #[(.int .i64 x603.1), (.int .i64 t645), (.int .i64 x603.2.2.1), (.int .i64 x603.2.2.2)] (fun fb => by kernel_rfl) (by kernel_rfl) rfl [0, 1] (by decide) (by decide) (fun w650 hS651 => ?_)
    refine ⟨trivial, ?_⟩
    refine WL.done rfl ?_
    refine WX.next ?_
    refine WC.seq ?_
    refine WC.region ?_
    refine seg 1 [.v (.int .i64 x603.1), .v (.int .i64 t645), .v (.int .i64 x603.2.2.1), .v (.int .i64 x603.2.2.2)] [8, 35] [(8, (.pointer (some ⟨g555, 0, none⟩))), (35, (.agg #[(.int .i64 x603.1), (.int .i64 t645), (.int .i64 x603.2.2.1), (.int .i64 x603.2.2.2)]))] [.cell ⟨g598, 0, none⟩ (.int .i64 x603.1), .cell ⟨g598, 1, none⟩ (.int .i64 t645), .cell ⟨g598, 2, none⟩ (.int .i64 x603.2.2.1), .cell ⟨g598, 3, none⟩ (.int .i64 x603.2.2.2)] (fun fb => by kernel_rfl) rfl ⟨hS651.cell 0 rfl 0 rfl, hS651.cell 0 rfl 1 rfl, hS651.cell 0 rfl 2 rfl, hS651.cell 0 rfl 3 rfl, trivial⟩ ?_
    refine WL.store hS651 2 rfl [(0, (.int .i64 x603.1)), (1, (.int .i64 t645)), (2, (.int .i64 x603.2.2.1)), (3, (.int .i64 x603.2.2.2))] #[(.int .i64 x603.1), (.int .i64 t645), (.int .i64 x603.2.2.1), (.int .i64 x603.2.2.2)] (fun fb => by kernel_rfl) (by kernel_rfl) rfl [0, 1] (by decide) (by decide) (fun w652 hS653 => ?_)
    refine ⟨trivial, ?_⟩
    refine WL.done rfl ?_
    refine WX.next ?_
    refine WC.ret ?_
    injection hf with hf
    subst hf
    exact WX.ret_ [.v (.int .i64 x603.1), .v (.int .i64 t645), .v (.int .i64 x603.2.2.1), .v (.int .i64 x603.2.2.2)] (.agg #[(.int .i64 x603.1), (.int .i64 t645), (.int .i64 x603.2.2.1), (.int .i64 x603.2.2.2)]) [.cell ⟨g555, 0, none⟩ (.int .i64 x603.1), .cell ⟨g555, 1, none⟩ (.int .i64 t645), .cell ⟨g555, 2, none⟩ (.int .i64 x603.2.2.1), .cell ⟨g555, 3, none⟩ (.int .i64 x603.2.2.2)] (fun fb => by kernel_rfl) ⟨hS653.cell 0 rfl 0 rfl, hS653.cell 0 rfl 1 rfl, hS653.cell 0 rfl 2 rfl, hS653.cell 0 rfl 3 rfl, trivial⟩ ⟨_, rfl, rfl, hS653.keep⟩
  cases hf
theorem machine_kitOf_calls (k : Nat) (p0 : Machine) (A_p0_Actions : Option Addr) (c_p0_Actions : Nat) (r : Kit) (w : World) (hR0 : RO NoS w (rowR enc_Action A_p0_Actions c_p0_Actions p0.Actions)) (hf : machine_kitOf k p0 = some r) :
    CallsR Try.prog 41 #[(.agg #[(.int .i64 p0.States), (.int .i64 p0.Symbols), (.slice A_p0_Actions p0.Actions.length c_p0_Actions)])] w (fun v w' => ∃ (g1_ : Nat), ∃ (A2_ : Option Addr), ∃ (c2_ : Nat), ∃ (A3_ : Option Addr), ∃ (c3_ : Nat), v = (.pointer (some ⟨g1_, 0, none⟩)) ∧ St NoS w w' [] [blk g1_ (.cells #[(.int .i64 r.m.States), (.int .i64 r.m.Symbols), (.slice A_p0_Actions p0.Actions.length c_p0_Actions), (.slice A2_ r.set.length c2_), (.slice A3_ r.does.length c3_), (.int .i64 r.base)] 96 (0, 0)), rowO 65 enc_Tile A2_ c2_ r.set, rowO 3 encInt A3_ c3_ r.does]) := by
  have hS : St NoS w w [rowR enc_Action A_p0_Actions c_p0_Actions p0.Actions] [] := St.init (ro_cons hR0 (ro_nil _ _))
  refine enter 134 Try.func41 rfl Try.ntmps41 rfl ?_
  unfold machine_kitOf at hf
  refine WC.seq ?_
  refine WC.region ?_
  refine WL.new hS 1 [] (fun g => (.pointer (some ⟨g, 0, none⟩))) (.cells #[(.int .i64 p0.States), (.int .i64 p0.Symbols), (.slice A_p0_Actions p0.Actions.length c_p0_Actions)] 24 (0, 0)) [] (fun fb g => by kernel_rfl) trivial (fun g429 w430 hS431 => ?_)
  refine ⟨trivial, ?_⟩
  refine seg 2 [] [1] [(1, (.pointer (some ⟨g429, 0, none⟩)))] [] (fun fb => by kernel_rfl) rfl trivial ?_
  refine WL.done rfl ?_
  refine WX.next ?_
  refine WC.seq ?_
  refine WC.region ?_
  refine seg 2 [.v (.int .i64 p0.States), .v (.int .i64 p0.Symbols), .v (.slice A_p0_Actions p0.Actions.length c_p0_Actions)] [1, 11] [(1, (.pointer (some ⟨g429, 0, none⟩))), (11, (.agg #[(.int .i64 p0.States), (.int .i64 p0.Symbols), (.slice A_p0_Actions p0.Actions.length c_p0_Actions), (.slice none 0 0), (.slice none 0 0), (.int .i64 0)]))] [.cell ⟨g429, 0, none⟩ (.int .i64 p0.States), .cell ⟨g429, 1, none⟩ (.int .i64 p0.Symbols), .cell ⟨g429, 2, none⟩ (.slice A_p0_Actions p0.Actions.length c_p0_Actions)] (fun fb => by kernel_rfl) rfl ⟨hS431.cell 0 rfl 0 rfl, hS431.cell 0 rfl 1 rfl, hS431.cell 0 rfl 2 rfl, trivial⟩ ?_
  refine WL.new hS431 12 [] (fun g => (.pointer (some ⟨g, 0, none⟩))) (.cells #[(.int .i64 p0.States), (.int .i64 p0.Symbols), (.slice A_p0_Actions p0.Actions.length c_p0_Actions), (.slice none 0 0), (.slice none 0 0), (.int .i64 0)] 96 (0, 0)) [] (fun fb g => by kernel_rfl) trivial (fun g433 w434 hS435 => ?_)
  refine ⟨trivial, ?_⟩
  refine seg 4 [] [1, 3] [(1, (.pointer (some ⟨g429, 0, none⟩))), (3, (.pointer (some ⟨g433, 0, none⟩)))] [] (fun fb => by kernel_rfl) rfl trivial ?_
  refine WL.done rfl ?_
  refine WX.next ?_
  refine WC.seq ?_
  refine WC.seq ?_
  refine WC.region ?_
  refine seg 3 [.v (.int .i64 p0.Symbols)] [1, 3, 14, 15] [(1, (.pointer (some ⟨g429, 0, none⟩))), (3, (.pointer (some ⟨g433, 0, none⟩))), (14, (.int .i64 p0.Symbols)), (15, (.int .i64 0))] [.cell ⟨g429, 1, none⟩ (.int .i64 p0.Symbols)] (fun fb => by kernel_rfl) rfl ⟨hS435.cell 1 rfl 1 rfl, trivial⟩ ?_
  refine WL.done rfl ?_
  refine WX.next ?_
  have hS469 := hS435.nilrow 65 enc_Tile
  obtain ⟨x477, hx478, hf⟩ := bind_some hf
  refine WC.cutN (T := (List Tile) × (Option Addr) × Nat) (fun t => [(1, (.pointer (some ⟨g429, 0, none⟩))), (3, (.pointer (some ⟨g433, 0, none⟩)))]) (fun t w1 => St NoS w w1 [rowR enc_Action A_p0_Actions c_p0_Actions p0.Actions] [blk g429 (.cells #[(.int .i64 p0.States), (.int .i64 p0.Symbols), (.slice A_p0_Actions p0.Actions.length c_p0_Actions)] 24 (0, 0)), blk g433 (.cells #[(.int .i64 p0.States), (.int .i64 p0.Symbols), (.slice A_p0_Actions p0.Actions.length c_p0_Actions), (.slice t.2.1 t.1.length t.2.2), (.slice none 0 0), (.int .i64 0)] 96 (0, 0)), rowO 65 enc_Tile t.2.1 t.2.2 t.1] ∧ x477 = t.1) (fun Kx477 => ?_) ?_
  ·
    refine WC.block ?_
    refine WC.loop (T := ((List Tile) × Int) × (Option Addr) × Nat) (fun t => [(1, (.pointer (some ⟨g429, 0, none⟩))), (3, (.pointer (some ⟨g433, 0, none⟩))), (14, (.int .i64 p0.Symbols)), (15, (.int .i64 t.1.2))]) (fun n t w1 => St NoS w w1 [rowR enc_Action A_p0_Actions c_p0_Actions p0.Actions] [blk g429 (.cells #[(.int .i64 p0.States), (.int .i64 p0.Symbols), (.slice A_p0_Actions p0.Actions.length c_p0_Actions)] 24 (0, 0)), blk g433 (.cells #[(.int .i64 p0.States), (.int .i64 p0.Symbols), (.slice A_p0_Actions p0.Actions.length c_p0_Actions), (.slice t.2.1 t.1.1.length t.2.2), (.slice none 0 0), (.int .i64 0)] 96 (0, 0)), rowO 65 enc_Tile t.2.1 t.2.2 t.1.1] ∧ machine_kitOf.l0 n t.1.1 t.1.2 p0 = some x477) k ((([] : List Tile), 0), none, 0) [1, 3, 14, 15] rfl ⟨(hS469.subR [0]).sub [2, 1, 0] (by decide), hx478⟩ ?_
    rintro k479 ⟨⟨l472, x473⟩, A470, c471⟩ w480 ⟨hS481, hl482⟩
    cases k479 with
    | zero => rw [machine_kitOf.l0] at hl482; cases hl482
    | succ k479 =>
      rw [machine_kitOf.l0] at hl482
      refine WC.seq ?_
      refine WC.region ?_
      refine seg 1 [] [1, 3, 14, 15, 16] [(1, (.pointer (some ⟨g429, 0, none⟩))), (3, (.pointer (some ⟨g433, 0, none⟩))), (14, (.int .i64 p0.Symbols)), (15, (.int .i64 x473)), (16, (.bool (decide (x473 < p0.Symbols))))] [] (fun fb => by kernel_rfl) rfl trivial ?_
      refine WL.done rfl ?_
      refine WX.next ?_
      refine WC.seq ?_
      rcases br_some hl482 with ⟨h483, hl482⟩ | ⟨h483, hl482⟩
      · refine WC.condT2 (fun fb => by kernel_rfl) h483 ?_
        refine WC.skip ?_
        refine WX.next ?_
        refine WC.seq ?_
        refine WC.block ?_
        refine WC.seq ?_
        refine WC.region ?_
        refine seg 2 [] [1, 3, 4, 14, 15] [(1, (.pointer (some ⟨g429, 0, none⟩))), (3, (.pointer (some ⟨g433, 0, none⟩))), (4, (.int .i64 x473)), (14, (.int .i64 p0.Symbols)), (15, (.int .i64 x473))] [] (fun fb => by kernel_rfl) rfl trivial ?_
        refine WL.done rfl ?_
        refine WX.next ?_
        refine WC.region ?_
        refine seg 8 [.v (.slice A470 l472.length c471)] [1, 3, 14, 15, 18, 22, 25] [(1, (.pointer (some ⟨g429, 0, none⟩))), (3, (.pointer (some ⟨g433, 0, none⟩))), (14, (.int .i64 p0.Symbols)), (15, (.int .i64 x473)), (18, (.pointer (some ⟨g433, 0, none⟩))), (22, (.slice A470 l472.length c471)), (25, (.agg #[(.int .i64 x473), (.int .i64 0), (.int .i64 x473), (.int .i64 0)]))] [.cell ⟨g433, 3, none⟩ (.slice A470 l472.length c471)] (fun fb => by kernel_rfl) rfl ⟨hS481.cell 1 rfl 3 rfl, trivial⟩ ?_
        refine WL.new hS481 26 [] (fun g => (.slice (some ⟨g, 0, none⟩) 1 1)) (.cells #[(.int .i64 x473), (.int .i64 0), (.int .i64 x473), (.int .i64 0)] 65 (0, 0)) [] (fun fb g => by kernel_rfl) trivial (fun g484 w485 hS486 => ?_)
        refine ⟨trivial, ?_⟩
        have hS488 : St NoS w w485 [rowR enc_Action A_p0_Actions c_p0_Actions p0.Actions] [rowO 65 enc_Tile (some ⟨g484, 0, none⟩) 1 [(Tile.mk x473 0 x473 0)], blk g429 (.cells #[(.int .i64 p0.States), (.int .i64 p0.Symbols), (.slice A_p0_Actions p0.Actions.length c_p0_Actions)] 24 (0, 0)), blk g433 (.cells #[(.int .i64 p0.States), (.int .i64 p0.Symbols), (.slice A_p0_Actions p0.Actions.length c_p0_Actions), (.slice A470 l472.length c471), (.slice none 0 0), (.int .i64 0)] 96 (0, 0)), rowO 65 enc_Tile A470 c471 l472] := hS486.map1 0 _ (fun h => rowO.ofBlk h rfl (Nat.le_of_ble_eq_true (by kernel_rfl))) (fun _ h => by obtain ⟨_, h1, h2⟩ := h; injection h1 with h1; subst h1; exact h2) [1, 2, 3] (by decide) (by decide)
        obtain ⟨h489, hl482⟩ := as_some hl482
        refine WL.append hS488 3 (d := 27) (tS := 50) (z := (.agg #[(.int .i64 0), (.int .i64 0), (.int .i64 0), (.int .i64 0)])) (bytes := 32) (c2 := 1) rfl (fun fb => by kernel_rfl) (rowO.rd (hS488.own 0).1) (by kernel_rfl) (by kernel_rfl) rfl (by decide) h489 (by decide) [0, 1, 2] (by decide) (by decide) (fun A490 c491 w492 hS493 => ?_)
        refine ⟨trivial, ?_⟩
        refine seg 12 [] [1, 3, 14, 15, 27, 29] [(1, (.pointer (some ⟨g429, 0, none⟩))), (3, (.pointer (some ⟨g433, 0, none⟩))), (14, (.int .i64 p0.Symbols)), (15, (.int .i64 x473)), (27, (.slice A490 (l472 ++ [(Tile.mk x473 0 x473 0)]).length c491)), (29, (.pointer (some ⟨g433, 3, none⟩)))] [] (fun fb => by kernel_rfl) rfl trivial ?_
        refine WL.store hS493 3 rfl [(3, (.slice A490 (l472 ++ [(Tile.mk x473 0 x473 0)]).length c491))] #[(.int .i64 p0.States), (.int .i64 p0.Symbols), (.slice A_p0_Actions p0.Actions.length c_p0_Actions), (.slice A490 (l472 ++ [(Tile.mk x473 0 x473 0)]).length c491), (.slice none 0 0), (.int .i64 0)] (fun fb => by kernel_rfl) (by kernel_rfl) rfl [0, 1, 2] (by decide) (by decide) (fun w494 hS495 => ?_)
        refine ⟨trivial, ?_⟩
        refine WL.done rfl ?_
        refine WX.blockN (WX.next ?_)
        refine WC.region ?_
        refine seg 2 [] [1, 3, 14, 15] [(1, (.pointer (some ⟨g429, 0, none⟩))), (3, (.pointer (some ⟨g433, 0, none⟩))), (14, (.int .i64 p0.Symbols)), (15, (.int .i64 (w64 (x473 + 1))))] [] (fun fb => by kernel_rfl) rfl trivial ?_
        refine WL.done rfl ?_
        exact WX.again k479 (Nat.lt_succ_self _) ((l472 ++ [(Tile.mk x473 0 x473 0)], w64 (x473 + 1)), A490, c491) [1, 3, 14, 15] rfl ⟨(hS495.subR [0]).sub [3, 0, 1] (by decide), hl482⟩
      refine WC.condF2 (fun fb => by kernel_rfl) h483 ?_
      refine WC.exit ?_
      injection hl482 with hl482
      exact WX.thenX (WX.thenX (WX.blockHere (WX.to Kx477 (l472, A470, c471) [1, 3] rfl ⟨(hS481.subR [0]).sub [0, 1, 2] (by decide), hl482.symm⟩)))
  rintro ⟨y499, A474, c475⟩ w496 ⟨hS497, hq498⟩
  subst hq498
  refine WX.next ?_
  refine WC.seq ?_
  refine WC.seq ?_
  refine WC.region ?_
  refine seg 4 [.v (.slice A_p0_Actions p0.Actions.length c_p0_Actions)] [1, 3, 32, 33, 34] [(1, (.pointer (some ⟨g429, 0, none⟩))), (3, (.pointer (some ⟨g433, 0, none⟩))), (32, (.slice A_p0_Actions p0.Actions.length c_p0_Actions)), (33, (.int .i64 (p0.Actions.length : Int))), (34, (.int .i64 0))] [.cell ⟨g429, 2, none⟩ (.slice A_p0_Actions p0.Actions.length c_p0_Actions)] (fun fb => by kernel_rfl) rfl ⟨hS497.cell 0 rfl 2 rfl, trivial⟩ ?_
  refine WL.done rfl ?_
  refine WX.next ?_
  have hS983 := hS497.nilrow 3 encInt
  obtain ⟨x997, hx998, hf⟩ := bind_some hf
  refine WC.cutN (T := ((List Tile) × (List Int)) × (Option Addr) × Nat × (Option Addr) × Nat) (fun t => [(1, (.pointer (some ⟨g429, 0, none⟩))), (3, (.pointer (some ⟨g433, 0, none⟩)))]) (fun t w1 => St NoS w w1 [rowR enc_Action A_p0_Actions c_p0_Actions p0.Actions] [blk g429 (.cells #[(.int .i64 p0.States), (.int .i64 p0.Symbols), (.slice A_p0_Actions p0.Actions.length c_p0_Actions)] 24 (0, 0)), blk g433 (.cells #[(.int .i64 p0.States), (.int .i64 p0.Symbols), (.slice A_p0_Actions p0.Actions.length c_p0_Actions), (.slice t.2.1 t.1.1.length t.2.2.1), (.slice t.2.2.2.1 t.1.2.length t.2.2.2.2), (.int .i64 0)] 96 (0, 0)), rowO 65 enc_Tile t.2.1 t.2.2.1 t.1.1, rowO 3 encInt t.2.2.2.1 t.2.2.2.2 t.1.2] ∧ x997 = t.1) (fun Kx997 => ?_) ?_
  ·
    refine WC.block ?_
    refine WC.loop (T := ((List Tile) × (List Int) × Int) × (Option Addr) × Nat × (Option Addr) × Nat) (fun t => [(1, (.pointer (some ⟨g429, 0, none⟩))), (3, (.pointer (some ⟨g433, 0, none⟩))), (32, (.slice A_p0_Actions p0.Actions.length c_p0_Actions)), (33, (.int .i64 (p0.Actions.length : Int))), (34, (.int .i64 t.1.2.2))]) (fun n t w1 => St NoS w w1 [rowR enc_Action A_p0_Actions c_p0_Actions p0.Actions] [blk g429 (.cells #[(.int .i64 p0.States), (.int .i64 p0.Symbols), (.slice A_p0_Actions p0.Actions.length c_p0_Actions)] 24 (0, 0)), blk g433 (.cells #[(.int .i64 p0.States), (.int .i64 p0.Symbols), (.slice A_p0_Actions p0.Actions.length c_p0_Actions), (.slice t.2.1 t.1.1.length t.2.2.1), (.slice t.2.2.2.1 t.1.2.1.length t.2.2.2.2), (.int .i64 0)] 96 (0, 0)), rowO 65 enc_Tile t.2.1 t.2.2.1 t.1.1, rowO 3 encInt t.2.2.2.1 t.2.2.2.2 t.1.2.1] ∧ machine_kitOf.l1 n t.1.1 t.1.2.1 t.1.2.2 p0 = some x997) k ((x477, ([] : List Int), 0), A474, c475, none, 0) [1, 3, 32, 33, 34] rfl ⟨(hS983.subR [0]).sub [1, 2, 3, 0] (by decide), hx998⟩ ?_
    rintro k999 ⟨⟨l986, l989, x990⟩, A984, c985, A987, c988⟩ w1000 ⟨hS1001, hl1002⟩
    cases k999 with
    | zero => rw [machine_kitOf.l1] at hl1002; cases hl1002
    | succ k999 =>
      rw [machine_kitOf.l1] at hl1002
      refine WC.seq ?_
      refine WC.region ?_
      refine seg 1 [] [1, 3, 32, 33, 34, 35] [(1, (.pointer (some ⟨g429, 0, none⟩))), (3, (.pointer (some ⟨g433, 0, none⟩))), (32, (.slice A_p0_Actions p0.Actions.length c_p0_Actions)), (33, (.int .i64 (p0.Actions.length : Int))), (34, (.int .i64 x990)), (35, (.bool (decide (x990 < (p0.Actions.length : Int)))))] [] (fun fb => by kernel_rfl) rfl trivial ?_
      refine WL.done rfl ?_
      refine WX.next ?_
      refine WC.seq ?_
      rcases br_some hl1002 with ⟨h1003, hl1002⟩ | ⟨h1003, hl1002⟩
      · refine WC.condT2 (fun fb => by kernel_rfl) h1003 ?_
        refine WC.skip ?_
        refine WX.next ?_
        refine WC.seq ?_
        obtain ⟨x1095, hx1096, hl1002⟩ := bind_some hl1002
        refine WC.cutN (T := ((List Tile) × (List Int)) × (Option Addr) × Nat × (Option Addr) × Nat) (fun t => [(1, (.pointer (some ⟨g429, 0, none⟩))), (3, (.pointer (some ⟨g433, 0, none⟩))), (32, (.slice A_p0_Actions p0.Actions.length c_p0_Actions)), (33, (.int .i64 (p0.Actions.length : Int))), (34, (.int .i64 x990))]) (fun t w1 => St NoS w w1 [rowR enc_Action A_p0_Actions c_p0_Actions p0.Actions] [blk g429 (.cells #[(.int .i64 p0.States), (.int .i64 p0.Symbols), (.slice A_p0_Actions p0.Actions.length c_p0_Actions)] 24 (0, 0)), blk g433 (.cells #[(.int .i64 p0.States), (.int .i64 p0.Symbols), (.slice A_p0_Actions p0.Actions.length c_p0_Actions), (.slice t.2.1 t.1.1.length t.2.2.1), (.slice t.2.2.2.1 t.1.2.length t.2.2.2.2), (.int .i64 0)] 96 (0, 0)), rowO 65 enc_Tile t.2.1 t.2.2.1 t.1.1, rowO 3 encInt t.2.2.2.1 t.2.2.2.2 t.1.2] ∧ x1095 = t.1) (fun Kx1095 => ?_) ?_
        ·
          refine WC.block ?_
          refine WC.seq ?_
          refine WC.region ?_
          refine seg 1 [] [1, 3, 32, 33, 34, 36] [(1, (.pointer (some ⟨g429, 0, none⟩))), (3, (.pointer (some ⟨g433, 0, none⟩))), (32, (.slice A_p0_Actions p0.Actions.length c_p0_Actions)), (33, (.int .i64 (p0.Actions.length : Int))), (34, (.int .i64 x990)), (36, (.int .i64 x990))] [] (fun fb => by kernel_rfl) rfl trivial ?_
          obtain ⟨h1097, hx1096⟩ := as_some hx1096
          refine seg 3 [.v (.int .i64 ((rdD p0.Actions x990 z_Action).Write)), .v (.int .i64 ((rdD p0.Actions x990 z_Action).Move)), .v (.int .i64 ((rdD p0.Actions x990 z_Action).Next))] [1, 3, 32, 33, 34, 36, 38] [(1, (.pointer (some ⟨g429, 0, none⟩))), (3, (.pointer (some ⟨g433, 0, none⟩))), (32, (.slice A_p0_Actions p0.Actions.length c_p0_Actions)), (33, (.int .i64 (p0.Actions.length : Int))), (34, (.int .i64 x990)), (36, (.int .i64 x990)), (38, (.agg #[(.int .i64 ((rdD p0.Actions x990 z_Action).Write)), (.int .i64 ((rdD p0.Actions x990 z_Action).Move)), (.int .i64 ((rdD p0.Actions x990 z_Action).Next))]))] [.idx A_p0_Actions x990 p0.Actions.length, .cell ((adr A_p0_Actions).add ((x990).toNat * 3)) (.int .i64 ((rdD p0.Actions x990 z_Action).Write)), .cell (((adr A_p0_Actions).add ((x990).toNat * 3)).add 1) (.int .i64 ((rdD p0.Actions x990 z_Action).Move)), .cell (((adr A_p0_Actions).add ((x990).toNat * 3)).add 2) (.int .i64 ((rdD p0.Actions x990 z_Action).Next))] (fun fb => by kernel_rfl) rfl ⟨rowR.adr (hS1001.rd 0).1 h1097.1 h1097.2, rowR.cell (hS1001.rd 0).1 z_Action h1097.1 h1097.2 0 rfl, rowR.cell (hS1001.rd 0).1 z_Action h1097.1 h1097.2 1 rfl, rowR.cell (hS1001.rd 0).1 z_Action h1097.1 h1097.2 2 rfl, trivial⟩ ?_
          refine WL.new hS1001 6 [] (fun g => (.pointer (some ⟨g, 0, none⟩))) (.cells #[(.int .i64 0), (.int .i64 0), (.int .i64 0)] 88 (0, 0)) [] (fun fb g => by kernel_rfl) trivial (fun g1098 w1099 hS1100 => ?_)
          refine ⟨trivial, ?_⟩
          refine seg 5 [] [1, 3, 5, 6, 32, 33, 34, 38] [(1, (.pointer (some ⟨g429, 0, none⟩))), (3, (.pointer (some ⟨g433, 0, none⟩))), (5, (.int .i64 x990)), (6, (.pointer (some ⟨g1098, 0, none⟩))), (32, (.slice A_p0_Actions p0.Actions.length c_p0_Actions)), (33, (.int .i64 (p0.Actions.length : Int))), (34, (.int .i64 x990)), (38, (.agg #[(.int .i64 ((rdD p0.Actions x990 z_Action).Write)), (.int .i64 ((rdD p0.Actions x990 z_Action).Move)), (.int .i64 ((rdD p0.Actions x990 z_Action).Next))]))] [] (fun fb => by kernel_rfl) rfl trivial ?_
          refine WL.store hS1100 0 rfl [(0, (.int .i64 ((rdD p0.Actions x990 z_Action).Write))), (1, (.int .i64 ((rdD p0.Actions x990 z_Action).Move))), (2, (.int .i64 ((rdD p0.Actions x990 z_Action).Next)))] #[(.int .i64 ((rdD p0.Actions x990 z_Action).Write)), (.int .i64 ((rdD p0.Actions x990 z_Action).Move)), (.int .i64 ((rdD p0.Actions x990 z_Action).Next))] (fun fb => by kernel_rfl) (by kernel_rfl) rfl [1, 2, 3, 4] (by decide) (by decide) (fun w1102 hS1103 => ?_)
          refine ⟨trivial, ?_⟩
          refine WL.done rfl ?_
          refine WX.next ?_
          refine WC.seq ?_
          refine WC.seq ?_
          refine WC.region ?_
          refine seg 5 [.v (.int .i64 ((rdD p0.Actions x990 z_Action).Next)), .v (.int .i64 p0.States)] [1, 3, 5, 6, 32, 33, 34, 43] [(1, (.pointer (some ⟨g429, 0, none⟩))), (3, (.pointer (some ⟨g433, 0, none⟩))), (5, (.int .i64 x990)), (6, (.pointer (some ⟨g1098, 0, none⟩))), (32, (.slice A_p0_Actions p0.Actions.length c_p0_Actions)), (33, (.int .i64 (p0.Actions.length : Int))), (34, (.int .i64 x990)), (43, (.bool (((rdD p0.Actions x990 z_Action).Next) == p0.States)))] [.cell ⟨g1098, 2, none⟩ (.int .i64 ((rdD p0.Actions x990 z_Action).Next)), .cell ⟨g429, 0, none⟩ (.int .i64 p0.States)] (fun fb => by kernel_rfl) rfl ⟨hS1103.cell 0 rfl 2 rfl, hS1103.cell 1 rfl 0 rfl, trivial⟩ ?_
          refine WL.done rfl ?_
          refine WX.next ?_
          rcases br_some hx1096 with ⟨h1104, hx1096⟩ | ⟨h1104, hx1096⟩
          · refine WC.condT2 (fun fb => by kernel_rfl) h1104 ?_
            refine WC.seq ?_
            refine WC.region ?_
            refine seg 5 [.v (.slice A987 l989.length c988)] [1, 3, 32, 33, 34, 44, 48] [(1, (.pointer (some ⟨g429, 0, none⟩))), (3, (.pointer (some ⟨g433, 0, none⟩))), (32, (.slice A_p0_Actions p0.Actions.length c_p0_Actions)), (33, (.int .i64 (p0.Actions.length : Int))), (34, (.int .i64 x990)), (44, (.pointer (some ⟨g433, 0, none⟩))), (48, (.slice A987 l989.length c988))] [.cell ⟨g433, 4, none⟩ (.slice A987 l989.length c988)] (fun fb => by kernel_rfl) rfl ⟨hS1103.cell 2 rfl 4 rfl, trivial⟩ ?_
            refine WL.new hS1103 49 [] (fun g => (.slice (some ⟨g, 0, none⟩) 1 1)) (.cells #[(.int .i64 (-1))] 3 (0, 0)) [] (fun fb g => by kernel_rfl) trivial (fun g1105 w1106 hS1107 => ?_)
            refine ⟨trivial, ?_⟩
            have hS1109 : St NoS w w1106 [rowR enc_Action A_p0_Actions c_p0_Actions p0.Actions] [rowO 3 encInt (some ⟨g1105, 0, none⟩) 1 [(-1)], blk g1098 (.cells #[(.int .i64 ((rdD p0.Actions x990 z_Action).Write)), (.int .i64 ((rdD p0.Actions x990 z_Action).Move)), (.int .i64 ((rdD p0.Actions x990 z_Action).Next))] 88 (0, 0)), blk g429 (.cells #[(.int .i64 p0.States), (.int .i64 p0.Symbols), (.slice A_p0_Actions p0.Actions.length c_p0_Actions)] 24 (0, 0)), blk g433 (.cells #[(.int .i64 p0.States), (.int .i64 p0.Symbols), (.slice A_p0_Actions p0.Actions.length c_p0_Actions), (.slice A984 l986.length c985), (.slice A987 l989.length c988), (.int .i64 0)] 96 (0, 0)), rowO 65 enc_Tile A984 c985 l986, rowO 3 encInt A987 c988 l989] := hS1107.map1 0 _ (fun h => rowO.ofBlk h rfl (Nat.le_of_ble_eq_true (by kernel_rfl))) (fun _ h => by obtain ⟨_, h1, h2⟩ := h; injection h1 with h1; subst h1; exact h2) [1, 2, 3, 4, 5] (by decide) (by decide)
            obtain ⟨h1110, hx1096⟩ := as_some hx1096
            refine WL.append hS1109 5 (d := 50) (tS := 25) (z := (.int .i64 0)) (bytes := 8) (c2 := 1) rfl (fun fb => by kernel_rfl) (rowO.rd (hS1109.own 0).1) (by kernel_rfl) (by kernel_rfl) rfl (by decide) h1110 (by decide) [0, 1, 2, 3, 4] (by decide) (by decide) (fun A1111 c1112 w1113 hS1114 => ?_)
            refine ⟨trivial, ?_⟩
            refine seg 9 [] [1, 3, 32, 33, 34, 50, 52] [(1, (.pointer (some ⟨g429, 0, none⟩))), (3, (.pointer (some ⟨g433, 0, none⟩))), (32, (.slice A_p0_Actions p0.Actions.length c_p0_Actions)), (33, (.int .i64 (p0.Actions.length : Int))), (34, (.int .i64 x990)), (50, (.slice A1111 (l989 ++ [(-1)]).length c1112)), (52, (.pointer (some ⟨g433, 4, none⟩)))] [] (fun fb => by kernel_rfl) rfl trivial ?_
            refine WL.store hS1114 4 rfl [(4, (.slice A1111 (l989 ++ [(-1)]).length c1112))] #[(.int .i64 p0.States), (.int .i64 p0.Symbols), (.slice A_p0_Actions p0.Actions.length c_p0_Actions), (.slice A984 l986.length c985), (.slice A1111 (l989 ++ [(-1)]).length c1112), (.int .i64 0)] (fun fb => by kernel_rfl) (by kernel_rfl) rfl [0, 1, 2, 3, 5] (by decide) (by decide) (fun w1115 hS1116 => ?_)
            refine ⟨trivial, ?_⟩
            refine WL.done rfl ?_
            refine WX.next ?_
            refine WC.exit ?_
            injection hx1096 with hx1096
            exact WX.thenX (WX.blockHere (WX.to Kx1095 ((l986, l989 ++ [(-1)]), A984, c985, A1111, c1112) [1, 3, 32, 33, 34] rfl ⟨(hS1116.subR [0]).sub [4, 0, 5, 1] (by decide), hx1096.symm⟩))
          refine WC.condF2 (fun fb => by kernel_rfl) h1104 ?_
          refine WC.skip ?_
          refine WX.next ?_
          refine WC.seq ?_
          refine WC.regionD ([(4, ⟨g433, 4, none⟩, (.slice A987 l989.length c988)), (8, ⟨g433, 3, none⟩, (.slice A984 l986.length c985))], [0, 1, 2, 3, 4, 5, 6, 7, 8, 9, 12, 13], [[], [], [1], [1, 2], [1, 2, 3], [], [5], [5, 6], [5, 6, 7], [5, 6, 7, 8], [5, 6, 7, 8, 9], [1, 2, 3, 4, 5, 6, 7, 8, 9, 10], [0, 1, 2, 3, 4, 5, 6, 7, 8, 9, 10, 11], [0, 1, 2, 3, 4, 5, 6, 7, 8, 9, 10, 11, 12], [0, 1, 2, 3, 4, 5, 6, 7, 8, 9, 10, 11, 12, 13]]) [[0, 1, 2, 3, 4, 5, 6, 7, 8, 9, 10, 11, 12, 13, 14]] (by kernel_rfl) (by kernel_rfl) (NoPanic.seq (NoPanic.block (NoPanic.seq (NoPanic.seq (NoPanic.block (NoPanic.seq (NoPanic.body))))))) ?_
          have hS1130 := hS1103.drew
          revert hS1130
          generalize World.drew w1102 = w1129
          intro hS1130
          refine ⟨⟨hS1130.cell 2 rfl 4 rfl, hS1130.cell 2 rfl 3 rfl, trivial⟩, forallC ?_ (forallN)⟩
          refine segF 10 [.v (.slice A987 l989.length c988), .v (.slice A984 l986.length c985)] [1, 3, 5, 6, 32, 33, 34, 53, 57, 62] [(1, (.pointer (some ⟨g429, 0, none⟩))), (3, (.pointer (some ⟨g433, 0, none⟩))), (5, (.int .i64 x990)), (6, (.pointer (some ⟨g1098, 0, none⟩))), (32, (.slice A_p0_Actions p0.Actions.length c_p0_Actions)), (33, (.int .i64 (p0.Actions.length : Int))), (34, (.int .i64 x990)), (53, (.pointer (some ⟨g433, 0, none⟩))), (57, (.slice A987 l989.length c988)), (62, (.int .i64 (l986.length : Int)))] [] [0, 1] [(4, ⟨g433, 4, none⟩, (.slice A987 l989.length c988)), (8, ⟨g433, 3, none⟩, (.slice A984 l986.length c985))] (fun fb => by kernel_rfl) rfl trivial rfl ?_
          refine WL.new hS1130 63 [] (fun g => (.slice (some ⟨g, 0, none⟩) 1 1)) (.cells #[(.int .i64 (l986.length : Int))] 3 (0, 0)) [] (fun fb g => by kernel_rfl) trivial (fun g1131 w1132 hS1133 => ?_)
          refine ⟨⟨hS1133.cell 3 rfl 4 rfl, trivial⟩, ?_⟩
          have hS1135 : St NoS w w1132 [rowR enc_Action A_p0_Actions c_p0_Actions p0.Actions] [rowO 3 encInt (some ⟨g1131, 0, none⟩) 1 [(l986.length : Int)], blk g1098 (.cells #[(.int .i64 ((rdD p0.Actions x990 z_Action).Write)), (.int .i64 ((rdD p0.Actions x990 z_Action).Move)), (.int .i64 ((rdD p0.Actions x990 z_Action).Next))] 88 (0, 0)), blk g429 (.cells #[(.int .i64 p0.States), (.int .i64 p0.Symbols), (.slice A_p0_Actions p0.Actions.length c_p0_Actions)] 24 (0, 0)), blk g433 (.cells #[(.int .i64 p0.States), (.int .i64 p0.Symbols), (.slice A_p0_Actions p0.Actions.length c_p0_Actions), (.slice A984 l986.length c985), (.slice A987 l989.length c988), (.int .i64 0)] 96 (0, 0)), rowO 65 enc_Tile A984 c985 l986, rowO 3 encInt A987 c988 l989] := hS1133.map1 0 _ (fun h => rowO.ofBlk h rfl (Nat.le_of_ble_eq_true (by kernel_rfl))) (fun _ h => by obtain ⟨_, h1, h2⟩ := h; injection h1 with h1; subst h1; exact h2) [1, 2, 3, 4, 5] (by decide) (by decide)
          obtain ⟨h1136, hx1096⟩ := as_some hx1096
          refine WL.append hS1135 5 (d := 64) (tS := 25) (z := (.int .i64 0)) (bytes := 8) (c2 := 1) rfl (fun fb => by kernel_rfl) (rowO.rd (hS1135.own 0).1) (by kernel_rfl) (by kernel_rfl) rfl (by decide) h1136 (by decide) [0, 1, 2, 3, 4] (by decide) (by decide) (fun A1137 c1138 w1139 hS1140 => ?_)
          refine ⟨trivial, ?_⟩
          refine seg 14 [] [1, 3, 5, 6, 32, 33, 34, 64, 66] [(1, (.pointer (some ⟨g429, 0, none⟩))), (3, (.pointer (some ⟨g433, 0, none⟩))), (5, (.int .i64 x990)), (6, (.pointer (some ⟨g1098, 0, none⟩))), (32, (.slice A_p0_Actions p0.Actions.length c_p0_Actions)), (33, (.int .i64 (p0.Actions.length : Int))), (34, (.int .i64 x990)), (64, (.slice A1137 (l989 ++ [(l986.length : Int)]).length c1138)), (66, (.pointer (some ⟨g433, 4, none⟩)))] [] (fun fb => by kernel_rfl) rfl trivial ?_
          refine WL.store hS1140 4 rfl [(4, (.slice A1137 (l989 ++ [(l986.length : Int)]).length c1138))] #[(.int .i64 p0.States), (.int .i64 p0.Symbols), (.slice A_p0_Actions p0.Actions.length c_p0_Actions), (.slice A984 l986.length c985), (.slice A1137 (l989 ++ [(l986.length : Int)]).length c1138), (.int .i64 0)] (fun fb => by kernel_rfl) (by kernel_rfl) rfl [0, 1, 2, 3, 5] (by decide) (by decide) (fun w1141 hS1142 => ?_)
          refine ⟨trivial, ?_⟩
          refine WL.done rfl ?_
          refine WX.next ?_
          obtain ⟨h1164, hx1096⟩ := as_some hx1096
          refine WC.regionD ([(4, ⟨g433, 3, none⟩, (.slice A984 l986.length c985)), (8, ⟨g429, 1, none⟩, (.int .i64 p0.Symbols)), (12, ⟨g429, 1, none⟩, (.int .i64 p0.Symbols)), (14, ⟨g1098, 0, none⟩, (.int .i64 ((rdD p0.Actions x990 z_Action).Write))), (14, ⟨g1098, 1, none⟩, (.int .i64 ((rdD p0.Actions x990 z_Action).Move))), (14, ⟨g1098, 2, none⟩, (.int .i64 ((rdD p0.Actions x990 z_Action).Next)))], [0, 1, 2, 3, 4, 5, 6, 7, 8, 9, 10, 11, 12, 13, 14, 18, 19], [[], [], [1], [1, 2], [1, 2, 3], [], [], [], [7], [6, 7, 8], [], [], [11], [10, 11, 12], [], [5, 6, 7, 8, 9, 10, 11, 12, 13, 14], [5, 6, 7, 8, 9, 10, 11, 12, 13, 14, 15], [1, 2, 3, 4, 5, 6, 7, 8, 9, 10, 11, 12, 13, 14, 15, 16], [0, 1, 2, 3, 4, 5, 6, 7, 8, 9, 10, 11, 12, 13, 14, 15, 16, 17], [0, 1, 2, 3, 4, 5, 6, 7, 8, 9, 10, 11, 12, 13, 14, 15, 16, 17, 18], [0, 1, 2, 3, 4, 5, 6, 7, 8, 9, 10, 11, 12, 13, 14, 15, 16, 17, 18, 19]]) [[0, 1, 2, 3, 4, 5, 6, 7, 8, 9, 10, 11, 12, 13, 14, 15, 16, 17, 18, 19, 20]] (by kernel_rfl) (by kernel_rfl) (NoPanic.block (NoPanic.seq (NoPanic.seq (NoPanic.block (NoPanic.seq (NoPanic.body)))))) ?_
          have hS1162 := hS1142.drew
          revert hS1162
          generalize World.drew w1141 = w1161
          intro hS1162
          refine ⟨⟨hS1162.cell 0 rfl 3 rfl, hS1162.cell 4 rfl 1 rfl, hS1162.cell 4 rfl 1 rfl, hS1162.cell 3 rfl 0 rfl, hS1162.cell 3 rfl 1 rfl, hS1162.cell 3 rfl 2 rfl, trivial⟩, forallC ?_ (forallN)⟩
          refine segF 15 [.v (.slice A984 l986.length c985), .v (.int .i64 p0.Symbols), .v (.int .i64 p0.Symbols), .v (.int .i64 ((rdD p0.Actions x990 z_Action).Write)), .v (.int .i64 ((rdD p0.Actions x990 z_Action).Move)), .v (.int .i64 ((rdD p0.Actions x990 z_Action).Next))] [1, 3, 32, 33, 34, 67, 71, 72, 76, 80, 81] [(1, (.pointer (some ⟨g429, 0, none⟩))), (3, (.pointer (some ⟨g433, 0, none⟩))), (32, (.slice A_p0_Actions p0.Actions.length c_p0_Actions)), (33, (.int .i64 (p0.Actions.length : Int))), (34, (.int .i64 x990)), (67, (.pointer (some ⟨g433, 0, none⟩))), (71, (.slice A984 l986.length c985)), (72, (.pointer (some ⟨g433, 0, none⟩))), (76, (.int .i64 (w64 (Int.tdiv x990 p0.Symbols)))), (80, (.int .i64 (Int.tmod x990 p0.Symbols))), (81, (.agg #[(.int .i64 ((rdD p0.Actions x990 z_Action).Write)), (.int .i64 ((rdD p0.Actions x990 z_Action).Move)), (.int .i64 ((rdD p0.Actions x990 z_Action).Next))]))] [.ne p0.Symbols, .ne p0.Symbols] [0, 1, 2, 3, 4, 5] [(4, ⟨g433, 3, none⟩, (.slice A984 l986.length c985)), (8, ⟨g429, 1, none⟩, (.int .i64 p0.Symbols)), (12, ⟨g429, 1, none⟩, (.int .i64 p0.Symbols)), (14, ⟨g1098, 0, none⟩, (.int .i64 ((rdD p0.Actions x990 z_Action).Write))), (14, ⟨g1098, 1, none⟩, (.int .i64 ((rdD p0.Actions x990 z_Action).Move))), (14, ⟨g1098, 2, none⟩, (.int .i64 ((rdD p0.Actions x990 z_Action).Next)))] (fun fb => by kernel_rfl) rfl ⟨h1164, h1164, trivial⟩ rfl ?_
          obtain ⟨t1165, ht1166, hx1096⟩ := bind_some hx1096
          refine WL.call (some 82) 60 #[(.pointer (some ⟨g433, 0, none⟩)), (.int .i64 (w64 (Int.tdiv x990 p0.Symbols))), (.int .i64 (Int.tmod x990 p0.Symbols)), (.agg #[(.int .i64 ((rdD p0.Actions x990 z_Action).Write)), (.int .i64 ((rdD p0.Actions x990 z_Action).Move)), (.int .i64 ((rdD p0.Actions x990 z_Action).Next))])] (fun fb => by kernel_rfl) (machine_kit_acts_calls (Kit.mk p0 l986 (l989 ++ [(l986.length : Int)]) 0) (w64 (Int.tdiv x990 p0.Symbols)) (Int.tmod x990 p0.Symbols) (rdD p0.Actions x990 z_Action) g433 A_p0_Actions c_p0_Actions A984 c985 A1137 c1138 t1165 _ (hS1162.ow 0) (hS1162.rd 0) (hS1162.ow 5).ofO (hS1162.ow 1).ofO ht1166) (fun v w1167 hR1168 => ?_)
          obtain ⟨rfl, hk_⟩ := hR1168
          have hS1169 := hS1162.keepN hk_
          refine ⟨⟨hS1169.cell 0 rfl 3 rfl, trivial⟩, ?_⟩
          refine WL.new hS1169 83 [] (fun g => (.slice (some ⟨g, 0, none⟩) 1 1)) (.cells #[(.int .i64 t1165.N), (.int .i64 t1165.E), (.int .i64 t1165.S), (.int .i64 t1165.W)] 65 (0, 0)) [] (fun fb g => by kernel_rfl) trivial (fun g1170 w1171 hS1172 => ?_)
          refine ⟨⟨hS1172.cell 1 rfl 3 rfl, trivial⟩, ?_⟩
          have hS1174 : St NoS w w1171 [rowR enc_Action A_p0_Actions c_p0_Actions p0.Actions] [rowO 65 enc_Tile (some ⟨g1170, 0, none⟩) 1 [t1165], blk g433 (.cells #[(.int .i64 p0.States), (.int .i64 p0.Symbols), (.slice A_p0_Actions p0.Actions.length c_p0_Actions), (.slice A984 l986.length c985), (.slice A1137 (l989 ++ [(l986.length : Int)]).length c1138), (.int .i64 0)] 96 (0, 0)), rowO 3 encInt A1137 c1138 (l989 ++ [(l986.length : Int)]), rowO 3 encInt (some ⟨g1131, 0, none⟩) 1 [(l986.length : Int)], blk g1098 (.cells #[(.int .i64 ((rdD p0.Actions x990 z_Action).Write)), (.int .i64 ((rdD p0.Actions x990 z_Action).Move)), (.int .i64 ((rdD p0.Actions x990 z_Action).Next))] 88 (0, 0)), blk g429 (.cells #[(.int .i64 p0.States), (.int .i64 p0.Symbols), (.slice A_p0_Actions p0.Actions.length c_p0_Actions)] 24 (0, 0)), rowO 65 enc_Tile A984 c985 l986] := hS1172.map1 0 _ (fun h => rowO.ofBlk h rfl (Nat.le_of_ble_eq_true (by kernel_rfl))) (fun _ h => by obtain ⟨_, h1, h2⟩ := h; injection h1 with h1; subst h1; exact h2) [1, 2, 3, 4, 5, 6] (by decide) (by decide)
          obtain ⟨h1175, hx1096⟩ := as_some hx1096
          refine WL.append hS1174 6 (d := 84) (tS := 50) (z := (.agg #[(.int .i64 0), (.int .i64 0), (.int .i64 0), (.int .i64 0)])) (bytes := 32) (c2 := 1) rfl (fun fb => by kernel_rfl) (rowO.rd (hS1174.own 0).1) (by kernel_rfl) (by kernel_rfl) rfl (by decide) h1175 (by decide) [0, 1, 2, 3, 4, 5] (by decide) (by decide) (fun A1176 c1177 w1178 hS1179 => ?_)
          refine ⟨trivial, ?_⟩
          refine seg 20 [] [1, 3, 32, 33, 34, 84, 86] [(1, (.pointer (some ⟨g429, 0, none⟩))), (3, (.pointer (some ⟨g433, 0, none⟩))), (32, (.slice A_p0_Actions p0.Actions.length c_p0_Actions)), (33, (.int .i64 (p0.Actions.length : Int))), (34, (.int .i64 x990)), (84, (.slice A1176 (l986 ++ [t1165]).length c1177)), (86, (.pointer (some ⟨g433, 3, none⟩)))] [] (fun fb => by kernel_rfl) rfl trivial ?_
          refine WL.store hS1179 2 rfl [(3, (.slice A1176 (l986 ++ [t1165]).length c1177))] #[(.int .i64 p0.States), (.int .i64 p0.Symbols), (.slice A_p0_Actions p0.Actions.length c_p0_Actions), (.slice A1176 (l986 ++ [t1165]).length c1177), (.slice A1137 (l989 ++ [(l986.length : Int)]).length c1138), (.int .i64 0)] (fun fb => by kernel_rfl) (by kernel_rfl) rfl [0, 1, 3, 4, 5, 6] (by decide) (by decide) (fun w1180 hS1181 => ?_)
          refine ⟨trivial, ?_⟩
          refine WL.done rfl ?_
          injection hx1096 with hx1096
          exact WX.blockN (WX.to Kx1095 ((l986 ++ [t1165], l989 ++ [(l986.length : Int)]), A1176, c1177, A1137, c1138) [1, 3, 32, 33, 34] rfl ⟨(hS1181.subR [0]).sub [6, 0, 1, 3] (by decide), hx1096.symm⟩)
        rintro ⟨y1185, A1089, c1090, A1092, c1093⟩ w1182 ⟨hS1183, hq1184⟩
        subst hq1184
        refine WX.next ?_
        refine WC.region ?_
        refine seg 2 [] [1, 3, 32, 33, 34] [(1, (.pointer (some ⟨g429, 0, none⟩))), (3, (.pointer (some ⟨g433, 0, none⟩))), (32, (.slice A_p0_Actions p0.Actions.length c_p0_Actions)), (33, (.int .i64 (p0.Actions.length : Int))), (34, (.int .i64 (w64 (x990 + 1))))] [] (fun fb => by kernel_rfl) rfl trivial ?_
        refine WL.done rfl ?_
        exact WX.again k999 (Nat.lt_succ_self _) ((x1095.1, x1095.2, w64 (x990 + 1)), A1089, c1090, A1092, c1093) [1, 3, 32, 33, 34] rfl ⟨(hS1183.subR [0]).sub [0, 1, 2, 3] (by decide), hl1002⟩
      refine WC.condF2 (fun fb => by kernel_rfl) h1003 ?_
      refine WC.exit ?_
      injection hl1002 with hl1002
      exact WX.thenX (WX.thenX (WX.blockHere (WX.to Kx997 ((l986, l989), A984, c985, A987, c988) [1, 3] rfl ⟨(hS1001.subR [0]).sub [0, 1, 2, 3] (by decide), hl1002.symm⟩)))
  rintro ⟨y1189, A991, c992, A994, c995⟩ w1186 ⟨hS1187, hq1188⟩
  subst hq1188
  refine WX.next ?_
  refine WC.seq ?_
  refine WC.region ?_
  refine seg 8 [.v (.slice A991 x997.1.length c992)] [1, 3, 93, 95] [(1, (.pointer (some ⟨g429, 0, none⟩))), (3, (.pointer (some ⟨g433, 0, none⟩))), (93, (.int .i64 (x997.1.length : Int))), (95, (.pointer (some ⟨g433, 5, none⟩)))] [.cell ⟨g433, 3, none⟩ (.slice A991 x997.1.length c992)] (fun fb => by kernel_rfl) rfl ⟨hS1187.cell 1 rfl 3 rfl, trivial⟩ ?_
  refine WL.store hS1187 1 rfl [(5, (.int .i64 (x997.1.length : Int)))] #[(.int .i64 p0.States), (.int .i64 p0.Symbols), (.slice A_p0_Actions p0.Actions.length c_p0_Actions), (.slice A991 x997.1.length c992), (.slice A994 x997.2.length c995), (.int .i64 (x997.1.length : Int))] (fun fb => by kernel_rfl) (by kernel_rfl) rfl [0, 2, 3] (by decide) (by decide) (fun w1190 hS1191 => ?_)
  refine ⟨trivial, ?_⟩
  refine WL.done rfl ?_
  refine WX.next ?_
  refine WC.seq ?_
  refine WC.seq ?_
  refine WC.region ?_
  refine seg 3 [.v (.int .i64 p0.States)] [1, 3, 97, 98] [(1, (.pointer (some ⟨g429, 0, none⟩))), (3, (.pointer (some ⟨g433, 0, none⟩))), (97, (.int .i64 p0.States)), (98, (.int .i64 0))] [.cell ⟨g429, 0, none⟩ (.int .i64 p0.States)] (fun fb => by kernel_rfl) rfl ⟨hS1191.cell 1 rfl 0 rfl, trivial⟩ ?_
  refine WL.done rfl ?_
  refine WX.next ?_
  obtain ⟨x1559, hx1560, hf⟩ := bind_some hf
  refine WC.cutN (T := (List Tile) × (Option Addr) × Nat) (fun t => [(3, (.pointer (some ⟨g433, 0, none⟩)))]) (fun t w1 => St NoS w w1 [rowR enc_Action A_p0_Actions c_p0_Actions p0.Actions] [blk g433 (.cells #[(.int .i64 p0.States), (.int .i64 p0.Symbols), (.slice A_p0_Actions p0.Actions.length c_p0_Actions), (.slice t.2.1 t.1.length t.2.2), (.slice A994 x997.2.length c995), (.int .i64 (x997.1.length : Int))] 96 (0, 0)), rowO 65 enc_Tile t.2.1 t.2.2 t.1, rowO 3 encInt A994 c995 x997.2] ∧ x1559 = t.1) (fun Kx1559 => ?_) ?_
  ·
    refine WC.block ?_
    refine WC.loop (T := ((List Tile) × Int) × (Option Addr) × Nat) (fun t => [(1, (.pointer (some ⟨g429, 0, none⟩))), (3, (.pointer (some ⟨g433, 0, none⟩))), (97, (.int .i64 p0.States)), (98, (.int .i64 t.1.2))]) (fun n t w1 => St NoS w w1 [rowR enc_Action A_p0_Actions c_p0_Actions p0.Actions] [blk g429 (.cells #[(.int .i64 p0.States), (.int .i64 p0.Symbols), (.slice A_p0_Actions p0.Actions.length c_p0_Actions)] 24 (0, 0)), blk g433 (.cells #[(.int .i64 p0.States), (.int .i64 p0.Symbols), (.slice A_p0_Actions p0.Actions.length c_p0_Actions), (.slice t.2.1 t.1.1.length t.2.2), (.slice A994 x997.2.length c995), (.int .i64 (x997.1.length : Int))] 96 (0, 0)), rowO 65 enc_Tile t.2.1 t.2.2 t.1.1, rowO 3 encInt A994 c995 x997.2] ∧ machine_kitOf.l2 n t.1.1 t.1.2 p0 x997 = some x1559) k ((x997.1, 0), A991, c992) [1, 3, 97, 98] rfl ⟨(hS1191.subR [0]).sub [1, 0, 2, 3] (by decide), hx1560⟩ ?_
    rintro k1561 ⟨⟨l1554, x1555⟩, A1552, c1553⟩ w1562 ⟨hS1563, hl1564⟩
    cases k1561 with
    | zero => rw [machine_kitOf.l2] at hl1564; cases hl1564
    | succ k1561 =>
      rw [machine_kitOf.l2] at hl1564
      refine WC.seq ?_
      refine WC.region ?_
      refine seg 1 [] [1, 3, 97, 98, 99] [(1, (.pointer (some ⟨g429, 0, none⟩))), (3, (.pointer (some ⟨g433, 0, none⟩))), (97, (.int .i64 p0.States)), (98, (.int .i64 x1555)), (99, (.bool (decide (x1555 < p0.States))))] [] (fun fb => by kernel_rfl) rfl trivial ?_
      refine WL.done rfl ?_
      refine WX.next ?_
      refine WC.seq ?_
      rcases br_some hl1564 with ⟨h1565, hl1564⟩ | ⟨h1565, hl1564⟩
      · refine WC.condT2 (fun fb => by kernel_rfl) h1565 ?_
        refine WC.skip ?_
        refine WX.next ?_
        refine WC.seq ?_
        refine WC.block ?_
        refine WC.seq ?_
        refine WC.region ?_
        refine seg 2 [] [1, 3, 7, 97, 98] [(1, (.pointer (some ⟨g429, 0, none⟩))), (3, (.pointer (some ⟨g433, 0, none⟩))), (7, (.int .i64 x1555)), (97, (.int .i64 p0.States)), (98, (.int .i64 x1555))] [] (fun fb => by kernel_rfl) rfl trivial ?_
        refine WL.done rfl ?_
        refine WX.next ?_
        refine WC.seq ?_
        refine WC.region ?_
        refine seg 3 [.v (.int .i64 p0.Symbols)] [1, 3, 7, 97, 98, 102, 103] [(1, (.pointer (some ⟨g429, 0, none⟩))), (3, (.pointer (some ⟨g433, 0, none⟩))), (7, (.int .i64 x1555)), (97, (.int .i64 p0.States)), (98, (.int .i64 x1555)), (102, (.int .i64 p0.Symbols)), (103, (.int .i64 0))] [.cell ⟨g429, 1, none⟩ (.int .i64 p0.Symbols)] (fun fb => by kernel_rfl) rfl ⟨hS1563.cell 0 rfl 1 rfl, trivial⟩ ?_
        refine WL.done rfl ?_
        refine WX.next ?_
        obtain ⟨x1681, hx1682, hl1564⟩ := bind_some hl1564
        refine WC.cutN (T := (List Tile) × (Option Addr) × Nat) (fun t => [(1, (.pointer (some ⟨g429, 0, none⟩))), (3, (.pointer (some ⟨g433, 0, none⟩))), (97, (.int .i64 p0.States)), (98, (.int .i64 x1555))]) (fun t w1 => St NoS w w1 [rowR enc_Action A_p0_Actions c_p0_Actions p0.Actions] [blk g429 (.cells #[(.int .i64 p0.States), (.int .i64 p0.Symbols), (.slice A_p0_Actions p0.Actions.length c_p0_Actions)] 24 (0, 0)), blk g433 (.cells #[(.int .i64 p0.States), (.int .i64 p0.Symbols), (.slice A_p0_Actions p0.Actions.length c_p0_Actions), (.slice t.2.1 t.1.length t.2.2), (.slice A994 x997.2.length c995), (.int .i64 (x997.1.length : Int))] 96 (0, 0)), rowO 65 enc_Tile t.2.1 t.2.2 t.1, rowO 3 encInt A994 c995 x997.2] ∧ x1681 = t.1) (fun Kx1681 => ?_) ?_
        ·
          refine WC.block ?_
          refine WC.loop (T := ((List Tile) × Int) × (Option Addr) × Nat) (fun t => [(1, (.pointer (some ⟨g429, 0, none⟩))), (3, (.pointer (some ⟨g433, 0, none⟩))), (7, (.int .i64 x1555)), (97, (.int .i64 p0.States)), (98, (.int .i64 x1555)), (102, (.int .i64 p0.Symbols)), (103, (.int .i64 t.1.2))]) (fun n t w1 => St NoS w w1 [rowR enc_Action A_p0_Actions c_p0_Actions p0.Actions] [blk g429 (.cells #[(.int .i64 p0.States), (.int .i64 p0.Symbols), (.slice A_p0_Actions p0.Actions.length c_p0_Actions)] 24 (0, 0)), blk g433 (.cells #[(.int .i64 p0.States), (.int .i64 p0.Symbols), (.slice A_p0_Actions p0.Actions.length c_p0_Actions), (.slice t.2.1 t.1.1.length t.2.2), (.slice A994 x997.2.length c995), (.int .i64 (x997.1.length : Int))] 96 (0, 0)), rowO 65 enc_Tile t.2.1 t.2.2 t.1.1, rowO 3 encInt A994 c995 x997.2] ∧ machine_kitOf.l3 n t.1.1 t.1.2 p0 x997 x1555 = some x1681) k1561 ((l1554, 0), A1552, c1553) [1, 3, 7, 97, 98, 102, 103] rfl ⟨(hS1563.subR [0]).sub [0, 1, 2, 3] (by decide), hx1682⟩ ?_
          rintro k1683 ⟨⟨l1676, x1677⟩, A1674, c1675⟩ w1684 ⟨hS1685, hl1686⟩
          cases k1683 with
          | zero => rw [machine_kitOf.l3] at hl1686; cases hl1686
          | succ k1683 =>
            rw [machine_kitOf.l3] at hl1686
            refine WC.seq ?_
            refine WC.region ?_
            refine seg 1 [] [1, 3, 7, 97, 98, 102, 103, 104] [(1, (.pointer (some ⟨g429, 0, none⟩))), (3, (.pointer (some ⟨g433, 0, none⟩))), (7, (.int .i64 x1555)), (97, (.int .i64 p0.States)), (98, (.int .i64 x1555)), (102, (.int .i64 p0.Symbols)), (103, (.int .i64 x1677)), (104, (.bool (decide (x1677 < p0.Symbols))))] [] (fun fb => by kernel_rfl) rfl trivial ?_
            refine WL.done rfl ?_
            refine WX.next ?_
            refine WC.seq ?_
            rcases br_some hl1686 with ⟨h1687, hl1686⟩ | ⟨h1687, hl1686⟩
            · refine WC.condT2 (fun fb => by kernel_rfl) h1687 ?_
              refine WC.skip ?_
              refine WX.next ?_
              refine WC.seq ?_
              refine WC.block ?_
              refine WC.seq ?_
              refine WC.region ?_
              refine seg 2 [] [1, 3, 7, 8, 97, 98, 102, 103] [(1, (.pointer (some ⟨g429, 0, none⟩))), (3, (.pointer (some ⟨g433, 0, none⟩))), (7, (.int .i64 x1555)), (8, (.int .i64 x1677)), (97, (.int .i64 p0.States)), (98, (.int .i64 x1555)), (102, (.int .i64 p0.Symbols)), (103, (.int .i64 x1677))] [] (fun fb => by kernel_rfl) rfl trivial ?_
              refine WL.done rfl ?_
              refine WX.next ?_
              refine WC.seq ?_
              refine WC.region ?_
              refine seg 3 [.v (.int .i64 p0.States), .v (.int .i64 p0.Symbols), .v (.slice A_p0_Actions p0.Actions.length c_p0_Actions)] [1, 3, 7, 8, 97, 98, 102, 103, 106, 107, 108] [(1, (.pointer (some ⟨g429, 0, none⟩))), (3, (.pointer (some ⟨g433, 0, none⟩))), (7, (.int .i64 x1555)), (8, (.int .i64 x1677)), (97, (.int .i64 p0.States)), (98, (.int .i64 x1555)), (102, (.int .i64 p0.Symbols)), (103, (.int .i64 x1677)), (106, (.agg #[(.int .i64 p0.States), (.int .i64 p0.Symbols), (.slice A_p0_Actions p0.Actions.length c_p0_Actions)])), (107, (.int .i64 x1555)), (108, (.int .i64 x1677))] [.cell ⟨g429, 0, none⟩ (.int .i64 p0.States), .cell ⟨g429, 1, none⟩ (.int .i64 p0.Symbols), .cell ⟨g429, 2, none⟩ (.slice A_p0_Actions p0.Actions.length c_p0_Actions)] (fun fb => by kernel_rfl) rfl ⟨hS1685.cell 0 rfl 0 rfl, hS1685.cell 0 rfl 1 rfl, hS1685.cell 0 rfl 2 rfl, trivial⟩ ?_
              obtain ⟨t1688, ht1689, hl1686⟩ := bind_some hl1686
              refine WL.call (some 109) 61 #[(.agg #[(.int .i64 p0.States), (.int .i64 p0.Symbols), (.slice A_p0_Actions p0.Actions.length c_p0_Actions)]), (.int .i64 x1555), (.int .i64 x1677)] (fun fb => by kernel_rfl) (machine_head_calls p0 x1555 x1677 A_p0_Actions c_p0_Actions t1688 _ (hS1685.rd 0) ht1689) (fun v w1690 hR1691 => ?_)
              obtain ⟨rfl, hk_⟩ := hR1691
              have hS1692 := hS1685.keepN hk_
              refine ⟨trivial, ?_⟩
              refine seg 5 [] [1, 3, 7, 8, 9, 97, 98, 102, 103] [(1, (.pointer (some ⟨g429, 0, none⟩))), (3, (.pointer (some ⟨g433, 0, none⟩))), (7, (.int .i64 x1555)), (8, (.int .i64 x1677)), (9, (.int .i64 t1688)), (97, (.int .i64 p0.States)), (98, (.int .i64 x1555)), (102, (.int .i64 p0.Symbols)), (103, (.int .i64 x1677))] [] (fun fb => by kernel_rfl) rfl trivial ?_
              refine WL.done rfl ?_
              refine WX.next ?_
              refine WC.regionD ([(4, ⟨g433, 3, none⟩, (.slice A1674 l1676.length c1675))], [0, 1, 2, 3, 4, 5, 6, 7, 8, 10, 11, 12, 13, 14, 16, 19, 20], [[], [], [1], [1, 2], [1, 2, 3], [], [], [], [], [7, 8], [5, 6, 7, 8, 9], [], [], [], [], [7, 8, 9, 13, 14], [7, 8, 9, 11, 12, 13, 14, 15], [5, 6, 7, 8, 9, 10, 11, 12, 13, 14, 15, 16], [1, 2, 3, 4, 5, 6, 7, 8, 9, 10, 11, 12, 13, 14, 15, 16, 17], [0, 1, 2, 3, 4, 5, 6, 7, 8, 9, 10, 11, 12, 13, 14, 15, 16, 17, 18], [0, 1, 2, 3, 4, 5, 6, 7, 8, 9, 10, 11, 12, 13, 14, 15, 16, 17, 18, 19], [0, 1, 2, 3, 4, 5, 6, 7, 8, 9, 10, 11, 12, 13, 14, 15, 16, 17, 18, 19, 20]]) [[0, 1, 2, 3, 4, 5, 6, 7, 8, 11, 12, 13, 14, 9, 10, 15, 16, 17, 18, 19, 20, 21]] (by kernel_rfl) (by kernel_rfl) (NoPanic.block (NoPanic.seq (NoPanic.seq (NoPanic.block (NoPanic.block (NoPanic.seq (NoPanic.seq (NoPanic.block (NoPanic.seq (NoPanic.body)))))))))) ?_
              have hS1716 := hS1692.drew
              revert hS1716
              generalize World.drew w1690 = w1715
              intro hS1716
              refine ⟨⟨hS1716.cell 1 rfl 3 rfl, trivial⟩, forallC ?_ (forallN)⟩
              refine segF 13 [.v (.slice A1674 l1676.length c1675)] [1, 3, 7, 97, 98, 102, 103, 110, 114, 115, 116, 117, 118, 121, 122, 123, 124] [(1, (.pointer (some ⟨g429, 0, none⟩))), (3, (.pointer (some ⟨g433, 0, none⟩))), (7, (.int .i64 x1555)), (97, (.int .i64 p0.States)), (98, (.int .i64 x1555)), (102, (.int .i64 p0.Symbols)), (103, (.int .i64 x1677)), (110, (.pointer (some ⟨g433, 0, none⟩))), (114, (.slice A1674 l1676.length c1675)), (115, (.int .i64 t1688)), (116, (.int .i64 x1677)), (117, (.pointer (some ⟨g433, 0, none⟩))), (118, (.int .i64 x1555)), (121, (.int .i64 t1688)), (122, (.int .i64 x1677)), (123, (.pointer (some ⟨g433, 0, none⟩))), (124, (.int .i64 x1555))] [] [0] [(4, ⟨g433, 3, none⟩, (.slice A1674 l1676.length c1675))] (fun fb => by kernel_rfl) rfl trivial rfl ?_
              obtain ⟨t1717, ht1718, hl1686⟩ := bind_some hl1686
              refine WL.call (some 119) 62 #[(.pointer (some ⟨g433, 0, none⟩)), (.int .i64 1), (.int .i64 x1555)] (fun fb => by kernel_rfl) (machine_kit_signal_calls (Kit.mk p0 l1676 x997.2 (x997.1.length : Int)) 1 x1555 g433 A_p0_Actions c_p0_Actions A1674 c1675 A994 c995 t1717 _ (hS1716.ow 1) (hS1716.rd 0) (hS1716.ow 2).ofO (hS1716.ow 3).ofO ht1718) (fun v w1719 hR1720 => ?_)
              obtain ⟨rfl, hk_⟩ := hR1720
              have hS1721 := hS1716.keepN hk_
              refine ⟨⟨hS1721.cell 1 rfl 3 rfl, trivial⟩, ?_⟩
              refine seg 15 [] [1, 3, 7, 97, 98, 102, 103, 110, 114, 120, 121, 122, 123, 124] [(1, (.pointer (some ⟨g429, 0, none⟩))), (3, (.pointer (some ⟨g433, 0, none⟩))), (7, (.int .i64 x1555)), (97, (.int .i64 p0.States)), (98, (.int .i64 x1555)), (102, (.int .i64 p0.Symbols)), (103, (.int .i64 x1677)), (110, (.pointer (some ⟨g433, 0, none⟩))), (114, (.slice A1674 l1676.length c1675)), (120, (.agg #[(.int .i64 t1688), (.int .i64 0), (.int .i64 x1677), (.int .i64 t1717)])), (121, (.int .i64 t1688)), (122, (.int .i64 x1677)), (123, (.pointer (some ⟨g433, 0, none⟩))), (124, (.int .i64 x1555))] [] (fun fb => by kernel_rfl) rfl trivial ?_
              obtain ⟨t1722, ht1723, hl1686⟩ := bind_some hl1686
              refine WL.call (some 125) 62 #[(.pointer (some ⟨g433, 0, none⟩)), (.int .i64 0), (.int .i64 x1555)] (fun fb => by kernel_rfl) (machine_kit_signal_calls (Kit.mk p0 l1676 x997.2 (x997.1.length : Int)) 0 x1555 g433 A_p0_Actions c_p0_Actions A1674 c1675 A994 c995 t1722 _ (hS1721.ow 1) (hS1721.rd 0) (hS1721.ow 2).ofO (hS1721.ow 3).ofO ht1723) (fun v w1724 hR1725 => ?_)
              obtain ⟨rfl, hk_⟩ := hR1725
              have hS1726 := hS1721.keepN hk_
              refine ⟨⟨hS1726.cell 1 rfl 3 rfl, trivial⟩, ?_⟩
              refine seg 17 [] [1, 3, 7, 97, 98, 102, 103, 110, 114, 120, 126] [(1, (.pointer (some ⟨g429, 0, none⟩))), (3, (.pointer (some ⟨g433, 0, none⟩))), (7, (.int .i64 x1555)), (97, (.int .i64 p0.States)), (98, (.int .i64 x1555)), (102, (.int .i64 p0.Symbols)), (103, (.int .i64 x1677)), (110, (.pointer (some ⟨g433, 0, none⟩))), (114, (.slice A1674 l1676.length c1675)), (120, (.agg #[(.int .i64 t1688), (.int .i64 0), (.int .i64 x1677), (.int .i64 t1717)])), (126, (.agg #[(.int .i64 t1688), (.int .i64 t1722), (.int .i64 x1677), (.int .i64 0)]))] [] (fun fb => by kernel_rfl) rfl trivial ?_
              refine WL.new hS1726 127 [] (fun g => (.slice (some ⟨g, 0, none⟩) 2 2)) (.cells #[(.int .i64 t1688), (.int .i64 0), (.int .i64 x1677), (.int .i64 t1717), (.int .i64 t1688), (.int .i64 t1722), (.int .i64 x1677), (.int .i64 0)] 65 (0, 0)) [] (fun fb g => by kernel_rfl) trivial (fun g1727 w1728 hS1729 => ?_)
              refine ⟨⟨hS1729.cell 2 rfl 3 rfl, trivial⟩, ?_⟩
              have hS1731 : St NoS w w1728 [rowR enc_Action A_p0_Actions c_p0_Actions p0.Actions] [rowO 65 enc_Tile (some ⟨g1727, 0, none⟩) 2 [(Tile.mk t1688 0 x1677 t1717), (Tile.mk t1688 t1722 x1677 0)], blk g429 (.cells #[(.int .i64 p0.States), (.int .i64 p0.Symbols), (.slice A_p0_Actions p0.Actions.length c_p0_Actions)] 24 (0, 0)), blk g433 (.cells #[(.int .i64 p0.States), (.int .i64 p0.Symbols), (.slice A_p0_Actions p0.Actions.length c_p0_Actions), (.slice A1674 l1676.length c1675), (.slice A994 x997.2.length c995), (.int .i64 (x997.1.length : Int))] 96 (0, 0)), rowO 65 enc_Tile A1674 c1675 l1676, rowO 3 encInt A994 c995 x997.2] := hS1729.map1 0 _ (fun h => rowO.ofBlk h rfl (Nat.le_of_ble_eq_true (by kernel_rfl))) (fun _ h => by obtain ⟨_, h1, h2⟩ := h; injection h1 with h1; subst h1; exact h2) [1, 2, 3, 4] (by decide) (by decide)
              obtain ⟨h1732, hl1686⟩ := as_some hl1686
              refine WL.append hS1731 3 (d := 128) (tS := 50) (z := (.agg #[(.int .i64 0), (.int .i64 0), (.int .i64 0), (.int .i64 0)])) (bytes := 32) (c2 := 2) rfl (fun fb => by kernel_rfl) (rowO.rd (hS1731.own 0).1) (by kernel_rfl) (by kernel_rfl) rfl (by decide) h1732 (by decide) [0, 1, 2, 4] (by decide) (by decide) (fun A1733 c1734 w1735 hS1736 => ?_)
              refine ⟨trivial, ?_⟩
              refine seg 21 [] [1, 3, 7, 97, 98, 102, 103, 128, 130] [(1, (.pointer (some ⟨g429, 0, none⟩))), (3, (.pointer (some ⟨g433, 0, none⟩))), (7, (.int .i64 x1555)), (97, (.int .i64 p0.States)), (98, (.int .i64 x1555)), (102, (.int .i64 p0.Symbols)), (103, (.int .i64 x1677)), (128, (.slice A1733 (l1676 ++ [(Tile.mk t1688 0 x1677 t1717), (Tile.mk t1688 t1722 x1677 0)]).length c1734)), (130, (.pointer (some ⟨g433, 3, none⟩)))] [] (fun fb => by kernel_rfl) rfl trivial ?_
              refine WL.store hS1736 3 rfl [(3, (.slice A1733 (l1676 ++ [(Tile.mk t1688 0 x1677 t1717), (Tile.mk t1688 t1722 x1677 0)]).length c1734))] #[(.int .i64 p0.States), (.int .i64 p0.Symbols), (.slice A_p0_Actions p0.Actions.length c_p0_Actions), (.slice A1733 (l1676 ++ [(Tile.mk t1688 0 x1677 t1717), (Tile.mk t1688 t1722 x1677 0)]).length c1734), (.slice A994 x997.2.length c995), (.int .i64 (x997.1.length : Int))] (fun fb => by kernel_rfl) (by kernel_rfl) rfl [0, 1, 2, 4] (by decide) (by decide) (fun w1737 hS1738 => ?_)
              refine ⟨trivial, ?_⟩
              refine WL.done rfl ?_
              refine WX.blockN (WX.next ?_)
              refine WC.region ?_
              refine seg 2 [] [1, 3, 7, 97, 98, 102, 103] [(1, (.pointer (some ⟨g429, 0, none⟩))), (3, (.pointer (some ⟨g433, 0, none⟩))), (7, (.int .i64 x1555)), (97, (.int .i64 p0.States)), (98, (.int .i64 x1555)), (102, (.int .i64 p0.Symbols)), (103, (.int .i64 (w64 (x1677 + 1))))] [] (fun fb => by kernel_rfl) rfl trivial ?_
              refine WL.done rfl ?_
              exact WX.again k1683 (Nat.lt_succ_self _) ((l1676 ++ [(Tile.mk t1688 0 x1677 t1717), (Tile.mk t1688 t1722 x1677 0)], w64 (x1677 + 1)), A1733, c1734) [1, 3, 7, 97, 98, 102, 103] rfl ⟨(hS1738.subR [0]).sub [3, 0, 1, 4] (by decide), hl1686⟩
            refine WC.condF2 (fun fb => by kernel_rfl) h1687 ?_
            refine WC.exit ?_
            injection hl1686 with hl1686
            exact WX.thenX (WX.thenX (WX.blockHere (WX.to Kx1681 (l1676, A1674, c1675) [1, 3, 97, 98] rfl ⟨(hS1685.subR [0]).sub [0, 1, 2, 3] (by decide), hl1686.symm⟩)))
        rintro ⟨y1742, A1678, c1679⟩ w1739 ⟨hS1740, hq1741⟩
        subst hq1741
        refine WX.blockN (WX.next ?_)
        refine WC.region ?_
        refine seg 2 [] [1, 3, 97, 98] [(1, (.pointer (some ⟨g429, 0, none⟩))), (3, (.pointer (some ⟨g433, 0, none⟩))), (97, (.int .i64 p0.States)), (98, (.int .i64 (w64 (x1555 + 1))))] [] (fun fb => by kernel_rfl) rfl trivial ?_
        refine WL.done rfl ?_
        exact WX.again k1561 (Nat.lt_succ_self _) ((x1681, w64 (x1555 + 1)), A1678, c1679) [1, 3, 97, 98] rfl ⟨(hS1740.subR [0]).sub [0, 1, 2, 3] (by decide), hl1564⟩
      refine WC.condF2 (fun fb => by kernel_rfl) h1565 ?_
      refine WC.exit ?_
      injection hl1564 with hl1564
      exact WX.thenX (WX.thenX (WX.blockHere (WX.to Kx1559 (l1554, A1552, c1553) [3] rfl ⟨(hS1563.subR [0]).sub [1, 2, 3] (by decide), hl1564.symm⟩)))
  rintro ⟨y1746, A1556, c1557⟩ w1743 ⟨hS1744, hq1745⟩
  subst hq1745
  refine WX.next ?_
  refine WC.seq ?_
  refine WC.region ?_
  refine seg 2 [] [2] [(2, (.pointer (some ⟨g433, 0, none⟩)))] [] (fun fb => by kernel_rfl) rfl trivial ?_
  refine WL.done rfl ?_
  refine WX.next ?_
  refine WC.ret ?_
  injection hf with hf
  subst hf
  exact WX.ret_ [] (.pointer (some ⟨g433, 0, none⟩)) [] (fun fb => by kernel_rfl) trivial ⟨_, rfl, g433, A1556, c1557, A994, c995, rfl, (hS1744.sub [0, 1, 2] (by decide)).noR⟩
theorem machine_Tiles_calls (k : Nat) (p0 : Machine) (A_p0_Actions : Option Addr) (c_p0_Actions : Nat) (r : (List Tile) × Int) (w : World) (hR0 : RO NoS w (rowR enc_Action A_p0_Actions c_p0_Actions p0.Actions)) (hf : machine_Tiles k p0 = some r) :
    CallsR Try.prog 25 #[(.agg #[(.int .i64 p0.States), (.int .i64 p0.Symbols), (.slice A_p0_Actions p0.Actions.length c_p0_Actions)])] w (fun v w' => ∃ (A1_ : Option Addr), ∃ (c1_ : Nat), v = (.tuple #[(.slice A1_ r.1.length c1_), (.int .i64 r.2)]) ∧ St NoS w w' [] [rowO 65 enc_Tile A1_ c1_ r.1]) := by
  have hS : St NoS w w [rowR enc_Action A_p0_Actions c_p0_Actions p0.Actions] [] := St.init (ro_cons hR0 (ro_nil _ _))
  refine enter 12 Try.func25 rfl Try.ntmps25 rfl ?_
  unfold machine_Tiles at hf
  refine WC.seq ?_
  refine WC.region ?_
  refine WL.new hS 1 [] (fun g => (.pointer (some ⟨g, 0, none⟩))) (.cells #[(.int .i64 p0.States), (.int .i64 p0.Symbols), (.slice A_p0_Actions p0.Actions.length c_p0_Actions)] 24 (0, 0)) [] (fun fb g => by kernel_rfl) trivial (fun g315 w316 hS317 => ?_)
  refine ⟨trivial, ?_⟩
  refine seg 3 [] [1] [(1, (.pointer (some ⟨g315, 0, none⟩)))] [] (fun fb => by kernel_rfl) rfl trivial ?_
  refine WL.done rfl ?_
  refine WX.next ?_
  refine WC.seq ?_
  refine WC.seq ?_
  refine WC.region ?_
  refine seg 1 [.v (.int .i64 p0.States), .v (.int .i64 p0.Symbols), .v (.slice A_p0_Actions p0.Actions.length c_p0_Actions)] [1, 4] [(1, (.pointer (some ⟨g315, 0, none⟩))), (4, (.agg #[(.int .i64 p0.States), (.int .i64 p0.Symbols), (.slice A_p0_Actions p0.Actions.length c_p0_Actions)]))] [.cell ⟨g315, 0, none⟩ (.int .i64 p0.States), .cell ⟨g315, 1, none⟩ (.int .i64 p0.Symbols), .cell ⟨g315, 2, none⟩ (.slice A_p0_Actions p0.Actions.length c_p0_Actions)] (fun fb => by kernel_rfl) rfl ⟨hS317.cell 0 rfl 0 rfl, hS317.cell 0 rfl 1 rfl, hS317.cell 0 rfl 2 rfl, trivial⟩ ?_
  obtain ⟨t422, ht423, hf⟩ := bind_some hf
  refine WL.call (some 5) 16 #[(.agg #[(.int .i64 p0.States), (.int .i64 p0.Symbols), (.slice A_p0_Actions p0.Actions.length c_p0_Actions)])] (fun fb => by kernel_rfl) (machine_Valid_calls _ p0 A_p0_Actions c_p0_Actions t422 _ (hS317.rd 0) ht423) (fun v w424 hR425 => ?_)
  obtain ⟨rfl, hk_⟩ := hR425
  have hS426 := hS317.keepN hk_
  refine ⟨trivial, ?_⟩
  refine seg 3 [] [1, 6] [(1, (.pointer (some ⟨g315, 0, none⟩))), (6, (.bool (!t422)))] [] (fun fb => by kernel_rfl) rfl trivial ?_
  refine WL.done rfl ?_
  refine WX.next ?_
  rcases br_some hf with ⟨h427, hf⟩ | ⟨h427, hf⟩
  · refine WC.condT2 (fun fb => by kernel_rfl) h427 ?_
    refine WC.seq ?_
    refine WC.region ?_
    refine seg 2 [] [2, 3] [(2, (.slice none 0 0)), (3, (.int .i64 1))] [] (fun fb => by kernel_rfl) rfl trivial ?_
    refine WL.done rfl ?_
    refine WX.next ?_
    refine WC.ret ?_
    have hS428 := hS426.nilrow 65 enc_Tile
    injection hf with hf
    subst hf
    exact WX.thenR (WX.ret_ [] (.tuple #[(.slice none ([] : List Tile).length 0), (.int .i64 1)]) [] (fun fb => by kernel_rfl) trivial ⟨_, rfl, none, 0, rfl, (hS428.sub [0] (by decide)).noR⟩)
  refine WC.condF2 (fun fb => by kernel_rfl) h427 ?_
  refine WC.skip ?_
  refine WX.next ?_
  refine WC.seq ?_
  refine WC.region ?_
  refine seg 1 [.v (.int .i64 p0.States), .v (.int .i64 p0.Symbols), .v (.slice A_p0_Actions p0.Actions.length c_p0_Actions)] [7] [(7, (.agg #[(.int .i64 p0.States), (.int .i64 p0.Symbols), (.slice A_p0_Actions p0.Actions.length c_p0_Actions)]))] [.cell ⟨g315, 0, none⟩ (.int .i64 p0.States), .cell ⟨g315, 1, none⟩ (.int .i64 p0.Symbols), .cell ⟨g315, 2, none⟩ (.slice A_p0_Actions p0.Actions.length c_p0_Actions)] (fun fb => by kernel_rfl) rfl ⟨hS426.cell 0 rfl 0 rfl, hS426.cell 0 rfl 1 rfl, hS426.cell 0 rfl 2 rfl, trivial⟩ ?_
  obtain ⟨t1747, ht1748, hf⟩ := bind_some hf
  refine WL.call (some 8) 41 #[(.agg #[(.int .i64 p0.States), (.int .i64 p0.Symbols), (.slice A_p0_Actions p0.Actions.length c_p0_Actions)])] (fun fb => by kernel_rfl) (machine_kitOf_calls _ p0 A_p0_Actions c_p0_Actions t1747 _ (hS426.rd 0) ht1748) (fun v w1749 hR1750 => ?_)
  obtain ⟨g1752, A1753, c1754, A1755, c1756, rfl, hk_⟩ := hR1750
  have hS1751 : St NoS w w1749 [rowR enc_Action A_p0_Actions c_p0_Actions p0.Actions] [blk g1752 (.cells #[(.int .i64 t1747.m.States), (.int .i64 t1747.m.Symbols), (.slice A_p0_Actions p0.Actions.length c_p0_Actions), (.slice A1753 t1747.set.length c1754), (.slice A1755 t1747.does.length c1756), (.int .i64 t1747.base)] 96 (0, 0)), rowO 65 enc_Tile A1753 c1754 t1747.set, rowO 3 encInt A1755 c1756 t1747.does, blk g315 (.cells #[(.int .i64 p0.States), (.int .i64 p0.Symbols), (.slice A_p0_Actions p0.Actions.length c_p0_Actions)] 24 (0, 0))] := hS426.call hk_ [] [0] (fun g hg => hg.elim) (by simp) (by decide)
  refine ⟨trivial, ?_⟩
  refine seg 7 [.v (.slice A1753 t1747.set.length c1754)] [2, 3] [(2, (.slice A1753 t1747.set.length c1754)), (3, (.int .i64 0))] [.cell ⟨g1752, 3, none⟩ (.slice A1753 t1747.set.length c1754)] (fun fb => by kernel_rfl) rfl ⟨hS1751.cell 0 rfl 3 rfl, trivial⟩ ?_
  refine WL.done rfl ?_
  refine WX.next ?_
  refine WC.ret ?_
  injection hf with hf
  subst hf
  exact WX.ret_ [] (.tuple #[(.slice A1753 t1747.set.length c1754), (.int .i64 0)]) [] (fun fb => by kernel_rfl) trivial ⟨_, rfl, A1753, c1754, rfl, (hS1751.sub [1] (by decide)).noR⟩
theorem machine_Fits_1_calls (p0 : Int) (f0 : Machine) (g_f0 : Nat) (A_f0_Actions : Option Addr) (c_f0_Actions : Nat) (r : Bool) (w : World) (hR0 : RO NoS w (blk g_f0 (.cells #[(.int .i64 f0.States), (.int .i64 f0.Symbols), (.slice A_f0_Actions f0.Actions.length c_f0_Actions)] 24 (0, 0)))) (hR1 : RO NoS w (rowR enc_Action A_f0_Actions c_f0_Actions f0.Actions)) (hf : machine_Fits_1 p0 f0 = some r) :
    CallsR Try.prog 50 #[(.int .i64 p0), (.pointer (some ⟨g_f0, 0, none⟩))] w (fun v w' => v = (.bool r) ∧ Keeps NoS w w') := by
  have hS : St NoS w w [blk g_f0 (.cells #[(.int .i64 f0.States), (.int .i64 f0.Symbols), (.slice A_f0_Actions f0.Actions.length c_f0_Actions)] 24 (0, 0)), rowR enc_Action A_f0_Actions c_f0_Actions f0.Actions] [] := St.init (ro_cons hR0 (ro_cons hR1 (ro_nil _ _)))
  refine enter 12 Try.func50 rfl Try.ntmps50 rfl ?_
  unfold machine_Fits_1 at hf
  refine WC.seq ?_
  refine WC.region ?_
  refine seg 1 [] [0, 1] [(0, (.int .i64 p0)), (1, (.pointer (some ⟨g_f0, 0, none⟩)))] [] (fun fb => by kernel_rfl) rfl trivial ?_
  refine WL.done rfl ?_
  refine WX.next ?_
  refine WC.seq ?_
  refine WC.region ?_
  refine seg 3 [] [0, 1, 6] [(0, (.int .i64 p0)), (1, (.pointer (some ⟨g_f0, 0, none⟩))), (6, (.bool (decide (p0 < 0))))] [] (fun fb => by kernel_rfl) rfl trivial ?_
  refine WL.cutV (T := Bool) 8 (fun t => [(11, (.bool t))]) (fun t => t = ((decide (p0 < 0)) || (decide (p0 ≥ f0.Symbols)))) (fun K => ?_) ?_
  ·
    rcases Bool.eq_false_or_eq_true (decide (p0 < 0)) with h1815 | h1815
    ·
      refine WL.setB 6 h1815 rfl ?_
      refine seg 8 [] [11] [(11, (.bool true))] [] (fun fb => by kernel_rfl) rfl trivial ?_
      exact WL.toV K true [11] rfl (by rw [h1815]; rfl)
    refine WL.setB 6 h1815 rfl ?_
    refine seg 8 [.v (.int .i64 f0.Symbols)] [11] [(11, (.bool (decide (p0 ≥ f0.Symbols))))] [.cell ⟨g_f0, 1, none⟩ (.int .i64 f0.Symbols)] (fun fb => by kernel_rfl) rfl ⟨blk_cell (hS.rd 0).1 1 rfl, trivial⟩ ?_
    exact WL.toV K (decide (p0 ≥ f0.Symbols)) [11] rfl (by rw [h1815]; rfl)
  rintro b1816 rfl
  refine seg 9 [] [3] [(3, (.bool ((decide (p0 < 0)) || (decide (p0 ≥ f0.Symbols)))))] [] (fun fb => by kernel_rfl) rfl trivial ?_
  refine WL.done rfl ?_
  refine WX.next ?_
  refine WC.ret ?_
  injection hf with hf
  subst hf
  exact WX.ret_ [] (.bool ((decide (p0 < 0)) || (decide (p0 ≥ f0.Symbols)))) [] (fun fb => by kernel_rfl) trivial ⟨_, rfl, rfl, hS.keep⟩
theorem slices_IndexFunc_int_int_with_machine_Fits_1_calls (k : Nat) (p0 : List Int) (p1_0 : Machine) (A_p0 : Option Addr) (c_p0 : Nat) (g_p1_0 : Nat) (A_p1_0_Actions : Option Addr) (c_p1_0_Actions : Nat) (r : Int) (w : World) (hR0 : RO NoS w (rowR encInt A_p0 c_p0 p0)) (hR1 : RO NoS w (blk g_p1_0 (.cells #[(.int .i64 p1_0.States), (.int .i64 p1_0.Symbols), (.slice A_p1_0_Actions p1_0.Actions.length c_p1_0_Actions)] 24 (0, 0)))) (hR2 : RO NoS w (rowR enc_Action A_p1_0_Actions c_p1_0_Actions p1_0.Actions)) (hf : slices_IndexFunc_int_int_with_machine_Fits_1 k p0 p1_0 = some r) :
    CallsR Try.prog 65 #[(.slice A_p0 p0.length c_p0), (.func (.func 50) #[] #[(.pointer (some ⟨g_p1_0, 0, none⟩))])] w (fun v w' => v = (.int .i64 r) ∧ Keeps NoS w w') := by
  have hS : St NoS w w [rowR encInt A_p0 c_p0 p0, blk g_p1_0 (.cells #[(.int .i64 p1_0.States), (.int .i64 p1_0.Symbols), (.slice A_p1_0_Actions p1_0.Actions.length c_p1_0_Actions)] 24 (0, 0)), rowR enc_Action A_p1_0_Actions c_p1_0_Actions p1_0.Actions] [] := St.init (ro_cons hR0 (ro_cons hR1 (ro_cons hR2 (ro_nil _ _))))
  refine enter 19 Try.func65 rfl Try.ntmps65 rfl ?_
  unfold slices_IndexFunc_int_int_with_machine_Fits_1 at hf
  refine WC.seq ?_
  refine WC.region ?_
  refine seg 1 [] [0, 1] [(0, (.slice A_p0 p0.length c_p0)), (1, (.func (.func 50) #[] #[(.pointer (some ⟨g_p1_0, 0, none⟩))]))] [] (fun fb => by kernel_rfl) rfl trivial ?_
  refine WL.done rfl ?_
  refine WX.next ?_
  refine WC.seq ?_
  refine WC.seq ?_
  refine WC.region ?_
  refine seg 3 [] [0, 1, 7, 8] [(0, (.slice A_p0 p0.length c_p0)), (1, (.func (.func 50) #[] #[(.pointer (some ⟨g_p1_0, 0, none⟩))])), (7, (.int .i64 (p0.length : Int))), (8, (.int .i64 0))] [] (fun fb => by kernel_rfl) rfl trivial ?_
  refine WL.done rfl ?_
  refine WX.next ?_
  obtain ⟨x1833, hx1834, hf⟩ := bind_some hf
  refine WC.cutN (T := Unit) (fun t => []) (fun t w1 => St NoS w w1 [rowR encInt A_p0 c_p0 p0, blk g_p1_0 (.cells #[(.int .i64 p1_0.States), (.int .i64 p1_0.Symbols), (.slice A_p1_0_Actions p1_0.Actions.length c_p1_0_Actions)] 24 (0, 0)), rowR enc_Action A_p1_0_Actions c_p1_0_Actions p1_0.Actions] [] ∧ x1833 = .inr t) (fun Kx1833 => ?_) ?_
  ·
    refine WC.block ?_
    refine WC.loop (T := Int) (fun t => [(0, (.slice A_p0 p0.length c_p0)), (1, (.func (.func 50) #[] #[(.pointer (some ⟨g_p1_0, 0, none⟩))])), (7, (.int .i64 (p0.length : Int))), (8, (.int .i64 t))]) (fun n t w1 => St NoS w w1 [rowR encInt A_p0 c_p0 p0, blk g_p1_0 (.cells #[(.int .i64 p1_0.States), (.int .i64 p1_0.Symbols), (.slice A_p1_0_Actions p1_0.Actions.length c_p1_0_Actions)] 24 (0, 0)), rowR enc_Action A_p1_0_Actions c_p1_0_Actions p1_0.Actions] [] ∧ slices_IndexFunc_int_int_with_machine_Fits_1.l0 n t p0 p1_0 = some x1833) k 0 [0, 1, 7, 8] rfl ⟨(hS.subR [0, 1, 2]).sub [] (by decide), hx1834⟩ ?_
    rintro k1835 x1832 w1836 ⟨hS1837, hl1838⟩
    cases k1835 with
    | zero => rw [slices_IndexFunc_int_int_with_machine_Fits_1.l0] at hl1838; cases hl1838
    | succ k1835 =>
      rw [slices_IndexFunc_int_int_with_machine_Fits_1.l0] at hl1838
      refine WC.seq ?_
      refine WC.region ?_
      refine seg 1 [] [0, 1, 7, 8, 9] [(0, (.slice A_p0 p0.length c_p0)), (1, (.func (.func 50) #[] #[(.pointer (some ⟨g_p1_0, 0, none⟩))])), (7, (.int .i64 (p0.length : Int))), (8, (.int .i64 x1832)), (9, (.bool (decide (x1832 < (p0.length : Int)))))] [] (fun fb => by kernel_rfl) rfl trivial ?_
      refine WL.done rfl ?_
      refine WX.next ?_
      refine WC.seq ?_
      rcases br_some hl1838 with ⟨h1839, hl1838⟩ | ⟨h1839, hl1838⟩
      · refine WC.condT2 (fun fb => by kernel_rfl) h1839 ?_
        refine WC.skip ?_
        refine WX.next ?_
        refine WC.seq ?_
        refine WC.block ?_
        refine WC.seq ?_
        refine WC.region ?_
        refine seg 2 [] [0, 1, 5, 7, 8] [(0, (.slice A_p0 p0.length c_p0)), (1, (.func (.func 50) #[] #[(.pointer (some ⟨g_p1_0, 0, none⟩))])), (5, (.int .i64 x1832)), (7, (.int .i64 (p0.length : Int))), (8, (.int .i64 x1832))] [] (fun fb => by kernel_rfl) rfl trivial ?_
        refine WL.done rfl ?_
        refine WX.next ?_
        refine WC.seq ?_
        refine WC.region ?_
        refine seg 3 [] [0, 1, 5, 7, 8, 11, 12, 13] [(0, (.slice A_p0 p0.length c_p0)), (1, (.func (.func 50) #[] #[(.pointer (some ⟨g_p1_0, 0, none⟩))])), (5, (.int .i64 x1832)), (7, (.int .i64 (p0.length : Int))), (8, (.int .i64 x1832)), (11, (.func (.func 50) #[] #[(.pointer (some ⟨g_p1_0, 0, none⟩))])), (12, (.slice A_p0 p0.length c_p0)), (13, (.int .i64 x1832))] [] (fun fb => by kernel_rfl) rfl trivial ?_
        obtain ⟨h1840, hl1838⟩ := as_some hl1838
        refine seg 5 [.v (.int .i64 (rdD p0 x1832 0))] [0, 1, 5, 7, 8, 11, 15] [(0, (.slice A_p0 p0.length c_p0)), (1, (.func (.func 50) #[] #[(.pointer (some ⟨g_p1_0, 0, none⟩))])), (5, (.int .i64 x1832)), (7, (.int .i64 (p0.length : Int))), (8, (.int .i64 x1832)), (11, (.func (.func 50) #[] #[(.pointer (some ⟨g_p1_0, 0, none⟩))])), (15, (.int .i64 (rdD p0 x1832 0)))] [.idx A_p0 x1832 p0.length, .cell ((adr A_p0).add ((x1832).toNat * 1)) (.int .i64 (rdD p0 x1832 0))] (fun fb => by kernel_rfl) rfl ⟨rowR.adr (hS1837.rd 0).1 h1840.1 h1840.2, rowR.cell (hS1837.rd 0).1 0 h1840.1 h1840.2 0 rfl, trivial⟩ ?_
        obtain ⟨t1841, ht1842, hl1838⟩ := bind_some hl1838
        refine WL.call (some 16) 50 #[(.int .i64 (rdD p0 x1832 0)), (.pointer (some ⟨g_p1_0, 0, none⟩))] (fun fb => by kernel_rfl) (machine_Fits_1_calls (rdD p0 x1832 0) p1_0 g_p1_0 A_p1_0_Actions c_p1_0_Actions t1841 _ (hS1837.rd 1) (hS1837.rd 2) ht1842) (fun v w1843 hR1844 => ?_)
        obtain ⟨rfl, hk_⟩ := hR1844
        have hS1845 := hS1837.keepN hk_
        refine ⟨trivial, ?_⟩
        refine WL.done rfl ?_
        refine WX.next ?_
        rcases br_some hl1838 with ⟨h1846, hl1838⟩ | ⟨h1846, hl1838⟩
        · refine WC.condT2 (fun fb => by kernel_rfl) h1846 ?_
          refine WC.seq ?_
          refine WC.region ?_
          refine seg 2 [] [4] [(4, (.int .i64 x1832))] [] (fun fb => by kernel_rfl) rfl trivial ?_
          refine WL.done rfl ?_
          refine WX.next ?_
          refine WC.ret ?_
          injection hl1838 with hl1838
          subst hl1838
          injection hf with hf
          subst hf
          exact WX.blockR (WX.thenR (WX.thenR (WX.blockR (WX.thenR (WX.ret_ [] (.int .i64 x1832) [] (fun fb => by kernel_rfl) trivial ⟨_, rfl, rfl, hS1845.keep⟩)))))
        refine WC.condF2 (fun fb => by kernel_rfl) h1846 ?_
        refine WC.skip ?_
        refine WX.blockN (WX.next ?_)
        refine WC.region ?_
        refine seg 2 [] [0, 1, 7, 8] [(0, (.slice A_p0 p0.length c_p0)), (1, (.func (.func 50) #[] #[(.pointer (some ⟨g_p1_0, 0, none⟩))])), (7, (.int .i64 (p0.length : Int))), (8, (.int .i64 (w64 (x1832 + 1))))] [] (fun fb => by kernel_rfl) rfl trivial ?_
        refine WL.done rfl ?_
        exact WX.again k1835 (Nat.lt_succ_self _) (w64 (x1832 + 1)) [0, 1, 7, 8] rfl ⟨(hS1845.subR [0, 1, 2]).sub [] (by decide), hl1838⟩
      refine WC.condF2 (fun fb => by kernel_rfl) h1839 ?_
      refine WC.exit ?_
      injection hl1838 with hl1838
      exact WX.thenX (WX.thenX (WX.blockHere (WX.to Kx1833 () [] rfl ⟨(hS1837.subR [0, 1, 2]).sub [] (by decide), hl1838.symm⟩)))
  rintro y1850 w1847 ⟨hS1848, hq1849⟩
  subst hq1849
  have hf := sum_inr hf
  refine WX.next ?_
  refine WC.seq ?_
  refine WC.region ?_
  refine seg 1 [] [4] [(4, (.int .i64 (-1)))] [] (fun fb => by kernel_rfl) rfl trivial ?_
  refine WL.done rfl ?_
  refine WX.next ?_
  refine WC.ret ?_
  injection hf with hf
  subst hf
  exact WX.ret_ [] (.int .i64 (-1)) [] (fun fb => by kernel_rfl) trivial ⟨_, rfl, rfl, hS1848.keep⟩
theorem slices_ContainsFunc_int_int_with_machine_Fits_1_calls (k : Nat) (p0 : List Int) (p1_0 : Machine) (A_p0 : Option Addr) (c_p0 : Nat) (g_p1_0 : Nat) (A_p1_0_Actions : Option Addr) (c_p1_0_Actions : Nat) (r : Bool) (w : World) (hR0 : RO NoS w (rowR encInt A_p0 c_p0 p0)) (hR1 : RO NoS w (blk g_p1_0 (.cells #[(.int .i64 p1_0.States), (.int .i64 p1_0.Symbols), (.slice A_p1_0_Actions p1_0.Actions.length c_p1_0_Actions)] 24 (0, 0)))) (hR2 : RO NoS w (rowR enc_Action A_p1_0_Actions c_p1_0_Actions p1_0.Actions)) (hf : slices_ContainsFunc_int_int_with_machine_Fits_1 k p0 p1_0 = some r) :
    CallsR Try.prog 49 #[(.slice A_p0 p0.length c_p0), (.func (.func 50) #[] #[(.pointer (some ⟨g_p1_0, 0, none⟩))])] w (fun v w' => v = (.bool r) ∧ Keeps NoS w w') := by
  have hS : St NoS w w [rowR encInt A_p0 c_p0 p0, blk g_p1_0 (.cells #[(.int .i64 p1_0.States), (.int .i64 p1_0.Symbols), (.slice A_p1_0_Actions p1_0.Actions.length c_p1_0_Actions)] 24 (0, 0)), rowR enc_Action A_p1_0_Actions c_p1_0_Actions p1_0.Actions] [] := St.init (ro_cons hR0 (ro_cons hR1 (ro_cons hR2 (ro_nil _ _))))
  refine enter 9 Try.func49 rfl Try.ntmps49 rfl ?_
  unfold slices_ContainsFunc_int_int_with_machine_Fits_1 at hf
  refine WC.seq ?_
  refine WC.region ?_
  refine seg 1 [] [0, 1] [(0, (.slice A_p0 p0.length c_p0)), (1, (.func (.func 50) #[] #[(.pointer (some ⟨g_p1_0, 0, none⟩))]))] [] (fun fb => by kernel_rfl) rfl trivial ?_
  refine WL.done rfl ?_
  refine WX.next ?_
  refine WC.seq ?_
  refine WC.region ?_
  refine seg 2 [] [5, 6] [(5, (.slice A_p0 p0.length c_p0)), (6, (.func (.func 50) #[] #[(.pointer (some ⟨g_p1_0, 0, none⟩))]))] [] (fun fb => by kernel_rfl) rfl trivial ?_
  obtain ⟨t1852, ht1853, hf⟩ := bind_some hf
  refine WL.call (some 7) 65 #[(.slice A_p0 p0.length c_p0), (.func (.func 50) #[] #[(.pointer (some ⟨g_p1_0, 0, none⟩))])] (fun fb => by kernel_rfl) (slices_IndexFunc_int_int_with_machine_Fits_1_calls _ p0 p1_0 A_p0 c_p0 g_p1_0 A_p1_0_Actions c_p1_0_Actions t1852 _ (hS.rd 0) (hS.rd 1) (hS.rd 2) ht1853) (fun v w1854 hR1855 => ?_)
  obtain ⟨rfl, hk_⟩ := hR1855
  have hS1856 := hS.keepN hk_
  refine ⟨trivial, ?_⟩
  refine seg 5 [] [4] [(4, (.bool (decide (t1852 ≥ 0))))] [] (fun fb => by kernel_rfl) rfl trivial ?_
  refine WL.done rfl ?_
  refine WX.next ?_
  refine WC.ret ?_
  injection hf with hf
  subst hf
  exact WX.ret_ [] (.bool (decide (t1852 ≥ 0))) [] (fun fb => by kernel_rfl) trivial ⟨_, rfl, rfl, hS1856.keep⟩
theorem machine_Fits_calls (k : Nat) (p0 : Machine) (p1 : Config) (A_p0_Actions : Option Addr) (c_p0_Actions : Nat) (A_p1_Cells : Option Addr) (c_p1_Cells : Nat) (r : Bool) (w : World) (hR0 : RO NoS w (rowR enc_Action A_p0_Actions c_p0_Actions p0.Actions)) (hR1 : RO NoS w (rowR encInt A_p1_Cells c_p1_Cells p1.Cells)) (hf : machine_Fits k p0 p1 = some r) :
    CallsR Try.prog 18 #[(.agg #[(.int .i64 p0.States), (.int .i64 p0.Symbols), (.slice A_p0_Actions p0.Actions.length c_p0_Actions)]), (.agg #[(.int .i64 p1.State), (.int .i64 p1.At), (.slice A_p1_Cells p1.Cells.length c_p1_Cells)])] w (fun v w' => v = (.bool r) ∧ Keeps NoS w w') := by
  have hS : St NoS w w [rowR enc_Action A_p0_Actions c_p0_Actions p0.Actions, rowR encInt A_p1_Cells c_p1_Cells p1.Cells] [] := St.init (ro_cons hR0 (ro_cons hR1 (ro_nil _ _)))
  refine enter 51 Try.func18 rfl Try.ntmps18 rfl ?_
  unfold machine_Fits at hf
  refine WC.seq ?_
  refine WC.region ?_
  refine WL.new hS 2 [] (fun g => (.pointer (some ⟨g, 0, none⟩))) (.cells #[(.int .i64 p0.States), (.int .i64 p0.Symbols), (.slice A_p0_Actions p0.Actions.length c_p0_Actions)] 24 (0, 0)) [] (fun fb g => by kernel_rfl) trivial (fun g1788 w1789 hS1790 => ?_)
  refine ⟨trivial, ?_⟩
  refine WL.new hS1790 3 [] (fun g => (.pointer (some ⟨g, 0, none⟩))) (.cells #[(.int .i64 p1.State), (.int .i64 p1.At), (.slice A_p1_Cells p1.Cells.length c_p1_Cells)] 27 (0, 0)) [] (fun fb g => by kernel_rfl) trivial (fun g1792 w1793 hS1794 => ?_)
  refine ⟨trivial, ?_⟩
  refine seg 3 [] [2, 3] [(2, (.pointer (some ⟨g1788, 0, none⟩))), (3, (.pointer (some ⟨g1792, 0, none⟩)))] [] (fun fb => by kernel_rfl) rfl trivial ?_
  refine WL.done rfl ?_
  refine WX.next ?_
  refine WC.seq ?_
  refine WC.region ?_
  refine seg 1 [.v (.int .i64 p0.States), .v (.int .i64 p0.Symbols), .v (.slice A_p0_Actions p0.Actions.length c_p0_Actions)] [2, 3, 5] [(2, (.pointer (some ⟨g1788, 0, none⟩))), (3, (.pointer (some ⟨g1792, 0, none⟩))), (5, (.agg #[(.int .i64 p0.States), (.int .i64 p0.Symbols), (.slice A_p0_Actions p0.Actions.length c_p0_Actions)]))] [.cell ⟨g1788, 0, none⟩ (.int .i64 p0.States), .cell ⟨g1788, 1, none⟩ (.int .i64 p0.Symbols), .cell ⟨g1788, 2, none⟩ (.slice A_p0_Actions p0.Actions.length c_p0_Actions)] (fun fb => by kernel_rfl) rfl ⟨hS1794.cell 1 rfl 0 rfl, hS1794.cell 1 rfl 1 rfl, hS1794.cell 1 rfl 2 rfl, trivial⟩ ?_
  obtain ⟨t1796, ht1797, hf⟩ := bind_some hf
  refine WL.call (some 6) 16 #[(.agg #[(.int .i64 p0.States), (.int .i64 p0.Symbols), (.slice A_p0_Actions p0.Actions.length c_p0_Actions)])] (fun fb => by kernel_rfl) (machine_Valid_calls _ p0 A_p0_Actions c_p0_Actions t1796 _ (hS1794.rd 0) ht1797) (fun v w1798 hR1799 => ?_)
  obtain ⟨rfl, hk_⟩ := hR1799
  have hS1800 := hS1794.keepN hk_
  refine ⟨trivial, ?_⟩
  refine seg 3 [] [2, 3, 7] [(2, (.pointer (some ⟨g1788, 0, none⟩))), (3, (.pointer (some ⟨g1792, 0, none⟩))), (7, (.bool t1796))] [] (fun fb => by kernel_rfl) rfl trivial ?_
  refine WL.cutV (T := Bool) 7 (fun t => [(11, (.bool t)), (2, (.pointer (some ⟨g1788, 0, none⟩))), (3, (.pointer (some ⟨g1792, 0, none⟩)))]) (fun t => t = (t1796 && (decide (p1.State ≥ 0)))) (fun K => ?_) ?_
  ·
    rcases Bool.eq_false_or_eq_true t1796 with h1801 | h1801
    ·
      refine WL.setB 7 h1801 rfl ?_
      refine seg 7 [.v (.int .i64 p1.State)] [2, 3, 11] [(2, (.pointer (some ⟨g1788, 0, none⟩))), (3, (.pointer (some ⟨g1792, 0, none⟩))), (11, (.bool (decide (p1.State ≥ 0))))] [.cell ⟨g1792, 0, none⟩ (.int .i64 p1.State)] (fun fb => by kernel_rfl) rfl ⟨hS1800.cell 0 rfl 0 rfl, trivial⟩ ?_
      exact WL.toV K (decide (p1.State ≥ 0)) [11, 2, 3] rfl (by rw [h1801]; rfl)
    refine WL.setB 7 h1801 rfl ?_
    refine seg 7 [] [2, 3, 11] [(2, (.pointer (some ⟨g1788, 0, none⟩))), (3, (.pointer (some ⟨g1792, 0, none⟩))), (11, (.bool false))] [] (fun fb => by kernel_rfl) rfl trivial ?_
    exact WL.toV K false [11, 2, 3] rfl (by rw [h1801]; rfl)
  rintro b1802 rfl
  refine seg 8 [] [2, 3, 12] [(2, (.pointer (some ⟨g1788, 0, none⟩))), (3, (.pointer (some ⟨g1792, 0, none⟩))), (12, (.bool (t1796 && (decide (p1.State ≥ 0)))))] [] (fun fb => by kernel_rfl) rfl trivial ?_
  refine WL.cutV (T := Bool) 14 (fun t => [(18, (.bool t)), (2, (.pointer (some ⟨g1788, 0, none⟩))), (3, (.pointer (some ⟨g1792, 0, none⟩)))]) (fun t => t = ((t1796 && (decide (p1.State ≥ 0))) && (decide (p1.State < p0.States)))) (fun K => ?_) ?_
  ·
    rcases Bool.eq_false_or_eq_true (t1796 && (decide (p1.State ≥ 0))) with h1803 | h1803
    ·
      refine WL.setB 12 h1803 rfl ?_
      refine seg 14 [.v (.int .i64 p1.State), .v (.int .i64 p0.States)] [2, 3, 18] [(2, (.pointer (some ⟨g1788, 0, none⟩))), (3, (.pointer (some ⟨g1792, 0, none⟩))), (18, (.bool (decide (p1.State < p0.States))))] [.cell ⟨g1792, 0, none⟩ (.int .i64 p1.State), .cell ⟨g1788, 0, none⟩ (.int .i64 p0.States)] (fun fb => by kernel_rfl) rfl ⟨hS1800.cell 0 rfl 0 rfl, hS1800.cell 1 rfl 0 rfl, trivial⟩ ?_
      exact WL.toV K (decide (p1.State < p0.States)) [18, 2, 3] rfl (by rw [h1803]; rfl)
    refine WL.setB 12 h1803 rfl ?_
    refine seg 14 [] [2, 3, 18] [(2, (.pointer (some ⟨g1788, 0, none⟩))), (3, (.pointer (some ⟨g1792, 0, none⟩))), (18, (.bool false))] [] (fun fb => by kernel_rfl) rfl trivial ?_
    exact WL.toV K false [18, 2, 3] rfl (by rw [h1803]; rfl)
  rintro b1804 rfl
  refine seg 15 [] [2, 3, 19] [(2, (.pointer (some ⟨g1788, 0, none⟩))), (3, (.pointer (some ⟨g1792, 0, none⟩))), (19, (.bool ((t1796 && (decide (p1.State ≥ 0))) && (decide (p1.State < p0.States)))))] [] (fun fb => by kernel_rfl) rfl trivial ?_
  refine WL.cutV (T := Bool) 20 (fun t => [(24, (.bool t)), (2, (.pointer (some ⟨g1788, 0, none⟩))), (3, (.pointer (some ⟨g1792, 0, none⟩)))]) (fun t => t = (((t1796 && (decide (p1.State ≥ 0))) && (decide (p1.State < p0.States))) && (decide ((p1.Cells.length : Int) ≥ 1)))) (fun K => ?_) ?_
  ·
    rcases Bool.eq_false_or_eq_true ((t1796 && (decide (p1.State ≥ 0))) && (decide (p1.State < p0.States))) with h1805 | h1805
    ·
      refine WL.setB 19 h1805 rfl ?_
      refine seg 20 [.v (.slice A_p1_Cells p1.Cells.length c_p1_Cells)] [2, 3, 24] [(2, (.pointer (some ⟨g1788, 0, none⟩))), (3, (.pointer (some ⟨g1792, 0, none⟩))), (24, (.bool (decide ((p1.Cells.length : Int) ≥ 1))))] [.cell ⟨g1792, 2, none⟩ (.slice A_p1_Cells p1.Cells.length c_p1_Cells)] (fun fb => by kernel_rfl) rfl ⟨hS1800.cell 0 rfl 2 rfl, trivial⟩ ?_
      exact WL.toV K (decide ((p1.Cells.length : Int) ≥ 1)) [24, 2, 3] rfl (by rw [h1805]; rfl)
    refine WL.setB 19 h1805 rfl ?_
    refine seg 20 [] [2, 3, 24] [(2, (.pointer (some ⟨g1788, 0, none⟩))), (3, (.pointer (some ⟨g1792, 0, none⟩))), (24, (.bool false))] [] (fun fb => by kernel_rfl) rfl trivial ?_
    exact WL.toV K false [24, 2, 3] rfl (by rw [h1805]; rfl)
  rintro b1806 rfl
  refine seg 21 [] [2, 3, 25] [(2, (.pointer (some ⟨g1788, 0, none⟩))), (3, (.pointer (some ⟨g1792, 0, none⟩))), (25, (.bool (((t1796 && (decide (p1.State ≥ 0))) && (decide (p1.State < p0.States))) && (decide ((p1.Cells.length : Int) ≥ 1)))))] [] (fun fb => by kernel_rfl) rfl trivial ?_
  refine WL.cutV (T := Bool) 26 (fun t => [(30, (.bool t)), (2, (.pointer (some ⟨g1788, 0, none⟩))), (3, (.pointer (some ⟨g1792, 0, none⟩)))]) (fun t => t = ((((t1796 && (decide (p1.State ≥ 0))) && (decide (p1.State < p0.States))) && (decide ((p1.Cells.length : Int) ≥ 1))) && (decide ((p1.Cells.length : Int) ≤ 200)))) (fun K => ?_) ?_
  ·
    rcases Bool.eq_false_or_eq_true (((t1796 && (decide (p1.State ≥ 0))) && (decide (p1.State < p0.States))) && (decide ((p1.Cells.length : Int) ≥ 1))) with h1807 | h1807
    ·
      refine WL.setB 25 h1807 rfl ?_
      refine seg 26 [.v (.slice A_p1_Cells p1.Cells.length c_p1_Cells)] [2, 3, 30] [(2, (.pointer (some ⟨g1788, 0, none⟩))), (3, (.pointer (some ⟨g1792, 0, none⟩))), (30, (.bool (decide ((p1.Cells.length : Int) ≤ 200))))] [.cell ⟨g1792, 2, none⟩ (.slice A_p1_Cells p1.Cells.length c_p1_Cells)] (fun fb => by kernel_rfl) rfl ⟨hS1800.cell 0 rfl 2 rfl, trivial⟩ ?_
      exact WL.toV K (decide ((p1.Cells.length : Int) ≤ 200)) [30, 2, 3] rfl (by rw [h1807]; rfl)
    refine WL.setB 25 h1807 rfl ?_
    refine seg 26 [] [2, 3, 30] [(2, (.pointer (some ⟨g1788, 0, none⟩))), (3, (.pointer (some ⟨g1792, 0, none⟩))), (30, (.bool false))] [] (fun fb => by kernel_rfl) rfl trivial ?_
    exact WL.toV K false [30, 2, 3] rfl (by rw [h1807]; rfl)
  rintro b1808 rfl
  refine seg 27 [] [2, 3, 31] [(2, (.pointer (some ⟨g1788, 0, none⟩))), (3, (.pointer (some ⟨g1792, 0, none⟩))), (31, (.bool ((((t1796 && (decide (p1.State ≥ 0))) && (decide (p1.State < p0.States))) && (decide ((p1.Cells.length : Int) ≥ 1))) && (decide ((p1.Cells.length : Int) ≤ 200)))))] [] (fun fb => by kernel_rfl) rfl trivial ?_
  refine WL.cutV (T := Bool) 31 (fun t => [(35, (.bool t)), (2, (.pointer (some ⟨g1788, 0, none⟩))), (3, (.pointer (some ⟨g1792, 0, none⟩)))]) (fun t => t = (((((t1796 && (decide (p1.State ≥ 0))) && (decide (p1.State < p0.States))) && (decide ((p1.Cells.length : Int) ≥ 1))) && (decide ((p1.Cells.length : Int) ≤ 200))) && (decide (p1.At ≥ 0)))) (fun K => ?_) ?_
  ·
    rcases Bool.eq_false_or_eq_true ((((t1796 && (decide (p1.State ≥ 0))) && (decide (p1.State < p0.States))) && (decide ((p1.Cells.length : Int) ≥ 1))) && (decide ((p1.Cells.length : Int) ≤ 200))) with h1809 | h1809
    ·
      refine WL.setB 31 h1809 rfl ?_
      refine seg 31 [.v (.int .i64 p1.At)] [2, 3, 35] [(2, (.pointer (some ⟨g1788, 0, none⟩))), (3, (.pointer (some ⟨g1792, 0, none⟩))), (35, (.bool (decide (p1.At ≥ 0))))] [.cell ⟨g1792, 1, none⟩ (.int .i64 p1.At)] (fun fb => by kernel_rfl) rfl ⟨hS1800.cell 0 rfl 1 rfl, trivial⟩ ?_
      exact WL.toV K (decide (p1.At ≥ 0)) [35, 2, 3] rfl (by rw [h1809]; rfl)
    refine WL.setB 31 h1809 rfl ?_
    refine seg 31 [] [2, 3, 35] [(2, (.pointer (some ⟨g1788, 0, none⟩))), (3, (.pointer (some ⟨g1792, 0, none⟩))), (35, (.bool false))] [] (fun fb => by kernel_rfl) rfl trivial ?_
    exact WL.toV K false [35, 2, 3] rfl (by rw [h1809]; rfl)
  rintro b1810 rfl
  refine seg 32 [] [2, 3, 36] [(2, (.pointer (some ⟨g1788, 0, none⟩))), (3, (.pointer (some ⟨g1792, 0, none⟩))), (36, (.bool (((((t1796 && (decide (p1.State ≥ 0))) && (decide (p1.State < p0.States))) && (decide ((p1.Cells.length : Int) ≥ 1))) && (decide ((p1.Cells.length : Int) ≤ 200))) && (decide (p1.At ≥ 0)))))] [] (fun fb => by kernel_rfl) rfl trivial ?_
  refine WL.cutV (T := Bool) 39 (fun t => [(43, (.bool t)), (2, (.pointer (some ⟨g1788, 0, none⟩))), (3, (.pointer (some ⟨g1792, 0, none⟩)))]) (fun t => t = ((((((t1796 && (decide (p1.State ≥ 0))) && (decide (p1.State < p0.States))) && (decide ((p1.Cells.length : Int) ≥ 1))) && (decide ((p1.Cells.length : Int) ≤ 200))) && (decide (p1.At ≥ 0))) && (decide (p1.At < (p1.Cells.length : Int))))) (fun K => ?_) ?_
  ·
    rcases Bool.eq_false_or_eq_true (((((t1796 && (decide (p1.State ≥ 0))) && (decide (p1.State < p0.States))) && (decide ((p1.Cells.length : Int) ≥ 1))) && (decide ((p1.Cells.length : Int) ≤ 200))) && (decide (p1.At ≥ 0))) with h1811 | h1811
    ·
      refine WL.setB 36 h1811 rfl ?_
      refine seg 39 [.v (.int .i64 p1.At), .v (.slice A_p1_Cells p1.Cells.length c_p1_Cells)] [2, 3, 43] [(2, (.pointer (some ⟨g1788, 0, none⟩))), (3, (.pointer (some ⟨g1792, 0, none⟩))), (43, (.bool (decide (p1.At < (p1.Cells.length : Int)))))] [.cell ⟨g1792, 1, none⟩ (.int .i64 p1.At), .cell ⟨g1792, 2, none⟩ (.slice A_p1_Cells p1.Cells.length c_p1_Cells)] (fun fb => by kernel_rfl) rfl ⟨hS1800.cell 0 rfl 1 rfl, hS1800.cell 0 rfl 2 rfl, trivial⟩ ?_
      exact WL.toV K (decide (p1.At < (p1.Cells.length : Int))) [43, 2, 3] rfl (by rw [h1811]; rfl)
    refine WL.setB 36 h1811 rfl ?_
    refine seg 39 [] [2, 3, 43] [(2, (.pointer (some ⟨g1788, 0, none⟩))), (3, (.pointer (some ⟨g1792, 0, none⟩))), (43, (.bool false))] [] (fun fb => by kernel_rfl) rfl trivial ?_
    exact WL.toV K false [43, 2, 3] rfl (by rw [h1811]; rfl)
  rintro b1812 rfl
  refine seg 40 [] [2, 3, 44] [(2, (.pointer (some ⟨g1788, 0, none⟩))), (3, (.pointer (some ⟨g1792, 0, none⟩))), (44, (.bool ((((((t1796 && (decide (p1.State ≥ 0))) && (decide (p1.State < p0.States))) && (decide ((p1.Cells.length : Int) ≥ 1))) && (decide ((p1.Cells.length : Int) ≤ 200))) && (decide (p1.At ≥ 0))) && (decide (p1.At < (p1.Cells.length : Int))))))] [] (fun fb => by kernel_rfl) rfl trivial ?_
  obtain ⟨x1863, hx1864, hf⟩ := bind_some hf
  refine WL.cutW (T := Bool) 46 (fun t => [(50, (.bool t))]) (fun t w1 => (St NoS w w1 [rowR enc_Action A_p0_Actions c_p0_Actions p0.Actions, rowR encInt A_p1_Cells c_p1_Cells p1.Cells] [] ∧ x1863 = t) ∧ CellsOK [] w1) (fun K => ?_) ?_
  ·
    rcases br_some hx1864 with ⟨h1865, hx1864⟩ | ⟨h1865, hx1864⟩
    ·
      refine WL.setB 44 h1865 rfl ?_
      refine seg 43 [.v (.slice A_p1_Cells p1.Cells.length c_p1_Cells)] [44, 46, 47] [(44, (.bool true)), (46, (.slice A_p1_Cells p1.Cells.length c_p1_Cells)), (47, (.func (.func 50) #[] #[(.pointer (some ⟨g1788, 0, none⟩))]))] [.cell ⟨g1792, 2, none⟩ (.slice A_p1_Cells p1.Cells.length c_p1_Cells)] (fun fb => by kernel_rfl) rfl ⟨hS1800.cell 0 rfl 2 rfl, trivial⟩ ?_
      obtain ⟨t1866, ht1867, hx1864⟩ := bind_some hx1864
      refine WL.call (some 48) 49 #[(.slice A_p1_Cells p1.Cells.length c_p1_Cells), (.func (.func 50) #[] #[(.pointer (some ⟨g1788, 0, none⟩))])] (fun fb => by kernel_rfl) (slices_ContainsFunc_int_int_with_machine_Fits_1_calls _ p1.Cells p0 A_p1_Cells c_p1_Cells g1788 A_p0_Actions c_p0_Actions t1866 _ (hS1800.rd 1) (hS1800.ow 1) (hS1800.rd 0) ht1867) (fun v w1868 hR1869 => ?_)
      obtain ⟨rfl, hk_⟩ := hR1869
      have hS1870 := hS1800.keepN hk_
      refine ⟨trivial, ?_⟩
      refine seg 46 [] [50] [(50, (.bool (!t1866)))] [] (fun fb => by kernel_rfl) rfl trivial ?_
      injection hx1864 with hx1864
      exact WL.to K (!t1866) [50] rfl ⟨⟨(hS1870.subR [0, 1]).sub [] (by decide), hx1864.symm⟩, trivial⟩
    refine WL.setB 44 h1865 rfl ?_
    refine seg 46 [] [50] [(50, (.bool false))] [] (fun fb => by kernel_rfl) rfl trivial ?_
    injection hx1864 with hx1864
    exact WL.to K false [50] rfl ⟨⟨(hS1800.subR [0, 1]).sub [] (by decide), hx1864.symm⟩, trivial⟩
  rintro y1871 w1873 ⟨⟨hS1874, hq1872⟩, hF1875⟩
  subst hq1872
  refine seg 47 [] [4] [(4, (.bool x1863))] [] (fun fb => by kernel_rfl) rfl trivial ?_
  refine WL.done rfl ?_
  refine WX.next ?_
  refine WC.ret ?_
  injection hf with hf
  subst hf
  exact WX.ret_ [] (.bool x1863) [] (fun fb => by kernel_rfl) trivial ⟨_, rfl, rfl, hS1874.keep⟩
theorem slices_Clone_int_int_nil_calls (p0 : List Int) (c_p0 : Nat) (r : (List Int)) (w : World) (hR0 : RO NoS w (rowR encInt none c_p0 ([] : List Int))) (hf : slices_Clone_int_int_nil p0 = some r) :
    CallsR Try.prog 54 #[(.slice none ([] : List Int).length c_p0)] w (fun v w' => ∃ (A1_ : Option Addr), ∃ (c1_ : Nat), v = (.slice A1_ r.length c1_) ∧ St NoS w w' [] [rowO 3 encInt A1_ c1_ r]) := by
  have hS : St NoS w w [rowR encInt none c_p0 ([] : List Int)] [] := St.init (ro_cons hR0 (ro_nil _ _))
  refine enter 8 Try.func54 rfl Try.ntmps54 rfl ?_
  unfold slices_Clone_int_int_nil at hf
  refine WC.seq ?_
  refine WC.region ?_
  refine seg 1 [] [0] [(0, (.slice none ([] : List Int).length c_p0))] [] (fun fb => by kernel_rfl) rfl trivial ?_
  refine WL.done rfl ?_
  refine WX.next ?_
  refine WC.seq ?_
  refine WC.seq ?_
  refine WC.region ?_
  refine seg 2 [] [0, 4] [(0, (.slice none ([] : List Int).length c_p0)), (4, (.bool true))] [] (fun fb => by kernel_rfl) rfl trivial ?_
  refine WL.done rfl ?_
  refine WX.next ?_
  refine WC.condT (fun fb => by kernel_rfl) ?_
  refine WC.seq ?_
  refine WC.region ?_
  refine seg 1 [] [2] [(2, (.slice none 0 0))] [] (fun fb => by kernel_rfl) rfl trivial ?_
  refine WL.done rfl ?_
  refine WX.next ?_
  refine WC.ret ?_
  have hS1899 := hS.nilrow 3 encInt
  injection hf with hf
  subst hf
  exact WX.thenR (WX.ret_ [] (.slice none ([] : List Int).length 0) [] (fun fb => by kernel_rfl) trivial ⟨_, rfl, none, 0, rfl, (hS1899.sub [0] (by decide)).noR⟩)
theorem slices_Clone_int_int_some_calls (p0 : List Int) (a_p0 : Addr) (c_p0 : Nat) (r : (List Int)) (w : World) (hR0 : RO NoS w (rowR encInt (some a_p0) c_p0 p0)) (hf : slices_Clone_int_int_some p0 = some r) :
    CallsR Try.prog 54 #[(.slice (some a_p0) p0.length c_p0)] w (fun v w' => ∃ (A1_ : Option Addr), ∃ (c1_ : Nat), v = (.slice A1_ r.length c1_) ∧ St NoS w w' [] [rowO 3 encInt A1_ c1_ r]) := by
  have hS : St NoS w w [rowR encInt (some a_p0) c_p0 p0] [] := St.init (ro_cons hR0 (ro_nil _ _))
  refine enter 8 Try.func54 rfl Try.ntmps54 rfl ?_
  unfold slices_Clone_int_int_some at hf
  refine WC.seq ?_
  refine WC.region ?_
  refine seg 1 [] [0] [(0, (.slice (some a_p0) p0.length c_p0))] [] (fun fb => by kernel_rfl) rfl trivial ?_
  refine WL.done rfl ?_
  refine WX.next ?_
  refine WC.seq ?_
  refine WC.seq ?_
  refine WC.region ?_
  refine seg 2 [] [0, 4] [(0, (.slice (some a_p0) p0.length c_p0)), (4, (.bool false))] [] (fun fb => by kernel_rfl) rfl trivial ?_
  refine WL.done rfl ?_
  refine WX.next ?_
  refine WC.condF (fun fb => by kernel_rfl) ?_
  refine WC.skip ?_
  refine WX.next ?_
  refine WC.seq ?_
  refine WC.region ?_
  refine WL.new hS 5 [] (fun g => (.slice (some ⟨g, 0, none⟩) 0 0)) (.cells #[] 3 (0, 0)) [] (fun fb g => by kernel_rfl) trivial (fun g1900 w1901 hS1902 => ?_)
  refine ⟨trivial, ?_⟩
  have hS1904 : St NoS w w1901 [rowR encInt (some a_p0) c_p0 p0] [rowO 3 encInt (some ⟨g1900, 0, none⟩) 0 ([] : List Int)] := hS1902.map1 0 _ (fun h => rowO.ofBlk h rfl (Nat.le_of_ble_eq_true (by kernel_rfl))) (fun _ h => by obtain ⟨_, h1, h2⟩ := h; injection h1 with h1; subst h1; exact h2) [] (by decide) (by decide)
  refine seg 2 [] [5, 6] [(5, (.slice (some ⟨g1900, 0, none⟩) ([] : List Int).length 0)), (6, (.slice (some a_p0) p0.length c_p0))] [] (fun fb => by kernel_rfl) rfl trivial ?_
  obtain ⟨h1905, hf⟩ := as_some hf
  refine WL.append hS1904 0 (d := 7) (tS := 25) (z := (.int .i64 0)) (bytes := 8) (c2 := c_p0) rfl (fun fb => by kernel_rfl) (hS1904.rd 0).1 (by kernel_rfl) (by kernel_rfl) rfl (by decide) h1905 (by decide) [] (by decide) (by decide) (fun A1906 c1907 w1908 hS1909 => ?_)
  refine ⟨trivial, ?_⟩
  refine seg 4 [] [2] [(2, (.slice A1906 (([] : List Int) ++ p0).length c1907))] [] (fun fb => by kernel_rfl) rfl trivial ?_
  refine WL.done rfl ?_
  refine WX.next ?_
  refine WC.ret ?_
  injection hf with hf
  subst hf
  exact WX.ret_ [] (.slice A1906 (([] : List Int) ++ p0).length c1907) [] (fun fb => by kernel_rfl) trivial ⟨_, rfl, A1906, c1907, rfl, (hS1909.sub [0] (by decide)).noR⟩
theorem slices_Clone_int_int_calls (p0 : List Int) (A_p0 : Option Addr) (c_p0 : Nat) (r : List Int) (w : World) (hR0 : RO NoS w (rowR encInt A_p0 c_p0 p0)) (hf : slices_Clone_int_int p0 = some r) :
    CallsR Try.prog 54 #[(.slice A_p0 p0.length c_p0)] w (fun v w' => ∃ (A1_ : Option Addr), ∃ (c1_ : Nat), v = (.slice A1_ r.length c1_) ∧ St NoS w w' [] [rowO 3 encInt A1_ c1_ r]) := by
  unfold slices_Clone_int_int at hf
  cases A_p0 with
  | none =>
    have h3 : p0 = [] := by
      cases p0 with
      | nil => rfl
      | cons x xs => exact absurd (hR0.1.1 0 x rfl).1 (by simp)
    subst h3
    rw [slices_Clone_int_int_some] at hf
    obtain ⟨h4, hf⟩ := as_some hf
    injection hf with hf; subst hf
    exact slices_Clone_int_int_nil_calls [] c_p0 [] w hR0 rfl
  | some a => exact slices_Clone_int_int_some_calls p0 a c_p0 r w hR0 hf
theorem machine_begin_calls (p0 : Machine) (p1 : Config) (A_p0_Actions : Option Addr) (c_p0_Actions : Nat) (A_p1_Cells : Option Addr) (c_p1_Cells : Nat) (r : Runner) (w : World) (hR0 : RO NoS w (rowR enc_Action A_p0_Actions c_p0_Actions p0.Actions)) (hR1 : RO NoS w (rowR encInt A_p1_Cells c_p1_Cells p1.Cells)) (hf : machine_begin p0 p1 = some r) :
    CallsR Try.prog 42 #[(.agg #[(.int .i64 p0.States), (.int .i64 p0.Symbols), (.slice A_p0_Actions p0.Actions.length c_p0_Actions)]), (.agg #[(.int .i64 p1.State), (.int .i64 p1.At), (.slice A_p1_Cells p1.Cells.length c_p1_Cells)])] w (fun v w' => ∃ (g1_ : Nat), ∃ (A2_ : Option Addr), ∃ (c2_ : Nat), v = (.pointer (some ⟨g1_, 0, none⟩)) ∧ St NoS w w' [] [blk g1_ (.cells #[(.int .i64 r.m.States), (.int .i64 r.m.Symbols), (.slice A_p0_Actions p0.Actions.length c_p0_Actions), (.int .i64 r.Config.State), (.int .i64 r.Config.At), (.slice A2_ r.Config.Cells.length c2_)] 82 (0, 0)), rowO 3 encInt A2_ c2_ r.Config.Cells]) := by
  have hS : St NoS w w [rowR enc_Action A_p0_Actions c_p0_Actions p0.Actions, rowR encInt A_p1_Cells c_p1_Cells p1.Cells] [] := St.init (ro_cons hR0 (ro_cons hR1 (ro_nil _ _)))
  refine enter 13 Try.func42 rfl Try.ntmps42 rfl ?_
  unfold machine_begin at hf
  refine WC.seq ?_
  refine WC.region ?_
  refine WL.new hS 2 [] (fun g => (.pointer (some ⟨g, 0, none⟩))) (.cells #[(.int .i64 p0.States), (.int .i64 p0.Symbols), (.slice A_p0_Actions p0.Actions.length c_p0_Actions)] 24 (0, 0)) [] (fun fb g => by kernel_rfl) trivial (fun g1891 w1892 hS1893 => ?_)
  refine ⟨trivial, ?_⟩
  refine WL.new hS1893 3 [] (fun g => (.pointer (some ⟨g, 0, none⟩))) (.cells #[(.int .i64 p1.State), (.int .i64 p1.At), (.slice A_p1_Cells p1.Cells.length c_p1_Cells)] 27 (0, 0)) [] (fun fb g => by kernel_rfl) trivial (fun g1895 w1896 hS1897 => ?_)
  refine ⟨trivial, ?_⟩
  refine seg 3 [] [2, 3] [(2, (.pointer (some ⟨g1891, 0, none⟩))), (3, (.pointer (some ⟨g1895, 0, none⟩)))] [] (fun fb => by kernel_rfl) rfl trivial ?_
  refine WL.done rfl ?_
  refine WX.next ?_
  refine WC.seq ?_
  refine WC.region ?_
  refine seg 2 [.v (.slice A_p1_Cells p1.Cells.length c_p1_Cells)] [2, 3, 6] [(2, (.pointer (some ⟨g1891, 0, none⟩))), (3, (.pointer (some ⟨g1895, 0, none⟩))), (6, (.slice A_p1_Cells p1.Cells.length c_p1_Cells))] [.cell ⟨g1895, 2, none⟩ (.slice A_p1_Cells p1.Cells.length c_p1_Cells)] (fun fb => by kernel_rfl) rfl ⟨hS1897.cell 0 rfl 2 rfl, trivial⟩ ?_
  obtain ⟨t1910, ht1911, hf⟩ := bind_some hf
  refine WL.call (some 7) 54 #[(.slice A_p1_Cells p1.Cells.length c_p1_Cells)] (fun fb => by kernel_rfl) (slices_Clone_int_int_calls p1.Cells A_p1_Cells c_p1_Cells t1910 _ (hS1897.rd 1) ht1911) (fun v w1912 hR1913 => ?_)
  obtain ⟨A1915, c1916, rfl, hk_⟩ := hR1913
  have hS1914 : St NoS w w1912 [rowR enc_Action A_p0_Actions c_p0_Actions p0.Actions, rowR encInt A_p1_Cells c_p1_Cells p1.Cells] [rowO 3 encInt A1915 c1916 t1910, blk g1895 (.cells #[(.int .i64 p1.State), (.int .i64 p1.At), (.slice A_p1_Cells p1.Cells.length c_p1_Cells)] 27 (0, 0)), blk g1891 (.cells #[(.int .i64 p0.States), (.int .i64 p0.Symbols), (.slice A_p0_Actions p0.Actions.length c_p0_Actions)] 24 (0, 0))] := hS1897.call hk_ [] [0, 1] (fun g hg => hg.elim) (by simp) (by decide)
  refine ⟨trivial, ?_⟩
  refine seg 4 [] [2, 3, 7, 8] [(2, (.pointer (some ⟨g1891, 0, none⟩))), (3, (.pointer (some ⟨g1895, 0, none⟩))), (7, (.slice A1915 t1910.length c1916)), (8, (.pointer (some ⟨g1895, 2, none⟩)))] [] (fun fb => by kernel_rfl) rfl trivial ?_
  refine WL.store hS1914 1 rfl [(2, (.slice A1915 t1910.length c1916))] #[(.int .i64 p1.State), (.int .i64 p1.At), (.slice A1915 t1910.length c1916)] (fun fb => by kernel_rfl) (by kernel_rfl) rfl [0, 2] (by decide) (by decide) (fun w1917 hS1918 => ?_)
  refine ⟨trivial, ?_⟩
  refine WL.done rfl ?_
  refine WX.next ?_
  refine WC.seq ?_
  refine WC.region ?_
  refine seg 3 [.v (.int .i64 p0.States), .v (.int .i64 p0.Symbols), .v (.slice A_p0_Actions p0.Actions.length c_p0_Actions), .v (.int .i64 p1.State), .v (.int .i64 p1.At), .v (.slice A1915 t1910.length c1916)] [11] [(11, (.agg #[(.int .i64 p0.States), (.int .i64 p0.Symbols), (.slice A_p0_Actions p0.Actions.length c_p0_Actions), (.int .i64 p1.State), (.int .i64 p1.At), (.slice A1915 t1910.length c1916)]))] [.cell ⟨g1891, 0, none⟩ (.int .i64 p0.States), .cell ⟨g1891, 1, none⟩ (.int .i64 p0.Symbols), .cell ⟨g1891, 2, none⟩ (.slice A_p0_Actions p0.Actions.length c_p0_Actions), .cell ⟨g1895, 0, none⟩ (.int .i64 p1.State), .cell ⟨g1895, 1, none⟩ (.int .i64 p1.At), .cell ⟨g1895, 2, none⟩ (.slice A1915 t1910.length c1916)] (fun fb => by kernel_rfl) rfl ⟨hS1918.cell 2 rfl 0 rfl, hS1918.cell 2 rfl 1 rfl, hS1918.cell 2 rfl 2 rfl, hS1918.cell 0 rfl 0 rfl, hS1918.cell 0 rfl 1 rfl, hS1918.cell 0 rfl 2 rfl, trivial⟩ ?_
  refine WL.new hS1918 12 [] (fun g => (.pointer (some ⟨g, 0, none⟩))) (.cells #[(.int .i64 p0.States), (.int .i64 p0.Symbols), (.slice A_p0_Actions p0.Actions.length c_p0_Actions), (.int .i64 p1.State), (.int .i64 p1.At), (.slice A1915 t1910.length c1916)] 82 (0, 0)) [] (fun fb g => by kernel_rfl) trivial (fun g1919 w1920 hS1921 => ?_)
  refine ⟨trivial, ?_⟩
  refine seg 5 [] [4] [(4, (.pointer (some ⟨g1919, 0, none⟩)))] [] (fun fb => by kernel_rfl) rfl trivial ?_
  refine WL.done rfl ?_
  refine WX.next ?_
  refine WC.ret ?_
  injection hf with hf
  subst hf
  exact WX.ret_ [] (.pointer (some ⟨g1919, 0, none⟩)) [] (fun fb => by kernel_rfl) trivial ⟨_, rfl, g1919, A1915, c1916, rfl, (hS1921.sub [0, 2] (by decide)).noR⟩
theorem machine_runner_does_calls (p0 : Runner) (g_p0 : Nat) (A_p0_m_Actions : Option Addr) (c_p0_m_Actions : Nat) (A_p0_Config_Cells : Option Addr) (c_p0_Config_Cells : Nat) (r : Int) (w : World) (hR0 : RO NoS w (blk g_p0 (.cells #[(.int .i64 p0.m.States), (.int .i64 p0.m.Symbols), (.slice A_p0_m_Actions p0.m.Actions.length c_p0_m_Actions), (.int .i64 p0.Config.State), (.int .i64 p0.Config.At), (.slice A_p0_Config_Cells p0.Config.Cells.length c_p0_Config_Cells)] 82 (0, 0)))) (hR1 : RO NoS w (rowR enc_Action A_p0_m_Actions c_p0_m_Actions p0.m.Actions)) (hR2 : RO NoS w (rowR encInt A_p0_Config_Cells c_p0_Config_Cells p0.Config.Cells)) (hf : machine_runner_does p0 = some r) :
    CallsR Try.prog 63 #[(.pointer (some ⟨g_p0, 0, none⟩))] w (fun v w' => v = (.int .i64 r) ∧ Keeps NoS w w') := by
  have hS : St NoS w w [blk g_p0 (.cells #[(.int .i64 p0.m.States), (.int .i64 p0.m.Symbols), (.slice A_p0_m_Actions p0.m.Actions.length c_p0_m_Actions), (.int .i64 p0.Config.State), (.int .i64 p0.Config.At), (.slice A_p0_Config_Cells p0.Config.Cells.length c_p0_Config_Cells)] 82 (0, 0)), rowR enc_Action A_p0_m_Actions c_p0_m_Actions p0.m.Actions, rowR encInt A_p0_Config_Cells c_p0_Config_Cells p0.Config.Cells] [] := St.init (ro_cons hR0 (ro_cons hR1 (ro_cons hR2 (ro_nil _ _))))
  refine enter 27 Try.func63 rfl Try.ntmps63 rfl ?_
  unfold machine_runner_does at hf
  refine WC.seq ?_
  refine WC.region ?_
  refine seg 1 [] [0] [(0, (.pointer (some ⟨g_p0, 0, none⟩)))] [] (fun fb => by kernel_rfl) rfl trivial ?_
  refine WL.done rfl ?_
  refine WX.next ?_
  refine WC.seq ?_
  obtain ⟨h1935, hf⟩ := as_some hf
  refine WC.regionD ([(4, ⟨g_p0, 3, none⟩, (.int .i64 p0.Config.State)), (9, ⟨g_p0, 1, none⟩, (.int .i64 p0.m.Symbols)), (15, ⟨g_p0, 5, none⟩, (.slice A_p0_Config_Cells p0.Config.Cells.length c_p0_Config_Cells)), (20, ⟨g_p0, 4, none⟩, (.int .i64 p0.Config.At)), (22, ((adr A_p0_Config_Cells).add ((p0.Config.At).toNat * 1)), (.int .i64 (rdD p0.Config.Cells p0.Config.At 0)))], [0, 1, 2, 3, 4, 5, 6, 7, 8, 9, 10, 11, 12, 13, 14, 15, 16, 17, 18, 19, 20, 21, 22, 23, 24], [[], [0], [0, 1], [0, 1, 2], [0, 1, 2, 3], [], [5], [5, 6], [5, 6, 7], [5, 6, 7, 8], [0, 1, 2, 3, 4, 5, 6, 7, 8, 9], [], [11], [11, 12], [11, 12, 13], [11, 12, 13, 14], [], [16], [16, 17], [16, 17, 18], [16, 17, 18, 19], [11, 12, 13, 14, 15, 16, 17, 18, 19, 20], [11, 12, 13, 14, 15, 16, 17, 18, 19, 20, 21], [0, 1, 2, 3, 4, 5, 6, 7, 8, 9, 10, 11, 12, 13, 14, 15, 16, 17, 18, 19, 20, 21, 22], [0, 1, 2, 3, 4, 5, 6, 7, 8, 9, 10, 11, 12, 13, 14, 15, 16, 17, 18, 19, 20, 21, 22, 23]]) [[0, 1, 2, 3, 4, 5, 6, 7, 8, 9, 10, 11, 12, 13, 14, 15, 16, 17, 18, 19, 20, 21, 22, 23, 24]] (by kernel_rfl) (by kernel_rfl) (NoPanic.seq (NoPanic.body)) ?_
  have hS1933 := hS.drew
  revert hS1933
  generalize World.drew w = w1932
  intro hS1933
  refine ⟨⟨blk_cell (hS1933.rd 0).1 3 rfl, blk_cell (hS1933.rd 0).1 1 rfl, blk_cell (hS1933.rd 0).1 5 rfl, blk_cell (hS1933.rd 0).1 4 rfl, rowR.cell (hS1933.rd 2).1 0 h1935.1 h1935.2 0 rfl, trivial⟩, forallC ?_ (forallN)⟩
  refine segF 25 [.v (.int .i64 p0.Config.State), .v (.int .i64 p0.m.Symbols), .v (.slice A_p0_Config_Cells p0.Config.Cells.length c_p0_Config_Cells), .v (.int .i64 p0.Config.At), .v (.int .i64 (rdD p0.Config.Cells p0.Config.At 0))] [2] [(2, (.int .i64 (w64 ((w64 (p0.Config.State * p0.m.Symbols)) + (rdD p0.Config.Cells p0.Config.At 0)))))] [.idx A_p0_Config_Cells p0.Config.At p0.Config.Cells.length] [0, 1, 2, 3, 4] [(4, ⟨g_p0, 3, none⟩, (.int .i64 p0.Config.State)), (9, ⟨g_p0, 1, none⟩, (.int .i64 p0.m.Symbols)), (15, ⟨g_p0, 5, none⟩, (.slice A_p0_Config_Cells p0.Config.Cells.length c_p0_Config_Cells)), (20, ⟨g_p0, 4, none⟩, (.int .i64 p0.Config.At)), (22, ((adr A_p0_Config_Cells).add ((p0.Config.At).toNat * 1)), (.int .i64 (rdD p0.Config.Cells p0.Config.At 0)))] (fun fb => by kernel_rfl) rfl ⟨rowR.adr (hS1933.rd 2).1 h1935.1 h1935.2, trivial⟩ rfl ?_
  refine WL.done rfl ?_
  refine WX.next ?_
  refine WC.ret ?_
  injection hf with hf
  subst hf
  exact WX.ret_ [] (.int .i64 (w64 ((w64 (p0.Config.State * p0.m.Symbols)) + (rdD p0.Config.Cells p0.Config.At 0)))) [] (fun fb => by kernel_rfl) trivial ⟨_, rfl, rfl, hS1933.keep⟩
theorem machine_runner_step_calls (p0 : Runner) (g_p0 : Nat) (A_p0_m_Actions : Option Addr) (c_p0_m_Actions : Nat) (A_p0_Config_Cells : Option Addr) (c_p0_Config_Cells : Nat) (r : Int × Runner) (w : World) (hR0 : RO (fpL [blk g_p0 (.cells #[(.int .i64 p0.m.States), (.int .i64 p0.m.Symbols), (.slice A_p0_m_Actions p0.m.Actions.length c_p0_m_Actions), (.int .i64 p0.Config.State), (.int .i64 p0.Config.At), (.slice A_p0_Config_Cells p0.Config.Cells.length c_p0_Config_Cells)] 82 (0, 0)), rowO 3 encInt A_p0_Config_Cells c_p0_Config_Cells p0.Config.Cells]) w (rowR enc_Action A_p0_m_Actions c_p0_m_Actions p0.m.Actions)) (hI : IoOK w [blk g_p0 (.cells #[(.int .i64 p0.m.States), (.int .i64 p0.m.Symbols), (.slice A_p0_m_Actions p0.m.Actions.length c_p0_m_Actions), (.int .i64 p0.Config.State), (.int .i64 p0.Config.At), (.slice A_p0_Config_Cells p0.Config.Cells.length c_p0_Config_Cells)] 82 (0, 0)), rowO 3 encInt A_p0_Config_Cells c_p0_Config_Cells p0.Config.Cells]) (hf : machine_runner_step p0 = some r) :
    CallsR Try.prog 43 #[(.pointer (some ⟨g_p0, 0, none⟩))] w (fun v w' => ∃ (A1_ : Option Addr), ∃ (c1_ : Nat), v = (.int .i64 r.1) ∧ St (fpL [blk g_p0 (.cells #[(.int .i64 p0.m.States), (.int .i64 p0.m.Symbols), (.slice A_p0_m_Actions p0.m.Actions.length c_p0_m_Actions), (.int .i64 p0.Config.State), (.int .i64 p0.Config.At), (.slice A_p0_Config_Cells p0.Config.Cells.length c_p0_Config_Cells)] 82 (0, 0)), rowO 3 encInt A_p0_Config_Cells c_p0_Config_Cells p0.Config.Cells]) w w' [] [blk g_p0 (.cells #[(.int .i64 r.2.m.States), (.int .i64 r.2.m.Symbols), (.slice A_p0_m_Actions p0.m.Actions.length c_p0_m_Actions), (.int .i64 r.2.Config.State), (.int .i64 r.2.Config.At), (.slice A1_ r.2.Config.Cells.length c1_)] 82 (0, 0)), rowO 3 encInt A1_ c1_ r.2.Config.Cells]) := by
  have hS : St (fpL [blk g_p0 (.cells #[(.int .i64 p0.m.States), (.int .i64 p0.m.Symbols), (.slice A_p0_m_Actions p0.m.Actions.length c_p0_m_Actions), (.int .i64 p0.Config.State), (.int .i64 p0.Config.At), (.slice A_p0_Config_Cells p0.Config.Cells.length c_p0_Config_Cells)] 82 (0, 0)), rowO 3 encInt A_p0_Config_Cells c_p0_Config_Cells p0.Config.Cells]) w w [rowR enc_Action A_p0_m_Actions c_p0_m_Actions p0.m.Actions] [blk g_p0 (.cells #[(.int .i64 p0.m.States), (.int .i64 p0.m.Symbols), (.slice A_p0_m_Actions p0.m.Actions.length c_p0_m_Actions), (.int .i64 p0.Config.State), (.int .i64 p0.Config.At), (.slice A_p0_Config_Cells p0.Config.Cells.length c_p0_Config_Cells)] 82 (0, 0)), rowO 3 encInt A_p0_Config_Cells c_p0_Config_Cells p0.Config.Cells] := St.initIO (ro_cons hR0 (ro_nil _ _)) hI
  refine enter 70 Try.func43 rfl Try.ntmps43 rfl ?_
  unfold machine_runner_step at hf
  refine WC.seq ?_
  refine WC.region ?_
  refine seg 1 [] [0] [(0, (.pointer (some ⟨g_p0, 0, none⟩)))] [] (fun fb => by kernel_rfl) rfl trivial ?_
  refine WL.done rfl ?_
  refine WX.next ?_
  refine WC.seq ?_
  obtain ⟨x2097, hx2098, hf⟩ := bind_some hf
  refine WC.cutN (T := (Int × Int × Int) × Nat) (fun t => [(0, (.pointer (some ⟨g_p0, 0, none⟩))), (3, (.pointer (some ⟨t.2, 0, none⟩)))]) (fun t w1 => St (fpL [blk g_p0 (.cells #[(.int .i64 p0.m.States), (.int .i64 p0.m.Symbols), (.slice A_p0_m_Actions p0.m.Actions.length c_p0_m_Actions), (.int .i64 p0.Config.State), (.int .i64 p0.Config.At), (.slice A_p0_Config_Cells p0.Config.Cells.length c_p0_Config_Cells)] 82 (0, 0)), rowO 3 encInt A_p0_Config_Cells c_p0_Config_Cells p0.Config.Cells]) w w1 [rowR enc_Action A_p0_m_Actions c_p0_m_Actions p0.m.Actions] [blk g_p0 (.cells #[(.int .i64 p0.m.States), (.int .i64 p0.m.Symbols), (.slice A_p0_m_Actions p0.m.Actions.length c_p0_m_Actions), (.int .i64 p0.Config.State), (.int .i64 p0.Config.At), (.slice A_p0_Config_Cells p0.Config.Cells.length c_p0_Config_Cells)] 82 (0, 0)), rowO 3 encInt A_p0_Config_Cells c_p0_Config_Cells p0.Config.Cells, blk t.2 (.cells #[(.int .i64 t.1.1), (.int .i64 t.1.2.1), (.int .i64 t.1.2.2)] 88 (0, 0))] ∧ x2097 = t.1) (fun Kx2097 => ?_) ?_
  ·
    refine WC.regionD ([(4, ⟨g_p0, 2, none⟩, (.slice A_p0_m_Actions p0.m.Actions.length c_p0_m_Actions))], [0, 1, 2, 3, 4, 5, 7], [[], [0], [0, 1], [0, 1, 2], [0, 1, 2, 3], [], [5], [0, 1, 2, 3, 4, 5, 6], [0, 1, 2, 3, 4, 5, 6, 7], [], [0, 1, 2, 3, 4, 5, 6, 7, 8, 9]]) [[0, 1, 2, 3, 4, 5, 6, 7, 8, 9, 10], [0, 1, 2, 3, 4, 5, 6, 7, 9, 8, 10], [0, 1, 2, 3, 4, 5, 9, 6, 7, 8, 10]] (by kernel_rfl) (by kernel_rfl) (NoPanic.seq (NoPanic.body)) ?_
    have hS2100 := hS.drew
    revert hS2100
    generalize World.drew w = w2099
    intro hS2100
    refine ⟨⟨hS2100.cell 0 rfl 2 rfl, trivial⟩, forallC ?_ (forallC ?_ (forallC ?_ (forallN)))⟩
    ·
      refine segF 6 [.v (.slice A_p0_m_Actions p0.m.Actions.length c_p0_m_Actions)] [0, 9, 10] [(0, (.pointer (some ⟨g_p0, 0, none⟩))), (9, (.slice A_p0_m_Actions p0.m.Actions.length c_p0_m_Actions)), (10, (.pointer (some ⟨g_p0, 0, none⟩)))] [] [0] [(4, ⟨g_p0, 2, none⟩, (.slice A_p0_m_Actions p0.m.Actions.length c_p0_m_Actions))] (fun fb => by kernel_rfl) rfl trivial rfl ?_
      obtain ⟨t2101, ht2102, hx2098⟩ := bind_some hx2098
      refine WL.call (some 11) 63 #[(.pointer (some ⟨g_p0, 0, none⟩))] (fun fb => by kernel_rfl) (machine_runner_does_calls p0 g_p0 A_p0_m_Actions c_p0_m_Actions A_p0_Config_Cells c_p0_Config_Cells t2101 _ (hS2100.ow 0) (hS2100.rd 0) (hS2100.ow 1).ofO ht2102) (fun v w2103 hR2104 => ?_)
      obtain ⟨rfl, hk_⟩ := hR2104
      have hS2105 := hS2100.keepN hk_
      refine ⟨⟨hS2105.cell 0 rfl 2 rfl, trivial⟩, ?_⟩
      obtain ⟨h2106, hx2098⟩ := as_some hx2098
      refine seg 9 [.v (.int .i64 ((rdD p0.m.Actions t2101 z_Action).Write)), .v (.int .i64 ((rdD p0.m.Actions t2101 z_Action).Move)), .v (.int .i64 ((rdD p0.m.Actions t2101 z_Action).Next))] [0, 13] [(0, (.pointer (some ⟨g_p0, 0, none⟩))), (13, (.agg #[(.int .i64 ((rdD p0.m.Actions t2101 z_Action).Write)), (.int .i64 ((rdD p0.m.Actions t2101 z_Action).Move)), (.int .i64 ((rdD p0.m.Actions t2101 z_Action).Next))]))] [.idx A_p0_m_Actions t2101 p0.m.Actions.length, .cell ((adr A_p0_m_Actions).add ((t2101).toNat * 3)) (.int .i64 ((rdD p0.m.Actions t2101 z_Action).Write)), .cell (((adr A_p0_m_Actions).add ((t2101).toNat * 3)).add 1) (.int .i64 ((rdD p0.m.Actions t2101 z_Action).Move)), .cell (((adr A_p0_m_Actions).add ((t2101).toNat * 3)).add 2) (.int .i64 ((rdD p0.m.Actions t2101 z_Action).Next))] (fun fb => by kernel_rfl) rfl ⟨rowR.adr (hS2105.rd 0).1 h2106.1 h2106.2, rowR.cell (hS2105.rd 0).1 z_Action h2106.1 h2106.2 0 rfl, rowR.cell (hS2105.rd 0).1 z_Action h2106.1 h2106.2 1 rfl, rowR.cell (hS2105.rd 0).1 z_Action h2106.1 h2106.2 2 rfl, trivial⟩ ?_
      refine WL.new hS2105 3 [] (fun g => (.pointer (some ⟨g, 0, none⟩))) (.cells #[(.int .i64 0), (.int .i64 0), (.int .i64 0)] 88 (0, 0)) [] (fun fb g => by kernel_rfl) trivial (fun g2107 w2108 hS2109 => ?_)
      refine ⟨⟨hS2109.cell 1 rfl 2 rfl, trivial⟩, ?_⟩
      refine WL.store hS2109 0 rfl [(0, (.int .i64 ((rdD p0.m.Actions t2101 z_Action).Write))), (1, (.int .i64 ((rdD p0.m.Actions t2101 z_Action).Move))), (2, (.int .i64 ((rdD p0.m.Actions t2101 z_Action).Next)))] #[(.int .i64 ((rdD p0.m.Actions t2101 z_Action).Write)), (.int .i64 ((rdD p0.m.Actions t2101 z_Action).Move)), (.int .i64 ((rdD p0.m.Actions t2101 z_Action).Next))] (fun fb => by kernel_rfl) (by kernel_rfl) rfl [1, 2] (by decide) (by decide) (fun w2111 hS2112 => ?_)
      refine ⟨trivial, ?_⟩
      refine WL.done rfl ?_
      injection hx2098 with hx2098
      exact WX.to Kx2097 (((rdD p0.m.Actions t2101 z_Action).Write, (rdD p0.m.Actions t2101 z_Action).Move, (rdD p0.m.Actions t2101 z_Action).Next), g2107) [0, 3] rfl ⟨(hS2112.subR [0]).sub [1, 2, 0] (by decide), hx2098.symm⟩
    ·
      refine segF 6 [.v (.slice A_p0_m_Actions p0.m.Actions.length c_p0_m_Actions)] [0, 9, 10] [(0, (.pointer (some ⟨g_p0, 0, none⟩))), (9, (.slice A_p0_m_Actions p0.m.Actions.length c_p0_m_Actions)), (10, (.pointer (some ⟨g_p0, 0, none⟩)))] [] [0] [(4, ⟨g_p0, 2, none⟩, (.slice A_p0_m_Actions p0.m.Actions.length c_p0_m_Actions))] (fun fb => by kernel_rfl) rfl trivial rfl ?_
      obtain ⟨t2113, ht2114, hx2098⟩ := bind_some hx2098
      refine WL.call (some 11) 63 #[(.pointer (some ⟨g_p0, 0, none⟩))] (fun fb => by kernel_rfl) (machine_runner_does_calls p0 g_p0 A_p0_m_Actions c_p0_m_Actions A_p0_Config_Cells c_p0_Config_Cells t2113 _ (hS2100.ow 0) (hS2100.rd 0) (hS2100.ow 1).ofO ht2114) (fun v w2115 hR2116 => ?_)
      obtain ⟨rfl, hk_⟩ := hR2116
      have hS2117 := hS2100.keepN hk_
      refine ⟨⟨hS2117.cell 0 rfl 2 rfl, trivial⟩, ?_⟩
      obtain ⟨h2118, hx2098⟩ := as_some hx2098
      refine seg 8 [] [0, 12] [(0, (.pointer (some ⟨g_p0, 0, none⟩))), (12, (.pointer (some ((adr A_p0_m_Actions).add ((t2113).toNat * 3)))))] [.idx A_p0_m_Actions t2113 p0.m.Actions.length] (fun fb => by kernel_rfl) rfl ⟨rowR.adr (hS2117.rd 0).1 h2118.1 h2118.2, trivial⟩ ?_
      refine WL.new hS2117 3 [] (fun g => (.pointer (some ⟨g, 0, none⟩))) (.cells #[(.int .i64 0), (.int .i64 0), (.int .i64 0)] 88 (0, 0)) [] (fun fb g => by kernel_rfl) trivial (fun g2119 w2120 hS2121 => ?_)
      refine ⟨⟨hS2121.cell 1 rfl 2 rfl, trivial⟩, ?_⟩
      refine seg 10 [.v (.int .i64 ((rdD p0.m.Actions t2113 z_Action).Write)), .v (.int .i64 ((rdD p0.m.Actions t2113 z_Action).Move)), .v (.int .i64 ((rdD p0.m.Actions t2113 z_Action).Next))] [0, 3, 13] [(0, (.pointer (some ⟨g_p0, 0, none⟩))), (3, (.pointer (some ⟨g2119, 0, none⟩))), (13, (.agg #[(.int .i64 ((rdD p0.m.Actions t2113 z_Action).Write)), (.int .i64 ((rdD p0.m.Actions t2113 z_Action).Move)), (.int .i64 ((rdD p0.m.Actions t2113 z_Action).Next))]))] [.cell ((adr A_p0_m_Actions).add ((t2113).toNat * 3)) (.int .i64 ((rdD p0.m.Actions t2113 z_Action).Write)), .cell (((adr A_p0_m_Actions).add ((t2113).toNat * 3)).add 1) (.int .i64 ((rdD p0.m.Actions t2113 z_Action).Move)), .cell (((adr A_p0_m_Actions).add ((t2113).toNat * 3)).add 2) (.int .i64 ((rdD p0.m.Actions t2113 z_Action).Next))] (fun fb => by kernel_rfl) rfl ⟨rowR.cell (hS2121.rd 0).1 z_Action h2118.1 h2118.2 0 rfl, rowR.cell (hS2121.rd 0).1 z_Action h2118.1 h2118.2 1 rfl, rowR.cell (hS2121.rd 0).1 z_Action h2118.1 h2118.2 2 rfl, trivial⟩ ?_
      refine WL.store hS2121 0 rfl [(0, (.int .i64 ((rdD p0.m.Actions t2113 z_Action).Write))), (1, (.int .i64 ((rdD p0.m.Actions t2113 z_Action).Move))), (2, (.int .i64 ((rdD p0.m.Actions t2113 z_Action).Next)))] #[(.int .i64 ((rdD p0.m.Actions t2113 z_Action).Write)), (.int .i64 ((rdD p0.m.Actions t2113 z_Action).Move)), (.int .i64 ((rdD p0.m.Actions t2113 z_Action).Next))] (fun fb => by kernel_rfl) (by kernel_rfl) rfl [1, 2] (by decide) (by decide) (fun w2123 hS2124 => ?_)
      refine ⟨trivial, ?_⟩
      refine WL.done rfl ?_
      injection hx2098 with hx2098
      exact WX.to Kx2097 (((rdD p0.m.Actions t2113 z_Action).Write, (rdD p0.m.Actions t2113 z_Action).Move, (rdD p0.m.Actions t2113 z_Action).Next), g2119) [0, 3] rfl ⟨(hS2124.subR [0]).sub [1, 2, 0] (by decide), hx2098.symm⟩
    refine segF 6 [.v (.slice A_p0_m_Actions p0.m.Actions.length c_p0_m_Actions)] [0, 9, 10] [(0, (.pointer (some ⟨g_p0, 0, none⟩))), (9, (.slice A_p0_m_Actions p0.m.Actions.length c_p0_m_Actions)), (10, (.pointer (some ⟨g_p0, 0, none⟩)))] [] [0] [(4, ⟨g_p0, 2, none⟩, (.slice A_p0_m_Actions p0.m.Actions.length c_p0_m_Actions))] (fun fb => by kernel_rfl) rfl trivial rfl ?_
    refine WL.new hS2100 3 [] (fun g => (.pointer (some ⟨g, 0, none⟩))) (.cells #[(.int .i64 0), (.int .i64 0), (.int .i64 0)] 88 (0, 0)) [] (fun fb g => by kernel_rfl) trivial (fun g2125 w2126 hS2127 => ?_)
    refine ⟨⟨hS2127.cell 1 rfl 2 rfl, trivial⟩, ?_⟩
    obtain ⟨t2129, ht2130, hx2098⟩ := bind_some hx2098
    refine WL.call (some 11) 63 #[(.pointer (some ⟨g_p0, 0, none⟩))] (fun fb => by kernel_rfl) (machine_runner_does_calls p0 g_p0 A_p0_m_Actions c_p0_m_Actions A_p0_Config_Cells c_p0_Config_Cells t2129 _ (hS2127.ow 1) (hS2127.rd 0) (hS2127.ow 2).ofO ht2130) (fun v w2131 hR2132 => ?_)
    obtain ⟨rfl, hk_⟩ := hR2132
    have hS2133 := hS2127.keepN hk_
    refine ⟨⟨hS2133.cell 1 rfl 2 rfl, trivial⟩, ?_⟩
    obtain ⟨h2134, hx2098⟩ := as_some hx2098
    refine seg 10 [.v (.int .i64 ((rdD p0.m.Actions t2129 z_Action).Write)), .v (.int .i64 ((rdD p0.m.Actions t2129 z_Action).Move)), .v (.int .i64 ((rdD p0.m.Actions t2129 z_Action).Next))] [0, 3, 13] [(0, (.pointer (some ⟨g_p0, 0, none⟩))), (3, (.pointer (some ⟨g2125, 0, none⟩))), (13, (.agg #[(.int .i64 ((rdD p0.m.Actions t2129 z_Action).Write)), (.int .i64 ((rdD p0.m.Actions t2129 z_Action).Move)), (.int .i64 ((rdD p0.m.Actions t2129 z_Action).Next))]))] [.idx A_p0_m_Actions t2129 p0.m.Actions.length, .cell ((adr A_p0_m_Actions).add ((t2129).toNat * 3)) (.int .i64 ((rdD p0.m.Actions t2129 z_Action).Write)), .cell (((adr A_p0_m_Actions).add ((t2129).toNat * 3)).add 1) (.int .i64 ((rdD p0.m.Actions t2129 z_Action).Move)), .cell (((adr A_p0_m_Actions).add ((t2129).toNat * 3)).add 2) (.int .i64 ((rdD p0.m.Actions t2129 z_Action).Next))] (fun fb => by kernel_rfl) rfl ⟨rowR.adr (hS2133.rd 0).1 h2134.1 h2134.2, rowR.cell (hS2133.rd 0).1 z_Action h2134.1 h2134.2 0 rfl, rowR.cell (hS2133.rd 0).1 z_Action h2134.1 h2134.2 1 rfl, rowR.cell (hS2133.rd 0).1 z_Action h2134.1 h2134.2 2 rfl, trivial⟩ ?_
    refine WL.store hS2133 0 rfl [(0, (.int .i64 ((rdD p0.m.Actions t2129 z_Action).Write))), (1, (.int .i64 ((rdD p0.m.Actions t2129 z_Action).Move))), (2, (.int .i64 ((rdD p0.m.Actions t2129 z_Action).Next)))] #[(.int .i64 ((rdD p0.m.Actions t2129 z_Action).Write)), (.int .i64 ((rdD p0.m.Actions t2129 z_Action).Move)), (.int .i64 ((rdD p0.m.Actions t2129 z_Action).Next))] (fun fb => by kernel_rfl) (by kernel_rfl) rfl [1, 2] (by decide) (by decide) (fun w2135 hS2136 => ?_)
    refine ⟨trivial, ?_⟩
    refine WL.done rfl ?_
    injection hx2098 with hx2098
    exact WX.to Kx2097 (((rdD p0.m.Actions t2129 z_Action).Write, (rdD p0.m.Actions t2129 z_Action).Move, (rdD p0.m.Actions t2129 z_Action).Next), g2125) [0, 3] rfl ⟨(hS2136.subR [0]).sub [1, 2, 0] (by decide), hx2098.symm⟩
  rintro ⟨y2140, g2093⟩ w2137 ⟨hS2138, hq2139⟩
  subst hq2139
  refine WX.next ?_
  refine WC.seq ?_
  refine WC.regionD ([(4, ⟨g_p0, 4, none⟩, (.int .i64 p0.Config.At)), (6, ⟨g2093, 1, none⟩, (.int .i64 x2097.2.1))], [0, 1, 2, 3, 4, 5, 6, 7, 8, 9, 10], [[], [0], [0, 1], [0, 1, 2], [0, 1, 2, 3], [], [5], [5, 6], [0, 1, 2, 3, 4, 5, 6, 7], [0, 1, 2, 3, 4, 5, 6, 7, 8], [0, 1, 2, 3, 4, 5, 6, 7, 8, 9]]) [[0, 1, 2, 3, 4, 5, 6, 7, 8, 9, 10]] (by kernel_rfl) (by kernel_rfl) (NoPanic.seq (NoPanic.body)) ?_
  have hS2142 := hS2138.drew
  revert hS2142
  generalize World.drew w2137 = w2141
  intro hS2142
  refine ⟨⟨hS2142.cell 0 rfl 4 rfl, hS2142.cell 2 rfl 1 rfl, trivial⟩, forallC ?_ (forallN)⟩
  refine segF 11 [.v (.int .i64 p0.Config.At), .v (.int .i64 x2097.2.1)] [0, 3, 4] [(0, (.pointer (some ⟨g_p0, 0, none⟩))), (3, (.pointer (some ⟨g2093, 0, none⟩))), (4, (.int .i64 (w64 ((w64 (p0.Config.At + (w64 (2 * x2097.2.1)))) - 1))))] [] [0, 1] [(4, ⟨g_p0, 4, none⟩, (.int .i64 p0.Config.At)), (6, ⟨g2093, 1, none⟩, (.int .i64 x2097.2.1))] (fun fb => by kernel_rfl) rfl trivial rfl ?_
  refine WL.done rfl ?_
  refine WX.next ?_
  refine WC.seq ?_
  refine WC.block ?_
  refine WC.seq ?_
  refine WC.regionD ([(1, ⟨g2093, 2, none⟩, (.int .i64 x2097.2.2)), (6, ⟨g_p0, 0, none⟩, (.int .i64 p0.m.States))], [0, 1, 2, 3, 4, 5, 6, 7, 8], [[], [0], [], [2], [2, 3], [2, 3, 4], [2, 3, 4, 5], [0, 1, 2, 3, 4, 5, 6], [0, 1, 2, 3, 4, 5, 6, 7]]) [[0, 1, 2, 3, 4, 5, 6, 7, 8]] (by kernel_rfl) (by kernel_rfl) (NoPanic.seq (NoPanic.block (NoPanic.seq (NoPanic.body)))) ?_
  have hS2144 := hS2142.drew
  revert hS2144
  generalize World.drew w2141 = w2143
  intro hS2144
  refine ⟨⟨hS2144.cell 2 rfl 2 rfl, hS2144.cell 0 rfl 0 rfl, trivial⟩, forallC ?_ (forallN)⟩
  refine segF 9 [.v (.int .i64 x2097.2.2), .v (.int .i64 p0.m.States)] [0, 3, 4, 24] [(0, (.pointer (some ⟨g_p0, 0, none⟩))), (3, (.pointer (some ⟨g2093, 0, none⟩))), (4, (.int .i64 (w64 ((w64 (p0.Config.At + (w64 (2 * x2097.2.1)))) - 1)))), (24, (.bool (x2097.2.2 == p0.m.States)))] [] [0, 1] [(1, ⟨g2093, 2, none⟩, (.int .i64 x2097.2.2)), (6, ⟨g_p0, 0, none⟩, (.int .i64 p0.m.States))] (fun fb => by kernel_rfl) rfl trivial rfl ?_
  refine WL.done rfl ?_
  refine WX.next ?_
  rcases br_some hf with ⟨h2145, hf⟩ | ⟨h2145, hf⟩
  · refine WC.condT2 (fun fb => by kernel_rfl) h2145 ?_
    refine WC.seq ?_
    refine WC.region ?_
    refine seg 1 [] [0, 2] [(0, (.pointer (some ⟨g_p0, 0, none⟩))), (2, (.int .i64 5))] [] (fun fb => by kernel_rfl) rfl trivial ?_
    refine WL.done rfl ?_
    refine WX.next ?_
    refine WC.ret ?_
    injection hf with hf
    subst hf
    exact WX.blockR (WX.thenR (WX.ret_ [] (.int .i64 5) [] (fun fb => by kernel_rfl) trivial ⟨_, rfl, A_p0_Config_Cells, c_p0_Config_Cells, rfl, (hS2144.sub [0, 1] (by decide)).noR⟩))
  refine WC.condF2 (fun fb => by kernel_rfl) h2145 ?_
  refine WC.seq ?_
  refine WC.region ?_
  refine seg 3 [] [0, 3, 4, 36] [(0, (.pointer (some ⟨g_p0, 0, none⟩))), (3, (.pointer (some ⟨g2093, 0, none⟩))), (4, (.int .i64 (w64 ((w64 (p0.Config.At + (w64 (2 * x2097.2.1)))) - 1)))), (36, (.bool (decide (w64 ((w64 (p0.Config.At + (w64 (2 * x2097.2.1)))) - 1) < 0))))] [] (fun fb => by kernel_rfl) rfl trivial ?_
  refine WL.cutV (T := Bool) 12 (fun t => [(45, (.bool t)), (0, (.pointer (some ⟨g_p0, 0, none⟩))), (3, (.pointer (some ⟨g2093, 0, none⟩))), (4, (.int .i64 (w64 ((w64 (p0.Config.At + (w64 (2 * x2097.2.1)))) - 1))))]) (fun t => t = ((decide (w64 ((w64 (p0.Config.At + (w64 (2 * x2097.2.1)))) - 1) < 0)) || (decide (w64 ((w64 (p0.Config.At + (w64 (2 * x2097.2.1)))) - 1) ≥ (p0.Config.Cells.length : Int))))) (fun K => ?_) ?_
  ·
    rcases Bool.eq_false_or_eq_true (decide (w64 ((w64 (p0.Config.At + (w64 (2 * x2097.2.1)))) - 1) < 0)) with h2146 | h2146
    ·
      refine WL.setB 36 h2146 rfl ?_
      refine seg 12 [] [0, 3, 4, 45] [(0, (.pointer (some ⟨g_p0, 0, none⟩))), (3, (.pointer (some ⟨g2093, 0, none⟩))), (4, (.int .i64 (w64 ((w64 (p0.Config.At + (w64 (2 * x2097.2.1)))) - 1)))), (45, (.bool true))] [] (fun fb => by kernel_rfl) rfl trivial ?_
      exact WL.toV K true [45, 0, 3, 4] rfl (by rw [h2146]; rfl)
    refine WL.setB 36 h2146 rfl ?_
    refine seg 12 [.v (.slice A_p0_Config_Cells p0.Config.Cells.length c_p0_Config_Cells)] [0, 3, 4, 45] [(0, (.pointer (some ⟨g_p0, 0, none⟩))), (3, (.pointer (some ⟨g2093, 0, none⟩))), (4, (.int .i64 (w64 ((w64 (p0.Config.At + (w64 (2 * x2097.2.1)))) - 1)))), (45, (.bool (decide (w64 ((w64 (p0.Config.At + (w64 (2 * x2097.2.1)))) - 1) ≥ (p0.Config.Cells.length : Int)))))] [.cell ⟨g_p0, 5, none⟩ (.slice A_p0_Config_Cells p0.Config.Cells.length c_p0_Config_Cells)] (fun fb => by kernel_rfl) rfl ⟨hS2144.cell 0 rfl 5 rfl, trivial⟩ ?_
    exact WL.toV K (decide (w64 ((w64 (p0.Config.At + (w64 (2 * x2097.2.1)))) - 1) ≥ (p0.Config.Cells.length : Int))) [45, 0, 3, 4] rfl (by rw [h2146]; rfl)
  rintro b2147 rfl
  refine seg 13 [] [0, 3, 4, 33] [(0, (.pointer (some ⟨g_p0, 0, none⟩))), (3, (.pointer (some ⟨g2093, 0, none⟩))), (4, (.int .i64 (w64 ((w64 (p0.Config.At + (w64 (2 * x2097.2.1)))) - 1)))), (33, (.bool ((decide (w64 ((w64 (p0.Config.At + (w64 (2 * x2097.2.1)))) - 1) < 0)) || (decide (w64 ((w64 (p0.Config.At + (w64 (2 * x2097.2.1)))) - 1) ≥ (p0.Config.Cells.length : Int))))))] [] (fun fb => by kernel_rfl) rfl trivial ?_
  refine WL.done rfl ?_
  refine WX.next ?_
  rcases br_some hf with ⟨h2148, hf⟩ | ⟨h2148, hf⟩
  · refine WC.condT2 (fun fb => by kernel_rfl) h2148 ?_
    refine WC.seq ?_
    refine WC.region ?_
    refine seg 1 [] [0, 2] [(0, (.pointer (some ⟨g_p0, 0, none⟩))), (2, (.int .i64 6))] [] (fun fb => by kernel_rfl) rfl trivial ?_
    refine WL.done rfl ?_
    refine WX.next ?_
    refine WC.ret ?_
    injection hf with hf
    subst hf
    exact WX.blockR (WX.thenR (WX.ret_ [] (.int .i64 6) [] (fun fb => by kernel_rfl) trivial ⟨_, rfl, A_p0_Config_Cells, c_p0_Config_Cells, rfl, (hS2144.sub [0, 1] (by decide)).noR⟩))
  refine WC.condF2 (fun fb => by kernel_rfl) h2148 ?_
  refine WC.skip ?_
  refine WX.blockN (WX.next ?_)
  refine WC.seq ?_
  obtain ⟨h2156, hf⟩ := as_some hf
  refine WC.regionD ([(4, ⟨g_p0, 5, none⟩, (.slice A_p0_Config_Cells p0.Config.Cells.length c_p0_Config_Cells)), (9, ⟨g_p0, 4, none⟩, (.int .i64 p0.Config.At)), (11, ⟨g2093, 0, none⟩, (.int .i64 x2097.1))], [0, 1, 2, 3, 4, 5, 6, 7, 8, 9, 10, 11, 12], [[], [0], [0, 1], [0, 1, 2], [0, 1, 2, 3], [], [5], [5, 6], [5, 6, 7], [5, 6, 7, 8], [], [10], [0, 1, 2, 3, 4, 5, 6, 7, 8, 9, 10, 11], [0, 1, 2, 3, 4, 5, 6, 7, 8, 9, 10, 11, 12]]) [[0, 1, 2, 3, 4, 5, 6, 7, 8, 9, 10, 11, 12, 13]] (by kernel_rfl) (by kernel_rfl) (NoPanic.seq (NoPanic.body)) ?_
  have hS2154 := hS2144.drew
  revert hS2154
  generalize World.drew w2143 = w2153
  intro hS2154
  refine ⟨⟨hS2154.cell 0 rfl 5 rfl, hS2154.cell 0 rfl 4 rfl, hS2154.cell 2 rfl 0 rfl, trivial⟩, forallC ?_ (forallN)⟩
  refine segF 13 [.v (.slice A_p0_Config_Cells p0.Config.Cells.length c_p0_Config_Cells), .v (.int .i64 p0.Config.At), .v (.int .i64 x2097.1)] [0, 3, 4, 57, 58] [(0, (.pointer (some ⟨g_p0, 0, none⟩))), (3, (.pointer (some ⟨g2093, 0, none⟩))), (4, (.int .i64 (w64 ((w64 (p0.Config.At + (w64 (2 * x2097.2.1)))) - 1)))), (57, (.int .i64 x2097.1)), (58, (.pointer (some ((adr A_p0_Config_Cells).add ((p0.Config.At).toNat * 1)))))] [.idx A_p0_Config_Cells p0.Config.At p0.Config.Cells.length] [0, 1, 2] [(4, ⟨g_p0, 5, none⟩, (.slice A_p0_Config_Cells p0.Config.Cells.length c_p0_Config_Cells)), (9, ⟨g_p0, 4, none⟩, (.int .i64 p0.Config.At)), (11, ⟨g2093, 0, none⟩, (.int .i64 x2097.1))] (fun fb => by kernel_rfl) rfl ⟨rowR.adr (rowO.rd (hS2154.own 1).1) h2156.1 h2156.2, trivial⟩ rfl ?_
  refine WL.storeRow hS2154 1 rfl (p0.Config.At) (x2097.1) (0) [(0, (.int .i64 x2097.1))] (fun fb => by kernel_rfl) h2156.1 h2156.2 (by kernel_rfl) rfl [0, 2] (by decide) (by decide) (fun w2157 hS2158 => ?_)
  refine ⟨trivial, ?_⟩
  have hS2159 : St (fpL [blk g_p0 (.cells #[(.int .i64 p0.m.States), (.int .i64 p0.m.Symbols), (.slice A_p0_m_Actions p0.m.Actions.length c_p0_m_Actions), (.int .i64 p0.Config.State), (.int .i64 p0.Config.At), (.slice A_p0_Config_Cells p0.Config.Cells.length c_p0_Config_Cells)] 82 (0, 0)), rowO 3 encInt A_p0_Config_Cells c_p0_Config_Cells p0.Config.Cells]) w w2157 [rowR enc_Action A_p0_m_Actions c_p0_m_Actions p0.m.Actions] [rowO 3 encInt A_p0_Config_Cells c_p0_Config_Cells (p0.Config.Cells.set (p0.Config.At).toNat x2097.1), blk g_p0 (.cells #[(.int .i64 p0.m.States), (.int .i64 p0.m.Symbols), (.slice A_p0_m_Actions p0.m.Actions.length c_p0_m_Actions), (.int .i64 p0.Config.State), (.int .i64 p0.Config.At), (.slice A_p0_Config_Cells (p0.Config.Cells.set (p0.Config.At).toNat x2097.1).length c_p0_Config_Cells)] 82 (0, 0)), blk g2093 (.cells #[(.int .i64 x2097.1), (.int .i64 x2097.2.1), (.int .i64 x2097.2.2)] 88 (0, 0))] := by simpa only [List.length_set] using (show St (fpL [blk g_p0 (.cells #[(.int .i64 p0.m.States), (.int .i64 p0.m.Symbols), (.slice A_p0_m_Actions p0.m.Actions.length c_p0_m_Actions), (.int .i64 p0.Config.State), (.int .i64 p0.Config.At), (.slice A_p0_Config_Cells p0.Config.Cells.length c_p0_Config_Cells)] 82 (0, 0)), rowO 3 encInt A_p0_Config_Cells c_p0_Config_Cells p0.Config.Cells]) w w2157 [rowR enc_Action A_p0_m_Actions c_p0_m_Actions p0.m.Actions] [rowO 3 encInt A_p0_Config_Cells c_p0_Config_Cells (p0.Config.Cells.set (p0.Config.At).toNat x2097.1), blk g_p0 (.cells #[(.int .i64 p0.m.States), (.int .i64 p0.m.Symbols), (.slice A_p0_m_Actions p0.m.Actions.length c_p0_m_Actions), (.int .i64 p0.Config.State), (.int .i64 p0.Config.At), (.slice A_p0_Config_Cells p0.Config.Cells.length c_p0_Config_Cells)] 82 (0, 0)), blk g2093 (.cells #[(.int .i64 x2097.1), (.int .i64 x2097.2.1), (.int .i64 x2097.2.2)] 88 (0, 0))] from hS2158)
  refine WL.done rfl ?_
  refine WX.next ?_
  refine WC.seq ?_
  refine WC.regionD ([(4, ⟨g2093, 2, none⟩, (.int .i64 x2097.2.2))], [0, 1, 2, 3, 4, 5, 6, 7, 9, 10, 11], [[], [], [], [], [3], [0, 2], [0, 2, 5], [0, 2, 5, 6], [0, 2, 5, 6, 7], [0, 1, 2, 3, 4, 5, 6, 7, 8], [0, 1, 2, 3, 4, 5, 6, 7, 8, 9], [0, 1, 2, 3, 4, 5, 6, 7, 8, 9, 10], [0, 1, 2, 3, 4, 5, 6, 7, 8, 9, 10, 11]]) [[0, 1, 2, 3, 4, 5, 6, 7, 8, 9, 10, 11, 12]] (by kernel_rfl) (by kernel_rfl) (NoPanic.seq (NoPanic.body)) ?_
  have hS2165 := hS2159.drew
  revert hS2165
  generalize World.drew w2157 = w2164
  intro hS2165
  refine ⟨⟨hS2165.cell 2 rfl 2 rfl, trivial⟩, forallC ?_ (forallN)⟩
  refine segF 8 [.v (.int .i64 x2097.2.2)] [0, 60, 61, 63, 66] [(0, (.pointer (some ⟨g_p0, 0, none⟩))), (60, (.pointer (some ⟨g_p0, 0, none⟩))), (61, (.int .i64 (w64 ((w64 (p0.Config.At + (w64 (2 * x2097.2.1)))) - 1)))), (63, (.int .i64 x2097.2.2)), (66, (.pointer (some ⟨g_p0, 4, none⟩)))] [] [0] [(4, ⟨g2093, 2, none⟩, (.int .i64 x2097.2.2))] (fun fb => by kernel_rfl) rfl trivial rfl ?_
  refine WL.store hS2165 1 rfl [(4, (.int .i64 (w64 ((w64 (p0.Config.At + (w64 (2 * x2097.2.1)))) - 1))))] #[(.int .i64 p0.m.States), (.int .i64 p0.m.Symbols), (.slice A_p0_m_Actions p0.m.Actions.length c_p0_m_Actions), (.int .i64 p0.Config.State), (.int .i64 (w64 ((w64 (p0.Config.At + (w64 (2 * x2097.2.1)))) - 1))), (.slice A_p0_Config_Cells (p0.Config.Cells.set (p0.Config.At).toNat x2097.1).length c_p0_Config_Cells)] (fun fb => by kernel_rfl) (by kernel_rfl) rfl [0, 2] (by decide) (by decide) (fun w2166 hS2167 => ?_)
  refine ⟨⟨hS2167.cell 2 rfl 2 rfl, trivial⟩, ?_⟩
  refine seg 12 [] [0, 63, 69] [(0, (.pointer (some ⟨g_p0, 0, none⟩))), (63, (.int .i64 x2097.2.2)), (69, (.pointer (some ⟨g_p0, 3, none⟩)))] [] (fun fb => by kernel_rfl) rfl trivial ?_
  refine WL.store hS2167 0 rfl [(3, (.int .i64 x2097.2.2))] #[(.int .i64 p0.m.States), (.int .i64 p0.m.Symbols), (.slice A_p0_m_Actions p0.m.Actions.length c_p0_m_Actions), (.int .i64 x2097.2.2), (.int .i64 (w64 ((w64 (p0.Config.At + (w64 (2 * x2097.2.1)))) - 1))), (.slice A_p0_Config_Cells (p0.Config.Cells.set (p0.Config.At).toNat x2097.1).length c_p0_Config_Cells)] (fun fb => by kernel_rfl) (by kernel_rfl) rfl [1, 2] (by decide) (by decide) (fun w2168 hS2169 => ?_)
  refine ⟨trivial, ?_⟩
  refine WL.done rfl ?_
  refine WX.next ?_
  refine WC.seq ?_
  refine WC.region ?_
  refine seg 1 [] [0, 2] [(0, (.pointer (some ⟨g_p0, 0, none⟩))), (2, (.int .i64 0))] [] (fun fb => by kernel_rfl) rfl trivial ?_
  refine WL.done rfl ?_
  refine WX.next ?_
  refine WC.ret ?_
  injection hf with hf
  subst hf
  exact WX.ret_ [] (.int .i64 0) [] (fun fb => by kernel_rfl) trivial ⟨_, rfl, A_p0_Config_Cells, c_p0_Config_Cells, rfl, (hS2169.sub [0, 1] (by decide)).noR⟩
end Gp
