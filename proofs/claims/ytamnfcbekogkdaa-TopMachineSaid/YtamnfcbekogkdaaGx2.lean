/- Walks: each function of the program computes its plain function. -/
import Derived.Test.YtamnfcbekogkdaaGx1
set_option linter.unusedVariables false
set_option linter.unusedSimpArgs false
namespace Gp
open Go Gw Go.Proofs
theorem top_after_calls (p0 : Machine) (p1 : Config) (A_p0_Actions : Option Addr) (c_p0_Actions : Nat) (A_p1_Cells : Option Addr) (c_p1_Cells : Nat) (r : Config × Bool) (w : World) (hR0 : RO NoS w (rowR enc_Action A_p0_Actions c_p0_Actions p0.Actions)) (hR1 : RO NoS w (rowR encInt A_p1_Cells c_p1_Cells p1.Cells)) (hf : top_after p0 p1 = some r) :
    CallsR Try.prog 36 #[(.agg #[(.int .i64 p0.States), (.int .i64 p0.Symbols), (.slice A_p0_Actions p0.Actions.length c_p0_Actions)]), (.agg #[(.int .i64 p1.State), (.int .i64 p1.At), (.slice A_p1_Cells p1.Cells.length c_p1_Cells)])] w (fun v w' => ∃ (A1_ : Option Addr), ∃ (c1_ : Nat), v = (.tuple #[(.agg #[(.int .i64 r.1.State), (.int .i64 r.1.At), (.slice A1_ r.1.Cells.length c1_)]), (.bool r.2)]) ∧ Keeps NoS w w' ∧ RoF w w' [rowR encInt A_p1_Cells c_p1_Cells p1.Cells] (rowR encInt A1_ c1_ r.1.Cells)) := by
  have hS : St NoS w w [rowR enc_Action A_p0_Actions c_p0_Actions p0.Actions, rowR encInt A_p1_Cells c_p1_Cells p1.Cells] [] := St.init (ro_cons hR0 (ro_cons hR1 (ro_nil _ _)))
  refine enter 67 Try.func36 rfl Try.ntmps36 rfl ?_
  unfold top_after at hf
  refine WC.seq ?_
  refine WC.region ?_
  refine WL.new hS 2 [] (fun g => (.pointer (some ⟨g, 0, none⟩))) (.cells #[(.int .i64 p0.States), (.int .i64 p0.Symbols), (.slice A_p0_Actions p0.Actions.length c_p0_Actions)] 24 (0, 0)) [] (fun fb g => by kernel_rfl) trivial (fun g4560 w4561 hS4562 => ?_)
  refine ⟨trivial, ?_⟩
  refine WL.new hS4562 3 [] (fun g => (.pointer (some ⟨g, 0, none⟩))) (.cells #[(.int .i64 p1.State), (.int .i64 p1.At), (.slice A_p1_Cells p1.Cells.length c_p1_Cells)] 27 (0, 0)) [] (fun fb g => by kernel_rfl) trivial (fun g4564 w4565 hS4566 => ?_)
  refine ⟨trivial, ?_⟩
  refine WL.new hS4566 4 [] (fun g => (.pointer (some ⟨g, 0, none⟩))) (.cells #[(.int .i64 0), (.int .i64 0), (.slice none 0 0)] 27 (0, 0)) [] (fun fb g => by kernel_rfl) trivial (fun g4568 w4569 hS4570 => ?_)
  refine ⟨trivial, ?_⟩
  refine seg 4 [] [2, 3, 4] [(2, (.pointer (some ⟨g4560, 0, none⟩))), (3, (.pointer (some ⟨g4564, 0, none⟩))), (4, (.pointer (some ⟨g4568, 0, none⟩)))] [] (fun fb => by kernel_rfl) rfl trivial ?_
  refine WL.done rfl ?_
  refine WX.next ?_
  refine WC.seq ?_
  obtain ⟨h4584, hf⟩ := as_some hf
  obtain ⟨h4585, hf⟩ := as_some hf
  refine WC.regionD ([(1, ⟨g4560, 2, none⟩, (.slice A_p0_Actions p0.Actions.length c_p0_Actions)), (3, ⟨g4564, 0, none⟩, (.int .i64 p1.State)), (5, ⟨g4560, 1, none⟩, (.int .i64 p0.Symbols)), (8, ⟨g4564, 2, none⟩, (.slice A_p1_Cells p1.Cells.length c_p1_Cells)), (10, ⟨g4564, 1, none⟩, (.int .i64 p1.At)), (12, ((adr A_p1_Cells).add ((p1.At).toNat * 1)), (.int .i64 (rdD p1.Cells p1.At 0))), (15, ((adr A_p0_Actions).add ((w64 ((w64 (p1.State * p0.Symbols)) + (rdD p1.Cells p1.At 0))).toNat * 3)), (.int .i64 ((rdD p0.Actions (w64 ((w64 (p1.State * p0.Symbols)) + (rdD p1.Cells p1.At 0))) z_Action).Write))), (15, (((adr A_p0_Actions).add ((w64 ((w64 (p1.State * p0.Symbols)) + (rdD p1.Cells p1.At 0))).toNat * 3)).add 1), (.int .i64 ((rdD p0.Actions (w64 ((w64 (p1.State * p0.Symbols)) + (rdD p1.Cells p1.At 0))) z_Action).Move))), (15, (((adr A_p0_Actions).add ((w64 ((w64 (p1.State * p0.Symbols)) + (rdD p1.Cells p1.At 0))).toNat * 3)).add 2), (.int .i64 ((rdD p0.Actions (w64 ((w64 (p1.State * p0.Symbols)) + (rdD p1.Cells p1.At 0))) z_Action).Next)))], [0, 1, 2, 3, 4, 5, 6, 7, 8, 9, 10, 11, 12, 13, 14, 15], [[], [0], [], [2], [], [4], [2, 3, 4, 5], [], [7], [], [9], [7, 8, 9, 10], [7, 8, 9, 10, 11], [2, 3, 4, 5, 6, 7, 8, 9, 10, 11, 12], [0, 1, 2, 3, 4, 5, 6, 7, 8, 9, 10, 11, 12, 13], [0, 1, 2, 3, 4, 5, 6, 7, 8, 9, 10, 11, 12, 13, 14], [], [0, 1, 2, 3, 4, 5, 6, 7, 8, 9, 10, 11, 12, 13, 14, 15, 16]]) [[0, 1, 2, 3, 4, 5, 6, 7, 8, 9, 10, 11, 12, 13, 14, 15, 16, 17]] (by kernel_rfl) (by kernel_rfl) (NoPanic.seq (NoPanic.body)) ?_
  have hS4581 := hS4570.drew
  revert hS4581
  generalize World.drew w4569 = w4580
  intro hS4581
  refine ⟨⟨hS4581.cell 2 rfl 2 rfl, hS4581.cell 1 rfl 0 rfl, hS4581.cell 2 rfl 1 rfl, hS4581.cell 1 rfl 2 rfl, hS4581.cell 1 rfl 1 rfl, rowR.cell (hS4581.rd 1).1 0 h4584.1 h4584.2 0 rfl, rowR.cell (hS4581.rd 0).1 z_Action h4585.1 h4585.2 0 rfl, rowR.cell (hS4581.rd 0).1 z_Action h4585.1 h4585.2 1 rfl, rowR.cell (hS4581.rd 0).1 z_Action h4585.1 h4585.2 2 rfl, trivial⟩, forallC ?_ (forallN)⟩
  refine segF 16 [.v (.slice A_p0_Actions p0.Actions.length c_p0_Actions), .v (.int .i64 p1.State), .v (.int .i64 p0.Symbols), .v (.slice A_p1_Cells p1.Cells.length c_p1_Cells), .v (.int .i64 p1.At), .v (.int .i64 (rdD p1.Cells p1.At 0)), .v (.int .i64 ((rdD p0.Actions (w64 ((w64 (p1.State * p0.Symbols)) + (rdD p1.Cells p1.At 0))) z_Action).Write)), .v (.int .i64 ((rdD p0.Actions (w64 ((w64 (p1.State * p0.Symbols)) + (rdD p1.Cells p1.At 0))) z_Action).Move)), .v (.int .i64 ((rdD p0.Actions (w64 ((w64 (p1.State * p0.Symbols)) + (rdD p1.Cells p1.At 0))) z_Action).Next))] [2, 3, 4, 24] [(2, (.pointer (some ⟨g4560, 0, none⟩))), (3, (.pointer (some ⟨g4564, 0, none⟩))), (4, (.pointer (some ⟨g4568, 0, none⟩))), (24, (.agg #[(.int .i64 ((rdD p0.Actions (w64 ((w64 (p1.State * p0.Symbols)) + (rdD p1.Cells p1.At 0))) z_Action).Write)), (.int .i64 ((rdD p0.Actions (w64 ((w64 (p1.State * p0.Symbols)) + (rdD p1.Cells p1.At 0))) z_Action).Move)), (.int .i64 ((rdD p0.Actions (w64 ((w64 (p1.State * p0.Symbols)) + (rdD p1.Cells p1.At 0))) z_Action).Next))]))] [.idx A_p1_Cells p1.At p1.Cells.length, .idx A_p0_Actions (w64 ((w64 (p1.State * p0.Symbols)) + (rdD p1.Cells p1.At 0))) p0.Actions.length] [0, 1, 2, 3, 4, 5, 6, 7, 8] [(1, ⟨g4560, 2, none⟩, (.slice A_p0_Actions p0.Actions.length c_p0_Actions)), (3, ⟨g4564, 0, none⟩, (.int .i64 p1.State)), (5, ⟨g4560, 1, none⟩, (.int .i64 p0.Symbols)), (8, ⟨g4564, 2, none⟩, (.slice A_p1_Cells p1.Cells.length c_p1_Cells)), (10, ⟨g4564, 1, none⟩, (.int .i64 p1.At)), (12, ((adr A_p1_Cells).add ((p1.At).toNat * 1)), (.int .i64 (rdD p1.Cells p1.At 0))), (15, ((adr A_p0_Actions).add ((w64 ((w64 (p1.State * p0.Symbols)) + (rdD p1.Cells p1.At 0))).toNat * 3)), (.int .i64 ((rdD p0.Actions (w64 ((w64 (p1.State * p0.Symbols)) + (rdD p1.Cells p1.At 0))) z_Action).Write))), (15, (((adr A_p0_Actions).add ((w64 ((w64 (p1.State * p0.Symbols)) + (rdD p1.Cells p1.At 0))).toNat * 3)).add 1), (.int .i64 ((rdD p0.Actions (w64 ((w64 (p1.State * p0.Symbols)) + (rdD p1.Cells p1.At 0))) z_Action).Move))), (15, (((adr A_p0_Actions).add ((w64 ((w64 (p1.State * p0.Symbols)) + (rdD p1.Cells p1.At 0))).toNat * 3)).add 2), (.int .i64 ((rdD p0.Actions (w64 ((w64 (p1.State * p0.Symbols)) + (rdD p1.Cells p1.At 0))) z_Action).Next)))] (fun fb => by kernel_rfl) rfl ⟨rowR.adr (hS4581.rd 1).1 h4584.1 h4584.2, rowR.adr (hS4581.rd 0).1 h4585.1 h4585.2, trivial⟩ rfl ?_
  refine WL.new hS4581 6 [] (fun g => (.pointer (some ⟨g, 0, none⟩))) (.cells #[(.int .i64 0), (.int .i64 0), (.int .i64 0)] 88 (0, 0)) [] (fun fb g => by kernel_rfl) trivial (fun g4586 w4587 hS4588 => ?_)
  refine ⟨⟨hS4588.cell 3 rfl 2 rfl, hS4588.cell 2 rfl 0 rfl, hS4588.cell 3 rfl 1 rfl, hS4588.cell 2 rfl 2 rfl, hS4588.cell 2 rfl 1 rfl, rowR.cell (hS4588.rd 1).1 0 h4584.1 h4584.2 0 rfl, rowR.cell (hS4588.rd 0).1 z_Action h4585.1 h4585.2 0 rfl, rowR.cell (hS4588.rd 0).1 z_Action h4585.1 h4585.2 1 rfl, rowR.cell (hS4588.rd 0).1 z_Action h4585.1 h4585.2 2 rfl, trivial⟩, ?_⟩
  refine WL.store hS4588 0 rfl [(0, (.int .i64 ((rdD p0.Actions (w64 ((w64 (p1.State * p0.Symbols)) + (rdD p1.Cells p1.At 0))) z_Action).Write))), (1, (.int .i64 ((rdD p0.Actions (w64 ((w64 (p1.State * p0.Symbols)) + (rdD p1.Cells p1.At 0))) z_Action).Move))), (2, (.int .i64 ((rdD p0.Actions (w64 ((w64 (p1.State * p0.Symbols)) + (rdD p1.Cells p1.At 0))) z_Action).Next)))] #[(.int .i64 ((rdD p0.Actions (w64 ((w64 (p1.State * p0.Symbols)) + (rdD p1.Cells p1.At 0))) z_Action).Write)), (.int .i64 ((rdD p0.Actions (w64 ((w64 (p1.State * p0.Symbols)) + (rdD p1.Cells p1.At 0))) z_Action).Move)), (.int .i64 ((rdD p0.Actions (w64 ((w64 (p1.State * p0.Symbols)) + (rdD p1.Cells p1.At 0))) z_Action).Next))] (fun fb => by kernel_rfl) (by kernel_rfl) rfl [1, 2, 3] (by decide) (by decide) (fun w4590 hS4591 => ?_)
  refine ⟨trivial, ?_⟩
  refine WL.done rfl ?_
  refine WX.next ?_
  refine WC.seq ?_
  refine WC.region ?_
  refine seg 4 [.v (.int .i64 p1.At)] [2, 3, 4, 6, 7] [(2, (.pointer (some ⟨g4560, 0, none⟩))), (3, (.pointer (some ⟨g4564, 0, none⟩))), (4, (.pointer (some ⟨g4568, 0, none⟩))), (6, (.pointer (some ⟨g4586, 0, none⟩))), (7, (.int .i64 (w64 (p1.At - 1))))] [.cell ⟨g4564, 1, none⟩ (.int .i64 p1.At)] (fun fb => by kernel_rfl) rfl ⟨hS4591.cell 2 rfl 1 rfl, trivial⟩ ?_
  refine WL.done rfl ?_
  refine WX.next ?_
  refine WC.seq ?_
  refine WC.seq ?_
  refine WC.region ?_
  refine seg 3 [.v (.int .i64 ((rdD p0.Actions (w64 ((w64 (p1.State * p0.Symbols)) + (rdD p1.Cells p1.At 0))) z_Action).Move))] [2, 3, 4, 6, 7, 30] [(2, (.pointer (some ⟨g4560, 0, none⟩))), (3, (.pointer (some ⟨g4564, 0, none⟩))), (4, (.pointer (some ⟨g4568, 0, none⟩))), (6, (.pointer (some ⟨g4586, 0, none⟩))), (7, (.int .i64 (w64 (p1.At - 1)))), (30, (.bool (((rdD p0.Actions (w64 ((w64 (p1.State * p0.Symbols)) + (rdD p1.Cells p1.At 0))) z_Action).Move) == 1)))] [.cell ⟨g4586, 1, none⟩ (.int .i64 ((rdD p0.Actions (w64 ((w64 (p1.State * p0.Symbols)) + (rdD p1.Cells p1.At 0))) z_Action).Move))] (fun fb => by kernel_rfl) rfl ⟨hS4591.cell 0 rfl 1 rfl, trivial⟩ ?_
  refine WL.done rfl ?_
  refine WX.next ?_
  obtain ⟨x4594, hx4595, hf⟩ := bind_some hf
  refine WC.cutN (T := Int) (fun t => [(2, (.pointer (some ⟨g4560, 0, none⟩))), (3, (.pointer (some ⟨g4564, 0, none⟩))), (4, (.pointer (some ⟨g4568, 0, none⟩))), (6, (.pointer (some ⟨g4586, 0, none⟩))), (7, (.int .i64 t))]) (fun t w1 => St NoS w w1 [rowR enc_Action A_p0_Actions c_p0_Actions p0.Actions, rowR encInt A_p1_Cells c_p1_Cells p1.Cells] [blk g4560 (.cells #[(.int .i64 p0.States), (.int .i64 p0.Symbols), (.slice A_p0_Actions p0.Actions.length c_p0_Actions)] 24 (0, 0)), blk g4564 (.cells #[(.int .i64 p1.State), (.int .i64 p1.At), (.slice A_p1_Cells p1.Cells.length c_p1_Cells)] 27 (0, 0)), blk g4568 (.cells #[(.int .i64 0), (.int .i64 0), (.slice none 0 0)] 27 (0, 0)), blk g4586 (.cells #[(.int .i64 ((rdD p0.Actions (w64 ((w64 (p1.State * p0.Symbols)) + (rdD p1.Cells p1.At 0))) z_Action).Write)), (.int .i64 ((rdD p0.Actions (w64 ((w64 (p1.State * p0.Symbols)) + (rdD p1.Cells p1.At 0))) z_Action).Move)), (.int .i64 ((rdD p0.Actions (w64 ((w64 (p1.State * p0.Symbols)) + (rdD p1.Cells p1.At 0))) z_Action).Next))] 88 (0, 0))] ∧ x4594 = t) (fun Kx4594 => ?_) ?_
  ·
    rcases br_some hx4595 with ⟨h4596, hx4595⟩ | ⟨h4596, hx4595⟩
    · refine WC.condT2 (fun fb => by kernel_rfl) h4596 ?_
      refine WC.region ?_
      refine seg 4 [.v (.int .i64 p1.At)] [2, 3, 4, 6, 7] [(2, (.pointer (some ⟨g4560, 0, none⟩))), (3, (.pointer (some ⟨g4564, 0, none⟩))), (4, (.pointer (some ⟨g4568, 0, none⟩))), (6, (.pointer (some ⟨g4586, 0, none⟩))), (7, (.int .i64 (w64 (p1.At + 1))))] [.cell ⟨g4564, 1, none⟩ (.int .i64 p1.At)] (fun fb => by kernel_rfl) rfl ⟨hS4591.cell 2 rfl 1 rfl, trivial⟩ ?_
      refine WL.done rfl ?_
      injection hx4595 with hx4595
      exact WX.to Kx4594 (w64 (p1.At + 1)) [2, 3, 4, 6, 7] rfl ⟨(hS4591.subR [0, 1]).sub [3, 2, 1, 0] (by decide), hx4595.symm⟩
    refine WC.condF2 (fun fb => by kernel_rfl) h4596 ?_
    refine WC.skip ?_
    injection hx4595 with hx4595
    exact WX.to Kx4594 (w64 (p1.At - 1)) [2, 3, 4, 6, 7] rfl ⟨(hS4591.subR [0, 1]).sub [3, 2, 1, 0] (by decide), hx4595.symm⟩
  rintro y4600 w4597 ⟨hS4598, hq4599⟩
  subst hq4599
  refine WX.next ?_
  refine WC.seq ?_
  refine WC.seq ?_
  refine WC.region ?_
  refine seg 6 [.v (.int .i64 ((rdD p0.Actions (w64 ((w64 (p1.State * p0.Symbols)) + (rdD p1.Cells p1.At 0))) z_Action).Next)), .v (.int .i64 p0.States)] [3, 4, 6, 7, 39] [(3, (.pointer (some ⟨g4564, 0, none⟩))), (4, (.pointer (some ⟨g4568, 0, none⟩))), (6, (.pointer (some ⟨g4586, 0, none⟩))), (7, (.int .i64 x4594)), (39, (.bool (((rdD p0.Actions (w64 ((w64 (p1.State * p0.Symbols)) + (rdD p1.Cells p1.At 0))) z_Action).Next) == p0.States)))] [.cell ⟨g4586, 2, none⟩ (.int .i64 ((rdD p0.Actions (w64 ((w64 (p1.State * p0.Symbols)) + (rdD p1.Cells p1.At 0))) z_Action).Next)), .cell ⟨g4560, 0, none⟩ (.int .i64 p0.States)] (fun fb => by kernel_rfl) rfl ⟨hS4598.cell 3 rfl 2 rfl, hS4598.cell 0 rfl 0 rfl, trivial⟩ ?_
  refine WL.cutV (T := Bool) 9 (fun t => [(42, (.bool t)), (3, (.pointer (some ⟨g4564, 0, none⟩))), (4, (.pointer (some ⟨g4568, 0, none⟩))), (6, (.pointer (some ⟨g4586, 0, none⟩))), (7, (.int .i64 x4594))]) (fun t => t = ((((rdD p0.Actions (w64 ((w64 (p1.State * p0.Symbols)) + (rdD p1.Cells p1.At 0))) z_Action).Next) == p0.States) || (decide (x4594 < 0)))) (fun K => ?_) ?_
  ·
    rcases Bool.eq_false_or_eq_true (((rdD p0.Actions (w64 ((w64 (p1.State * p0.Symbols)) + (rdD p1.Cells p1.At 0))) z_Action).Next) == p0.States) with h4601 | h4601
    ·
      refine WL.setB 39 h4601 rfl ?_
      refine seg 9 [] [3, 4, 6, 7, 42] [(3, (.pointer (some ⟨g4564, 0, none⟩))), (4, (.pointer (some ⟨g4568, 0, none⟩))), (6, (.pointer (some ⟨g4586, 0, none⟩))), (7, (.int .i64 x4594)), (42, (.bool true))] [] (fun fb => by kernel_rfl) rfl trivial ?_
      exact WL.toV K true [42, 3, 4, 6, 7] rfl (by rw [h4601]; rfl)
    refine WL.setB 39 h4601 rfl ?_
    refine seg 9 [] [3, 4, 6, 7, 42] [(3, (.pointer (some ⟨g4564, 0, none⟩))), (4, (.pointer (some ⟨g4568, 0, none⟩))), (6, (.pointer (some ⟨g4586, 0, none⟩))), (7, (.int .i64 x4594)), (42, (.bool (decide (x4594 < 0))))] [] (fun fb => by kernel_rfl) rfl trivial ?_
    exact WL.toV K (decide (x4594 < 0)) [42, 3, 4, 6, 7] rfl (by rw [h4601]; rfl)
  rintro b4602 rfl
  refine seg 10 [] [3, 4, 6, 7, 43] [(3, (.pointer (some ⟨g4564, 0, none⟩))), (4, (.pointer (some ⟨g4568, 0, none⟩))), (6, (.pointer (some ⟨g4586, 0, none⟩))), (7, (.int .i64 x4594)), (43, (.bool ((((rdD p0.Actions (w64 ((w64 (p1.State * p0.Symbols)) + (rdD p1.Cells p1.At 0))) z_Action).Next) == p0.States) || (decide (x4594 < 0)))))] [] (fun fb => by kernel_rfl) rfl trivial ?_
  refine WL.cutV (T := Bool) 16 (fun t => [(49, (.bool t)), (3, (.pointer (some ⟨g4564, 0, none⟩))), (4, (.pointer (some ⟨g4568, 0, none⟩))), (6, (.pointer (some ⟨g4586, 0, none⟩))), (7, (.int .i64 x4594))]) (fun t => t = (((((rdD p0.Actions (w64 ((w64 (p1.State * p0.Symbols)) + (rdD p1.Cells p1.At 0))) z_Action).Next) == p0.States) || (decide (x4594 < 0))) || (decide (x4594 ≥ (p1.Cells.length : Int))))) (fun K => ?_) ?_
  ·
    rcases Bool.eq_false_or_eq_true ((((rdD p0.Actions (w64 ((w64 (p1.State * p0.Symbols)) + (rdD p1.Cells p1.At 0))) z_Action).Next) == p0.States) || (decide (x4594 < 0))) with h4603 | h4603
    ·
      refine WL.setB 43 h4603 rfl ?_
      refine seg 16 [] [3, 4, 6, 7, 49] [(3, (.pointer (some ⟨g4564, 0, none⟩))), (4, (.pointer (some ⟨g4568, 0, none⟩))), (6, (.pointer (some ⟨g4586, 0, none⟩))), (7, (.int .i64 x4594)), (49, (.bool true))] [] (fun fb => by kernel_rfl) rfl trivial ?_
      exact WL.toV K true [49, 3, 4, 6, 7] rfl (by rw [h4603]; rfl)
    refine WL.setB 43 h4603 rfl ?_
    refine seg 16 [.v (.slice A_p1_Cells p1.Cells.length c_p1_Cells)] [3, 4, 6, 7, 49] [(3, (.pointer (some ⟨g4564, 0, none⟩))), (4, (.pointer (some ⟨g4568, 0, none⟩))), (6, (.pointer (some ⟨g4586, 0, none⟩))), (7, (.int .i64 x4594)), (49, (.bool (decide (x4594 ≥ (p1.Cells.length : Int)))))] [.cell ⟨g4564, 2, none⟩ (.slice A_p1_Cells p1.Cells.length c_p1_Cells)] (fun fb => by kernel_rfl) rfl ⟨hS4598.cell 1 rfl 2 rfl, trivial⟩ ?_
    exact WL.toV K (decide (x4594 ≥ (p1.Cells.length : Int))) [49, 3, 4, 6, 7] rfl (by rw [h4603]; rfl)
  rintro b4604 rfl
  refine WL.done rfl ?_
  refine WX.next ?_
  rcases br_some hf with ⟨h4605, hf⟩ | ⟨h4605, hf⟩
  · refine WC.condT2 (fun fb => by kernel_rfl) h4605 ?_
    refine WC.seq ?_
    refine WC.region ?_
    refine seg 1 [.v (.int .i64 p1.State), .v (.int .i64 p1.At), .v (.slice A_p1_Cells p1.Cells.length c_p1_Cells)] [4, 50] [(4, (.pointer (some ⟨g4568, 0, none⟩))), (50, (.agg #[(.int .i64 p1.State), (.int .i64 p1.At), (.slice A_p1_Cells p1.Cells.length c_p1_Cells)]))] [.cell ⟨g4564, 0, none⟩ (.int .i64 p1.State), .cell ⟨g4564, 1, none⟩ (.int .i64 p1.At), .cell ⟨g4564, 2, none⟩ (.slice A_p1_Cells p1.Cells.length c_p1_Cells)] (fun fb => by kernel_rfl) rfl ⟨hS4598.cell 1 rfl 0 rfl, hS4598.cell 1 rfl 1 rfl, hS4598.cell 1 rfl 2 rfl, trivial⟩ ?_
    refine WL.store hS4598 2 rfl [(0, (.int .i64 p1.State)), (1, (.int .i64 p1.At)), (2, (.slice A_p1_Cells p1.Cells.length c_p1_Cells))] #[(.int .i64 p1.State), (.int .i64 p1.At), (.slice A_p1_Cells p1.Cells.length c_p1_Cells)] (fun fb => by kernel_rfl) (by kernel_rfl) rfl [0, 1, 3] (by decide) (by decide) (fun w4606 hS4607 => ?_)
    refine ⟨trivial, ?_⟩
    refine seg 3 [] [4, 5] [(4, (.pointer (some ⟨g4568, 0, none⟩))), (5, (.bool false))] [] (fun fb => by kernel_rfl) rfl trivial ?_
    refine WL.done rfl ?_
    refine WX.next ?_
    refine WC.ret ?_
    injection hf with hf
    subst hf
    exact WX.thenR (WX.ret_ [.v (.int .i64 p1.State), .v (.int .i64 p1.At), .v (.slice A_p1_Cells p1.Cells.length c_p1_Cells)] (.tuple #[(.agg #[(.int .i64 p1.State), (.int .i64 p1.At), (.slice A_p1_Cells p1.Cells.length c_p1_Cells)]), (.bool false)]) [.cell ⟨g4568, 0, none⟩ (.int .i64 p1.State), .cell ⟨g4568, 1, none⟩ (.int .i64 p1.At), .cell ⟨g4568, 2, none⟩ (.slice A_p1_Cells p1.Cells.length c_p1_Cells)] (fun fb => by kernel_rfl) ⟨hS4607.cell 0 rfl 0 rfl, hS4607.cell 0 rfl 1 rfl, hS4607.cell 0 rfl 2 rfl, trivial⟩ ⟨_, rfl, A_p1_Cells, c_p1_Cells, rfl, hS4607.keep, hS4607.roArg 1 0 rfl⟩)
  refine WC.condF2 (fun fb => by kernel_rfl) h4605 ?_
  refine WC.skip ?_
  refine WX.next ?_
  refine WC.seq ?_
  obtain ⟨x4680, hx4681, hf⟩ := bind_some hf
  refine WC.cutN (T := (Int × Int × (List Int)) × Nat × (Option Addr) × Nat) (fun t => [(3, (.pointer (some ⟨g4564, 0, none⟩))), (4, (.pointer (some ⟨g4568, 0, none⟩))), (6, (.pointer (some ⟨g4586, 0, none⟩))), (8, (.pointer (some ⟨t.2.1, 0, none⟩)))]) (fun t w1 => St NoS w w1 [rowR enc_Action A_p0_Actions c_p0_Actions p0.Actions, rowR encInt A_p1_Cells c_p1_Cells p1.Cells] [blk g4564 (.cells #[(.int .i64 p1.State), (.int .i64 p1.At), (.slice A_p1_Cells p1.Cells.length c_p1_Cells)] 27 (0, 0)), blk g4568 (.cells #[(.int .i64 0), (.int .i64 0), (.slice none 0 0)] 27 (0, 0)), blk g4586 (.cells #[(.int .i64 ((rdD p0.Actions (w64 ((w64 (p1.State * p0.Symbols)) + (rdD p1.Cells p1.At 0))) z_Action).Write)), (.int .i64 ((rdD p0.Actions (w64 ((w64 (p1.State * p0.Symbols)) + (rdD p1.Cells p1.At 0))) z_Action).Move)), (.int .i64 ((rdD p0.Actions (w64 ((w64 (p1.State * p0.Symbols)) + (rdD p1.Cells p1.At 0))) z_Action).Next))] 88 (0, 0)), blk t.2.1 (.cells #[(.int .i64 t.1.1), (.int .i64 t.1.2.1), (.slice t.2.2.1 t.1.2.2.length t.2.2.2)] 27 (0, 0)), rowO 3 encInt t.2.2.1 t.2.2.2 t.1.2.2] ∧ x4680 = t.1) (fun Kx4680 => ?_) ?_
  ·
    refine WC.regionD ([(1, ⟨g4586, 2, none⟩, (.int .i64 ((rdD p0.Actions (w64 ((w64 (p1.State * p0.Symbols)) + (rdD p1.Cells p1.At 0))) z_Action).Next))), (5, ⟨g4564, 2, none⟩, (.slice A_p1_Cells p1.Cells.length c_p1_Cells))], [0, 1, 2, 4, 5, 7], [[], [0], [], [], [], [4], [3, 4, 5], [0, 1, 2, 3, 4, 5, 6], [], [0, 1, 2, 3, 4, 5, 6, 7, 8]]) [[0, 1, 2, 4, 5, 3, 6, 7, 8, 9], [0, 1, 2, 4, 5, 3, 8, 6, 7, 9], [0, 1, 2, 4, 5, 8, 3, 6, 7, 9]] (by kernel_rfl) (by kernel_rfl) (NoPanic.seq (NoPanic.body)) ?_
    have hS4683 := hS4598.drew
    revert hS4683
    generalize World.drew w4597 = w4682
    intro hS4683
    refine ⟨⟨hS4683.cell 3 rfl 2 rfl, hS4683.cell 1 rfl 2 rfl, trivial⟩, forallC ?_ (forallC ?_ (forallC ?_ (forallN)))⟩
    ·
      refine segF 5 [.v (.int .i64 ((rdD p0.Actions (w64 ((w64 (p1.State * p0.Symbols)) + (rdD p1.Cells p1.At 0))) z_Action).Next)), .v (.slice A_p1_Cells p1.Cells.length c_p1_Cells)] [3, 4, 6, 52, 53, 56] [(3, (.pointer (some ⟨g4564, 0, none⟩))), (4, (.pointer (some ⟨g4568, 0, none⟩))), (6, (.pointer (some ⟨g4586, 0, none⟩))), (52, (.int .i64 ((rdD p0.Actions (w64 ((w64 (p1.State * p0.Symbols)) + (rdD p1.Cells p1.At 0))) z_Action).Next))), (53, (.int .i64 x4594)), (56, (.slice A_p1_Cells p1.Cells.length c_p1_Cells))] [] [0, 1] [(1, ⟨g4586, 2, none⟩, (.int .i64 ((rdD p0.Actions (w64 ((w64 (p1.State * p0.Symbols)) + (rdD p1.Cells p1.At 0))) z_Action).Next))), (5, ⟨g4564, 2, none⟩, (.slice A_p1_Cells p1.Cells.length c_p1_Cells))] (fun fb => by kernel_rfl) rfl trivial rfl ?_
      refine WL.new hS4683 54 [] (fun g => (.slice (some ⟨g, 0, none⟩) 0 0)) (.cells #[] 3 (0, 0)) [] (fun fb g => by kernel_rfl) trivial (fun g4684 w4685 hS4686 => ?_)
      refine ⟨⟨hS4686.cell 4 rfl 2 rfl, hS4686.cell 2 rfl 2 rfl, trivial⟩, ?_⟩
      have hS4688 : St NoS w w4685 [rowR enc_Action A_p0_Actions c_p0_Actions p0.Actions, rowR encInt A_p1_Cells c_p1_Cells p1.Cells] [rowO 3 encInt (some ⟨g4684, 0, none⟩) 0 ([] : List Int), blk g4560 (.cells #[(.int .i64 p0.States), (.int .i64 p0.Symbols), (.slice A_p0_Actions p0.Actions.length c_p0_Actions)] 24 (0, 0)), blk g4564 (.cells #[(.int .i64 p1.State), (.int .i64 p1.At), (.slice A_p1_Cells p1.Cells.length c_p1_Cells)] 27 (0, 0)), blk g4568 (.cells #[(.int .i64 0), (.int .i64 0), (.slice none 0 0)] 27 (0, 0)), blk g4586 (.cells #[(.int .i64 ((rdD p0.Actions (w64 ((w64 (p1.State * p0.Symbols)) + (rdD p1.Cells p1.At 0))) z_Action).Write)), (.int .i64 ((rdD p0.Actions (w64 ((w64 (p1.State * p0.Symbols)) + (rdD p1.Cells p1.At 0))) z_Action).Move)), (.int .i64 ((rdD p0.Actions (w64 ((w64 (p1.State * p0.Symbols)) + (rdD p1.Cells p1.At 0))) z_Action).Next))] 88 (0, 0))] := hS4686.map1 0 _ (fun h => rowO.ofBlk h rfl (Nat.le_of_ble_eq_true (by kernel_rfl))) (fun _ h => by obtain ⟨_, h1, h2⟩ := h; injection h1 with h1; subst h1; exact h2) [1, 2, 3, 4] (by decide) (by decide)
      obtain ⟨h4689, hx4681⟩ := as_some hx4681
      refine WL.append hS4688 0 (d := 57) (tS := 25) (z := (.int .i64 0)) (bytes := 8) (c2 := c_p1_Cells) rfl (fun fb => by kernel_rfl) (hS4688.rd 1).1 (by kernel_rfl) (by kernel_rfl) rfl (by decide) h4689 (by decide) [1, 2, 3, 4] (by decide) (by decide) (fun A4690 c4691 w4692 hS4693 => ?_)
      refine ⟨⟨hS4693.cell 4 rfl 2 rfl, trivial⟩, ?_⟩
      refine seg 8 [] [3, 4, 6, 58] [(3, (.pointer (some ⟨g4564, 0, none⟩))), (4, (.pointer (some ⟨g4568, 0, none⟩))), (6, (.pointer (some ⟨g4586, 0, none⟩))), (58, (.agg #[(.int .i64 ((rdD p0.Actions (w64 ((w64 (p1.State * p0.Symbols)) + (rdD p1.Cells p1.At 0))) z_Action).Next)), (.int .i64 x4594), (.slice A4690 (([] : List Int) ++ p1.Cells).length c4691)]))] [] (fun fb => by kernel_rfl) rfl trivial ?_
      refine WL.new hS4693 8 [] (fun g => (.pointer (some ⟨g, 0, none⟩))) (.cells #[(.int .i64 0), (.int .i64 0), (.slice none 0 0)] 27 (0, 0)) [] (fun fb g => by kernel_rfl) trivial (fun g4694 w4695 hS4696 => ?_)
      refine ⟨⟨hS4696.cell 5 rfl 2 rfl, hS4696.cell 3 rfl 2 rfl, trivial⟩, ?_⟩
      refine WL.store hS4696 0 rfl [(0, (.int .i64 ((rdD p0.Actions (w64 ((w64 (p1.State * p0.Symbols)) + (rdD p1.Cells p1.At 0))) z_Action).Next))), (1, (.int .i64 x4594)), (2, (.slice A4690 (([] : List Int) ++ p1.Cells).length c4691))] #[(.int .i64 ((rdD p0.Actions (w64 ((w64 (p1.State * p0.Symbols)) + (rdD p1.Cells p1.At 0))) z_Action).Next)), (.int .i64 x4594), (.slice A4690 (([] : List Int) ++ p1.Cells).length c4691)] (fun fb => by kernel_rfl) (by kernel_rfl) rfl [1, 2, 3, 4, 5] (by decide) (by decide) (fun w4698 hS4699 => ?_)
      refine ⟨trivial, ?_⟩
      refine WL.done rfl ?_
      injection hx4681 with hx4681
      exact WX.to Kx4680 (((rdD p0.Actions (w64 ((w64 (p1.State * p0.Symbols)) + (rdD p1.Cells p1.At 0))) z_Action).Next, x4594, ([] : List Int) ++ p1.Cells), g4694, A4690, c4691) [3, 4, 6, 8] rfl ⟨(hS4699.subR [0, 1]).sub [3, 4, 5, 0, 1] (by decide), hx4681.symm⟩
    ·
      refine segF 5 [.v (.int .i64 ((rdD p0.Actions (w64 ((w64 (p1.State * p0.Symbols)) + (rdD p1.Cells p1.At 0))) z_Action).Next)), .v (.slice A_p1_Cells p1.Cells.length c_p1_Cells)] [3, 4, 6, 52, 53, 56] [(3, (.pointer (some ⟨g4564, 0, none⟩))), (4, (.pointer (some ⟨g4568, 0, none⟩))), (6, (.pointer (some ⟨g4586, 0, none⟩))), (52, (.int .i64 ((rdD p0.Actions (w64 ((w64 (p1.State * p0.Symbols)) + (rdD p1.Cells p1.At 0))) z_Action).Next))), (53, (.int .i64 x4594)), (56, (.slice A_p1_Cells p1.Cells.length c_p1_Cells))] [] [0, 1] [(1, ⟨g4586, 2, none⟩, (.int .i64 ((rdD p0.Actions (w64 ((w64 (p1.State * p0.Symbols)) + (rdD p1.Cells p1.At 0))) z_Action).Next))), (5, ⟨g4564, 2, none⟩, (.slice A_p1_Cells p1.Cells.length c_p1_Cells))] (fun fb => by kernel_rfl) rfl trivial rfl ?_
      refine WL.new hS4683 54 [] (fun g => (.slice (some ⟨g, 0, none⟩) 0 0)) (.cells #[] 3 (0, 0)) [] (fun fb g => by kernel_rfl) trivial (fun g4700 w4701 hS4702 => ?_)
      refine ⟨⟨hS4702.cell 4 rfl 2 rfl, hS4702.cell 2 rfl 2 rfl, trivial⟩, ?_⟩
      have hS4704 : St NoS w w4701 [rowR enc_Action A_p0_Actions c_p0_Actions p0.Actions, rowR encInt A_p1_Cells c_p1_Cells p1.Cells] [rowO 3 encInt (some ⟨g4700, 0, none⟩) 0 ([] : List Int), blk g4560 (.cells #[(.int .i64 p0.States), (.int .i64 p0.Symbols), (.slice A_p0_Actions p0.Actions.length c_p0_Actions)] 24 (0, 0)), blk g4564 (.cells #[(.int .i64 p1.State), (.int .i64 p1.At), (.slice A_p1_Cells p1.Cells.length c_p1_Cells)] 27 (0, 0)), blk g4568 (.cells #[(.int .i64 0), (.int .i64 0), (.slice none 0 0)] 27 (0, 0)), blk g4586 (.cells #[(.int .i64 ((rdD p0.Actions (w64 ((w64 (p1.State * p0.Symbols)) + (rdD p1.Cells p1.At 0))) z_Action).Write)), (.int .i64 ((rdD p0.Actions (w64 ((w64 (p1.State * p0.Symbols)) + (rdD p1.Cells p1.At 0))) z_Action).Move)), (.int .i64 ((rdD p0.Actions (w64 ((w64 (p1.State * p0.Symbols)) + (rdD p1.Cells p1.At 0))) z_Action).Next))] 88 (0, 0))] := hS4702.map1 0 _ (fun h => rowO.ofBlk h rfl (Nat.le_of_ble_eq_true (by kernel_rfl))) (fun _ h => by obtain ⟨_, h1, h2⟩ := h; injection h1 with h1; subst h1; exact h2) [1, 2, 3, 4] (by decide) (by decide)
      refine WL.new hS4704 8 [] (fun g => (.pointer (some ⟨g, 0, none⟩))) (.cells #[(.int .i64 0), (.int .i64 0), (.slice none 0 0)] 27 (0, 0)) [] (fun fb g => by kernel_rfl) trivial (fun g4705 w4706 hS4707 => ?_)
      refine ⟨⟨hS4707.cell 5 rfl 2 rfl, hS4707.cell 3 rfl 2 rfl, trivial⟩, ?_⟩
      obtain ⟨h4709, hx4681⟩ := as_some hx4681
      refine WL.append hS4707 1 (d := 57) (tS := 25) (z := (.int .i64 0)) (bytes := 8) (c2 := c_p1_Cells) rfl (fun fb => by kernel_rfl) (hS4707.rd 1).1 (by kernel_rfl) (by kernel_rfl) rfl (by decide) h4709 (by decide) [0, 2, 3, 4, 5] (by decide) (by decide) (fun A4710 c4711 w4712 hS4713 => ?_)
      refine ⟨⟨hS4713.cell 5 rfl 2 rfl, trivial⟩, ?_⟩
      refine seg 9 [] [3, 4, 6, 8, 58] [(3, (.pointer (some ⟨g4564, 0, none⟩))), (4, (.pointer (some ⟨g4568, 0, none⟩))), (6, (.pointer (some ⟨g4586, 0, none⟩))), (8, (.pointer (some ⟨g4705, 0, none⟩))), (58, (.agg #[(.int .i64 ((rdD p0.Actions (w64 ((w64 (p1.State * p0.Symbols)) + (rdD p1.Cells p1.At 0))) z_Action).Next)), (.int .i64 x4594), (.slice A4710 (([] : List Int) ++ p1.Cells).length c4711)]))] [] (fun fb => by kernel_rfl) rfl trivial ?_
      refine WL.store hS4713 1 rfl [(0, (.int .i64 ((rdD p0.Actions (w64 ((w64 (p1.State * p0.Symbols)) + (rdD p1.Cells p1.At 0))) z_Action).Next))), (1, (.int .i64 x4594)), (2, (.slice A4710 (([] : List Int) ++ p1.Cells).length c4711))] #[(.int .i64 ((rdD p0.Actions (w64 ((w64 (p1.State * p0.Symbols)) + (rdD p1.Cells p1.At 0))) z_Action).Next)), (.int .i64 x4594), (.slice A4710 (([] : List Int) ++ p1.Cells).length c4711)] (fun fb => by kernel_rfl) (by kernel_rfl) rfl [0, 2, 3, 4, 5] (by decide) (by decide) (fun w4714 hS4715 => ?_)
      refine ⟨trivial, ?_⟩
      refine WL.done rfl ?_
      injection hx4681 with hx4681
      exact WX.to Kx4680 (((rdD p0.Actions (w64 ((w64 (p1.State * p0.Symbols)) + (rdD p1.Cells p1.At 0))) z_Action).Next, x4594, ([] : List Int) ++ p1.Cells), g4705, A4710, c4711) [3, 4, 6, 8] rfl ⟨(hS4715.subR [0, 1]).sub [3, 4, 5, 0, 1] (by decide), hx4681.symm⟩
    refine segF 5 [.v (.int .i64 ((rdD p0.Actions (w64 ((w64 (p1.State * p0.Symbols)) + (rdD p1.Cells p1.At 0))) z_Action).Next)), .v (.slice A_p1_Cells p1.Cells.length c_p1_Cells)] [3, 4, 6, 52, 53, 56] [(3, (.pointer (some ⟨g4564, 0, none⟩))), (4, (.pointer (some ⟨g4568, 0, none⟩))), (6, (.pointer (some ⟨g4586, 0, none⟩))), (52, (.int .i64 ((rdD p0.Actions (w64 ((w64 (p1.State * p0.Symbols)) + (rdD p1.Cells p1.At 0))) z_Action).Next))), (53, (.int .i64 x4594)), (56, (.slice A_p1_Cells p1.Cells.length c_p1_Cells))] [] [0, 1] [(1, ⟨g4586, 2, none⟩, (.int .i64 ((rdD p0.Actions (w64 ((w64 (p1.State * p0.Symbols)) + (rdD p1.Cells p1.At 0))) z_Action).Next))), (5, ⟨g4564, 2, none⟩, (.slice A_p1_Cells p1.Cells.length c_p1_Cells))] (fun fb => by kernel_rfl) rfl trivial rfl ?_
    refine WL.new hS4683 8 [] (fun g => (.pointer (some ⟨g, 0, none⟩))) (.cells #[(.int .i64 0), (.int .i64 0), (.slice none 0 0)] 27 (0, 0)) [] (fun fb g => by kernel_rfl) trivial (fun g4716 w4717 hS4718 => ?_)
    refine ⟨⟨hS4718.cell 4 rfl 2 rfl, hS4718.cell 2 rfl 2 rfl, trivial⟩, ?_⟩
    refine WL.new hS4718 54 [] (fun g => (.slice (some ⟨g, 0, none⟩) 0 0)) (.cells #[] 3 (0, 0)) [] (fun fb g => by kernel_rfl) trivial (fun g4720 w4721 hS4722 => ?_)
    refine ⟨⟨hS4722.cell 5 rfl 2 rfl, hS4722.cell 3 rfl 2 rfl, trivial⟩, ?_⟩
    have hS4724 : St NoS w w4721 [rowR enc_Action A_p0_Actions c_p0_Actions p0.Actions, rowR encInt A_p1_Cells c_p1_Cells p1.Cells] [rowO 3 encInt (some ⟨g4720, 0, none⟩) 0 ([] : List Int), blk g4716 (.cells #[(.int .i64 0), (.int .i64 0), (.slice none 0 0)] 27 (0, 0)), blk g4560 (.cells #[(.int .i64 p0.States), (.int .i64 p0.Symbols), (.slice A_p0_Actions p0.Actions.length c_p0_Actions)] 24 (0, 0)), blk g4564 (.cells #[(.int .i64 p1.State), (.int .i64 p1.At), (.slice A_p1_Cells p1.Cells.length c_p1_Cells)] 27 (0, 0)), blk g4568 (.cells #[(.int .i64 0), (.int .i64 0), (.slice none 0 0)] 27 (0, 0)), blk g4586 (.cells #[(.int .i64 ((rdD p0.Actions (w64 ((w64 (p1.State * p0.Symbols)) + (rdD p1.Cells p1.At 0))) z_Action).Write)), (.int .i64 ((rdD p0.Actions (w64 ((w64 (p1.State * p0.Symbols)) + (rdD p1.Cells p1.At 0))) z_Action).Move)), (.int .i64 ((rdD p0.Actions (w64 ((w64 (p1.State * p0.Symbols)) + (rdD p1.Cells p1.At 0))) z_Action).Next))] 88 (0, 0))] := hS4722.map1 0 _ (fun h => rowO.ofBlk h rfl (Nat.le_of_ble_eq_true (by kernel_rfl))) (fun _ h => by obtain ⟨_, h1, h2⟩ := h; injection h1 with h1; subst h1; exact h2) [1, 2, 3, 4, 5] (by decide) (by decide)
    obtain ⟨h4725, hx4681⟩ := as_some hx4681
    refine WL.append hS4724 0 (d := 57) (tS := 25) (z := (.int .i64 0)) (bytes := 8) (c2 := c_p1_Cells) rfl (fun fb => by kernel_rfl) (hS4724.rd 1).1 (by kernel_rfl) (by kernel_rfl) rfl (by decide) h4725 (by decide) [1, 2, 3, 4, 5] (by decide) (by decide) (fun A4726 c4727 w4728 hS4729 => ?_)
    refine ⟨⟨hS4729.cell 5 rfl 2 rfl, trivial⟩, ?_⟩
    refine seg 9 [] [3, 4, 6, 8, 58] [(3, (.pointer (some ⟨g4564, 0, none⟩))), (4, (.pointer (some ⟨g4568, 0, none⟩))), (6, (.pointer (some ⟨g4586, 0, none⟩))), (8, (.pointer (some ⟨g4716, 0, none⟩))), (58, (.agg #[(.int .i64 ((rdD p0.Actions (w64 ((w64 (p1.State * p0.Symbols)) + (rdD p1.Cells p1.At 0))) z_Action).Next)), (.int .i64 x4594), (.slice A4726 (([] : List Int) ++ p1.Cells).length c4727)]))] [] (fun fb => by kernel_rfl) rfl trivial ?_
    refine WL.store hS4729 1 rfl [(0, (.int .i64 ((rdD p0.Actions (w64 ((w64 (p1.State * p0.Symbols)) + (rdD p1.Cells p1.At 0))) z_Action).Next))), (1, (.int .i64 x4594)), (2, (.slice A4726 (([] : List Int) ++ p1.Cells).length c4727))] #[(.int .i64 ((rdD p0.Actions (w64 ((w64 (p1.State * p0.Symbols)) + (rdD p1.Cells p1.At 0))) z_Action).Next)), (.int .i64 x4594), (.slice A4726 (([] : List Int) ++ p1.Cells).length c4727)] (fun fb => by kernel_rfl) (by kernel_rfl) rfl [0, 2, 3, 4, 5] (by decide) (by decide) (fun w4730 hS4731 => ?_)
    refine ⟨trivial, ?_⟩
    refine WL.done rfl ?_
    injection hx4681 with hx4681
    exact WX.to Kx4680 (((rdD p0.Actions (w64 ((w64 (p1.State * p0.Symbols)) + (rdD p1.Cells p1.At 0))) z_Action).Next, x4594, ([] : List Int) ++ p1.Cells), g4716, A4726, c4727) [3, 4, 6, 8] rfl ⟨(hS4731.subR [0, 1]).sub [3, 4, 5, 0, 1] (by decide), hx4681.symm⟩
  rintro ⟨y4735, g4674, A4677, c4678⟩ w4732 ⟨hS4733, hq4734⟩
  subst hq4734
  refine WX.next ?_
  refine WC.seq ?_
  refine WC.region ?_
  refine seg 6 [.v (.slice A4677 x4680.2.2.length c4678), .v (.int .i64 p1.At), .v (.int .i64 ((rdD p0.Actions (w64 ((w64 (p1.State * p0.Symbols)) + (rdD p1.Cells p1.At 0))) z_Action).Write))] [4, 8, 60, 62, 64] [(4, (.pointer (some ⟨g4568, 0, none⟩))), (8, (.pointer (some ⟨g4674, 0, none⟩))), (60, (.slice A4677 x4680.2.2.length c4678)), (62, (.int .i64 p1.At)), (64, (.int .i64 ((rdD p0.Actions (w64 ((w64 (p1.State * p0.Symbols)) + (rdD p1.Cells p1.At 0))) z_Action).Write)))] [.cell ⟨g4674, 2, none⟩ (.slice A4677 x4680.2.2.length c4678), .cell ⟨g4564, 1, none⟩ (.int .i64 p1.At), .cell ⟨g4586, 0, none⟩ (.int .i64 ((rdD p0.Actions (w64 ((w64 (p1.State * p0.Symbols)) + (rdD p1.Cells p1.At 0))) z_Action).Write))] (fun fb => by kernel_rfl) rfl ⟨hS4733.cell 3 rfl 2 rfl, hS4733.cell 0 rfl 1 rfl, hS4733.cell 2 rfl 0 rfl, trivial⟩ ?_
  obtain ⟨h4736, hf⟩ := as_some hf
  refine seg 7 [] [4, 8, 64, 65] [(4, (.pointer (some ⟨g4568, 0, none⟩))), (8, (.pointer (some ⟨g4674, 0, none⟩))), (64, (.int .i64 ((rdD p0.Actions (w64 ((w64 (p1.State * p0.Symbols)) + (rdD p1.Cells p1.At 0))) z_Action).Write))), (65, (.pointer (some ((adr A4677).add ((p1.At).toNat * 1)))))] [.idx A4677 p1.At x4680.2.2.length] (fun fb => by kernel_rfl) rfl ⟨rowR.adr (rowO.rd (hS4733.own 4).1) h4736.1 h4736.2, trivial⟩ ?_
  refine WL.storeRow hS4733 4 rfl (p1.At) ((rdD p0.Actions (w64 ((w64 (p1.State * p0.Symbols)) + (rdD p1.Cells p1.At 0))) z_Action).Write) (0) [(0, (.int .i64 ((rdD p0.Actions (w64 ((w64 (p1.State * p0.Symbols)) + (rdD p1.Cells p1.At 0))) z_Action).Write)))] (fun fb => by kernel_rfl) h4736.1 h4736.2 (by kernel_rfl) rfl [0, 1, 2, 3] (by decide) (by decide) (fun w4737 hS4738 => ?_)
  refine ⟨trivial, ?_⟩
  have hS4739 : St NoS w w4737 [rowR enc_Action A_p0_Actions c_p0_Actions p0.Actions, rowR encInt A_p1_Cells c_p1_Cells p1.Cells] [rowO 3 encInt A4677 c4678 (x4680.2.2.set (p1.At).toNat ((rdD p0.Actions (w64 ((w64 (p1.State * p0.Symbols)) + (rdD p1.Cells p1.At 0))) z_Action).Write)), blk g4564 (.cells #[(.int .i64 p1.State), (.int .i64 p1.At), (.slice A_p1_Cells p1.Cells.length c_p1_Cells)] 27 (0, 0)), blk g4568 (.cells #[(.int .i64 0), (.int .i64 0), (.slice none 0 0)] 27 (0, 0)), blk g4586 (.cells #[(.int .i64 ((rdD p0.Actions (w64 ((w64 (p1.State * p0.Symbols)) + (rdD p1.Cells p1.At 0))) z_Action).Write)), (.int .i64 ((rdD p0.Actions (w64 ((w64 (p1.State * p0.Symbols)) + (rdD p1.Cells p1.At 0))) z_Action).Move)), (.int .i64 ((rdD p0.Actions (w64 ((w64 (p1.State * p0.Symbols)) + (rdD p1.Cells p1.At 0))) z_Action).Next))] 88 (0, 0)), blk g4674 (.cells #[(.int .i64 x4680.1), (.int .i64 x4680.2.1), (.slice A4677 (x4680.2.2.set (p1.At).toNat ((rdD p0.Actions (w64 ((w64 (p1.State * p0.Symbols)) + (rdD p1.Cells p1.At 0))) z_Action).Write)).length c4678)] 27 (0, 0))] := by simpa only [List.length_set] using (show St NoS w w4737 [rowR enc_Action A_p0_Actions c_p0_Actions p0.Actions, rowR encInt A_p1_Cells c_p1_Cells p1.Cells] [rowO 3 encInt A4677 c4678 (x4680.2.2.set (p1.At).toNat ((rdD p0.Actions (w64 ((w64 (p1.State * p0.Symbols)) + (rdD p1.Cells p1.At 0))) z_Action).Write)), blk g4564 (.cells #[(.int .i64 p1.State), (.int .i64 p1.At), (.slice A_p1_Cells p1.Cells.length c_p1_Cells)] 27 (0, 0)), blk g4568 (.cells #[(.int .i64 0), (.int .i64 0), (.slice none 0 0)] 27 (0, 0)), blk g4586 (.cells #[(.int .i64 ((rdD p0.Actions (w64 ((w64 (p1.State * p0.Symbols)) + (rdD p1.Cells p1.At 0))) z_Action).Write)), (.int .i64 ((rdD p0.Actions (w64 ((w64 (p1.State * p0.Symbols)) + (rdD p1.Cells p1.At 0))) z_Action).Move)), (.int .i64 ((rdD p0.Actions (w64 ((w64 (p1.State * p0.Symbols)) + (rdD p1.Cells p1.At 0))) z_Action).Next))] 88 (0, 0)), blk g4674 (.cells #[(.int .i64 x4680.1), (.int .i64 x4680.2.1), (.slice A4677 x4680.2.2.length c4678)] 27 (0, 0))] from hS4738)
  refine WL.done rfl ?_
  refine WX.next ?_
  refine WC.seq ?_
  refine WC.region ?_
  refine seg 1 [.v (.int .i64 x4680.1), .v (.int .i64 x4680.2.1), .v (.slice A4677 (x4680.2.2.set (p1.At).toNat ((rdD p0.Actions (w64 ((w64 (p1.State * p0.Symbols)) + (rdD p1.Cells p1.At 0))) z_Action).Write)).length c4678)] [4, 66] [(4, (.pointer (some ⟨g4568, 0, none⟩))), (66, (.agg #[(.int .i64 x4680.1), (.int .i64 x4680.2.1), (.slice A4677 (x4680.2.2.set (p1.At).toNat ((rdD p0.Actions (w64 ((w64 (p1.State * p0.Symbols)) + (rdD p1.Cells p1.At 0))) z_Action).Write)).length c4678)]))] [.cell ⟨g4674, 0, none⟩ (.int .i64 x4680.1), .cell ⟨g4674, 1, none⟩ (.int .i64 x4680.2.1), .cell ⟨g4674, 2, none⟩ (.slice A4677 (x4680.2.2.set (p1.At).toNat ((rdD p0.Actions (w64 ((w64 (p1.State * p0.Symbols)) + (rdD p1.Cells p1.At 0))) z_Action).Write)).length c4678)] (fun fb => by kernel_rfl) rfl ⟨hS4739.cell 4 rfl 0 rfl, hS4739.cell 4 rfl 1 rfl, hS4739.cell 4 rfl 2 rfl, trivial⟩ ?_
  refine WL.store hS4739 2 rfl [(0, (.int .i64 x4680.1)), (1, (.int .i64 x4680.2.1)), (2, (.slice A4677 (x4680.2.2.set (p1.At).toNat ((rdD p0.Actions (w64 ((w64 (p1.State * p0.Symbols)) + (rdD p1.Cells p1.At 0))) z_Action).Write)).length c4678))] #[(.int .i64 x4680.1), (.int .i64 x4680.2.1), (.slice A4677 (x4680.2.2.set (p1.At).toNat ((rdD p0.Actions (w64 ((w64 (p1.State * p0.Symbols)) + (rdD p1.Cells p1.At 0))) z_Action).Write)).length c4678)] (fun fb => by kernel_rfl) (by kernel_rfl) rfl [0, 1, 3, 4] (by decide) (by decide) (fun w4740 hS4741 => ?_)
  refine ⟨trivial, ?_⟩
  refine seg 3 [] [4, 5] [(4, (.pointer (some ⟨g4568, 0, none⟩))), (5, (.bool true))] [] (fun fb => by kernel_rfl) rfl trivial ?_
  refine WL.done rfl ?_
  refine WX.next ?_
  refine WC.ret ?_
  injection hf with hf
  subst hf
  exact WX.ret_ [.v (.int .i64 x4680.1), .v (.int .i64 x4680.2.1), .v (.slice A4677 (x4680.2.2.set (p1.At).toNat ((rdD p0.Actions (w64 ((w64 (p1.State * p0.Symbols)) + (rdD p1.Cells p1.At 0))) z_Action).Write)).length c4678)] (.tuple #[(.agg #[(.int .i64 x4680.1), (.int .i64 x4680.2.1), (.slice A4677 (x4680.2.2.set (p1.At).toNat ((rdD p0.Actions (w64 ((w64 (p1.State * p0.Symbols)) + (rdD p1.Cells p1.At 0))) z_Action).Write)).length c4678)]), (.bool true)]) [.cell ⟨g4568, 0, none⟩ (.int .i64 x4680.1), .cell ⟨g4568, 1, none⟩ (.int .i64 x4680.2.1), .cell ⟨g4568, 2, none⟩ (.slice A4677 (x4680.2.2.set (p1.At).toNat ((rdD p0.Actions (w64 ((w64 (p1.State * p0.Symbols)) + (rdD p1.Cells p1.At 0))) z_Action).Write)).length c4678)] (fun fb => by kernel_rfl) ⟨hS4741.cell 0 rfl 0 rfl, hS4741.cell 0 rfl 1 rfl, hS4741.cell 0 rfl 2 rfl, trivial⟩ ⟨_, rfl, A4677, c4678, rfl, hS4741.keep, hS4741.roOwn 1 rfl _⟩
theorem top_of_calls (k : Nat) (p0 : List Tile) (p1 : Pattern) (p2 : Bool) (A_p0 : Option Addr) (c_p0 : Nat) (A_p1_Cells : Option Addr) (c_p1_Cells : Nat) (r : Bool) (w : World) (hR0 : RO NoS w (rowR enc_Tile A_p0 c_p0 p0)) (hR1 : RO NoS w (rowR encInt A_p1_Cells c_p1_Cells p1.Cells)) (hf : top_of k p0 p1 p2 = some r) :
    CallsR Try.prog 37 #[(.slice A_p0 p0.length c_p0), (.agg #[(.int .i64 p1.Width), (.int .i64 p1.Height), (.slice A_p1_Cells p1.Cells.length c_p1_Cells)]), (.bool p2)] w (fun v w' => v = (.bool r) ∧ Keeps NoS w w') := by
  have hS : St NoS w w [rowR enc_Tile A_p0 c_p0 p0, rowR encInt A_p1_Cells c_p1_Cells p1.Cells] [] := St.init (ro_cons hR0 (ro_cons hR1 (ro_nil _ _)))
  refine enter 225 Try.func37 rfl Try.ntmps37 rfl ?_
  unfold top_of at hf
  refine WC.seq ?_
  refine WC.region ?_
  refine WL.new hS 4 [] (fun g => (.pointer (some ⟨g, 0, none⟩))) (.cells #[(.int .i64 p1.Width), (.int .i64 p1.Height), (.slice A_p1_Cells p1.Cells.length c_p1_Cells)] 31 (0, 0)) [] (fun fb g => by kernel_rfl) trivial (fun g4824 w4825 hS4826 => ?_)
  refine ⟨trivial, ?_⟩
  refine seg 2 [] [0, 2, 4] [(0, (.slice A_p0 p0.length c_p0)), (2, (.bool p2)), (4, (.pointer (some ⟨g4824, 0, none⟩)))] [] (fun fb => by kernel_rfl) rfl trivial ?_
  refine WL.done rfl ?_
  refine WX.next ?_
  refine WC.seq ?_
  refine WC.seq ?_
  refine WC.region ?_
  refine seg 4 [] [0, 2, 4, 17] [(0, (.slice A_p0 p0.length c_p0)), (2, (.bool p2)), (4, (.pointer (some ⟨g4824, 0, none⟩))), (17, (.bool (decide ((p0.length : Int) > 1000))))] [] (fun fb => by kernel_rfl) rfl trivial ?_
  refine WL.cutV (T := Bool) 8 (fun t => [(21, (.bool t)), (0, (.slice A_p0 p0.length c_p0)), (2, (.bool p2)), (4, (.pointer (some ⟨g4824, 0, none⟩)))]) (fun t => t = ((decide ((p0.length : Int) > 1000)) || (decide (p1.Width < 1)))) (fun K => ?_) ?_
  ·
    rcases Bool.eq_false_or_eq_true (decide ((p0.length : Int) > 1000)) with h4828 | h4828
    ·
      refine WL.setB 17 h4828 rfl ?_
      refine seg 8 [] [0, 2, 4, 21] [(0, (.slice A_p0 p0.length c_p0)), (2, (.bool p2)), (4, (.pointer (some ⟨g4824, 0, none⟩))), (21, (.bool true))] [] (fun fb => by kernel_rfl) rfl trivial ?_
      exact WL.toV K true [21, 0, 2, 4] rfl (by rw [h4828]; rfl)
    refine WL.setB 17 h4828 rfl ?_
    refine seg 8 [.v (.int .i64 p1.Width)] [0, 2, 4, 21] [(0, (.slice A_p0 p0.length c_p0)), (2, (.bool p2)), (4, (.pointer (some ⟨g4824, 0, none⟩))), (21, (.bool (decide (p1.Width < 1))))] [.cell ⟨g4824, 0, none⟩ (.int .i64 p1.Width)] (fun fb => by kernel_rfl) rfl ⟨hS4826.cell 0 rfl 0 rfl, trivial⟩ ?_
    exact WL.toV K (decide (p1.Width < 1)) [21, 0, 2, 4] rfl (by rw [h4828]; rfl)
  rintro b4829 rfl
  refine seg 9 [] [0, 2, 4, 22] [(0, (.slice A_p0 p0.length c_p0)), (2, (.bool p2)), (4, (.pointer (some ⟨g4824, 0, none⟩))), (22, (.bool ((decide ((p0.length : Int) > 1000)) || (decide (p1.Width < 1)))))] [] (fun fb => by kernel_rfl) rfl trivial ?_
  refine WL.cutV (T := Bool) 13 (fun t => [(26, (.bool t)), (0, (.slice A_p0 p0.length c_p0)), (2, (.bool p2)), (4, (.pointer (some ⟨g4824, 0, none⟩)))]) (fun t => t = (((decide ((p0.length : Int) > 1000)) || (decide (p1.Width < 1))) || (decide (p1.Height < 1)))) (fun K => ?_) ?_
  ·
    rcases Bool.eq_false_or_eq_true ((decide ((p0.length : Int) > 1000)) || (decide (p1.Width < 1))) with h4830 | h4830
    ·
      refine WL.setB 22 h4830 rfl ?_
      refine seg 13 [] [0, 2, 4, 26] [(0, (.slice A_p0 p0.length c_p0)), (2, (.bool p2)), (4, (.pointer (some ⟨g4824, 0, none⟩))), (26, (.bool true))] [] (fun fb => by kernel_rfl) rfl trivial ?_
      exact WL.toV K true [26, 0, 2, 4] rfl (by rw [h4830]; rfl)
    refine WL.setB 22 h4830 rfl ?_
    refine seg 13 [.v (.int .i64 p1.Height)] [0, 2, 4, 26] [(0, (.slice A_p0 p0.length c_p0)), (2, (.bool p2)), (4, (.pointer (some ⟨g4824, 0, none⟩))), (26, (.bool (decide (p1.Height < 1))))] [.cell ⟨g4824, 1, none⟩ (.int .i64 p1.Height)] (fun fb => by kernel_rfl) rfl ⟨hS4826.cell 0 rfl 1 rfl, trivial⟩ ?_
    exact WL.toV K (decide (p1.Height < 1)) [26, 0, 2, 4] rfl (by rw [h4830]; rfl)
  rintro b4831 rfl
  refine seg 14 [] [0, 2, 4, 27] [(0, (.slice A_p0 p0.length c_p0)), (2, (.bool p2)), (4, (.pointer (some ⟨g4824, 0, none⟩))), (27, (.bool (((decide ((p0.length : Int) > 1000)) || (decide (p1.Width < 1))) || (decide (p1.Height < 1)))))] [] (fun fb => by kernel_rfl) rfl trivial ?_
  refine WL.cutV (T := Bool) 18 (fun t => [(31, (.bool t)), (0, (.slice A_p0 p0.length c_p0)), (2, (.bool p2)), (4, (.pointer (some ⟨g4824, 0, none⟩)))]) (fun t => t = ((((decide ((p0.length : Int) > 1000)) || (decide (p1.Width < 1))) || (decide (p1.Height < 1))) || (decide (p1.Width > 40000)))) (fun K => ?_) ?_
  ·
    rcases Bool.eq_false_or_eq_true (((decide ((p0.length : Int) > 1000)) || (decide (p1.Width < 1))) || (decide (p1.Height < 1))) with h4832 | h4832
    ·
      refine WL.setB 27 h4832 rfl ?_
      refine seg 18 [] [0, 2, 4, 31] [(0, (.slice A_p0 p0.length c_p0)), (2, (.bool p2)), (4, (.pointer (some ⟨g4824, 0, none⟩))), (31, (.bool true))] [] (fun fb => by kernel_rfl) rfl trivial ?_
      exact WL.toV K true [31, 0, 2, 4] rfl (by rw [h4832]; rfl)
    refine WL.setB 27 h4832 rfl ?_
    refine seg 18 [.v (.int .i64 p1.Width)] [0, 2, 4, 31] [(0, (.slice A_p0 p0.length c_p0)), (2, (.bool p2)), (4, (.pointer (some ⟨g4824, 0, none⟩))), (31, (.bool (decide (p1.Width > 40000))))] [.cell ⟨g4824, 0, none⟩ (.int .i64 p1.Width)] (fun fb => by kernel_rfl) rfl ⟨hS4826.cell 0 rfl 0 rfl, trivial⟩ ?_
    exact WL.toV K (decide (p1.Width > 40000)) [31, 0, 2, 4] rfl (by rw [h4832]; rfl)
  rintro b4833 rfl
  refine seg 19 [] [0, 2, 4, 32] [(0, (.slice A_p0 p0.length c_p0)), (2, (.bool p2)), (4, (.pointer (some ⟨g4824, 0, none⟩))), (32, (.bool ((((decide ((p0.length : Int) > 1000)) || (decide (p1.Width < 1))) || (decide (p1.Height < 1))) || (decide (p1.Width > 40000)))))] [] (fun fb => by kernel_rfl) rfl trivial ?_
  refine WL.cutV (T := Bool) 23 (fun t => [(36, (.bool t)), (0, (.slice A_p0 p0.length c_p0)), (2, (.bool p2)), (4, (.pointer (some ⟨g4824, 0, none⟩)))]) (fun t => t = (((((decide ((p0.length : Int) > 1000)) || (decide (p1.Width < 1))) || (decide (p1.Height < 1))) || (decide (p1.Width > 40000))) || (decide (p1.Height > 40000)))) (fun K => ?_) ?_
  ·
    rcases Bool.eq_false_or_eq_true ((((decide ((p0.length : Int) > 1000)) || (decide (p1.Width < 1))) || (decide (p1.Height < 1))) || (decide (p1.Width > 40000))) with h4834 | h4834
    ·
      refine WL.setB 32 h4834 rfl ?_
      refine seg 23 [] [0, 2, 4, 36] [(0, (.slice A_p0 p0.length c_p0)), (2, (.bool p2)), (4, (.pointer (some ⟨g4824, 0, none⟩))), (36, (.bool true))] [] (fun fb => by kernel_rfl) rfl trivial ?_
      exact WL.toV K true [36, 0, 2, 4] rfl (by rw [h4834]; rfl)
    refine WL.setB 32 h4834 rfl ?_
    refine seg 23 [.v (.int .i64 p1.Height)] [0, 2, 4, 36] [(0, (.slice A_p0 p0.length c_p0)), (2, (.bool p2)), (4, (.pointer (some ⟨g4824, 0, none⟩))), (36, (.bool (decide (p1.Height > 40000))))] [.cell ⟨g4824, 1, none⟩ (.int .i64 p1.Height)] (fun fb => by kernel_rfl) rfl ⟨hS4826.cell 0 rfl 1 rfl, trivial⟩ ?_
    exact WL.toV K (decide (p1.Height > 40000)) [36, 0, 2, 4] rfl (by rw [h4834]; rfl)
  rintro b4835 rfl
  refine seg 24 [] [0, 2, 4, 37] [(0, (.slice A_p0 p0.length c_p0)), (2, (.bool p2)), (4, (.pointer (some ⟨g4824, 0, none⟩))), (37, (.bool (((((decide ((p0.length : Int) > 1000)) || (decide (p1.Width < 1))) || (decide (p1.Height < 1))) || (decide (p1.Width > 40000))) || (decide (p1.Height > 40000)))))] [] (fun fb => by kernel_rfl) rfl trivial ?_
  refine WL.cutV (T := Bool) 31 (fun t => [(44, (.bool t)), (0, (.slice A_p0 p0.length c_p0)), (2, (.bool p2)), (4, (.pointer (some ⟨g4824, 0, none⟩)))]) (fun t => t = ((((((decide ((p0.length : Int) > 1000)) || (decide (p1.Width < 1))) || (decide (p1.Height < 1))) || (decide (p1.Width > 40000))) || (decide (p1.Height > 40000))) || (decide (w64 (p1.Width * p1.Height) > 40000)))) (fun K => ?_) ?_
  ·
    rcases Bool.eq_false_or_eq_true (((((decide ((p0.length : Int) > 1000)) || (decide (p1.Width < 1))) || (decide (p1.Height < 1))) || (decide (p1.Width > 40000))) || (decide (p1.Height > 40000))) with h4836 | h4836
    ·
      refine WL.setB 37 h4836 rfl ?_
      refine seg 31 [] [0, 2, 4, 44] [(0, (.slice A_p0 p0.length c_p0)), (2, (.bool p2)), (4, (.pointer (some ⟨g4824, 0, none⟩))), (44, (.bool true))] [] (fun fb => by kernel_rfl) rfl trivial ?_
      exact WL.toV K true [44, 0, 2, 4] rfl (by rw [h4836]; rfl)
    refine WL.setB 37 h4836 rfl ?_
    refine seg 31 [.v (.int .i64 p1.Width), .v (.int .i64 p1.Height)] [0, 2, 4, 44] [(0, (.slice A_p0 p0.length c_p0)), (2, (.bool p2)), (4, (.pointer (some ⟨g4824, 0, none⟩))), (44, (.bool (decide (w64 (p1.Width * p1.Height) > 40000))))] [.cell ⟨g4824, 0, none⟩ (.int .i64 p1.Width), .cell ⟨g4824, 1, none⟩ (.int .i64 p1.Height)] (fun fb => by kernel_rfl) rfl ⟨hS4826.cell 0 rfl 0 rfl, hS4826.cell 0 rfl 1 rfl, trivial⟩ ?_
    exact WL.toV K (decide (w64 (p1.Width * p1.Height) > 40000)) [44, 0, 2, 4] rfl (by rw [h4836]; rfl)
  rintro b4837 rfl
  refine seg 32 [] [0, 2, 4, 45] [(0, (.slice A_p0 p0.length c_p0)), (2, (.bool p2)), (4, (.pointer (some ⟨g4824, 0, none⟩))), (45, (.bool ((((((decide ((p0.length : Int) > 1000)) || (decide (p1.Width < 1))) || (decide (p1.Height < 1))) || (decide (p1.Width > 40000))) || (decide (p1.Height > 40000))) || (decide (w64 (p1.Width * p1.Height) > 40000)))))] [] (fun fb => by kernel_rfl) rfl trivial ?_
  refine WL.cutV (T := Bool) 42 (fun t => [(55, (.bool t)), (0, (.slice A_p0 p0.length c_p0)), (2, (.bool p2)), (4, (.pointer (some ⟨g4824, 0, none⟩)))]) (fun t => t = (((((((decide ((p0.length : Int) > 1000)) || (decide (p1.Width < 1))) || (decide (p1.Height < 1))) || (decide (p1.Width > 40000))) || (decide (p1.Height > 40000))) || (decide (w64 (p1.Width * p1.Height) > 40000))) || ((p1.Cells.length : Int) != (w64 (p1.Width * p1.Height))))) (fun K => ?_) ?_
  ·
    rcases Bool.eq_false_or_eq_true ((((((decide ((p0.length : Int) > 1000)) || (decide (p1.Width < 1))) || (decide (p1.Height < 1))) || (decide (p1.Width > 40000))) || (decide (p1.Height > 40000))) || (decide (w64 (p1.Width * p1.Height) > 40000))) with h4838 | h4838
    ·
      refine WL.setB 45 h4838 rfl ?_
      refine seg 42 [] [0, 2, 4, 55] [(0, (.slice A_p0 p0.length c_p0)), (2, (.bool p2)), (4, (.pointer (some ⟨g4824, 0, none⟩))), (55, (.bool true))] [] (fun fb => by kernel_rfl) rfl trivial ?_
      exact WL.toV K true [55, 0, 2, 4] rfl (by rw [h4838]; rfl)
    refine WL.setB 45 h4838 rfl ?_
    refine seg 42 [.v (.slice A_p1_Cells p1.Cells.length c_p1_Cells), .v (.int .i64 p1.Width), .v (.int .i64 p1.Height)] [0, 2, 4, 55] [(0, (.slice A_p0 p0.length c_p0)), (2, (.bool p2)), (4, (.pointer (some ⟨g4824, 0, none⟩))), (55, (.bool ((p1.Cells.length : Int) != (w64 (p1.Width * p1.Height)))))] [.cell ⟨g4824, 2, none⟩ (.slice A_p1_Cells p1.Cells.length c_p1_Cells), .cell ⟨g4824, 0, none⟩ (.int .i64 p1.Width), .cell ⟨g4824, 1, none⟩ (.int .i64 p1.Height)] (fun fb => by kernel_rfl) rfl ⟨hS4826.cell 0 rfl 2 rfl, hS4826.cell 0 rfl 0 rfl, hS4826.cell 0 rfl 1 rfl, trivial⟩ ?_
    exact WL.toV K ((p1.Cells.length : Int) != (w64 (p1.Width * p1.Height))) [55, 0, 2, 4] rfl (by rw [h4838]; rfl)
  rintro b4839 rfl
  refine WL.done rfl ?_
  refine WX.next ?_
  rcases br_some hf with ⟨h4840, hf⟩ | ⟨h4840, hf⟩
  · refine WC.condT2 (fun fb => by kernel_rfl) h4840 ?_
    refine WC.seq ?_
    refine WC.region ?_
    refine seg 1 [] [6] [(6, (.bool false))] [] (fun fb => by kernel_rfl) rfl trivial ?_
    refine WL.done rfl ?_
    refine WX.next ?_
    refine WC.ret ?_
    injection hf with hf
    subst hf
    exact WX.thenR (WX.ret_ [] (.bool false) [] (fun fb => by kernel_rfl) trivial ⟨_, rfl, rfl, hS4826.keep⟩)
  refine WC.condF2 (fun fb => by kernel_rfl) h4840 ?_
  refine WC.skip ?_
  refine WX.next ?_
  refine WC.seq ?_
  refine WC.seq ?_
  refine WC.region ?_
  refine seg 1 [] [0, 2, 4, 7] [(0, (.slice A_p0 p0.length c_p0)), (2, (.bool p2)), (4, (.pointer (some ⟨g4824, 0, none⟩))), (7, (.int .i64 0))] [] (fun fb => by kernel_rfl) rfl trivial ?_
  refine WL.done rfl ?_
  refine WX.next ?_
  obtain ⟨x4954, hx4955, hf⟩ := bind_some hf
  refine WC.cutN (T := Unit) (fun t => [(0, (.slice A_p0 p0.length c_p0)), (2, (.bool p2)), (4, (.pointer (some ⟨g4824, 0, none⟩)))]) (fun t w1 => St NoS w w1 [rowR enc_Tile A_p0 c_p0 p0, rowR encInt A_p1_Cells c_p1_Cells p1.Cells] [blk g4824 (.cells #[(.int .i64 p1.Width), (.int .i64 p1.Height), (.slice A_p1_Cells p1.Cells.length c_p1_Cells)] 31 (0, 0))] ∧ x4954 = .inr t) (fun Kx4954 => ?_) ?_
  ·
    refine WC.block ?_
    refine WC.loop (T := Int) (fun t => [(0, (.slice A_p0 p0.length c_p0)), (2, (.bool p2)), (4, (.pointer (some ⟨g4824, 0, none⟩))), (7, (.int .i64 t))]) (fun n t w1 => St NoS w w1 [rowR enc_Tile A_p0 c_p0 p0, rowR encInt A_p1_Cells c_p1_Cells p1.Cells] [blk g4824 (.cells #[(.int .i64 p1.Width), (.int .i64 p1.Height), (.slice A_p1_Cells p1.Cells.length c_p1_Cells)] 31 (0, 0))] ∧ top_of.l0 n t p0 = some x4954) k 0 [0, 2, 4, 7] rfl ⟨(hS4826.subR [0, 1]).sub [0] (by decide), hx4955⟩ ?_
    rintro k4956 x4953 w4957 ⟨hS4958, hl4959⟩
    cases k4956 with
    | zero => rw [top_of.l0] at hl4959; cases hl4959
    | succ k4956 =>
      rw [top_of.l0] at hl4959
      refine WC.seq ?_
      refine WC.seq ?_
      refine WC.region ?_
      refine seg 4 [] [0, 2, 4, 7, 59] [(0, (.slice A_p0 p0.length c_p0)), (2, (.bool p2)), (4, (.pointer (some ⟨g4824, 0, none⟩))), (7, (.int .i64 x4953)), (59, (.bool (decide (x4953 < (p0.length : Int)))))] [] (fun fb => by kernel_rfl) rfl trivial ?_
      refine WL.done rfl ?_
      refine WX.next ?_
      rcases br_some hl4959 with ⟨h4960, hl4959⟩ | ⟨h4960, hl4959⟩
      · refine WC.condT2 (fun fb => by kernel_rfl) h4960 ?_
        refine WC.skip ?_
        refine WX.next ?_
        refine WC.seq ?_
        refine WC.block ?_
        refine WC.seq ?_
        refine WC.region ?_
        refine seg 2 [] [0, 2, 4, 7, 62, 63] [(0, (.slice A_p0 p0.length c_p0)), (2, (.bool p2)), (4, (.pointer (some ⟨g4824, 0, none⟩))), (7, (.int .i64 x4953)), (62, (.slice A_p0 p0.length c_p0)), (63, (.int .i64 x4953))] [] (fun fb => by kernel_rfl) rfl trivial ?_
        obtain ⟨h4961, hl4959⟩ := as_some hl4959
        refine seg 4 [.v (.int .i64 ((rdD p0 x4953 z_Tile).N)), .v (.int .i64 ((rdD p0 x4953 z_Tile).E)), .v (.int .i64 ((rdD p0 x4953 z_Tile).S)), .v (.int .i64 ((rdD p0 x4953 z_Tile).W))] [0, 2, 4, 7, 65] [(0, (.slice A_p0 p0.length c_p0)), (2, (.bool p2)), (4, (.pointer (some ⟨g4824, 0, none⟩))), (7, (.int .i64 x4953)), (65, (.agg #[(.int .i64 ((rdD p0 x4953 z_Tile).N)), (.int .i64 ((rdD p0 x4953 z_Tile).E)), (.int .i64 ((rdD p0 x4953 z_Tile).S)), (.int .i64 ((rdD p0 x4953 z_Tile).W))]))] [.idx A_p0 x4953 p0.length, .cell ((adr A_p0).add ((x4953).toNat * 4)) (.int .i64 ((rdD p0 x4953 z_Tile).N)), .cell (((adr A_p0).add ((x4953).toNat * 4)).add 1) (.int .i64 ((rdD p0 x4953 z_Tile).E)), .cell (((adr A_p0).add ((x4953).toNat * 4)).add 2) (.int .i64 ((rdD p0 x4953 z_Tile).S)), .cell (((adr A_p0).add ((x4953).toNat * 4)).add 3) (.int .i64 ((rdD p0 x4953 z_Tile).W))] (fun fb => by kernel_rfl) rfl ⟨rowR.adr (hS4958.rd 0).1 h4961.1 h4961.2, rowR.cell (hS4958.rd 0).1 z_Tile h4961.1 h4961.2 0 rfl, rowR.cell (hS4958.rd 0).1 z_Tile h4961.1 h4961.2 1 rfl, rowR.cell (hS4958.rd 0).1 z_Tile h4961.1 h4961.2 2 rfl, rowR.cell (hS4958.rd 0).1 z_Tile h4961.1 h4961.2 3 rfl, trivial⟩ ?_
        refine WL.new hS4958 8 [] (fun g => (.pointer (some ⟨g, 0, none⟩))) (.cells #[(.int .i64 0), (.int .i64 0), (.int .i64 0), (.int .i64 0)] 65 (0, 0)) [] (fun fb g => by kernel_rfl) trivial (fun g4962 w4963 hS4964 => ?_)
        refine ⟨trivial, ?_⟩
        refine WL.store hS4964 0 rfl [(0, (.int .i64 ((rdD p0 x4953 z_Tile).N))), (1, (.int .i64 ((rdD p0 x4953 z_Tile).E))), (2, (.int .i64 ((rdD p0 x4953 z_Tile).S))), (3, (.int .i64 ((rdD p0 x4953 z_Tile).W)))] #[(.int .i64 ((rdD p0 x4953 z_Tile).N)), (.int .i64 ((rdD p0 x4953 z_Tile).E)), (.int .i64 ((rdD p0 x4953 z_Tile).S)), (.int .i64 ((rdD p0 x4953 z_Tile).W))] (fun fb => by kernel_rfl) (by kernel_rfl) rfl [1] (by decide) (by decide) (fun w4966 hS4967 => ?_)
        refine ⟨trivial, ?_⟩
        refine WL.done rfl ?_
        refine WX.next ?_
        refine WC.seq ?_
        refine WC.seq ?_
        refine WC.region ?_
        refine seg 4 [.v (.int .i64 ((rdD p0 x4953 z_Tile).N))] [0, 2, 4, 7, 8, 69] [(0, (.slice A_p0 p0.length c_p0)), (2, (.bool p2)), (4, (.pointer (some ⟨g4824, 0, none⟩))), (7, (.int .i64 x4953)), (8, (.pointer (some ⟨g4962, 0, none⟩))), (69, (.bool (decide ((rdD p0 x4953 z_Tile).N < 0))))] [.cell ⟨g4962, 0, none⟩ (.int .i64 ((rdD p0 x4953 z_Tile).N))] (fun fb => by kernel_rfl) rfl ⟨hS4967.cell 0 rfl 0 rfl, trivial⟩ ?_
        refine WL.cutV (T := Bool) 8 (fun t => [(73, (.bool t)), (0, (.slice A_p0 p0.length c_p0)), (2, (.bool p2)), (4, (.pointer (some ⟨g4824, 0, none⟩))), (7, (.int .i64 x4953)), (8, (.pointer (some ⟨g4962, 0, none⟩)))]) (fun t => t = ((decide ((rdD p0 x4953 z_Tile).N < 0)) || (decide ((rdD p0 x4953 z_Tile).E < 0)))) (fun K => ?_) ?_
        ·
          rcases Bool.eq_false_or_eq_true (decide ((rdD p0 x4953 z_Tile).N < 0)) with h4968 | h4968
          ·
            refine WL.setB 69 h4968 rfl ?_
            refine seg 8 [] [0, 2, 4, 7, 8, 73] [(0, (.slice A_p0 p0.length c_p0)), (2, (.bool p2)), (4, (.pointer (some ⟨g4824, 0, none⟩))), (7, (.int .i64 x4953)), (8, (.pointer (some ⟨g4962, 0, none⟩))), (73, (.bool true))] [] (fun fb => by kernel_rfl) rfl trivial ?_
            exact WL.toV K true [73, 0, 2, 4, 7, 8] rfl (by rw [h4968]; rfl)
          refine WL.setB 69 h4968 rfl ?_
          refine seg 8 [.v (.int .i64 ((rdD p0 x4953 z_Tile).E))] [0, 2, 4, 7, 8, 73] [(0, (.slice A_p0 p0.length c_p0)), (2, (.bool p2)), (4, (.pointer (some ⟨g4824, 0, none⟩))), (7, (.int .i64 x4953)), (8, (.pointer (some ⟨g4962, 0, none⟩))), (73, (.bool (decide ((rdD p0 x4953 z_Tile).E < 0))))] [.cell ⟨g4962, 1, none⟩ (.int .i64 ((rdD p0 x4953 z_Tile).E))] (fun fb => by kernel_rfl) rfl ⟨hS4967.cell 0 rfl 1 rfl, trivial⟩ ?_
          exact WL.toV K (decide ((rdD p0 x4953 z_Tile).E < 0)) [73, 0, 2, 4, 7, 8] rfl (by rw [h4968]; rfl)
        rintro b4969 rfl
        refine seg 9 [] [0, 2, 4, 7, 8, 74] [(0, (.slice A_p0 p0.length c_p0)), (2, (.bool p2)), (4, (.pointer (some ⟨g4824, 0, none⟩))), (7, (.int .i64 x4953)), (8, (.pointer (some ⟨g4962, 0, none⟩))), (74, (.bool ((decide ((rdD p0 x4953 z_Tile).N < 0)) || (decide ((rdD p0 x4953 z_Tile).E < 0)))))] [] (fun fb => by kernel_rfl) rfl trivial ?_
        refine WL.cutV (T := Bool) 13 (fun t => [(78, (.bool t)), (0, (.slice A_p0 p0.length c_p0)), (2, (.bool p2)), (4, (.pointer (some ⟨g4824, 0, none⟩))), (7, (.int .i64 x4953)), (8, (.pointer (some ⟨g4962, 0, none⟩)))]) (fun t => t = (((decide ((rdD p0 x4953 z_Tile).N < 0)) || (decide ((rdD p0 x4953 z_Tile).E < 0))) || (decide ((rdD p0 x4953 z_Tile).S < 0)))) (fun K => ?_) ?_
        ·
          rcases Bool.eq_false_or_eq_true ((decide ((rdD p0 x4953 z_Tile).N < 0)) || (decide ((rdD p0 x4953 z_Tile).E < 0))) with h4970 | h4970
          ·
            refine WL.setB 74 h4970 rfl ?_
            refine seg 13 [] [0, 2, 4, 7, 8, 78] [(0, (.slice A_p0 p0.length c_p0)), (2, (.bool p2)), (4, (.pointer (some ⟨g4824, 0, none⟩))), (7, (.int .i64 x4953)), (8, (.pointer (some ⟨g4962, 0, none⟩))), (78, (.bool true))] [] (fun fb => by kernel_rfl) rfl trivial ?_
            exact WL.toV K true [78, 0, 2, 4, 7, 8] rfl (by rw [h4970]; rfl)
          refine WL.setB 74 h4970 rfl ?_
          refine seg 13 [.v (.int .i64 ((rdD p0 x4953 z_Tile).S))] [0, 2, 4, 7, 8, 78] [(0, (.slice A_p0 p0.length c_p0)), (2, (.bool p2)), (4, (.pointer (some ⟨g4824, 0, none⟩))), (7, (.int .i64 x4953)), (8, (.pointer (some ⟨g4962, 0, none⟩))), (78, (.bool (decide ((rdD p0 x4953 z_Tile).S < 0))))] [.cell ⟨g4962, 2, none⟩ (.int .i64 ((rdD p0 x4953 z_Tile).S))] (fun fb => by kernel_rfl) rfl ⟨hS4967.cell 0 rfl 2 rfl, trivial⟩ ?_
          exact WL.toV K (decide ((rdD p0 x4953 z_Tile).S < 0)) [78, 0, 2, 4, 7, 8] rfl (by rw [h4970]; rfl)
        rintro b4971 rfl
        refine seg 14 [] [0, 2, 4, 7, 8, 79] [(0, (.slice A_p0 p0.length c_p0)), (2, (.bool p2)), (4, (.pointer (some ⟨g4824, 0, none⟩))), (7, (.int .i64 x4953)), (8, (.pointer (some ⟨g4962, 0, none⟩))), (79, (.bool (((decide ((rdD p0 x4953 z_Tile).N < 0)) || (decide ((rdD p0 x4953 z_Tile).E < 0))) || (decide ((rdD p0 x4953 z_Tile).S < 0)))))] [] (fun fb => by kernel_rfl) rfl trivial ?_
        refine WL.cutV (T := Bool) 18 (fun t => [(83, (.bool t)), (0, (.slice A_p0 p0.length c_p0)), (2, (.bool p2)), (4, (.pointer (some ⟨g4824, 0, none⟩))), (7, (.int .i64 x4953)), (8, (.pointer (some ⟨g4962, 0, none⟩)))]) (fun t => t = ((((decide ((rdD p0 x4953 z_Tile).N < 0)) || (decide ((rdD p0 x4953 z_Tile).E < 0))) || (decide ((rdD p0 x4953 z_Tile).S < 0))) || (decide ((rdD p0 x4953 z_Tile).W < 0)))) (fun K => ?_) ?_
        ·
          rcases Bool.eq_false_or_eq_true (((decide ((rdD p0 x4953 z_Tile).N < 0)) || (decide ((rdD p0 x4953 z_Tile).E < 0))) || (decide ((rdD p0 x4953 z_Tile).S < 0))) with h4972 | h4972
          ·
            refine WL.setB 79 h4972 rfl ?_
            refine seg 18 [] [0, 2, 4, 7, 8, 83] [(0, (.slice A_p0 p0.length c_p0)), (2, (.bool p2)), (4, (.pointer (some ⟨g4824, 0, none⟩))), (7, (.int .i64 x4953)), (8, (.pointer (some ⟨g4962, 0, none⟩))), (83, (.bool true))] [] (fun fb => by kernel_rfl) rfl trivial ?_
            exact WL.toV K true [83, 0, 2, 4, 7, 8] rfl (by rw [h4972]; rfl)
          refine WL.setB 79 h4972 rfl ?_
          refine seg 18 [.v (.int .i64 ((rdD p0 x4953 z_Tile).W))] [0, 2, 4, 7, 8, 83] [(0, (.slice A_p0 p0.length c_p0)), (2, (.bool p2)), (4, (.pointer (some ⟨g4824, 0, none⟩))), (7, (.int .i64 x4953)), (8, (.pointer (some ⟨g4962, 0, none⟩))), (83, (.bool (decide ((rdD p0 x4953 z_Tile).W < 0))))] [.cell ⟨g4962, 3, none⟩ (.int .i64 ((rdD p0 x4953 z_Tile).W))] (fun fb => by kernel_rfl) rfl ⟨hS4967.cell 0 rfl 3 rfl, trivial⟩ ?_
          exact WL.toV K (decide ((rdD p0 x4953 z_Tile).W < 0)) [83, 0, 2, 4, 7, 8] rfl (by rw [h4972]; rfl)
        rintro b4973 rfl
        refine seg 19 [] [0, 2, 4, 7, 8, 84] [(0, (.slice A_p0 p0.length c_p0)), (2, (.bool p2)), (4, (.pointer (some ⟨g4824, 0, none⟩))), (7, (.int .i64 x4953)), (8, (.pointer (some ⟨g4962, 0, none⟩))), (84, (.bool ((((decide ((rdD p0 x4953 z_Tile).N < 0)) || (decide ((rdD p0 x4953 z_Tile).E < 0))) || (decide ((rdD p0 x4953 z_Tile).S < 0))) || (decide ((rdD p0 x4953 z_Tile).W < 0)))))] [] (fun fb => by kernel_rfl) rfl trivial ?_
        refine WL.cutV (T := Bool) 23 (fun t => [(88, (.bool t)), (0, (.slice A_p0 p0.length c_p0)), (2, (.bool p2)), (4, (.pointer (some ⟨g4824, 0, none⟩))), (7, (.int .i64 x4953)), (8, (.pointer (some ⟨g4962, 0, none⟩)))]) (fun t => t = (((((decide ((rdD p0 x4953 z_Tile).N < 0)) || (decide ((rdD p0 x4953 z_Tile).E < 0))) || (decide ((rdD p0 x4953 z_Tile).S < 0))) || (decide ((rdD p0 x4953 z_Tile).W < 0))) || (decide ((rdD p0 x4953 z_Tile).N ≥ 1000)))) (fun K => ?_) ?_
        ·
          rcases Bool.eq_false_or_eq_true ((((decide ((rdD p0 x4953 z_Tile).N < 0)) || (decide ((rdD p0 x4953 z_Tile).E < 0))) || (decide ((rdD p0 x4953 z_Tile).S < 0))) || (decide ((rdD p0 x4953 z_Tile).W < 0))) with h4974 | h4974
          ·
            refine WL.setB 84 h4974 rfl ?_
            refine seg 23 [] [0, 2, 4, 7, 8, 88] [(0, (.slice A_p0 p0.length c_p0)), (2, (.bool p2)), (4, (.pointer (some ⟨g4824, 0, none⟩))), (7, (.int .i64 x4953)), (8, (.pointer (some ⟨g4962, 0, none⟩))), (88, (.bool true))] [] (fun fb => by kernel_rfl) rfl trivial ?_
            exact WL.toV K true [88, 0, 2, 4, 7, 8] rfl (by rw [h4974]; rfl)
          refine WL.setB 84 h4974 rfl ?_
          refine seg 23 [.v (.int .i64 ((rdD p0 x4953 z_Tile).N))] [0, 2, 4, 7, 8, 88] [(0, (.slice A_p0 p0.length c_p0)), (2, (.bool p2)), (4, (.pointer (some ⟨g4824, 0, none⟩))), (7, (.int .i64 x4953)), (8, (.pointer (some ⟨g4962, 0, none⟩))), (88, (.bool (decide ((rdD p0 x4953 z_Tile).N ≥ 1000))))] [.cell ⟨g4962, 0, none⟩ (.int .i64 ((rdD p0 x4953 z_Tile).N))] (fun fb => by kernel_rfl) rfl ⟨hS4967.cell 0 rfl 0 rfl, trivial⟩ ?_
          exact WL.toV K (decide ((rdD p0 x4953 z_Tile).N ≥ 1000)) [88, 0, 2, 4, 7, 8] rfl (by rw [h4974]; rfl)
        rintro b4975 rfl
        refine seg 24 [] [0, 2, 4, 7, 8, 89] [(0, (.slice A_p0 p0.length c_p0)), (2, (.bool p2)), (4, (.pointer (some ⟨g4824, 0, none⟩))), (7, (.int .i64 x4953)), (8, (.pointer (some ⟨g4962, 0, none⟩))), (89, (.bool (((((decide ((rdD p0 x4953 z_Tile).N < 0)) || (decide ((rdD p0 x4953 z_Tile).E < 0))) || (decide ((rdD p0 x4953 z_Tile).S < 0))) || (decide ((rdD p0 x4953 z_Tile).W < 0))) || (decide ((rdD p0 x4953 z_Tile).N ≥ 1000)))))] [] (fun fb => by kernel_rfl) rfl trivial ?_
        refine WL.cutV (T := Bool) 28 (fun t => [(93, (.bool t)), (0, (.slice A_p0 p0.length c_p0)), (2, (.bool p2)), (4, (.pointer (some ⟨g4824, 0, none⟩))), (7, (.int .i64 x4953)), (8, (.pointer (some ⟨g4962, 0, none⟩)))]) (fun t => t = ((((((decide ((rdD p0 x4953 z_Tile).N < 0)) || (decide ((rdD p0 x4953 z_Tile).E < 0))) || (decide ((rdD p0 x4953 z_Tile).S < 0))) || (decide ((rdD p0 x4953 z_Tile).W < 0))) || (decide ((rdD p0 x4953 z_Tile).N ≥ 1000))) || (decide ((rdD p0 x4953 z_Tile).E ≥ 1000)))) (fun K => ?_) ?_
        ·
          rcases Bool.eq_false_or_eq_true (((((decide ((rdD p0 x4953 z_Tile).N < 0)) || (decide ((rdD p0 x4953 z_Tile).E < 0))) || (decide ((rdD p0 x4953 z_Tile).S < 0))) || (decide ((rdD p0 x4953 z_Tile).W < 0))) || (decide ((rdD p0 x4953 z_Tile).N ≥ 1000))) with h4976 | h4976
          ·
            refine WL.setB 89 h4976 rfl ?_
            refine seg 28 [] [0, 2, 4, 7, 8, 93] [(0, (.slice A_p0 p0.length c_p0)), (2, (.bool p2)), (4, (.pointer (some ⟨g4824, 0, none⟩))), (7, (.int .i64 x4953)), (8, (.pointer (some ⟨g4962, 0, none⟩))), (93, (.bool true))] [] (fun fb => by kernel_rfl) rfl trivial ?_
            exact WL.toV K true [93, 0, 2, 4, 7, 8] rfl (by rw [h4976]; rfl)
          refine WL.setB 89 h4976 rfl ?_
          refine seg 28 [.v (.int .i64 ((rdD p0 x4953 z_Tile).E))] [0, 2, 4, 7, 8, 93] [(0, (.slice A_p0 p0.length c_p0)), (2, (.bool p2)), (4, (.pointer (some ⟨g4824, 0, none⟩))), (7, (.int .i64 x4953)), (8, (.pointer (some ⟨g4962, 0, none⟩))), (93, (.bool (decide ((rdD p0 x4953 z_Tile).E ≥ 1000))))] [.cell ⟨g4962, 1, none⟩ (.int .i64 ((rdD p0 x4953 z_Tile).E))] (fun fb => by kernel_rfl) rfl ⟨hS4967.cell 0 rfl 1 rfl, trivial⟩ ?_
          exact WL.toV K (decide ((rdD p0 x4953 z_Tile).E ≥ 1000)) [93, 0, 2, 4, 7, 8] rfl (by rw [h4976]; rfl)
        rintro b4977 rfl
        refine seg 29 [] [0, 2, 4, 7, 8, 94] [(0, (.slice A_p0 p0.length c_p0)), (2, (.bool p2)), (4, (.pointer (some ⟨g4824, 0, none⟩))), (7, (.int .i64 x4953)), (8, (.pointer (some ⟨g4962, 0, none⟩))), (94, (.bool ((((((decide ((rdD p0 x4953 z_Tile).N < 0)) || (decide ((rdD p0 x4953 z_Tile).E < 0))) || (decide ((rdD p0 x4953 z_Tile).S < 0))) || (decide ((rdD p0 x4953 z_Tile).W < 0))) || (decide ((rdD p0 x4953 z_Tile).N ≥ 1000))) || (decide ((rdD p0 x4953 z_Tile).E ≥ 1000)))))] [] (fun fb => by kernel_rfl) rfl trivial ?_
        refine WL.cutV (T := Bool) 33 (fun t => [(98, (.bool t)), (0, (.slice A_p0 p0.length c_p0)), (2, (.bool p2)), (4, (.pointer (some ⟨g4824, 0, none⟩))), (7, (.int .i64 x4953)), (8, (.pointer (some ⟨g4962, 0, none⟩)))]) (fun t => t = (((((((decide ((rdD p0 x4953 z_Tile).N < 0)) || (decide ((rdD p0 x4953 z_Tile).E < 0))) || (decide ((rdD p0 x4953 z_Tile).S < 0))) || (decide ((rdD p0 x4953 z_Tile).W < 0))) || (decide ((rdD p0 x4953 z_Tile).N ≥ 1000))) || (decide ((rdD p0 x4953 z_Tile).E ≥ 1000))) || (decide ((rdD p0 x4953 z_Tile).S ≥ 1000)))) (fun K => ?_) ?_
        ·
          rcases Bool.eq_false_or_eq_true ((((((decide ((rdD p0 x4953 z_Tile).N < 0)) || (decide ((rdD p0 x4953 z_Tile).E < 0))) || (decide ((rdD p0 x4953 z_Tile).S < 0))) || (decide ((rdD p0 x4953 z_Tile).W < 0))) || (decide ((rdD p0 x4953 z_Tile).N ≥ 1000))) || (decide ((rdD p0 x4953 z_Tile).E ≥ 1000))) with h4978 | h4978
          ·
            refine WL.setB 94 h4978 rfl ?_
            refine seg 33 [] [0, 2, 4, 7, 8, 98] [(0, (.slice A_p0 p0.length c_p0)), (2, (.bool p2)), (4, (.pointer (some ⟨g4824, 0, none⟩))), (7, (.int .i64 x4953)), (8, (.pointer (some ⟨g4962, 0, none⟩))), (98, (.bool true))] [] (fun fb => by kernel_rfl) rfl trivial ?_
            exact WL.toV K true [98, 0, 2, 4, 7, 8] rfl (by rw [h4978]; rfl)
          refine WL.setB 94 h4978 rfl ?_
          refine seg 33 [.v (.int .i64 ((rdD p0 x4953 z_Tile).S))] [0, 2, 4, 7, 8, 98] [(0, (.slice A_p0 p0.length c_p0)), (2, (.bool p2)), (4, (.pointer (some ⟨g4824, 0, none⟩))), (7, (.int .i64 x4953)), (8, (.pointer (some ⟨g4962, 0, none⟩))), (98, (.bool (decide ((rdD p0 x4953 z_Tile).S ≥ 1000))))] [.cell ⟨g4962, 2, none⟩ (.int .i64 ((rdD p0 x4953 z_Tile).S))] (fun fb => by kernel_rfl) rfl ⟨hS4967.cell 0 rfl 2 rfl, trivial⟩ ?_
          exact WL.toV K (decide ((rdD p0 x4953 z_Tile).S ≥ 1000)) [98, 0, 2, 4, 7, 8] rfl (by rw [h4978]; rfl)
        rintro b4979 rfl
        refine seg 34 [] [0, 2, 4, 7, 8, 99] [(0, (.slice A_p0 p0.length c_p0)), (2, (.bool p2)), (4, (.pointer (some ⟨g4824, 0, none⟩))), (7, (.int .i64 x4953)), (8, (.pointer (some ⟨g4962, 0, none⟩))), (99, (.bool (((((((decide ((rdD p0 x4953 z_Tile).N < 0)) || (decide ((rdD p0 x4953 z_Tile).E < 0))) || (decide ((rdD p0 x4953 z_Tile).S < 0))) || (decide ((rdD p0 x4953 z_Tile).W < 0))) || (decide ((rdD p0 x4953 z_Tile).N ≥ 1000))) || (decide ((rdD p0 x4953 z_Tile).E ≥ 1000))) || (decide ((rdD p0 x4953 z_Tile).S ≥ 1000)))))] [] (fun fb => by kernel_rfl) rfl trivial ?_
        refine WL.cutV (T := Bool) 38 (fun t => [(103, (.bool t)), (0, (.slice A_p0 p0.length c_p0)), (2, (.bool p2)), (4, (.pointer (some ⟨g4824, 0, none⟩))), (7, (.int .i64 x4953)), (8, (.pointer (some ⟨g4962, 0, none⟩)))]) (fun t => t = ((((((((decide ((rdD p0 x4953 z_Tile).N < 0)) || (decide ((rdD p0 x4953 z_Tile).E < 0))) || (decide ((rdD p0 x4953 z_Tile).S < 0))) || (decide ((rdD p0 x4953 z_Tile).W < 0))) || (decide ((rdD p0 x4953 z_Tile).N ≥ 1000))) || (decide ((rdD p0 x4953 z_Tile).E ≥ 1000))) || (decide ((rdD p0 x4953 z_Tile).S ≥ 1000))) || (decide ((rdD p0 x4953 z_Tile).W ≥ 1000)))) (fun K => ?_) ?_
        ·
          rcases Bool.eq_false_or_eq_true (((((((decide ((rdD p0 x4953 z_Tile).N < 0)) || (decide ((rdD p0 x4953 z_Tile).E < 0))) || (decide ((rdD p0 x4953 z_Tile).S < 0))) || (decide ((rdD p0 x4953 z_Tile).W < 0))) || (decide ((rdD p0 x4953 z_Tile).N ≥ 1000))) || (decide ((rdD p0 x4953 z_Tile).E ≥ 1000))) || (decide ((rdD p0 x4953 z_Tile).S ≥ 1000))) with h4980 | h4980
          ·
            refine WL.setB 99 h4980 rfl ?_
            refine seg 38 [] [0, 2, 4, 7, 8, 103] [(0, (.slice A_p0 p0.length c_p0)), (2, (.bool p2)), (4, (.pointer (some ⟨g4824, 0, none⟩))), (7, (.int .i64 x4953)), (8, (.pointer (some ⟨g4962, 0, none⟩))), (103, (.bool true))] [] (fun fb => by kernel_rfl) rfl trivial ?_
            exact WL.toV K true [103, 0, 2, 4, 7, 8] rfl (by rw [h4980]; rfl)
          refine WL.setB 99 h4980 rfl ?_
          refine seg 38 [.v (.int .i64 ((rdD p0 x4953 z_Tile).W))] [0, 2, 4, 7, 8, 103] [(0, (.slice A_p0 p0.length c_p0)), (2, (.bool p2)), (4, (.pointer (some ⟨g4824, 0, none⟩))), (7, (.int .i64 x4953)), (8, (.pointer (some ⟨g4962, 0, none⟩))), (103, (.bool (decide ((rdD p0 x4953 z_Tile).W ≥ 1000))))] [.cell ⟨g4962, 3, none⟩ (.int .i64 ((rdD p0 x4953 z_Tile).W))] (fun fb => by kernel_rfl) rfl ⟨hS4967.cell 0 rfl 3 rfl, trivial⟩ ?_
          exact WL.toV K (decide ((rdD p0 x4953 z_Tile).W ≥ 1000)) [103, 0, 2, 4, 7, 8] rfl (by rw [h4980]; rfl)
        rintro b4981 rfl
        refine WL.done rfl ?_
        refine WX.next ?_
        rcases br_some hl4959 with ⟨h4982, hl4959⟩ | ⟨h4982, hl4959⟩
        · refine WC.condT2 (fun fb => by kernel_rfl) h4982 ?_
          refine WC.seq ?_
          refine WC.region ?_
          refine seg 1 [] [6] [(6, (.bool false))] [] (fun fb => by kernel_rfl) rfl trivial ?_
          refine WL.done rfl ?_
          refine WX.next ?_
          refine WC.ret ?_
          injection hl4959 with hl4959
          subst hl4959
          injection hf with hf
          subst hf
          exact WX.thenR (WX.blockR (WX.thenR (WX.thenR (WX.blockR (WX.thenR (WX.ret_ [] (.bool false) [] (fun fb => by kernel_rfl) trivial ⟨_, rfl, rfl, hS4967.keep⟩))))))
        refine WC.condF2 (fun fb => by kernel_rfl) h4982 ?_
        refine WC.skip ?_
        refine WX.next ?_
        refine WC.seq ?_
        refine WC.region ?_
        refine seg 1 [] [0, 2, 4, 7, 8, 9] [(0, (.slice A_p0 p0.length c_p0)), (2, (.bool p2)), (4, (.pointer (some ⟨g4824, 0, none⟩))), (7, (.int .i64 x4953)), (8, (.pointer (some ⟨g4962, 0, none⟩))), (9, (.int .i64 0))] [] (fun fb => by kernel_rfl) rfl trivial ?_
        refine WL.done rfl ?_
        refine WX.next ?_
        obtain ⟨x4999, hx5000, hl4959⟩ := bind_some hl4959
        refine WC.cutN (T := Unit) (fun t => [(0, (.slice A_p0 p0.length c_p0)), (2, (.bool p2)), (4, (.pointer (some ⟨g4824, 0, none⟩))), (7, (.int .i64 x4953))]) (fun t w1 => St NoS w w1 [rowR enc_Tile A_p0 c_p0 p0, rowR encInt A_p1_Cells c_p1_Cells p1.Cells] [blk g4824 (.cells #[(.int .i64 p1.Width), (.int .i64 p1.Height), (.slice A_p1_Cells p1.Cells.length c_p1_Cells)] 31 (0, 0))] ∧ x4999 = .inr t) (fun Kx4999 => ?_) ?_
        ·
          refine WC.block ?_
          refine WC.loop (T := Int) (fun t => [(0, (.slice A_p0 p0.length c_p0)), (2, (.bool p2)), (4, (.pointer (some ⟨g4824, 0, none⟩))), (7, (.int .i64 x4953)), (8, (.pointer (some ⟨g4962, 0, none⟩))), (9, (.int .i64 t))]) (fun n t w1 => St NoS w w1 [rowR enc_Tile A_p0 c_p0 p0, rowR encInt A_p1_Cells c_p1_Cells p1.Cells] [blk g4824 (.cells #[(.int .i64 p1.Width), (.int .i64 p1.Height), (.slice A_p1_Cells p1.Cells.length c_p1_Cells)] 31 (0, 0)), blk g4962 (.cells #[(.int .i64 ((rdD p0 x4953 z_Tile).N)), (.int .i64 ((rdD p0 x4953 z_Tile).E)), (.int .i64 ((rdD p0 x4953 z_Tile).S)), (.int .i64 ((rdD p0 x4953 z_Tile).W))] 65 (0, 0))] ∧ top_of.l1 n t p0 x4953 = some x4999) k4956 0 [0, 2, 4, 7, 8, 9] rfl ⟨(hS4967.subR [0, 1]).sub [1, 0] (by decide), hx5000⟩ ?_
          rintro k5001 x4998 w5002 ⟨hS5003, hl5004⟩
          cases k5001 with
          | zero => rw [top_of.l1] at hl5004; cases hl5004
          | succ k5001 =>
            rw [top_of.l1] at hl5004
            refine WC.seq ?_
            refine WC.seq ?_
            refine WC.region ?_
            refine seg 3 [] [0, 2, 4, 7, 8, 9, 106] [(0, (.slice A_p0 p0.length c_p0)), (2, (.bool p2)), (4, (.pointer (some ⟨g4824, 0, none⟩))), (7, (.int .i64 x4953)), (8, (.pointer (some ⟨g4962, 0, none⟩))), (9, (.int .i64 x4998)), (106, (.bool (decide (x4998 < x4953))))] [] (fun fb => by kernel_rfl) rfl trivial ?_
            refine WL.done rfl ?_
            refine WX.next ?_
            rcases br_some hl5004 with ⟨h5005, hl5004⟩ | ⟨h5005, hl5004⟩
            · refine WC.condT2 (fun fb => by kernel_rfl) h5005 ?_
              refine WC.skip ?_
              refine WX.next ?_
              refine WC.seq ?_
              refine WC.block ?_
              refine WC.seq ?_
              obtain ⟨h5010, hl5004⟩ := as_some hl5004
              refine WC.regionD ([(3, ((adr A_p0).add ((x4998).toNat * 4)), (.int .i64 ((rdD p0 x4998 z_Tile).N))), (3, (((adr A_p0).add ((x4998).toNat * 4)).add 1), (.int .i64 ((rdD p0 x4998 z_Tile).E))), (3, (((adr A_p0).add ((x4998).toNat * 4)).add 2), (.int .i64 ((rdD p0 x4998 z_Tile).S))), (3, (((adr A_p0).add ((x4998).toNat * 4)).add 3), (.int .i64 ((rdD p0 x4998 z_Tile).W))), (4, ⟨g4962, 0, none⟩, (.int .i64 ((rdD p0 x4953 z_Tile).N))), (4, ⟨g4962, 1, none⟩, (.int .i64 ((rdD p0 x4953 z_Tile).E))), (4, ⟨g4962, 2, none⟩, (.int .i64 ((rdD p0 x4953 z_Tile).S))), (4, ⟨g4962, 3, none⟩, (.int .i64 ((rdD p0 x4953 z_Tile).W)))], [0, 1, 2, 3, 4, 5], [[], [], [0, 1], [0, 1, 2], [], [0, 1, 2, 3, 4]]) [[0, 1, 2, 3, 4, 5]] (by kernel_rfl) (by kernel_rfl) (NoPanic.seq (NoPanic.block (NoPanic.seq (NoPanic.seq (NoPanic.block (NoPanic.block (NoPanic.seq (NoPanic.seq (NoPanic.block (NoPanic.seq (NoPanic.body))))))))))) ?_
              have hS5008 := hS5003.drew
              revert hS5008
              generalize World.drew w5002 = w5007
              intro hS5008
              refine ⟨⟨rowR.cell (hS5008.rd 0).1 z_Tile h5010.1 h5010.2 0 rfl, rowR.cell (hS5008.rd 0).1 z_Tile h5010.1 h5010.2 1 rfl, rowR.cell (hS5008.rd 0).1 z_Tile h5010.1 h5010.2 2 rfl, rowR.cell (hS5008.rd 0).1 z_Tile h5010.1 h5010.2 3 rfl, hS5008.cell 1 rfl 0 rfl, hS5008.cell 1 rfl 1 rfl, hS5008.cell 1 rfl 2 rfl, hS5008.cell 1 rfl 3 rfl, trivial⟩, forallC ?_ (forallN)⟩
              refine segF 6 [.v (.int .i64 ((rdD p0 x4998 z_Tile).N)), .v (.int .i64 ((rdD p0 x4998 z_Tile).E)), .v (.int .i64 ((rdD p0 x4998 z_Tile).S)), .v (.int .i64 ((rdD p0 x4998 z_Tile).W)), .v (.int .i64 ((rdD p0 x4953 z_Tile).N)), .v (.int .i64 ((rdD p0 x4953 z_Tile).E)), .v (.int .i64 ((rdD p0 x4953 z_Tile).S)), .v (.int .i64 ((rdD p0 x4953 z_Tile).W))] [0, 2, 4, 7, 8, 9, 114] [(0, (.slice A_p0 p0.length c_p0)), (2, (.bool p2)), (4, (.pointer (some ⟨g4824, 0, none⟩))), (7, (.int .i64 x4953)), (8, (.pointer (some ⟨g4962, 0, none⟩))), (9, (.int .i64 x4998)), (114, (.bool (((rdD p0 x4998 z_Tile).N) == ((rdD p0 x4953 z_Tile).N) && (((rdD p0 x4998 z_Tile).E) == ((rdD p0 x4953 z_Tile).E) && (((rdD p0 x4998 z_Tile).S) == ((rdD p0 x4953 z_Tile).S) && (((rdD p0 x4998 z_Tile).W) == ((rdD p0 x4953 z_Tile).W)))))))] [.idx A_p0 x4998 p0.length] [0, 1, 2, 3, 4, 5, 6, 7] [(3, ((adr A_p0).add ((x4998).toNat * 4)), (.int .i64 ((rdD p0 x4998 z_Tile).N))), (3, (((adr A_p0).add ((x4998).toNat * 4)).add 1), (.int .i64 ((rdD p0 x4998 z_Tile).E))), (3, (((adr A_p0).add ((x4998).toNat * 4)).add 2), (.int .i64 ((rdD p0 x4998 z_Tile).S))), (3, (((adr A_p0).add ((x4998).toNat * 4)).add 3), (.int .i64 ((rdD p0 x4998 z_Tile).W))), (4, ⟨g4962, 0, none⟩, (.int .i64 ((rdD p0 x4953 z_Tile).N))), (4, ⟨g4962, 1, none⟩, (.int .i64 ((rdD p0 x4953 z_Tile).E))), (4, ⟨g4962, 2, none⟩, (.int .i64 ((rdD p0 x4953 z_Tile).S))), (4, ⟨g4962, 3, none⟩, (.int .i64 ((rdD p0 x4953 z_Tile).W)))] (fun fb => by kernel_rfl) rfl ⟨rowR.adr (hS5008.rd 0).1 h5010.1 h5010.2, trivial⟩ rfl ?_
              refine WL.done rfl ?_
              refine WX.next ?_
              rcases br_some hl5004 with ⟨h5011, hl5004⟩ | ⟨h5011, hl5004⟩
              · refine WC.condT2 (fun fb => by kernel_rfl) h5011 ?_
                refine WC.seq ?_
                refine WC.region ?_
                refine seg 1 [] [6] [(6, (.bool false))] [] (fun fb => by kernel_rfl) rfl trivial ?_
                refine WL.done rfl ?_
                refine WX.next ?_
                refine WC.ret ?_
                injection hl5004 with hl5004
                subst hl5004
                injection hl4959 with hl4959
                subst hl4959
                injection hf with hf
                subst hf
                exact WX.blockR (WX.thenR (WX.thenR (WX.blockR (WX.blockR (WX.thenR (WX.thenR (WX.blockR (WX.thenR (WX.ret_ [] (.bool false) [] (fun fb => by kernel_rfl) trivial ⟨_, rfl, rfl, hS5008.keep⟩)))))))))
              refine WC.condF2 (fun fb => by kernel_rfl) h5011 ?_
              refine WC.skip ?_
              refine WX.blockN (WX.next ?_)
              refine WC.region ?_
              refine seg 3 [] [0, 2, 4, 7, 8, 9] [(0, (.slice A_p0 p0.length c_p0)), (2, (.bool p2)), (4, (.pointer (some ⟨g4824, 0, none⟩))), (7, (.int .i64 x4953)), (8, (.pointer (some ⟨g4962, 0, none⟩))), (9, (.int .i64 (w64 (x4998 + 1))))] [] (fun fb => by kernel_rfl) rfl trivial ?_
              refine WL.done rfl ?_
              exact WX.again k5001 (Nat.lt_succ_self _) (w64 (x4998 + 1)) [0, 2, 4, 7, 8, 9] rfl ⟨(hS5008.subR [0, 1]).sub [0, 1] (by decide), hl5004⟩
            refine WC.condF2 (fun fb => by kernel_rfl) h5005 ?_
            refine WC.exit ?_
            injection hl5004 with hl5004
            exact WX.thenX (WX.thenX (WX.blockHere (WX.to Kx4999 () [0, 2, 4, 7] rfl ⟨(hS5003.subR [0, 1]).sub [0] (by decide), hl5004.symm⟩)))
        rintro y5015 w5012 ⟨hS5013, hq5014⟩
        subst hq5014
        have hl4959 := sum_inr hl4959
        refine WX.blockN (WX.next ?_)
        refine WC.region ?_
        refine seg 3 [] [0, 2, 4, 7] [(0, (.slice A_p0 p0.length c_p0)), (2, (.bool p2)), (4, (.pointer (some ⟨g4824, 0, none⟩))), (7, (.int .i64 (w64 (x4953 + 1))))] [] (fun fb => by kernel_rfl) rfl trivial ?_
        refine WL.done rfl ?_
        exact WX.again k4956 (Nat.lt_succ_self _) (w64 (x4953 + 1)) [0, 2, 4, 7] rfl ⟨(hS5013.subR [0, 1]).sub [0] (by decide), hl4959⟩
      refine WC.condF2 (fun fb => by kernel_rfl) h4960 ?_
      refine WC.exit ?_
      injection hl4959 with hl4959
      exact WX.thenX (WX.thenX (WX.blockHere (WX.to Kx4954 () [0, 2, 4] rfl ⟨(hS4958.subR [0, 1]).sub [0] (by decide), hl4959.symm⟩)))
  rintro y5020 w5017 ⟨hS5018, hq5019⟩
  subst hq5019
  have hf := sum_inr hf
  refine WX.next ?_
  refine WC.seq ?_
  refine WC.seq ?_
  refine WC.region ?_
  refine seg 1 [] [0, 2, 4, 10] [(0, (.slice A_p0 p0.length c_p0)), (2, (.bool p2)), (4, (.pointer (some ⟨g4824, 0, none⟩))), (10, (.int .i64 0))] [] (fun fb => by kernel_rfl) rfl trivial ?_
  refine WL.done rfl ?_
  refine WX.next ?_
  obtain ⟨x5034, hx5035, hf⟩ := bind_some hf
  refine WC.cutN (T := Unit) (fun t => [(0, (.slice A_p0 p0.length c_p0)), (2, (.bool p2)), (4, (.pointer (some ⟨g4824, 0, none⟩)))]) (fun t w1 => St NoS w w1 [rowR enc_Tile A_p0 c_p0 p0, rowR encInt A_p1_Cells c_p1_Cells p1.Cells] [blk g4824 (.cells #[(.int .i64 p1.Width), (.int .i64 p1.Height), (.slice A_p1_Cells p1.Cells.length c_p1_Cells)] 31 (0, 0))] ∧ x5034 = .inr t) (fun Kx5034 => ?_) ?_
  ·
    refine WC.block ?_
    refine WC.loop (T := Int) (fun t => [(0, (.slice A_p0 p0.length c_p0)), (2, (.bool p2)), (4, (.pointer (some ⟨g4824, 0, none⟩))), (10, (.int .i64 t))]) (fun n t w1 => St NoS w w1 [rowR enc_Tile A_p0 c_p0 p0, rowR encInt A_p1_Cells c_p1_Cells p1.Cells] [blk g4824 (.cells #[(.int .i64 p1.Width), (.int .i64 p1.Height), (.slice A_p1_Cells p1.Cells.length c_p1_Cells)] 31 (0, 0))] ∧ top_of.l2 n t p0 p1 = some x5034) k 0 [0, 2, 4, 10] rfl ⟨(hS5018.subR [0, 1]).sub [0] (by decide), hx5035⟩ ?_
    rintro k5036 x5033 w5037 ⟨hS5038, hl5039⟩
    cases k5036 with
    | zero => rw [top_of.l2] at hl5039; cases hl5039
    | succ k5036 =>
      rw [top_of.l2] at hl5039
      refine WC.seq ?_
      refine WC.seq ?_
      refine WC.region ?_
      refine seg 5 [.v (.slice A_p1_Cells p1.Cells.length c_p1_Cells)] [0, 2, 4, 10, 119] [(0, (.slice A_p0 p0.length c_p0)), (2, (.bool p2)), (4, (.pointer (some ⟨g4824, 0, none⟩))), (10, (.int .i64 x5033)), (119, (.bool (decide (x5033 < (p1.Cells.length : Int)))))] [.cell ⟨g4824, 2, none⟩ (.slice A_p1_Cells p1.Cells.length c_p1_Cells)] (fun fb => by kernel_rfl) rfl ⟨hS5038.cell 0 rfl 2 rfl, trivial⟩ ?_
      refine WL.done rfl ?_
      refine WX.next ?_
      rcases br_some hl5039 with ⟨h5040, hl5039⟩ | ⟨h5040, hl5039⟩
      · refine WC.condT2 (fun fb => by kernel_rfl) h5040 ?_
        refine WC.skip ?_
        refine WX.next ?_
        refine WC.seq ?_
        refine WC.block ?_
        refine WC.seq ?_
        refine WC.region ?_
        refine seg 3 [.v (.slice A_p1_Cells p1.Cells.length c_p1_Cells)] [0, 2, 4, 10, 123, 124] [(0, (.slice A_p0 p0.length c_p0)), (2, (.bool p2)), (4, (.pointer (some ⟨g4824, 0, none⟩))), (10, (.int .i64 x5033)), (123, (.slice A_p1_Cells p1.Cells.length c_p1_Cells)), (124, (.int .i64 x5033))] [.cell ⟨g4824, 2, none⟩ (.slice A_p1_Cells p1.Cells.length c_p1_Cells)] (fun fb => by kernel_rfl) rfl ⟨hS5038.cell 0 rfl 2 rfl, trivial⟩ ?_
        obtain ⟨h5041, hl5039⟩ := as_some hl5039
        refine seg 7 [.v (.int .i64 (rdD p1.Cells x5033 0))] [0, 2, 4, 10, 128] [(0, (.slice A_p0 p0.length c_p0)), (2, (.bool p2)), (4, (.pointer (some ⟨g4824, 0, none⟩))), (10, (.int .i64 x5033)), (128, (.bool (decide ((rdD p1.Cells x5033 0) < 0))))] [.idx A_p1_Cells x5033 p1.Cells.length, .cell ((adr A_p1_Cells).add ((x5033).toNat * 1)) (.int .i64 (rdD p1.Cells x5033 0))] (fun fb => by kernel_rfl) rfl ⟨rowR.adr (hS5038.rd 1).1 h5041.1 h5041.2, rowR.cell (hS5038.rd 1).1 0 h5041.1 h5041.2 0 rfl, trivial⟩ ?_
        refine WL.cutV (T := Bool) 16 (fun t => [(137, (.bool t)), (0, (.slice A_p0 p0.length c_p0)), (2, (.bool p2)), (4, (.pointer (some ⟨g4824, 0, none⟩))), (10, (.int .i64 x5033))]) (fun t => t = ((decide ((rdD p1.Cells x5033 0) < 0)) || (decide ((rdD p1.Cells x5033 0) ≥ (p0.length : Int))))) (fun K => ?_) ?_
        ·
          rcases Bool.eq_false_or_eq_true (decide ((rdD p1.Cells x5033 0) < 0)) with h5042 | h5042
          ·
            refine WL.setB 128 h5042 rfl ?_
            refine seg 16 [] [0, 2, 4, 10, 137] [(0, (.slice A_p0 p0.length c_p0)), (2, (.bool p2)), (4, (.pointer (some ⟨g4824, 0, none⟩))), (10, (.int .i64 x5033)), (137, (.bool true))] [] (fun fb => by kernel_rfl) rfl trivial ?_
            exact WL.toV K true [137, 0, 2, 4, 10] rfl (by rw [h5042]; rfl)
          refine WL.setB 128 h5042 rfl ?_
          refine seg 16 [.v (.slice A_p1_Cells p1.Cells.length c_p1_Cells), .v (.int .i64 (rdD p1.Cells x5033 0))] [0, 2, 4, 10, 137] [(0, (.slice A_p0 p0.length c_p0)), (2, (.bool p2)), (4, (.pointer (some ⟨g4824, 0, none⟩))), (10, (.int .i64 x5033)), (137, (.bool (decide ((rdD p1.Cells x5033 0) ≥ (p0.length : Int)))))] [.cell ⟨g4824, 2, none⟩ (.slice A_p1_Cells p1.Cells.length c_p1_Cells), .idx A_p1_Cells x5033 p1.Cells.length, .cell ((adr A_p1_Cells).add ((x5033).toNat * 1)) (.int .i64 (rdD p1.Cells x5033 0))] (fun fb => by kernel_rfl) rfl ⟨hS5038.cell 0 rfl 2 rfl, rowR.adr (hS5038.rd 1).1 h5041.1 h5041.2, rowR.cell (hS5038.rd 1).1 0 h5041.1 h5041.2 0 rfl, trivial⟩ ?_
          exact WL.toV K (decide ((rdD p1.Cells x5033 0) ≥ (p0.length : Int))) [137, 0, 2, 4, 10] rfl (by rw [h5042]; rfl)
        rintro b5043 rfl
        refine WL.done rfl ?_
        refine WX.next ?_
        rcases br_some hl5039 with ⟨h5044, hl5039⟩ | ⟨h5044, hl5039⟩
        · refine WC.condT2 (fun fb => by kernel_rfl) h5044 ?_
          refine WC.seq ?_
          refine WC.region ?_
          refine seg 1 [] [6] [(6, (.bool false))] [] (fun fb => by kernel_rfl) rfl trivial ?_
          refine WL.done rfl ?_
          refine WX.next ?_
          refine WC.ret ?_
          injection hl5039 with hl5039
          subst hl5039
          injection hf with hf
          subst hf
          exact WX.blockR (WX.thenR (WX.thenR (WX.blockR (WX.thenR (WX.ret_ [] (.bool false) [] (fun fb => by kernel_rfl) trivial ⟨_, rfl, rfl, hS5038.keep⟩)))))
        refine WC.condF2 (fun fb => by kernel_rfl) h5044 ?_
        refine WC.skip ?_
        refine WX.blockN (WX.next ?_)
        refine WC.region ?_
        refine seg 3 [] [0, 2, 4, 10] [(0, (.slice A_p0 p0.length c_p0)), (2, (.bool p2)), (4, (.pointer (some ⟨g4824, 0, none⟩))), (10, (.int .i64 (w64 (x5033 + 1))))] [] (fun fb => by kernel_rfl) rfl trivial ?_
        refine WL.done rfl ?_
        exact WX.again k5036 (Nat.lt_succ_self _) (w64 (x5033 + 1)) [0, 2, 4, 10] rfl ⟨(hS5038.subR [0, 1]).sub [0] (by decide), hl5039⟩
      refine WC.condF2 (fun fb => by kernel_rfl) h5040 ?_
      refine WC.exit ?_
      injection hl5039 with hl5039
      exact WX.thenX (WX.thenX (WX.blockHere (WX.to Kx5034 () [0, 2, 4] rfl ⟨(hS5038.subR [0, 1]).sub [0] (by decide), hl5039.symm⟩)))
  rintro y5048 w5045 ⟨hS5046, hq5047⟩
  subst hq5047
  have hf := sum_inr hf
  refine WX.next ?_
  refine WC.seq ?_
  refine WC.seq ?_
  refine WC.region ?_
  refine seg 1 [] [0, 2, 4, 11] [(0, (.slice A_p0 p0.length c_p0)), (2, (.bool p2)), (4, (.pointer (some ⟨g4824, 0, none⟩))), (11, (.int .i64 0))] [] (fun fb => by kernel_rfl) rfl trivial ?_
  refine WL.done rfl ?_
  refine WX.next ?_
  obtain ⟨x5854, hx5855, hf⟩ := bind_some hf
  refine WC.cutN (T := Unit) (fun t => []) (fun t w1 => St NoS w w1 [rowR enc_Tile A_p0 c_p0 p0, rowR encInt A_p1_Cells c_p1_Cells p1.Cells] [] ∧ x5854 = .inr t) (fun Kx5854 => ?_) ?_
  ·
    refine WC.block ?_
    refine WC.loop (T := Int) (fun t => [(0, (.slice A_p0 p0.length c_p0)), (2, (.bool p2)), (4, (.pointer (some ⟨g4824, 0, none⟩))), (11, (.int .i64 t))]) (fun n t w1 => St NoS w w1 [rowR enc_Tile A_p0 c_p0 p0, rowR encInt A_p1_Cells c_p1_Cells p1.Cells] [blk g4824 (.cells #[(.int .i64 p1.Width), (.int .i64 p1.Height), (.slice A_p1_Cells p1.Cells.length c_p1_Cells)] 31 (0, 0))] ∧ top_of.l3 n t p0 p1 p2 = some x5854) k 0 [0, 2, 4, 11] rfl ⟨(hS5046.subR [0, 1]).sub [0] (by decide), hx5855⟩ ?_
    rintro k5856 x5853 w5857 ⟨hS5858, hl5859⟩
    cases k5856 with
    | zero => rw [top_of.l3] at hl5859; cases hl5859
    | succ k5856 =>
      rw [top_of.l3] at hl5859
      refine WC.seq ?_
      refine WC.seq ?_
      refine WC.region ?_
      refine seg 4 [.v (.int .i64 p1.Height)] [0, 2, 4, 11, 141] [(0, (.slice A_p0 p0.length c_p0)), (2, (.bool p2)), (4, (.pointer (some ⟨g4824, 0, none⟩))), (11, (.int .i64 x5853)), (141, (.bool (decide (x5853 < p1.Height))))] [.cell ⟨g4824, 1, none⟩ (.int .i64 p1.Height)] (fun fb => by kernel_rfl) rfl ⟨hS5858.cell 0 rfl 1 rfl, trivial⟩ ?_
      refine WL.done rfl ?_
      refine WX.next ?_
      rcases br_some hl5859 with ⟨h5860, hl5859⟩ | ⟨h5860, hl5859⟩
      · refine WC.condT2 (fun fb => by kernel_rfl) h5860 ?_
        refine WC.skip ?_
        refine WX.next ?_
        refine WC.seq ?_
        refine WC.block ?_
        refine WC.seq ?_
        refine WC.region ?_
        refine seg 1 [] [0, 2, 4, 11, 12] [(0, (.slice A_p0 p0.length c_p0)), (2, (.bool p2)), (4, (.pointer (some ⟨g4824, 0, none⟩))), (11, (.int .i64 x5853)), (12, (.int .i64 0))] [] (fun fb => by kernel_rfl) rfl trivial ?_
        refine WL.done rfl ?_
        refine WX.next ?_
        obtain ⟨x6121, hx6122, hl5859⟩ := bind_some hl5859
        refine WC.cutN (T := Unit) (fun t => [(0, (.slice A_p0 p0.length c_p0)), (2, (.bool p2)), (4, (.pointer (some ⟨g4824, 0, none⟩))), (11, (.int .i64 x5853))]) (fun t w1 => St NoS w w1 [rowR enc_Tile A_p0 c_p0 p0, rowR encInt A_p1_Cells c_p1_Cells p1.Cells] [blk g4824 (.cells #[(.int .i64 p1.Width), (.int .i64 p1.Height), (.slice A_p1_Cells p1.Cells.length c_p1_Cells)] 31 (0, 0))] ∧ x6121 = .inr t) (fun Kx6121 => ?_) ?_
        ·
          refine WC.block ?_
          refine WC.loop (T := Int) (fun t => [(0, (.slice A_p0 p0.length c_p0)), (2, (.bool p2)), (4, (.pointer (some ⟨g4824, 0, none⟩))), (11, (.int .i64 x5853)), (12, (.int .i64 t))]) (fun n t w1 => St NoS w w1 [rowR enc_Tile A_p0 c_p0 p0, rowR encInt A_p1_Cells c_p1_Cells p1.Cells] [blk g4824 (.cells #[(.int .i64 p1.Width), (.int .i64 p1.Height), (.slice A_p1_Cells p1.Cells.length c_p1_Cells)] 31 (0, 0))] ∧ top_of.l4 n t p0 p1 p2 x5853 = some x6121) k5856 0 [0, 2, 4, 11, 12] rfl ⟨(hS5858.subR [0, 1]).sub [0] (by decide), hx6122⟩ ?_
          rintro k6123 x6120 w6124 ⟨hS6125, hl6126⟩
          cases k6123 with
          | zero => rw [top_of.l4] at hl6126; cases hl6126
          | succ k6123 =>
            rw [top_of.l4] at hl6126
            refine WC.seq ?_
            refine WC.seq ?_
            refine WC.region ?_
            refine seg 4 [.v (.int .i64 p1.Width)] [0, 2, 4, 11, 12, 147] [(0, (.slice A_p0 p0.length c_p0)), (2, (.bool p2)), (4, (.pointer (some ⟨g4824, 0, none⟩))), (11, (.int .i64 x5853)), (12, (.int .i64 x6120)), (147, (.bool (decide (x6120 < p1.Width))))] [.cell ⟨g4824, 0, none⟩ (.int .i64 p1.Width)] (fun fb => by kernel_rfl) rfl ⟨hS6125.cell 0 rfl 0 rfl, trivial⟩ ?_
            refine WL.done rfl ?_
            refine WX.next ?_
            rcases br_some hl6126 with ⟨h6127, hl6126⟩ | ⟨h6127, hl6126⟩
            · refine WC.condT2 (fun fb => by kernel_rfl) h6127 ?_
              refine WC.skip ?_
              refine WX.next ?_
              refine WC.seq ?_
              refine WC.block ?_
              refine WC.seq ?_
              refine WC.region ?_
              refine seg 9 [.v (.slice A_p1_Cells p1.Cells.length c_p1_Cells), .v (.int .i64 p1.Width)] [0, 2, 4, 11, 12, 150, 152, 158] [(0, (.slice A_p0 p0.length c_p0)), (2, (.bool p2)), (4, (.pointer (some ⟨g4824, 0, none⟩))), (11, (.int .i64 x5853)), (12, (.int .i64 x6120)), (150, (.slice A_p0 p0.length c_p0)), (152, (.slice A_p1_Cells p1.Cells.length c_p1_Cells)), (158, (.int .i64 (w64 ((w64 (x5853 * p1.Width)) + x6120))))] [.cell ⟨g4824, 2, none⟩ (.slice A_p1_Cells p1.Cells.length c_p1_Cells), .cell ⟨g4824, 0, none⟩ (.int .i64 p1.Width)] (fun fb => by kernel_rfl) rfl ⟨hS6125.cell 0 rfl 2 rfl, hS6125.cell 0 rfl 0 rfl, trivial⟩ ?_
              obtain ⟨h6128, hl6126⟩ := as_some hl6126
              refine seg 11 [.v (.int .i64 (rdD p1.Cells (w64 ((w64 (x5853 * p1.Width)) + x6120)) 0))] [0, 2, 4, 11, 12, 150, 160] [(0, (.slice A_p0 p0.length c_p0)), (2, (.bool p2)), (4, (.pointer (some ⟨g4824, 0, none⟩))), (11, (.int .i64 x5853)), (12, (.int .i64 x6120)), (150, (.slice A_p0 p0.length c_p0)), (160, (.int .i64 (rdD p1.Cells (w64 ((w64 (x5853 * p1.Width)) + x6120)) 0)))] [.idx A_p1_Cells (w64 ((w64 (x5853 * p1.Width)) + x6120)) p1.Cells.length, .cell ((adr A_p1_Cells).add ((w64 ((w64 (x5853 * p1.Width)) + x6120)).toNat * 1)) (.int .i64 (rdD p1.Cells (w64 ((w64 (x5853 * p1.Width)) + x6120)) 0))] (fun fb => by kernel_rfl) rfl ⟨rowR.adr (hS6125.rd 1).1 h6128.1 h6128.2, rowR.cell (hS6125.rd 1).1 0 h6128.1 h6128.2 0 rfl, trivial⟩ ?_
              obtain ⟨h6129, hl6126⟩ := as_some hl6126
              refine seg 13 [.v (.int .i64 ((rdD p0 (rdD p1.Cells (w64 ((w64 (x5853 * p1.Width)) + x6120)) 0) z_Tile).N)), .v (.int .i64 ((rdD p0 (rdD p1.Cells (w64 ((w64 (x5853 * p1.Width)) + x6120)) 0) z_Tile).E)), .v (.int .i64 ((rdD p0 (rdD p1.Cells (w64 ((w64 (x5853 * p1.Width)) + x6120)) 0) z_Tile).S)), .v (.int .i64 ((rdD p0 (rdD p1.Cells (w64 ((w64 (x5853 * p1.Width)) + x6120)) 0) z_Tile).W))] [0, 2, 4, 11, 12, 162] [(0, (.slice A_p0 p0.length c_p0)), (2, (.bool p2)), (4, (.pointer (some ⟨g4824, 0, none⟩))), (11, (.int .i64 x5853)), (12, (.int .i64 x6120)), (162, (.agg #[(.int .i64 ((rdD p0 (rdD p1.Cells (w64 ((w64 (x5853 * p1.Width)) + x6120)) 0) z_Tile).N)), (.int .i64 ((rdD p0 (rdD p1.Cells (w64 ((w64 (x5853 * p1.Width)) + x6120)) 0) z_Tile).E)), (.int .i64 ((rdD p0 (rdD p1.Cells (w64 ((w64 (x5853 * p1.Width)) + x6120)) 0) z_Tile).S)), (.int .i64 ((rdD p0 (rdD p1.Cells (w64 ((w64 (x5853 * p1.Width)) + x6120)) 0) z_Tile).W))]))] [.idx A_p0 (rdD p1.Cells (w64 ((w64 (x5853 * p1.Width)) + x6120)) 0) p0.length, .cell ((adr A_p0).add (((rdD p1.Cells (w64 ((w64 (x5853 * p1.Width)) + x6120)) 0)).toNat * 4)) (.int .i64 ((rdD p0 (rdD p1.Cells (w64 ((w64 (x5853 * p1.Width)) + x6120)) 0) z_Tile).N)), .cell (((adr A_p0).add (((rdD p1.Cells (w64 ((w64 (x5853 * p1.Width)) + x6120)) 0)).toNat * 4)).add 1) (.int .i64 ((rdD p0 (rdD p1.Cells (w64 ((w64 (x5853 * p1.Width)) + x6120)) 0) z_Tile).E)), .cell (((adr A_p0).add (((rdD p1.Cells (w64 ((w64 (x5853 * p1.Width)) + x6120)) 0)).toNat * 4)).add 2) (.int .i64 ((rdD p0 (rdD p1.Cells (w64 ((w64 (x5853 * p1.Width)) + x6120)) 0) z_Tile).S)), .cell (((adr A_p0).add (((rdD p1.Cells (w64 ((w64 (x5853 * p1.Width)) + x6120)) 0)).toNat * 4)).add 3) (.int .i64 ((rdD p0 (rdD p1.Cells (w64 ((w64 (x5853 * p1.Width)) + x6120)) 0) z_Tile).W))] (fun fb => by kernel_rfl) rfl ⟨rowR.adr (hS6125.rd 0).1 h6129.1 h6129.2, rowR.cell (hS6125.rd 0).1 z_Tile h6129.1 h6129.2 0 rfl, rowR.cell (hS6125.rd 0).1 z_Tile h6129.1 h6129.2 1 rfl, rowR.cell (hS6125.rd 0).1 z_Tile h6129.1 h6129.2 2 rfl, rowR.cell (hS6125.rd 0).1 z_Tile h6129.1 h6129.2 3 rfl, trivial⟩ ?_
              refine WL.new hS6125 13 [] (fun g => (.pointer (some ⟨g, 0, none⟩))) (.cells #[(.int .i64 0), (.int .i64 0), (.int .i64 0), (.int .i64 0)] 65 (0, 0)) [] (fun fb g => by kernel_rfl) trivial (fun g6130 w6131 hS6132 => ?_)
              refine ⟨trivial, ?_⟩
              refine WL.store hS6132 0 rfl [(0, (.int .i64 ((rdD p0 (rdD p1.Cells (w64 ((w64 (x5853 * p1.Width)) + x6120)) 0) z_Tile).N))), (1, (.int .i64 ((rdD p0 (rdD p1.Cells (w64 ((w64 (x5853 * p1.Width)) + x6120)) 0) z_Tile).E))), (2, (.int .i64 ((rdD p0 (rdD p1.Cells (w64 ((w64 (x5853 * p1.Width)) + x6120)) 0) z_Tile).S))), (3, (.int .i64 ((rdD p0 (rdD p1.Cells (w64 ((w64 (x5853 * p1.Width)) + x6120)) 0) z_Tile).W)))] #[(.int .i64 ((rdD p0 (rdD p1.Cells (w64 ((w64 (x5853 * p1.Width)) + x6120)) 0) z_Tile).N)), (.int .i64 ((rdD p0 (rdD p1.Cells (w64 ((w64 (x5853 * p1.Width)) + x6120)) 0) z_Tile).E)), (.int .i64 ((rdD p0 (rdD p1.Cells (w64 ((w64 (x5853 * p1.Width)) + x6120)) 0) z_Tile).S)), (.int .i64 ((rdD p0 (rdD p1.Cells (w64 ((w64 (x5853 * p1.Width)) + x6120)) 0) z_Tile).W))] (fun fb => by kernel_rfl) (by kernel_rfl) rfl [1] (by decide) (by decide) (fun w6134 hS6135 => ?_)
              refine ⟨trivial, ?_⟩
              refine WL.done rfl ?_
              refine WX.next ?_
              refine WC.seq ?_
              refine WC.seq ?_
              obtain ⟨x6163, hx6164, hl6126⟩ := bind_some hl6126
              refine WC.cutN (T := Bool) (fun t => [(0, (.slice A_p0 p0.length c_p0)), (2, (.bool p2)), (4, (.pointer (some ⟨g4824, 0, none⟩))), (11, (.int .i64 x5853)), (12, (.int .i64 x6120)), (13, (.pointer (some ⟨g6130, 0, none⟩))), (193, (.bool t))]) (fun t w1 => St NoS w w1 [rowR enc_Tile A_p0 c_p0 p0, rowR encInt A_p1_Cells c_p1_Cells p1.Cells] [blk g4824 (.cells #[(.int .i64 p1.Width), (.int .i64 p1.Height), (.slice A_p1_Cells p1.Cells.length c_p1_Cells)] 31 (0, 0)), blk g6130 (.cells #[(.int .i64 ((rdD p0 (rdD p1.Cells (w64 ((w64 (x5853 * p1.Width)) + x6120)) 0) z_Tile).N)), (.int .i64 ((rdD p0 (rdD p1.Cells (w64 ((w64 (x5853 * p1.Width)) + x6120)) 0) z_Tile).E)), (.int .i64 ((rdD p0 (rdD p1.Cells (w64 ((w64 (x5853 * p1.Width)) + x6120)) 0) z_Tile).S)), (.int .i64 ((rdD p0 (rdD p1.Cells (w64 ((w64 (x5853 * p1.Width)) + x6120)) 0) z_Tile).W))] 65 (0, 0))] ∧ x6163 = t) (fun Kx6163 => ?_) ?_
              ·
                rcases br_some hx6164 with ⟨h6165, hx6164⟩ | ⟨h6165, hx6164⟩
                ·
                  obtain ⟨h6174, hx6164⟩ := as_some hx6164
                  obtain ⟨h6175, hx6164⟩ := as_some hx6164
                  obtain ⟨h6176, hx6164⟩ := as_some hx6164
                  refine WC.regionD ([(10, ⟨g6130, 1, none⟩, (.int .i64 ((rdD p0 (rdD p1.Cells (w64 ((w64 (x5853 * p1.Width)) + x6120)) 0) z_Tile).E))), (13, ⟨g4824, 2, none⟩, (.slice A_p1_Cells p1.Cells.length c_p1_Cells)), (16, ⟨g4824, 0, none⟩, (.int .i64 p1.Width)), (21, ⟨g4824, 0, none⟩, (.int .i64 p1.Width)), (25, ((adr A_p1_Cells).add ((w64 ((w64 (x5853 * p1.Width)) + (Int.tmod (w64 (x6120 + 1)) p1.Width))).toNat * 1)), (.int .i64 (rdD p1.Cells (w64 ((w64 (x5853 * p1.Width)) + (Int.tmod (w64 (x6120 + 1)) p1.Width))) 0))), (28, (((adr A_p0).add (((rdD p1.Cells (w64 ((w64 (x5853 * p1.Width)) + (Int.tmod (w64 (x6120 + 1)) p1.Width))) 0)).toNat * 4)).add 3), (.int .i64 ((rdD p0 (rdD p1.Cells (w64 ((w64 (x5853 * p1.Width)) + (Int.tmod (w64 (x6120 + 1)) p1.Width))) 0) z_Tile).W)))], [0, 1, 2, 3, 4, 5, 6, 7, 8, 9, 10, 11, 12, 13, 14, 15, 16, 17, 18, 19, 20, 21, 22, 23, 24, 25, 26, 27, 28, 29, 30], [[], [0], [0, 1], [0, 1, 2], [0, 1], [0, 1, 4], [0, 1, 2, 3, 4, 5], [0, 1, 2, 3, 4, 5, 6], [0, 1, 2, 3, 4, 5, 6, 7], [0, 1, 2, 3, 4, 5, 6, 7, 8], [0, 1, 2, 3, 4, 5, 6, 7, 8, 9], [0, 1, 2, 3, 4, 5, 6, 7, 8], [0, 1, 2, 3, 4, 5, 6, 7, 8], [0, 1, 2, 3, 4, 5, 6, 7, 8, 12], [0, 1, 2, 3, 4, 5, 6, 7, 8], [0, 1, 2, 3, 4, 5, 6, 7, 8], [0, 1, 2, 3, 4, 5, 6, 7, 8, 15], [0, 1, 2, 3, 4, 5, 6, 7, 8, 14, 15, 16], [0, 1, 2, 3, 4, 5, 6, 7, 8], [0, 1, 2, 3, 4, 5, 6, 7, 8, 18], [0, 1, 2, 3, 4, 5, 6, 7, 8], [0, 1, 2, 3, 4, 5, 6, 7, 8, 20], [0, 1, 2, 3, 4, 5, 6, 7, 8, 18, 19, 20, 21], [0, 1, 2, 3, 4, 5, 6, 7, 8, 14, 15, 16, 17, 18, 19, 20, 21, 22], [0, 1, 2, 3, 4, 5, 6, 7, 8, 12, 13, 14, 15, 16, 17, 18, 19, 20, 21, 22, 23], [0, 1, 2, 3, 4, 5, 6, 7, 8, 12, 13, 14, 15, 16, 17, 18, 19, 20, 21, 22, 23, 24], [0, 1, 2, 3, 4, 5, 6, 7, 8, 11, 12, 13, 14, 15, 16, 17, 18, 19, 20, 21, 22, 23, 24, 25], [0, 1, 2, 3, 4, 5, 6, 7, 8, 11, 12, 13, 14, 15, 16, 17, 18, 19, 20, 21, 22, 23, 24, 25, 26], [0, 1, 2, 3, 4, 5, 6, 7, 8, 11, 12, 13, 14, 15, 16, 17, 18, 19, 20, 21, 22, 23, 24, 25, 26, 27], [0, 1, 2, 3, 4, 5, 6, 7, 8, 9, 10, 11, 12, 13, 14, 15, 16, 17, 18, 19, 20, 21, 22, 23, 24, 25, 26, 27, 28], [0, 1, 2, 3, 4, 5, 6, 7, 8, 9, 10, 11, 12, 13, 14, 15, 16, 17, 18, 19, 20, 21, 22, 23, 24, 25, 26, 27, 28, 29]]) [[0, 1, 2, 3, 4, 5, 6, 7, 8, 9, 10, 11, 12, 13, 14, 15, 16, 17, 18, 19, 20, 21, 22, 23, 24, 25, 26, 27, 28, 29, 30]] (by kernel_rfl) (by kernel_rfl) (NoPanic.seq (NoPanic.seq (NoPanic.block (NoPanic.seq (NoPanic.seq (NoPanic.block (NoPanic.block (NoPanic.seq (NoPanic.seq (NoPanic.block (NoPanic.seq (NoPanic.body)))))))))))) ?_
                  have hS6170 := hS6135.drew
                  revert hS6170
                  generalize World.drew w6134 = w6169
                  intro hS6170
                  refine ⟨⟨hS6170.cell 0 rfl 1 rfl, hS6170.cell 1 rfl 2 rfl, hS6170.cell 1 rfl 0 rfl, hS6170.cell 1 rfl 0 rfl, rowR.cell (hS6170.rd 1).1 0 h6175.1 h6175.2 0 rfl, rowR.cell (hS6170.rd 0).1 z_Tile h6176.1 h6176.2 3 rfl, trivial⟩, forallC ?_ (forallN)⟩
                  refine seg 2 [] [0, 2, 4, 11, 12, 13, 164] [(0, (.slice A_p0 p0.length c_p0)), (2, (.bool p2)), (4, (.pointer (some ⟨g4824, 0, none⟩))), (11, (.int .i64 x5853)), (12, (.int .i64 x6120)), (13, (.pointer (some ⟨g6130, 0, none⟩))), (164, (.bool p2))] [] (fun fb => by kernel_rfl) rfl trivial ?_
                  refine WL.setB 164 h6165 rfl ?_
                  refine segF 31 [.v (.int .i64 ((rdD p0 (rdD p1.Cells (w64 ((w64 (x5853 * p1.Width)) + x6120)) 0) z_Tile).E)), .v (.slice A_p1_Cells p1.Cells.length c_p1_Cells), .v (.int .i64 p1.Width), .v (.int .i64 p1.Width), .v (.int .i64 (rdD p1.Cells (w64 ((w64 (x5853 * p1.Width)) + (Int.tmod (w64 (x6120 + 1)) p1.Width))) 0)), .v (.int .i64 ((rdD p0 (rdD p1.Cells (w64 ((w64 (x5853 * p1.Width)) + (Int.tmod (w64 (x6120 + 1)) p1.Width))) 0) z_Tile).W))] [0, 2, 4, 11, 12, 13, 193] [(0, (.slice A_p0 p0.length c_p0)), (2, (.bool p2)), (4, (.pointer (some ⟨g4824, 0, none⟩))), (11, (.int .i64 x5853)), (12, (.int .i64 x6120)), (13, (.pointer (some ⟨g6130, 0, none⟩))), (193, (.bool (((rdD p0 (rdD p1.Cells (w64 ((w64 (x5853 * p1.Width)) + x6120)) 0) z_Tile).E) != ((rdD p0 (rdD p1.Cells (w64 ((w64 (x5853 * p1.Width)) + (Int.tmod (w64 (x6120 + 1)) p1.Width))) 0) z_Tile).W))))] [.ne p1.Width, .idx A_p1_Cells (w64 ((w64 (x5853 * p1.Width)) + (Int.tmod (w64 (x6120 + 1)) p1.Width))) p1.Cells.length, .idx A_p0 (rdD p1.Cells (w64 ((w64 (x5853 * p1.Width)) + (Int.tmod (w64 (x6120 + 1)) p1.Width))) 0) p0.length] [0, 1, 2, 3, 4, 5] [(10, ⟨g6130, 1, none⟩, (.int .i64 ((rdD p0 (rdD p1.Cells (w64 ((w64 (x5853 * p1.Width)) + x6120)) 0) z_Tile).E))), (13, ⟨g4824, 2, none⟩, (.slice A_p1_Cells p1.Cells.length c_p1_Cells)), (16, ⟨g4824, 0, none⟩, (.int .i64 p1.Width)), (21, ⟨g4824, 0, none⟩, (.int .i64 p1.Width)), (25, ((adr A_p1_Cells).add ((w64 ((w64 (x5853 * p1.Width)) + (Int.tmod (w64 (x6120 + 1)) p1.Width))).toNat * 1)), (.int .i64 (rdD p1.Cells (w64 ((w64 (x5853 * p1.Width)) + (Int.tmod (w64 (x6120 + 1)) p1.Width))) 0))), (28, (((adr A_p0).add (((rdD p1.Cells (w64 ((w64 (x5853 * p1.Width)) + (Int.tmod (w64 (x6120 + 1)) p1.Width))) 0)).toNat * 4)).add 3), (.int .i64 ((rdD p0 (rdD p1.Cells (w64 ((w64 (x5853 * p1.Width)) + (Int.tmod (w64 (x6120 + 1)) p1.Width))) 0) z_Tile).W)))] (fun fb => by kernel_rfl) rfl ⟨h6174, rowR.adr (hS6170.rd 1).1 h6175.1 h6175.2, rowR.adr (hS6170.rd 0).1 h6176.1 h6176.2, trivial⟩ rfl ?_
                  refine WL.done rfl ?_
                  injection hx6164 with hx6164
                  exact WX.to Kx6163 (((rdD p0 (rdD p1.Cells (w64 ((w64 (x5853 * p1.Width)) + x6120)) 0) z_Tile).E) != ((rdD p0 (rdD p1.Cells (w64 ((w64 (x5853 * p1.Width)) + (Int.tmod (w64 (x6120 + 1)) p1.Width))) 0) z_Tile).W)) [0, 2, 4, 11, 12, 13, 193] rfl ⟨(hS6170.subR [0, 1]).sub [1, 0] (by decide), hx6164.symm⟩
                rcases br_some hx6164 with ⟨h6177, hx6164⟩ | ⟨h6177, hx6164⟩
                ·
                  obtain ⟨h6186, hx6164⟩ := as_some hx6164
                  obtain ⟨h6187, hx6164⟩ := as_some hx6164
                  obtain ⟨h6188, hx6164⟩ := as_some hx6164
                  refine WC.regionD ([(5, ⟨g4824, 0, none⟩, (.int .i64 p1.Width)), (10, ⟨g6130, 1, none⟩, (.int .i64 ((rdD p0 (rdD p1.Cells (w64 ((w64 (x5853 * p1.Width)) + x6120)) 0) z_Tile).E))), (13, ⟨g4824, 2, none⟩, (.slice A_p1_Cells p1.Cells.length c_p1_Cells)), (16, ⟨g4824, 0, none⟩, (.int .i64 p1.Width)), (21, ⟨g4824, 0, none⟩, (.int .i64 p1.Width)), (25, ((adr A_p1_Cells).add ((w64 ((w64 (x5853 * p1.Width)) + (Int.tmod (w64 (x6120 + 1)) p1.Width))).toNat * 1)), (.int .i64 (rdD p1.Cells (w64 ((w64 (x5853 * p1.Width)) + (Int.tmod (w64 (x6120 + 1)) p1.Width))) 0))), (28, (((adr A_p0).add (((rdD p1.Cells (w64 ((w64 (x5853 * p1.Width)) + (Int.tmod (w64 (x6120 + 1)) p1.Width))) 0)).toNat * 4)).add 3), (.int .i64 ((rdD p0 (rdD p1.Cells (w64 ((w64 (x5853 * p1.Width)) + (Int.tmod (w64 (x6120 + 1)) p1.Width))) 0) z_Tile).W)))], [0, 1, 2, 3, 4, 5, 6, 7, 8, 9, 10, 11, 12, 13, 14, 15, 16, 17, 18, 19, 20, 21, 22, 23, 24, 25, 26, 27, 28, 29, 30], [[], [0], [0, 1], [0, 1, 2], [0, 1], [0, 1, 4], [0, 1, 2, 3, 4, 5], [0, 1, 2, 3, 4, 5, 6], [0, 1, 2, 3, 4, 5, 6, 7], [0, 1, 2, 3, 4, 5, 6, 7, 8], [0, 1, 2, 3, 4, 5, 6, 7, 8, 9], [0, 1, 2, 3, 4, 5, 6, 7, 8], [0, 1, 2, 3, 4, 5, 6, 7, 8], [0, 1, 2, 3, 4, 5, 6, 7, 8, 12], [0, 1, 2, 3, 4, 5, 6, 7, 8], [0, 1, 2, 3, 4, 5, 6, 7, 8], [0, 1, 2, 3, 4, 5, 6, 7, 8, 15], [0, 1, 2, 3, 4, 5, 6, 7, 8, 14, 15, 16], [0, 1, 2, 3, 4, 5, 6, 7, 8], [0, 1, 2, 3, 4, 5, 6, 7, 8, 18], [0, 1, 2, 3, 4, 5, 6, 7, 8], [0, 1, 2, 3, 4, 5, 6, 7, 8, 20], [0, 1, 2, 3, 4, 5, 6, 7, 8, 18, 19, 20, 21], [0, 1, 2, 3, 4, 5, 6, 7, 8, 14, 15, 16, 17, 18, 19, 20, 21, 22], [0, 1, 2, 3, 4, 5, 6, 7, 8, 12, 13, 14, 15, 16, 17, 18, 19, 20, 21, 22, 23], [0, 1, 2, 3, 4, 5, 6, 7, 8, 12, 13, 14, 15, 16, 17, 18, 19, 20, 21, 22, 23, 24], [0, 1, 2, 3, 4, 5, 6, 7, 8, 11, 12, 13, 14, 15, 16, 17, 18, 19, 20, 21, 22, 23, 24, 25], [0, 1, 2, 3, 4, 5, 6, 7, 8, 11, 12, 13, 14, 15, 16, 17, 18, 19, 20, 21, 22, 23, 24, 25, 26], [0, 1, 2, 3, 4, 5, 6, 7, 8, 11, 12, 13, 14, 15, 16, 17, 18, 19, 20, 21, 22, 23, 24, 25, 26, 27], [0, 1, 2, 3, 4, 5, 6, 7, 8, 9, 10, 11, 12, 13, 14, 15, 16, 17, 18, 19, 20, 21, 22, 23, 24, 25, 26, 27, 28], [0, 1, 2, 3, 4, 5, 6, 7, 8, 9, 10, 11, 12, 13, 14, 15, 16, 17, 18, 19, 20, 21, 22, 23, 24, 25, 26, 27, 28, 29]]) [[0, 1, 2, 3, 4, 5, 6, 7, 8, 9, 10, 11, 12, 13, 14, 15, 16, 17, 18, 19, 20, 21, 22, 23, 24, 25, 26, 27, 28, 29, 30]] (by kernel_rfl) (by kernel_rfl) (NoPanic.seq (NoPanic.seq (NoPanic.block (NoPanic.seq (NoPanic.seq (NoPanic.block (NoPanic.block (NoPanic.seq (NoPanic.seq (NoPanic.block (NoPanic.seq (NoPanic.body)))))))))))) ?_
                  have hS6182 := hS6135.drew
                  revert hS6182
                  generalize World.drew w6134 = w6181
                  intro hS6182
                  refine ⟨⟨hS6182.cell 1 rfl 0 rfl, hS6182.cell 0 rfl 1 rfl, hS6182.cell 1 rfl 2 rfl, hS6182.cell 1 rfl 0 rfl, hS6182.cell 1 rfl 0 rfl, rowR.cell (hS6182.rd 1).1 0 h6187.1 h6187.2 0 rfl, rowR.cell (hS6182.rd 0).1 z_Tile h6188.1 h6188.2 3 rfl, trivial⟩, forallC ?_ (forallN)⟩
                  refine seg 2 [] [0, 2, 4, 11, 12, 13, 164] [(0, (.slice A_p0 p0.length c_p0)), (2, (.bool p2)), (4, (.pointer (some ⟨g4824, 0, none⟩))), (11, (.int .i64 x5853)), (12, (.int .i64 x6120)), (13, (.pointer (some ⟨g6130, 0, none⟩))), (164, (.bool p2))] [] (fun fb => by kernel_rfl) rfl trivial ?_
                  refine WL.setB 164 h6165 rfl ?_
                  refine segF 9 [.v (.int .i64 p1.Width)] [0, 2, 4, 11, 12, 13, 171] [(0, (.slice A_p0 p0.length c_p0)), (2, (.bool p2)), (4, (.pointer (some ⟨g4824, 0, none⟩))), (11, (.int .i64 x5853)), (12, (.int .i64 x6120)), (13, (.pointer (some ⟨g6130, 0, none⟩))), (171, (.bool (decide (w64 (x6120 + 1) < p1.Width))))] [] [0] [(5, ⟨g4824, 0, none⟩, (.int .i64 p1.Width))] (fun fb => by kernel_rfl) rfl trivial rfl ?_
                  refine WL.setB 171 h6177 rfl ?_
                  refine segF 31 [.v (.int .i64 ((rdD p0 (rdD p1.Cells (w64 ((w64 (x5853 * p1.Width)) + x6120)) 0) z_Tile).E)), .v (.slice A_p1_Cells p1.Cells.length c_p1_Cells), .v (.int .i64 p1.Width), .v (.int .i64 p1.Width), .v (.int .i64 (rdD p1.Cells (w64 ((w64 (x5853 * p1.Width)) + (Int.tmod (w64 (x6120 + 1)) p1.Width))) 0)), .v (.int .i64 ((rdD p0 (rdD p1.Cells (w64 ((w64 (x5853 * p1.Width)) + (Int.tmod (w64 (x6120 + 1)) p1.Width))) 0) z_Tile).W))] [0, 2, 4, 11, 12, 13, 193] [(0, (.slice A_p0 p0.length c_p0)), (2, (.bool p2)), (4, (.pointer (some ⟨g4824, 0, none⟩))), (11, (.int .i64 x5853)), (12, (.int .i64 x6120)), (13, (.pointer (some ⟨g6130, 0, none⟩))), (193, (.bool (((rdD p0 (rdD p1.Cells (w64 ((w64 (x5853 * p1.Width)) + x6120)) 0) z_Tile).E) != ((rdD p0 (rdD p1.Cells (w64 ((w64 (x5853 * p1.Width)) + (Int.tmod (w64 (x6120 + 1)) p1.Width))) 0) z_Tile).W))))] [.ne p1.Width, .idx A_p1_Cells (w64 ((w64 (x5853 * p1.Width)) + (Int.tmod (w64 (x6120 + 1)) p1.Width))) p1.Cells.length, .idx A_p0 (rdD p1.Cells (w64 ((w64 (x5853 * p1.Width)) + (Int.tmod (w64 (x6120 + 1)) p1.Width))) 0) p0.length] [1, 2, 3, 4, 5, 6] [(10, ⟨g6130, 1, none⟩, (.int .i64 ((rdD p0 (rdD p1.Cells (w64 ((w64 (x5853 * p1.Width)) + x6120)) 0) z_Tile).E))), (13, ⟨g4824, 2, none⟩, (.slice A_p1_Cells p1.Cells.length c_p1_Cells)), (16, ⟨g4824, 0, none⟩, (.int .i64 p1.Width)), (21, ⟨g4824, 0, none⟩, (.int .i64 p1.Width)), (25, ((adr A_p1_Cells).add ((w64 ((w64 (x5853 * p1.Width)) + (Int.tmod (w64 (x6120 + 1)) p1.Width))).toNat * 1)), (.int .i64 (rdD p1.Cells (w64 ((w64 (x5853 * p1.Width)) + (Int.tmod (w64 (x6120 + 1)) p1.Width))) 0))), (28, (((adr A_p0).add (((rdD p1.Cells (w64 ((w64 (x5853 * p1.Width)) + (Int.tmod (w64 (x6120 + 1)) p1.Width))) 0)).toNat * 4)).add 3), (.int .i64 ((rdD p0 (rdD p1.Cells (w64 ((w64 (x5853 * p1.Width)) + (Int.tmod (w64 (x6120 + 1)) p1.Width))) 0) z_Tile).W)))] (fun fb => by kernel_rfl) rfl ⟨h6186, rowR.adr (hS6182.rd 1).1 h6187.1 h6187.2, rowR.adr (hS6182.rd 0).1 h6188.1 h6188.2, trivial⟩ rfl ?_
                  refine WL.done rfl ?_
                  injection hx6164 with hx6164
                  exact WX.to Kx6163 (((rdD p0 (rdD p1.Cells (w64 ((w64 (x5853 * p1.Width)) + x6120)) 0) z_Tile).E) != ((rdD p0 (rdD p1.Cells (w64 ((w64 (x5853 * p1.Width)) + (Int.tmod (w64 (x6120 + 1)) p1.Width))) 0) z_Tile).W)) [0, 2, 4, 11, 12, 13, 193] rfl ⟨(hS6182.subR [0, 1]).sub [1, 0] (by decide), hx6164.symm⟩
                refine WC.regionD ([(5, ⟨g4824, 0, none⟩, (.int .i64 p1.Width))], [0, 1, 2, 3, 4, 5, 6, 7, 8, 9, 10, 11, 12, 13, 14, 15, 16, 17, 18, 19, 20, 21, 22, 23, 24, 25, 26, 27, 28, 29, 30], [[], [0], [0, 1], [0, 1, 2], [0, 1], [0, 1, 4], [0, 1, 2, 3, 4, 5], [0, 1, 2, 3, 4, 5, 6], [0, 1, 2, 3, 4, 5, 6, 7], [0, 1, 2, 3, 4, 5, 6, 7, 8], [0, 1, 2, 3, 4, 5, 6, 7, 8, 9], [0, 1, 2, 3, 4, 5, 6, 7, 8], [0, 1, 2, 3, 4, 5, 6, 7, 8], [0, 1, 2, 3, 4, 5, 6, 7, 8, 12], [0, 1, 2, 3, 4, 5, 6, 7, 8], [0, 1, 2, 3, 4, 5, 6, 7, 8], [0, 1, 2, 3, 4, 5, 6, 7, 8, 15], [0, 1, 2, 3, 4, 5, 6, 7, 8, 14, 15, 16], [0, 1, 2, 3, 4, 5, 6, 7, 8], [0, 1, 2, 3, 4, 5, 6, 7, 8, 18], [0, 1, 2, 3, 4, 5, 6, 7, 8], [0, 1, 2, 3, 4, 5, 6, 7, 8, 20], [0, 1, 2, 3, 4, 5, 6, 7, 8, 18, 19, 20, 21], [0, 1, 2, 3, 4, 5, 6, 7, 8, 14, 15, 16, 17, 18, 19, 20, 21, 22], [0, 1, 2, 3, 4, 5, 6, 7, 8, 12, 13, 14, 15, 16, 17, 18, 19, 20, 21, 22, 23], [0, 1, 2, 3, 4, 5, 6, 7, 8, 12, 13, 14, 15, 16, 17, 18, 19, 20, 21, 22, 23, 24], [0, 1, 2, 3, 4, 5, 6, 7, 8, 11, 12, 13, 14, 15, 16, 17, 18, 19, 20, 21, 22, 23, 24, 25], [0, 1, 2, 3, 4, 5, 6, 7, 8, 11, 12, 13, 14, 15, 16, 17, 18, 19, 20, 21, 22, 23, 24, 25, 26], [0, 1, 2, 3, 4, 5, 6, 7, 8, 11, 12, 13, 14, 15, 16, 17, 18, 19, 20, 21, 22, 23, 24, 25, 26, 27], [0, 1, 2, 3, 4, 5, 6, 7, 8, 9, 10, 11, 12, 13, 14, 15, 16, 17, 18, 19, 20, 21, 22, 23, 24, 25, 26, 27, 28], [0, 1, 2, 3, 4, 5, 6, 7, 8, 9, 10, 11, 12, 13, 14, 15, 16, 17, 18, 19, 20, 21, 22, 23, 24, 25, 26, 27, 28, 29]]) [[0, 1, 2, 3, 4, 5, 6, 7, 8, 9, 10, 11, 12, 13, 14, 15, 16, 17, 18, 19, 20, 21, 22, 23, 24, 25, 26, 27, 28, 29, 30]] (by kernel_rfl) (by kernel_rfl) (NoPanic.seq (NoPanic.seq (NoPanic.block (NoPanic.seq (NoPanic.seq (NoPanic.block (NoPanic.block (NoPanic.seq (NoPanic.seq (NoPanic.block (NoPanic.seq (NoPanic.body)))))))))))) ?_
                have hS6190 := hS6135.drew
                revert hS6190
                generalize World.drew w6134 = w6189
                intro hS6190
                refine ⟨⟨hS6190.cell 1 rfl 0 rfl, trivial⟩, forallC ?_ (forallN)⟩
                refine seg 2 [] [0, 2, 4, 11, 12, 13, 164] [(0, (.slice A_p0 p0.length c_p0)), (2, (.bool p2)), (4, (.pointer (some ⟨g4824, 0, none⟩))), (11, (.int .i64 x5853)), (12, (.int .i64 x6120)), (13, (.pointer (some ⟨g6130, 0, none⟩))), (164, (.bool p2))] [] (fun fb => by kernel_rfl) rfl trivial ?_
                refine WL.setB 164 h6165 rfl ?_
                refine segF 9 [.v (.int .i64 p1.Width)] [0, 2, 4, 11, 12, 13, 171] [(0, (.slice A_p0 p0.length c_p0)), (2, (.bool p2)), (4, (.pointer (some ⟨g4824, 0, none⟩))), (11, (.int .i64 x5853)), (12, (.int .i64 x6120)), (13, (.pointer (some ⟨g6130, 0, none⟩))), (171, (.bool (decide (w64 (x6120 + 1) < p1.Width))))] [] [0] [(5, ⟨g4824, 0, none⟩, (.int .i64 p1.Width))] (fun fb => by kernel_rfl) rfl trivial rfl ?_
                refine WL.setB 171 h6177 rfl ?_
                refine seg 31 [] [0, 2, 4, 11, 12, 13, 193] [(0, (.slice A_p0 p0.length c_p0)), (2, (.bool p2)), (4, (.pointer (some ⟨g4824, 0, none⟩))), (11, (.int .i64 x5853)), (12, (.int .i64 x6120)), (13, (.pointer (some ⟨g6130, 0, none⟩))), (193, (.bool false))] [] (fun fb => by kernel_rfl) rfl trivial ?_
                refine WL.done rfl ?_
                injection hx6164 with hx6164
                exact WX.to Kx6163 false [0, 2, 4, 11, 12, 13, 193] rfl ⟨(hS6190.subR [0, 1]).sub [1, 0] (by decide), hx6164.symm⟩
              rintro y6194 w6191 ⟨hS6192, hq6193⟩
              subst hq6193
              refine WX.next ?_
              rcases br_some hl6126 with ⟨h6195, hl6126⟩ | ⟨h6195, hl6126⟩
              · refine WC.condT2 (fun fb => by kernel_rfl) h6195 ?_
                refine WC.seq ?_
                refine WC.region ?_
                refine seg 1 [] [6] [(6, (.bool false))] [] (fun fb => by kernel_rfl) rfl trivial ?_
                refine WL.done rfl ?_
                refine WX.next ?_
                refine WC.ret ?_
                injection hl6126 with hl6126
                subst hl6126
                injection hl5859 with hl5859
                subst hl5859
                injection hf with hf
                subst hf
                exact WX.thenR (WX.blockR (WX.thenR (WX.thenR (WX.blockR (WX.blockR (WX.thenR (WX.thenR (WX.blockR (WX.thenR (WX.ret_ [] (.bool false) [] (fun fb => by kernel_rfl) trivial ⟨_, rfl, rfl, hS6192.keep⟩))))))))))
              refine WC.condF2 (fun fb => by kernel_rfl) h6195 ?_
              refine WC.skip ?_
              refine WX.next ?_
              refine WC.seq ?_
              obtain ⟨x6223, hx6224, hl6126⟩ := bind_some hl6126
              refine WC.cutN (T := Bool) (fun t => [(0, (.slice A_p0 p0.length c_p0)), (2, (.bool p2)), (4, (.pointer (some ⟨g4824, 0, none⟩))), (11, (.int .i64 x5853)), (12, (.int .i64 x6120)), (224, (.bool t))]) (fun t w1 => St NoS w w1 [rowR enc_Tile A_p0 c_p0 p0, rowR encInt A_p1_Cells c_p1_Cells p1.Cells] [blk g4824 (.cells #[(.int .i64 p1.Width), (.int .i64 p1.Height), (.slice A_p1_Cells p1.Cells.length c_p1_Cells)] 31 (0, 0))] ∧ x6223 = t) (fun Kx6223 => ?_) ?_
              ·
                rcases br_some hx6224 with ⟨h6225, hx6224⟩ | ⟨h6225, hx6224⟩
                ·
                  obtain ⟨h6234, hx6224⟩ := as_some hx6224
                  obtain ⟨h6235, hx6224⟩ := as_some hx6224
                  obtain ⟨h6236, hx6224⟩ := as_some hx6224
                  refine WC.regionD ([(10, ⟨g6130, 0, none⟩, (.int .i64 ((rdD p0 (rdD p1.Cells (w64 ((w64 (x5853 * p1.Width)) + x6120)) 0) z_Tile).N))), (13, ⟨g4824, 2, none⟩, (.slice A_p1_Cells p1.Cells.length c_p1_Cells)), (17, ⟨g4824, 1, none⟩, (.int .i64 p1.Height)), (20, ⟨g4824, 0, none⟩, (.int .i64 p1.Width)), (25, ((adr A_p1_Cells).add ((w64 ((w64 ((Int.tmod (w64 (x5853 + 1)) p1.Height) * p1.Width)) + x6120)).toNat * 1)), (.int .i64 (rdD p1.Cells (w64 ((w64 ((Int.tmod (w64 (x5853 + 1)) p1.Height) * p1.Width)) + x6120)) 0))), (28, (((adr A_p0).add (((rdD p1.Cells (w64 ((w64 ((Int.tmod (w64 (x5853 + 1)) p1.Height) * p1.Width)) + x6120)) 0)).toNat * 4)).add 2), (.int .i64 ((rdD p0 (rdD p1.Cells (w64 ((w64 ((Int.tmod (w64 (x5853 + 1)) p1.Height) * p1.Width)) + x6120)) 0) z_Tile).S)))], [0, 1, 2, 3, 4, 5, 6, 7, 8, 9, 10, 11, 12, 13, 14, 15, 16, 17, 18, 19, 20, 21, 22, 23, 24, 25, 26, 27, 28, 29, 30], [[], [0], [0, 1], [0, 1, 2], [0, 1], [0, 1, 4], [0, 1, 2, 3, 4, 5], [0, 1, 2, 3, 4, 5, 6], [0, 1, 2, 3, 4, 5, 6, 7], [0, 1, 2, 3, 4, 5, 6, 7, 8], [0, 1, 2, 3, 4, 5, 6, 7, 8, 9], [0, 1, 2, 3, 4, 5, 6, 7, 8], [0, 1, 2, 3, 4, 5, 6, 7, 8], [0, 1, 2, 3, 4, 5, 6, 7, 8, 12], [0, 1, 2, 3, 4, 5, 6, 7, 8], [0, 1, 2, 3, 4, 5, 6, 7, 8, 14], [0, 1, 2, 3, 4, 5, 6, 7, 8], [0, 1, 2, 3, 4, 5, 6, 7, 8, 16], [0, 1, 2, 3, 4, 5, 6, 7, 8, 14, 15, 16, 17], [0, 1, 2, 3, 4, 5, 6, 7, 8], [0, 1, 2, 3, 4, 5, 6, 7, 8, 19], [0, 1, 2, 3, 4, 5, 6, 7, 8, 14, 15, 16, 17, 18, 19, 20], [0, 1, 2, 3, 4, 5, 6, 7, 8], [0, 1, 2, 3, 4, 5, 6, 7, 8, 14, 15, 16, 17, 18, 19, 20, 21, 22], [0, 1, 2, 3, 4, 5, 6, 7, 8, 12, 13, 14, 15, 16, 17, 18, 19, 20, 21, 22, 23], [0, 1, 2, 3, 4, 5, 6, 7, 8, 12, 13, 14, 15, 16, 17, 18, 19, 20, 21, 22, 23, 24], [0, 1, 2, 3, 4, 5, 6, 7, 8, 11, 12, 13, 14, 15, 16, 17, 18, 19, 20, 21, 22, 23, 24, 25], [0, 1, 2, 3, 4, 5, 6, 7, 8, 11, 12, 13, 14, 15, 16, 17, 18, 19, 20, 21, 22, 23, 24, 25, 26], [0, 1, 2, 3, 4, 5, 6, 7, 8, 11, 12, 13, 14, 15, 16, 17, 18, 19, 20, 21, 22, 23, 24, 25, 26, 27], [0, 1, 2, 3, 4, 5, 6, 7, 8, 9, 10, 11, 12, 13, 14, 15, 16, 17, 18, 19, 20, 21, 22, 23, 24, 25, 26, 27, 28], [0, 1, 2, 3, 4, 5, 6, 7, 8, 9, 10, 11, 12, 13, 14, 15, 16, 17, 18, 19, 20, 21, 22, 23, 24, 25, 26, 27, 28, 29]]) [[0, 1, 2, 3, 4, 5, 6, 7, 8, 9, 10, 11, 12, 13, 14, 15, 16, 17, 18, 19, 20, 21, 22, 23, 24, 25, 26, 27, 28, 29, 30]] (by kernel_rfl) (by kernel_rfl) (NoPanic.seq (NoPanic.block (NoPanic.seq (NoPanic.seq (NoPanic.block (NoPanic.block (NoPanic.seq (NoPanic.seq (NoPanic.block (NoPanic.seq (NoPanic.body))))))))))) ?_
                  have hS6230 := hS6192.drew
                  revert hS6230
                  generalize World.drew w6191 = w6229
                  intro hS6230
                  refine ⟨⟨hS6230.cell 1 rfl 0 rfl, hS6230.cell 0 rfl 2 rfl, hS6230.cell 0 rfl 1 rfl, hS6230.cell 0 rfl 0 rfl, rowR.cell (hS6230.rd 1).1 0 h6235.1 h6235.2 0 rfl, rowR.cell (hS6230.rd 0).1 z_Tile h6236.1 h6236.2 2 rfl, trivial⟩, forallC ?_ (forallN)⟩
                  refine seg 2 [] [0, 2, 4, 11, 12, 13, 195] [(0, (.slice A_p0 p0.length c_p0)), (2, (.bool p2)), (4, (.pointer (some ⟨g4824, 0, none⟩))), (11, (.int .i64 x5853)), (12, (.int .i64 x6120)), (13, (.pointer (some ⟨g6130, 0, none⟩))), (195, (.bool p2))] [] (fun fb => by kernel_rfl) rfl trivial ?_
                  refine WL.setB 195 h6225 rfl ?_
                  refine segF 31 [.v (.int .i64 ((rdD p0 (rdD p1.Cells (w64 ((w64 (x5853 * p1.Width)) + x6120)) 0) z_Tile).N)), .v (.slice A_p1_Cells p1.Cells.length c_p1_Cells), .v (.int .i64 p1.Height), .v (.int .i64 p1.Width), .v (.int .i64 (rdD p1.Cells (w64 ((w64 ((Int.tmod (w64 (x5853 + 1)) p1.Height) * p1.Width)) + x6120)) 0)), .v (.int .i64 ((rdD p0 (rdD p1.Cells (w64 ((w64 ((Int.tmod (w64 (x5853 + 1)) p1.Height) * p1.Width)) + x6120)) 0) z_Tile).S))] [0, 2, 4, 11, 12, 224] [(0, (.slice A_p0 p0.length c_p0)), (2, (.bool p2)), (4, (.pointer (some ⟨g4824, 0, none⟩))), (11, (.int .i64 x5853)), (12, (.int .i64 x6120)), (224, (.bool (((rdD p0 (rdD p1.Cells (w64 ((w64 (x5853 * p1.Width)) + x6120)) 0) z_Tile).N) != ((rdD p0 (rdD p1.Cells (w64 ((w64 ((Int.tmod (w64 (x5853 + 1)) p1.Height) * p1.Width)) + x6120)) 0) z_Tile).S))))] [.ne p1.Height, .idx A_p1_Cells (w64 ((w64 ((Int.tmod (w64 (x5853 + 1)) p1.Height) * p1.Width)) + x6120)) p1.Cells.length, .idx A_p0 (rdD p1.Cells (w64 ((w64 ((Int.tmod (w64 (x5853 + 1)) p1.Height) * p1.Width)) + x6120)) 0) p0.length] [0, 1, 2, 3, 4, 5] [(10, ⟨g6130, 0, none⟩, (.int .i64 ((rdD p0 (rdD p1.Cells (w64 ((w64 (x5853 * p1.Width)) + x6120)) 0) z_Tile).N))), (13, ⟨g4824, 2, none⟩, (.slice A_p1_Cells p1.Cells.length c_p1_Cells)), (17, ⟨g4824, 1, none⟩, (.int .i64 p1.Height)), (20, ⟨g4824, 0, none⟩, (.int .i64 p1.Width)), (25, ((adr A_p1_Cells).add ((w64 ((w64 ((Int.tmod (w64 (x5853 + 1)) p1.Height) * p1.Width)) + x6120)).toNat * 1)), (.int .i64 (rdD p1.Cells (w64 ((w64 ((Int.tmod (w64 (x5853 + 1)) p1.Height) * p1.Width)) + x6120)) 0))), (28, (((adr A_p0).add (((rdD p1.Cells (w64 ((w64 ((Int.tmod (w64 (x5853 + 1)) p1.Height) * p1.Width)) + x6120)) 0)).toNat * 4)).add 2), (.int .i64 ((rdD p0 (rdD p1.Cells (w64 ((w64 ((Int.tmod (w64 (x5853 + 1)) p1.Height) * p1.Width)) + x6120)) 0) z_Tile).S)))] (fun fb => by kernel_rfl) rfl ⟨h6234, rowR.adr (hS6230.rd 1).1 h6235.1 h6235.2, rowR.adr (hS6230.rd 0).1 h6236.1 h6236.2, trivial⟩ rfl ?_
                  refine WL.done rfl ?_
                  injection hx6224 with hx6224
                  exact WX.to Kx6223 (((rdD p0 (rdD p1.Cells (w64 ((w64 (x5853 * p1.Width)) + x6120)) 0) z_Tile).N) != ((rdD p0 (rdD p1.Cells (w64 ((w64 ((Int.tmod (w64 (x5853 + 1)) p1.Height) * p1.Width)) + x6120)) 0) z_Tile).S)) [0, 2, 4, 11, 12, 224] rfl ⟨(hS6230.subR [0, 1]).sub [0] (by decide), hx6224.symm⟩
                rcases br_some hx6224 with ⟨h6237, hx6224⟩ | ⟨h6237, hx6224⟩
                ·
                  obtain ⟨h6246, hx6224⟩ := as_some hx6224
                  obtain ⟨h6247, hx6224⟩ := as_some hx6224
                  obtain ⟨h6248, hx6224⟩ := as_some hx6224
                  refine WC.regionD ([(5, ⟨g4824, 1, none⟩, (.int .i64 p1.Height)), (10, ⟨g6130, 0, none⟩, (.int .i64 ((rdD p0 (rdD p1.Cells (w64 ((w64 (x5853 * p1.Width)) + x6120)) 0) z_Tile).N))), (13, ⟨g4824, 2, none⟩, (.slice A_p1_Cells p1.Cells.length c_p1_Cells)), (17, ⟨g4824, 1, none⟩, (.int .i64 p1.Height)), (20, ⟨g4824, 0, none⟩, (.int .i64 p1.Width)), (25, ((adr A_p1_Cells).add ((w64 ((w64 ((Int.tmod (w64 (x5853 + 1)) p1.Height) * p1.Width)) + x6120)).toNat * 1)), (.int .i64 (rdD p1.Cells (w64 ((w64 ((Int.tmod (w64 (x5853 + 1)) p1.Height) * p1.Width)) + x6120)) 0))), (28, (((adr A_p0).add (((rdD p1.Cells (w64 ((w64 ((Int.tmod (w64 (x5853 + 1)) p1.Height) * p1.Width)) + x6120)) 0)).toNat * 4)).add 2), (.int .i64 ((rdD p0 (rdD p1.Cells (w64 ((w64 ((Int.tmod (w64 (x5853 + 1)) p1.Height) * p1.Width)) + x6120)) 0) z_Tile).S)))], [0, 1, 2, 3, 4, 5, 6, 7, 8, 9, 10, 11, 12, 13, 14, 15, 16, 17, 18, 19, 20, 21, 22, 23, 24, 25, 26, 27, 28, 29, 30], [[], [0], [0, 1], [0, 1, 2], [0, 1], [0, 1, 4], [0, 1, 2, 3, 4, 5], [0, 1, 2, 3, 4, 5, 6], [0, 1, 2, 3, 4, 5, 6, 7], [0, 1, 2, 3, 4, 5, 6, 7, 8], [0, 1, 2, 3, 4, 5, 6, 7, 8, 9], [0, 1, 2, 3, 4, 5, 6, 7, 8], [0, 1, 2, 3, 4, 5, 6, 7, 8], [0, 1, 2, 3, 4, 5, 6, 7, 8, 12], [0, 1, 2, 3, 4, 5, 6, 7, 8], [0, 1, 2, 3, 4, 5, 6, 7, 8, 14], [0, 1, 2, 3, 4, 5, 6, 7, 8], [0, 1, 2, 3, 4, 5, 6, 7, 8, 16], [0, 1, 2, 3, 4, 5, 6, 7, 8, 14, 15, 16, 17], [0, 1, 2, 3, 4, 5, 6, 7, 8], [0, 1, 2, 3, 4, 5, 6, 7, 8, 19], [0, 1, 2, 3, 4, 5, 6, 7, 8, 14, 15, 16, 17, 18, 19, 20], [0, 1, 2, 3, 4, 5, 6, 7, 8], [0, 1, 2, 3, 4, 5, 6, 7, 8, 14, 15, 16, 17, 18, 19, 20, 21, 22], [0, 1, 2, 3, 4, 5, 6, 7, 8, 12, 13, 14, 15, 16, 17, 18, 19, 20, 21, 22, 23], [0, 1, 2, 3, 4, 5, 6, 7, 8, 12, 13, 14, 15, 16, 17, 18, 19, 20, 21, 22, 23, 24], [0, 1, 2, 3, 4, 5, 6, 7, 8, 11, 12, 13, 14, 15, 16, 17, 18, 19, 20, 21, 22, 23, 24, 25], [0, 1, 2, 3, 4, 5, 6, 7, 8, 11, 12, 13, 14, 15, 16, 17, 18, 19, 20, 21, 22, 23, 24, 25, 26], [0, 1, 2, 3, 4, 5, 6, 7, 8, 11, 12, 13, 14, 15, 16, 17, 18, 19, 20, 21, 22, 23, 24, 25, 26, 27], [0, 1, 2, 3, 4, 5, 6, 7, 8, 9, 10, 11, 12, 13, 14, 15, 16, 17, 18, 19, 20, 21, 22, 23, 24, 25, 26, 27, 28], [0, 1, 2, 3, 4, 5, 6, 7, 8, 9, 10, 11, 12, 13, 14, 15, 16, 17, 18, 19, 20, 21, 22, 23, 24, 25, 26, 27, 28, 29]]) [[0, 1, 2, 3, 4, 5, 6, 7, 8, 9, 10, 11, 12, 13, 14, 15, 16, 17, 18, 19, 20, 21, 22, 23, 24, 25, 26, 27, 28, 29, 30]] (by kernel_rfl) (by kernel_rfl) (NoPanic.seq (NoPanic.block (NoPanic.seq (NoPanic.seq (NoPanic.block (NoPanic.block (NoPanic.seq (NoPanic.seq (NoPanic.block (NoPanic.seq (NoPanic.body))))))))))) ?_
                  have hS6242 := hS6192.drew
                  revert hS6242
                  generalize World.drew w6191 = w6241
                  intro hS6242
                  refine ⟨⟨hS6242.cell 0 rfl 1 rfl, hS6242.cell 1 rfl 0 rfl, hS6242.cell 0 rfl 2 rfl, hS6242.cell 0 rfl 1 rfl, hS6242.cell 0 rfl 0 rfl, rowR.cell (hS6242.rd 1).1 0 h6247.1 h6247.2 0 rfl, rowR.cell (hS6242.rd 0).1 z_Tile h6248.1 h6248.2 2 rfl, trivial⟩, forallC ?_ (forallN)⟩
                  refine seg 2 [] [0, 2, 4, 11, 12, 13, 195] [(0, (.slice A_p0 p0.length c_p0)), (2, (.bool p2)), (4, (.pointer (some ⟨g4824, 0, none⟩))), (11, (.int .i64 x5853)), (12, (.int .i64 x6120)), (13, (.pointer (some ⟨g6130, 0, none⟩))), (195, (.bool p2))] [] (fun fb => by kernel_rfl) rfl trivial ?_
                  refine WL.setB 195 h6225 rfl ?_
                  refine segF 9 [.v (.int .i64 p1.Height)] [0, 2, 4, 11, 12, 13, 202] [(0, (.slice A_p0 p0.length c_p0)), (2, (.bool p2)), (4, (.pointer (some ⟨g4824, 0, none⟩))), (11, (.int .i64 x5853)), (12, (.int .i64 x6120)), (13, (.pointer (some ⟨g6130, 0, none⟩))), (202, (.bool (decide (w64 (x5853 + 1) < p1.Height))))] [] [0] [(5, ⟨g4824, 1, none⟩, (.int .i64 p1.Height))] (fun fb => by kernel_rfl) rfl trivial rfl ?_
                  refine WL.setB 202 h6237 rfl ?_
                  refine segF 31 [.v (.int .i64 ((rdD p0 (rdD p1.Cells (w64 ((w64 (x5853 * p1.Width)) + x6120)) 0) z_Tile).N)), .v (.slice A_p1_Cells p1.Cells.length c_p1_Cells), .v (.int .i64 p1.Height), .v (.int .i64 p1.Width), .v (.int .i64 (rdD p1.Cells (w64 ((w64 ((Int.tmod (w64 (x5853 + 1)) p1.Height) * p1.Width)) + x6120)) 0)), .v (.int .i64 ((rdD p0 (rdD p1.Cells (w64 ((w64 ((Int.tmod (w64 (x5853 + 1)) p1.Height) * p1.Width)) + x6120)) 0) z_Tile).S))] [0, 2, 4, 11, 12, 224] [(0, (.slice A_p0 p0.length c_p0)), (2, (.bool p2)), (4, (.pointer (some ⟨g4824, 0, none⟩))), (11, (.int .i64 x5853)), (12, (.int .i64 x6120)), (224, (.bool (((rdD p0 (rdD p1.Cells (w64 ((w64 (x5853 * p1.Width)) + x6120)) 0) z_Tile).N) != ((rdD p0 (rdD p1.Cells (w64 ((w64 ((Int.tmod (w64 (x5853 + 1)) p1.Height) * p1.Width)) + x6120)) 0) z_Tile).S))))] [.ne p1.Height, .idx A_p1_Cells (w64 ((w64 ((Int.tmod (w64 (x5853 + 1)) p1.Height) * p1.Width)) + x6120)) p1.Cells.length, .idx A_p0 (rdD p1.Cells (w64 ((w64 ((Int.tmod (w64 (x5853 + 1)) p1.Height) * p1.Width)) + x6120)) 0) p0.length] [1, 2, 3, 4, 5, 6] [(10, ⟨g6130, 0, none⟩, (.int .i64 ((rdD p0 (rdD p1.Cells (w64 ((w64 (x5853 * p1.Width)) + x6120)) 0) z_Tile).N))), (13, ⟨g4824, 2, none⟩, (.slice A_p1_Cells p1.Cells.length c_p1_Cells)), (17, ⟨g4824, 1, none⟩, (.int .i64 p1.Height)), (20, ⟨g4824, 0, none⟩, (.int .i64 p1.Width)), (25, ((adr A_p1_Cells).add ((w64 ((w64 ((Int.tmod (w64 (x5853 + 1)) p1.Height) * p1.Width)) + x6120)).toNat * 1)), (.int .i64 (rdD p1.Cells (w64 ((w64 ((Int.tmod (w64 (x5853 + 1)) p1.Height) * p1.Width)) + x6120)) 0))), (28, (((adr A_p0).add (((rdD p1.Cells (w64 ((w64 ((Int.tmod (w64 (x5853 + 1)) p1.Height) * p1.Width)) + x6120)) 0)).toNat * 4)).add 2), (.int .i64 ((rdD p0 (rdD p1.Cells (w64 ((w64 ((Int.tmod (w64 (x5853 + 1)) p1.Height) * p1.Width)) + x6120)) 0) z_Tile).S)))] (fun fb => by kernel_rfl) rfl ⟨h6246, rowR.adr (hS6242.rd 1).1 h6247.1 h6247.2, rowR.adr (hS6242.rd 0).1 h6248.1 h6248.2, trivial⟩ rfl ?_
                  refine WL.done rfl ?_
                  injection hx6224 with hx6224
                  exact WX.to Kx6223 (((rdD p0 (rdD p1.Cells (w64 ((w64 (x5853 * p1.Width)) + x6120)) 0) z_Tile).N) != ((rdD p0 (rdD p1.Cells (w64 ((w64 ((Int.tmod (w64 (x5853 + 1)) p1.Height) * p1.Width)) + x6120)) 0) z_Tile).S)) [0, 2, 4, 11, 12, 224] rfl ⟨(hS6242.subR [0, 1]).sub [0] (by decide), hx6224.symm⟩
                refine WC.regionD ([(5, ⟨g4824, 1, none⟩, (.int .i64 p1.Height))], [0, 1, 2, 3, 4, 5, 6, 7, 8, 9, 10, 11, 12, 13, 14, 15, 16, 17, 18, 19, 20, 21, 22, 23, 24, 25, 26, 27, 28, 29, 30], [[], [0], [0, 1], [0, 1, 2], [0, 1], [0, 1, 4], [0, 1, 2, 3, 4, 5], [0, 1, 2, 3, 4, 5, 6], [0, 1, 2, 3, 4, 5, 6, 7], [0, 1, 2, 3, 4, 5, 6, 7, 8], [0, 1, 2, 3, 4, 5, 6, 7, 8, 9], [0, 1, 2, 3, 4, 5, 6, 7, 8], [0, 1, 2, 3, 4, 5, 6, 7, 8], [0, 1, 2, 3, 4, 5, 6, 7, 8, 12], [0, 1, 2, 3, 4, 5, 6, 7, 8], [0, 1, 2, 3, 4, 5, 6, 7, 8, 14], [0, 1, 2, 3, 4, 5, 6, 7, 8], [0, 1, 2, 3, 4, 5, 6, 7, 8, 16], [0, 1, 2, 3, 4, 5, 6, 7, 8, 14, 15, 16, 17], [0, 1, 2, 3, 4, 5, 6, 7, 8], [0, 1, 2, 3, 4, 5, 6, 7, 8, 19], [0, 1, 2, 3, 4, 5, 6, 7, 8, 14, 15, 16, 17, 18, 19, 20], [0, 1, 2, 3, 4, 5, 6, 7, 8], [0, 1, 2, 3, 4, 5, 6, 7, 8, 14, 15, 16, 17, 18, 19, 20, 21, 22], [0, 1, 2, 3, 4, 5, 6, 7, 8, 12, 13, 14, 15, 16, 17, 18, 19, 20, 21, 22, 23], [0, 1, 2, 3, 4, 5, 6, 7, 8, 12, 13, 14, 15, 16, 17, 18, 19, 20, 21, 22, 23, 24], [0, 1, 2, 3, 4, 5, 6, 7, 8, 11, 12, 13, 14, 15, 16, 17, 18, 19, 20, 21, 22, 23, 24, 25], [0, 1, 2, 3, 4, 5, 6, 7, 8, 11, 12, 13, 14, 15, 16, 17, 18, 19, 20, 21, 22, 23, 24, 25, 26], [0, 1, 2, 3, 4, 5, 6, 7, 8, 11, 12, 13, 14, 15, 16, 17, 18, 19, 20, 21, 22, 23, 24, 25, 26, 27], [0, 1, 2, 3, 4, 5, 6, 7, 8, 9, 10, 11, 12, 13, 14, 15, 16, 17, 18, 19, 20, 21, 22, 23, 24, 25, 26, 27, 28], [0, 1, 2, 3, 4, 5, 6, 7, 8, 9, 10, 11, 12, 13, 14, 15, 16, 17, 18, 19, 20, 21, 22, 23, 24, 25, 26, 27, 28, 29]]) [[0, 1, 2, 3, 4, 5, 6, 7, 8, 9, 10, 11, 12, 13, 14, 15, 16, 17, 18, 19, 20, 21, 22, 23, 24, 25, 26, 27, 28, 29, 30]] (by kernel_rfl) (by kernel_rfl) (NoPanic.seq (NoPanic.block (NoPanic.seq (NoPanic.seq (NoPanic.block (NoPanic.block (NoPanic.seq (NoPanic.seq (NoPanic.block (NoPanic.seq (NoPanic.body))))))))))) ?_
                have hS6250 := hS6192.drew
                revert hS6250
                generalize World.drew w6191 = w6249
                intro hS6250
                refine ⟨⟨hS6250.cell 0 rfl 1 rfl, trivial⟩, forallC ?_ (forallN)⟩
                refine seg 2 [] [0, 2, 4, 11, 12, 13, 195] [(0, (.slice A_p0 p0.length c_p0)), (2, (.bool p2)), (4, (.pointer (some ⟨g4824, 0, none⟩))), (11, (.int .i64 x5853)), (12, (.int .i64 x6120)), (13, (.pointer (some ⟨g6130, 0, none⟩))), (195, (.bool p2))] [] (fun fb => by kernel_rfl) rfl trivial ?_
                refine WL.setB 195 h6225 rfl ?_
                refine segF 9 [.v (.int .i64 p1.Height)] [0, 2, 4, 11, 12, 13, 202] [(0, (.slice A_p0 p0.length c_p0)), (2, (.bool p2)), (4, (.pointer (some ⟨g4824, 0, none⟩))), (11, (.int .i64 x5853)), (12, (.int .i64 x6120)), (13, (.pointer (some ⟨g6130, 0, none⟩))), (202, (.bool (decide (w64 (x5853 + 1) < p1.Height))))] [] [0] [(5, ⟨g4824, 1, none⟩, (.int .i64 p1.Height))] (fun fb => by kernel_rfl) rfl trivial rfl ?_
                refine WL.setB 202 h6237 rfl ?_
                refine seg 31 [] [0, 2, 4, 11, 12, 224] [(0, (.slice A_p0 p0.length c_p0)), (2, (.bool p2)), (4, (.pointer (some ⟨g4824, 0, none⟩))), (11, (.int .i64 x5853)), (12, (.int .i64 x6120)), (224, (.bool false))] [] (fun fb => by kernel_rfl) rfl trivial ?_
                refine WL.done rfl ?_
                injection hx6224 with hx6224
                exact WX.to Kx6223 false [0, 2, 4, 11, 12, 224] rfl ⟨(hS6250.subR [0, 1]).sub [0] (by decide), hx6224.symm⟩
              rintro y6254 w6251 ⟨hS6252, hq6253⟩
              subst hq6253
              refine WX.next ?_
              rcases br_some hl6126 with ⟨h6255, hl6126⟩ | ⟨h6255, hl6126⟩
              · refine WC.condT2 (fun fb => by kernel_rfl) h6255 ?_
                refine WC.seq ?_
                refine WC.region ?_
                refine seg 1 [] [6] [(6, (.bool false))] [] (fun fb => by kernel_rfl) rfl trivial ?_
                refine WL.done rfl ?_
                refine WX.next ?_
                refine WC.ret ?_
                injection hl6126 with hl6126
                subst hl6126
                injection hl5859 with hl5859
                subst hl5859
                injection hf with hf
                subst hf
                exact WX.blockR (WX.thenR (WX.thenR (WX.blockR (WX.blockR (WX.thenR (WX.thenR (WX.blockR (WX.thenR (WX.ret_ [] (.bool false) [] (fun fb => by kernel_rfl) trivial ⟨_, rfl, rfl, hS6252.keep⟩)))))))))
              refine WC.condF2 (fun fb => by kernel_rfl) h6255 ?_
              refine WC.skip ?_
              refine WX.blockN (WX.next ?_)
              refine WC.region ?_
              refine seg 3 [] [0, 2, 4, 11, 12] [(0, (.slice A_p0 p0.length c_p0)), (2, (.bool p2)), (4, (.pointer (some ⟨g4824, 0, none⟩))), (11, (.int .i64 x5853)), (12, (.int .i64 (w64 (x6120 + 1))))] [] (fun fb => by kernel_rfl) rfl trivial ?_
              refine WL.done rfl ?_
              exact WX.again k6123 (Nat.lt_succ_self _) (w64 (x6120 + 1)) [0, 2, 4, 11, 12] rfl ⟨(hS6252.subR [0, 1]).sub [0] (by decide), hl6126⟩
            refine WC.condF2 (fun fb => by kernel_rfl) h6127 ?_
            refine WC.exit ?_
            injection hl6126 with hl6126
            exact WX.thenX (WX.thenX (WX.blockHere (WX.to Kx6121 () [0, 2, 4, 11] rfl ⟨(hS6125.subR [0, 1]).sub [0] (by decide), hl6126.symm⟩)))
        rintro y6259 w6256 ⟨hS6257, hq6258⟩
        subst hq6258
        have hl5859 := sum_inr hl5859
        refine WX.blockN (WX.next ?_)
        refine WC.region ?_
        refine seg 3 [] [0, 2, 4, 11] [(0, (.slice A_p0 p0.length c_p0)), (2, (.bool p2)), (4, (.pointer (some ⟨g4824, 0, none⟩))), (11, (.int .i64 (w64 (x5853 + 1))))] [] (fun fb => by kernel_rfl) rfl trivial ?_
        refine WL.done rfl ?_
        exact WX.again k5856 (Nat.lt_succ_self _) (w64 (x5853 + 1)) [0, 2, 4, 11] rfl ⟨(hS6257.subR [0, 1]).sub [0] (by decide), hl5859⟩
      refine WC.condF2 (fun fb => by kernel_rfl) h5860 ?_
      refine WC.exit ?_
      injection hl5859 with hl5859
      exact WX.thenX (WX.thenX (WX.blockHere (WX.to Kx5854 () [] rfl ⟨(hS5858.subR [0, 1]).sub [] (by decide), hl5859.symm⟩)))
  rintro y6264 w6261 ⟨hS6262, hq6263⟩
  subst hq6263
  have hf := sum_inr hf
  refine WX.next ?_
  refine WC.seq ?_
  refine WC.region ?_
  refine seg 1 [] [6] [(6, (.bool true))] [] (fun fb => by kernel_rfl) rfl trivial ?_
  refine WL.done rfl ?_
  refine WX.next ?_
  refine WC.ret ?_
  injection hf with hf
  subst hf
  exact WX.ret_ [] (.bool true) [] (fun fb => by kernel_rfl) trivial ⟨_, rfl, rfl, hS6262.keep⟩
theorem top_colour_calls (p0 : Machine) (p1 : Config) (p2 : Int) (A_p0_Actions : Option Addr) (c_p0_Actions : Nat) (A_p1_Cells : Option Addr) (c_p1_Cells : Nat) (r : Int) (w : World) (hR0 : RO NoS w (rowR enc_Action A_p0_Actions c_p0_Actions p0.Actions)) (hR1 : RO NoS w (rowR encInt A_p1_Cells c_p1_Cells p1.Cells)) (hf : top_colour p0 p1 p2 = some r) :
    CallsR Try.prog 39 #[(.agg #[(.int .i64 p0.States), (.int .i64 p0.Symbols), (.slice A_p0_Actions p0.Actions.length c_p0_Actions)]), (.agg #[(.int .i64 p1.State), (.int .i64 p1.At), (.slice A_p1_Cells p1.Cells.length c_p1_Cells)]), (.int .i64 p2)] w (fun v w' => v = (.int .i64 r) ∧ Keeps NoS w w') := by
  have hS : St NoS w w [rowR enc_Action A_p0_Actions c_p0_Actions p0.Actions, rowR encInt A_p1_Cells c_p1_Cells p1.Cells] [] := St.init (ro_cons hR0 (ro_cons hR1 (ro_nil _ _)))
  refine enter 30 Try.func39 rfl Try.ntmps39 rfl ?_
  unfold top_colour at hf
  refine WC.seq ?_
  refine WC.region ?_
  refine WL.new hS 3 [] (fun g => (.pointer (some ⟨g, 0, none⟩))) (.cells #[(.int .i64 p0.States), (.int .i64 p0.Symbols), (.slice A_p0_Actions p0.Actions.length c_p0_Actions)] 24 (0, 0)) [] (fun fb g => by kernel_rfl) trivial (fun g6301 w6302 hS6303 => ?_)
  refine ⟨trivial, ?_⟩
  refine WL.new hS6303 4 [] (fun g => (.pointer (some ⟨g, 0, none⟩))) (.cells #[(.int .i64 p1.State), (.int .i64 p1.At), (.slice A_p1_Cells p1.Cells.length c_p1_Cells)] 27 (0, 0)) [] (fun fb g => by kernel_rfl) trivial (fun g6305 w6306 hS6307 => ?_)
  refine ⟨trivial, ?_⟩
  refine seg 3 [] [2, 3, 4] [(2, (.int .i64 p2)), (3, (.pointer (some ⟨g6301, 0, none⟩))), (4, (.pointer (some ⟨g6305, 0, none⟩)))] [] (fun fb => by kernel_rfl) rfl trivial ?_
  refine WL.done rfl ?_
  refine WX.next ?_
  refine WC.seq ?_
  refine WC.seq ?_
  refine WC.region ?_
  refine seg 4 [.v (.int .i64 p1.At)] [2, 3, 4, 10] [(2, (.int .i64 p2)), (3, (.pointer (some ⟨g6301, 0, none⟩))), (4, (.pointer (some ⟨g6305, 0, none⟩))), (10, (.bool (p2 == p1.At)))] [.cell ⟨g6305, 1, none⟩ (.int .i64 p1.At)] (fun fb => by kernel_rfl) rfl ⟨hS6307.cell 0 rfl 1 rfl, trivial⟩ ?_
  refine WL.done rfl ?_
  refine WX.next ?_
  rcases br_some hf with ⟨h6309, hf⟩ | ⟨h6309, hf⟩
  · refine WC.condT2 (fun fb => by kernel_rfl) h6309 ?_
    refine WC.seq ?_
    obtain ⟨h6314, hf⟩ := as_some hf
    refine WC.regionD ([(1, ⟨g6301, 1, none⟩, (.int .i64 p0.Symbols)), (3, ⟨g6305, 0, none⟩, (.int .i64 p1.State)), (5, ⟨g6301, 1, none⟩, (.int .i64 p0.Symbols)), (9, ⟨g6305, 2, none⟩, (.slice A_p1_Cells p1.Cells.length c_p1_Cells)), (12, ((adr A_p1_Cells).add ((p2).toNat * 1)), (.int .i64 (rdD p1.Cells p2 0)))], [0, 1, 2, 3, 4, 5, 6, 7, 8, 9, 10, 11, 12, 13, 14], [[], [0], [], [2], [], [4], [2, 3, 4, 5], [0, 1, 2, 3, 4, 5, 6], [], [8], [], [8, 9, 10], [8, 9, 10, 11], [0, 1, 2, 3, 4, 5, 6, 7, 8, 9, 10, 11, 12], [0, 1, 2, 3, 4, 5, 6, 7, 8, 9, 10, 11, 12, 13]]) [[0, 1, 2, 3, 4, 5, 6, 7, 8, 9, 10, 11, 12, 13, 14]] (by kernel_rfl) (by kernel_rfl) (NoPanic.seq (NoPanic.seq (NoPanic.body))) ?_
    have hS6312 := hS6307.drew
    revert hS6312
    generalize World.drew w6306 = w6311
    intro hS6312
    refine ⟨⟨hS6312.cell 1 rfl 1 rfl, hS6312.cell 0 rfl 0 rfl, hS6312.cell 1 rfl 1 rfl, hS6312.cell 0 rfl 2 rfl, rowR.cell (hS6312.rd 1).1 0 h6314.1 h6314.2 0 rfl, trivial⟩, forallC ?_ (forallN)⟩
    refine segF 15 [.v (.int .i64 p0.Symbols), .v (.int .i64 p1.State), .v (.int .i64 p0.Symbols), .v (.slice A_p1_Cells p1.Cells.length c_p1_Cells), .v (.int .i64 (rdD p1.Cells p2 0))] [6] [(6, (.int .i64 (w64 ((w64 (p0.Symbols + (w64 (p1.State * p0.Symbols)))) + (rdD p1.Cells p2 0)))))] [.idx A_p1_Cells p2 p1.Cells.length] [0, 1, 2, 3, 4] [(1, ⟨g6301, 1, none⟩, (.int .i64 p0.Symbols)), (3, ⟨g6305, 0, none⟩, (.int .i64 p1.State)), (5, ⟨g6301, 1, none⟩, (.int .i64 p0.Symbols)), (9, ⟨g6305, 2, none⟩, (.slice A_p1_Cells p1.Cells.length c_p1_Cells)), (12, ((adr A_p1_Cells).add ((p2).toNat * 1)), (.int .i64 (rdD p1.Cells p2 0)))] (fun fb => by kernel_rfl) rfl ⟨rowR.adr (hS6312.rd 1).1 h6314.1 h6314.2, trivial⟩ rfl ?_
    refine WL.done rfl ?_
    refine WX.next ?_
    refine WC.ret ?_
    injection hf with hf
    subst hf
    exact WX.thenR (WX.ret_ [] (.int .i64 (w64 ((w64 (p0.Symbols + (w64 (p1.State * p0.Symbols)))) + (rdD p1.Cells p2 0)))) [] (fun fb => by kernel_rfl) trivial ⟨_, rfl, rfl, hS6312.keep⟩)
  refine WC.condF2 (fun fb => by kernel_rfl) h6309 ?_
  refine WC.skip ?_
  refine WX.next ?_
  refine WC.seq ?_
  refine WC.region ?_
  refine seg 3 [.v (.slice A_p1_Cells p1.Cells.length c_p1_Cells)] [26, 27] [(26, (.slice A_p1_Cells p1.Cells.length c_p1_Cells)), (27, (.int .i64 p2))] [.cell ⟨g6305, 2, none⟩ (.slice A_p1_Cells p1.Cells.length c_p1_Cells)] (fun fb => by kernel_rfl) rfl ⟨hS6307.cell 0 rfl 2 rfl, trivial⟩ ?_
  obtain ⟨h6315, hf⟩ := as_some hf
  refine seg 6 [.v (.int .i64 (rdD p1.Cells p2 0))] [6] [(6, (.int .i64 (rdD p1.Cells p2 0)))] [.idx A_p1_Cells p2 p1.Cells.length, .cell ((adr A_p1_Cells).add ((p2).toNat * 1)) (.int .i64 (rdD p1.Cells p2 0))] (fun fb => by kernel_rfl) rfl ⟨rowR.adr (hS6307.rd 1).1 h6315.1 h6315.2, rowR.cell (hS6307.rd 1).1 0 h6315.1 h6315.2 0 rfl, trivial⟩ ?_
  refine WL.done rfl ?_
  refine WX.next ?_
  refine WC.ret ?_
  injection hf with hf
  subst hf
  exact WX.ret_ [] (.int .i64 (rdD p1.Cells p2 0)) [] (fun fb => by kernel_rfl) trivial ⟨_, rfl, rfl, hS6307.keep⟩
theorem top_shows_calls (k : Nat) (p0 : List Tile) (p1 : Machine) (p2 : Config) (p3 : Pattern) (A_p0 : Option Addr) (c_p0 : Nat) (A_p1_Actions : Option Addr) (c_p1_Actions : Nat) (A_p2_Cells : Option Addr) (c_p2_Cells : Nat) (A_p3_Cells : Option Addr) (c_p3_Cells : Nat) (r : Bool) (w : World) (hR0 : RO NoS w (rowR enc_Tile A_p0 c_p0 p0)) (hR1 : RO NoS w (rowR enc_Action A_p1_Actions c_p1_Actions p1.Actions)) (hR2 : RO NoS w (rowR encInt A_p2_Cells c_p2_Cells p2.Cells)) (hR3 : RO NoS w (rowR encInt A_p3_Cells c_p3_Cells p3.Cells)) (hf : top_shows k p0 p1 p2 p3 = some r) :
    CallsR Try.prog 38 #[(.slice A_p0 p0.length c_p0), (.agg #[(.int .i64 p1.States), (.int .i64 p1.Symbols), (.slice A_p1_Actions p1.Actions.length c_p1_Actions)]), (.agg #[(.int .i64 p2.State), (.int .i64 p2.At), (.slice A_p2_Cells p2.Cells.length c_p2_Cells)]), (.agg #[(.int .i64 p3.Width), (.int .i64 p3.Height), (.slice A_p3_Cells p3.Cells.length c_p3_Cells)])] w (fun v w' => v = (.bool r) ∧ Keeps NoS w w') := by
  have hS : St NoS w w [rowR enc_Tile A_p0 c_p0 p0, rowR enc_Action A_p1_Actions c_p1_Actions p1.Actions, rowR encInt A_p2_Cells c_p2_Cells p2.Cells, rowR encInt A_p3_Cells c_p3_Cells p3.Cells] [] := St.init (ro_cons hR0 (ro_cons hR1 (ro_cons hR2 (ro_cons hR3 (ro_nil _ _)))))
  refine enter 73 Try.func38 rfl Try.ntmps38 rfl ?_
  unfold top_shows at hf
  refine WC.seq ?_
  refine WC.region ?_
  refine WL.new hS 5 [] (fun g => (.pointer (some ⟨g, 0, none⟩))) (.cells #[(.int .i64 p1.States), (.int .i64 p1.Symbols), (.slice A_p1_Actions p1.Actions.length c_p1_Actions)] 24 (0, 0)) [] (fun fb g => by kernel_rfl) trivial (fun g6285 w6286 hS6287 => ?_)
  refine ⟨trivial, ?_⟩
  refine WL.new hS6287 6 [] (fun g => (.pointer (some ⟨g, 0, none⟩))) (.cells #[(.int .i64 p2.State), (.int .i64 p2.At), (.slice A_p2_Cells p2.Cells.length c_p2_Cells)] 27 (0, 0)) [] (fun fb g => by kernel_rfl) trivial (fun g6289 w6290 hS6291 => ?_)
  refine ⟨trivial, ?_⟩
  refine WL.new hS6291 7 [] (fun g => (.pointer (some ⟨g, 0, none⟩))) (.cells #[(.int .i64 p3.Width), (.int .i64 p3.Height), (.slice A_p3_Cells p3.Cells.length c_p3_Cells)] 31 (0, 0)) [] (fun fb g => by kernel_rfl) trivial (fun g6293 w6294 hS6295 => ?_)
  refine ⟨trivial, ?_⟩
  refine seg 4 [] [0, 5, 6, 7] [(0, (.slice A_p0 p0.length c_p0)), (5, (.pointer (some ⟨g6285, 0, none⟩))), (6, (.pointer (some ⟨g6289, 0, none⟩))), (7, (.pointer (some ⟨g6293, 0, none⟩)))] [] (fun fb => by kernel_rfl) rfl trivial ?_
  refine WL.done rfl ?_
  refine WX.next ?_
  refine WC.seq ?_
  refine WC.seq ?_
  refine WC.region ?_
  refine seg 6 [.v (.int .i64 p3.Width), .v (.slice A_p2_Cells p2.Cells.length c_p2_Cells)] [0, 5, 6, 7, 16] [(0, (.slice A_p0 p0.length c_p0)), (5, (.pointer (some ⟨g6285, 0, none⟩))), (6, (.pointer (some ⟨g6289, 0, none⟩))), (7, (.pointer (some ⟨g6293, 0, none⟩))), (16, (.bool (p3.Width != (p2.Cells.length : Int))))] [.cell ⟨g6293, 0, none⟩ (.int .i64 p3.Width), .cell ⟨g6289, 2, none⟩ (.slice A_p2_Cells p2.Cells.length c_p2_Cells)] (fun fb => by kernel_rfl) rfl ⟨hS6295.cell 0 rfl 0 rfl, hS6295.cell 1 rfl 2 rfl, trivial⟩ ?_
  refine WL.done rfl ?_
  refine WX.next ?_
  rcases br_some hf with ⟨h6297, hf⟩ | ⟨h6297, hf⟩
  · refine WC.condT2 (fun fb => by kernel_rfl) h6297 ?_
    refine WC.seq ?_
    refine WC.region ?_
    refine seg 1 [] [8] [(8, (.bool false))] [] (fun fb => by kernel_rfl) rfl trivial ?_
    refine WL.done rfl ?_
    refine WX.next ?_
    refine WC.ret ?_
    injection hf with hf
    subst hf
    exact WX.thenR (WX.ret_ [] (.bool false) [] (fun fb => by kernel_rfl) trivial ⟨_, rfl, rfl, hS6295.keep⟩)
  refine WC.condF2 (fun fb => by kernel_rfl) h6297 ?_
  refine WC.skip ?_
  refine WX.next ?_
  refine WC.seq ?_
  refine WC.seq ?_
  refine WC.region ?_
  refine seg 1 [] [0, 5, 6, 7, 9] [(0, (.slice A_p0 p0.length c_p0)), (5, (.pointer (some ⟨g6285, 0, none⟩))), (6, (.pointer (some ⟨g6289, 0, none⟩))), (7, (.pointer (some ⟨g6293, 0, none⟩))), (9, (.int .i64 0))] [] (fun fb => by kernel_rfl) rfl trivial ?_
  refine WL.done rfl ?_
  refine WX.next ?_
  obtain ⟨x6355, hx6356, hf⟩ := bind_some hf
  refine WC.cutN (T := Unit) (fun t => [(0, (.slice A_p0 p0.length c_p0)), (7, (.pointer (some ⟨g6293, 0, none⟩)))]) (fun t w1 => St NoS w w1 [rowR enc_Tile A_p0 c_p0 p0, rowR enc_Action A_p1_Actions c_p1_Actions p1.Actions, rowR encInt A_p2_Cells c_p2_Cells p2.Cells, rowR encInt A_p3_Cells c_p3_Cells p3.Cells] [blk g6293 (.cells #[(.int .i64 p3.Width), (.int .i64 p3.Height), (.slice A_p3_Cells p3.Cells.length c_p3_Cells)] 31 (0, 0))] ∧ x6355 = .inr t) (fun Kx6355 => ?_) ?_
  ·
    refine WC.block ?_
    refine WC.loop (T := Int) (fun t => [(0, (.slice A_p0 p0.length c_p0)), (5, (.pointer (some ⟨g6285, 0, none⟩))), (6, (.pointer (some ⟨g6289, 0, none⟩))), (7, (.pointer (some ⟨g6293, 0, none⟩))), (9, (.int .i64 t))]) (fun n t w1 => St NoS w w1 [rowR enc_Tile A_p0 c_p0 p0, rowR enc_Action A_p1_Actions c_p1_Actions p1.Actions, rowR encInt A_p2_Cells c_p2_Cells p2.Cells, rowR encInt A_p3_Cells c_p3_Cells p3.Cells] [blk g6285 (.cells #[(.int .i64 p1.States), (.int .i64 p1.Symbols), (.slice A_p1_Actions p1.Actions.length c_p1_Actions)] 24 (0, 0)), blk g6289 (.cells #[(.int .i64 p2.State), (.int .i64 p2.At), (.slice A_p2_Cells p2.Cells.length c_p2_Cells)] 27 (0, 0)), blk g6293 (.cells #[(.int .i64 p3.Width), (.int .i64 p3.Height), (.slice A_p3_Cells p3.Cells.length c_p3_Cells)] 31 (0, 0))] ∧ top_shows.l0 n t p0 p1 p2 p3 = some x6355) k 0 [0, 5, 6, 7, 9] rfl ⟨(hS6295.subR [0, 1, 2, 3]).sub [2, 1, 0] (by decide), hx6356⟩ ?_
    rintro k6357 x6354 w6358 ⟨hS6359, hl6360⟩
    cases k6357 with
    | zero => rw [top_shows.l0] at hl6360; cases hl6360
    | succ k6357 =>
      rw [top_shows.l0] at hl6360
      refine WC.seq ?_
      refine WC.seq ?_
      refine WC.region ?_
      refine seg 4 [.v (.int .i64 p3.Width)] [0, 5, 6, 7, 9, 20] [(0, (.slice A_p0 p0.length c_p0)), (5, (.pointer (some ⟨g6285, 0, none⟩))), (6, (.pointer (some ⟨g6289, 0, none⟩))), (7, (.pointer (some ⟨g6293, 0, none⟩))), (9, (.int .i64 x6354)), (20, (.bool (decide (x6354 < p3.Width))))] [.cell ⟨g6293, 0, none⟩ (.int .i64 p3.Width)] (fun fb => by kernel_rfl) rfl ⟨hS6359.cell 2 rfl 0 rfl, trivial⟩ ?_
      refine WL.done rfl ?_
      refine WX.next ?_
      rcases br_some hl6360 with ⟨h6361, hl6360⟩ | ⟨h6361, hl6360⟩
      · refine WC.condT2 (fun fb => by kernel_rfl) h6361 ?_
        refine WC.skip ?_
        refine WX.next ?_
        refine WC.seq ?_
        refine WC.block ?_
        refine WC.seq ?_
        obtain ⟨h6373, hl6360⟩ := as_some hl6360
        obtain ⟨h6374, hl6360⟩ := as_some hl6360
        refine WC.regionD ([(2, ⟨g6293, 2, none⟩, (.slice A_p3_Cells p3.Cells.length c_p3_Cells)), (5, ((adr A_p3_Cells).add ((x6354).toNat * 1)), (.int .i64 (rdD p3.Cells x6354 0))), (8, (((adr A_p0).add (((rdD p3.Cells x6354 0)).toNat * 4)).add 2), (.int .i64 ((rdD p0 (rdD p3.Cells x6354 0) z_Tile).S))), (9, ⟨g6285, 0, none⟩, (.int .i64 p1.States)), (9, ⟨g6285, 1, none⟩, (.int .i64 p1.Symbols)), (9, ⟨g6285, 2, none⟩, (.slice A_p1_Actions p1.Actions.length c_p1_Actions)), (10, ⟨g6289, 0, none⟩, (.int .i64 p2.State)), (10, ⟨g6289, 1, none⟩, (.int .i64 p2.At)), (10, ⟨g6289, 2, none⟩, (.slice A_p2_Cells p2.Cells.length c_p2_Cells))], [0, 1, 2, 3, 4, 5, 6, 7, 8, 9, 10, 11, 13], [[], [], [1], [], [1, 2, 3], [1, 2, 3, 4], [0, 1, 2, 3, 4, 5], [0, 1, 2, 3, 4, 5, 6], [0, 1, 2, 3, 4, 5, 6, 7], [], [], [], [9, 10, 11], [0, 1, 2, 3, 4, 5, 6, 7, 8, 9, 10, 11, 12]]) [[0, 1, 2, 3, 4, 5, 6, 7, 8, 9, 10, 11, 12, 13]] (by kernel_rfl) (by kernel_rfl) (NoPanic.seq (NoPanic.block (NoPanic.seq (NoPanic.seq (NoPanic.block (NoPanic.seq (NoPanic.body))))))) ?_
        have hS6370 := hS6359.drew
        revert hS6370
        generalize World.drew w6358 = w6369
        intro hS6370
        refine ⟨⟨hS6370.cell 2 rfl 2 rfl, rowR.cell (hS6370.rd 3).1 0 h6373.1 h6373.2 0 rfl, rowR.cell (hS6370.rd 0).1 z_Tile h6374.1 h6374.2 2 rfl, hS6370.cell 0 rfl 0 rfl, hS6370.cell 0 rfl 1 rfl, hS6370.cell 0 rfl 2 rfl, hS6370.cell 1 rfl 0 rfl, hS6370.cell 1 rfl 1 rfl, hS6370.cell 1 rfl 2 rfl, trivial⟩, forallC ?_ (forallN)⟩
        refine segF 12 [.v (.slice A_p3_Cells p3.Cells.length c_p3_Cells), .v (.int .i64 (rdD p3.Cells x6354 0)), .v (.int .i64 ((rdD p0 (rdD p3.Cells x6354 0) z_Tile).S)), .v (.int .i64 p1.States), .v (.int .i64 p1.Symbols), .v (.slice A_p1_Actions p1.Actions.length c_p1_Actions), .v (.int .i64 p2.State), .v (.int .i64 p2.At), .v (.slice A_p2_Cells p2.Cells.length c_p2_Cells)] [0, 5, 6, 7, 9, 31, 32, 33, 34] [(0, (.slice A_p0 p0.length c_p0)), (5, (.pointer (some ⟨g6285, 0, none⟩))), (6, (.pointer (some ⟨g6289, 0, none⟩))), (7, (.pointer (some ⟨g6293, 0, none⟩))), (9, (.int .i64 x6354)), (31, (.int .i64 ((rdD p0 (rdD p3.Cells x6354 0) z_Tile).S))), (32, (.agg #[(.int .i64 p1.States), (.int .i64 p1.Symbols), (.slice A_p1_Actions p1.Actions.length c_p1_Actions)])), (33, (.agg #[(.int .i64 p2.State), (.int .i64 p2.At), (.slice A_p2_Cells p2.Cells.length c_p2_Cells)])), (34, (.int .i64 x6354))] [.idx A_p3_Cells x6354 p3.Cells.length, .idx A_p0 (rdD p3.Cells x6354 0) p0.length] [0, 1, 2, 3, 4, 5, 6, 7, 8] [(2, ⟨g6293, 2, none⟩, (.slice A_p3_Cells p3.Cells.length c_p3_Cells)), (5, ((adr A_p3_Cells).add ((x6354).toNat * 1)), (.int .i64 (rdD p3.Cells x6354 0))), (8, (((adr A_p0).add (((rdD p3.Cells x6354 0)).toNat * 4)).add 2), (.int .i64 ((rdD p0 (rdD p3.Cells x6354 0) z_Tile).S))), (9, ⟨g6285, 0, none⟩, (.int .i64 p1.States)), (9, ⟨g6285, 1, none⟩, (.int .i64 p1.Symbols)), (9, ⟨g6285, 2, none⟩, (.slice A_p1_Actions p1.Actions.length c_p1_Actions)), (10, ⟨g6289, 0, none⟩, (.int .i64 p2.State)), (10, ⟨g6289, 1, none⟩, (.int .i64 p2.At)), (10, ⟨g6289, 2, none⟩, (.slice A_p2_Cells p2.Cells.length c_p2_Cells))] (fun fb => by kernel_rfl) rfl ⟨rowR.adr (hS6370.rd 3).1 h6373.1 h6373.2, rowR.adr (hS6370.rd 0).1 h6374.1 h6374.2, trivial⟩ rfl ?_
        obtain ⟨t6375, ht6376, hl6360⟩ := bind_some hl6360
        refine WL.call (some 35) 39 #[(.agg #[(.int .i64 p1.States), (.int .i64 p1.Symbols), (.slice A_p1_Actions p1.Actions.length c_p1_Actions)]), (.agg #[(.int .i64 p2.State), (.int .i64 p2.At), (.slice A_p2_Cells p2.Cells.length c_p2_Cells)]), (.int .i64 x6354)] (fun fb => by kernel_rfl) (top_colour_calls p1 p2 x6354 A_p1_Actions c_p1_Actions A_p2_Cells c_p2_Cells t6375 _ (hS6370.rd 1) (hS6370.rd 2) ht6376) (fun v w6377 hR6378 => ?_)
        obtain ⟨rfl, hk_⟩ := hR6378
        have hS6379 := hS6370.keepN hk_
        refine ⟨⟨hS6379.cell 2 rfl 2 rfl, rowR.cell (hS6379.rd 3).1 0 h6373.1 h6373.2 0 rfl, rowR.cell (hS6379.rd 0).1 z_Tile h6374.1 h6374.2 2 rfl, trivial⟩, ?_⟩
        refine seg 14 [] [0, 5, 6, 7, 9, 36] [(0, (.slice A_p0 p0.length c_p0)), (5, (.pointer (some ⟨g6285, 0, none⟩))), (6, (.pointer (some ⟨g6289, 0, none⟩))), (7, (.pointer (some ⟨g6293, 0, none⟩))), (9, (.int .i64 x6354)), (36, (.bool (((rdD p0 (rdD p3.Cells x6354 0) z_Tile).S) != t6375)))] [] (fun fb => by kernel_rfl) rfl trivial ?_
        refine WL.done rfl ?_
        refine WX.next ?_
        rcases br_some hl6360 with ⟨h6380, hl6360⟩ | ⟨h6380, hl6360⟩
        · refine WC.condT2 (fun fb => by kernel_rfl) h6380 ?_
          refine WC.seq ?_
          refine WC.region ?_
          refine seg 1 [] [8] [(8, (.bool false))] [] (fun fb => by kernel_rfl) rfl trivial ?_
          refine WL.done rfl ?_
          refine WX.next ?_
          refine WC.ret ?_
          injection hl6360 with hl6360
          subst hl6360
          injection hf with hf
          subst hf
          exact WX.blockR (WX.thenR (WX.thenR (WX.blockR (WX.thenR (WX.ret_ [] (.bool false) [] (fun fb => by kernel_rfl) trivial ⟨_, rfl, rfl, hS6379.keep⟩)))))
        refine WC.condF2 (fun fb => by kernel_rfl) h6380 ?_
        refine WC.skip ?_
        refine WX.blockN (WX.next ?_)
        refine WC.region ?_
        refine seg 3 [] [0, 5, 6, 7, 9] [(0, (.slice A_p0 p0.length c_p0)), (5, (.pointer (some ⟨g6285, 0, none⟩))), (6, (.pointer (some ⟨g6289, 0, none⟩))), (7, (.pointer (some ⟨g6293, 0, none⟩))), (9, (.int .i64 (w64 (x6354 + 1))))] [] (fun fb => by kernel_rfl) rfl trivial ?_
        refine WL.done rfl ?_
        exact WX.again k6357 (Nat.lt_succ_self _) (w64 (x6354 + 1)) [0, 5, 6, 7, 9] rfl ⟨(hS6379.subR [0, 1, 2, 3]).sub [0, 1, 2] (by decide), hl6360⟩
      refine WC.condF2 (fun fb => by kernel_rfl) h6361 ?_
      refine WC.exit ?_
      injection hl6360 with hl6360
      exact WX.thenX (WX.thenX (WX.blockHere (WX.to Kx6355 () [0, 7] rfl ⟨(hS6359.subR [0, 1, 2, 3]).sub [2] (by decide), hl6360.symm⟩)))
  rintro y6384 w6381 ⟨hS6382, hq6383⟩
  subst hq6383
  have hf := sum_inr hf
  refine WX.next ?_
  refine WC.seq ?_
  refine WC.seq ?_
  refine WC.region ?_
  refine seg 1 [] [0, 7, 10] [(0, (.slice A_p0 p0.length c_p0)), (7, (.pointer (some ⟨g6293, 0, none⟩))), (10, (.int .i64 0))] [] (fun fb => by kernel_rfl) rfl trivial ?_
  refine WL.done rfl ?_
  refine WX.next ?_
  obtain ⟨x6410, hx6411, hf⟩ := bind_some hf
  refine WC.cutN (T := Unit) (fun t => []) (fun t w1 => St NoS w w1 [rowR enc_Tile A_p0 c_p0 p0, rowR enc_Action A_p1_Actions c_p1_Actions p1.Actions, rowR encInt A_p2_Cells c_p2_Cells p2.Cells, rowR encInt A_p3_Cells c_p3_Cells p3.Cells] [] ∧ x6410 = .inr t) (fun Kx6410 => ?_) ?_
  ·
    refine WC.block ?_
    refine WC.loop (T := Int) (fun t => [(0, (.slice A_p0 p0.length c_p0)), (7, (.pointer (some ⟨g6293, 0, none⟩))), (10, (.int .i64 t))]) (fun n t w1 => St NoS w w1 [rowR enc_Tile A_p0 c_p0 p0, rowR enc_Action A_p1_Actions c_p1_Actions p1.Actions, rowR encInt A_p2_Cells c_p2_Cells p2.Cells, rowR encInt A_p3_Cells c_p3_Cells p3.Cells] [blk g6293 (.cells #[(.int .i64 p3.Width), (.int .i64 p3.Height), (.slice A_p3_Cells p3.Cells.length c_p3_Cells)] 31 (0, 0))] ∧ top_shows.l1 n t p0 p3 = some x6410) k 0 [0, 7, 10] rfl ⟨(hS6382.subR [0, 1, 2, 3]).sub [0] (by decide), hx6411⟩ ?_
    rintro k6412 x6409 w6413 ⟨hS6414, hl6415⟩
    cases k6412 with
    | zero => rw [top_shows.l1] at hl6415; cases hl6415
    | succ k6412 =>
      rw [top_shows.l1] at hl6415
      refine WC.seq ?_
      refine WC.seq ?_
      refine WC.region ?_
      refine seg 4 [.v (.int .i64 p3.Height)] [0, 7, 10, 40] [(0, (.slice A_p0 p0.length c_p0)), (7, (.pointer (some ⟨g6293, 0, none⟩))), (10, (.int .i64 x6409)), (40, (.bool (decide (x6409 < p3.Height))))] [.cell ⟨g6293, 1, none⟩ (.int .i64 p3.Height)] (fun fb => by kernel_rfl) rfl ⟨hS6414.cell 0 rfl 1 rfl, trivial⟩ ?_
      refine WL.done rfl ?_
      refine WX.next ?_
      rcases br_some hl6415 with ⟨h6416, hl6415⟩ | ⟨h6416, hl6415⟩
      · refine WC.condT2 (fun fb => by kernel_rfl) h6416 ?_
        refine WC.skip ?_
        refine WX.next ?_
        refine WC.seq ?_
        refine WC.block ?_
        refine WC.seq ?_
        refine WC.region ?_
        refine seg 7 [.v (.slice A_p3_Cells p3.Cells.length c_p3_Cells), .v (.int .i64 p3.Width)] [0, 7, 10, 43, 45, 49] [(0, (.slice A_p0 p0.length c_p0)), (7, (.pointer (some ⟨g6293, 0, none⟩))), (10, (.int .i64 x6409)), (43, (.slice A_p0 p0.length c_p0)), (45, (.slice A_p3_Cells p3.Cells.length c_p3_Cells)), (49, (.int .i64 (w64 (x6409 * p3.Width))))] [.cell ⟨g6293, 2, none⟩ (.slice A_p3_Cells p3.Cells.length c_p3_Cells), .cell ⟨g6293, 0, none⟩ (.int .i64 p3.Width)] (fun fb => by kernel_rfl) rfl ⟨hS6414.cell 0 rfl 2 rfl, hS6414.cell 0 rfl 0 rfl, trivial⟩ ?_
        obtain ⟨h6417, hl6415⟩ := as_some hl6415
        refine seg 9 [.v (.int .i64 (rdD p3.Cells (w64 (x6409 * p3.Width)) 0))] [0, 7, 10, 43, 51] [(0, (.slice A_p0 p0.length c_p0)), (7, (.pointer (some ⟨g6293, 0, none⟩))), (10, (.int .i64 x6409)), (43, (.slice A_p0 p0.length c_p0)), (51, (.int .i64 (rdD p3.Cells (w64 (x6409 * p3.Width)) 0)))] [.idx A_p3_Cells (w64 (x6409 * p3.Width)) p3.Cells.length, .cell ((adr A_p3_Cells).add ((w64 (x6409 * p3.Width)).toNat * 1)) (.int .i64 (rdD p3.Cells (w64 (x6409 * p3.Width)) 0))] (fun fb => by kernel_rfl) rfl ⟨rowR.adr (hS6414.rd 3).1 h6417.1 h6417.2, rowR.cell (hS6414.rd 3).1 0 h6417.1 h6417.2 0 rfl, trivial⟩ ?_
        obtain ⟨h6418, hl6415⟩ := as_some hl6415
        refine seg 14 [.v (.int .i64 ((rdD p0 (rdD p3.Cells (w64 (x6409 * p3.Width)) 0) z_Tile).W))] [0, 7, 10, 56] [(0, (.slice A_p0 p0.length c_p0)), (7, (.pointer (some ⟨g6293, 0, none⟩))), (10, (.int .i64 x6409)), (56, (.bool (((rdD p0 (rdD p3.Cells (w64 (x6409 * p3.Width)) 0) z_Tile).W) != 0)))] [.idx A_p0 (rdD p3.Cells (w64 (x6409 * p3.Width)) 0) p0.length, .cell (((adr A_p0).add (((rdD p3.Cells (w64 (x6409 * p3.Width)) 0)).toNat * 4)).add 3) (.int .i64 ((rdD p0 (rdD p3.Cells (w64 (x6409 * p3.Width)) 0) z_Tile).W))] (fun fb => by kernel_rfl) rfl ⟨rowR.adr (hS6414.rd 0).1 h6418.1 h6418.2, rowR.cell (hS6414.rd 0).1 z_Tile h6418.1 h6418.2 3 rfl, trivial⟩ ?_
        obtain ⟨b6421, hv6422, hl6415⟩ := bind_some hl6415
        refine WL.cutV (T := Unit) 30 (fun t => [(72, (.bool b6421)), (0, (.slice A_p0 p0.length c_p0)), (7, (.pointer (some ⟨g6293, 0, none⟩))), (10, (.int .i64 x6409))]) (fun t => True) (fun K => ?_) ?_
        ·
          rcases br_some hv6422 with ⟨h6423, hv6422⟩ | ⟨h6423, hv6422⟩
          ·
            refine WL.setB 56 h6423 rfl ?_
            refine seg 30 [] [0, 7, 10, 72] [(0, (.slice A_p0 p0.length c_p0)), (7, (.pointer (some ⟨g6293, 0, none⟩))), (10, (.int .i64 x6409)), (72, (.bool true))] [] (fun fb => by kernel_rfl) rfl trivial ?_
            injection hv6422 with hv6422
            subst hv6422
            exact WL.toV K () [72, 0, 7, 10] rfl trivial
          refine WL.setB 56 h6423 rfl ?_
          refine seg 23 [.v (.slice A_p3_Cells p3.Cells.length c_p3_Cells), .v (.int .i64 p3.Width)] [0, 7, 10, 56, 57, 59, 65] [(0, (.slice A_p0 p0.length c_p0)), (7, (.pointer (some ⟨g6293, 0, none⟩))), (10, (.int .i64 x6409)), (56, (.bool false)), (57, (.slice A_p0 p0.length c_p0)), (59, (.slice A_p3_Cells p3.Cells.length c_p3_Cells)), (65, (.int .i64 (w64 ((w64 ((w64 (x6409 + 1)) * p3.Width)) - 1))))] [.cell ⟨g6293, 2, none⟩ (.slice A_p3_Cells p3.Cells.length c_p3_Cells), .cell ⟨g6293, 0, none⟩ (.int .i64 p3.Width)] (fun fb => by kernel_rfl) rfl ⟨hS6414.cell 0 rfl 2 rfl, hS6414.cell 0 rfl 0 rfl, trivial⟩ ?_
          obtain ⟨h6424, hv6422⟩ := as_some hv6422
          refine seg 25 [.v (.int .i64 (rdD p3.Cells (w64 ((w64 ((w64 (x6409 + 1)) * p3.Width)) - 1)) 0))] [0, 7, 10, 56, 57, 67] [(0, (.slice A_p0 p0.length c_p0)), (7, (.pointer (some ⟨g6293, 0, none⟩))), (10, (.int .i64 x6409)), (56, (.bool false)), (57, (.slice A_p0 p0.length c_p0)), (67, (.int .i64 (rdD p3.Cells (w64 ((w64 ((w64 (x6409 + 1)) * p3.Width)) - 1)) 0)))] [.idx A_p3_Cells (w64 ((w64 ((w64 (x6409 + 1)) * p3.Width)) - 1)) p3.Cells.length, .cell ((adr A_p3_Cells).add ((w64 ((w64 ((w64 (x6409 + 1)) * p3.Width)) - 1)).toNat * 1)) (.int .i64 (rdD p3.Cells (w64 ((w64 ((w64 (x6409 + 1)) * p3.Width)) - 1)) 0))] (fun fb => by kernel_rfl) rfl ⟨rowR.adr (hS6414.rd 3).1 h6424.1 h6424.2, rowR.cell (hS6414.rd 3).1 0 h6424.1 h6424.2 0 rfl, trivial⟩ ?_
          obtain ⟨h6425, hv6422⟩ := as_some hv6422
          refine seg 30 [.v (.int .i64 ((rdD p0 (rdD p3.Cells (w64 ((w64 ((w64 (x6409 + 1)) * p3.Width)) - 1)) 0) z_Tile).E))] [0, 7, 10, 72] [(0, (.slice A_p0 p0.length c_p0)), (7, (.pointer (some ⟨g6293, 0, none⟩))), (10, (.int .i64 x6409)), (72, (.bool (((rdD p0 (rdD p3.Cells (w64 ((w64 ((w64 (x6409 + 1)) * p3.Width)) - 1)) 0) z_Tile).E) != 0)))] [.idx A_p0 (rdD p3.Cells (w64 ((w64 ((w64 (x6409 + 1)) * p3.Width)) - 1)) 0) p0.length, .cell (((adr A_p0).add (((rdD p3.Cells (w64 ((w64 ((w64 (x6409 + 1)) * p3.Width)) - 1)) 0)).toNat * 4)).add 1) (.int .i64 ((rdD p0 (rdD p3.Cells (w64 ((w64 ((w64 (x6409 + 1)) * p3.Width)) - 1)) 0) z_Tile).E))] (fun fb => by kernel_rfl) rfl ⟨rowR.adr (hS6414.rd 0).1 h6425.1 h6425.2, rowR.cell (hS6414.rd 0).1 z_Tile h6425.1 h6425.2 1 rfl, trivial⟩ ?_
          injection hv6422 with hv6422
          subst hv6422
          exact WL.toV K () [72, 0, 7, 10] rfl trivial
        rintro _ _
        refine WL.done rfl ?_
        refine WX.next ?_
        rcases br_some hl6415 with ⟨h6426, hl6415⟩ | ⟨h6426, hl6415⟩
        · refine WC.condT2 (fun fb => by kernel_rfl) h6426 ?_
          refine WC.seq ?_
          refine WC.region ?_
          refine seg 1 [] [8] [(8, (.bool false))] [] (fun fb => by kernel_rfl) rfl trivial ?_
          refine WL.done rfl ?_
          refine WX.next ?_
          refine WC.ret ?_
          injection hl6415 with hl6415
          subst hl6415
          injection hf with hf
          subst hf
          exact WX.blockR (WX.thenR (WX.thenR (WX.blockR (WX.thenR (WX.ret_ [] (.bool false) [] (fun fb => by kernel_rfl) trivial ⟨_, rfl, rfl, hS6414.keep⟩)))))
        refine WC.condF2 (fun fb => by kernel_rfl) h6426 ?_
        refine WC.skip ?_
        refine WX.blockN (WX.next ?_)
        refine WC.region ?_
        refine seg 3 [] [0, 7, 10] [(0, (.slice A_p0 p0.length c_p0)), (7, (.pointer (some ⟨g6293, 0, none⟩))), (10, (.int .i64 (w64 (x6409 + 1))))] [] (fun fb => by kernel_rfl) rfl trivial ?_
        refine WL.done rfl ?_
        exact WX.again k6412 (Nat.lt_succ_self _) (w64 (x6409 + 1)) [0, 7, 10] rfl ⟨(hS6414.subR [0, 1, 2, 3]).sub [0] (by decide), hl6415⟩
      refine WC.condF2 (fun fb => by kernel_rfl) h6416 ?_
      refine WC.exit ?_
      injection hl6415 with hl6415
      exact WX.thenX (WX.thenX (WX.blockHere (WX.to Kx6410 () [] rfl ⟨(hS6414.subR [0, 1, 2, 3]).sub [] (by decide), hl6415.symm⟩)))
  rintro y6430 w6427 ⟨hS6428, hq6429⟩
  subst hq6429
  have hf := sum_inr hf
  refine WX.next ?_
  refine WC.seq ?_
  refine WC.region ?_
  refine seg 1 [] [8] [(8, (.bool true))] [] (fun fb => by kernel_rfl) rfl trivial ?_
  refine WL.done rfl ?_
  refine WX.next ?_
  refine WC.ret ?_
  injection hf with hf
  subst hf
  exact WX.ret_ [] (.bool true) [] (fun fb => by kernel_rfl) trivial ⟨_, rfl, rfl, hS6428.keep⟩
theorem top_TopMachine_calls (k : Nat) (p0 : Machine) (p1 : Config) (p2 : Shown) (A_p0_Actions : Option Addr) (c_p0_Actions : Nat) (A_p1_Cells : Option Addr) (c_p1_Cells : Nat) (A_p2_P_Cells : Option Addr) (c_p2_P_Cells : Nat) (r : Bool) (w : World) (hR0 : RO NoS w (rowR enc_Action A_p0_Actions c_p0_Actions p0.Actions)) (hR1 : RO NoS w (rowR encInt A_p1_Cells c_p1_Cells p1.Cells)) (hR2 : RO NoS w (rowR encInt A_p2_P_Cells c_p2_P_Cells p2.P.Cells)) (hf : top_TopMachine k p0 p1 p2 = some r) :
    CallsR Try.prog 9 #[(.agg #[(.int .i64 p0.States), (.int .i64 p0.Symbols), (.slice A_p0_Actions p0.Actions.length c_p0_Actions)]), (.agg #[(.int .i64 p1.State), (.int .i64 p1.At), (.slice A_p1_Cells p1.Cells.length c_p1_Cells)]), (.agg #[(.int .i64 p2.P.Width), (.int .i64 p2.P.Height), (.slice A_p2_P_Cells p2.P.Cells.length c_p2_P_Cells), (.int .i64 p2.Height)])] w (fun v w' => v = (.bool r) ∧ Keeps NoS w w') := by
  have hS : St NoS w w [rowR enc_Action A_p0_Actions c_p0_Actions p0.Actions, rowR encInt A_p1_Cells c_p1_Cells p1.Cells, rowR encInt A_p2_P_Cells c_p2_P_Cells p2.P.Cells] [] := St.init (ro_cons hR0 (ro_cons hR1 (ro_cons hR2 (ro_nil _ _))))
  refine enter 160 Try.func9 rfl Try.ntmps9 rfl ?_
  unfold top_TopMachine at hf
  refine WC.seq ?_
  refine WC.region ?_
  refine WL.new hS 3 [] (fun g => (.pointer (some ⟨g, 0, none⟩))) (.cells #[(.int .i64 p0.States), (.int .i64 p0.Symbols), (.slice A_p0_Actions p0.Actions.length c_p0_Actions)] 24 (0, 0)) [] (fun fb g => by kernel_rfl) trivial (fun g1 w2 hS3 => ?_)
  refine ⟨trivial, ?_⟩
  refine WL.new hS3 4 [] (fun g => (.pointer (some ⟨g, 0, none⟩))) (.cells #[(.int .i64 p1.State), (.int .i64 p1.At), (.slice A_p1_Cells p1.Cells.length c_p1_Cells)] 27 (0, 0)) [] (fun fb g => by kernel_rfl) trivial (fun g5 w6 hS7 => ?_)
  refine ⟨trivial, ?_⟩
  refine WL.new hS7 5 [] (fun g => (.pointer (some ⟨g, 0, none⟩))) (.cells #[(.int .i64 p2.P.Width), (.int .i64 p2.P.Height), (.slice A_p2_P_Cells p2.P.Cells.length c_p2_P_Cells), (.int .i64 p2.Height)] 69 (0, 0)) [] (fun fb g => by kernel_rfl) trivial (fun g9 w10 hS11 => ?_)
  refine ⟨trivial, ?_⟩
  refine seg 4 [] [3, 4, 5] [(3, (.pointer (some ⟨g1, 0, none⟩))), (4, (.pointer (some ⟨g5, 0, none⟩))), (5, (.pointer (some ⟨g9, 0, none⟩)))] [] (fun fb => by kernel_rfl) rfl trivial ?_
  refine WL.done rfl ?_
  refine WX.next ?_
  refine WC.seq ?_
  refine WC.region ?_
  refine seg 2 [.v (.int .i64 p2.P.Width), .v (.int .i64 p2.P.Height), .v (.slice A_p2_P_Cells p2.P.Cells.length c_p2_P_Cells)] [3, 4, 5, 22] [(3, (.pointer (some ⟨g1, 0, none⟩))), (4, (.pointer (some ⟨g5, 0, none⟩))), (5, (.pointer (some ⟨g9, 0, none⟩))), (22, (.agg #[(.int .i64 p2.P.Width), (.int .i64 p2.P.Height), (.slice A_p2_P_Cells p2.P.Cells.length c_p2_P_Cells)]))] [.cell ⟨g9, 0, none⟩ (.int .i64 p2.P.Width), .cell ⟨g9, 1, none⟩ (.int .i64 p2.P.Height), .cell ⟨g9, 2, none⟩ (.slice A_p2_P_Cells p2.P.Cells.length c_p2_P_Cells)] (fun fb => by kernel_rfl) rfl ⟨hS11.cell 0 rfl 0 rfl, hS11.cell 0 rfl 1 rfl, hS11.cell 0 rfl 2 rfl, trivial⟩ ?_
  refine WL.new hS11 7 [] (fun g => (.pointer (some ⟨g, 0, none⟩))) (.cells #[(.int .i64 0), (.int .i64 0), (.slice none 0 0)] 31 (0, 0)) [] (fun fb g => by kernel_rfl) trivial (fun g13 w14 hS15 => ?_)
  refine ⟨trivial, ?_⟩
  refine WL.store hS15 0 rfl [(0, (.int .i64 p2.P.Width)), (1, (.int .i64 p2.P.Height)), (2, (.slice A_p2_P_Cells p2.P.Cells.length c_p2_P_Cells))] #[(.int .i64 p2.P.Width), (.int .i64 p2.P.Height), (.slice A_p2_P_Cells p2.P.Cells.length c_p2_P_Cells)] (fun fb => by kernel_rfl) (by kernel_rfl) rfl [1, 2, 3] (by decide) (by decide) (fun w17 hS18 => ?_)
  refine ⟨trivial, ?_⟩
  refine WL.done rfl ?_
  refine WX.next ?_
  refine WC.seq ?_
  refine WC.region ?_
  refine seg 1 [.v (.int .i64 p0.States), .v (.int .i64 p0.Symbols), .v (.slice A_p0_Actions p0.Actions.length c_p0_Actions)] [3, 4, 5, 7, 24] [(3, (.pointer (some ⟨g1, 0, none⟩))), (4, (.pointer (some ⟨g5, 0, none⟩))), (5, (.pointer (some ⟨g9, 0, none⟩))), (7, (.pointer (some ⟨g13, 0, none⟩))), (24, (.agg #[(.int .i64 p0.States), (.int .i64 p0.Symbols), (.slice A_p0_Actions p0.Actions.length c_p0_Actions)]))] [.cell ⟨g1, 0, none⟩ (.int .i64 p0.States), .cell ⟨g1, 1, none⟩ (.int .i64 p0.Symbols), .cell ⟨g1, 2, none⟩ (.slice A_p0_Actions p0.Actions.length c_p0_Actions)] (fun fb => by kernel_rfl) rfl ⟨hS18.cell 3 rfl 0 rfl, hS18.cell 3 rfl 1 rfl, hS18.cell 3 rfl 2 rfl, trivial⟩ ?_
  obtain ⟨t1461, ht1462, hf⟩ := bind_some hf
  refine WL.call (some 25) 25 #[(.agg #[(.int .i64 p0.States), (.int .i64 p0.Symbols), (.slice A_p0_Actions p0.Actions.length c_p0_Actions)])] (fun fb => by kernel_rfl) (machine_Tiles_calls _ p0 A_p0_Actions c_p0_Actions t1461 _ (hS18.rd 0) ht1462) (fun v w1463 hR1464 => ?_)
  obtain ⟨A1466, c1467, rfl, hk_⟩ := hR1464
  have hS1465 : St NoS w w1463 [rowR enc_Action A_p0_Actions c_p0_Actions p0.Actions, rowR encInt A_p1_Cells c_p1_Cells p1.Cells, rowR encInt A_p2_P_Cells c_p2_P_Cells p2.P.Cells] [rowO 65 enc_Tile A1466 c1467 t1461.1, blk g13 (.cells #[(.int .i64 p2.P.Width), (.int .i64 p2.P.Height), (.slice A_p2_P_Cells p2.P.Cells.length c_p2_P_Cells)] 31 (0, 0)), blk g9 (.cells #[(.int .i64 p2.P.Width), (.int .i64 p2.P.Height), (.slice A_p2_P_Cells p2.P.Cells.length c_p2_P_Cells), (.int .i64 p2.Height)] 69 (0, 0)), blk g5 (.cells #[(.int .i64 p1.State), (.int .i64 p1.At), (.slice A_p1_Cells p1.Cells.length c_p1_Cells)] 27 (0, 0)), blk g1 (.cells #[(.int .i64 p0.States), (.int .i64 p0.Symbols), (.slice A_p0_Actions p0.Actions.length c_p0_Actions)] 24 (0, 0))] := hS18.call hk_ [] [0, 1, 2, 3] (fun g hg => hg.elim) (by simp) (by decide)
  refine ⟨trivial, ?_⟩
  refine seg 7 [] [3, 4, 5, 7, 8, 9] [(3, (.pointer (some ⟨g1, 0, none⟩))), (4, (.pointer (some ⟨g5, 0, none⟩))), (5, (.pointer (some ⟨g9, 0, none⟩))), (7, (.pointer (some ⟨g13, 0, none⟩))), (8, (.slice A1466 t1461.1.length c1467)), (9, (.int .i64 t1461.2))] [] (fun fb => by kernel_rfl) rfl trivial ?_
  refine WL.done rfl ?_
  refine WX.next ?_
  refine WC.seq ?_
  refine WC.seq ?_
  refine WC.region ?_
  refine seg 3 [] [3, 4, 5, 7, 8, 30] [(3, (.pointer (some ⟨g1, 0, none⟩))), (4, (.pointer (some ⟨g5, 0, none⟩))), (5, (.pointer (some ⟨g9, 0, none⟩))), (7, (.pointer (some ⟨g13, 0, none⟩))), (8, (.slice A1466 t1461.1.length c1467)), (30, (.bool (t1461.2 != 0)))] [] (fun fb => by kernel_rfl) rfl trivial ?_
  obtain ⟨x1562, hx1563, hf⟩ := bind_some hf
  refine WL.cutW (T := Bool) 8 (fun t => [(3, (.pointer (some ⟨g1, 0, none⟩))), (4, (.pointer (some ⟨g5, 0, none⟩))), (5, (.pointer (some ⟨g9, 0, none⟩))), (7, (.pointer (some ⟨g13, 0, none⟩))), (8, (.slice A1466 t1461.1.length c1467)), (35, (.bool t))]) (fun t w1 => (St NoS w w1 [rowR enc_Action A_p0_Actions c_p0_Actions p0.Actions, rowR encInt A_p1_Cells c_p1_Cells p1.Cells, rowR encInt A_p2_P_Cells c_p2_P_Cells p2.P.Cells] [blk g1 (.cells #[(.int .i64 p0.States), (.int .i64 p0.Symbols), (.slice A_p0_Actions p0.Actions.length c_p0_Actions)] 24 (0, 0)), blk g5 (.cells #[(.int .i64 p1.State), (.int .i64 p1.At), (.slice A_p1_Cells p1.Cells.length c_p1_Cells)] 27 (0, 0)), blk g9 (.cells #[(.int .i64 p2.P.Width), (.int .i64 p2.P.Height), (.slice A_p2_P_Cells p2.P.Cells.length c_p2_P_Cells), (.int .i64 p2.Height)] 69 (0, 0)), blk g13 (.cells #[(.int .i64 p2.P.Width), (.int .i64 p2.P.Height), (.slice A_p2_P_Cells p2.P.Cells.length c_p2_P_Cells)] 31 (0, 0)), rowO 65 enc_Tile A1466 c1467 t1461.1] ∧ x1562 = t) ∧ CellsOK [] w1) (fun K => ?_) ?_
  ·
    rcases br_some hx1563 with ⟨h1564, hx1563⟩ | ⟨h1564, hx1563⟩
    ·
      refine WL.setB 30 h1564 rfl ?_
      refine seg 8 [] [3, 4, 5, 7, 8, 35] [(3, (.pointer (some ⟨g1, 0, none⟩))), (4, (.pointer (some ⟨g5, 0, none⟩))), (5, (.pointer (some ⟨g9, 0, none⟩))), (7, (.pointer (some ⟨g13, 0, none⟩))), (8, (.slice A1466 t1461.1.length c1467)), (35, (.bool true))] [] (fun fb => by kernel_rfl) rfl trivial ?_
      injection hx1563 with hx1563
      exact WL.to K true [3, 4, 5, 7, 8, 35] rfl ⟨⟨(hS1465.subR [0, 1, 2]).sub [4, 3, 2, 1, 0] (by decide), hx1563.symm⟩, trivial⟩
    refine WL.setB 30 h1564 rfl ?_
    refine seg 5 [.v (.int .i64 p0.States), .v (.int .i64 p0.Symbols), .v (.slice A_p0_Actions p0.Actions.length c_p0_Actions), .v (.int .i64 p1.State), .v (.int .i64 p1.At), .v (.slice A_p1_Cells p1.Cells.length c_p1_Cells)] [3, 4, 5, 7, 8, 30, 31, 32] [(3, (.pointer (some ⟨g1, 0, none⟩))), (4, (.pointer (some ⟨g5, 0, none⟩))), (5, (.pointer (some ⟨g9, 0, none⟩))), (7, (.pointer (some ⟨g13, 0, none⟩))), (8, (.slice A1466 t1461.1.length c1467)), (30, (.bool false)), (31, (.agg #[(.int .i64 p0.States), (.int .i64 p0.Symbols), (.slice A_p0_Actions p0.Actions.length c_p0_Actions)])), (32, (.agg #[(.int .i64 p1.State), (.int .i64 p1.At), (.slice A_p1_Cells p1.Cells.length c_p1_Cells)]))] [.cell ⟨g1, 0, none⟩ (.int .i64 p0.States), .cell ⟨g1, 1, none⟩ (.int .i64 p0.Symbols), .cell ⟨g1, 2, none⟩ (.slice A_p0_Actions p0.Actions.length c_p0_Actions), .cell ⟨g5, 0, none⟩ (.int .i64 p1.State), .cell ⟨g5, 1, none⟩ (.int .i64 p1.At), .cell ⟨g5, 2, none⟩ (.slice A_p1_Cells p1.Cells.length c_p1_Cells)] (fun fb => by kernel_rfl) rfl ⟨hS1465.cell 4 rfl 0 rfl, hS1465.cell 4 rfl 1 rfl, hS1465.cell 4 rfl 2 rfl, hS1465.cell 3 rfl 0 rfl, hS1465.cell 3 rfl 1 rfl, hS1465.cell 3 rfl 2 rfl, trivial⟩ ?_
    obtain ⟨t1565, ht1566, hx1563⟩ := bind_some hx1563
    refine WL.call (some 33) 18 #[(.agg #[(.int .i64 p0.States), (.int .i64 p0.Symbols), (.slice A_p0_Actions p0.Actions.length c_p0_Actions)]), (.agg #[(.int .i64 p1.State), (.int .i64 p1.At), (.slice A_p1_Cells p1.Cells.length c_p1_Cells)])] (fun fb => by kernel_rfl) (machine_Fits_calls _ p0 p1 A_p0_Actions c_p0_Actions A_p1_Cells c_p1_Cells t1565 _ (hS1465.rd 0) (hS1465.rd 1) ht1566) (fun v w1567 hR1568 => ?_)
    obtain ⟨rfl, hk_⟩ := hR1568
    have hS1569 := hS1465.keepN hk_
    refine ⟨trivial, ?_⟩
    refine seg 8 [] [3, 4, 5, 7, 8, 35] [(3, (.pointer (some ⟨g1, 0, none⟩))), (4, (.pointer (some ⟨g5, 0, none⟩))), (5, (.pointer (some ⟨g9, 0, none⟩))), (7, (.pointer (some ⟨g13, 0, none⟩))), (8, (.slice A1466 t1461.1.length c1467)), (35, (.bool (!t1565)))] [] (fun fb => by kernel_rfl) rfl trivial ?_
    injection hx1563 with hx1563
    exact WL.to K (!t1565) [3, 4, 5, 7, 8, 35] rfl ⟨⟨(hS1569.subR [0, 1, 2]).sub [4, 3, 2, 1, 0] (by decide), hx1563.symm⟩, trivial⟩
  rintro y1570 w1572 ⟨⟨hS1573, hq1571⟩, hF1574⟩
  subst hq1571
  refine seg 9 [] [3, 4, 5, 7, 8, 36] [(3, (.pointer (some ⟨g1, 0, none⟩))), (4, (.pointer (some ⟨g5, 0, none⟩))), (5, (.pointer (some ⟨g9, 0, none⟩))), (7, (.pointer (some ⟨g13, 0, none⟩))), (8, (.slice A1466 t1461.1.length c1467)), (36, (.bool x1562))] [] (fun fb => by kernel_rfl) rfl trivial ?_
  refine WL.cutV (T := Bool) 14 (fun t => [(41, (.bool t)), (3, (.pointer (some ⟨g1, 0, none⟩))), (4, (.pointer (some ⟨g5, 0, none⟩))), (5, (.pointer (some ⟨g9, 0, none⟩))), (7, (.pointer (some ⟨g13, 0, none⟩))), (8, (.slice A1466 t1461.1.length c1467))]) (fun t => t = (x1562 || (decide ((p2.P.Cells.length : Int) > 5000)))) (fun K => ?_) ?_
  ·
    rcases Bool.eq_false_or_eq_true x1562 with h1575 | h1575
    ·
      refine WL.setB 36 h1575 rfl ?_
      refine seg 14 [] [3, 4, 5, 7, 8, 41] [(3, (.pointer (some ⟨g1, 0, none⟩))), (4, (.pointer (some ⟨g5, 0, none⟩))), (5, (.pointer (some ⟨g9, 0, none⟩))), (7, (.pointer (some ⟨g13, 0, none⟩))), (8, (.slice A1466 t1461.1.length c1467)), (41, (.bool true))] [] (fun fb => by kernel_rfl) rfl trivial ?_
      exact WL.toV K true [41, 3, 4, 5, 7, 8] rfl (by rw [h1575]; rfl)
    refine WL.setB 36 h1575 rfl ?_
    refine seg 14 [.v (.slice A_p2_P_Cells p2.P.Cells.length c_p2_P_Cells)] [3, 4, 5, 7, 8, 41] [(3, (.pointer (some ⟨g1, 0, none⟩))), (4, (.pointer (some ⟨g5, 0, none⟩))), (5, (.pointer (some ⟨g9, 0, none⟩))), (7, (.pointer (some ⟨g13, 0, none⟩))), (8, (.slice A1466 t1461.1.length c1467)), (41, (.bool (decide ((p2.P.Cells.length : Int) > 5000))))] [.cell ⟨g13, 2, none⟩ (.slice A_p2_P_Cells p2.P.Cells.length c_p2_P_Cells)] (fun fb => by kernel_rfl) rfl ⟨hS1573.cell 3 rfl 2 rfl, trivial⟩ ?_
    exact WL.toV K (decide ((p2.P.Cells.length : Int) > 5000)) [41, 3, 4, 5, 7, 8] rfl (by rw [h1575]; rfl)
  rintro b1576 rfl
  refine WL.done rfl ?_
  refine WX.next ?_
  rcases br_some hf with ⟨h1577, hf⟩ | ⟨h1577, hf⟩
  · refine WC.condT2 (fun fb => by kernel_rfl) h1577 ?_
    refine WC.seq ?_
    refine WC.region ?_
    obtain ⟨t4339, ht4340, hf⟩ := bind_some hf
    refine WL.call (some 42) 34 #[] (fun fb => by kernel_rfl) (top_steps_calls _ t4339 _ ht4340) (fun v w4341 hR4342 => ?_)
    obtain ⟨rfl, hk_⟩ := hR4342
    have hS4343 := hS1573.keepN hk_
    refine ⟨trivial, ?_⟩
    refine seg 2 [] [6] [(6, (.bool t4339))] [] (fun fb => by kernel_rfl) rfl trivial ?_
    refine WL.done rfl ?_
    refine WX.next ?_
    refine WC.ret ?_
    injection hf with hf
    subst hf
    exact WX.thenR (WX.ret_ [] (.bool t4339) [] (fun fb => by kernel_rfl) trivial ⟨_, rfl, rfl, hS4343.keep⟩)
  refine WC.condF2 (fun fb => by kernel_rfl) h1577 ?_
  refine WC.skip ?_
  refine WX.next ?_
  refine WC.seq ?_
  refine WC.region ?_
  refine seg 2 [.v (.int .i64 p2.Height)] [3, 4, 7, 8, 44] [(3, (.pointer (some ⟨g1, 0, none⟩))), (4, (.pointer (some ⟨g5, 0, none⟩))), (7, (.pointer (some ⟨g13, 0, none⟩))), (8, (.slice A1466 t1461.1.length c1467)), (44, (.int .i64 p2.Height))] [.cell ⟨g9, 3, none⟩ (.int .i64 p2.Height)] (fun fb => by kernel_rfl) rfl ⟨hS1573.cell 2 rfl 3 rfl, trivial⟩ ?_
  obtain ⟨t4345, ht4346, hf⟩ := bind_some hf
  refine WL.call (some 45) 35 #[(.int .i64 p2.Height), (.int .i64 30)] (fun fb => by kernel_rfl) (top_cycle_calls p2.Height 30 t4345 _ ht4346) (fun v w4347 hR4348 => ?_)
  obtain ⟨rfl, hk_⟩ := hR4348
  have hS4349 := hS1573.keepN hk_
  refine ⟨trivial, ?_⟩
  refine seg 5 [] [3, 4, 7, 8, 10] [(3, (.pointer (some ⟨g1, 0, none⟩))), (4, (.pointer (some ⟨g5, 0, none⟩))), (7, (.pointer (some ⟨g13, 0, none⟩))), (8, (.slice A1466 t1461.1.length c1467)), (10, (.int .i64 (w64 (t4345 + 1))))] [] (fun fb => by kernel_rfl) rfl trivial ?_
  refine WL.done rfl ?_
  refine WX.next ?_
  refine WC.seq ?_
  refine WC.region ?_
  refine seg 3 [.v (.int .i64 p0.States), .v (.int .i64 p0.Symbols), .v (.slice A_p0_Actions p0.Actions.length c_p0_Actions), .v (.int .i64 p1.State), .v (.int .i64 p1.At), .v (.slice A_p1_Cells p1.Cells.length c_p1_Cells)] [3, 4, 7, 8, 10, 48, 49, 50] [(3, (.pointer (some ⟨g1, 0, none⟩))), (4, (.pointer (some ⟨g5, 0, none⟩))), (7, (.pointer (some ⟨g13, 0, none⟩))), (8, (.slice A1466 t1461.1.length c1467)), (10, (.int .i64 (w64 (t4345 + 1)))), (48, (.agg #[(.int .i64 p0.States), (.int .i64 p0.Symbols), (.slice A_p0_Actions p0.Actions.length c_p0_Actions)])), (49, (.agg #[(.int .i64 p1.State), (.int .i64 p1.At), (.slice A_p1_Cells p1.Cells.length c_p1_Cells)])), (50, (.int .i64 (w64 (t4345 + 1))))] [.cell ⟨g1, 0, none⟩ (.int .i64 p0.States), .cell ⟨g1, 1, none⟩ (.int .i64 p0.Symbols), .cell ⟨g1, 2, none⟩ (.slice A_p0_Actions p0.Actions.length c_p0_Actions), .cell ⟨g5, 0, none⟩ (.int .i64 p1.State), .cell ⟨g5, 1, none⟩ (.int .i64 p1.At), .cell ⟨g5, 2, none⟩ (.slice A_p1_Cells p1.Cells.length c_p1_Cells)] (fun fb => by kernel_rfl) rfl ⟨hS4349.cell 0 rfl 0 rfl, hS4349.cell 0 rfl 1 rfl, hS4349.cell 0 rfl 2 rfl, hS4349.cell 1 rfl 0 rfl, hS4349.cell 1 rfl 1 rfl, hS4349.cell 1 rfl 2 rfl, trivial⟩ ?_
  obtain ⟨t4350, ht4351, hf⟩ := bind_some hf
  refine WL.call (some 51) 12 #[(.agg #[(.int .i64 p0.States), (.int .i64 p0.Symbols), (.slice A_p0_Actions p0.Actions.length c_p0_Actions)]), (.agg #[(.int .i64 p1.State), (.int .i64 p1.At), (.slice A_p1_Cells p1.Cells.length c_p1_Cells)]), (.int .i64 (w64 (t4345 + 1)))] (fun fb => by kernel_rfl) (machine_Picture_calls _ p0 p1 (w64 (t4345 + 1)) A_p0_Actions c_p0_Actions A_p1_Cells c_p1_Cells t4350 _ (hS4349.rd 0) (hS4349.rd 1) ht4351) (fun v w4352 hR4353 => ?_)
  obtain ⟨A4355, c4356, rfl, hk_⟩ := hR4353
  have hS4354 : St NoS w w4352 [rowR enc_Action A_p0_Actions c_p0_Actions p0.Actions, rowR encInt A_p1_Cells c_p1_Cells p1.Cells, rowR encInt A_p2_P_Cells c_p2_P_Cells p2.P.Cells] [rowO 3 encInt A4355 c4356 t4350.1.Cells, blk g1 (.cells #[(.int .i64 p0.States), (.int .i64 p0.Symbols), (.slice A_p0_Actions p0.Actions.length c_p0_Actions)] 24 (0, 0)), blk g5 (.cells #[(.int .i64 p1.State), (.int .i64 p1.At), (.slice A_p1_Cells p1.Cells.length c_p1_Cells)] 27 (0, 0)), blk g9 (.cells #[(.int .i64 p2.P.Width), (.int .i64 p2.P.Height), (.slice A_p2_P_Cells p2.P.Cells.length c_p2_P_Cells), (.int .i64 p2.Height)] 69 (0, 0)), blk g13 (.cells #[(.int .i64 p2.P.Width), (.int .i64 p2.P.Height), (.slice A_p2_P_Cells p2.P.Cells.length c_p2_P_Cells)] 31 (0, 0)), rowO 65 enc_Tile A1466 c1467 t1461.1] := hS4349.call hk_ [] [0, 1, 2, 3, 4] (fun g hg => hg.elim) (by simp) (by decide)
  refine ⟨trivial, ?_⟩
  refine seg 7 [] [3, 4, 7, 8, 10, 52, 53] [(3, (.pointer (some ⟨g1, 0, none⟩))), (4, (.pointer (some ⟨g5, 0, none⟩))), (7, (.pointer (some ⟨g13, 0, none⟩))), (8, (.slice A1466 t1461.1.length c1467)), (10, (.int .i64 (w64 (t4345 + 1)))), (52, (.agg #[(.int .i64 t4350.1.Width), (.int .i64 t4350.1.Height), (.slice A4355 t4350.1.Cells.length c4356)])), (53, (.int .i64 t4350.2))] [] (fun fb => by kernel_rfl) rfl trivial ?_
  refine WL.new hS4354 11 [] (fun g => (.pointer (some ⟨g, 0, none⟩))) (.cells #[(.int .i64 0), (.int .i64 0), (.slice none 0 0)] 31 (0, 0)) [] (fun fb g => by kernel_rfl) trivial (fun g4357 w4358 hS4359 => ?_)
  refine ⟨trivial, ?_⟩
  refine WL.store hS4359 0 rfl [(0, (.int .i64 t4350.1.Width)), (1, (.int .i64 t4350.1.Height)), (2, (.slice A4355 t4350.1.Cells.length c4356))] #[(.int .i64 t4350.1.Width), (.int .i64 t4350.1.Height), (.slice A4355 t4350.1.Cells.length c4356)] (fun fb => by kernel_rfl) (by kernel_rfl) rfl [1, 2, 3, 4, 5, 6] (by decide) (by decide) (fun w4361 hS4362 => ?_)
  refine ⟨trivial, ?_⟩
  refine seg 10 [] [3, 4, 7, 8, 10, 11, 12] [(3, (.pointer (some ⟨g1, 0, none⟩))), (4, (.pointer (some ⟨g5, 0, none⟩))), (7, (.pointer (some ⟨g13, 0, none⟩))), (8, (.slice A1466 t1461.1.length c1467)), (10, (.int .i64 (w64 (t4345 + 1)))), (11, (.pointer (some ⟨g4357, 0, none⟩))), (12, (.int .i64 t4350.2))] [] (fun fb => by kernel_rfl) rfl trivial ?_
  refine WL.done rfl ?_
  refine WX.next ?_
  refine WC.seq ?_
  refine WC.regionD ([(0, ⟨g5, 0, none⟩, (.int .i64 p1.State)), (0, ⟨g5, 1, none⟩, (.int .i64 p1.At)), (0, ⟨g5, 2, none⟩, (.slice A_p1_Cells p1.Cells.length c_p1_Cells))], [0, 2], [[], [], [1], [0, 1, 2]]) [[0, 1, 2, 3]] (by kernel_rfl) (by kernel_rfl) (NoPanic.seq (NoPanic.body)) ?_
  have hS4370 := hS4362.drew
  revert hS4370
  generalize World.drew w4361 = w4369
  intro hS4370
  refine ⟨⟨hS4370.cell 3 rfl 0 rfl, hS4370.cell 3 rfl 1 rfl, hS4370.cell 3 rfl 2 rfl, trivial⟩, forallC ?_ (forallN)⟩
  refine segF 1 [.v (.int .i64 p1.State), .v (.int .i64 p1.At), .v (.slice A_p1_Cells p1.Cells.length c_p1_Cells)] [3, 4, 7, 8, 10, 11, 12, 54] [(3, (.pointer (some ⟨g1, 0, none⟩))), (4, (.pointer (some ⟨g5, 0, none⟩))), (7, (.pointer (some ⟨g13, 0, none⟩))), (8, (.slice A1466 t1461.1.length c1467)), (10, (.int .i64 (w64 (t4345 + 1)))), (11, (.pointer (some ⟨g4357, 0, none⟩))), (12, (.int .i64 t4350.2)), (54, (.agg #[(.int .i64 p1.State), (.int .i64 p1.At), (.slice A_p1_Cells p1.Cells.length c_p1_Cells)]))] [] [0, 1, 2] [(0, ⟨g5, 0, none⟩, (.int .i64 p1.State)), (0, ⟨g5, 1, none⟩, (.int .i64 p1.At)), (0, ⟨g5, 2, none⟩, (.slice A_p1_Cells p1.Cells.length c_p1_Cells))] (fun fb => by kernel_rfl) rfl trivial rfl ?_
  refine WL.new hS4370 14 [] (fun g => (.pointer (some ⟨g, 0, none⟩))) (.cells #[(.int .i64 0), (.int .i64 0), (.slice none 0 0)] 27 (0, 0)) [] (fun fb g => by kernel_rfl) trivial (fun g4371 w4372 hS4373 => ?_)
  refine ⟨⟨hS4373.cell 4 rfl 0 rfl, hS4373.cell 4 rfl 1 rfl, hS4373.cell 4 rfl 2 rfl, trivial⟩, ?_⟩
  refine seg 3 [] [3, 4, 7, 8, 10, 11, 12, 13, 14, 54] [(3, (.pointer (some ⟨g1, 0, none⟩))), (4, (.pointer (some ⟨g5, 0, none⟩))), (7, (.pointer (some ⟨g13, 0, none⟩))), (8, (.slice A1466 t1461.1.length c1467)), (10, (.int .i64 (w64 (t4345 + 1)))), (11, (.pointer (some ⟨g4357, 0, none⟩))), (12, (.int .i64 t4350.2)), (13, (.int .i64 0)), (14, (.pointer (some ⟨g4371, 0, none⟩))), (54, (.agg #[(.int .i64 p1.State), (.int .i64 p1.At), (.slice A_p1_Cells p1.Cells.length c_p1_Cells)]))] [] (fun fb => by kernel_rfl) rfl trivial ?_
  refine WL.store hS4373 0 rfl [(0, (.int .i64 p1.State)), (1, (.int .i64 p1.At)), (2, (.slice A_p1_Cells p1.Cells.length c_p1_Cells))] #[(.int .i64 p1.State), (.int .i64 p1.At), (.slice A_p1_Cells p1.Cells.length c_p1_Cells)] (fun fb => by kernel_rfl) (by kernel_rfl) rfl [1, 2, 3, 4, 5, 6, 7] (by decide) (by decide) (fun w4375 hS4376 => ?_)
  refine ⟨trivial, ?_⟩
  refine WL.done rfl ?_
  refine WX.next ?_
  refine WC.seq ?_
  obtain ⟨x4793, hx4794, hf⟩ := bind_some hf
  refine WC.cutN (T := (Int × Int × Int × (List Int)) × (Option Addr) × Nat) (fun t => [(3, (.pointer (some ⟨g1, 0, none⟩))), (4, (.pointer (some ⟨g5, 0, none⟩))), (7, (.pointer (some ⟨g13, 0, none⟩))), (8, (.slice A1466 t1461.1.length c1467)), (10, (.int .i64 (w64 (t4345 + 1)))), (11, (.pointer (some ⟨g4357, 0, none⟩))), (12, (.int .i64 t4350.2)), (13, (.int .i64 t.1.1)), (14, (.pointer (some ⟨g4371, 0, none⟩)))]) (fun t w1 => St NoS w w1 [rowR encInt t.2.1 t.2.2 t.1.2.2.2, rowR enc_Action A_p0_Actions c_p0_Actions p0.Actions, rowR encInt A_p1_Cells c_p1_Cells p1.Cells, rowR encInt A_p2_P_Cells c_p2_P_Cells p2.P.Cells] [blk g1 (.cells #[(.int .i64 p0.States), (.int .i64 p0.Symbols), (.slice A_p0_Actions p0.Actions.length c_p0_Actions)] 24 (0, 0)), blk g5 (.cells #[(.int .i64 p1.State), (.int .i64 p1.At), (.slice A_p1_Cells p1.Cells.length c_p1_Cells)] 27 (0, 0)), blk g13 (.cells #[(.int .i64 p2.P.Width), (.int .i64 p2.P.Height), (.slice A_p2_P_Cells p2.P.Cells.length c_p2_P_Cells)] 31 (0, 0)), rowO 65 enc_Tile A1466 c1467 t1461.1, blk g4357 (.cells #[(.int .i64 t4350.1.Width), (.int .i64 t4350.1.Height), (.slice A4355 t4350.1.Cells.length c4356)] 31 (0, 0)), rowO 3 encInt A4355 c4356 t4350.1.Cells, blk g4371 (.cells #[(.int .i64 t.1.2.1), (.int .i64 t.1.2.2.1), (.slice t.2.1 t.1.2.2.2.length t.2.2)] 27 (0, 0))] ∧ x4793 = t.1) (fun Kx4793 => ?_) ?_
  ·
    refine WC.block ?_
    refine WC.loop (T := (Int × Int × Int × (List Int)) × (Option Addr) × Nat) (fun t => [(3, (.pointer (some ⟨g1, 0, none⟩))), (4, (.pointer (some ⟨g5, 0, none⟩))), (7, (.pointer (some ⟨g13, 0, none⟩))), (8, (.slice A1466 t1461.1.length c1467)), (10, (.int .i64 (w64 (t4345 + 1)))), (11, (.pointer (some ⟨g4357, 0, none⟩))), (12, (.int .i64 t4350.2)), (13, (.int .i64 t.1.1)), (14, (.pointer (some ⟨g4371, 0, none⟩)))]) (fun n t w1 => St NoS w w1 [rowR encInt t.2.1 t.2.2 t.1.2.2.2, rowR enc_Action A_p0_Actions c_p0_Actions p0.Actions, rowR encInt A_p1_Cells c_p1_Cells p1.Cells, rowR encInt A_p2_P_Cells c_p2_P_Cells p2.P.Cells] [blk g1 (.cells #[(.int .i64 p0.States), (.int .i64 p0.Symbols), (.slice A_p0_Actions p0.Actions.length c_p0_Actions)] 24 (0, 0)), blk g5 (.cells #[(.int .i64 p1.State), (.int .i64 p1.At), (.slice A_p1_Cells p1.Cells.length c_p1_Cells)] 27 (0, 0)), blk g13 (.cells #[(.int .i64 p2.P.Width), (.int .i64 p2.P.Height), (.slice A_p2_P_Cells p2.P.Cells.length c_p2_P_Cells)] 31 (0, 0)), rowO 65 enc_Tile A1466 c1467 t1461.1, blk g4357 (.cells #[(.int .i64 t4350.1.Width), (.int .i64 t4350.1.Height), (.slice A4355 t4350.1.Cells.length c4356)] 31 (0, 0)), rowO 3 encInt A4355 c4356 t4350.1.Cells, blk g4371 (.cells #[(.int .i64 t.1.2.1), (.int .i64 t.1.2.2.1), (.slice t.2.1 t.1.2.2.2.length t.2.2)] 27 (0, 0))] ∧ top_TopMachine.l0 n t.1.1 t.1.2.1 t.1.2.2.1 t.1.2.2.2 p0 t4345 = some x4793) k ((0, p1.State, p1.At, p1.Cells), A_p1_Cells, c_p1_Cells) [3, 4, 7, 8, 10, 11, 12, 13, 14] rfl ⟨(hS4376.subR [1, 0, 1, 2]).sub [3, 4, 6, 7, 1, 2, 0] (by decide), hx4794⟩ ?_
    rintro k4795 ⟨⟨x4781, x4782, x4783, l4786⟩, A4784, c4785⟩ w4796 ⟨hS4797, hl4798⟩
    cases k4795 with
    | zero => rw [top_TopMachine.l0] at hl4798; cases hl4798
    | succ k4795 =>
      rw [top_TopMachine.l0] at hl4798
      refine WC.seq ?_
      refine WC.seq ?_
      refine WC.region ?_
      refine seg 3 [] [3, 4, 7, 8, 10, 11, 12, 13, 14, 57] [(3, (.pointer (some ⟨g1, 0, none⟩))), (4, (.pointer (some ⟨g5, 0, none⟩))), (7, (.pointer (some ⟨g13, 0, none⟩))), (8, (.slice A1466 t1461.1.length c1467)), (10, (.int .i64 (w64 (t4345 + 1)))), (11, (.pointer (some ⟨g4357, 0, none⟩))), (12, (.int .i64 t4350.2)), (13, (.int .i64 x4781)), (14, (.pointer (some ⟨g4371, 0, none⟩))), (57, (.bool (decide (x4781 < w64 (t4345 + 1)))))] [] (fun fb => by kernel_rfl) rfl trivial ?_
      refine WL.done rfl ?_
      refine WX.next ?_
      rcases br_some hl4798 with ⟨h4799, hl4798⟩ | ⟨h4799, hl4798⟩
      · refine WC.condT2 (fun fb => by kernel_rfl) h4799 ?_
        refine WC.skip ?_
        refine WX.next ?_
        refine WC.block ?_
        refine WC.seq ?_
        refine WC.region ?_
        refine seg 2 [.v (.int .i64 p0.States), .v (.int .i64 p0.Symbols), .v (.slice A_p0_Actions p0.Actions.length c_p0_Actions), .v (.int .i64 x4782), .v (.int .i64 x4783), .v (.slice A4784 l4786.length c4785)] [3, 4, 7, 8, 10, 11, 12, 13, 14, 59, 60] [(3, (.pointer (some ⟨g1, 0, none⟩))), (4, (.pointer (some ⟨g5, 0, none⟩))), (7, (.pointer (some ⟨g13, 0, none⟩))), (8, (.slice A1466 t1461.1.length c1467)), (10, (.int .i64 (w64 (t4345 + 1)))), (11, (.pointer (some ⟨g4357, 0, none⟩))), (12, (.int .i64 t4350.2)), (13, (.int .i64 x4781)), (14, (.pointer (some ⟨g4371, 0, none⟩))), (59, (.agg #[(.int .i64 p0.States), (.int .i64 p0.Symbols), (.slice A_p0_Actions p0.Actions.length c_p0_Actions)])), (60, (.agg #[(.int .i64 x4782), (.int .i64 x4783), (.slice A4784 l4786.length c4785)]))] [.cell ⟨g1, 0, none⟩ (.int .i64 p0.States), .cell ⟨g1, 1, none⟩ (.int .i64 p0.Symbols), .cell ⟨g1, 2, none⟩ (.slice A_p0_Actions p0.Actions.length c_p0_Actions), .cell ⟨g4371, 0, none⟩ (.int .i64 x4782), .cell ⟨g4371, 1, none⟩ (.int .i64 x4783), .cell ⟨g4371, 2, none⟩ (.slice A4784 l4786.length c4785)] (fun fb => by kernel_rfl) rfl ⟨hS4797.cell 0 rfl 0 rfl, hS4797.cell 0 rfl 1 rfl, hS4797.cell 0 rfl 2 rfl, hS4797.cell 6 rfl 0 rfl, hS4797.cell 6 rfl 1 rfl, hS4797.cell 6 rfl 2 rfl, trivial⟩ ?_
        obtain ⟨t4800, ht4801, hl4798⟩ := bind_some hl4798
        refine WL.call (some 61) 36 #[(.agg #[(.int .i64 p0.States), (.int .i64 p0.Symbols), (.slice A_p0_Actions p0.Actions.length c_p0_Actions)]), (.agg #[(.int .i64 x4782), (.int .i64 x4783), (.slice A4784 l4786.length c4785)])] (fun fb => by kernel_rfl) (top_after_calls p0 (Config.mk x4782 x4783 l4786) A_p0_Actions c_p0_Actions A4784 c4785 t4800 _ (hS4797.rd 1) (hS4797.rd 0) ht4801) (fun v w4802 hR4803 => ?_)
        obtain ⟨A4805, c4806, rfl, hk_, hro0_⟩ := hR4803
        have hS4804 := hS4797.addRo hk_ hro0_ [0] rfl
        refine ⟨trivial, ?_⟩
        refine seg 6 [] [3, 4, 7, 8, 10, 11, 12, 13, 14, 62, 63] [(3, (.pointer (some ⟨g1, 0, none⟩))), (4, (.pointer (some ⟨g5, 0, none⟩))), (7, (.pointer (some ⟨g13, 0, none⟩))), (8, (.slice A1466 t1461.1.length c1467)), (10, (.int .i64 (w64 (t4345 + 1)))), (11, (.pointer (some ⟨g4357, 0, none⟩))), (12, (.int .i64 t4350.2)), (13, (.int .i64 x4781)), (14, (.pointer (some ⟨g4371, 0, none⟩))), (62, (.agg #[(.int .i64 t4800.1.State), (.int .i64 t4800.1.At), (.slice A4805 t4800.1.Cells.length c4806)])), (63, (.bool t4800.2))] [] (fun fb => by kernel_rfl) rfl trivial ?_
        refine WL.new hS4804 15 [] (fun g => (.pointer (some ⟨g, 0, none⟩))) (.cells #[(.int .i64 0), (.int .i64 0), (.slice none 0 0)] 27 (0, 0)) [] (fun fb g => by kernel_rfl) trivial (fun g4807 w4808 hS4809 => ?_)
        refine ⟨trivial, ?_⟩
        refine WL.store hS4809 0 rfl [(0, (.int .i64 t4800.1.State)), (1, (.int .i64 t4800.1.At)), (2, (.slice A4805 t4800.1.Cells.length c4806))] #[(.int .i64 t4800.1.State), (.int .i64 t4800.1.At), (.slice A4805 t4800.1.Cells.length c4806)] (fun fb => by kernel_rfl) (by kernel_rfl) rfl [1, 2, 3, 4, 5, 6, 7] (by decide) (by decide) (fun w4811 hS4812 => ?_)
        refine ⟨trivial, ?_⟩
        refine seg 9 [] [3, 4, 7, 8, 10, 11, 12, 13, 14, 15, 16] [(3, (.pointer (some ⟨g1, 0, none⟩))), (4, (.pointer (some ⟨g5, 0, none⟩))), (7, (.pointer (some ⟨g13, 0, none⟩))), (8, (.slice A1466 t1461.1.length c1467)), (10, (.int .i64 (w64 (t4345 + 1)))), (11, (.pointer (some ⟨g4357, 0, none⟩))), (12, (.int .i64 t4350.2)), (13, (.int .i64 x4781)), (14, (.pointer (some ⟨g4371, 0, none⟩))), (15, (.pointer (some ⟨g4807, 0, none⟩))), (16, (.bool t4800.2))] [] (fun fb => by kernel_rfl) rfl trivial ?_
        refine WL.done rfl ?_
        refine WX.next ?_
        refine WC.seq ?_
        refine WC.seq ?_
        refine WC.region ?_
        refine seg 2 [] [3, 4, 7, 8, 10, 11, 12, 13, 14, 15, 65] [(3, (.pointer (some ⟨g1, 0, none⟩))), (4, (.pointer (some ⟨g5, 0, none⟩))), (7, (.pointer (some ⟨g13, 0, none⟩))), (8, (.slice A1466 t1461.1.length c1467)), (10, (.int .i64 (w64 (t4345 + 1)))), (11, (.pointer (some ⟨g4357, 0, none⟩))), (12, (.int .i64 t4350.2)), (13, (.int .i64 x4781)), (14, (.pointer (some ⟨g4371, 0, none⟩))), (15, (.pointer (some ⟨g4807, 0, none⟩))), (65, (.bool (!t4800.2)))] [] (fun fb => by kernel_rfl) rfl trivial ?_
        refine WL.done rfl ?_
        refine WX.next ?_
        rcases br_some hl4798 with ⟨h4813, hl4798⟩ | ⟨h4813, hl4798⟩
        · refine WC.condT2 (fun fb => by kernel_rfl) h4813 ?_
          refine WC.exit ?_
          injection hl4798 with hl4798
          exact WX.thenX (WX.blockPast (by decide) (WX.thenX (WX.blockHere (WX.to Kx4793 ((x4781, x4782, x4783, l4786), A4784, c4785) [3, 4, 7, 8, 10, 11, 12, 13, 14] rfl ⟨(hS4812.subR [1, 2, 3, 4]).sub [1, 2, 3, 4, 5, 6, 7] (by decide), hl4798.symm⟩))))
        refine WC.condF2 (fun fb => by kernel_rfl) h4813 ?_
        refine WC.skip ?_
        refine WX.next ?_
        refine WC.seq ?_
        refine WC.region ?_
        refine seg 1 [.v (.int .i64 t4800.1.State), .v (.int .i64 t4800.1.At), .v (.slice A4805 t4800.1.Cells.length c4806)] [3, 4, 7, 8, 10, 11, 12, 13, 14, 66] [(3, (.pointer (some ⟨g1, 0, none⟩))), (4, (.pointer (some ⟨g5, 0, none⟩))), (7, (.pointer (some ⟨g13, 0, none⟩))), (8, (.slice A1466 t1461.1.length c1467)), (10, (.int .i64 (w64 (t4345 + 1)))), (11, (.pointer (some ⟨g4357, 0, none⟩))), (12, (.int .i64 t4350.2)), (13, (.int .i64 x4781)), (14, (.pointer (some ⟨g4371, 0, none⟩))), (66, (.agg #[(.int .i64 t4800.1.State), (.int .i64 t4800.1.At), (.slice A4805 t4800.1.Cells.length c4806)]))] [.cell ⟨g4807, 0, none⟩ (.int .i64 t4800.1.State), .cell ⟨g4807, 1, none⟩ (.int .i64 t4800.1.At), .cell ⟨g4807, 2, none⟩ (.slice A4805 t4800.1.Cells.length c4806)] (fun fb => by kernel_rfl) rfl ⟨hS4812.cell 0 rfl 0 rfl, hS4812.cell 0 rfl 1 rfl, hS4812.cell 0 rfl 2 rfl, trivial⟩ ?_
        refine WL.store hS4812 7 rfl [(0, (.int .i64 t4800.1.State)), (1, (.int .i64 t4800.1.At)), (2, (.slice A4805 t4800.1.Cells.length c4806))] #[(.int .i64 t4800.1.State), (.int .i64 t4800.1.At), (.slice A4805 t4800.1.Cells.length c4806)] (fun fb => by kernel_rfl) (by kernel_rfl) rfl [0, 1, 2, 3, 4, 5, 6] (by decide) (by decide) (fun w4814 hS4815 => ?_)
        refine ⟨trivial, ?_⟩
        refine WL.done rfl ?_
        refine WX.next ?_
        refine WC.region ?_
        refine seg 3 [] [3, 4, 7, 8, 10, 11, 12, 13, 14] [(3, (.pointer (some ⟨g1, 0, none⟩))), (4, (.pointer (some ⟨g5, 0, none⟩))), (7, (.pointer (some ⟨g13, 0, none⟩))), (8, (.slice A1466 t1461.1.length c1467)), (10, (.int .i64 (w64 (t4345 + 1)))), (11, (.pointer (some ⟨g4357, 0, none⟩))), (12, (.int .i64 t4350.2)), (13, (.int .i64 (w64 (x4781 + 1)))), (14, (.pointer (some ⟨g4371, 0, none⟩)))] [] (fun fb => by kernel_rfl) rfl trivial ?_
        refine WL.done rfl ?_
        exact WX.blockN (WX.again k4795 (Nat.lt_succ_self _) ((w64 (x4781 + 1), t4800.1.State, t4800.1.At, t4800.1.Cells), A4805, c4806) [3, 4, 7, 8, 10, 11, 12, 13, 14] rfl ⟨(hS4815.subR [0, 2, 3, 4]).sub [2, 3, 4, 5, 6, 7, 0] (by decide), hl4798⟩)
      refine WC.condF2 (fun fb => by kernel_rfl) h4799 ?_
      refine WC.exit ?_
      injection hl4798 with hl4798
      exact WX.thenX (WX.thenX (WX.blockHere (WX.to Kx4793 ((x4781, x4782, x4783, l4786), A4784, c4785) [3, 4, 7, 8, 10, 11, 12, 13, 14] rfl ⟨(hS4797.subR [0, 1, 2, 3]).sub [0, 1, 2, 3, 4, 5, 6] (by decide), hl4798.symm⟩)))
  rintro ⟨y4819, A4790, c4791⟩ w4816 ⟨hS4817, hq4818⟩
  subst hq4818
  refine WX.next ?_
  refine WC.seq ?_
  refine WC.seq ?_
  refine WC.region ?_
  refine seg 4 [] [3, 4, 7, 8, 10, 11, 12, 13, 14, 72] [(3, (.pointer (some ⟨g1, 0, none⟩))), (4, (.pointer (some ⟨g5, 0, none⟩))), (7, (.pointer (some ⟨g13, 0, none⟩))), (8, (.slice A1466 t1461.1.length c1467)), (10, (.int .i64 (w64 (t4345 + 1)))), (11, (.pointer (some ⟨g4357, 0, none⟩))), (12, (.int .i64 t4350.2)), (13, (.int .i64 x4793.1)), (14, (.pointer (some ⟨g4371, 0, none⟩))), (72, (.bool (decide (x4793.1 < w64 (t4345 + 1)))))] [] (fun fb => by kernel_rfl) rfl trivial ?_
  refine WL.cutV (T := Bool) 7 (fun t => [(75, (.bool t)), (3, (.pointer (some ⟨g1, 0, none⟩))), (4, (.pointer (some ⟨g5, 0, none⟩))), (7, (.pointer (some ⟨g13, 0, none⟩))), (8, (.slice A1466 t1461.1.length c1467)), (10, (.int .i64 (w64 (t4345 + 1)))), (11, (.pointer (some ⟨g4357, 0, none⟩))), (12, (.int .i64 t4350.2)), (13, (.int .i64 x4793.1)), (14, (.pointer (some ⟨g4371, 0, none⟩)))]) (fun t => t = ((decide (x4793.1 < w64 (t4345 + 1))) && (t4350.2 != 6))) (fun K => ?_) ?_
  ·
    rcases Bool.eq_false_or_eq_true (decide (x4793.1 < w64 (t4345 + 1))) with h4820 | h4820
    ·
      refine WL.setB 72 h4820 rfl ?_
      refine seg 7 [] [3, 4, 7, 8, 10, 11, 12, 13, 14, 75] [(3, (.pointer (some ⟨g1, 0, none⟩))), (4, (.pointer (some ⟨g5, 0, none⟩))), (7, (.pointer (some ⟨g13, 0, none⟩))), (8, (.slice A1466 t1461.1.length c1467)), (10, (.int .i64 (w64 (t4345 + 1)))), (11, (.pointer (some ⟨g4357, 0, none⟩))), (12, (.int .i64 t4350.2)), (13, (.int .i64 x4793.1)), (14, (.pointer (some ⟨g4371, 0, none⟩))), (75, (.bool (t4350.2 != 6)))] [] (fun fb => by kernel_rfl) rfl trivial ?_
      exact WL.toV K (t4350.2 != 6) [75, 3, 4, 7, 8, 10, 11, 12, 13, 14] rfl (by rw [h4820]; rfl)
    refine WL.setB 72 h4820 rfl ?_
    refine seg 7 [] [3, 4, 7, 8, 10, 11, 12, 13, 14, 75] [(3, (.pointer (some ⟨g1, 0, none⟩))), (4, (.pointer (some ⟨g5, 0, none⟩))), (7, (.pointer (some ⟨g13, 0, none⟩))), (8, (.slice A1466 t1461.1.length c1467)), (10, (.int .i64 (w64 (t4345 + 1)))), (11, (.pointer (some ⟨g4357, 0, none⟩))), (12, (.int .i64 t4350.2)), (13, (.int .i64 x4793.1)), (14, (.pointer (some ⟨g4371, 0, none⟩))), (75, (.bool false))] [] (fun fb => by kernel_rfl) rfl trivial ?_
    exact WL.toV K false [75, 3, 4, 7, 8, 10, 11, 12, 13, 14] rfl (by rw [h4820]; rfl)
  rintro b4821 rfl
  refine seg 8 [] [3, 4, 7, 8, 10, 11, 12, 13, 14, 76] [(3, (.pointer (some ⟨g1, 0, none⟩))), (4, (.pointer (some ⟨g5, 0, none⟩))), (7, (.pointer (some ⟨g13, 0, none⟩))), (8, (.slice A1466 t1461.1.length c1467)), (10, (.int .i64 (w64 (t4345 + 1)))), (11, (.pointer (some ⟨g4357, 0, none⟩))), (12, (.int .i64 t4350.2)), (13, (.int .i64 x4793.1)), (14, (.pointer (some ⟨g4371, 0, none⟩))), (76, (.bool ((decide (x4793.1 < w64 (t4345 + 1))) && (t4350.2 != 6))))] [] (fun fb => by kernel_rfl) rfl trivial ?_
  obtain ⟨x6501, hx6502, hf⟩ := bind_some hf
  refine WL.cutW (T := Bool) 36 (fun t => [(3, (.pointer (some ⟨g1, 0, none⟩))), (4, (.pointer (some ⟨g5, 0, none⟩))), (7, (.pointer (some ⟨g13, 0, none⟩))), (8, (.slice A1466 t1461.1.length c1467)), (14, (.pointer (some ⟨g4371, 0, none⟩))), (104, (.bool t))]) (fun t w1 => (St NoS w w1 [rowR encInt A4790 c4791 x4793.2.2.2, rowR enc_Action A_p0_Actions c_p0_Actions p0.Actions, rowR encInt A_p1_Cells c_p1_Cells p1.Cells, rowR encInt A_p2_P_Cells c_p2_P_Cells p2.P.Cells] [blk g1 (.cells #[(.int .i64 p0.States), (.int .i64 p0.Symbols), (.slice A_p0_Actions p0.Actions.length c_p0_Actions)] 24 (0, 0)), blk g5 (.cells #[(.int .i64 p1.State), (.int .i64 p1.At), (.slice A_p1_Cells p1.Cells.length c_p1_Cells)] 27 (0, 0)), blk g13 (.cells #[(.int .i64 p2.P.Width), (.int .i64 p2.P.Height), (.slice A_p2_P_Cells p2.P.Cells.length c_p2_P_Cells)] 31 (0, 0)), rowO 65 enc_Tile A1466 c1467 t1461.1, blk g4371 (.cells #[(.int .i64 x4793.2.1), (.int .i64 x4793.2.2.1), (.slice A4790 x4793.2.2.2.length c4791)] 27 (0, 0))] ∧ x6501 = t) ∧ CellsOK [] w1) (fun K => ?_) ?_
  ·
    rcases br_some hx6502 with ⟨h6503, hx6502⟩ | ⟨h6503, hx6502⟩
    ·
      refine WL.setB 76 h6503 rfl ?_
      refine seg 36 [] [3, 4, 7, 8, 14, 104] [(3, (.pointer (some ⟨g1, 0, none⟩))), (4, (.pointer (some ⟨g5, 0, none⟩))), (7, (.pointer (some ⟨g13, 0, none⟩))), (8, (.slice A1466 t1461.1.length c1467)), (14, (.pointer (some ⟨g4371, 0, none⟩))), (104, (.bool true))] [] (fun fb => by kernel_rfl) rfl trivial ?_
      injection hx6502 with hx6502
      exact WL.to K true [3, 4, 7, 8, 14, 104] rfl ⟨⟨(hS4817.subR [0, 1, 2, 3]).sub [0, 1, 2, 3, 6] (by decide), hx6502.symm⟩, trivial⟩
    refine WL.setB 76 h6503 rfl ?_
    refine seg 12 [] [3, 4, 7, 8, 10, 11, 12, 14, 76, 80] [(3, (.pointer (some ⟨g1, 0, none⟩))), (4, (.pointer (some ⟨g5, 0, none⟩))), (7, (.pointer (some ⟨g13, 0, none⟩))), (8, (.slice A1466 t1461.1.length c1467)), (10, (.int .i64 (w64 (t4345 + 1)))), (11, (.pointer (some ⟨g4357, 0, none⟩))), (12, (.int .i64 t4350.2)), (14, (.pointer (some ⟨g4371, 0, none⟩))), (76, (.bool false)), (80, (.bool (x4793.1 == (w64 (t4345 + 1)))))] [] (fun fb => by kernel_rfl) rfl trivial ?_
    obtain ⟨x6545, hx6546, hx6502⟩ := bind_some hx6502
    refine WL.cutW (T := Bool) 35 (fun t => [(3, (.pointer (some ⟨g1, 0, none⟩))), (4, (.pointer (some ⟨g5, 0, none⟩))), (7, (.pointer (some ⟨g13, 0, none⟩))), (8, (.slice A1466 t1461.1.length c1467)), (14, (.pointer (some ⟨g4371, 0, none⟩))), (76, (.bool false)), (103, (.bool t))]) (fun t w1 => (St NoS w w1 [rowR encInt A4790 c4791 x4793.2.2.2, rowR enc_Action A_p0_Actions c_p0_Actions p0.Actions, rowR encInt A_p1_Cells c_p1_Cells p1.Cells, rowR encInt A_p2_P_Cells c_p2_P_Cells p2.P.Cells] [blk g1 (.cells #[(.int .i64 p0.States), (.int .i64 p0.Symbols), (.slice A_p0_Actions p0.Actions.length c_p0_Actions)] 24 (0, 0)), blk g5 (.cells #[(.int .i64 p1.State), (.int .i64 p1.At), (.slice A_p1_Cells p1.Cells.length c_p1_Cells)] 27 (0, 0)), blk g13 (.cells #[(.int .i64 p2.P.Width), (.int .i64 p2.P.Height), (.slice A_p2_P_Cells p2.P.Cells.length c_p2_P_Cells)] 31 (0, 0)), rowO 65 enc_Tile A1466 c1467 t1461.1, blk g4371 (.cells #[(.int .i64 x4793.2.1), (.int .i64 x4793.2.2.1), (.slice A4790 x4793.2.2.2.length c4791)] 27 (0, 0))] ∧ x6545 = t) ∧ CellsOK [] w1) (fun K => ?_) ?_
    ·
      rcases br_some hx6546 with ⟨h6547, hx6546⟩ | ⟨h6547, hx6546⟩
      ·
        refine WL.setB 80 h6547 rfl ?_
        refine seg 15 [] [3, 4, 7, 8, 10, 11, 14, 76, 80, 83] [(3, (.pointer (some ⟨g1, 0, none⟩))), (4, (.pointer (some ⟨g5, 0, none⟩))), (7, (.pointer (some ⟨g13, 0, none⟩))), (8, (.slice A1466 t1461.1.length c1467)), (10, (.int .i64 (w64 (t4345 + 1)))), (11, (.pointer (some ⟨g4357, 0, none⟩))), (14, (.pointer (some ⟨g4371, 0, none⟩))), (76, (.bool false)), (80, (.bool true)), (83, (.bool (t4350.2 != 0)))] [] (fun fb => by kernel_rfl) rfl trivial ?_
        refine WL.cutV (T := Bool) 20 (fun t => [(88, (.bool t)), (3, (.pointer (some ⟨g1, 0, none⟩))), (4, (.pointer (some ⟨g5, 0, none⟩))), (7, (.pointer (some ⟨g13, 0, none⟩))), (8, (.slice A1466 t1461.1.length c1467)), (11, (.pointer (some ⟨g4357, 0, none⟩))), (14, (.pointer (some ⟨g4371, 0, none⟩))), (76, (.bool false)), (80, (.bool true))]) (fun t => t = ((t4350.2 != 0) || (t4350.1.Height != (w64 (t4345 + 1))))) (fun K => ?_) ?_
        ·
          rcases Bool.eq_false_or_eq_true (t4350.2 != 0) with h6548 | h6548
          ·
            refine WL.setB 83 h6548 rfl ?_
            refine seg 20 [] [3, 4, 7, 8, 11, 14, 76, 80, 88] [(3, (.pointer (some ⟨g1, 0, none⟩))), (4, (.pointer (some ⟨g5, 0, none⟩))), (7, (.pointer (some ⟨g13, 0, none⟩))), (8, (.slice A1466 t1461.1.length c1467)), (11, (.pointer (some ⟨g4357, 0, none⟩))), (14, (.pointer (some ⟨g4371, 0, none⟩))), (76, (.bool false)), (80, (.bool true)), (88, (.bool true))] [] (fun fb => by kernel_rfl) rfl trivial ?_
            exact WL.toV K true [88, 3, 4, 7, 8, 11, 14, 76, 80] rfl (by rw [h6548]; rfl)
          refine WL.setB 83 h6548 rfl ?_
          refine seg 20 [.v (.int .i64 t4350.1.Height)] [3, 4, 7, 8, 11, 14, 76, 80, 88] [(3, (.pointer (some ⟨g1, 0, none⟩))), (4, (.pointer (some ⟨g5, 0, none⟩))), (7, (.pointer (some ⟨g13, 0, none⟩))), (8, (.slice A1466 t1461.1.length c1467)), (11, (.pointer (some ⟨g4357, 0, none⟩))), (14, (.pointer (some ⟨g4371, 0, none⟩))), (76, (.bool false)), (80, (.bool true)), (88, (.bool (t4350.1.Height != (w64 (t4345 + 1)))))] [.cell ⟨g4357, 1, none⟩ (.int .i64 t4350.1.Height)] (fun fb => by kernel_rfl) rfl ⟨hS4817.cell 4 rfl 1 rfl, trivial⟩ ?_
          exact WL.toV K (t4350.1.Height != (w64 (t4345 + 1))) [88, 3, 4, 7, 8, 11, 14, 76, 80] rfl (by rw [h6548]; rfl)
        rintro b6549 rfl
        refine seg 21 [] [3, 4, 7, 8, 11, 14, 76, 80, 89] [(3, (.pointer (some ⟨g1, 0, none⟩))), (4, (.pointer (some ⟨g5, 0, none⟩))), (7, (.pointer (some ⟨g13, 0, none⟩))), (8, (.slice A1466 t1461.1.length c1467)), (11, (.pointer (some ⟨g4357, 0, none⟩))), (14, (.pointer (some ⟨g4371, 0, none⟩))), (76, (.bool false)), (80, (.bool true)), (89, (.bool ((t4350.2 != 0) || (t4350.1.Height != (w64 (t4345 + 1))))))] [] (fun fb => by kernel_rfl) rfl trivial ?_
        obtain ⟨x6556, hx6557, hx6546⟩ := bind_some hx6546
        refine WL.cutW (T := Bool) 26 (fun t => [(3, (.pointer (some ⟨g1, 0, none⟩))), (4, (.pointer (some ⟨g5, 0, none⟩))), (7, (.pointer (some ⟨g13, 0, none⟩))), (8, (.slice A1466 t1461.1.length c1467)), (11, (.pointer (some ⟨g4357, 0, none⟩))), (14, (.pointer (some ⟨g4371, 0, none⟩))), (76, (.bool false)), (80, (.bool true)), (94, (.bool t))]) (fun t w1 => (St NoS w w1 [rowR encInt A4790 c4791 x4793.2.2.2, rowR enc_Action A_p0_Actions c_p0_Actions p0.Actions, rowR encInt A_p1_Cells c_p1_Cells p1.Cells, rowR encInt A_p2_P_Cells c_p2_P_Cells p2.P.Cells] [blk g1 (.cells #[(.int .i64 p0.States), (.int .i64 p0.Symbols), (.slice A_p0_Actions p0.Actions.length c_p0_Actions)] 24 (0, 0)), blk g5 (.cells #[(.int .i64 p1.State), (.int .i64 p1.At), (.slice A_p1_Cells p1.Cells.length c_p1_Cells)] 27 (0, 0)), blk g13 (.cells #[(.int .i64 p2.P.Width), (.int .i64 p2.P.Height), (.slice A_p2_P_Cells p2.P.Cells.length c_p2_P_Cells)] 31 (0, 0)), rowO 65 enc_Tile A1466 c1467 t1461.1, blk g4357 (.cells #[(.int .i64 t4350.1.Width), (.int .i64 t4350.1.Height), (.slice A4355 t4350.1.Cells.length c4356)] 31 (0, 0)), rowO 3 encInt A4355 c4356 t4350.1.Cells, blk g4371 (.cells #[(.int .i64 x4793.2.1), (.int .i64 x4793.2.2.1), (.slice A4790 x4793.2.2.2.length c4791)] 27 (0, 0))] ∧ x6556 = t) ∧ CellsOK [] w1) (fun K => ?_) ?_
        ·
          rcases br_some hx6557 with ⟨h6558, hx6557⟩ | ⟨h6558, hx6557⟩
          ·
            refine WL.setB 89 h6558 rfl ?_
            refine seg 26 [] [3, 4, 7, 8, 11, 14, 76, 80, 94] [(3, (.pointer (some ⟨g1, 0, none⟩))), (4, (.pointer (some ⟨g5, 0, none⟩))), (7, (.pointer (some ⟨g13, 0, none⟩))), (8, (.slice A1466 t1461.1.length c1467)), (11, (.pointer (some ⟨g4357, 0, none⟩))), (14, (.pointer (some ⟨g4371, 0, none⟩))), (76, (.bool false)), (80, (.bool true)), (94, (.bool true))] [] (fun fb => by kernel_rfl) rfl trivial ?_
            injection hx6557 with hx6557
            exact WL.to K true [3, 4, 7, 8, 11, 14, 76, 80, 94] rfl ⟨⟨(hS4817.subR [0, 1, 2, 3]).sub [0, 1, 2, 3, 4, 5, 6] (by decide), hx6557.symm⟩, trivial⟩
          refine WL.setB 89 h6558 rfl ?_
          refine seg 23 [.v (.int .i64 t4350.1.Width), .v (.int .i64 t4350.1.Height), .v (.slice A4355 t4350.1.Cells.length c4356)] [3, 4, 7, 8, 11, 14, 76, 80, 89, 90, 91] [(3, (.pointer (some ⟨g1, 0, none⟩))), (4, (.pointer (some ⟨g5, 0, none⟩))), (7, (.pointer (some ⟨g13, 0, none⟩))), (8, (.slice A1466 t1461.1.length c1467)), (11, (.pointer (some ⟨g4357, 0, none⟩))), (14, (.pointer (some ⟨g4371, 0, none⟩))), (76, (.bool false)), (80, (.bool true)), (89, (.bool false)), (90, (.slice A1466 t1461.1.length c1467)), (91, (.agg #[(.int .i64 t4350.1.Width), (.int .i64 t4350.1.Height), (.slice A4355 t4350.1.Cells.length c4356)]))] [.cell ⟨g4357, 0, none⟩ (.int .i64 t4350.1.Width), .cell ⟨g4357, 1, none⟩ (.int .i64 t4350.1.Height), .cell ⟨g4357, 2, none⟩ (.slice A4355 t4350.1.Cells.length c4356)] (fun fb => by kernel_rfl) rfl ⟨hS4817.cell 4 rfl 0 rfl, hS4817.cell 4 rfl 1 rfl, hS4817.cell 4 rfl 2 rfl, trivial⟩ ?_
          obtain ⟨t6559, ht6560, hx6557⟩ := bind_some hx6557
          refine WL.call (some 92) 37 #[(.slice A1466 t1461.1.length c1467), (.agg #[(.int .i64 t4350.1.Width), (.int .i64 t4350.1.Height), (.slice A4355 t4350.1.Cells.length c4356)]), (.bool false)] (fun fb => by kernel_rfl) (top_of_calls _ t1461.1 t4350.1 false A1466 c1467 A4355 c4356 t6559 _ (hS4817.ow 3).ofO (hS4817.ow 5).ofO ht6560) (fun v w6561 hR6562 => ?_)
          obtain ⟨rfl, hk_⟩ := hR6562
          have hS6563 := hS4817.keepN hk_
          refine ⟨trivial, ?_⟩
          refine seg 26 [] [3, 4, 7, 8, 11, 14, 76, 80, 94] [(3, (.pointer (some ⟨g1, 0, none⟩))), (4, (.pointer (some ⟨g5, 0, none⟩))), (7, (.pointer (some ⟨g13, 0, none⟩))), (8, (.slice A1466 t1461.1.length c1467)), (11, (.pointer (some ⟨g4357, 0, none⟩))), (14, (.pointer (some ⟨g4371, 0, none⟩))), (76, (.bool false)), (80, (.bool true)), (94, (.bool (!t6559)))] [] (fun fb => by kernel_rfl) rfl trivial ?_
          injection hx6557 with hx6557
          exact WL.to K (!t6559) [3, 4, 7, 8, 11, 14, 76, 80, 94] rfl ⟨⟨(hS6563.subR [0, 1, 2, 3]).sub [0, 1, 2, 3, 4, 5, 6] (by decide), hx6557.symm⟩, trivial⟩
        rintro y6564 w6566 ⟨⟨hS6567, hq6565⟩, hF6568⟩
        subst hq6565
        refine seg 27 [] [3, 4, 7, 8, 11, 14, 76, 80, 95] [(3, (.pointer (some ⟨g1, 0, none⟩))), (4, (.pointer (some ⟨g5, 0, none⟩))), (7, (.pointer (some ⟨g13, 0, none⟩))), (8, (.slice A1466 t1461.1.length c1467)), (11, (.pointer (some ⟨g4357, 0, none⟩))), (14, (.pointer (some ⟨g4371, 0, none⟩))), (76, (.bool false)), (80, (.bool true)), (95, (.bool x6556))] [] (fun fb => by kernel_rfl) rfl trivial ?_
        obtain ⟨x6575, hx6576, hx6546⟩ := bind_some hx6546
        refine WL.cutW (T := Bool) 34 (fun t => [(3, (.pointer (some ⟨g1, 0, none⟩))), (4, (.pointer (some ⟨g5, 0, none⟩))), (7, (.pointer (some ⟨g13, 0, none⟩))), (8, (.slice A1466 t1461.1.length c1467)), (14, (.pointer (some ⟨g4371, 0, none⟩))), (76, (.bool false)), (80, (.bool true)), (102, (.bool t))]) (fun t w1 => (St NoS w w1 [rowR encInt A4790 c4791 x4793.2.2.2, rowR enc_Action A_p0_Actions c_p0_Actions p0.Actions, rowR encInt A_p1_Cells c_p1_Cells p1.Cells, rowR encInt A_p2_P_Cells c_p2_P_Cells p2.P.Cells] [blk g1 (.cells #[(.int .i64 p0.States), (.int .i64 p0.Symbols), (.slice A_p0_Actions p0.Actions.length c_p0_Actions)] 24 (0, 0)), blk g5 (.cells #[(.int .i64 p1.State), (.int .i64 p1.At), (.slice A_p1_Cells p1.Cells.length c_p1_Cells)] 27 (0, 0)), blk g13 (.cells #[(.int .i64 p2.P.Width), (.int .i64 p2.P.Height), (.slice A_p2_P_Cells p2.P.Cells.length c_p2_P_Cells)] 31 (0, 0)), rowO 65 enc_Tile A1466 c1467 t1461.1, blk g4371 (.cells #[(.int .i64 x4793.2.1), (.int .i64 x4793.2.2.1), (.slice A4790 x4793.2.2.2.length c4791)] 27 (0, 0))] ∧ x6575 = t) ∧ CellsOK [] w1) (fun K => ?_) ?_
        ·
          rcases br_some hx6576 with ⟨h6577, hx6576⟩ | ⟨h6577, hx6576⟩
          ·
            refine WL.setB 95 h6577 rfl ?_
            refine seg 34 [] [3, 4, 7, 8, 14, 76, 80, 102] [(3, (.pointer (some ⟨g1, 0, none⟩))), (4, (.pointer (some ⟨g5, 0, none⟩))), (7, (.pointer (some ⟨g13, 0, none⟩))), (8, (.slice A1466 t1461.1.length c1467)), (14, (.pointer (some ⟨g4371, 0, none⟩))), (76, (.bool false)), (80, (.bool true)), (102, (.bool true))] [] (fun fb => by kernel_rfl) rfl trivial ?_
            injection hx6576 with hx6576
            exact WL.to K true [3, 4, 7, 8, 14, 76, 80, 102] rfl ⟨⟨(hS6567.subR [0, 1, 2, 3]).sub [0, 1, 2, 3, 6] (by decide), hx6576.symm⟩, trivial⟩
          refine WL.setB 95 h6577 rfl ?_
          refine seg 31 [.v (.int .i64 p0.States), .v (.int .i64 p0.Symbols), .v (.slice A_p0_Actions p0.Actions.length c_p0_Actions), .v (.int .i64 p1.State), .v (.int .i64 p1.At), .v (.slice A_p1_Cells p1.Cells.length c_p1_Cells), .v (.int .i64 t4350.1.Width), .v (.int .i64 t4350.1.Height), .v (.slice A4355 t4350.1.Cells.length c4356)] [3, 4, 7, 8, 14, 76, 80, 95, 96, 97, 98, 99] [(3, (.pointer (some ⟨g1, 0, none⟩))), (4, (.pointer (some ⟨g5, 0, none⟩))), (7, (.pointer (some ⟨g13, 0, none⟩))), (8, (.slice A1466 t1461.1.length c1467)), (14, (.pointer (some ⟨g4371, 0, none⟩))), (76, (.bool false)), (80, (.bool true)), (95, (.bool false)), (96, (.slice A1466 t1461.1.length c1467)), (97, (.agg #[(.int .i64 p0.States), (.int .i64 p0.Symbols), (.slice A_p0_Actions p0.Actions.length c_p0_Actions)])), (98, (.agg #[(.int .i64 p1.State), (.int .i64 p1.At), (.slice A_p1_Cells p1.Cells.length c_p1_Cells)])), (99, (.agg #[(.int .i64 t4350.1.Width), (.int .i64 t4350.1.Height), (.slice A4355 t4350.1.Cells.length c4356)]))] [.cell ⟨g1, 0, none⟩ (.int .i64 p0.States), .cell ⟨g1, 1, none⟩ (.int .i64 p0.Symbols), .cell ⟨g1, 2, none⟩ (.slice A_p0_Actions p0.Actions.length c_p0_Actions), .cell ⟨g5, 0, none⟩ (.int .i64 p1.State), .cell ⟨g5, 1, none⟩ (.int .i64 p1.At), .cell ⟨g5, 2, none⟩ (.slice A_p1_Cells p1.Cells.length c_p1_Cells), .cell ⟨g4357, 0, none⟩ (.int .i64 t4350.1.Width), .cell ⟨g4357, 1, none⟩ (.int .i64 t4350.1.Height), .cell ⟨g4357, 2, none⟩ (.slice A4355 t4350.1.Cells.length c4356)] (fun fb => by kernel_rfl) rfl ⟨hS6567.cell 0 rfl 0 rfl, hS6567.cell 0 rfl 1 rfl, hS6567.cell 0 rfl 2 rfl, hS6567.cell 1 rfl 0 rfl, hS6567.cell 1 rfl 1 rfl, hS6567.cell 1 rfl 2 rfl, hS6567.cell 4 rfl 0 rfl, hS6567.cell 4 rfl 1 rfl, hS6567.cell 4 rfl 2 rfl, trivial⟩ ?_
          obtain ⟨t6578, ht6579, hx6576⟩ := bind_some hx6576
          refine WL.call (some 100) 38 #[(.slice A1466 t1461.1.length c1467), (.agg #[(.int .i64 p0.States), (.int .i64 p0.Symbols), (.slice A_p0_Actions p0.Actions.length c_p0_Actions)]), (.agg #[(.int .i64 p1.State), (.int .i64 p1.At), (.slice A_p1_Cells p1.Cells.length c_p1_Cells)]), (.agg #[(.int .i64 t4350.1.Width), (.int .i64 t4350.1.Height), (.slice A4355 t4350.1.Cells.length c4356)])] (fun fb => by kernel_rfl) (top_shows_calls _ t1461.1 p0 p1 t4350.1 A1466 c1467 A_p0_Actions c_p0_Actions A_p1_Cells c_p1_Cells A4355 c4356 t6578 _ (hS6567.ow 3).ofO (hS6567.rd 1) (hS6567.rd 2) (hS6567.ow 5).ofO ht6579) (fun v w6580 hR6581 => ?_)
          obtain ⟨rfl, hk_⟩ := hR6581
          have hS6582 := hS6567.keepN hk_
          refine ⟨trivial, ?_⟩
          refine seg 34 [] [3, 4, 7, 8, 14, 76, 80, 102] [(3, (.pointer (some ⟨g1, 0, none⟩))), (4, (.pointer (some ⟨g5, 0, none⟩))), (7, (.pointer (some ⟨g13, 0, none⟩))), (8, (.slice A1466 t1461.1.length c1467)), (14, (.pointer (some ⟨g4371, 0, none⟩))), (76, (.bool false)), (80, (.bool true)), (102, (.bool (!t6578)))] [] (fun fb => by kernel_rfl) rfl trivial ?_
          injection hx6576 with hx6576
          exact WL.to K (!t6578) [3, 4, 7, 8, 14, 76, 80, 102] rfl ⟨⟨(hS6582.subR [0, 1, 2, 3]).sub [0, 1, 2, 3, 6] (by decide), hx6576.symm⟩, trivial⟩
        rintro y6583 w6585 ⟨⟨hS6586, hq6584⟩, hF6587⟩
        subst hq6584
        refine seg 35 [] [3, 4, 7, 8, 14, 76, 103] [(3, (.pointer (some ⟨g1, 0, none⟩))), (4, (.pointer (some ⟨g5, 0, none⟩))), (7, (.pointer (some ⟨g13, 0, none⟩))), (8, (.slice A1466 t1461.1.length c1467)), (14, (.pointer (some ⟨g4371, 0, none⟩))), (76, (.bool false)), (103, (.bool x6575))] [] (fun fb => by kernel_rfl) rfl trivial ?_
        injection hx6546 with hx6546
        exact WL.to K x6575 [3, 4, 7, 8, 14, 76, 103] rfl ⟨⟨(hS6586.subR [0, 1, 2, 3]).sub [0, 1, 2, 3, 4] (by decide), hx6546.symm⟩, trivial⟩
      refine WL.setB 80 h6547 rfl ?_
      refine seg 35 [] [3, 4, 7, 8, 14, 76, 103] [(3, (.pointer (some ⟨g1, 0, none⟩))), (4, (.pointer (some ⟨g5, 0, none⟩))), (7, (.pointer (some ⟨g13, 0, none⟩))), (8, (.slice A1466 t1461.1.length c1467)), (14, (.pointer (some ⟨g4371, 0, none⟩))), (76, (.bool false)), (103, (.bool false))] [] (fun fb => by kernel_rfl) rfl trivial ?_
      injection hx6546 with hx6546
      exact WL.to K false [3, 4, 7, 8, 14, 76, 103] rfl ⟨⟨(hS4817.subR [0, 1, 2, 3]).sub [0, 1, 2, 3, 6] (by decide), hx6546.symm⟩, trivial⟩
    rintro y6588 w6590 ⟨⟨hS6591, hq6589⟩, hF6592⟩
    subst hq6589
    refine seg 36 [] [3, 4, 7, 8, 14, 104] [(3, (.pointer (some ⟨g1, 0, none⟩))), (4, (.pointer (some ⟨g5, 0, none⟩))), (7, (.pointer (some ⟨g13, 0, none⟩))), (8, (.slice A1466 t1461.1.length c1467)), (14, (.pointer (some ⟨g4371, 0, none⟩))), (104, (.bool x6545))] [] (fun fb => by kernel_rfl) rfl trivial ?_
    injection hx6502 with hx6502
    exact WL.to K x6545 [3, 4, 7, 8, 14, 104] rfl ⟨⟨(hS6591.subR [0, 1, 2, 3]).sub [0, 1, 2, 3, 4] (by decide), hx6502.symm⟩, trivial⟩
  rintro y6593 w6595 ⟨⟨hS6596, hq6594⟩, hF6597⟩
  subst hq6594
  refine WL.done rfl ?_
  refine WX.next ?_
  rcases br_some hf with ⟨h6598, hf⟩ | ⟨h6598, hf⟩
  · refine WC.condT2 (fun fb => by kernel_rfl) h6598 ?_
    refine WC.seq ?_
    refine WC.region ?_
    refine seg 1 [] [6] [(6, (.bool false))] [] (fun fb => by kernel_rfl) rfl trivial ?_
    refine WL.done rfl ?_
    refine WX.next ?_
    refine WC.ret ?_
    injection hf with hf
    subst hf
    exact WX.thenR (WX.ret_ [] (.bool false) [] (fun fb => by kernel_rfl) trivial ⟨_, rfl, rfl, hS6596.keep⟩)
  refine WC.condF2 (fun fb => by kernel_rfl) h6598 ?_
  refine WC.skip ?_
  refine WX.next ?_
  refine WC.seq ?_
  refine WC.seq ?_
  refine WC.region ?_
  refine seg 2 [.v (.int .i64 p2.P.Width), .v (.int .i64 p2.P.Height), .v (.slice A_p2_P_Cells p2.P.Cells.length c_p2_P_Cells)] [3, 4, 7, 8, 14, 105, 106] [(3, (.pointer (some ⟨g1, 0, none⟩))), (4, (.pointer (some ⟨g5, 0, none⟩))), (7, (.pointer (some ⟨g13, 0, none⟩))), (8, (.slice A1466 t1461.1.length c1467)), (14, (.pointer (some ⟨g4371, 0, none⟩))), (105, (.slice A1466 t1461.1.length c1467)), (106, (.agg #[(.int .i64 p2.P.Width), (.int .i64 p2.P.Height), (.slice A_p2_P_Cells p2.P.Cells.length c_p2_P_Cells)]))] [.cell ⟨g13, 0, none⟩ (.int .i64 p2.P.Width), .cell ⟨g13, 1, none⟩ (.int .i64 p2.P.Height), .cell ⟨g13, 2, none⟩ (.slice A_p2_P_Cells p2.P.Cells.length c_p2_P_Cells)] (fun fb => by kernel_rfl) rfl ⟨hS6596.cell 2 rfl 0 rfl, hS6596.cell 2 rfl 1 rfl, hS6596.cell 2 rfl 2 rfl, trivial⟩ ?_
  obtain ⟨t6599, ht6600, hf⟩ := bind_some hf
  refine WL.call (some 107) 37 #[(.slice A1466 t1461.1.length c1467), (.agg #[(.int .i64 p2.P.Width), (.int .i64 p2.P.Height), (.slice A_p2_P_Cells p2.P.Cells.length c_p2_P_Cells)]), (.bool false)] (fun fb => by kernel_rfl) (top_of_calls _ t1461.1 p2.P false A1466 c1467 A_p2_P_Cells c_p2_P_Cells t6599 _ (hS6596.ow 3).ofO (hS6596.rd 3) ht6600) (fun v w6601 hR6602 => ?_)
  obtain ⟨rfl, hk_⟩ := hR6602
  have hS6603 := hS6596.keepN hk_
  refine ⟨trivial, ?_⟩
  refine seg 5 [] [3, 4, 7, 8, 14, 109] [(3, (.pointer (some ⟨g1, 0, none⟩))), (4, (.pointer (some ⟨g5, 0, none⟩))), (7, (.pointer (some ⟨g13, 0, none⟩))), (8, (.slice A1466 t1461.1.length c1467)), (14, (.pointer (some ⟨g4371, 0, none⟩))), (109, (.bool (!t6599)))] [] (fun fb => by kernel_rfl) rfl trivial ?_
  obtain ⟨x6610, hx6611, hf⟩ := bind_some hf
  refine WL.cutW (T := Bool) 12 (fun t => [(3, (.pointer (some ⟨g1, 0, none⟩))), (4, (.pointer (some ⟨g5, 0, none⟩))), (7, (.pointer (some ⟨g13, 0, none⟩))), (8, (.slice A1466 t1461.1.length c1467)), (14, (.pointer (some ⟨g4371, 0, none⟩))), (116, (.bool t))]) (fun t w1 => (St NoS w w1 [rowR encInt A4790 c4791 x4793.2.2.2, rowR enc_Action A_p0_Actions c_p0_Actions p0.Actions, rowR encInt A_p1_Cells c_p1_Cells p1.Cells, rowR encInt A_p2_P_Cells c_p2_P_Cells p2.P.Cells] [blk g1 (.cells #[(.int .i64 p0.States), (.int .i64 p0.Symbols), (.slice A_p0_Actions p0.Actions.length c_p0_Actions)] 24 (0, 0)), blk g5 (.cells #[(.int .i64 p1.State), (.int .i64 p1.At), (.slice A_p1_Cells p1.Cells.length c_p1_Cells)] 27 (0, 0)), blk g13 (.cells #[(.int .i64 p2.P.Width), (.int .i64 p2.P.Height), (.slice A_p2_P_Cells p2.P.Cells.length c_p2_P_Cells)] 31 (0, 0)), rowO 65 enc_Tile A1466 c1467 t1461.1, blk g4371 (.cells #[(.int .i64 x4793.2.1), (.int .i64 x4793.2.2.1), (.slice A4790 x4793.2.2.2.length c4791)] 27 (0, 0))] ∧ x6610 = t) ∧ CellsOK [] w1) (fun K => ?_) ?_
  ·
    rcases br_some hx6611 with ⟨h6612, hx6611⟩ | ⟨h6612, hx6611⟩
    ·
      refine WL.setB 109 h6612 rfl ?_
      refine seg 12 [] [3, 4, 7, 8, 14, 116] [(3, (.pointer (some ⟨g1, 0, none⟩))), (4, (.pointer (some ⟨g5, 0, none⟩))), (7, (.pointer (some ⟨g13, 0, none⟩))), (8, (.slice A1466 t1461.1.length c1467)), (14, (.pointer (some ⟨g4371, 0, none⟩))), (116, (.bool true))] [] (fun fb => by kernel_rfl) rfl trivial ?_
      injection hx6611 with hx6611
      exact WL.to K true [3, 4, 7, 8, 14, 116] rfl ⟨⟨(hS6603.subR [0, 1, 2, 3]).sub [0, 1, 2, 3, 4] (by decide), hx6611.symm⟩, trivial⟩
    refine WL.setB 109 h6612 rfl ?_
    refine seg 9 [.v (.int .i64 p0.States), .v (.int .i64 p0.Symbols), .v (.slice A_p0_Actions p0.Actions.length c_p0_Actions), .v (.int .i64 p1.State), .v (.int .i64 p1.At), .v (.slice A_p1_Cells p1.Cells.length c_p1_Cells), .v (.int .i64 p2.P.Width), .v (.int .i64 p2.P.Height), .v (.slice A_p2_P_Cells p2.P.Cells.length c_p2_P_Cells)] [3, 4, 7, 8, 14, 109, 110, 111, 112, 113] [(3, (.pointer (some ⟨g1, 0, none⟩))), (4, (.pointer (some ⟨g5, 0, none⟩))), (7, (.pointer (some ⟨g13, 0, none⟩))), (8, (.slice A1466 t1461.1.length c1467)), (14, (.pointer (some ⟨g4371, 0, none⟩))), (109, (.bool false)), (110, (.slice A1466 t1461.1.length c1467)), (111, (.agg #[(.int .i64 p0.States), (.int .i64 p0.Symbols), (.slice A_p0_Actions p0.Actions.length c_p0_Actions)])), (112, (.agg #[(.int .i64 p1.State), (.int .i64 p1.At), (.slice A_p1_Cells p1.Cells.length c_p1_Cells)])), (113, (.agg #[(.int .i64 p2.P.Width), (.int .i64 p2.P.Height), (.slice A_p2_P_Cells p2.P.Cells.length c_p2_P_Cells)]))] [.cell ⟨g1, 0, none⟩ (.int .i64 p0.States), .cell ⟨g1, 1, none⟩ (.int .i64 p0.Symbols), .cell ⟨g1, 2, none⟩ (.slice A_p0_Actions p0.Actions.length c_p0_Actions), .cell ⟨g5, 0, none⟩ (.int .i64 p1.State), .cell ⟨g5, 1, none⟩ (.int .i64 p1.At), .cell ⟨g5, 2, none⟩ (.slice A_p1_Cells p1.Cells.length c_p1_Cells), .cell ⟨g13, 0, none⟩ (.int .i64 p2.P.Width), .cell ⟨g13, 1, none⟩ (.int .i64 p2.P.Height), .cell ⟨g13, 2, none⟩ (.slice A_p2_P_Cells p2.P.Cells.length c_p2_P_Cells)] (fun fb => by kernel_rfl) rfl ⟨hS6603.cell 0 rfl 0 rfl, hS6603.cell 0 rfl 1 rfl, hS6603.cell 0 rfl 2 rfl, hS6603.cell 1 rfl 0 rfl, hS6603.cell 1 rfl 1 rfl, hS6603.cell 1 rfl 2 rfl, hS6603.cell 2 rfl 0 rfl, hS6603.cell 2 rfl 1 rfl, hS6603.cell 2 rfl 2 rfl, trivial⟩ ?_
    obtain ⟨t6613, ht6614, hx6611⟩ := bind_some hx6611
    refine WL.call (some 114) 38 #[(.slice A1466 t1461.1.length c1467), (.agg #[(.int .i64 p0.States), (.int .i64 p0.Symbols), (.slice A_p0_Actions p0.Actions.length c_p0_Actions)]), (.agg #[(.int .i64 p1.State), (.int .i64 p1.At), (.slice A_p1_Cells p1.Cells.length c_p1_Cells)]), (.agg #[(.int .i64 p2.P.Width), (.int .i64 p2.P.Height), (.slice A_p2_P_Cells p2.P.Cells.length c_p2_P_Cells)])] (fun fb => by kernel_rfl) (top_shows_calls _ t1461.1 p0 p1 p2.P A1466 c1467 A_p0_Actions c_p0_Actions A_p1_Cells c_p1_Cells A_p2_P_Cells c_p2_P_Cells t6613 _ (hS6603.ow 3).ofO (hS6603.rd 1) (hS6603.rd 2) (hS6603.rd 3) ht6614) (fun v w6615 hR6616 => ?_)
    obtain ⟨rfl, hk_⟩ := hR6616
    have hS6617 := hS6603.keepN hk_
    refine ⟨trivial, ?_⟩
    refine seg 12 [] [3, 4, 7, 8, 14, 116] [(3, (.pointer (some ⟨g1, 0, none⟩))), (4, (.pointer (some ⟨g5, 0, none⟩))), (7, (.pointer (some ⟨g13, 0, none⟩))), (8, (.slice A1466 t1461.1.length c1467)), (14, (.pointer (some ⟨g4371, 0, none⟩))), (116, (.bool (!t6613)))] [] (fun fb => by kernel_rfl) rfl trivial ?_
    injection hx6611 with hx6611
    exact WL.to K (!t6613) [3, 4, 7, 8, 14, 116] rfl ⟨⟨(hS6617.subR [0, 1, 2, 3]).sub [0, 1, 2, 3, 4] (by decide), hx6611.symm⟩, trivial⟩
  rintro y6618 w6620 ⟨⟨hS6621, hq6619⟩, hF6622⟩
  subst hq6619
  refine WL.done rfl ?_
  refine WX.next ?_
  rcases br_some hf with ⟨h6623, hf⟩ | ⟨h6623, hf⟩
  · refine WC.condT2 (fun fb => by kernel_rfl) h6623 ?_
    refine WC.seq ?_
    refine WC.region ?_
    obtain ⟨t6624, ht6625, hf⟩ := bind_some hf
    refine WL.call (some 117) 34 #[] (fun fb => by kernel_rfl) (top_steps_calls _ t6624 _ ht6625) (fun v w6626 hR6627 => ?_)
    obtain ⟨rfl, hk_⟩ := hR6627
    have hS6628 := hS6621.keepN hk_
    refine ⟨trivial, ?_⟩
    refine seg 2 [] [6] [(6, (.bool t6624))] [] (fun fb => by kernel_rfl) rfl trivial ?_
    refine WL.done rfl ?_
    refine WX.next ?_
    refine WC.ret ?_
    injection hf with hf
    subst hf
    exact WX.thenR (WX.ret_ [] (.bool t6624) [] (fun fb => by kernel_rfl) trivial ⟨_, rfl, rfl, hS6628.keep⟩)
  refine WC.condF2 (fun fb => by kernel_rfl) h6623 ?_
  refine WC.skip ?_
  refine WX.next ?_
  refine WC.seq ?_
  refine WC.region ?_
  refine seg 1 [.v (.int .i64 p1.State), .v (.int .i64 p1.At), .v (.slice A_p1_Cells p1.Cells.length c_p1_Cells)] [3, 7, 8, 14, 118] [(3, (.pointer (some ⟨g1, 0, none⟩))), (7, (.pointer (some ⟨g13, 0, none⟩))), (8, (.slice A1466 t1461.1.length c1467)), (14, (.pointer (some ⟨g4371, 0, none⟩))), (118, (.agg #[(.int .i64 p1.State), (.int .i64 p1.At), (.slice A_p1_Cells p1.Cells.length c_p1_Cells)]))] [.cell ⟨g5, 0, none⟩ (.int .i64 p1.State), .cell ⟨g5, 1, none⟩ (.int .i64 p1.At), .cell ⟨g5, 2, none⟩ (.slice A_p1_Cells p1.Cells.length c_p1_Cells)] (fun fb => by kernel_rfl) rfl ⟨hS6621.cell 1 rfl 0 rfl, hS6621.cell 1 rfl 1 rfl, hS6621.cell 1 rfl 2 rfl, trivial⟩ ?_
  refine WL.store hS6621 4 rfl [(0, (.int .i64 p1.State)), (1, (.int .i64 p1.At)), (2, (.slice A_p1_Cells p1.Cells.length c_p1_Cells))] #[(.int .i64 p1.State), (.int .i64 p1.At), (.slice A_p1_Cells p1.Cells.length c_p1_Cells)] (fun fb => by kernel_rfl) (by kernel_rfl) rfl [0, 1, 2, 3] (by decide) (by decide) (fun w6629 hS6630 => ?_)
  refine ⟨trivial, ?_⟩
  refine WL.done rfl ?_
  refine WX.next ?_
  refine WC.seq ?_
  refine WC.seq ?_
  refine WC.region ?_
  refine seg 1 [] [3, 7, 8, 14, 17] [(3, (.pointer (some ⟨g1, 0, none⟩))), (7, (.pointer (some ⟨g13, 0, none⟩))), (8, (.slice A1466 t1461.1.length c1467)), (14, (.pointer (some ⟨g4371, 0, none⟩))), (17, (.int .i64 0))] [] (fun fb => by kernel_rfl) rfl trivial ?_
  refine WL.done rfl ?_
  refine WX.next ?_
  obtain ⟨x6823, hx6824, hf⟩ := bind_some hf
  refine WC.cutN (T := Unit) (fun t => []) (fun t w1 => St NoS w w1 [rowR encInt A4790 c4791 x4793.2.2.2, rowR enc_Action A_p0_Actions c_p0_Actions p0.Actions, rowR encInt A_p1_Cells c_p1_Cells p1.Cells, rowR encInt A_p2_P_Cells c_p2_P_Cells p2.P.Cells] [] ∧ x6823 = .inr t) (fun Kx6823 => ?_) ?_
  ·
    refine WC.block ?_
    refine WC.loop (T := (Int × Int × (List Int) × Int) × (Option Addr) × Nat) (fun t => [(3, (.pointer (some ⟨g1, 0, none⟩))), (7, (.pointer (some ⟨g13, 0, none⟩))), (8, (.slice A1466 t1461.1.length c1467)), (14, (.pointer (some ⟨g4371, 0, none⟩))), (17, (.int .i64 t.1.2.2.2))]) (fun n t w1 => St NoS w w1 [rowR encInt t.2.1 t.2.2 t.1.2.2.1, rowR encInt A4790 c4791 x4793.2.2.2, rowR enc_Action A_p0_Actions c_p0_Actions p0.Actions, rowR encInt A_p1_Cells c_p1_Cells p1.Cells, rowR encInt A_p2_P_Cells c_p2_P_Cells p2.P.Cells] [blk g1 (.cells #[(.int .i64 p0.States), (.int .i64 p0.Symbols), (.slice A_p0_Actions p0.Actions.length c_p0_Actions)] 24 (0, 0)), blk g13 (.cells #[(.int .i64 p2.P.Width), (.int .i64 p2.P.Height), (.slice A_p2_P_Cells p2.P.Cells.length c_p2_P_Cells)] 31 (0, 0)), rowO 65 enc_Tile A1466 c1467 t1461.1, blk g4371 (.cells #[(.int .i64 t.1.1), (.int .i64 t.1.2.1), (.slice t.2.1 t.1.2.2.1.length t.2.2)] 27 (0, 0))] ∧ top_TopMachine.l1 n t.1.1 t.1.2.1 t.1.2.2.1 t.1.2.2.2 p0 p2 t1461 = some x6823) k ((p1.State, p1.At, p1.Cells, 0), A_p1_Cells, c_p1_Cells) [3, 7, 8, 14, 17] rfl ⟨(hS6630.subR [2, 0, 1, 2, 3]).sub [1, 3, 4, 0] (by decide), hx6824⟩ ?_
    rintro k6825 ⟨⟨x6817, x6818, l6821, x6822⟩, A6819, c6820⟩ w6826 ⟨hS6827, hl6828⟩
    cases k6825 with
    | zero => rw [top_TopMachine.l1] at hl6828; cases hl6828
    | succ k6825 =>
      rw [top_TopMachine.l1] at hl6828
      refine WC.seq ?_
      refine WC.seq ?_
      refine WC.region ?_
      refine seg 4 [.v (.int .i64 p2.P.Height)] [3, 7, 8, 14, 17, 122] [(3, (.pointer (some ⟨g1, 0, none⟩))), (7, (.pointer (some ⟨g13, 0, none⟩))), (8, (.slice A1466 t1461.1.length c1467)), (14, (.pointer (some ⟨g4371, 0, none⟩))), (17, (.int .i64 x6822)), (122, (.bool (decide (x6822 < p2.P.Height))))] [.cell ⟨g13, 1, none⟩ (.int .i64 p2.P.Height)] (fun fb => by kernel_rfl) rfl ⟨hS6827.cell 1 rfl 1 rfl, trivial⟩ ?_
      refine WL.done rfl ?_
      refine WX.next ?_
      rcases br_some hl6828 with ⟨h6829, hl6828⟩ | ⟨h6829, hl6828⟩
      · refine WC.condT2 (fun fb => by kernel_rfl) h6829 ?_
        refine WC.skip ?_
        refine WX.next ?_
        refine WC.seq ?_
        refine WC.block ?_
        refine WC.seq ?_
        refine WC.region ?_
        refine seg 2 [.v (.int .i64 p0.States), .v (.int .i64 p0.Symbols), .v (.slice A_p0_Actions p0.Actions.length c_p0_Actions), .v (.int .i64 x6817), .v (.int .i64 x6818), .v (.slice A6819 l6821.length c6820)] [3, 7, 8, 14, 17, 126, 127] [(3, (.pointer (some ⟨g1, 0, none⟩))), (7, (.pointer (some ⟨g13, 0, none⟩))), (8, (.slice A1466 t1461.1.length c1467)), (14, (.pointer (some ⟨g4371, 0, none⟩))), (17, (.int .i64 x6822)), (126, (.agg #[(.int .i64 p0.States), (.int .i64 p0.Symbols), (.slice A_p0_Actions p0.Actions.length c_p0_Actions)])), (127, (.agg #[(.int .i64 x6817), (.int .i64 x6818), (.slice A6819 l6821.length c6820)]))] [.cell ⟨g1, 0, none⟩ (.int .i64 p0.States), .cell ⟨g1, 1, none⟩ (.int .i64 p0.Symbols), .cell ⟨g1, 2, none⟩ (.slice A_p0_Actions p0.Actions.length c_p0_Actions), .cell ⟨g4371, 0, none⟩ (.int .i64 x6817), .cell ⟨g4371, 1, none⟩ (.int .i64 x6818), .cell ⟨g4371, 2, none⟩ (.slice A6819 l6821.length c6820)] (fun fb => by kernel_rfl) rfl ⟨hS6827.cell 0 rfl 0 rfl, hS6827.cell 0 rfl 1 rfl, hS6827.cell 0 rfl 2 rfl, hS6827.cell 3 rfl 0 rfl, hS6827.cell 3 rfl 1 rfl, hS6827.cell 3 rfl 2 rfl, trivial⟩ ?_
        obtain ⟨t6830, ht6831, hl6828⟩ := bind_some hl6828
        refine WL.call (some 128) 36 #[(.agg #[(.int .i64 p0.States), (.int .i64 p0.Symbols), (.slice A_p0_Actions p0.Actions.length c_p0_Actions)]), (.agg #[(.int .i64 x6817), (.int .i64 x6818), (.slice A6819 l6821.length c6820)])] (fun fb => by kernel_rfl) (top_after_calls p0 (Config.mk x6817 x6818 l6821) A_p0_Actions c_p0_Actions A6819 c6820 t6830 _ (hS6827.rd 2) (hS6827.rd 0) ht6831) (fun v w6832 hR6833 => ?_)
        obtain ⟨A6835, c6836, rfl, hk_, hro0_⟩ := hR6833
        have hS6834 := hS6827.addRo hk_ hro0_ [0] rfl
        refine ⟨trivial, ?_⟩
        refine seg 6 [] [3, 7, 8, 14, 17, 129, 130] [(3, (.pointer (some ⟨g1, 0, none⟩))), (7, (.pointer (some ⟨g13, 0, none⟩))), (8, (.slice A1466 t1461.1.length c1467)), (14, (.pointer (some ⟨g4371, 0, none⟩))), (17, (.int .i64 x6822)), (129, (.agg #[(.int .i64 t6830.1.State), (.int .i64 t6830.1.At), (.slice A6835 t6830.1.Cells.length c6836)])), (130, (.bool t6830.2))] [] (fun fb => by kernel_rfl) rfl trivial ?_
        refine WL.new hS6834 18 [] (fun g => (.pointer (some ⟨g, 0, none⟩))) (.cells #[(.int .i64 0), (.int .i64 0), (.slice none 0 0)] 27 (0, 0)) [] (fun fb g => by kernel_rfl) trivial (fun g6837 w6838 hS6839 => ?_)
        refine ⟨trivial, ?_⟩
        refine WL.store hS6839 0 rfl [(0, (.int .i64 t6830.1.State)), (1, (.int .i64 t6830.1.At)), (2, (.slice A6835 t6830.1.Cells.length c6836))] #[(.int .i64 t6830.1.State), (.int .i64 t6830.1.At), (.slice A6835 t6830.1.Cells.length c6836)] (fun fb => by kernel_rfl) (by kernel_rfl) rfl [1, 2, 3, 4] (by decide) (by decide) (fun w6841 hS6842 => ?_)
        refine ⟨trivial, ?_⟩
        refine seg 9 [] [3, 7, 8, 14, 17, 18, 19] [(3, (.pointer (some ⟨g1, 0, none⟩))), (7, (.pointer (some ⟨g13, 0, none⟩))), (8, (.slice A1466 t1461.1.length c1467)), (14, (.pointer (some ⟨g4371, 0, none⟩))), (17, (.int .i64 x6822)), (18, (.pointer (some ⟨g6837, 0, none⟩))), (19, (.bool t6830.2))] [] (fun fb => by kernel_rfl) rfl trivial ?_
        refine WL.done rfl ?_
        refine WX.next ?_
        refine WC.seq ?_
        refine WC.seq ?_
        refine WC.region ?_
        refine seg 2 [] [3, 7, 8, 14, 17, 18, 132] [(3, (.pointer (some ⟨g1, 0, none⟩))), (7, (.pointer (some ⟨g13, 0, none⟩))), (8, (.slice A1466 t1461.1.length c1467)), (14, (.pointer (some ⟨g4371, 0, none⟩))), (17, (.int .i64 x6822)), (18, (.pointer (some ⟨g6837, 0, none⟩))), (132, (.bool (!t6830.2)))] [] (fun fb => by kernel_rfl) rfl trivial ?_
        refine WL.done rfl ?_
        refine WX.next ?_
        rcases br_some hl6828 with ⟨h6843, hl6828⟩ | ⟨h6843, hl6828⟩
        · refine WC.condT2 (fun fb => by kernel_rfl) h6843 ?_
          refine WC.seq ?_
          refine WC.region ?_
          refine seg 1 [] [6] [(6, (.bool false))] [] (fun fb => by kernel_rfl) rfl trivial ?_
          refine WL.done rfl ?_
          refine WX.next ?_
          refine WC.ret ?_
          injection hl6828 with hl6828
          subst hl6828
          injection hf with hf
          subst hf
          exact WX.thenR (WX.blockR (WX.thenR (WX.thenR (WX.blockR (WX.thenR (WX.ret_ [] (.bool false) [] (fun fb => by kernel_rfl) trivial ⟨_, rfl, rfl, hS6842.keep⟩))))))
        refine WC.condF2 (fun fb => by kernel_rfl) h6843 ?_
        refine WC.skip ?_
        refine WX.next ?_
        refine WC.seq ?_
        refine WC.seq ?_
        refine WC.region ?_
        refine seg 1 [] [3, 7, 8, 14, 17, 18, 20] [(3, (.pointer (some ⟨g1, 0, none⟩))), (7, (.pointer (some ⟨g13, 0, none⟩))), (8, (.slice A1466 t1461.1.length c1467)), (14, (.pointer (some ⟨g4371, 0, none⟩))), (17, (.int .i64 x6822)), (18, (.pointer (some ⟨g6837, 0, none⟩))), (20, (.int .i64 0))] [] (fun fb => by kernel_rfl) rfl trivial ?_
        refine WL.done rfl ?_
        refine WX.next ?_
        obtain ⟨x6886, hx6887, hl6828⟩ := bind_some hl6828
        refine WC.cutN (T := Unit) (fun t => [(3, (.pointer (some ⟨g1, 0, none⟩))), (7, (.pointer (some ⟨g13, 0, none⟩))), (8, (.slice A1466 t1461.1.length c1467)), (14, (.pointer (some ⟨g4371, 0, none⟩))), (17, (.int .i64 x6822)), (18, (.pointer (some ⟨g6837, 0, none⟩)))]) (fun t w1 => St NoS w w1 [rowR encInt A6835 c6836 t6830.1.Cells, rowR encInt A6819 c6820 l6821, rowR encInt A4790 c4791 x4793.2.2.2, rowR enc_Action A_p0_Actions c_p0_Actions p0.Actions, rowR encInt A_p1_Cells c_p1_Cells p1.Cells, rowR encInt A_p2_P_Cells c_p2_P_Cells p2.P.Cells] [blk g1 (.cells #[(.int .i64 p0.States), (.int .i64 p0.Symbols), (.slice A_p0_Actions p0.Actions.length c_p0_Actions)] 24 (0, 0)), blk g13 (.cells #[(.int .i64 p2.P.Width), (.int .i64 p2.P.Height), (.slice A_p2_P_Cells p2.P.Cells.length c_p2_P_Cells)] 31 (0, 0)), rowO 65 enc_Tile A1466 c1467 t1461.1, blk g4371 (.cells #[(.int .i64 x6817), (.int .i64 x6818), (.slice A6819 l6821.length c6820)] 27 (0, 0)), blk g6837 (.cells #[(.int .i64 t6830.1.State), (.int .i64 t6830.1.At), (.slice A6835 t6830.1.Cells.length c6836)] 27 (0, 0))] ∧ x6886 = .inr t) (fun Kx6886 => ?_) ?_
        ·
          refine WC.block ?_
          refine WC.loop (T := Int) (fun t => [(3, (.pointer (some ⟨g1, 0, none⟩))), (7, (.pointer (some ⟨g13, 0, none⟩))), (8, (.slice A1466 t1461.1.length c1467)), (14, (.pointer (some ⟨g4371, 0, none⟩))), (17, (.int .i64 x6822)), (18, (.pointer (some ⟨g6837, 0, none⟩))), (20, (.int .i64 t))]) (fun n t w1 => St NoS w w1 [rowR encInt A6835 c6836 t6830.1.Cells, rowR encInt A6819 c6820 l6821, rowR encInt A4790 c4791 x4793.2.2.2, rowR enc_Action A_p0_Actions c_p0_Actions p0.Actions, rowR encInt A_p1_Cells c_p1_Cells p1.Cells, rowR encInt A_p2_P_Cells c_p2_P_Cells p2.P.Cells] [blk g1 (.cells #[(.int .i64 p0.States), (.int .i64 p0.Symbols), (.slice A_p0_Actions p0.Actions.length c_p0_Actions)] 24 (0, 0)), blk g13 (.cells #[(.int .i64 p2.P.Width), (.int .i64 p2.P.Height), (.slice A_p2_P_Cells p2.P.Cells.length c_p2_P_Cells)] 31 (0, 0)), rowO 65 enc_Tile A1466 c1467 t1461.1, blk g4371 (.cells #[(.int .i64 x6817), (.int .i64 x6818), (.slice A6819 l6821.length c6820)] 27 (0, 0)), blk g6837 (.cells #[(.int .i64 t6830.1.State), (.int .i64 t6830.1.At), (.slice A6835 t6830.1.Cells.length c6836)] 27 (0, 0))] ∧ top_TopMachine.l2 n t p0 p2 t1461 x6822 t6830 = some x6886) k6825 0 [3, 7, 8, 14, 17, 18, 20] rfl ⟨(hS6842.subR [0, 1, 2, 3, 4, 5]).sub [1, 2, 3, 4, 0] (by decide), hx6887⟩ ?_
          rintro k6888 x6885 w6889 ⟨hS6890, hl6891⟩
          cases k6888 with
          | zero => rw [top_TopMachine.l2] at hl6891; cases hl6891
          | succ k6888 =>
            rw [top_TopMachine.l2] at hl6891
            refine WC.seq ?_
            refine WC.seq ?_
            refine WC.region ?_
            refine seg 4 [.v (.int .i64 p2.P.Width)] [3, 7, 8, 14, 17, 18, 20, 136] [(3, (.pointer (some ⟨g1, 0, none⟩))), (7, (.pointer (some ⟨g13, 0, none⟩))), (8, (.slice A1466 t1461.1.length c1467)), (14, (.pointer (some ⟨g4371, 0, none⟩))), (17, (.int .i64 x6822)), (18, (.pointer (some ⟨g6837, 0, none⟩))), (20, (.int .i64 x6885)), (136, (.bool (decide (x6885 < p2.P.Width))))] [.cell ⟨g13, 0, none⟩ (.int .i64 p2.P.Width)] (fun fb => by kernel_rfl) rfl ⟨hS6890.cell 1 rfl 0 rfl, trivial⟩ ?_
            refine WL.done rfl ?_
            refine WX.next ?_
            rcases br_some hl6891 with ⟨h6892, hl6891⟩ | ⟨h6892, hl6891⟩
            · refine WC.condT2 (fun fb => by kernel_rfl) h6892 ?_
              refine WC.skip ?_
              refine WX.next ?_
              refine WC.seq ?_
              refine WC.block ?_
              refine WC.seq ?_
              obtain ⟨h6904, hl6891⟩ := as_some hl6891
              obtain ⟨h6905, hl6891⟩ := as_some hl6891
              refine WC.regionD ([(2, ⟨g13, 2, none⟩, (.slice A_p2_P_Cells p2.P.Cells.length c_p2_P_Cells)), (5, ⟨g13, 0, none⟩, (.int .i64 p2.P.Width)), (10, ((adr A_p2_P_Cells).add ((w64 ((w64 (x6822 * p2.P.Width)) + x6885)).toNat * 1)), (.int .i64 (rdD p2.P.Cells (w64 ((w64 (x6822 * p2.P.Width)) + x6885)) 0))), (13, ((adr A1466).add (((rdD p2.P.Cells (w64 ((w64 (x6822 * p2.P.Width)) + x6885)) 0)).toNat * 4)), (.int .i64 ((rdD t1461.1 (rdD p2.P.Cells (w64 ((w64 (x6822 * p2.P.Width)) + x6885)) 0) z_Tile).N))), (14, ⟨g1, 0, none⟩, (.int .i64 p0.States)), (14, ⟨g1, 1, none⟩, (.int .i64 p0.Symbols)), (14, ⟨g1, 2, none⟩, (.slice A_p0_Actions p0.Actions.length c_p0_Actions)), (15, ⟨g6837, 0, none⟩, (.int .i64 t6830.1.State)), (15, ⟨g6837, 1, none⟩, (.int .i64 t6830.1.At)), (15, ⟨g6837, 2, none⟩, (.slice A6835 t6830.1.Cells.length c6836))], [0, 1, 2, 3, 4, 5, 6, 7, 8, 9, 10, 11, 12, 13, 14, 15, 16, 18], [[], [], [1], [], [], [4], [3, 4, 5], [], [3, 4, 5, 6, 7], [1, 2, 3, 4, 5, 6, 7, 8], [1, 2, 3, 4, 5, 6, 7, 8, 9], [0, 1, 2, 3, 4, 5, 6, 7, 8, 9, 10], [0, 1, 2, 3, 4, 5, 6, 7, 8, 9, 10, 11], [0, 1, 2, 3, 4, 5, 6, 7, 8, 9, 10, 11, 12], [], [], [], [14, 15, 16], [0, 1, 2, 3, 4, 5, 6, 7, 8, 9, 10, 11, 12, 13, 14, 15, 16, 17]]) [[0, 1, 2, 3, 4, 5, 6, 7, 8, 9, 10, 11, 12, 13, 14, 15, 16, 17, 18]] (by kernel_rfl) (by kernel_rfl) (NoPanic.seq (NoPanic.block (NoPanic.seq (NoPanic.seq (NoPanic.block (NoPanic.seq (NoPanic.block (NoPanic.seq (NoPanic.seq (NoPanic.block (NoPanic.seq (NoPanic.body)))))))))))) ?_
              have hS6901 := hS6890.drew
              revert hS6901
              generalize World.drew w6889 = w6900
              intro hS6901
              refine ⟨⟨hS6901.cell 1 rfl 2 rfl, hS6901.cell 1 rfl 0 rfl, rowR.cell (hS6901.rd 5).1 0 h6904.1 h6904.2 0 rfl, rowR.cell (rowO.rd (hS6901.own 2).1) z_Tile h6905.1 h6905.2 0 rfl, hS6901.cell 0 rfl 0 rfl, hS6901.cell 0 rfl 1 rfl, hS6901.cell 0 rfl 2 rfl, hS6901.cell 4 rfl 0 rfl, hS6901.cell 4 rfl 1 rfl, hS6901.cell 4 rfl 2 rfl, trivial⟩, forallC ?_ (forallN)⟩
              refine segF 17 [.v (.slice A_p2_P_Cells p2.P.Cells.length c_p2_P_Cells), .v (.int .i64 p2.P.Width), .v (.int .i64 (rdD p2.P.Cells (w64 ((w64 (x6822 * p2.P.Width)) + x6885)) 0)), .v (.int .i64 ((rdD t1461.1 (rdD p2.P.Cells (w64 ((w64 (x6822 * p2.P.Width)) + x6885)) 0) z_Tile).N)), .v (.int .i64 p0.States), .v (.int .i64 p0.Symbols), .v (.slice A_p0_Actions p0.Actions.length c_p0_Actions), .v (.int .i64 t6830.1.State), .v (.int .i64 t6830.1.At), .v (.slice A6835 t6830.1.Cells.length c6836)] [3, 7, 8, 14, 17, 18, 20, 152, 153, 154, 155] [(3, (.pointer (some ⟨g1, 0, none⟩))), (7, (.pointer (some ⟨g13, 0, none⟩))), (8, (.slice A1466 t1461.1.length c1467)), (14, (.pointer (some ⟨g4371, 0, none⟩))), (17, (.int .i64 x6822)), (18, (.pointer (some ⟨g6837, 0, none⟩))), (20, (.int .i64 x6885)), (152, (.int .i64 ((rdD t1461.1 (rdD p2.P.Cells (w64 ((w64 (x6822 * p2.P.Width)) + x6885)) 0) z_Tile).N))), (153, (.agg #[(.int .i64 p0.States), (.int .i64 p0.Symbols), (.slice A_p0_Actions p0.Actions.length c_p0_Actions)])), (154, (.agg #[(.int .i64 t6830.1.State), (.int .i64 t6830.1.At), (.slice A6835 t6830.1.Cells.length c6836)])), (155, (.int .i64 x6885))] [.idx A_p2_P_Cells (w64 ((w64 (x6822 * p2.P.Width)) + x6885)) p2.P.Cells.length, .idx A1466 (rdD p2.P.Cells (w64 ((w64 (x6822 * p2.P.Width)) + x6885)) 0) t1461.1.length] [0, 1, 2, 3, 4, 5, 6, 7, 8, 9] [(2, ⟨g13, 2, none⟩, (.slice A_p2_P_Cells p2.P.Cells.length c_p2_P_Cells)), (5, ⟨g13, 0, none⟩, (.int .i64 p2.P.Width)), (10, ((adr A_p2_P_Cells).add ((w64 ((w64 (x6822 * p2.P.Width)) + x6885)).toNat * 1)), (.int .i64 (rdD p2.P.Cells (w64 ((w64 (x6822 * p2.P.Width)) + x6885)) 0))), (13, ((adr A1466).add (((rdD p2.P.Cells (w64 ((w64 (x6822 * p2.P.Width)) + x6885)) 0)).toNat * 4)), (.int .i64 ((rdD t1461.1 (rdD p2.P.Cells (w64 ((w64 (x6822 * p2.P.Width)) + x6885)) 0) z_Tile).N))), (14, ⟨g1, 0, none⟩, (.int .i64 p0.States)), (14, ⟨g1, 1, none⟩, (.int .i64 p0.Symbols)), (14, ⟨g1, 2, none⟩, (.slice A_p0_Actions p0.Actions.length c_p0_Actions)), (15, ⟨g6837, 0, none⟩, (.int .i64 t6830.1.State)), (15, ⟨g6837, 1, none⟩, (.int .i64 t6830.1.At)), (15, ⟨g6837, 2, none⟩, (.slice A6835 t6830.1.Cells.length c6836))] (fun fb => by kernel_rfl) rfl ⟨rowR.adr (hS6901.rd 5).1 h6904.1 h6904.2, rowR.adr (rowO.rd (hS6901.own 2).1) h6905.1 h6905.2, trivial⟩ rfl ?_
              obtain ⟨t6906, ht6907, hl6891⟩ := bind_some hl6891
              refine WL.call (some 156) 39 #[(.agg #[(.int .i64 p0.States), (.int .i64 p0.Symbols), (.slice A_p0_Actions p0.Actions.length c_p0_Actions)]), (.agg #[(.int .i64 t6830.1.State), (.int .i64 t6830.1.At), (.slice A6835 t6830.1.Cells.length c6836)]), (.int .i64 x6885)] (fun fb => by kernel_rfl) (top_colour_calls p0 t6830.1 x6885 A_p0_Actions c_p0_Actions A6835 c6836 t6906 _ (hS6901.rd 3) (hS6901.rd 0) ht6907) (fun v w6908 hR6909 => ?_)
              obtain ⟨rfl, hk_⟩ := hR6909
              have hS6910 := hS6901.keepN hk_
              refine ⟨⟨hS6910.cell 1 rfl 2 rfl, hS6910.cell 1 rfl 0 rfl, rowR.cell (hS6910.rd 5).1 0 h6904.1 h6904.2 0 rfl, rowR.cell (rowO.rd (hS6910.own 2).1) z_Tile h6905.1 h6905.2 0 rfl, trivial⟩, ?_⟩
              refine seg 19 [] [3, 7, 8, 14, 17, 18, 20, 157] [(3, (.pointer (some ⟨g1, 0, none⟩))), (7, (.pointer (some ⟨g13, 0, none⟩))), (8, (.slice A1466 t1461.1.length c1467)), (14, (.pointer (some ⟨g4371, 0, none⟩))), (17, (.int .i64 x6822)), (18, (.pointer (some ⟨g6837, 0, none⟩))), (20, (.int .i64 x6885)), (157, (.bool (((rdD t1461.1 (rdD p2.P.Cells (w64 ((w64 (x6822 * p2.P.Width)) + x6885)) 0) z_Tile).N) != t6906)))] [] (fun fb => by kernel_rfl) rfl trivial ?_
              refine WL.done rfl ?_
              refine WX.next ?_
              rcases br_some hl6891 with ⟨h6911, hl6891⟩ | ⟨h6911, hl6891⟩
              · refine WC.condT2 (fun fb => by kernel_rfl) h6911 ?_
                refine WC.seq ?_
                refine WC.region ?_
                refine seg 1 [] [6] [(6, (.bool false))] [] (fun fb => by kernel_rfl) rfl trivial ?_
                refine WL.done rfl ?_
                refine WX.next ?_
                refine WC.ret ?_
                injection hl6891 with hl6891
                subst hl6891
                injection hl6828 with hl6828
                subst hl6828
                injection hf with hf
                subst hf
                exact WX.blockR (WX.thenR (WX.thenR (WX.blockR (WX.thenR (WX.blockR (WX.thenR (WX.thenR (WX.blockR (WX.thenR (WX.ret_ [] (.bool false) [] (fun fb => by kernel_rfl) trivial ⟨_, rfl, rfl, hS6910.keep⟩))))))))))
              refine WC.condF2 (fun fb => by kernel_rfl) h6911 ?_
              refine WC.skip ?_
              refine WX.blockN (WX.next ?_)
              refine WC.region ?_
              refine seg 3 [] [3, 7, 8, 14, 17, 18, 20] [(3, (.pointer (some ⟨g1, 0, none⟩))), (7, (.pointer (some ⟨g13, 0, none⟩))), (8, (.slice A1466 t1461.1.length c1467)), (14, (.pointer (some ⟨g4371, 0, none⟩))), (17, (.int .i64 x6822)), (18, (.pointer (some ⟨g6837, 0, none⟩))), (20, (.int .i64 (w64 (x6885 + 1))))] [] (fun fb => by kernel_rfl) rfl trivial ?_
              refine WL.done rfl ?_
              exact WX.again k6888 (Nat.lt_succ_self _) (w64 (x6885 + 1)) [3, 7, 8, 14, 17, 18, 20] rfl ⟨(hS6910.subR [0, 1, 2, 3, 4, 5]).sub [0, 1, 2, 3, 4] (by decide), hl6891⟩
            refine WC.condF2 (fun fb => by kernel_rfl) h6892 ?_
            refine WC.exit ?_
            injection hl6891 with hl6891
            exact WX.thenX (WX.thenX (WX.blockHere (WX.to Kx6886 () [3, 7, 8, 14, 17, 18] rfl ⟨(hS6890.subR [0, 1, 2, 3, 4, 5]).sub [0, 1, 2, 3, 4] (by decide), hl6891.symm⟩)))
        rintro y6915 w6912 ⟨hS6913, hq6914⟩
        subst hq6914
        have hl6828 := sum_inr hl6828
        refine WX.next ?_
        refine WC.region ?_
        refine seg 1 [.v (.int .i64 t6830.1.State), .v (.int .i64 t6830.1.At), .v (.slice A6835 t6830.1.Cells.length c6836)] [3, 7, 8, 14, 17, 158] [(3, (.pointer (some ⟨g1, 0, none⟩))), (7, (.pointer (some ⟨g13, 0, none⟩))), (8, (.slice A1466 t1461.1.length c1467)), (14, (.pointer (some ⟨g4371, 0, none⟩))), (17, (.int .i64 x6822)), (158, (.agg #[(.int .i64 t6830.1.State), (.int .i64 t6830.1.At), (.slice A6835 t6830.1.Cells.length c6836)]))] [.cell ⟨g6837, 0, none⟩ (.int .i64 t6830.1.State), .cell ⟨g6837, 1, none⟩ (.int .i64 t6830.1.At), .cell ⟨g6837, 2, none⟩ (.slice A6835 t6830.1.Cells.length c6836)] (fun fb => by kernel_rfl) rfl ⟨hS6913.cell 4 rfl 0 rfl, hS6913.cell 4 rfl 1 rfl, hS6913.cell 4 rfl 2 rfl, trivial⟩ ?_
        refine WL.store hS6913 3 rfl [(0, (.int .i64 t6830.1.State)), (1, (.int .i64 t6830.1.At)), (2, (.slice A6835 t6830.1.Cells.length c6836))] #[(.int .i64 t6830.1.State), (.int .i64 t6830.1.At), (.slice A6835 t6830.1.Cells.length c6836)] (fun fb => by kernel_rfl) (by kernel_rfl) rfl [0, 1, 2, 4] (by decide) (by decide) (fun w6917 hS6918 => ?_)
        refine ⟨trivial, ?_⟩
        refine WL.done rfl ?_
        refine WX.blockN (WX.next ?_)
        refine WC.region ?_
        refine seg 3 [] [3, 7, 8, 14, 17] [(3, (.pointer (some ⟨g1, 0, none⟩))), (7, (.pointer (some ⟨g13, 0, none⟩))), (8, (.slice A1466 t1461.1.length c1467)), (14, (.pointer (some ⟨g4371, 0, none⟩))), (17, (.int .i64 (w64 (x6822 + 1))))] [] (fun fb => by kernel_rfl) rfl trivial ?_
        refine WL.done rfl ?_
        exact WX.again k6825 (Nat.lt_succ_self _) ((t6830.1.State, t6830.1.At, t6830.1.Cells, w64 (x6822 + 1)), A6835, c6836) [3, 7, 8, 14, 17] rfl ⟨(hS6918.subR [0, 2, 3, 4, 5]).sub [1, 2, 3, 0] (by decide), hl6828⟩
      refine WC.condF2 (fun fb => by kernel_rfl) h6829 ?_
      refine WC.exit ?_
      injection hl6828 with hl6828
      exact WX.thenX (WX.thenX (WX.blockHere (WX.to Kx6823 () [] rfl ⟨(hS6827.subR [1, 2, 3, 4]).sub [] (by decide), hl6828.symm⟩)))
  rintro y6922 w6919 ⟨hS6920, hq6921⟩
  subst hq6921
  have hf := sum_inr hf
  refine WX.next ?_
  refine WC.seq ?_
  refine WC.region ?_
  obtain ⟨t6924, ht6925, hf⟩ := bind_some hf
  refine WL.call (some 159) 34 #[] (fun fb => by kernel_rfl) (top_steps_calls _ t6924 _ ht6925) (fun v w6926 hR6927 => ?_)
  obtain ⟨rfl, hk_⟩ := hR6927
  have hS6928 := hS6920.keepN hk_
  refine ⟨trivial, ?_⟩
  refine seg 2 [] [6] [(6, (.bool t6924))] [] (fun fb => by kernel_rfl) rfl trivial ?_
  refine WL.done rfl ?_
  refine WX.next ?_
  refine WC.ret ?_
  injection hf with hf
  subst hf
  exact WX.ret_ [] (.bool t6924) [] (fun fb => by kernel_rfl) trivial ⟨_, rfl, rfl, hS6928.keep⟩
end Gp
