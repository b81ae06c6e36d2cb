/- Walks: each function of the program computes its plain function. -/
import Derived.Test.YtamnfcbekogkdaaGx1
set_option linter.unusedVariables false
set_option linter.unusedSimpArgs false
namespace Gp
open Go Gw Go.Proofs
theorem ref08_Colours_calls (p0 : Machine) (p1 : Config) (A_p0_Actions : Option Addr) (c_p0_Actions : Nat) (A_p1_Cells : Option Addr) (c_p1_Cells : Nat) (r : (List Int)) (w : World) (hR0 : RO NoS w (rowR enc_Action A_p0_Actions c_p0_Actions p0.Actions)) (hR1 : RO NoS w (rowR encInt A_p1_Cells c_p1_Cells p1.Cells)) (hf : ref08_Colours p0 p1 = some r) :
    CallsR Try.prog 32 #[(.agg #[(.int .i64 p0.States), (.int .i64 p0.Symbols), (.slice A_p0_Actions p0.Actions.length c_p0_Actions)]), (.agg #[(.int .i64 p1.State), (.int .i64 p1.At), (.slice A_p1_Cells p1.Cells.length c_p1_Cells)])] w (fun v w' => ∃ (A1_ : Option Addr), ∃ (c1_ : Nat), v = (.slice A1_ r.length c1_) ∧ St NoS w w' [] [rowO 3 encInt A1_ c1_ r]) := by
  have hS : St NoS w w [rowR enc_Action A_p0_Actions c_p0_Actions p0.Actions, rowR encInt A_p1_Cells c_p1_Cells p1.Cells] [] := St.init (ro_cons hR0 (ro_cons hR1 (ro_nil _ _)))
  refine enter 25 Try.func32 rfl Try.ntmps32 rfl ?_
  unfold ref08_Colours at hf
  refine WC.seq ?_
  refine WC.region ?_
  refine WL.new hS 2 [] (fun g => (.pointer (some ⟨g, 0, none⟩))) (.cells #[(.int .i64 p0.States), (.int .i64 p0.Symbols), (.slice A_p0_Actions p0.Actions.length c_p0_Actions)] 24 (0, 0)) [] (fun fb g => by kernel_rfl) trivial (fun g5968 w5969 hS5970 => ?_)
  refine ⟨trivial, ?_⟩
  refine WL.new hS5970 3 [] (fun g => (.pointer (some ⟨g, 0, none⟩))) (.cells #[(.int .i64 p1.State), (.int .i64 p1.At), (.slice A_p1_Cells p1.Cells.length c_p1_Cells)] 27 (0, 0)) [] (fun fb g => by kernel_rfl) trivial (fun g5972 w5973 hS5974 => ?_)
  refine ⟨trivial, ?_⟩
  refine seg 3 [] [2, 3] [(2, (.pointer (some ⟨g5968, 0, none⟩))), (3, (.pointer (some ⟨g5972, 0, none⟩)))] [] (fun fb => by kernel_rfl) rfl trivial ?_
  refine WL.done rfl ?_
  refine WX.next ?_
  refine WC.seq ?_
  refine WC.region ?_
  refine WL.new hS5974 6 [] (fun g => (.slice (some ⟨g, 0, none⟩) 0 0)) (.cells #[] 3 (0, 0)) [] (fun fb g => by kernel_rfl) trivial (fun g5976 w5977 hS5978 => ?_)
  refine ⟨trivial, ?_⟩
  have hS5980 : St NoS w w5977 [rowR enc_Action A_p0_Actions c_p0_Actions p0.Actions, rowR encInt A_p1_Cells c_p1_Cells p1.Cells] [rowO 3 encInt (some ⟨g5976, 0, none⟩) 0 ([] : List Int), blk g5972 (.cells #[(.int .i64 p1.State), (.int .i64 p1.At), (.slice A_p1_Cells p1.Cells.length c_p1_Cells)] 27 (0, 0)), blk g5968 (.cells #[(.int .i64 p0.States), (.int .i64 p0.Symbols), (.slice A_p0_Actions p0.Actions.length c_p0_Actions)] 24 (0, 0))] := hS5978.map1 0 _ (fun h => rowO.ofBlk h rfl (Nat.le_of_ble_eq_true (by kernel_rfl))) (fun _ h => by obtain ⟨_, h1, h2⟩ := h; injection h1 with h1; subst h1; exact h2) [1, 2] (by decide) (by decide)
  refine seg 3 [.v (.slice A_p1_Cells p1.Cells.length c_p1_Cells)] [2, 3, 6, 8] [(2, (.pointer (some ⟨g5968, 0, none⟩))), (3, (.pointer (some ⟨g5972, 0, none⟩))), (6, (.slice (some ⟨g5976, 0, none⟩) ([] : List Int).length 0)), (8, (.slice A_p1_Cells p1.Cells.length c_p1_Cells))] [.cell ⟨g5972, 2, none⟩ (.slice A_p1_Cells p1.Cells.length c_p1_Cells)] (fun fb => by kernel_rfl) rfl ⟨hS5980.cell 1 rfl 2 rfl, trivial⟩ ?_
  obtain ⟨h5981, hf⟩ := as_some hf
  refine WL.append hS5980 0 (d := 9) (tS := 25) (z := (.int .i64 0)) (bytes := 8) (c2 := c_p1_Cells) rfl (fun fb => by kernel_rfl) (hS5980.rd 1).1 (by kernel_rfl) (by kernel_rfl) rfl (by decide) h5981 (by decide) [1, 2] (by decide) (by decide) (fun A5982 c5983 w5984 hS5985 => ?_)
  refine ⟨trivial, ?_⟩
  refine seg 5 [] [2, 3, 5] [(2, (.pointer (some ⟨g5968, 0, none⟩))), (3, (.pointer (some ⟨g5972, 0, none⟩))), (5, (.slice A5982 (([] : List Int) ++ p1.Cells).length c5983))] [] (fun fb => by kernel_rfl) rfl trivial ?_
  refine WL.done rfl ?_
  refine WX.next ?_
  refine WC.seq ?_
  obtain ⟨h5998, hf⟩ := as_some hf
  refine WC.regionD ([(2, ⟨g5972, 1, none⟩, (.int .i64 p1.At)), (3, ⟨g5968, 0, none⟩, (.int .i64 p0.States)), (3, ⟨g5968, 1, none⟩, (.int .i64 p0.Symbols)), (3, ⟨g5968, 2, none⟩, (.slice A_p0_Actions p0.Actions.length c_p0_Actions)), (5, ⟨g5972, 0, none⟩, (.int .i64 p1.State)), (7, ⟨g5972, 2, none⟩, (.slice A_p1_Cells p1.Cells.length c_p1_Cells)), (9, ⟨g5972, 1, none⟩, (.int .i64 p1.At)), (11, ((adr A_p1_Cells).add ((p1.At).toNat * 1)), (.int .i64 (rdD p1.Cells p1.At 0)))], [0, 1, 2, 3, 4, 5, 6, 7, 8, 9, 10, 11, 13], [[], [], [1], [], [], [4], [], [6], [], [8], [6, 7, 8, 9], [6, 7, 8, 9, 10], [3, 4, 5, 6, 7, 8, 9, 10, 11], [0, 1, 2, 3, 4, 5, 6, 7, 8, 9, 10, 11, 12], [0, 1, 2, 3, 4, 5, 6, 7, 8, 9, 10, 11, 12, 13]]) [[0, 1, 2, 3, 4, 5, 6, 7, 8, 9, 10, 11, 12, 13, 14]] (by kernel_rfl) (by kernel_rfl) (NoPanic.seq (NoPanic.body)) ?_
  have hS5996 := hS5985.drew
  revert hS5996
  generalize World.drew w5984 = w5995
  intro hS5996
  refine ⟨⟨hS5996.cell 1 rfl 1 rfl, hS5996.cell 2 rfl 0 rfl, hS5996.cell 2 rfl 1 rfl, hS5996.cell 2 rfl 2 rfl, hS5996.cell 1 rfl 0 rfl, hS5996.cell 1 rfl 2 rfl, hS5996.cell 1 rfl 1 rfl, rowR.cell (hS5996.rd 1).1 0 h5998.1 h5998.2 0 rfl, trivial⟩, forallC ?_ (forallN)⟩
  refine segF 12 [.v (.int .i64 p1.At), .v (.int .i64 p0.States), .v (.int .i64 p0.Symbols), .v (.slice A_p0_Actions p0.Actions.length c_p0_Actions), .v (.int .i64 p1.State), .v (.slice A_p1_Cells p1.Cells.length c_p1_Cells), .v (.int .i64 p1.At), .v (.int .i64 (rdD p1.Cells p1.At 0))] [5, 10, 12, 13, 15, 21] [(5, (.slice A5982 (([] : List Int) ++ p1.Cells).length c5983)), (10, (.slice A5982 (([] : List Int) ++ p1.Cells).length c5983)), (12, (.int .i64 p1.At)), (13, (.agg #[(.int .i64 p0.States), (.int .i64 p0.Symbols), (.slice A_p0_Actions p0.Actions.length c_p0_Actions)])), (15, (.int .i64 p1.State)), (21, (.int .i64 (rdD p1.Cells p1.At 0)))] [.idx A_p1_Cells p1.At p1.Cells.length] [0, 1, 2, 3, 4, 5, 6, 7] [(2, ⟨g5972, 1, none⟩, (.int .i64 p1.At)), (3, ⟨g5968, 0, none⟩, (.int .i64 p0.States)), (3, ⟨g5968, 1, none⟩, (.int .i64 p0.Symbols)), (3, ⟨g5968, 2, none⟩, (.slice A_p0_Actions p0.Actions.length c_p0_Actions)), (5, ⟨g5972, 0, none⟩, (.int .i64 p1.State)), (7, ⟨g5972, 2, none⟩, (.slice A_p1_Cells p1.Cells.length c_p1_Cells)), (9, ⟨g5972, 1, none⟩, (.int .i64 p1.At)), (11, ((adr A_p1_Cells).add ((p1.At).toNat * 1)), (.int .i64 (rdD p1.Cells p1.At 0)))] (fun fb => by kernel_rfl) rfl ⟨rowR.adr (hS5996.rd 1).1 h5998.1 h5998.2, trivial⟩ rfl ?_
  obtain ⟨t5999, ht6000, hf⟩ := bind_some hf
  refine WL.call (some 22) 55 #[(.agg #[(.int .i64 p0.States), (.int .i64 p0.Symbols), (.slice A_p0_Actions p0.Actions.length c_p0_Actions)]), (.int .i64 p1.State), (.int .i64 (rdD p1.Cells p1.At 0))] (fun fb => by kernel_rfl) (ref08_both_calls p0 p1.State (rdD p1.Cells p1.At 0) A_p0_Actions c_p0_Actions t5999 _ (hS5996.rd 0) ht6000) (fun v w6001 hR6002 => ?_)
  obtain ⟨rfl, hk_⟩ := hR6002
  have hS6003 := hS5996.keepN hk_
  refine ⟨⟨hS6003.cell 1 rfl 1 rfl, trivial⟩, ?_⟩
  obtain ⟨h6004, hf⟩ := as_some hf
  refine seg 14 [] [5, 22, 23] [(5, (.slice A5982 (([] : List Int) ++ p1.Cells).length c5983)), (22, (.int .i64 t5999)), (23, (.pointer (some ((adr A5982).add ((p1.At).toNat * 1)))))] [.idx A5982 p1.At (([] : List Int) ++ p1.Cells).length] (fun fb => by kernel_rfl) rfl ⟨rowR.adr (rowO.rd (hS6003.own 0).1) h6004.1 h6004.2, trivial⟩ ?_
  refine WL.storeRow hS6003 0 rfl (p1.At) (t5999) (0) [(0, (.int .i64 t5999))] (fun fb => by kernel_rfl) h6004.1 h6004.2 (by kernel_rfl) rfl [1, 2] (by decide) (by decide) (fun w6005 hS6006 => ?_)
  refine ⟨trivial, ?_⟩
  refine WL.reE [5] [(5, (.slice A5982 (([] : List Int) ++ p1.Cells).length c5983))] [(5, (.slice A5982 ((([] : List Int) ++ p1.Cells).set (p1.At).toNat t5999).length c5983))] rfl (by simp only [List.length_set]) ?_
  refine WL.done rfl ?_
  refine WX.next ?_
  refine WC.seq ?_
  refine WC.region ?_
  refine seg 2 [] [4] [(4, (.slice A5982 ((([] : List Int) ++ p1.Cells).set (p1.At).toNat t5999).length c5983))] [] (fun fb => by kernel_rfl) rfl trivial ?_
  refine WL.done rfl ?_
  refine WX.next ?_
  refine WC.ret ?_
  injection hf with hf
  subst hf
  exact WX.ret_ [] (.slice A5982 ((([] : List Int) ++ p1.Cells).set (p1.At).toNat t5999).length c5983) [] (fun fb => by kernel_rfl) trivial ⟨_, rfl, A5982, c5983, rfl, (hS6006.sub [0] (by decide)).noR⟩
theorem ref08_leads_calls (p0 : Machine) (p1 : Config) (p2 : Config) (p3 : Int) (p4 : Tile) (A_p0_Actions : Option Addr) (c_p0_Actions : Nat) (A_p1_Cells : Option Addr) (c_p1_Cells : Nat) (A_p2_Cells : Option Addr) (c_p2_Cells : Nat) (r : Bool) (w : World) (hR0 : RO NoS w (rowR enc_Action A_p0_Actions c_p0_Actions p0.Actions)) (hR1 : RO NoS w (rowR encInt A_p1_Cells c_p1_Cells p1.Cells)) (hR2 : RO NoS w (rowR encInt A_p2_Cells c_p2_Cells p2.Cells)) (hf : ref08_leads p0 p1 p2 p3 p4 = some r) :
    CallsR Try.prog 45 #[(.agg #[(.int .i64 p0.States), (.int .i64 p0.Symbols), (.slice A_p0_Actions p0.Actions.length c_p0_Actions)]), (.agg #[(.int .i64 p1.State), (.int .i64 p1.At), (.slice A_p1_Cells p1.Cells.length c_p1_Cells)]), (.agg #[(.int .i64 p2.State), (.int .i64 p2.At), (.slice A_p2_Cells p2.Cells.length c_p2_Cells)]), (.int .i64 p3), (.agg #[(.int .i64 p4.N), (.int .i64 p4.E), (.int .i64 p4.S), (.int .i64 p4.W)])] w (fun v w' => v = (.bool r) ∧ Keeps NoS w w') := by
  have hS : St NoS w w [rowR enc_Action A_p0_Actions c_p0_Actions p0.Actions, rowR encInt A_p1_Cells c_p1_Cells p1.Cells, rowR encInt A_p2_Cells c_p2_Cells p2.Cells] [] := St.init (ro_cons hR0 (ro_cons hR1 (ro_cons hR2 (ro_nil _ _))))
  refine enter 53 Try.func45 rfl Try.ntmps45 rfl ?_
  unfold ref08_leads at hf
  refine WC.seq ?_
  refine WC.region ?_
  refine WL.new hS 5 [] (fun g => (.pointer (some ⟨g, 0, none⟩))) (.cells #[(.int .i64 p0.States), (.int .i64 p0.Symbols), (.slice A_p0_Actions p0.Actions.length c_p0_Actions)] 24 (0, 0)) [] (fun fb g => by kernel_rfl) trivial (fun g6060 w6061 hS6062 => ?_)
  refine ⟨trivial, ?_⟩
  refine WL.new hS6062 6 [] (fun g => (.pointer (some ⟨g, 0, none⟩))) (.cells #[(.int .i64 p1.State), (.int .i64 p1.At), (.slice A_p1_Cells p1.Cells.length c_p1_Cells)] 27 (0, 0)) [] (fun fb g => by kernel_rfl) trivial (fun g6064 w6065 hS6066 => ?_)
  refine ⟨trivial, ?_⟩
  refine WL.new hS6066 7 [] (fun g => (.pointer (some ⟨g, 0, none⟩))) (.cells #[(.int .i64 p2.State), (.int .i64 p2.At), (.slice A_p2_Cells p2.Cells.length c_p2_Cells)] 27 (0, 0)) [] (fun fb g => by kernel_rfl) trivial (fun g6068 w6069 hS6070 => ?_)
  refine ⟨trivial, ?_⟩
  refine WL.new hS6070 9 [] (fun g => (.pointer (some ⟨g, 0, none⟩))) (.cells #[(.int .i64 p4.N), (.int .i64 p4.E), (.int .i64 p4.S), (.int .i64 p4.W)] 65 (0, 0)) [] (fun fb g => by kernel_rfl) trivial (fun g6072 w6073 hS6074 => ?_)
  refine ⟨trivial, ?_⟩
  refine seg 5 [] [3, 5, 6, 7, 9] [(3, (.int .i64 p3)), (5, (.pointer (some ⟨g6060, 0, none⟩))), (6, (.pointer (some ⟨g6064, 0, none⟩))), (7, (.pointer (some ⟨g6068, 0, none⟩))), (9, (.pointer (some ⟨g6072, 0, none⟩)))] [] (fun fb => by kernel_rfl) rfl trivial ?_
  refine WL.done rfl ?_
  refine WX.next ?_
  refine WC.seq ?_
  refine WC.block ?_
  refine WC.seq ?_
  refine WC.region ?_
  refine seg 5 [.v (.int .i64 p1.At)] [3, 5, 6, 7, 9, 16] [(3, (.int .i64 p3)), (5, (.pointer (some ⟨g6060, 0, none⟩))), (6, (.pointer (some ⟨g6064, 0, none⟩))), (7, (.pointer (some ⟨g6068, 0, none⟩))), (9, (.pointer (some ⟨g6072, 0, none⟩))), (16, (.bool (p1.At == p3)))] [.cell ⟨g6064, 1, none⟩ (.int .i64 p1.At)] (fun fb => by kernel_rfl) rfl ⟨hS6074.cell 2 rfl 1 rfl, trivial⟩ ?_
  refine WL.cutV (T := Bool) 11 (fun t => [(22, (.bool t)), (3, (.int .i64 p3)), (5, (.pointer (some ⟨g6060, 0, none⟩))), (6, (.pointer (some ⟨g6064, 0, none⟩))), (7, (.pointer (some ⟨g6068, 0, none⟩))), (9, (.pointer (some ⟨g6072, 0, none⟩)))]) (fun t => t = ((p1.At == p3) && (p2.At == (w64 (p3 + 1))))) (fun K => ?_) ?_
  ·
    rcases Bool.eq_false_or_eq_true (p1.At == p3) with h6076 | h6076
    ·
      refine WL.setB 16 h6076 rfl ?_
      refine seg 11 [.v (.int .i64 p2.At)] [3, 5, 6, 7, 9, 22] [(3, (.int .i64 p3)), (5, (.pointer (some ⟨g6060, 0, none⟩))), (6, (.pointer (some ⟨g6064, 0, none⟩))), (7, (.pointer (some ⟨g6068, 0, none⟩))), (9, (.pointer (some ⟨g6072, 0, none⟩))), (22, (.bool (p2.At == (w64 (p3 + 1)))))] [.cell ⟨g6068, 1, none⟩ (.int .i64 p2.At)] (fun fb => by kernel_rfl) rfl ⟨hS6074.cell 1 rfl 1 rfl, trivial⟩ ?_
      exact WL.toV K (p2.At == (w64 (p3 + 1))) [22, 3, 5, 6, 7, 9] rfl (by rw [h6076]; rfl)
    refine WL.setB 16 h6076 rfl ?_
    refine seg 11 [] [3, 5, 6, 7, 9, 22] [(3, (.int .i64 p3)), (5, (.pointer (some ⟨g6060, 0, none⟩))), (6, (.pointer (some ⟨g6064, 0, none⟩))), (7, (.pointer (some ⟨g6068, 0, none⟩))), (9, (.pointer (some ⟨g6072, 0, none⟩))), (22, (.bool false))] [] (fun fb => by kernel_rfl) rfl trivial ?_
    exact WL.toV K false [22, 3, 5, 6, 7, 9] rfl (by rw [h6076]; rfl)
  rintro b6077 rfl
  refine seg 12 [] [3, 5, 6, 7, 9, 11] [(3, (.int .i64 p3)), (5, (.pointer (some ⟨g6060, 0, none⟩))), (6, (.pointer (some ⟨g6064, 0, none⟩))), (7, (.pointer (some ⟨g6068, 0, none⟩))), (9, (.pointer (some ⟨g6072, 0, none⟩))), (11, (.bool ((p1.At == p3) && (p2.At == (w64 (p3 + 1))))))] [] (fun fb => by kernel_rfl) rfl trivial ?_
  refine WL.done rfl ?_
  refine WX.next ?_
  rcases br_some hf with ⟨h6078, hf⟩ | ⟨h6078, hf⟩
  · refine WC.condT2 (fun fb => by kernel_rfl) h6078 ?_
    refine WC.seq ?_
    refine WC.region ?_
    refine seg 7 [.v (.int .i64 p4.E), .v (.int .i64 p2.State)] [10] [(10, (.bool (p4.E == (w64 (1 + p2.State)))))] [.cell ⟨g6072, 1, none⟩ (.int .i64 p4.E), .cell ⟨g6068, 0, none⟩ (.int .i64 p2.State)] (fun fb => by kernel_rfl) rfl ⟨hS6074.cell 0 rfl 1 rfl, hS6074.cell 1 rfl 0 rfl, trivial⟩ ?_
    refine WL.done rfl ?_
    refine WX.next ?_
    refine WC.ret ?_
    injection hf with hf
    subst hf
    exact WX.blockR (WX.thenR (WX.ret_ [] (.bool (p4.E == (w64 (1 + p2.State)))) [] (fun fb => by kernel_rfl) trivial ⟨_, rfl, rfl, hS6074.keep⟩))
  refine WC.condF2 (fun fb => by kernel_rfl) h6078 ?_
  refine WC.seq ?_
  refine WC.region ?_
  refine seg 6 [.v (.int .i64 p1.At)] [3, 5, 7, 9, 35] [(3, (.int .i64 p3)), (5, (.pointer (some ⟨g6060, 0, none⟩))), (7, (.pointer (some ⟨g6068, 0, none⟩))), (9, (.pointer (some ⟨g6072, 0, none⟩))), (35, (.bool (p1.At == (w64 (p3 + 1)))))] [.cell ⟨g6064, 1, none⟩ (.int .i64 p1.At)] (fun fb => by kernel_rfl) rfl ⟨hS6074.cell 2 rfl 1 rfl, trivial⟩ ?_
  refine WL.cutV (T := Bool) 11 (fun t => [(40, (.bool t)), (5, (.pointer (some ⟨g6060, 0, none⟩))), (7, (.pointer (some ⟨g6068, 0, none⟩))), (9, (.pointer (some ⟨g6072, 0, none⟩)))]) (fun t => t = ((p1.At == (w64 (p3 + 1))) && (p2.At == p3))) (fun K => ?_) ?_
  ·
    rcases Bool.eq_false_or_eq_true (p1.At == (w64 (p3 + 1))) with h6079 | h6079
    ·
      refine WL.setB 35 h6079 rfl ?_
      refine seg 11 [.v (.int .i64 p2.At)] [5, 7, 9, 40] [(5, (.pointer (some ⟨g6060, 0, none⟩))), (7, (.pointer (some ⟨g6068, 0, none⟩))), (9, (.pointer (some ⟨g6072, 0, none⟩))), (40, (.bool (p2.At == p3)))] [.cell ⟨g6068, 1, none⟩ (.int .i64 p2.At)] (fun fb => by kernel_rfl) rfl ⟨hS6074.cell 1 rfl 1 rfl, trivial⟩ ?_
      exact WL.toV K (p2.At == p3) [40, 5, 7, 9] rfl (by rw [h6079]; rfl)
    refine WL.setB 35 h6079 rfl ?_
    refine seg 11 [] [5, 7, 9, 40] [(5, (.pointer (some ⟨g6060, 0, none⟩))), (7, (.pointer (some ⟨g6068, 0, none⟩))), (9, (.pointer (some ⟨g6072, 0, none⟩))), (40, (.bool false))] [] (fun fb => by kernel_rfl) rfl trivial ?_
    exact WL.toV K false [40, 5, 7, 9] rfl (by rw [h6079]; rfl)
  rintro b6080 rfl
  refine seg 12 [] [5, 7, 9, 29] [(5, (.pointer (some ⟨g6060, 0, none⟩))), (7, (.pointer (some ⟨g6068, 0, none⟩))), (9, (.pointer (some ⟨g6072, 0, none⟩))), (29, (.bool ((p1.At == (w64 (p3 + 1))) && (p2.At == p3))))] [] (fun fb => by kernel_rfl) rfl trivial ?_
  refine WL.done rfl ?_
  refine WX.next ?_
  rcases br_some hf with ⟨h6081, hf⟩ | ⟨h6081, hf⟩
  · refine WC.condT2 (fun fb => by kernel_rfl) h6081 ?_
    refine WC.seq ?_
    refine WC.region ?_
    refine seg 10 [.v (.int .i64 p4.E), .v (.int .i64 p0.States), .v (.int .i64 p2.State)] [10] [(10, (.bool (p4.E == (w64 ((w64 (1 + p0.States)) + p2.State)))))] [.cell ⟨g6072, 1, none⟩ (.int .i64 p4.E), .cell ⟨g6060, 0, none⟩ (.int .i64 p0.States), .cell ⟨g6068, 0, none⟩ (.int .i64 p2.State)] (fun fb => by kernel_rfl) rfl ⟨hS6074.cell 0 rfl 1 rfl, hS6074.cell 3 rfl 0 rfl, hS6074.cell 1 rfl 0 rfl, trivial⟩ ?_
    refine WL.done rfl ?_
    refine WX.next ?_
    refine WC.ret ?_
    injection hf with hf
    subst hf
    exact WX.blockR (WX.thenR (WX.ret_ [] (.bool (p4.E == (w64 ((w64 (1 + p0.States)) + p2.State)))) [] (fun fb => by kernel_rfl) trivial ⟨_, rfl, rfl, hS6074.keep⟩))
  refine WC.condF2 (fun fb => by kernel_rfl) h6081 ?_
  refine WC.skip ?_
  refine WX.blockN (WX.next ?_)
  refine WC.seq ?_
  refine WC.region ?_
  refine seg 4 [.v (.int .i64 p4.E)] [10] [(10, (.bool (p4.E == 0)))] [.cell ⟨g6072, 1, none⟩ (.int .i64 p4.E)] (fun fb => by kernel_rfl) rfl ⟨hS6074.cell 0 rfl 1 rfl, trivial⟩ ?_
  refine WL.done rfl ?_
  refine WX.next ?_
  refine WC.ret ?_
  injection hf with hf
  subst hf
  exact WX.ret_ [] (.bool (p4.E == 0)) [] (fun fb => by kernel_rfl) trivial ⟨_, rfl, rfl, hS6074.keep⟩
theorem ref08_Picture_calls (k : Nat) (p0 : Machine) (p1 : Config) (p2 : Int) (A_p0_Actions : Option Addr) (c_p0_Actions : Nat) (A_p1_Cells : Option Addr) (c_p1_Cells : Nat) (r : Pattern × Bool) (w : World) (hR0 : RO NoS w (rowR enc_Action A_p0_Actions c_p0_Actions p0.Actions)) (hR1 : RO NoS w (rowR encInt A_p1_Cells c_p1_Cells p1.Cells)) (hf : ref08_Picture k p0 p1 p2 = some r) :
    CallsR Try.prog 15 #[(.agg #[(.int .i64 p0.States), (.int .i64 p0.Symbols), (.slice A_p0_Actions p0.Actions.length c_p0_Actions)]), (.agg #[(.int .i64 p1.State), (.int .i64 p1.At), (.slice A_p1_Cells p1.Cells.length c_p1_Cells)]), (.int .i64 p2)] w (fun v w' => ∃ (A1_ : Option Addr), ∃ (c1_ : Nat), v = (.tuple #[(.agg #[(.int .i64 r.1.Width), (.int .i64 r.1.Height), (.slice A1_ r.1.Cells.length c1_)]), (.bool r.2)]) ∧ St NoS w w' [] [rowO 3 encInt A1_ c1_ r.1.Cells]) := by
  have hS : St NoS w w [rowR enc_Action A_p0_Actions c_p0_Actions p0.Actions, rowR encInt A_p1_Cells c_p1_Cells p1.Cells] [] := St.init (ro_cons hR0 (ro_cons hR1 (ro_nil _ _)))
  refine enter 122 Try.func15 rfl Try.ntmps15 rfl ?_
  unfold ref08_Picture at hf
  refine WC.seq ?_
  refine WC.region ?_
  refine WL.new hS 3 [] (fun g => (.pointer (some ⟨g, 0, none⟩))) (.cells #[(.int .i64 p0.States), (.int .i64 p0.Symbols), (.slice A_p0_Actions p0.Actions.length c_p0_Actions)] 24 (0, 0)) [] (fun fb g => by kernel_rfl) trivial (fun g3187 w3188 hS3189 => ?_)
  refine ⟨trivial, ?_⟩
  refine WL.new hS3189 4 [] (fun g => (.pointer (some ⟨g, 0, none⟩))) (.cells #[(.int .i64 p1.State), (.int .i64 p1.At), (.slice A_p1_Cells p1.Cells.length c_p1_Cells)] 27 (0, 0)) [] (fun fb g => by kernel_rfl) trivial (fun g3191 w3192 hS3193 => ?_)
  refine ⟨trivial, ?_⟩
  refine WL.new hS3193 6 [] (fun g => (.pointer (some ⟨g, 0, none⟩))) (.cells #[(.int .i64 0), (.int .i64 0), (.slice none 0 0)] 31 (0, 0)) [] (fun fb g => by kernel_rfl) trivial (fun g3195 w3196 hS3197 => ?_)
  refine ⟨trivial, ?_⟩
  refine seg 4 [] [2, 3, 4, 6] [(2, (.int .i64 p2)), (3, (.pointer (some ⟨g3187, 0, none⟩))), (4, (.pointer (some ⟨g3191, 0, none⟩))), (6, (.pointer (some ⟨g3195, 0, none⟩)))] [] (fun fb => by kernel_rfl) rfl trivial ?_
  refine WL.done rfl ?_
  refine WX.next ?_
  refine WC.seq ?_
  refine WC.region ?_
  refine seg 1 [.v (.int .i64 p0.States), .v (.int .i64 p0.Symbols), .v (.slice A_p0_Actions p0.Actions.length c_p0_Actions)] [2, 3, 4, 6, 20] [(2, (.int .i64 p2)), (3, (.pointer (some ⟨g3187, 0, none⟩))), (4, (.pointer (some ⟨g3191, 0, none⟩))), (6, (.pointer (some ⟨g3195, 0, none⟩))), (20, (.agg #[(.int .i64 p0.States), (.int .i64 p0.Symbols), (.slice A_p0_Actions p0.Actions.length c_p0_Actions)]))] [.cell ⟨g3187, 0, none⟩ (.int .i64 p0.States), .cell ⟨g3187, 1, none⟩ (.int .i64 p0.Symbols), .cell ⟨g3187, 2, none⟩ (.slice A_p0_Actions p0.Actions.length c_p0_Actions)] (fun fb => by kernel_rfl) rfl ⟨hS3197.cell 2 rfl 0 rfl, hS3197.cell 2 rfl 1 rfl, hS3197.cell 2 rfl 2 rfl, trivial⟩ ?_
  obtain ⟨t5823, ht5824, hf⟩ := bind_some hf
  refine WL.call (some 21) 29 #[(.agg #[(.int .i64 p0.States), (.int .i64 p0.Symbols), (.slice A_p0_Actions p0.Actions.length c_p0_Actions)])] (fun fb => by kernel_rfl) (ref08_Tiles_calls _ p0 A_p0_Actions c_p0_Actions t5823 _ (hS3197.rd 0) ht5824) (fun v w5825 hR5826 => ?_)
  obtain ⟨A5828, c5829, rfl, hk_⟩ := hR5826
  have hS5827 : St NoS w w5825 [rowR enc_Action A_p0_Actions c_p0_Actions p0.Actions, rowR encInt A_p1_Cells c_p1_Cells p1.Cells] [rowO 65 enc_Tile A5828 c5829 t5823, blk g3195 (.cells #[(.int .i64 0), (.int .i64 0), (.slice none 0 0)] 31 (0, 0)), blk g3191 (.cells #[(.int .i64 p1.State), (.int .i64 p1.At), (.slice A_p1_Cells p1.Cells.length c_p1_Cells)] 27 (0, 0)), blk g3187 (.cells #[(.int .i64 p0.States), (.int .i64 p0.Symbols), (.slice A_p0_Actions p0.Actions.length c_p0_Actions)] 24 (0, 0))] := hS3197.call hk_ [] [0, 1, 2] (fun g hg => hg.elim) (by simp) (by decide)
  refine ⟨trivial, ?_⟩
  refine seg 3 [] [2, 3, 4, 6, 8] [(2, (.int .i64 p2)), (3, (.pointer (some ⟨g3187, 0, none⟩))), (4, (.pointer (some ⟨g3191, 0, none⟩))), (6, (.pointer (some ⟨g3195, 0, none⟩))), (8, (.slice A5828 t5823.length c5829))] [] (fun fb => by kernel_rfl) rfl trivial ?_
  refine WL.done rfl ?_
  refine WX.next ?_
  refine WC.seq ?_
  refine WC.region ?_
  refine seg 5 [.v (.slice A_p1_Cells p1.Cells.length c_p1_Cells)] [2, 3, 4, 6, 8, 26] [(2, (.int .i64 p2)), (3, (.pointer (some ⟨g3187, 0, none⟩))), (4, (.pointer (some ⟨g3191, 0, none⟩))), (6, (.pointer (some ⟨g3195, 0, none⟩))), (8, (.slice A5828 t5823.length c5829)), (26, (.agg #[(.int .i64 (p1.Cells.length : Int)), (.int .i64 p2), (.slice none 0 0)]))] [.cell ⟨g3191, 2, none⟩ (.slice A_p1_Cells p1.Cells.length c_p1_Cells)] (fun fb => by kernel_rfl) rfl ⟨hS5827.cell 2 rfl 2 rfl, trivial⟩ ?_
  refine WL.new hS5827 9 [] (fun g => (.pointer (some ⟨g, 0, none⟩))) (.cells #[(.int .i64 0), (.int .i64 0), (.slice none 0 0)] 31 (0, 0)) [] (fun fb g => by kernel_rfl) trivial (fun g5830 w5831 hS5832 => ?_)
  refine ⟨trivial, ?_⟩
  refine WL.store hS5832 0 rfl [(0, (.int .i64 (p1.Cells.length : Int))), (1, (.int .i64 p2)), (2, (.slice none 0 0))] #[(.int .i64 (p1.Cells.length : Int)), (.int .i64 p2), (.slice none 0 0)] (fun fb => by kernel_rfl) (by kernel_rfl) rfl [1, 2, 3, 4] (by decide) (by decide) (fun w5834 hS5835 => ?_)
  refine ⟨trivial, ?_⟩
  refine WL.done rfl ?_
  refine WX.next ?_
  refine WC.seq ?_
  refine WC.seq ?_
  refine WC.region ?_
  refine seg 1 [] [2, 3, 4, 6, 8, 9, 10] [(2, (.int .i64 p2)), (3, (.pointer (some ⟨g3187, 0, none⟩))), (4, (.pointer (some ⟨g3191, 0, none⟩))), (6, (.pointer (some ⟨g3195, 0, none⟩))), (8, (.slice A5828 t5823.length c5829)), (9, (.pointer (some ⟨g5830, 0, none⟩))), (10, (.int .i64 0))] [] (fun fb => by kernel_rfl) rfl trivial ?_
  refine WL.done rfl ?_
  refine WX.next ?_
  have hS9664 := hS5835.nilrow 3 encInt
  obtain ⟨x9677, hx9678, hf⟩ := bind_some hf
  refine WC.cutN (T := (List Int) × (Option Addr) × Nat) (fun t => [(6, (.pointer (some ⟨g3195, 0, none⟩))), (9, (.pointer (some ⟨g5830, 0, none⟩)))]) (fun t w1 => St NoS w w1 [rowR enc_Action A_p0_Actions c_p0_Actions p0.Actions, rowR encInt A_p1_Cells c_p1_Cells p1.Cells] [blk g3195 (.cells #[(.int .i64 0), (.int .i64 0), (.slice none 0 0)] 31 (0, 0)), blk g5830 (.cells #[(.int .i64 (p1.Cells.length : Int)), (.int .i64 p2), (.slice t.2.1 t.1.length t.2.2)] 31 (0, 0)), rowO 3 encInt t.2.1 t.2.2 t.1] ∧ x9677 = .inr t.1) (fun Kx9677 => ?_) ?_
  ·
    refine WC.block ?_
    refine WC.loop (T := (Int × Int × (List Int) × (List Int) × Int) × (Option Addr) × Nat × (Option Addr) × Nat) (fun t => [(2, (.int .i64 p2)), (3, (.pointer (some ⟨g3187, 0, none⟩))), (4, (.pointer (some ⟨g3191, 0, none⟩))), (6, (.pointer (some ⟨g3195, 0, none⟩))), (8, (.slice A5828 t5823.length c5829)), (9, (.pointer (some ⟨g5830, 0, none⟩))), (10, (.int .i64 t.1.2.2.2.2))]) (fun n t w1 => St NoS w w1 [rowR encInt t.2.1 t.2.2.1 t.1.2.2.1, rowR enc_Action A_p0_Actions c_p0_Actions p0.Actions, rowR encInt A_p1_Cells c_p1_Cells p1.Cells] [blk g3187 (.cells #[(.int .i64 p0.States), (.int .i64 p0.Symbols), (.slice A_p0_Actions p0.Actions.length c_p0_Actions)] 24 (0, 0)), blk g3191 (.cells #[(.int .i64 t.1.1), (.int .i64 t.1.2.1), (.slice t.2.1 t.1.2.2.1.length t.2.2.1)] 27 (0, 0)), blk g3195 (.cells #[(.int .i64 0), (.int .i64 0), (.slice none 0 0)] 31 (0, 0)), rowO 65 enc_Tile A5828 c5829 t5823, blk g5830 (.cells #[(.int .i64 (p1.Cells.length : Int)), (.int .i64 p2), (.slice t.2.2.2.1 t.1.2.2.2.1.length t.2.2.2.2)] 31 (0, 0)), rowO 3 encInt t.2.2.2.1 t.2.2.2.2 t.1.2.2.2.1] ∧ ref08_Picture.l0 n t.1.1 t.1.2.1 t.1.2.2.1 t.1.2.2.2.1 t.1.2.2.2.2 p0 p2 t5823 = some x9677) k ((p1.State, p1.At, p1.Cells, ([] : List Int), 0), A_p1_Cells, c_p1_Cells, none, 0) [2, 3, 4, 6, 8, 9, 10] rfl ⟨(hS9664.subR [1, 0, 1]).sub [5, 4, 3, 2, 1, 0] (by decide), hx9678⟩ ?_
    rintro k9679 ⟨⟨x9665, x9666, l9669, l9672, x9673⟩, A9667, c9668, A9670, c9671⟩ w9680 ⟨hS9681, hl9682⟩
    cases k9679 with
    | zero => rw [ref08_Picture.l0] at hl9682; cases hl9682
    | succ k9679 =>
      rw [ref08_Picture.l0] at hl9682
      refine WC.seq ?_
      refine WC.seq ?_
      refine WC.region ?_
      refine seg 3 [] [2, 3, 4, 6, 8, 9, 10, 29] [(2, (.int .i64 p2)), (3, (.pointer (some ⟨g3187, 0, none⟩))), (4, (.pointer (some ⟨g3191, 0, none⟩))), (6, (.pointer (some ⟨g3195, 0, none⟩))), (8, (.slice A5828 t5823.length c5829)), (9, (.pointer (some ⟨g5830, 0, none⟩))), (10, (.int .i64 x9673)), (29, (.bool (decide (x9673 < p2))))] [] (fun fb => by kernel_rfl) rfl trivial ?_
      refine WL.done rfl ?_
      refine WX.next ?_
      rcases br_some hl9682 with ⟨h9683, hl9682⟩ | ⟨h9683, hl9682⟩
      · refine WC.condT2 (fun fb => by kernel_rfl) h9683 ?_
        refine WC.skip ?_
        refine WX.next ?_
        refine WC.seq ?_
        refine WC.block ?_
        refine WC.seq ?_
        refine WC.region ?_
        refine seg 2 [.v (.int .i64 p0.States), .v (.int .i64 p0.Symbols), .v (.slice A_p0_Actions p0.Actions.length c_p0_Actions), .v (.int .i64 x9665), .v (.int .i64 x9666), .v (.slice A9667 l9669.length c9668)] [2, 3, 4, 6, 8, 9, 10, 33, 34] [(2, (.int .i64 p2)), (3, (.pointer (some ⟨g3187, 0, none⟩))), (4, (.pointer (some ⟨g3191, 0, none⟩))), (6, (.pointer (some ⟨g3195, 0, none⟩))), (8, (.slice A5828 t5823.length c5829)), (9, (.pointer (some ⟨g5830, 0, none⟩))), (10, (.int .i64 x9673)), (33, (.agg #[(.int .i64 p0.States), (.int .i64 p0.Symbols), (.slice A_p0_Actions p0.Actions.length c_p0_Actions)])), (34, (.agg #[(.int .i64 x9665), (.int .i64 x9666), (.slice A9667 l9669.length c9668)]))] [.cell ⟨g3187, 0, none⟩ (.int .i64 p0.States), .cell ⟨g3187, 1, none⟩ (.int .i64 p0.Symbols), .cell ⟨g3187, 2, none⟩ (.slice A_p0_Actions p0.Actions.length c_p0_Actions), .cell ⟨g3191, 0, none⟩ (.int .i64 x9665), .cell ⟨g3191, 1, none⟩ (.int .i64 x9666), .cell ⟨g3191, 2, none⟩ (.slice A9667 l9669.length c9668)] (fun fb => by kernel_rfl) rfl ⟨hS9681.cell 0 rfl 0 rfl, hS9681.cell 0 rfl 1 rfl, hS9681.cell 0 rfl 2 rfl, hS9681.cell 1 rfl 0 rfl, hS9681.cell 1 rfl 1 rfl, hS9681.cell 1 rfl 2 rfl, trivial⟩ ?_
        obtain ⟨t9684, ht9685, hl9682⟩ := bind_some hl9682
        refine WL.call (some 35) 22 #[(.agg #[(.int .i64 p0.States), (.int .i64 p0.Symbols), (.slice A_p0_Actions p0.Actions.length c_p0_Actions)]), (.agg #[(.int .i64 x9665), (.int .i64 x9666), (.slice A9667 l9669.length c9668)])] (fun fb => by kernel_rfl) (ref08_Step_calls p0 (Config.mk x9665 x9666 l9669) A_p0_Actions c_p0_Actions A9667 c9668 t9684 _ (hS9681.rd 1) (hS9681.rd 0) ht9685) (fun v w9686 hR9687 => ?_)
        obtain ⟨A9689, c9690, rfl, hk_⟩ := hR9687
        have hS9688 : St NoS w w9686 [rowR encInt A9667 c9668 l9669, rowR enc_Action A_p0_Actions c_p0_Actions p0.Actions, rowR encInt A_p1_Cells c_p1_Cells p1.Cells] [rowO 3 encInt A9689 c9690 t9684.1.Cells, blk g3187 (.cells #[(.int .i64 p0.States), (.int .i64 p0.Symbols), (.slice A_p0_Actions p0.Actions.length c_p0_Actions)] 24 (0, 0)), blk g3191 (.cells #[(.int .i64 x9665), (.int .i64 x9666), (.slice A9667 l9669.length c9668)] 27 (0, 0)), blk g3195 (.cells #[(.int .i64 0), (.int .i64 0), (.slice none 0 0)] 31 (0, 0)), rowO 65 enc_Tile A5828 c5829 t5823, blk g5830 (.cells #[(.int .i64 (p1.Cells.length : Int)), (.int .i64 p2), (.slice A9670 l9672.length c9671)] 31 (0, 0)), rowO 3 encInt A9670 c9671 l9672] := hS9681.call hk_ [] [0, 1, 2, 3, 4, 5] (fun g hg => hg.elim) (by simp) (by decide)
        refine ⟨trivial, ?_⟩
        refine seg 6 [] [2, 3, 4, 6, 8, 9, 10, 36, 37] [(2, (.int .i64 p2)), (3, (.pointer (some ⟨g3187, 0, none⟩))), (4, (.pointer (some ⟨g3191, 0, none⟩))), (6, (.pointer (some ⟨g3195, 0, none⟩))), (8, (.slice A5828 t5823.length c5829)), (9, (.pointer (some ⟨g5830, 0, none⟩))), (10, (.int .i64 x9673)), (36, (.agg #[(.int .i64 t9684.1.State), (.int .i64 t9684.1.At), (.slice A9689 t9684.1.Cells.length c9690)])), (37, (.int .i64 t9684.2))] [] (fun fb => by kernel_rfl) rfl trivial ?_
        refine WL.new hS9688 11 [] (fun g => (.pointer (some ⟨g, 0, none⟩))) (.cells #[(.int .i64 0), (.int .i64 0), (.slice none 0 0)] 27 (0, 0)) [] (fun fb g => by kernel_rfl) trivial (fun g9691 w9692 hS9693 => ?_)
        refine ⟨trivial, ?_⟩
        refine WL.store hS9693 0 rfl [(0, (.int .i64 t9684.1.State)), (1, (.int .i64 t9684.1.At)), (2, (.slice A9689 t9684.1.Cells.length c9690))] #[(.int .i64 t9684.1.State), (.int .i64 t9684.1.At), (.slice A9689 t9684.1.Cells.length c9690)] (fun fb => by kernel_rfl) (by kernel_rfl) rfl [1, 2, 3, 4, 5, 6, 7] (by decide) (by decide) (fun w9695 hS9696 => ?_)
        refine ⟨trivial, ?_⟩
        refine seg 9 [] [2, 3, 4, 6, 8, 9, 10, 11, 12] [(2, (.int .i64 p2)), (3, (.pointer (some ⟨g3187, 0, none⟩))), (4, (.pointer (some ⟨g3191, 0, none⟩))), (6, (.pointer (some ⟨g3195, 0, none⟩))), (8, (.slice A5828 t5823.length c5829)), (9, (.pointer (some ⟨g5830, 0, none⟩))), (10, (.int .i64 x9673)), (11, (.pointer (some ⟨g9691, 0, none⟩))), (12, (.int .i64 t9684.2))] [] (fun fb => by kernel_rfl) rfl trivial ?_
        refine WL.done rfl ?_
        refine WX.next ?_
        refine WC.seq ?_
        refine WC.seq ?_
        refine WC.region ?_
        refine seg 2 [] [2, 3, 4, 6, 8, 9, 10, 11, 39] [(2, (.int .i64 p2)), (3, (.pointer (some ⟨g3187, 0, none⟩))), (4, (.pointer (some ⟨g3191, 0, none⟩))), (6, (.pointer (some ⟨g3195, 0, none⟩))), (8, (.slice A5828 t5823.length c5829)), (9, (.pointer (some ⟨g5830, 0, none⟩))), (10, (.int .i64 x9673)), (11, (.pointer (some ⟨g9691, 0, none⟩))), (39, (.bool (t9684.2 != 0)))] [] (fun fb => by kernel_rfl) rfl trivial ?_
        refine WL.done rfl ?_
        refine WX.next ?_
        rcases br_some hl9682 with ⟨h9697, hl9682⟩ | ⟨h9697, hl9682⟩
        · refine WC.condT2 (fun fb => by kernel_rfl) h9697 ?_
          refine WC.seq ?_
          refine WC.region ?_
          refine seg 1 [] [6, 40] [(6, (.pointer (some ⟨g3195, 0, none⟩))), (40, (.agg #[(.int .i64 0), (.int .i64 0), (.slice none 0 0)]))] [] (fun fb => by kernel_rfl) rfl trivial ?_
          refine WL.store hS9696 4 rfl [(0, (.int .i64 0)), (1, (.int .i64 0)), (2, (.slice none 0 0))] #[(.int .i64 0), (.int .i64 0), (.slice none 0 0)] (fun fb => by kernel_rfl) (by kernel_rfl) rfl [0, 1, 2, 3, 5, 6, 7] (by decide) (by decide) (fun w9698 hS9699 => ?_)
          refine ⟨trivial, ?_⟩
          refine seg 3 [] [6, 7] [(6, (.pointer (some ⟨g3195, 0, none⟩))), (7, (.bool false))] [] (fun fb => by kernel_rfl) rfl trivial ?_
          refine WL.done rfl ?_
          refine WX.next ?_
          refine WC.ret ?_
          have hS9700 := hS9699.nilrow 3 encInt
          injection hl9682 with hl9682
          subst hl9682
          injection hf with hf
          subst hf
          exact WX.thenR (WX.blockR (WX.thenR (WX.thenR (WX.blockR (WX.thenR (WX.ret_ [.v (.int .i64 0), .v (.int .i64 0), .v (.slice none 0 0)] (.tuple #[(.agg #[(.int .i64 0), (.int .i64 0), (.slice none ([] : List Int).length 0)]), (.bool false)]) [.cell ⟨g3195, 0, none⟩ (.int .i64 0), .cell ⟨g3195, 1, none⟩ (.int .i64 0), .cell ⟨g3195, 2, none⟩ (.slice none 0 0)] (fun fb => by kernel_rfl) ⟨hS9699.cell 0 rfl 0 rfl, hS9699.cell 0 rfl 1 rfl, hS9699.cell 0 rfl 2 rfl, trivial⟩ ⟨_, rfl, none, 0, rfl, (hS9700.sub [0] (by decide)).noR⟩))))))
        refine WC.condF2 (fun fb => by kernel_rfl) h9697 ?_
        refine WC.skip ?_
        refine WX.next ?_
        refine WC.seq ?_
        refine WC.regionD ([(0, ⟨g3187, 0, none⟩, (.int .i64 p0.States)), (0, ⟨g3187, 1, none⟩, (.int .i64 p0.Symbols)), (0, ⟨g3187, 2, none⟩, (.slice A_p0_Actions p0.Actions.length c_p0_Actions)), (1, ⟨g3191, 0, none⟩, (.int .i64 x9665)), (1, ⟨g3191, 1, none⟩, (.int .i64 x9666)), (1, ⟨g3191, 2, none⟩, (.slice A9667 l9669.length c9668)), (3, ⟨g3187, 0, none⟩, (.int .i64 p0.States)), (3, ⟨g3187, 1, none⟩, (.int .i64 p0.Symbols)), (3, ⟨g3187, 2, none⟩, (.slice A_p0_Actions p0.Actions.length c_p0_Actions)), (4, ⟨g9691, 0, none⟩, (.int .i64 t9684.1.State)), (4, ⟨g9691, 1, none⟩, (.int .i64 t9684.1.At)), (4, ⟨g9691, 2, none⟩, (.slice A9689 t9684.1.Cells.length c9690))], [0, 1, 3, 4, 6, 7], [[], [], [0, 1], [], [], [0, 1, 2, 3, 4], [0, 1, 2, 3, 4, 5], [0, 1, 2, 3, 4, 5, 6]]) [[0, 1, 3, 4, 2, 5, 6, 7]] (by kernel_rfl) (by kernel_rfl) (NoPanic.seq (NoPanic.block (NoPanic.seq (NoPanic.seq (NoPanic.block (NoPanic.seq (NoPanic.body))))))) ?_
        have hS9716 := hS9696.drew
        revert hS9716
        generalize World.drew w9695 = w9715
        intro hS9716
        refine ⟨⟨hS9716.cell 2 rfl 0 rfl, hS9716.cell 2 rfl 1 rfl, hS9716.cell 2 rfl 2 rfl, hS9716.cell 3 rfl 0 rfl, hS9716.cell 3 rfl 1 rfl, hS9716.cell 3 rfl 2 rfl, hS9716.cell 2 rfl 0 rfl, hS9716.cell 2 rfl 1 rfl, hS9716.cell 2 rfl 2 rfl, hS9716.cell 0 rfl 0 rfl, hS9716.cell 0 rfl 1 rfl, hS9716.cell 0 rfl 2 rfl, trivial⟩, forallC ?_ (forallN)⟩
        refine segF 4 [.v (.int .i64 p0.States), .v (.int .i64 p0.Symbols), .v (.slice A_p0_Actions p0.Actions.length c_p0_Actions), .v (.int .i64 x9665), .v (.int .i64 x9666), .v (.slice A9667 l9669.length c9668), .v (.int .i64 p0.States), .v (.int .i64 p0.Symbols), .v (.slice A_p0_Actions p0.Actions.length c_p0_Actions), .v (.int .i64 t9684.1.State), .v (.int .i64 t9684.1.At), .v (.slice A9689 t9684.1.Cells.length c9690)] [2, 3, 4, 6, 8, 9, 10, 11, 41, 42, 44, 45] [(2, (.int .i64 p2)), (3, (.pointer (some ⟨g3187, 0, none⟩))), (4, (.pointer (some ⟨g3191, 0, none⟩))), (6, (.pointer (some ⟨g3195, 0, none⟩))), (8, (.slice A5828 t5823.length c5829)), (9, (.pointer (some ⟨g5830, 0, none⟩))), (10, (.int .i64 x9673)), (11, (.pointer (some ⟨g9691, 0, none⟩))), (41, (.agg #[(.int .i64 p0.States), (.int .i64 p0.Symbols), (.slice A_p0_Actions p0.Actions.length c_p0_Actions)])), (42, (.agg #[(.int .i64 x9665), (.int .i64 x9666), (.slice A9667 l9669.length c9668)])), (44, (.agg #[(.int .i64 p0.States), (.int .i64 p0.Symbols), (.slice A_p0_Actions p0.Actions.length c_p0_Actions)])), (45, (.agg #[(.int .i64 t9684.1.State), (.int .i64 t9684.1.At), (.slice A9689 t9684.1.Cells.length c9690)]))] [] [0, 1, 2, 3, 4, 5, 6, 7, 8, 9, 10, 11] [(0, ⟨g3187, 0, none⟩, (.int .i64 p0.States)), (0, ⟨g3187, 1, none⟩, (.int .i64 p0.Symbols)), (0, ⟨g3187, 2, none⟩, (.slice A_p0_Actions p0.Actions.length c_p0_Actions)), (1, ⟨g3191, 0, none⟩, (.int .i64 x9665)), (1, ⟨g3191, 1, none⟩, (.int .i64 x9666)), (1, ⟨g3191, 2, none⟩, (.slice A9667 l9669.length c9668)), (3, ⟨g3187, 0, none⟩, (.int .i64 p0.States)), (3, ⟨g3187, 1, none⟩, (.int .i64 p0.Symbols)), (3, ⟨g3187, 2, none⟩, (.slice A_p0_Actions p0.Actions.length c_p0_Actions)), (4, ⟨g9691, 0, none⟩, (.int .i64 t9684.1.State)), (4, ⟨g9691, 1, none⟩, (.int .i64 t9684.1.At)), (4, ⟨g9691, 2, none⟩, (.slice A9689 t9684.1.Cells.length c9690))] (fun fb => by kernel_rfl) rfl trivial rfl ?_
        obtain ⟨t9717, ht9718, hl9682⟩ := bind_some hl9682
        refine WL.call (some 43) 32 #[(.agg #[(.int .i64 p0.States), (.int .i64 p0.Symbols), (.slice A_p0_Actions p0.Actions.length c_p0_Actions)]), (.agg #[(.int .i64 x9665), (.int .i64 x9666), (.slice A9667 l9669.length c9668)])] (fun fb => by kernel_rfl) (ref08_Colours_calls p0 (Config.mk x9665 x9666 l9669) A_p0_Actions c_p0_Actions A9667 c9668 t9717 _ (hS9716.rd 1) (hS9716.rd 0) ht9718) (fun v w9719 hR9720 => ?_)
        obtain ⟨A9722, c9723, rfl, hk_⟩ := hR9720
        have hS9721 : St NoS w w9719 [rowR encInt A9667 c9668 l9669, rowR enc_Action A_p0_Actions c_p0_Actions p0.Actions, rowR encInt A_p1_Cells c_p1_Cells p1.Cells] [rowO 3 encInt A9722 c9723 t9717, blk g9691 (.cells #[(.int .i64 t9684.1.State), (.int .i64 t9684.1.At), (.slice A9689 t9684.1.Cells.length c9690)] 27 (0, 0)), rowO 3 encInt A9689 c9690 t9684.1.Cells, blk g3187 (.cells #[(.int .i64 p0.States), (.int .i64 p0.Symbols), (.slice A_p0_Actions p0.Actions.length c_p0_Actions)] 24 (0, 0)), blk g3191 (.cells #[(.int .i64 x9665), (.int .i64 x9666), (.slice A9667 l9669.length c9668)] 27 (0, 0)), blk g3195 (.cells #[(.int .i64 0), (.int .i64 0), (.slice none 0 0)] 31 (0, 0)), rowO 65 enc_Tile A5828 c5829 t5823, blk g5830 (.cells #[(.int .i64 (p1.Cells.length : Int)), (.int .i64 p2), (.slice A9670 l9672.length c9671)] 31 (0, 0)), rowO 3 encInt A9670 c9671 l9672] := hS9716.call hk_ [] [0, 1, 2, 3, 4, 5, 6, 7] (fun g hg => hg.elim) (by simp) (by decide)
        refine ⟨⟨hS9721.cell 3 rfl 0 rfl, hS9721.cell 3 rfl 1 rfl, hS9721.cell 3 rfl 2 rfl, hS9721.cell 1 rfl 0 rfl, hS9721.cell 1 rfl 1 rfl, hS9721.cell 1 rfl 2 rfl, trivial⟩, ?_⟩
        obtain ⟨t9724, ht9725, hl9682⟩ := bind_some hl9682
        refine WL.call (some 46) 32 #[(.agg #[(.int .i64 p0.States), (.int .i64 p0.Symbols), (.slice A_p0_Actions p0.Actions.length c_p0_Actions)]), (.agg #[(.int .i64 t9684.1.State), (.int .i64 t9684.1.At), (.slice A9689 t9684.1.Cells.length c9690)])] (fun fb => by kernel_rfl) (ref08_Colours_calls p0 t9684.1 A_p0_Actions c_p0_Actions A9689 c9690 t9724 _ (hS9721.rd 1) (hS9721.ow 2).ofO ht9725) (fun v w9726 hR9727 => ?_)
        obtain ⟨A9729, c9730, rfl, hk_⟩ := hR9727
        have hS9728 : St NoS w w9726 [rowR encInt A9667 c9668 l9669, rowR enc_Action A_p0_Actions c_p0_Actions p0.Actions, rowR encInt A_p1_Cells c_p1_Cells p1.Cells] [rowO 3 encInt A9729 c9730 t9724, rowO 3 encInt A9722 c9723 t9717, blk g9691 (.cells #[(.int .i64 t9684.1.State), (.int .i64 t9684.1.At), (.slice A9689 t9684.1.Cells.length c9690)] 27 (0, 0)), rowO 3 encInt A9689 c9690 t9684.1.Cells, blk g3187 (.cells #[(.int .i64 p0.States), (.int .i64 p0.Symbols), (.slice A_p0_Actions p0.Actions.length c_p0_Actions)] 24 (0, 0)), blk g3191 (.cells #[(.int .i64 x9665), (.int .i64 x9666), (.slice A9667 l9669.length c9668)] 27 (0, 0)), blk g3195 (.cells #[(.int .i64 0), (.int .i64 0), (.slice none 0 0)] 31 (0, 0)), rowO 65 enc_Tile A5828 c5829 t5823, blk g5830 (.cells #[(.int .i64 (p1.Cells.length : Int)), (.int .i64 p2), (.slice A9670 l9672.length c9671)] 31 (0, 0)), rowO 3 encInt A9670 c9671 l9672] := hS9721.call hk_ [] [0, 1, 2, 3, 4, 5, 6, 7, 8] (fun g hg => hg.elim) (by simp) (by decide)
        refine ⟨trivial, ?_⟩
        refine seg 8 [] [2, 3, 4, 6, 8, 9, 10, 11, 13, 14] [(2, (.int .i64 p2)), (3, (.pointer (some ⟨g3187, 0, none⟩))), (4, (.pointer (some ⟨g3191, 0, none⟩))), (6, (.pointer (some ⟨g3195, 0, none⟩))), (8, (.slice A5828 t5823.length c5829)), (9, (.pointer (some ⟨g5830, 0, none⟩))), (10, (.int .i64 x9673)), (11, (.pointer (some ⟨g9691, 0, none⟩))), (13, (.slice A9722 t9717.length c9723)), (14, (.slice A9729 t9724.length c9730))] [] (fun fb => by kernel_rfl) rfl trivial ?_
        refine WL.done rfl ?_
        refine WX.next ?_
        refine WC.seq ?_
        refine WC.region ?_
        refine seg 1 [] [2, 3, 4, 6, 8, 9, 10, 11, 13, 14, 15] [(2, (.int .i64 p2)), (3, (.pointer (some ⟨g3187, 0, none⟩))), (4, (.pointer (some ⟨g3191, 0, none⟩))), (6, (.pointer (some ⟨g3195, 0, none⟩))), (8, (.slice A5828 t5823.length c5829)), (9, (.pointer (some ⟨g5830, 0, none⟩))), (10, (.int .i64 x9673)), (11, (.pointer (some ⟨g9691, 0, none⟩))), (13, (.slice A9722 t9717.length c9723)), (14, (.slice A9729 t9724.length c9730)), (15, (.int .i64 0))] [] (fun fb => by kernel_rfl) rfl trivial ?_
        refine WL.done rfl ?_
        refine WX.next ?_
        refine WC.seq ?_
        refine WC.seq ?_
        refine WC.region ?_
        refine seg 1 [] [2, 3, 4, 6, 8, 9, 10, 11, 13, 14, 15, 16] [(2, (.int .i64 p2)), (3, (.pointer (some ⟨g3187, 0, none⟩))), (4, (.pointer (some ⟨g3191, 0, none⟩))), (6, (.pointer (some ⟨g3195, 0, none⟩))), (8, (.slice A5828 t5823.length c5829)), (9, (.pointer (some ⟨g5830, 0, none⟩))), (10, (.int .i64 x9673)), (11, (.pointer (some ⟨g9691, 0, none⟩))), (13, (.slice A9722 t9717.length c9723)), (14, (.slice A9729 t9724.length c9730)), (15, (.int .i64 0)), (16, (.int .i64 0))] [] (fun fb => by kernel_rfl) rfl trivial ?_
        refine WL.done rfl ?_
        refine WX.next ?_
        obtain ⟨x10908, hx10909, hl9682⟩ := bind_some hl9682
        refine WC.cutN (T := (List Int) × (Option Addr) × Nat) (fun t => [(2, (.int .i64 p2)), (3, (.pointer (some ⟨g3187, 0, none⟩))), (4, (.pointer (some ⟨g3191, 0, none⟩))), (6, (.pointer (some ⟨g3195, 0, none⟩))), (8, (.slice A5828 t5823.length c5829)), (9, (.pointer (some ⟨g5830, 0, none⟩))), (10, (.int .i64 x9673)), (11, (.pointer (some ⟨g9691, 0, none⟩)))]) (fun t w1 => St NoS w w1 [rowR encInt A9667 c9668 l9669, rowR enc_Action A_p0_Actions c_p0_Actions p0.Actions, rowR encInt A_p1_Cells c_p1_Cells p1.Cells] [blk g3187 (.cells #[(.int .i64 p0.States), (.int .i64 p0.Symbols), (.slice A_p0_Actions p0.Actions.length c_p0_Actions)] 24 (0, 0)), blk g3191 (.cells #[(.int .i64 x9665), (.int .i64 x9666), (.slice A9667 l9669.length c9668)] 27 (0, 0)), blk g3195 (.cells #[(.int .i64 0), (.int .i64 0), (.slice none 0 0)] 31 (0, 0)), rowO 65 enc_Tile A5828 c5829 t5823, blk g5830 (.cells #[(.int .i64 (p1.Cells.length : Int)), (.int .i64 p2), (.slice t.2.1 t.1.length t.2.2)] 31 (0, 0)), rowO 3 encInt t.2.1 t.2.2 t.1, blk g9691 (.cells #[(.int .i64 t9684.1.State), (.int .i64 t9684.1.At), (.slice A9689 t9684.1.Cells.length c9690)] 27 (0, 0)), rowO 3 encInt A9689 c9690 t9684.1.Cells] ∧ x10908 = .inr t.1) (fun Kx10908 => ?_) ?_
        ·
          refine WC.block ?_
          refine WC.loop (T := ((List Int) × Int × Int) × (Option Addr) × Nat) (fun t => [(2, (.int .i64 p2)), (3, (.pointer (some ⟨g3187, 0, none⟩))), (4, (.pointer (some ⟨g3191, 0, none⟩))), (6, (.pointer (some ⟨g3195, 0, none⟩))), (8, (.slice A5828 t5823.length c5829)), (9, (.pointer (some ⟨g5830, 0, none⟩))), (10, (.int .i64 x9673)), (11, (.pointer (some ⟨g9691, 0, none⟩))), (13, (.slice A9722 t9717.length c9723)), (14, (.slice A9729 t9724.length c9730)), (15, (.int .i64 t.1.2.1)), (16, (.int .i64 t.1.2.2))]) (fun n t w1 => St NoS w w1 [rowR encInt A9667 c9668 l9669, rowR enc_Action A_p0_Actions c_p0_Actions p0.Actions, rowR encInt A_p1_Cells c_p1_Cells p1.Cells] [blk g3187 (.cells #[(.int .i64 p0.States), (.int .i64 p0.Symbols), (.slice A_p0_Actions p0.Actions.length c_p0_Actions)] 24 (0, 0)), blk g3191 (.cells #[(.int .i64 x9665), (.int .i64 x9666), (.slice A9667 l9669.length c9668)] 27 (0, 0)), blk g3195 (.cells #[(.int .i64 0), (.int .i64 0), (.slice none 0 0)] 31 (0, 0)), rowO 65 enc_Tile A5828 c5829 t5823, blk g5830 (.cells #[(.int .i64 (p1.Cells.length : Int)), (.int .i64 p2), (.slice t.2.1 t.1.1.length t.2.2)] 31 (0, 0)), rowO 3 encInt t.2.1 t.2.2 t.1.1, blk g9691 (.cells #[(.int .i64 t9684.1.State), (.int .i64 t9684.1.At), (.slice A9689 t9684.1.Cells.length c9690)] 27 (0, 0)), rowO 3 encInt A9689 c9690 t9684.1.Cells, rowO 3 encInt A9722 c9723 t9717, rowO 3 encInt A9729 c9730 t9724] ∧ ref08_Picture.l1 n t.1.1 t.1.2.1 t.1.2.2 p0 t5823 x9665 x9666 l9669 t9684 t9717 t9724 = some x10908) k9679 ((l9672, 0, 0), A9670, c9671) [2, 3, 4, 6, 8, 9, 10, 11, 13, 14, 15, 16] rfl ⟨(hS9728.subR [0, 1, 2]).sub [4, 5, 6, 7, 8, 9, 2, 3, 1, 0] (by decide), hx10909⟩ ?_
          rintro k10910 ⟨⟨l10902, x10903, x10904⟩, A10900, c10901⟩ w10911 ⟨hS10912, hl10913⟩
          cases k10910 with
          | zero => rw [ref08_Picture.l1] at hl10913; cases hl10913
          | succ k10910 =>
            rw [ref08_Picture.l1] at hl10913
            refine WC.seq ?_
            refine WC.seq ?_
            refine WC.region ?_
            refine seg 4 [] [2, 3, 4, 6, 8, 9, 10, 11, 13, 14, 15, 16, 50] [(2, (.int .i64 p2)), (3, (.pointer (some ⟨g3187, 0, none⟩))), (4, (.pointer (some ⟨g3191, 0, none⟩))), (6, (.pointer (some ⟨g3195, 0, none⟩))), (8, (.slice A5828 t5823.length c5829)), (9, (.pointer (some ⟨g5830, 0, none⟩))), (10, (.int .i64 x9673)), (11, (.pointer (some ⟨g9691, 0, none⟩))), (13, (.slice A9722 t9717.length c9723)), (14, (.slice A9729 t9724.length c9730)), (15, (.int .i64 x10903)), (16, (.int .i64 x10904)), (50, (.bool (decide (x10904 < (t9717.length : Int)))))] [] (fun fb => by kernel_rfl) rfl trivial ?_
            refine WL.done rfl ?_
            refine WX.next ?_
            rcases br_some hl10913 with ⟨h10914, hl10913⟩ | ⟨h10914, hl10913⟩
            · refine WC.condT2 (fun fb => by kernel_rfl) h10914 ?_
              refine WC.skip ?_
              refine WX.next ?_
              refine WC.seq ?_
              refine WC.block ?_
              refine WC.seq ?_
              refine WC.region ?_
              refine seg 1 [] [2, 3, 4, 6, 8, 9, 10, 11, 13, 14, 15, 16, 17] [(2, (.int .i64 p2)), (3, (.pointer (some ⟨g3187, 0, none⟩))), (4, (.pointer (some ⟨g3191, 0, none⟩))), (6, (.pointer (some ⟨g3195, 0, none⟩))), (8, (.slice A5828 t5823.length c5829)), (9, (.pointer (some ⟨g5830, 0, none⟩))), (10, (.int .i64 x9673)), (11, (.pointer (some ⟨g9691, 0, none⟩))), (13, (.slice A9722 t9717.length c9723)), (14, (.slice A9729 t9724.length c9730)), (15, (.int .i64 x10903)), (16, (.int .i64 x10904)), (17, (.int .i64 (-1)))] [] (fun fb => by kernel_rfl) rfl trivial ?_
              refine WL.done rfl ?_
              refine WX.next ?_
              refine WC.seq ?_
              refine WC.seq ?_
              refine WC.region ?_
              refine seg 1 [] [2, 3, 4, 6, 8, 9, 10, 11, 13, 14, 15, 16, 17, 18] [(2, (.int .i64 p2)), (3, (.pointer (some ⟨g3187, 0, none⟩))), (4, (.pointer (some ⟨g3191, 0, none⟩))), (6, (.pointer (some ⟨g3195, 0, none⟩))), (8, (.slice A5828 t5823.length c5829)), (9, (.pointer (some ⟨g5830, 0, none⟩))), (10, (.int .i64 x9673)), (11, (.pointer (some ⟨g9691, 0, none⟩))), (13, (.slice A9722 t9717.length c9723)), (14, (.slice A9729 t9724.length c9730)), (15, (.int .i64 x10903)), (16, (.int .i64 x10904)), (17, (.int .i64 (-1))), (18, (.int .i64 0))] [] (fun fb => by kernel_rfl) rfl trivial ?_
              refine WL.done rfl ?_
              refine WX.next ?_
              obtain ⟨x11286, hx11287, hl10913⟩ := bind_some hl10913
              refine WC.cutN (T := Int) (fun t => [(2, (.int .i64 p2)), (3, (.pointer (some ⟨g3187, 0, none⟩))), (4, (.pointer (some ⟨g3191, 0, none⟩))), (6, (.pointer (some ⟨g3195, 0, none⟩))), (8, (.slice A5828 t5823.length c5829)), (9, (.pointer (some ⟨g5830, 0, none⟩))), (10, (.int .i64 x9673)), (11, (.pointer (some ⟨g9691, 0, none⟩))), (13, (.slice A9722 t9717.length c9723)), (14, (.slice A9729 t9724.length c9730)), (16, (.int .i64 x10904)), (17, (.int .i64 t))]) (fun t w1 => St NoS w w1 [rowR encInt A9667 c9668 l9669, rowR enc_Action A_p0_Actions c_p0_Actions p0.Actions, rowR encInt A_p1_Cells c_p1_Cells p1.Cells] [blk g3187 (.cells #[(.int .i64 p0.States), (.int .i64 p0.Symbols), (.slice A_p0_Actions p0.Actions.length c_p0_Actions)] 24 (0, 0)), blk g3191 (.cells #[(.int .i64 x9665), (.int .i64 x9666), (.slice A9667 l9669.length c9668)] 27 (0, 0)), blk g3195 (.cells #[(.int .i64 0), (.int .i64 0), (.slice none 0 0)] 31 (0, 0)), rowO 65 enc_Tile A5828 c5829 t5823, blk g5830 (.cells #[(.int .i64 (p1.Cells.length : Int)), (.int .i64 p2), (.slice A10900 l10902.length c10901)] 31 (0, 0)), rowO 3 encInt A10900 c10901 l10902, blk g9691 (.cells #[(.int .i64 t9684.1.State), (.int .i64 t9684.1.At), (.slice A9689 t9684.1.Cells.length c9690)] 27 (0, 0)), rowO 3 encInt A9689 c9690 t9684.1.Cells, rowO 3 encInt A9722 c9723 t9717, rowO 3 encInt A9729 c9730 t9724] ∧ x11286 = t) (fun Kx11286 => ?_) ?_
              ·
                refine WC.block ?_
                refine WC.loop (T := Int × Int) (fun t => [(2, (.int .i64 p2)), (3, (.pointer (some ⟨g3187, 0, none⟩))), (4, (.pointer (some ⟨g3191, 0, none⟩))), (6, (.pointer (some ⟨g3195, 0, none⟩))), (8, (.slice A5828 t5823.length c5829)), (9, (.pointer (some ⟨g5830, 0, none⟩))), (10, (.int .i64 x9673)), (11, (.pointer (some ⟨g9691, 0, none⟩))), (13, (.slice A9722 t9717.length c9723)), (14, (.slice A9729 t9724.length c9730)), (15, (.int .i64 x10903)), (16, (.int .i64 x10904)), (17, (.int .i64 t.1)), (18, (.int .i64 t.2))]) (fun n t w1 => St NoS w w1 [rowR encInt A9667 c9668 l9669, rowR enc_Action A_p0_Actions c_p0_Actions p0.Actions, rowR encInt A_p1_Cells c_p1_Cells p1.Cells] [blk g3187 (.cells #[(.int .i64 p0.States), (.int .i64 p0.Symbols), (.slice A_p0_Actions p0.Actions.length c_p0_Actions)] 24 (0, 0)), blk g3191 (.cells #[(.int .i64 x9665), (.int .i64 x9666), (.slice A9667 l9669.length c9668)] 27 (0, 0)), blk g3195 (.cells #[(.int .i64 0), (.int .i64 0), (.slice none 0 0)] 31 (0, 0)), rowO 65 enc_Tile A5828 c5829 t5823, blk g5830 (.cells #[(.int .i64 (p1.Cells.length : Int)), (.int .i64 p2), (.slice A10900 l10902.length c10901)] 31 (0, 0)), rowO 3 encInt A10900 c10901 l10902, blk g9691 (.cells #[(.int .i64 t9684.1.State), (.int .i64 t9684.1.At), (.slice A9689 t9684.1.Cells.length c9690)] 27 (0, 0)), rowO 3 encInt A9689 c9690 t9684.1.Cells, rowO 3 encInt A9722 c9723 t9717, rowO 3 encInt A9729 c9730 t9724] ∧ ref08_Picture.l2 n t.1 t.2 p0 t5823 x9665 x9666 l9669 t9684 t9717 t9724 x10903 x10904 = some x11286) k10910 ((-1), 0) [2, 3, 4, 6, 8, 9, 10, 11, 13, 14, 15, 16, 17, 18] rfl ⟨(hS10912.subR [0, 1, 2]).sub [0, 1, 2, 3, 4, 5, 6, 7, 8, 9] (by decide), hx11287⟩ ?_
                rintro k11288 ⟨x11283, x11284⟩ w11289 ⟨hS11290, hl11291⟩
                cases k11288 with
                | zero => rw [ref08_Picture.l2] at hl11291; cases hl11291
                | succ k11288 =>
                  rw [ref08_Picture.l2] at hl11291
                  refine WC.seq ?_
                  refine WC.seq ?_
                  refine WC.region ?_
                  refine seg 4 [] [2, 3, 4, 6, 8, 9, 10, 11, 13, 14, 15, 16, 17, 18, 56] [(2, (.int .i64 p2)), (3, (.pointer (some ⟨g3187, 0, none⟩))), (4, (.pointer (some ⟨g3191, 0, none⟩))), (6, (.pointer (some ⟨g3195, 0, none⟩))), (8, (.slice A5828 t5823.length c5829)), (9, (.pointer (some ⟨g5830, 0, none⟩))), (10, (.int .i64 x9673)), (11, (.pointer (some ⟨g9691, 0, none⟩))), (13, (.slice A9722 t9717.length c9723)), (14, (.slice A9729 t9724.length c9730)), (15, (.int .i64 x10903)), (16, (.int .i64 x10904)), (17, (.int .i64 x11283)), (18, (.int .i64 x11284)), (56, (.bool (decide (x11284 < (t5823.length : Int)))))] [] (fun fb => by kernel_rfl) rfl trivial ?_
                  refine WL.done rfl ?_
                  refine WX.next ?_
                  rcases br_some hl11291 with ⟨h11292, hl11291⟩ | ⟨h11292, hl11291⟩
                  · refine WC.condT2 (fun fb => by kernel_rfl) h11292 ?_
                    refine WC.skip ?_
                    refine WX.next ?_
                    refine WC.seq ?_
                    refine WC.block ?_
                    refine WC.seq ?_
                    refine WC.region ?_
                    refine seg 2 [] [2, 3, 4, 6, 8, 9, 10, 11, 13, 14, 15, 16, 17, 18, 59, 60] [(2, (.int .i64 p2)), (3, (.pointer (some ⟨g3187, 0, none⟩))), (4, (.pointer (some ⟨g3191, 0, none⟩))), (6, (.pointer (some ⟨g3195, 0, none⟩))), (8, (.slice A5828 t5823.length c5829)), (9, (.pointer (some ⟨g5830, 0, none⟩))), (10, (.int .i64 x9673)), (11, (.pointer (some ⟨g9691, 0, none⟩))), (13, (.slice A9722 t9717.length c9723)), (14, (.slice A9729 t9724.length c9730)), (15, (.int .i64 x10903)), (16, (.int .i64 x10904)), (17, (.int .i64 x11283)), (18, (.int .i64 x11284)), (59, (.slice A5828 t5823.length c5829)), (60, (.int .i64 x11284))] [] (fun fb => by kernel_rfl) rfl trivial ?_
                    obtain ⟨h11293, hl11291⟩ := as_some hl11291
                    refine seg 4 [.v (.int .i64 ((rdD t5823 x11284 z_Tile).N)), .v (.int .i64 ((rdD t5823 x11284 z_Tile).E)), .v (.int .i64 ((rdD t5823 x11284 z_Tile).S)), .v (.int .i64 ((rdD t5823 x11284 z_Tile).W))] [2, 3, 4, 6, 8, 9, 10, 11, 13, 14, 15, 16, 17, 18, 62] [(2, (.int .i64 p2)), (3, (.pointer (some ⟨g3187, 0, none⟩))), (4, (.pointer (some ⟨g3191, 0, none⟩))), (6, (.pointer (some ⟨g3195, 0, none⟩))), (8, (.slice A5828 t5823.length c5829)), (9, (.pointer (some ⟨g5830, 0, none⟩))), (10, (.int .i64 x9673)), (11, (.pointer (some ⟨g9691, 0, none⟩))), (13, (.slice A9722 t9717.length c9723)), (14, (.slice A9729 t9724.length c9730)), (15, (.int .i64 x10903)), (16, (.int .i64 x10904)), (17, (.int .i64 x11283)), (18, (.int .i64 x11284)), (62, (.agg #[(.int .i64 ((rdD t5823 x11284 z_Tile).N)), (.int .i64 ((rdD t5823 x11284 z_Tile).E)), (.int .i64 ((rdD t5823 x11284 z_Tile).S)), (.int .i64 ((rdD t5823 x11284 z_Tile).W))]))] [.idx A5828 x11284 t5823.length, .cell ((adr A5828).add ((x11284).toNat * 4)) (.int .i64 ((rdD t5823 x11284 z_Tile).N)), .cell (((adr A5828).add ((x11284).toNat * 4)).add 1) (.int .i64 ((rdD t5823 x11284 z_Tile).E)), .cell (((adr A5828).add ((x11284).toNat * 4)).add 2) (.int .i64 ((rdD t5823 x11284 z_Tile).S)), .cell (((adr A5828).add ((x11284).toNat * 4)).add 3) (.int .i64 ((rdD t5823 x11284 z_Tile).W))] (fun fb => by kernel_rfl) rfl ⟨rowR.adr (rowO.rd (hS11290.own 3).1) h11293.1 h11293.2, rowR.cell (rowO.rd (hS11290.own 3).1) z_Tile h11293.1 h11293.2 0 rfl, rowR.cell (rowO.rd (hS11290.own 3).1) z_Tile h11293.1 h11293.2 1 rfl, rowR.cell (rowO.rd (hS11290.own 3).1) z_Tile h11293.1 h11293.2 2 rfl, rowR.cell (rowO.rd (hS11290.own 3).1) z_Tile h11293.1 h11293.2 3 rfl, trivial⟩ ?_
                    refine WL.new hS11290 19 [] (fun g => (.pointer (some ⟨g, 0, none⟩))) (.cells #[(.int .i64 0), (.int .i64 0), (.int .i64 0), (.int .i64 0)] 65 (0, 0)) [] (fun fb g => by kernel_rfl) trivial (fun g11294 w11295 hS11296 => ?_)
                    refine ⟨trivial, ?_⟩
                    refine WL.store hS11296 0 rfl [(0, (.int .i64 ((rdD t5823 x11284 z_Tile).N))), (1, (.int .i64 ((rdD t5823 x11284 z_Tile).E))), (2, (.int .i64 ((rdD t5823 x11284 z_Tile).S))), (3, (.int .i64 ((rdD t5823 x11284 z_Tile).W)))] #[(.int .i64 ((rdD t5823 x11284 z_Tile).N)), (.int .i64 ((rdD t5823 x11284 z_Tile).E)), (.int .i64 ((rdD t5823 x11284 z_Tile).S)), (.int .i64 ((rdD t5823 x11284 z_Tile).W))] (fun fb => by kernel_rfl) (by kernel_rfl) rfl [1, 2, 3, 4, 5, 6, 7, 8, 9, 10] (by decide) (by decide) (fun w11298 hS11299 => ?_)
                    refine ⟨trivial, ?_⟩
                    refine WL.done rfl ?_
                    refine WX.next ?_
                    refine WC.seq ?_
                    obtain ⟨x11381, hx11382, hl11291⟩ := bind_some hl11291
                    refine WC.cutN (T := Bool) (fun t => [(2, (.int .i64 p2)), (3, (.pointer (some ⟨g3187, 0, none⟩))), (4, (.pointer (some ⟨g3191, 0, none⟩))), (6, (.pointer (some ⟨g3195, 0, none⟩))), (8, (.slice A5828 t5823.length c5829)), (9, (.pointer (some ⟨g5830, 0, none⟩))), (10, (.int .i64 x9673)), (11, (.pointer (some ⟨g9691, 0, none⟩))), (13, (.slice A9722 t9717.length c9723)), (14, (.slice A9729 t9724.length c9730)), (15, (.int .i64 x10903)), (16, (.int .i64 x10904)), (17, (.int .i64 x11283)), (18, (.int .i64 x11284)), (104, (.bool t))]) (fun t w1 => St NoS w w1 [rowR encInt A9667 c9668 l9669, rowR enc_Action A_p0_Actions c_p0_Actions p0.Actions, rowR encInt A_p1_Cells c_p1_Cells p1.Cells] [blk g3187 (.cells #[(.int .i64 p0.States), (.int .i64 p0.Symbols), (.slice A_p0_Actions p0.Actions.length c_p0_Actions)] 24 (0, 0)), blk g3191 (.cells #[(.int .i64 x9665), (.int .i64 x9666), (.slice A9667 l9669.length c9668)] 27 (0, 0)), blk g3195 (.cells #[(.int .i64 0), (.int .i64 0), (.slice none 0 0)] 31 (0, 0)), rowO 65 enc_Tile A5828 c5829 t5823, blk g5830 (.cells #[(.int .i64 (p1.Cells.length : Int)), (.int .i64 p2), (.slice A10900 l10902.length c10901)] 31 (0, 0)), rowO 3 encInt A10900 c10901 l10902, blk g9691 (.cells #[(.int .i64 t9684.1.State), (.int .i64 t9684.1.At), (.slice A9689 t9684.1.Cells.length c9690)] 27 (0, 0)), rowO 3 encInt A9689 c9690 t9684.1.Cells, rowO 3 encInt A9722 c9723 t9717, rowO 3 encInt A9729 c9730 t9724] ∧ x11381 = t) (fun Kx11381 => ?_) ?_
                    ·
                      rcases br_some hx11382 with ⟨h11384, hx11382⟩ | ⟨h11384, hx11382⟩
                      ·
                        rcases br_some hx11382 with ⟨h11387, hx11382⟩ | ⟨h11387, hx11382⟩
                        ·
                          rcases br_some hx11382 with ⟨h11390, hx11382⟩ | ⟨h11390, hx11382⟩
                          ·
                            rcases br_some hx11382 with ⟨h11393, hx11382⟩ | ⟨h11393, hx11382⟩
                            ·
                              obtain ⟨h11405, hx11382⟩ := as_some hx11382
                              obtain ⟨h11406, hx11382⟩ := as_some hx11382
                              refine WC.regionD ([(1, ⟨g11294, 2, none⟩, (.int .i64 ((rdD t5823 x11284 z_Tile).S))), (5, ((adr A9722).add ((x10904).toNat * 1)), (.int .i64 (rdD t9717 x10904 0))), (9, ⟨g11294, 0, none⟩, (.int .i64 ((rdD t5823 x11284 z_Tile).N))), (13, ((adr A9729).add ((x10904).toNat * 1)), (.int .i64 (rdD t9724 x10904 0))), (18, ⟨g11294, 3, none⟩, (.int .i64 ((rdD t5823 x11284 z_Tile).W))), (35, ⟨g3187, 0, none⟩, (.int .i64 p0.States)), (35, ⟨g3187, 1, none⟩, (.int .i64 p0.Symbols)), (35, ⟨g3187, 2, none⟩, (.slice A_p0_Actions p0.Actions.length c_p0_Actions)), (36, ⟨g3191, 0, none⟩, (.int .i64 x9665)), (36, ⟨g3191, 1, none⟩, (.int .i64 x9666)), (36, ⟨g3191, 2, none⟩, (.slice A9667 l9669.length c9668)), (37, ⟨g9691, 0, none⟩, (.int .i64 t9684.1.State)), (37, ⟨g9691, 1, none⟩, (.int .i64 t9684.1.At)), (37, ⟨g9691, 2, none⟩, (.slice A9689 t9684.1.Cells.length c9690)), (39, ⟨g11294, 0, none⟩, (.int .i64 ((rdD t5823 x11284 z_Tile).N))), (39, ⟨g11294, 1, none⟩, (.int .i64 ((rdD t5823 x11284 z_Tile).E))), (39, ⟨g11294, 2, none⟩, (.int .i64 ((rdD t5823 x11284 z_Tile).S))), (39, ⟨g11294, 3, none⟩, (.int .i64 ((rdD t5823 x11284 z_Tile).W)))], [0, 1, 2, 3, 4, 5, 6, 7, 8, 9, 10, 11, 12, 13, 14, 15, 16, 17, 18, 19, 20, 21, 22, 23, 24, 25, 26, 27, 28, 29, 30, 31, 32, 33, 34, 35, 36, 37, 38, 39, 41], [[], [0], [], [], [2, 3], [2, 3, 4], [0, 1, 2, 3, 4, 5], [0, 1, 2, 3, 4, 5, 6], [0, 1, 2, 3, 4, 5, 6, 7], [0, 1, 2, 3, 4, 5, 6, 7, 8], [0, 1, 2, 3, 4, 5, 6, 7], [0, 1, 2, 3, 4, 5, 6, 7], [0, 1, 2, 3, 4, 5, 6, 7, 10, 11], [0, 1, 2, 3, 4, 5, 6, 7, 10, 11, 12], [0, 1, 2, 3, 4, 5, 6, 7, 8, 9, 10, 11, 12, 13], [0, 1, 2, 3, 4, 5, 6, 7, 8, 9, 10, 11, 12, 13, 14], [0, 1, 2, 3, 4, 5, 6, 7, 8, 9, 10, 11, 12, 13, 14, 15], [0, 1, 2, 3, 4, 5, 6, 7, 8, 9, 10, 11, 12, 13, 14, 15, 16], [0, 1, 2, 3, 4, 5, 6, 7, 8, 9, 10, 11, 12, 13, 14, 15, 16, 17], [0, 1, 2, 3, 4, 5, 6, 7, 8, 9, 10, 11, 12, 13, 14, 15, 16], [0, 1, 2, 3, 4, 5, 6, 7, 8, 9, 10, 11, 12, 13, 14, 15, 16, 17, 18, 19], [0, 1, 2, 3, 4, 5, 6, 7, 8, 9, 10, 11, 12, 13, 14, 15, 16, 17, 18, 19, 20], [0, 1, 2, 3, 4, 5, 6, 7, 8, 9, 10, 11, 12, 13, 14, 15, 16, 17, 18, 19, 20, 21], [0, 1, 2, 3, 4, 5, 6, 7, 8, 9, 10, 11, 12, 13, 14, 15, 16, 17, 18, 19, 20, 21, 22], [0, 1, 2, 3, 4, 5, 6, 7, 8, 9, 10, 11, 12, 13, 14, 15, 16, 17, 18, 19, 20, 21, 22], [0, 1, 2, 3, 4, 5, 6, 7, 8, 9, 10, 11, 12, 13, 14, 15, 16, 17, 18, 19, 20, 21, 22, 24], [0, 1, 2, 3, 4, 5, 6, 7, 8, 9, 10, 11, 12, 13, 14, 15, 16, 17, 18, 19, 20, 21, 22, 24, 25], [0, 1, 2, 3, 4, 5, 6, 7, 8, 9, 10, 11, 12, 13, 14, 15, 16, 17, 18, 19, 20, 21, 22, 23, 24, 25, 26], [0, 1, 2, 3, 4, 5, 6, 7, 8, 9, 10, 11, 12, 13, 14, 15, 16, 17, 18, 19, 20, 21, 22, 23, 24, 25, 26, 27], [0, 1, 2, 3, 4, 5, 6, 7, 8, 9, 10, 11, 12, 13, 14, 15, 16, 17, 18, 19, 20, 21, 22, 23, 24, 25, 26, 27, 28], [0, 1, 2, 3, 4, 5, 6, 7, 8, 9, 10, 11, 12, 13, 14, 15, 16, 17, 18, 19, 20, 21, 22, 23, 24, 25, 26, 27, 28, 29], [0, 1, 2, 3, 4, 5, 6, 7, 8, 9, 10, 11, 12, 13, 14, 15, 16, 17, 18, 19, 20, 21, 22, 23, 24, 25, 26, 27, 28, 29, 30], [0, 1, 2, 3, 4, 5, 6, 7, 8, 9, 10, 11, 12, 13, 14, 15, 16, 17, 18, 19, 20, 21, 22, 23, 24, 25, 26, 27, 28, 29, 30, 31], [0, 1, 2, 3, 4, 5, 6, 7, 8, 9, 10, 11, 12, 13, 14, 15, 16, 17, 18, 19, 20, 21, 22, 23, 24, 25, 26, 27, 28, 29, 30, 31, 32], [0, 1, 2, 3, 4, 5, 6, 7, 8, 9, 10, 11, 12, 13, 14, 15, 16, 17, 18, 19, 20, 21, 22, 23, 24, 25, 26, 27, 28, 29, 30, 31, 32, 33], [0, 1, 2, 3, 4, 5, 6, 7, 8, 9, 10, 11, 12, 13, 14, 15, 16, 17, 18, 19, 20, 21, 22, 23, 24, 25, 26, 27, 28, 29, 30, 31, 32, 33, 34], [0, 1, 2, 3, 4, 5, 6, 7, 8, 9, 10, 11, 12, 13, 14, 15, 16, 17, 18, 19, 20, 21, 22, 23, 24, 25, 26, 27, 28, 29, 30, 31, 32, 33, 34], [0, 1, 2, 3, 4, 5, 6, 7, 8, 9, 10, 11, 12, 13, 14, 15, 16, 17, 18, 19, 20, 21, 22, 23, 24, 25, 26, 27, 28, 29, 30, 31, 32, 33, 34], [0, 1, 2, 3, 4, 5, 6, 7, 8, 9, 10, 11, 12, 13, 14, 15, 16, 17, 18, 19, 20, 21, 22, 23, 24, 25, 26, 27, 28, 29, 30, 31, 32, 33, 34], [0, 1, 2, 3, 4, 5, 6, 7, 8, 9, 10, 11, 12, 13, 14, 15, 16, 17, 18, 19, 20, 21, 22, 23, 24, 25, 26, 27, 28, 29, 30, 31, 32, 33, 34], [0, 1, 2, 3, 4, 5, 6, 7, 8, 9, 10, 11, 12, 13, 14, 15, 16, 17, 18, 19, 20, 21, 22, 23, 24, 25, 26, 27, 28, 29, 30, 31, 32, 33, 34, 35, 36, 37, 38, 39], [0, 1, 2, 3, 4, 5, 6, 7, 8, 9, 10, 11, 12, 13, 14, 15, 16, 17, 18, 19, 20, 21, 22, 23, 24, 25, 26, 27, 28, 29, 30, 31, 32, 33, 34, 35, 36, 37, 38, 39, 40]]) [[0, 1, 2, 3, 4, 5, 6, 7, 8, 9, 10, 11, 12, 13, 14, 15, 16, 17, 18, 19, 20, 21, 22, 23, 24, 25, 26, 27, 28, 29, 30, 31, 32, 33, 34, 35, 36, 37, 38, 39, 40, 41]] (by kernel_rfl) (by kernel_rfl) (NoPanic.seq (NoPanic.block (NoPanic.seq (NoPanic.seq (NoPanic.block (NoPanic.seq (NoPanic.block (NoPanic.seq (NoPanic.seq (NoPanic.block (NoPanic.seq (NoPanic.block (NoPanic.seq (NoPanic.seq (NoPanic.block (NoPanic.seq (NoPanic.body))))))))))))))))) ?_
                              have hS11402 := hS11299.drew
                              revert hS11402
                              generalize World.drew w11298 = w11401
                              intro hS11402
                              refine ⟨⟨hS11402.cell 0 rfl 2 rfl, rowR.cell (rowO.rd (hS11402.own 9).1) 0 h11405.1 h11405.2 0 rfl, hS11402.cell 0 rfl 0 rfl, rowR.cell (rowO.rd (hS11402.own 10).1) 0 h11406.1 h11406.2 0 rfl, hS11402.cell 0 rfl 3 rfl, hS11402.cell 1 rfl 0 rfl, hS11402.cell 1 rfl 1 rfl, hS11402.cell 1 rfl 2 rfl, hS11402.cell 2 rfl 0 rfl, hS11402.cell 2 rfl 1 rfl, hS11402.cell 2 rfl 2 rfl, hS11402.cell 7 rfl 0 rfl, hS11402.cell 7 rfl 1 rfl, hS11402.cell 7 rfl 2 rfl, hS11402.cell 0 rfl 0 rfl, hS11402.cell 0 rfl 1 rfl, hS11402.cell 0 rfl 2 rfl, hS11402.cell 0 rfl 3 rfl, trivial⟩, forallC ?_ (forallN)⟩
                              refine segF 8 [.v (.int .i64 ((rdD t5823 x11284 z_Tile).S)), .v (.int .i64 (rdD t9717 x10904 0))] [2, 3, 4, 6, 8, 9, 10, 11, 13, 14, 15, 16, 17, 18, 19, 70] [(2, (.int .i64 p2)), (3, (.pointer (some ⟨g3187, 0, none⟩))), (4, (.pointer (some ⟨g3191, 0, none⟩))), (6, (.pointer (some ⟨g3195, 0, none⟩))), (8, (.slice A5828 t5823.length c5829)), (9, (.pointer (some ⟨g5830, 0, none⟩))), (10, (.int .i64 x9673)), (11, (.pointer (some ⟨g9691, 0, none⟩))), (13, (.slice A9722 t9717.length c9723)), (14, (.slice A9729 t9724.length c9730)), (15, (.int .i64 x10903)), (16, (.int .i64 x10904)), (17, (.int .i64 x11283)), (18, (.int .i64 x11284)), (19, (.pointer (some ⟨g11294, 0, none⟩))), (70, (.bool (((rdD t5823 x11284 z_Tile).S) == (rdD t9717 x10904 0))))] [.idx A9722 x10904 t9717.length] [0, 1] [(1, ⟨g11294, 2, none⟩, (.int .i64 ((rdD t5823 x11284 z_Tile).S))), (5, ((adr A9722).add ((x10904).toNat * 1)), (.int .i64 (rdD t9717 x10904 0)))] (fun fb => by kernel_rfl) rfl ⟨rowR.adr (rowO.rd (hS11402.own 9).1) h11405.1 h11405.2, trivial⟩ rfl ?_
                              refine WL.setB 70 h11384 rfl ?_
                              refine segF 17 [.v (.int .i64 ((rdD t5823 x11284 z_Tile).N)), .v (.int .i64 (rdD t9724 x10904 0))] [2, 3, 4, 6, 8, 9, 10, 11, 13, 14, 15, 16, 17, 18, 19, 79] [(2, (.int .i64 p2)), (3, (.pointer (some ⟨g3187, 0, none⟩))), (4, (.pointer (some ⟨g3191, 0, none⟩))), (6, (.pointer (some ⟨g3195, 0, none⟩))), (8, (.slice A5828 t5823.length c5829)), (9, (.pointer (some ⟨g5830, 0, none⟩))), (10, (.int .i64 x9673)), (11, (.pointer (some ⟨g9691, 0, none⟩))), (13, (.slice A9722 t9717.length c9723)), (14, (.slice A9729 t9724.length c9730)), (15, (.int .i64 x10903)), (16, (.int .i64 x10904)), (17, (.int .i64 x11283)), (18, (.int .i64 x11284)), (19, (.pointer (some ⟨g11294, 0, none⟩))), (79, (.bool (((rdD t5823 x11284 z_Tile).N) == (rdD t9724 x10904 0))))] [.idx A9729 x10904 t9724.length] [2, 3] [(9, ⟨g11294, 0, none⟩, (.int .i64 ((rdD t5823 x11284 z_Tile).N))), (13, ((adr A9729).add ((x10904).toNat * 1)), (.int .i64 (rdD t9724 x10904 0)))] (fun fb => by kernel_rfl) rfl ⟨rowR.adr (rowO.rd (hS11402.own 10).1) h11406.1 h11406.2, trivial⟩ rfl ?_
                              refine WL.setB 79 h11387 rfl ?_
                              refine segF 23 [.v (.int .i64 ((rdD t5823 x11284 z_Tile).W))] [2, 3, 4, 6, 8, 9, 10, 11, 13, 14, 15, 16, 17, 18, 19, 85] [(2, (.int .i64 p2)), (3, (.pointer (some ⟨g3187, 0, none⟩))), (4, (.pointer (some ⟨g3191, 0, none⟩))), (6, (.pointer (some ⟨g3195, 0, none⟩))), (8, (.slice A5828 t5823.length c5829)), (9, (.pointer (some ⟨g5830, 0, none⟩))), (10, (.int .i64 x9673)), (11, (.pointer (some ⟨g9691, 0, none⟩))), (13, (.slice A9722 t9717.length c9723)), (14, (.slice A9729 t9724.length c9730)), (15, (.int .i64 x10903)), (16, (.int .i64 x10904)), (17, (.int .i64 x11283)), (18, (.int .i64 x11284)), (19, (.pointer (some ⟨g11294, 0, none⟩))), (85, (.bool (((rdD t5823 x11284 z_Tile).W) == x10903)))] [] [4] [(18, ⟨g11294, 3, none⟩, (.int .i64 ((rdD t5823 x11284 z_Tile).W)))] (fun fb => by kernel_rfl) rfl trivial rfl ?_
                              refine WL.setB 85 h11390 rfl ?_
                              refine seg 29 [] [2, 3, 4, 6, 8, 9, 10, 11, 13, 14, 15, 16, 17, 18, 19, 85, 91] [(2, (.int .i64 p2)), (3, (.pointer (some ⟨g3187, 0, none⟩))), (4, (.pointer (some ⟨g3191, 0, none⟩))), (6, (.pointer (some ⟨g3195, 0, none⟩))), (8, (.slice A5828 t5823.length c5829)), (9, (.pointer (some ⟨g5830, 0, none⟩))), (10, (.int .i64 x9673)), (11, (.pointer (some ⟨g9691, 0, none⟩))), (13, (.slice A9722 t9717.length c9723)), (14, (.slice A9729 t9724.length c9730)), (15, (.int .i64 x10903)), (16, (.int .i64 x10904)), (17, (.int .i64 x11283)), (18, (.int .i64 x11284)), (19, (.pointer (some ⟨g11294, 0, none⟩))), (85, (.bool true)), (91, (.bool (decide (x10904 < w64 ((t9717.length : Int) - 1)))))] [] (fun fb => by kernel_rfl) rfl trivial ?_
                              refine WL.setB 91 h11393 rfl ?_
                              refine segF 40 [.v (.int .i64 p0.States), .v (.int .i64 p0.Symbols), .v (.slice A_p0_Actions p0.Actions.length c_p0_Actions), .v (.int .i64 x9665), .v (.int .i64 x9666), .v (.slice A9667 l9669.length c9668), .v (.int .i64 t9684.1.State), .v (.int .i64 t9684.1.At), .v (.slice A9689 t9684.1.Cells.length c9690), .v (.int .i64 ((rdD t5823 x11284 z_Tile).N)), .v (.int .i64 ((rdD t5823 x11284 z_Tile).E)), .v (.int .i64 ((rdD t5823 x11284 z_Tile).S)), .v (.int .i64 ((rdD t5823 x11284 z_Tile).W))] [2, 3, 4, 6, 8, 9, 10, 11, 13, 14, 15, 16, 17, 18, 97, 98, 99, 100, 101, 102] [(2, (.int .i64 p2)), (3, (.pointer (some ⟨g3187, 0, none⟩))), (4, (.pointer (some ⟨g3191, 0, none⟩))), (6, (.pointer (some ⟨g3195, 0, none⟩))), (8, (.slice A5828 t5823.length c5829)), (9, (.pointer (some ⟨g5830, 0, none⟩))), (10, (.int .i64 x9673)), (11, (.pointer (some ⟨g9691, 0, none⟩))), (13, (.slice A9722 t9717.length c9723)), (14, (.slice A9729 t9724.length c9730)), (15, (.int .i64 x10903)), (16, (.int .i64 x10904)), (17, (.int .i64 x11283)), (18, (.int .i64 x11284)), (97, (.bool true)), (98, (.agg #[(.int .i64 p0.States), (.int .i64 p0.Symbols), (.slice A_p0_Actions p0.Actions.length c_p0_Actions)])), (99, (.agg #[(.int .i64 x9665), (.int .i64 x9666), (.slice A9667 l9669.length c9668)])), (100, (.agg #[(.int .i64 t9684.1.State), (.int .i64 t9684.1.At), (.slice A9689 t9684.1.Cells.length c9690)])), (101, (.int .i64 x10904)), (102, (.agg #[(.int .i64 ((rdD t5823 x11284 z_Tile).N)), (.int .i64 ((rdD t5823 x11284 z_Tile).E)), (.int .i64 ((rdD t5823 x11284 z_Tile).S)), (.int .i64 ((rdD t5823 x11284 z_Tile).W))]))] [] [5, 6, 7, 8, 9, 10, 11, 12, 13, 14, 15, 16, 17] [(35, ⟨g3187, 0, none⟩, (.int .i64 p0.States)), (35, ⟨g3187, 1, none⟩, (.int .i64 p0.Symbols)), (35, ⟨g3187, 2, none⟩, (.slice A_p0_Actions p0.Actions.length c_p0_Actions)), (36, ⟨g3191, 0, none⟩, (.int .i64 x9665)), (36, ⟨g3191, 1, none⟩, (.int .i64 x9666)), (36, ⟨g3191, 2, none⟩, (.slice A9667 l9669.length c9668)), (37, ⟨g9691, 0, none⟩, (.int .i64 t9684.1.State)), (37, ⟨g9691, 1, none⟩, (.int .i64 t9684.1.At)), (37, ⟨g9691, 2, none⟩, (.slice A9689 t9684.1.Cells.length c9690)), (39, ⟨g11294, 0, none⟩, (.int .i64 ((rdD t5823 x11284 z_Tile).N))), (39, ⟨g11294, 1, none⟩, (.int .i64 ((rdD t5823 x11284 z_Tile).E))), (39, ⟨g11294, 2, none⟩, (.int .i64 ((rdD t5823 x11284 z_Tile).S))), (39, ⟨g11294, 3, none⟩, (.int .i64 ((rdD t5823 x11284 z_Tile).W)))] (fun fb => by kernel_rfl) rfl trivial rfl ?_
                              obtain ⟨t11407, ht11408, hx11382⟩ := bind_some hx11382
                              refine WL.call (some 103) 45 #[(.agg #[(.int .i64 p0.States), (.int .i64 p0.Symbols), (.slice A_p0_Actions p0.Actions.length c_p0_Actions)]), (.agg #[(.int .i64 x9665), (.int .i64 x9666), (.slice A9667 l9669.length c9668)]), (.agg #[(.int .i64 t9684.1.State), (.int .i64 t9684.1.At), (.slice A9689 t9684.1.Cells.length c9690)]), (.int .i64 x10904), (.agg #[(.int .i64 ((rdD t5823 x11284 z_Tile).N)), (.int .i64 ((rdD t5823 x11284 z_Tile).E)), (.int .i64 ((rdD t5823 x11284 z_Tile).S)), (.int .i64 ((rdD t5823 x11284 z_Tile).W))])] (fun fb => by kernel_rfl) (ref08_leads_calls p0 (Config.mk x9665 x9666 l9669) t9684.1 x10904 (rdD t5823 x11284 z_Tile) A_p0_Actions c_p0_Actions A9667 c9668 A9689 c9690 t11407 _ (hS11402.rd 1) (hS11402.rd 0) (hS11402.ow 8).ofO ht11408) (fun v w11409 hR11410 => ?_)
                              obtain ⟨rfl, hk_⟩ := hR11410
                              have hS11411 := hS11402.keepN hk_
                              refine ⟨trivial, ?_⟩
                              refine seg 42 [] [2, 3, 4, 6, 8, 9, 10, 11, 13, 14, 15, 16, 17, 18, 104] [(2, (.int .i64 p2)), (3, (.pointer (some ⟨g3187, 0, none⟩))), (4, (.pointer (some ⟨g3191, 0, none⟩))), (6, (.pointer (some ⟨g3195, 0, none⟩))), (8, (.slice A5828 t5823.length c5829)), (9, (.pointer (some ⟨g5830, 0, none⟩))), (10, (.int .i64 x9673)), (11, (.pointer (some ⟨g9691, 0, none⟩))), (13, (.slice A9722 t9717.length c9723)), (14, (.slice A9729 t9724.length c9730)), (15, (.int .i64 x10903)), (16, (.int .i64 x10904)), (17, (.int .i64 x11283)), (18, (.int .i64 x11284)), (104, (.bool t11407))] [] (fun fb => by kernel_rfl) rfl trivial ?_
                              refine WL.done rfl ?_
                              injection hx11382 with hx11382
                              exact WX.to Kx11381 t11407 [2, 3, 4, 6, 8, 9, 10, 11, 13, 14, 15, 16, 17, 18, 104] rfl ⟨(hS11411.subR [0, 1, 2]).sub [1, 2, 3, 4, 5, 6, 7, 8, 9, 10] (by decide), hx11382.symm⟩
                            rcases br_some hx11382 with ⟨h11414, hx11382⟩ | ⟨h11414, hx11382⟩
                            ·
                              obtain ⟨h11426, hx11382⟩ := as_some hx11382
                              obtain ⟨h11427, hx11382⟩ := as_some hx11382
                              refine WC.regionD ([(1, ⟨g11294, 2, none⟩, (.int .i64 ((rdD t5823 x11284 z_Tile).S))), (5, ((adr A9722).add ((x10904).toNat * 1)), (.int .i64 (rdD t9717 x10904 0))), (9, ⟨g11294, 0, none⟩, (.int .i64 ((rdD t5823 x11284 z_Tile).N))), (13, ((adr A9729).add ((x10904).toNat * 1)), (.int .i64 (rdD t9724 x10904 0))), (18, ⟨g11294, 3, none⟩, (.int .i64 ((rdD t5823 x11284 z_Tile).W))), (30, ⟨g11294, 1, none⟩, (.int .i64 ((rdD t5823 x11284 z_Tile).E))), (35, ⟨g3187, 0, none⟩, (.int .i64 p0.States)), (35, ⟨g3187, 1, none⟩, (.int .i64 p0.Symbols)), (35, ⟨g3187, 2, none⟩, (.slice A_p0_Actions p0.Actions.length c_p0_Actions)), (36, ⟨g3191, 0, none⟩, (.int .i64 x9665)), (36, ⟨g3191, 1, none⟩, (.int .i64 x9666)), (36, ⟨g3191, 2, none⟩, (.slice A9667 l9669.length c9668)), (37, ⟨g9691, 0, none⟩, (.int .i64 t9684.1.State)), (37, ⟨g9691, 1, none⟩, (.int .i64 t9684.1.At)), (37, ⟨g9691, 2, none⟩, (.slice A9689 t9684.1.Cells.length c9690)), (39, ⟨g11294, 0, none⟩, (.int .i64 ((rdD t5823 x11284 z_Tile).N))), (39, ⟨g11294, 1, none⟩, (.int .i64 ((rdD t5823 x11284 z_Tile).E))), (39, ⟨g11294, 2, none⟩, (.int .i64 ((rdD t5823 x11284 z_Tile).S))), (39, ⟨g11294, 3, none⟩, (.int .i64 ((rdD t5823 x11284 z_Tile).W)))], [0, 1, 2, 3, 4, 5, 6, 7, 8, 9, 10, 11, 12, 13, 14, 15, 16, 17, 18, 19, 20, 21, 22, 23, 24, 25, 26, 27, 28, 29, 30, 31, 32, 33, 34, 35, 36, 37, 38, 39, 41], [[], [0], [], [], [2, 3], [2, 3, 4], [0, 1, 2, 3, 4, 5], [0, 1, 2, 3, 4, 5, 6], [0, 1, 2, 3, 4, 5, 6, 7], [0, 1, 2, 3, 4, 5, 6, 7, 8], [0, 1, 2, 3, 4, 5, 6, 7], [0, 1, 2, 3, 4, 5, 6, 7], [0, 1, 2, 3, 4, 5, 6, 7, 10, 11], [0, 1, 2, 3, 4, 5, 6, 7, 10, 11, 12], [0, 1, 2, 3, 4, 5, 6, 7, 8, 9, 10, 11, 12, 13], [0, 1, 2, 3, 4, 5, 6, 7, 8, 9, 10, 11, 12, 13, 14], [0, 1, 2, 3, 4, 5, 6, 7, 8, 9, 10, 11, 12, 13, 14, 15], [0, 1, 2, 3, 4, 5, 6, 7, 8, 9, 10, 11, 12, 13, 14, 15, 16], [0, 1, 2, 3, 4, 5, 6, 7, 8, 9, 10, 11, 12, 13, 14, 15, 16, 17], [0, 1, 2, 3, 4, 5, 6, 7, 8, 9, 10, 11, 12, 13, 14, 15, 16], [0, 1, 2, 3, 4, 5, 6, 7, 8, 9, 10, 11, 12, 13, 14, 15, 16, 17, 18, 19], [0, 1, 2, 3, 4, 5, 6, 7, 8, 9, 10, 11, 12, 13, 14, 15, 16, 17, 18, 19, 20], [0, 1, 2, 3, 4, 5, 6, 7, 8, 9, 10, 11, 12, 13, 14, 15, 16, 17, 18, 19, 20, 21], [0, 1, 2, 3, 4, 5, 6, 7, 8, 9, 10, 11, 12, 13, 14, 15, 16, 17, 18, 19, 20, 21, 22], [0, 1, 2, 3, 4, 5, 6, 7, 8, 9, 10, 11, 12, 13, 14, 15, 16, 17, 18, 19, 20, 21, 22], [0, 1, 2, 3, 4, 5, 6, 7, 8, 9, 10, 11, 12, 13, 14, 15, 16, 17, 18, 19, 20, 21, 22, 24], [0, 1, 2, 3, 4, 5, 6, 7, 8, 9, 10, 11, 12, 13, 14, 15, 16, 17, 18, 19, 20, 21, 22, 24, 25], [0, 1, 2, 3, 4, 5, 6, 7, 8, 9, 10, 11, 12, 13, 14, 15, 16, 17, 18, 19, 20, 21, 22, 23, 24, 25, 26], [0, 1, 2, 3, 4, 5, 6, 7, 8, 9, 10, 11, 12, 13, 14, 15, 16, 17, 18, 19, 20, 21, 22, 23, 24, 25, 26, 27], [0, 1, 2, 3, 4, 5, 6, 7, 8, 9, 10, 11, 12, 13, 14, 15, 16, 17, 18, 19, 20, 21, 22, 23, 24, 25, 26, 27, 28], [0, 1, 2, 3, 4, 5, 6, 7, 8, 9, 10, 11, 12, 13, 14, 15, 16, 17, 18, 19, 20, 21, 22, 23, 24, 25, 26, 27, 28, 29], [0, 1, 2, 3, 4, 5, 6, 7, 8, 9, 10, 11, 12, 13, 14, 15, 16, 17, 18, 19, 20, 21, 22, 23, 24, 25, 26, 27, 28, 29, 30], [0, 1, 2, 3, 4, 5, 6, 7, 8, 9, 10, 11, 12, 13, 14, 15, 16, 17, 18, 19, 20, 21, 22, 23, 24, 25, 26, 27, 28, 29, 30, 31], [0, 1, 2, 3, 4, 5, 6, 7, 8, 9, 10, 11, 12, 13, 14, 15, 16, 17, 18, 19, 20, 21, 22, 23, 24, 25, 26, 27, 28, 29, 30, 31, 32], [0, 1, 2, 3, 4, 5, 6, 7, 8, 9, 10, 11, 12, 13, 14, 15, 16, 17, 18, 19, 20, 21, 22, 23, 24, 25, 26, 27, 28, 29, 30, 31, 32, 33], [0, 1, 2, 3, 4, 5, 6, 7, 8, 9, 10, 11, 12, 13, 14, 15, 16, 17, 18, 19, 20, 21, 22, 23, 24, 25, 26, 27, 28, 29, 30, 31, 32, 33, 34], [0, 1, 2, 3, 4, 5, 6, 7, 8, 9, 10, 11, 12, 13, 14, 15, 16, 17, 18, 19, 20, 21, 22, 23, 24, 25, 26, 27, 28, 29, 30, 31, 32, 33, 34], [0, 1, 2, 3, 4, 5, 6, 7, 8, 9, 10, 11, 12, 13, 14, 15, 16, 17, 18, 19, 20, 21, 22, 23, 24, 25, 26, 27, 28, 29, 30, 31, 32, 33, 34], [0, 1, 2, 3, 4, 5, 6, 7, 8, 9, 10, 11, 12, 13, 14, 15, 16, 17, 18, 19, 20, 21, 22, 23, 24, 25, 26, 27, 28, 29, 30, 31, 32, 33, 34], [0, 1, 2, 3, 4, 5, 6, 7, 8, 9, 10, 11, 12, 13, 14, 15, 16, 17, 18, 19, 20, 21, 22, 23, 24, 25, 26, 27, 28, 29, 30, 31, 32, 33, 34], [0, 1, 2, 3, 4, 5, 6, 7, 8, 9, 10, 11, 12, 13, 14, 15, 16, 17, 18, 19, 20, 21, 22, 23, 24, 25, 26, 27, 28, 29, 30, 31, 32, 33, 34, 35, 36, 37, 38, 39], [0, 1, 2, 3, 4, 5, 6, 7, 8, 9, 10, 11, 12, 13, 14, 15, 16, 17, 18, 19, 20, 21, 22, 23, 24, 25, 26, 27, 28, 29, 30, 31, 32, 33, 34, 35, 36, 37, 38, 39, 40]]) [[0, 1, 2, 3, 4, 5, 6, 7, 8, 9, 10, 11, 12, 13, 14, 15, 16, 17, 18, 19, 20, 21, 22, 23, 24, 25, 26, 27, 28, 29, 30, 31, 32, 33, 34, 35, 36, 37, 38, 39, 40, 41]] (by kernel_rfl) (by kernel_rfl) (NoPanic.seq (NoPanic.block (NoPanic.seq (NoPanic.seq (NoPanic.block (NoPanic.seq (NoPanic.block (NoPanic.seq (NoPanic.seq (NoPanic.block (NoPanic.seq (NoPanic.block (NoPanic.seq (NoPanic.seq (NoPanic.block (NoPanic.seq (NoPanic.body))))))))))))))))) ?_
                              have hS11423 := hS11299.drew
                              revert hS11423
                              generalize World.drew w11298 = w11422
                              intro hS11423
                              refine ⟨⟨hS11423.cell 0 rfl 2 rfl, rowR.cell (rowO.rd (hS11423.own 9).1) 0 h11426.1 h11426.2 0 rfl, hS11423.cell 0 rfl 0 rfl, rowR.cell (rowO.rd (hS11423.own 10).1) 0 h11427.1 h11427.2 0 rfl, hS11423.cell 0 rfl 3 rfl, hS11423.cell 0 rfl 1 rfl, hS11423.cell 1 rfl 0 rfl, hS11423.cell 1 rfl 1 rfl, hS11423.cell 1 rfl 2 rfl, hS11423.cell 2 rfl 0 rfl, hS11423.cell 2 rfl 1 rfl, hS11423.cell 2 rfl 2 rfl, hS11423.cell 7 rfl 0 rfl, hS11423.cell 7 rfl 1 rfl, hS11423.cell 7 rfl 2 rfl, hS11423.cell 0 rfl 0 rfl, hS11423.cell 0 rfl 1 rfl, hS11423.cell 0 rfl 2 rfl, hS11423.cell 0 rfl 3 rfl, trivial⟩, forallC ?_ (forallN)⟩
                              refine segF 8 [.v (.int .i64 ((rdD t5823 x11284 z_Tile).S)), .v (.int .i64 (rdD t9717 x10904 0))] [2, 3, 4, 6, 8, 9, 10, 11, 13, 14, 15, 16, 17, 18, 19, 70] [(2, (.int .i64 p2)), (3, (.pointer (some ⟨g3187, 0, none⟩))), (4, (.pointer (some ⟨g3191, 0, none⟩))), (6, (.pointer (some ⟨g3195, 0, none⟩))), (8, (.slice A5828 t5823.length c5829)), (9, (.pointer (some ⟨g5830, 0, none⟩))), (10, (.int .i64 x9673)), (11, (.pointer (some ⟨g9691, 0, none⟩))), (13, (.slice A9722 t9717.length c9723)), (14, (.slice A9729 t9724.length c9730)), (15, (.int .i64 x10903)), (16, (.int .i64 x10904)), (17, (.int .i64 x11283)), (18, (.int .i64 x11284)), (19, (.pointer (some ⟨g11294, 0, none⟩))), (70, (.bool (((rdD t5823 x11284 z_Tile).S) == (rdD t9717 x10904 0))))] [.idx A9722 x10904 t9717.length] [0, 1] [(1, ⟨g11294, 2, none⟩, (.int .i64 ((rdD t5823 x11284 z_Tile).S))), (5, ((adr A9722).add ((x10904).toNat * 1)), (.int .i64 (rdD t9717 x10904 0)))] (fun fb => by kernel_rfl) rfl ⟨rowR.adr (rowO.rd (hS11423.own 9).1) h11426.1 h11426.2, trivial⟩ rfl ?_
                              refine WL.setB 70 h11384 rfl ?_
                              refine segF 17 [.v (.int .i64 ((rdD t5823 x11284 z_Tile).N)), .v (.int .i64 (rdD t9724 x10904 0))] [2, 3, 4, 6, 8, 9, 10, 11, 13, 14, 15, 16, 17, 18, 19, 79] [(2, (.int .i64 p2)), (3, (.pointer (some ⟨g3187, 0, none⟩))), (4, (.pointer (some ⟨g3191, 0, none⟩))), (6, (.pointer (some ⟨g3195, 0, none⟩))), (8, (.slice A5828 t5823.length c5829)), (9, (.pointer (some ⟨g5830, 0, none⟩))), (10, (.int .i64 x9673)), (11, (.pointer (some ⟨g9691, 0, none⟩))), (13, (.slice A9722 t9717.length c9723)), (14, (.slice A9729 t9724.length c9730)), (15, (.int .i64 x10903)), (16, (.int .i64 x10904)), (17, (.int .i64 x11283)), (18, (.int .i64 x11284)), (19, (.pointer (some ⟨g11294, 0, none⟩))), (79, (.bool (((rdD t5823 x11284 z_Tile).N) == (rdD t9724 x10904 0))))] [.idx A9729 x10904 t9724.length] [2, 3] [(9, ⟨g11294, 0, none⟩, (.int .i64 ((rdD t5823 x11284 z_Tile).N))), (13, ((adr A9729).add ((x10904).toNat * 1)), (.int .i64 (rdD t9724 x10904 0)))] (fun fb => by kernel_rfl) rfl ⟨rowR.adr (rowO.rd (hS11423.own 10).1) h11427.1 h11427.2, trivial⟩ rfl ?_
                              refine WL.setB 79 h11387 rfl ?_
                              refine segF 23 [.v (.int .i64 ((rdD t5823 x11284 z_Tile).W))] [2, 3, 4, 6, 8, 9, 10, 11, 13, 14, 15, 16, 17, 18, 19, 85] [(2, (.int .i64 p2)), (3, (.pointer (some ⟨g3187, 0, none⟩))), (4, (.pointer (some ⟨g3191, 0, none⟩))), (6, (.pointer (some ⟨g3195, 0, none⟩))), (8, (.slice A5828 t5823.length c5829)), (9, (.pointer (some ⟨g5830, 0, none⟩))), (10, (.int .i64 x9673)), (11, (.pointer (some ⟨g9691, 0, none⟩))), (13, (.slice A9722 t9717.length c9723)), (14, (.slice A9729 t9724.length c9730)), (15, (.int .i64 x10903)), (16, (.int .i64 x10904)), (17, (.int .i64 x11283)), (18, (.int .i64 x11284)), (19, (.pointer (some ⟨g11294, 0, none⟩))), (85, (.bool (((rdD t5823 x11284 z_Tile).W) == x10903)))] [] [4] [(18, ⟨g11294, 3, none⟩, (.int .i64 ((rdD t5823 x11284 z_Tile).W)))] (fun fb => by kernel_rfl) rfl trivial rfl ?_
                              refine WL.setB 85 h11390 rfl ?_
                              refine seg 29 [] [2, 3, 4, 6, 8, 9, 10, 11, 13, 14, 15, 16, 17, 18, 19, 85, 91] [(2, (.int .i64 p2)), (3, (.pointer (some ⟨g3187, 0, none⟩))), (4, (.pointer (some ⟨g3191, 0, none⟩))), (6, (.pointer (some ⟨g3195, 0, none⟩))), (8, (.slice A5828 t5823.length c5829)), (9, (.pointer (some ⟨g5830, 0, none⟩))), (10, (.int .i64 x9673)), (11, (.pointer (some ⟨g9691, 0, none⟩))), (13, (.slice A9722 t9717.length c9723)), (14, (.slice A9729 t9724.length c9730)), (15, (.int .i64 x10903)), (16, (.int .i64 x10904)), (17, (.int .i64 x11283)), (18, (.int .i64 x11284)), (19, (.pointer (some ⟨g11294, 0, none⟩))), (85, (.bool true)), (91, (.bool (decide (x10904 < w64 ((t9717.length : Int) - 1)))))] [] (fun fb => by kernel_rfl) rfl trivial ?_
                              refine WL.setB 91 h11393 rfl ?_
                              refine segF 35 [.v (.int .i64 ((rdD t5823 x11284 z_Tile).E))] [2, 3, 4, 6, 8, 9, 10, 11, 13, 14, 15, 16, 17, 18, 19, 97] [(2, (.int .i64 p2)), (3, (.pointer (some ⟨g3187, 0, none⟩))), (4, (.pointer (some ⟨g3191, 0, none⟩))), (6, (.pointer (some ⟨g3195, 0, none⟩))), (8, (.slice A5828 t5823.length c5829)), (9, (.pointer (some ⟨g5830, 0, none⟩))), (10, (.int .i64 x9673)), (11, (.pointer (some ⟨g9691, 0, none⟩))), (13, (.slice A9722 t9717.length c9723)), (14, (.slice A9729 t9724.length c9730)), (15, (.int .i64 x10903)), (16, (.int .i64 x10904)), (17, (.int .i64 x11283)), (18, (.int .i64 x11284)), (19, (.pointer (some ⟨g11294, 0, none⟩))), (97, (.bool (((rdD t5823 x11284 z_Tile).E) == 0)))] [] [5] [(30, ⟨g11294, 1, none⟩, (.int .i64 ((rdD t5823 x11284 z_Tile).E)))] (fun fb => by kernel_rfl) rfl trivial rfl ?_
                              refine WL.setB 97 h11414 rfl ?_
                              refine segF 40 [.v (.int .i64 p0.States), .v (.int .i64 p0.Symbols), .v (.slice A_p0_Actions p0.Actions.length c_p0_Actions), .v (.int .i64 x9665), .v (.int .i64 x9666), .v (.slice A9667 l9669.length c9668), .v (.int .i64 t9684.1.State), .v (.int .i64 t9684.1.At), .v (.slice A9689 t9684.1.Cells.length c9690), .v (.int .i64 ((rdD t5823 x11284 z_Tile).N)), .v (.int .i64 ((rdD t5823 x11284 z_Tile).E)), .v (.int .i64 ((rdD t5823 x11284 z_Tile).S)), .v (.int .i64 ((rdD t5823 x11284 z_Tile).W))] [2, 3, 4, 6, 8, 9, 10, 11, 13, 14, 15, 16, 17, 18, 97, 98, 99, 100, 101, 102] [(2, (.int .i64 p2)), (3, (.pointer (some ⟨g3187, 0, none⟩))), (4, (.pointer (some ⟨g3191, 0, none⟩))), (6, (.pointer (some ⟨g3195, 0, none⟩))), (8, (.slice A5828 t5823.length c5829)), (9, (.pointer (some ⟨g5830, 0, none⟩))), (10, (.int .i64 x9673)), (11, (.pointer (some ⟨g9691, 0, none⟩))), (13, (.slice A9722 t9717.length c9723)), (14, (.slice A9729 t9724.length c9730)), (15, (.int .i64 x10903)), (16, (.int .i64 x10904)), (17, (.int .i64 x11283)), (18, (.int .i64 x11284)), (97, (.bool true)), (98, (.agg #[(.int .i64 p0.States), (.int .i64 p0.Symbols), (.slice A_p0_Actions p0.Actions.length c_p0_Actions)])), (99, (.agg #[(.int .i64 x9665), (.int .i64 x9666), (.slice A9667 l9669.length c9668)])), (100, (.agg #[(.int .i64 t9684.1.State), (.int .i64 t9684.1.At), (.slice A9689 t9684.1.Cells.length c9690)])), (101, (.int .i64 x10904)), (102, (.agg #[(.int .i64 ((rdD t5823 x11284 z_Tile).N)), (.int .i64 ((rdD t5823 x11284 z_Tile).E)), (.int .i64 ((rdD t5823 x11284 z_Tile).S)), (.int .i64 ((rdD t5823 x11284 z_Tile).W))]))] [] [6, 7, 8, 9, 10, 11, 12, 13, 14, 15, 16, 17, 18] [(35, ⟨g3187, 0, none⟩, (.int .i64 p0.States)), (35, ⟨g3187, 1, none⟩, (.int .i64 p0.Symbols)), (35, ⟨g3187, 2, none⟩, (.slice A_p0_Actions p0.Actions.length c_p0_Actions)), (36, ⟨g3191, 0, none⟩, (.int .i64 x9665)), (36, ⟨g3191, 1, none⟩, (.int .i64 x9666)), (36, ⟨g3191, 2, none⟩, (.slice A9667 l9669.length c9668)), (37, ⟨g9691, 0, none⟩, (.int .i64 t9684.1.State)), (37, ⟨g9691, 1, none⟩, (.int .i64 t9684.1.At)), (37, ⟨g9691, 2, none⟩, (.slice A9689 t9684.1.Cells.length c9690)), (39, ⟨g11294, 0, none⟩, (.int .i64 ((rdD t5823 x11284 z_Tile).N))), (39, ⟨g11294, 1, none⟩, (.int .i64 ((rdD t5823 x11284 z_Tile).E))), (39, ⟨g11294, 2, none⟩, (.int .i64 ((rdD t5823 x11284 z_Tile).S))), (39, ⟨g11294, 3, none⟩, (.int .i64 ((rdD t5823 x11284 z_Tile).W)))] (fun fb => by kernel_rfl) rfl trivial rfl ?_
                              obtain ⟨t11428, ht11429, hx11382⟩ := bind_some hx11382
                              refine WL.call (some 103) 45 #[(.agg #[(.int .i64 p0.States), (.int .i64 p0.Symbols), (.slice A_p0_Actions p0.Actions.length c_p0_Actions)]), (.agg #[(.int .i64 x9665), (.int .i64 x9666), (.slice A9667 l9669.length c9668)]), (.agg #[(.int .i64 t9684.1.State), (.int .i64 t9684.1.At), (.slice A9689 t9684.1.Cells.length c9690)]), (.int .i64 x10904), (.agg #[(.int .i64 ((rdD t5823 x11284 z_Tile).N)), (.int .i64 ((rdD t5823 x11284 z_Tile).E)), (.int .i64 ((rdD t5823 x11284 z_Tile).S)), (.int .i64 ((rdD t5823 x11284 z_Tile).W))])] (fun fb => by kernel_rfl) (ref08_leads_calls p0 (Config.mk x9665 x9666 l9669) t9684.1 x10904 (rdD t5823 x11284 z_Tile) A_p0_Actions c_p0_Actions A9667 c9668 A9689 c9690 t11428 _ (hS11423.rd 1) (hS11423.rd 0) (hS11423.ow 8).ofO ht11429) (fun v w11430 hR11431 => ?_)
                              obtain ⟨rfl, hk_⟩ := hR11431
                              have hS11432 := hS11423.keepN hk_
                              refine ⟨trivial, ?_⟩
                              refine seg 42 [] [2, 3, 4, 6, 8, 9, 10, 11, 13, 14, 15, 16, 17, 18, 104] [(2, (.int .i64 p2)), (3, (.pointer (some ⟨g3187, 0, none⟩))), (4, (.pointer (some ⟨g3191, 0, none⟩))), (6, (.pointer (some ⟨g3195, 0, none⟩))), (8, (.slice A5828 t5823.length c5829)), (9, (.pointer (some ⟨g5830, 0, none⟩))), (10, (.int .i64 x9673)), (11, (.pointer (some ⟨g9691, 0, none⟩))), (13, (.slice A9722 t9717.length c9723)), (14, (.slice A9729 t9724.length c9730)), (15, (.int .i64 x10903)), (16, (.int .i64 x10904)), (17, (.int .i64 x11283)), (18, (.int .i64 x11284)), (104, (.bool t11428))] [] (fun fb => by kernel_rfl) rfl trivial ?_
                              refine WL.done rfl ?_
                              injection hx11382 with hx11382
                              exact WX.to Kx11381 t11428 [2, 3, 4, 6, 8, 9, 10, 11, 13, 14, 15, 16, 17, 18, 104] rfl ⟨(hS11432.subR [0, 1, 2]).sub [1, 2, 3, 4, 5, 6, 7, 8, 9, 10] (by decide), hx11382.symm⟩
                            obtain ⟨h11439, hx11382⟩ := as_some hx11382
                            obtain ⟨h11440, hx11382⟩ := as_some hx11382
                            refine WC.regionD ([(1, ⟨g11294, 2, none⟩, (.int .i64 ((rdD t5823 x11284 z_Tile).S))), (5, ((adr A9722).add ((x10904).toNat * 1)), (.int .i64 (rdD t9717 x10904 0))), (9, ⟨g11294, 0, none⟩, (.int .i64 ((rdD t5823 x11284 z_Tile).N))), (13, ((adr A9729).add ((x10904).toNat * 1)), (.int .i64 (rdD t9724 x10904 0))), (18, ⟨g11294, 3, none⟩, (.int .i64 ((rdD t5823 x11284 z_Tile).W))), (30, ⟨g11294, 1, none⟩, (.int .i64 ((rdD t5823 x11284 z_Tile).E)))], [0, 1, 2, 3, 4, 5, 6, 7, 8, 9, 10, 11, 12, 13, 14, 15, 16, 17, 18, 19, 20, 21, 22, 23, 24, 25, 26, 27, 28, 29, 30, 31, 32, 33, 34, 35, 36, 37, 38, 39, 41], [[], [0], [], [], [2, 3], [2, 3, 4], [0, 1, 2, 3, 4, 5], [0, 1, 2, 3, 4, 5, 6], [0, 1, 2, 3, 4, 5, 6, 7], [0, 1, 2, 3, 4, 5, 6, 7, 8], [0, 1, 2, 3, 4, 5, 6, 7], [0, 1, 2, 3, 4, 5, 6, 7], [0, 1, 2, 3, 4, 5, 6, 7, 10, 11], [0, 1, 2, 3, 4, 5, 6, 7, 10, 11, 12], [0, 1, 2, 3, 4, 5, 6, 7, 8, 9, 10, 11, 12, 13], [0, 1, 2, 3, 4, 5, 6, 7, 8, 9, 10, 11, 12, 13, 14], [0, 1, 2, 3, 4, 5, 6, 7, 8, 9, 10, 11, 12, 13, 14, 15], [0, 1, 2, 3, 4, 5, 6, 7, 8, 9, 10, 11, 12, 13, 14, 15, 16], [0, 1, 2, 3, 4, 5, 6, 7, 8, 9, 10, 11, 12, 13, 14, 15, 16, 17], [0, 1, 2, 3, 4, 5, 6, 7, 8, 9, 10, 11, 12, 13, 14, 15, 16], [0, 1, 2, 3, 4, 5, 6, 7, 8, 9, 10, 11, 12, 13, 14, 15, 16, 17, 18, 19], [0, 1, 2, 3, 4, 5, 6, 7, 8, 9, 10, 11, 12, 13, 14, 15, 16, 17, 18, 19, 20], [0, 1, 2, 3, 4, 5, 6, 7, 8, 9, 10, 11, 12, 13, 14, 15, 16, 17, 18, 19, 20, 21], [0, 1, 2, 3, 4, 5, 6, 7, 8, 9, 10, 11, 12, 13, 14, 15, 16, 17, 18, 19, 20, 21, 22], [0, 1, 2, 3, 4, 5, 6, 7, 8, 9, 10, 11, 12, 13, 14, 15, 16, 17, 18, 19, 20, 21, 22], [0, 1, 2, 3, 4, 5, 6, 7, 8, 9, 10, 11, 12, 13, 14, 15, 16, 17, 18, 19, 20, 21, 22, 24], [0, 1, 2, 3, 4, 5, 6, 7, 8, 9, 10, 11, 12, 13, 14, 15, 16, 17, 18, 19, 20, 21, 22, 24, 25], [0, 1, 2, 3, 4, 5, 6, 7, 8, 9, 10, 11, 12, 13, 14, 15, 16, 17, 18, 19, 20, 21, 22, 23, 24, 25, 26], [0, 1, 2, 3, 4, 5, 6, 7, 8, 9, 10, 11, 12, 13, 14, 15, 16, 17, 18, 19, 20, 21, 22, 23, 24, 25, 26, 27], [0, 1, 2, 3, 4, 5, 6, 7, 8, 9, 10, 11, 12, 13, 14, 15, 16, 17, 18, 19, 20, 21, 22, 23, 24, 25, 26, 27, 28], [0, 1, 2, 3, 4, 5, 6, 7, 8, 9, 10, 11, 12, 13, 14, 15, 16, 17, 18, 19, 20, 21, 22, 23, 24, 25, 26, 27, 28, 29], [0, 1, 2, 3, 4, 5, 6, 7, 8, 9, 10, 11, 12, 13, 14, 15, 16, 17, 18, 19, 20, 21, 22, 23, 24, 25, 26, 27, 28, 29, 30], [0, 1, 2, 3, 4, 5, 6, 7, 8, 9, 10, 11, 12, 13, 14, 15, 16, 17, 18, 19, 20, 21, 22, 23, 24, 25, 26, 27, 28, 29, 30, 31], [0, 1, 2, 3, 4, 5, 6, 7, 8, 9, 10, 11, 12, 13, 14, 15, 16, 17, 18, 19, 20, 21, 22, 23, 24, 25, 26, 27, 28, 29, 30, 31, 32], [0, 1, 2, 3, 4, 5, 6, 7, 8, 9, 10, 11, 12, 13, 14, 15, 16, 17, 18, 19, 20, 21, 22, 23, 24, 25, 26, 27, 28, 29, 30, 31, 32, 33], [0, 1, 2, 3, 4, 5, 6, 7, 8, 9, 10, 11, 12, 13, 14, 15, 16, 17, 18, 19, 20, 21, 22, 23, 24, 25, 26, 27, 28, 29, 30, 31, 32, 33, 34], [0, 1, 2, 3, 4, 5, 6, 7, 8, 9, 10, 11, 12, 13, 14, 15, 16, 17, 18, 19, 20, 21, 22, 23, 24, 25, 26, 27, 28, 29, 30, 31, 32, 33, 34], [0, 1, 2, 3, 4, 5, 6, 7, 8, 9, 10, 11, 12, 13, 14, 15, 16, 17, 18, 19, 20, 21, 22, 23, 24, 25, 26, 27, 28, 29, 30, 31, 32, 33, 34], [0, 1, 2, 3, 4, 5, 6, 7, 8, 9, 10, 11, 12, 13, 14, 15, 16, 17, 18, 19, 20, 21, 22, 23, 24, 25, 26, 27, 28, 29, 30, 31, 32, 33, 34], [0, 1, 2, 3, 4, 5, 6, 7, 8, 9, 10, 11, 12, 13, 14, 15, 16, 17, 18, 19, 20, 21, 22, 23, 24, 25, 26, 27, 28, 29, 30, 31, 32, 33, 34], [0, 1, 2, 3, 4, 5, 6, 7, 8, 9, 10, 11, 12, 13, 14, 15, 16, 17, 18, 19, 20, 21, 22, 23, 24, 25, 26, 27, 28, 29, 30, 31, 32, 33, 34, 35, 36, 37, 38, 39], [0, 1, 2, 3, 4, 5, 6, 7, 8, 9, 10, 11, 12, 13, 14, 15, 16, 17, 18, 19, 20, 21, 22, 23, 24, 25, 26, 27, 28, 29, 30, 31, 32, 33, 34, 35, 36, 37, 38, 39, 40]]) [[0, 1, 2, 3, 4, 5, 6, 7, 8, 9, 10, 11, 12, 13, 14, 15, 16, 17, 18, 19, 20, 21, 22, 23, 24, 25, 26, 27, 28, 29, 30, 31, 32, 33, 34, 35, 36, 37, 38, 39, 40, 41]] (by kernel_rfl) (by kernel_rfl) (NoPanic.seq (NoPanic.block (NoPanic.seq (NoPanic.seq (NoPanic.block (NoPanic.seq (NoPanic.block (NoPanic.seq (NoPanic.seq (NoPanic.block (NoPanic.seq (NoPanic.block (NoPanic.seq (NoPanic.seq (NoPanic.block (NoPanic.seq (NoPanic.body))))))))))))))))) ?_
                            have hS11436 := hS11299.drew
                            revert hS11436
                            generalize World.drew w11298 = w11435
                            intro hS11436
                            refine ⟨⟨hS11436.cell 0 rfl 2 rfl, rowR.cell (rowO.rd (hS11436.own 9).1) 0 h11439.1 h11439.2 0 rfl, hS11436.cell 0 rfl 0 rfl, rowR.cell (rowO.rd (hS11436.own 10).1) 0 h11440.1 h11440.2 0 rfl, hS11436.cell 0 rfl 3 rfl, hS11436.cell 0 rfl 1 rfl, trivial⟩, forallC ?_ (forallN)⟩
                            refine segF 8 [.v (.int .i64 ((rdD t5823 x11284 z_Tile).S)), .v (.int .i64 (rdD t9717 x10904 0))] [2, 3, 4, 6, 8, 9, 10, 11, 13, 14, 15, 16, 17, 18, 19, 70] [(2, (.int .i64 p2)), (3, (.pointer (some ⟨g3187, 0, none⟩))), (4, (.pointer (some ⟨g3191, 0, none⟩))), (6, (.pointer (some ⟨g3195, 0, none⟩))), (8, (.slice A5828 t5823.length c5829)), (9, (.pointer (some ⟨g5830, 0, none⟩))), (10, (.int .i64 x9673)), (11, (.pointer (some ⟨g9691, 0, none⟩))), (13, (.slice A9722 t9717.length c9723)), (14, (.slice A9729 t9724.length c9730)), (15, (.int .i64 x10903)), (16, (.int .i64 x10904)), (17, (.int .i64 x11283)), (18, (.int .i64 x11284)), (19, (.pointer (some ⟨g11294, 0, none⟩))), (70, (.bool (((rdD t5823 x11284 z_Tile).S) == (rdD t9717 x10904 0))))] [.idx A9722 x10904 t9717.length] [0, 1] [(1, ⟨g11294, 2, none⟩, (.int .i64 ((rdD t5823 x11284 z_Tile).S))), (5, ((adr A9722).add ((x10904).toNat * 1)), (.int .i64 (rdD t9717 x10904 0)))] (fun fb => by kernel_rfl) rfl ⟨rowR.adr (rowO.rd (hS11436.own 9).1) h11439.1 h11439.2, trivial⟩ rfl ?_
                            refine WL.setB 70 h11384 rfl ?_
                            refine segF 17 [.v (.int .i64 ((rdD t5823 x11284 z_Tile).N)), .v (.int .i64 (rdD t9724 x10904 0))] [2, 3, 4, 6, 8, 9, 10, 11, 13, 14, 15, 16, 17, 18, 19, 79] [(2, (.int .i64 p2)), (3, (.pointer (some ⟨g3187, 0, none⟩))), (4, (.pointer (some ⟨g3191, 0, none⟩))), (6, (.pointer (some ⟨g3195, 0, none⟩))), (8, (.slice A5828 t5823.length c5829)), (9, (.pointer (some ⟨g5830, 0, none⟩))), (10, (.int .i64 x9673)), (11, (.pointer (some ⟨g9691, 0, none⟩))), (13, (.slice A9722 t9717.length c9723)), (14, (.slice A9729 t9724.length c9730)), (15, (.int .i64 x10903)), (16, (.int .i64 x10904)), (17, (.int .i64 x11283)), (18, (.int .i64 x11284)), (19, (.pointer (some ⟨g11294, 0, none⟩))), (79, (.bool (((rdD t5823 x11284 z_Tile).N) == (rdD t9724 x10904 0))))] [.idx A9729 x10904 t9724.length] [2, 3] [(9, ⟨g11294, 0, none⟩, (.int .i64 ((rdD t5823 x11284 z_Tile).N))), (13, ((adr A9729).add ((x10904).toNat * 1)), (.int .i64 (rdD t9724 x10904 0)))] (fun fb => by kernel_rfl) rfl ⟨rowR.adr (rowO.rd (hS11436.own 10).1) h11440.1 h11440.2, trivial⟩ rfl ?_
                            refine WL.setB 79 h11387 rfl ?_
                            refine segF 23 [.v (.int .i64 ((rdD t5823 x11284 z_Tile).W))] [2, 3, 4, 6, 8, 9, 10, 11, 13, 14, 15, 16, 17, 18, 19, 85] [(2, (.int .i64 p2)), (3, (.pointer (some ⟨g3187, 0, none⟩))), (4, (.pointer (some ⟨g3191, 0, none⟩))), (6, (.pointer (some ⟨g3195, 0, none⟩))), (8, (.slice A5828 t5823.length c5829)), (9, (.pointer (some ⟨g5830, 0, none⟩))), (10, (.int .i64 x9673)), (11, (.pointer (some ⟨g9691, 0, none⟩))), (13, (.slice A9722 t9717.length c9723)), (14, (.slice A9729 t9724.length c9730)), (15, (.int .i64 x10903)), (16, (.int .i64 x10904)), (17, (.int .i64 x11283)), (18, (.int .i64 x11284)), (19, (.pointer (some ⟨g11294, 0, none⟩))), (85, (.bool (((rdD t5823 x11284 z_Tile).W) == x10903)))] [] [4] [(18, ⟨g11294, 3, none⟩, (.int .i64 ((rdD t5823 x11284 z_Tile).W)))] (fun fb => by kernel_rfl) rfl trivial rfl ?_
                            refine WL.setB 85 h11390 rfl ?_
                            refine seg 29 [] [2, 3, 4, 6, 8, 9, 10, 11, 13, 14, 15, 16, 17, 18, 19, 85, 91] [(2, (.int .i64 p2)), (3, (.pointer (some ⟨g3187, 0, none⟩))), (4, (.pointer (some ⟨g3191, 0, none⟩))), (6, (.pointer (some ⟨g3195, 0, none⟩))), (8, (.slice A5828 t5823.length c5829)), (9, (.pointer (some ⟨g5830, 0, none⟩))), (10, (.int .i64 x9673)), (11, (.pointer (some ⟨g9691, 0, none⟩))), (13, (.slice A9722 t9717.length c9723)), (14, (.slice A9729 t9724.length c9730)), (15, (.int .i64 x10903)), (16, (.int .i64 x10904)), (17, (.int .i64 x11283)), (18, (.int .i64 x11284)), (19, (.pointer (some ⟨g11294, 0, none⟩))), (85, (.bool true)), (91, (.bool (decide (x10904 < w64 ((t9717.length : Int) - 1)))))] [] (fun fb => by kernel_rfl) rfl trivial ?_
                            refine WL.setB 91 h11393 rfl ?_
                            refine segF 35 [.v (.int .i64 ((rdD t5823 x11284 z_Tile).E))] [2, 3, 4, 6, 8, 9, 10, 11, 13, 14, 15, 16, 17, 18, 19, 97] [(2, (.int .i64 p2)), (3, (.pointer (some ⟨g3187, 0, none⟩))), (4, (.pointer (some ⟨g3191, 0, none⟩))), (6, (.pointer (some ⟨g3195, 0, none⟩))), (8, (.slice A5828 t5823.length c5829)), (9, (.pointer (some ⟨g5830, 0, none⟩))), (10, (.int .i64 x9673)), (11, (.pointer (some ⟨g9691, 0, none⟩))), (13, (.slice A9722 t9717.length c9723)), (14, (.slice A9729 t9724.length c9730)), (15, (.int .i64 x10903)), (16, (.int .i64 x10904)), (17, (.int .i64 x11283)), (18, (.int .i64 x11284)), (19, (.pointer (some ⟨g11294, 0, none⟩))), (97, (.bool (((rdD t5823 x11284 z_Tile).E) == 0)))] [] [5] [(30, ⟨g11294, 1, none⟩, (.int .i64 ((rdD t5823 x11284 z_Tile).E)))] (fun fb => by kernel_rfl) rfl trivial rfl ?_
                            refine WL.setB 97 h11414 rfl ?_
                            refine seg 42 [] [2, 3, 4, 6, 8, 9, 10, 11, 13, 14, 15, 16, 17, 18, 104] [(2, (.int .i64 p2)), (3, (.pointer (some ⟨g3187, 0, none⟩))), (4, (.pointer (some ⟨g3191, 0, none⟩))), (6, (.pointer (some ⟨g3195, 0, none⟩))), (8, (.slice A5828 t5823.length c5829)), (9, (.pointer (some ⟨g5830, 0, none⟩))), (10, (.int .i64 x9673)), (11, (.pointer (some ⟨g9691, 0, none⟩))), (13, (.slice A9722 t9717.length c9723)), (14, (.slice A9729 t9724.length c9730)), (15, (.int .i64 x10903)), (16, (.int .i64 x10904)), (17, (.int .i64 x11283)), (18, (.int .i64 x11284)), (104, (.bool false))] [] (fun fb => by kernel_rfl) rfl trivial ?_
                            refine WL.done rfl ?_
                            injection hx11382 with hx11382
                            exact WX.to Kx11381 false [2, 3, 4, 6, 8, 9, 10, 11, 13, 14, 15, 16, 17, 18, 104] rfl ⟨(hS11436.subR [0, 1, 2]).sub [1, 2, 3, 4, 5, 6, 7, 8, 9, 10] (by decide), hx11382.symm⟩
                          obtain ⟨h11447, hx11382⟩ := as_some hx11382
                          obtain ⟨h11448, hx11382⟩ := as_some hx11382
                          refine WC.regionD ([(1, ⟨g11294, 2, none⟩, (.int .i64 ((rdD t5823 x11284 z_Tile).S))), (5, ((adr A9722).add ((x10904).toNat * 1)), (.int .i64 (rdD t9717 x10904 0))), (9, ⟨g11294, 0, none⟩, (.int .i64 ((rdD t5823 x11284 z_Tile).N))), (13, ((adr A9729).add ((x10904).toNat * 1)), (.int .i64 (rdD t9724 x10904 0))), (18, ⟨g11294, 3, none⟩, (.int .i64 ((rdD t5823 x11284 z_Tile).W)))], [0, 1, 2, 3, 4, 5, 6, 7, 8, 9, 10, 11, 12, 13, 14, 15, 16, 17, 18, 19, 20, 21, 22, 23, 24, 25, 26, 27, 28, 29, 30, 31, 32, 33, 34, 35, 36, 37, 38, 39, 41], [[], [0], [], [], [2, 3], [2, 3, 4], [0, 1, 2, 3, 4, 5], [0, 1, 2, 3, 4, 5, 6], [0, 1, 2, 3, 4, 5, 6, 7], [0, 1, 2, 3, 4, 5, 6, 7, 8], [0, 1, 2, 3, 4, 5, 6, 7], [0, 1, 2, 3, 4, 5, 6, 7], [0, 1, 2, 3, 4, 5, 6, 7, 10, 11], [0, 1, 2, 3, 4, 5, 6, 7, 10, 11, 12], [0, 1, 2, 3, 4, 5, 6, 7, 8, 9, 10, 11, 12, 13], [0, 1, 2, 3, 4, 5, 6, 7, 8, 9, 10, 11, 12, 13, 14], [0, 1, 2, 3, 4, 5, 6, 7, 8, 9, 10, 11, 12, 13, 14, 15], [0, 1, 2, 3, 4, 5, 6, 7, 8, 9, 10, 11, 12, 13, 14, 15, 16], [0, 1, 2, 3, 4, 5, 6, 7, 8, 9, 10, 11, 12, 13, 14, 15, 16, 17], [0, 1, 2, 3, 4, 5, 6, 7, 8, 9, 10, 11, 12, 13, 14, 15, 16], [0, 1, 2, 3, 4, 5, 6, 7, 8, 9, 10, 11, 12, 13, 14, 15, 16, 17, 18, 19], [0, 1, 2, 3, 4, 5, 6, 7, 8, 9, 10, 11, 12, 13, 14, 15, 16, 17, 18, 19, 20], [0, 1, 2, 3, 4, 5, 6, 7, 8, 9, 10, 11, 12, 13, 14, 15, 16, 17, 18, 19, 20, 21], [0, 1, 2, 3, 4, 5, 6, 7, 8, 9, 10, 11, 12, 13, 14, 15, 16, 17, 18, 19, 20, 21, 22], [0, 1, 2, 3, 4, 5, 6, 7, 8, 9, 10, 11, 12, 13, 14, 15, 16, 17, 18, 19, 20, 21, 22], [0, 1, 2, 3, 4, 5, 6, 7, 8, 9, 10, 11, 12, 13, 14, 15, 16, 17, 18, 19, 20, 21, 22, 24], [0, 1, 2, 3, 4, 5, 6, 7, 8, 9, 10, 11, 12, 13, 14, 15, 16, 17, 18, 19, 20, 21, 22, 24, 25], [0, 1, 2, 3, 4, 5, 6, 7, 8, 9, 10, 11, 12, 13, 14, 15, 16, 17, 18, 19, 20, 21, 22, 23, 24, 25, 26], [0, 1, 2, 3, 4, 5, 6, 7, 8, 9, 10, 11, 12, 13, 14, 15, 16, 17, 18, 19, 20, 21, 22, 23, 24, 25, 26, 27], [0, 1, 2, 3, 4, 5, 6, 7, 8, 9, 10, 11, 12, 13, 14, 15, 16, 17, 18, 19, 20, 21, 22, 23, 24, 25, 26, 27, 28], [0, 1, 2, 3, 4, 5, 6, 7, 8, 9, 10, 11, 12, 13, 14, 15, 16, 17, 18, 19, 20, 21, 22, 23, 24, 25, 26, 27, 28, 29], [0, 1, 2, 3, 4, 5, 6, 7, 8, 9, 10, 11, 12, 13, 14, 15, 16, 17, 18, 19, 20, 21, 22, 23, 24, 25, 26, 27, 28, 29, 30], [0, 1, 2, 3, 4, 5, 6, 7, 8, 9, 10, 11, 12, 13, 14, 15, 16, 17, 18, 19, 20, 21, 22, 23, 24, 25, 26, 27, 28, 29, 30, 31], [0, 1, 2, 3, 4, 5, 6, 7, 8, 9, 10, 11, 12, 13, 14, 15, 16, 17, 18, 19, 20, 21, 22, 23, 24, 25, 26, 27, 28, 29, 30, 31, 32], [0, 1, 2, 3, 4, 5, 6, 7, 8, 9, 10, 11, 12, 13, 14, 15, 16, 17, 18, 19, 20, 21, 22, 23, 24, 25, 26, 27, 28, 29, 30, 31, 32, 33], [0, 1, 2, 3, 4, 5, 6, 7, 8, 9, 10, 11, 12, 13, 14, 15, 16, 17, 18, 19, 20, 21, 22, 23, 24, 25, 26, 27, 28, 29, 30, 31, 32, 33, 34], [0, 1, 2, 3, 4, 5, 6, 7, 8, 9, 10, 11, 12, 13, 14, 15, 16, 17, 18, 19, 20, 21, 22, 23, 24, 25, 26, 27, 28, 29, 30, 31, 32, 33, 34], [0, 1, 2, 3, 4, 5, 6, 7, 8, 9, 10, 11, 12, 13, 14, 15, 16, 17, 18, 19, 20, 21, 22, 23, 24, 25, 26, 27, 28, 29, 30, 31, 32, 33, 34], [0, 1, 2, 3, 4, 5, 6, 7, 8, 9, 10, 11, 12, 13, 14, 15, 16, 17, 18, 19, 20, 21, 22, 23, 24, 25, 26, 27, 28, 29, 30, 31, 32, 33, 34], [0, 1, 2, 3, 4, 5, 6, 7, 8, 9, 10, 11, 12, 13, 14, 15, 16, 17, 18, 19, 20, 21, 22, 23, 24, 25, 26, 27, 28, 29, 30, 31, 32, 33, 34], [0, 1, 2, 3, 4, 5, 6, 7, 8, 9, 10, 11, 12, 13, 14, 15, 16, 17, 18, 19, 20, 21, 22, 23, 24, 25, 26, 27, 28, 29, 30, 31, 32, 33, 34, 35, 36, 37, 38, 39], [0, 1, 2, 3, 4, 5, 6, 7, 8, 9, 10, 11, 12, 13, 14, 15, 16, 17, 18, 19, 20, 21, 22, 23, 24, 25, 26, 27, 28, 29, 30, 31, 32, 33, 34, 35, 36, 37, 38, 39, 40]]) [[0, 1, 2, 3, 4, 5, 6, 7, 8, 9, 10, 11, 12, 13, 14, 15, 16, 17, 18, 19, 20, 21, 22, 23, 24, 25, 26, 27, 28, 29, 30, 31, 32, 33, 34, 35, 36, 37, 38, 39, 40, 41]] (by kernel_rfl) (by kernel_rfl) (NoPanic.seq (NoPanic.block (NoPanic.seq (NoPanic.seq (NoPanic.block (NoPanic.seq (NoPanic.block (NoPanic.seq (NoPanic.seq (NoPanic.block (NoPanic.seq (NoPanic.block (NoPanic.seq (NoPanic.seq (NoPanic.block (NoPanic.seq (NoPanic.body))))))))))))))))) ?_
                          have hS11444 := hS11299.drew
                          revert hS11444
                          generalize World.drew w11298 = w11443
                          intro hS11444
                          refine ⟨⟨hS11444.cell 0 rfl 2 rfl, rowR.cell (rowO.rd (hS11444.own 9).1) 0 h11447.1 h11447.2 0 rfl, hS11444.cell 0 rfl 0 rfl, rowR.cell (rowO.rd (hS11444.own 10).1) 0 h11448.1 h11448.2 0 rfl, hS11444.cell 0 rfl 3 rfl, trivial⟩, forallC ?_ (forallN)⟩
                          refine segF 8 [.v (.int .i64 ((rdD t5823 x11284 z_Tile).S)), .v (.int .i64 (rdD t9717 x10904 0))] [2, 3, 4, 6, 8, 9, 10, 11, 13, 14, 15, 16, 17, 18, 19, 70] [(2, (.int .i64 p2)), (3, (.pointer (some ⟨g3187, 0, none⟩))), (4, (.pointer (some ⟨g3191, 0, none⟩))), (6, (.pointer (some ⟨g3195, 0, none⟩))), (8, (.slice A5828 t5823.length c5829)), (9, (.pointer (some ⟨g5830, 0, none⟩))), (10, (.int .i64 x9673)), (11, (.pointer (some ⟨g9691, 0, none⟩))), (13, (.slice A9722 t9717.length c9723)), (14, (.slice A9729 t9724.length c9730)), (15, (.int .i64 x10903)), (16, (.int .i64 x10904)), (17, (.int .i64 x11283)), (18, (.int .i64 x11284)), (19, (.pointer (some ⟨g11294, 0, none⟩))), (70, (.bool (((rdD t5823 x11284 z_Tile).S) == (rdD t9717 x10904 0))))] [.idx A9722 x10904 t9717.length] [0, 1] [(1, ⟨g11294, 2, none⟩, (.int .i64 ((rdD t5823 x11284 z_Tile).S))), (5, ((adr A9722).add ((x10904).toNat * 1)), (.int .i64 (rdD t9717 x10904 0)))] (fun fb => by kernel_rfl) rfl ⟨rowR.adr (rowO.rd (hS11444.own 9).1) h11447.1 h11447.2, trivial⟩ rfl ?_
                          refine WL.setB 70 h11384 rfl ?_
                          refine segF 17 [.v (.int .i64 ((rdD t5823 x11284 z_Tile).N)), .v (.int .i64 (rdD t9724 x10904 0))] [2, 3, 4, 6, 8, 9, 10, 11, 13, 14, 15, 16, 17, 18, 19, 79] [(2, (.int .i64 p2)), (3, (.pointer (some ⟨g3187, 0, none⟩))), (4, (.pointer (some ⟨g3191, 0, none⟩))), (6, (.pointer (some ⟨g3195, 0, none⟩))), (8, (.slice A5828 t5823.length c5829)), (9, (.pointer (some ⟨g5830, 0, none⟩))), (10, (.int .i64 x9673)), (11, (.pointer (some ⟨g9691, 0, none⟩))), (13, (.slice A9722 t9717.length c9723)), (14, (.slice A9729 t9724.length c9730)), (15, (.int .i64 x10903)), (16, (.int .i64 x10904)), (17, (.int .i64 x11283)), (18, (.int .i64 x11284)), (19, (.pointer (some ⟨g11294, 0, none⟩))), (79, (.bool (((rdD t5823 x11284 z_Tile).N) == (rdD t9724 x10904 0))))] [.idx A9729 x10904 t9724.length] [2, 3] [(9, ⟨g11294, 0, none⟩, (.int .i64 ((rdD t5823 x11284 z_Tile).N))), (13, ((adr A9729).add ((x10904).toNat * 1)), (.int .i64 (rdD t9724 x10904 0)))] (fun fb => by kernel_rfl) rfl ⟨rowR.adr (rowO.rd (hS11444.own 10).1) h11448.1 h11448.2, trivial⟩ rfl ?_
                          refine WL.setB 79 h11387 rfl ?_
                          refine segF 23 [.v (.int .i64 ((rdD t5823 x11284 z_Tile).W))] [2, 3, 4, 6, 8, 9, 10, 11, 13, 14, 15, 16, 17, 18, 19, 85] [(2, (.int .i64 p2)), (3, (.pointer (some ⟨g3187, 0, none⟩))), (4, (.pointer (some ⟨g3191, 0, none⟩))), (6, (.pointer (some ⟨g3195, 0, none⟩))), (8, (.slice A5828 t5823.length c5829)), (9, (.pointer (some ⟨g5830, 0, none⟩))), (10, (.int .i64 x9673)), (11, (.pointer (some ⟨g9691, 0, none⟩))), (13, (.slice A9722 t9717.length c9723)), (14, (.slice A9729 t9724.length c9730)), (15, (.int .i64 x10903)), (16, (.int .i64 x10904)), (17, (.int .i64 x11283)), (18, (.int .i64 x11284)), (19, (.pointer (some ⟨g11294, 0, none⟩))), (85, (.bool (((rdD t5823 x11284 z_Tile).W) == x10903)))] [] [4] [(18, ⟨g11294, 3, none⟩, (.int .i64 ((rdD t5823 x11284 z_Tile).W)))] (fun fb => by kernel_rfl) rfl trivial rfl ?_
                          refine WL.setB 85 h11390 rfl ?_
                          refine seg 42 [] [2, 3, 4, 6, 8, 9, 10, 11, 13, 14, 15, 16, 17, 18, 104] [(2, (.int .i64 p2)), (3, (.pointer (some ⟨g3187, 0, none⟩))), (4, (.pointer (some ⟨g3191, 0, none⟩))), (6, (.pointer (some ⟨g3195, 0, none⟩))), (8, (.slice A5828 t5823.length c5829)), (9, (.pointer (some ⟨g5830, 0, none⟩))), (10, (.int .i64 x9673)), (11, (.pointer (some ⟨g9691, 0, none⟩))), (13, (.slice A9722 t9717.length c9723)), (14, (.slice A9729 t9724.length c9730)), (15, (.int .i64 x10903)), (16, (.int .i64 x10904)), (17, (.int .i64 x11283)), (18, (.int .i64 x11284)), (104, (.bool false))] [] (fun fb => by kernel_rfl) rfl trivial ?_
                          refine WL.done rfl ?_
                          injection hx11382 with hx11382
                          exact WX.to Kx11381 false [2, 3, 4, 6, 8, 9, 10, 11, 13, 14, 15, 16, 17, 18, 104] rfl ⟨(hS11444.subR [0, 1, 2]).sub [1, 2, 3, 4, 5, 6, 7, 8, 9, 10] (by decide), hx11382.symm⟩
                        obtain ⟨h11455, hx11382⟩ := as_some hx11382
                        obtain ⟨h11456, hx11382⟩ := as_some hx11382
                        refine WC.regionD ([(1, ⟨g11294, 2, none⟩, (.int .i64 ((rdD t5823 x11284 z_Tile).S))), (5, ((adr A9722).add ((x10904).toNat * 1)), (.int .i64 (rdD t9717 x10904 0))), (9, ⟨g11294, 0, none⟩, (.int .i64 ((rdD t5823 x11284 z_Tile).N))), (13, ((adr A9729).add ((x10904).toNat * 1)), (.int .i64 (rdD t9724 x10904 0)))], [0, 1, 2, 3, 4, 5, 6, 7, 8, 9, 10, 11, 12, 13, 14, 15, 16, 17, 18, 19, 20, 21, 22, 23, 24, 25, 26, 27, 28, 29, 30, 31, 32, 33, 34, 35, 36, 37, 38, 39, 41], [[], [0], [], [], [2, 3], [2, 3, 4], [0, 1, 2, 3, 4, 5], [0, 1, 2, 3, 4, 5, 6], [0, 1, 2, 3, 4, 5, 6, 7], [0, 1, 2, 3, 4, 5, 6, 7, 8], [0, 1, 2, 3, 4, 5, 6, 7], [0, 1, 2, 3, 4, 5, 6, 7], [0, 1, 2, 3, 4, 5, 6, 7, 10, 11], [0, 1, 2, 3, 4, 5, 6, 7, 10, 11, 12], [0, 1, 2, 3, 4, 5, 6, 7, 8, 9, 10, 11, 12, 13], [0, 1, 2, 3, 4, 5, 6, 7, 8, 9, 10, 11, 12, 13, 14], [0, 1, 2, 3, 4, 5, 6, 7, 8, 9, 10, 11, 12, 13, 14, 15], [0, 1, 2, 3, 4, 5, 6, 7, 8, 9, 10, 11, 12, 13, 14, 15, 16], [0, 1, 2, 3, 4, 5, 6, 7, 8, 9, 10, 11, 12, 13, 14, 15, 16, 17], [0, 1, 2, 3, 4, 5, 6, 7, 8, 9, 10, 11, 12, 13, 14, 15, 16], [0, 1, 2, 3, 4, 5, 6, 7, 8, 9, 10, 11, 12, 13, 14, 15, 16, 17, 18, 19], [0, 1, 2, 3, 4, 5, 6, 7, 8, 9, 10, 11, 12, 13, 14, 15, 16, 17, 18, 19, 20], [0, 1, 2, 3, 4, 5, 6, 7, 8, 9, 10, 11, 12, 13, 14, 15, 16, 17, 18, 19, 20, 21], [0, 1, 2, 3, 4, 5, 6, 7, 8, 9, 10, 11, 12, 13, 14, 15, 16, 17, 18, 19, 20, 21, 22], [0, 1, 2, 3, 4, 5, 6, 7, 8, 9, 10, 11, 12, 13, 14, 15, 16, 17, 18, 19, 20, 21, 22], [0, 1, 2, 3, 4, 5, 6, 7, 8, 9, 10, 11, 12, 13, 14, 15, 16, 17, 18, 19, 20, 21, 22, 24], [0, 1, 2, 3, 4, 5, 6, 7, 8, 9, 10, 11, 12, 13, 14, 15, 16, 17, 18, 19, 20, 21, 22, 24, 25], [0, 1, 2, 3, 4, 5, 6, 7, 8, 9, 10, 11, 12, 13, 14, 15, 16, 17, 18, 19, 20, 21, 22, 23, 24, 25, 26], [0, 1, 2, 3, 4, 5, 6, 7, 8, 9, 10, 11, 12, 13, 14, 15, 16, 17, 18, 19, 20, 21, 22, 23, 24, 25, 26, 27], [0, 1, 2, 3, 4, 5, 6, 7, 8, 9, 10, 11, 12, 13, 14, 15, 16, 17, 18, 19, 20, 21, 22, 23, 24, 25, 26, 27, 28], [0, 1, 2, 3, 4, 5, 6, 7, 8, 9, 10, 11, 12, 13, 14, 15, 16, 17, 18, 19, 20, 21, 22, 23, 24, 25, 26, 27, 28, 29], [0, 1, 2, 3, 4, 5, 6, 7, 8, 9, 10, 11, 12, 13, 14, 15, 16, 17, 18, 19, 20, 21, 22, 23, 24, 25, 26, 27, 28, 29, 30], [0, 1, 2, 3, 4, 5, 6, 7, 8, 9, 10, 11, 12, 13, 14, 15, 16, 17, 18, 19, 20, 21, 22, 23, 24, 25, 26, 27, 28, 29, 30, 31], [0, 1, 2, 3, 4, 5, 6, 7, 8, 9, 10, 11, 12, 13, 14, 15, 16, 17, 18, 19, 20, 21, 22, 23, 24, 25, 26, 27, 28, 29, 30, 31, 32], [0, 1, 2, 3, 4, 5, 6, 7, 8, 9, 10, 11, 12, 13, 14, 15, 16, 17, 18, 19, 20, 21, 22, 23, 24, 25, 26, 27, 28, 29, 30, 31, 32, 33], [0, 1, 2, 3, 4, 5, 6, 7, 8, 9, 10, 11, 12, 13, 14, 15, 16, 17, 18, 19, 20, 21, 22, 23, 24, 25, 26, 27, 28, 29, 30, 31, 32, 33, 34], [0, 1, 2, 3, 4, 5, 6, 7, 8, 9, 10, 11, 12, 13, 14, 15, 16, 17, 18, 19, 20, 21, 22, 23, 24, 25, 26, 27, 28, 29, 30, 31, 32, 33, 34], [0, 1, 2, 3, 4, 5, 6, 7, 8, 9, 10, 11, 12, 13, 14, 15, 16, 17, 18, 19, 20, 21, 22, 23, 24, 25, 26, 27, 28, 29, 30, 31, 32, 33, 34], [0, 1, 2, 3, 4, 5, 6, 7, 8, 9, 10, 11, 12, 13, 14, 15, 16, 17, 18, 19, 20, 21, 22, 23, 24, 25, 26, 27, 28, 29, 30, 31, 32, 33, 34], [0, 1, 2, 3, 4, 5, 6, 7, 8, 9, 10, 11, 12, 13, 14, 15, 16, 17, 18, 19, 20, 21, 22, 23, 24, 25, 26, 27, 28, 29, 30, 31, 32, 33, 34], [0, 1, 2, 3, 4, 5, 6, 7, 8, 9, 10, 11, 12, 13, 14, 15, 16, 17, 18, 19, 20, 21, 22, 23, 24, 25, 26, 27, 28, 29, 30, 31, 32, 33, 34, 35, 36, 37, 38, 39], [0, 1, 2, 3, 4, 5, 6, 7, 8, 9, 10, 11, 12, 13, 14, 15, 16, 17, 18, 19, 20, 21, 22, 23, 24, 25, 26, 27, 28, 29, 30, 31, 32, 33, 34, 35, 36, 37, 38, 39, 40]]) [[0, 1, 2, 3, 4, 5, 6, 7, 8, 9, 10, 11, 12, 13, 14, 15, 16, 17, 18, 19, 20, 21, 22, 23, 24, 25, 26, 27, 28, 29, 30, 31, 32, 33, 34, 35, 36, 37, 38, 39, 40, 41]] (by kernel_rfl) (by kernel_rfl) (NoPanic.seq (NoPanic.block (NoPanic.seq (NoPanic.seq (NoPanic.block (NoPanic.seq (NoPanic.block (NoPanic.seq (NoPanic.seq (NoPanic.block (NoPanic.seq (NoPanic.block (NoPanic.seq (NoPanic.seq (NoPanic.block (NoPanic.seq (NoPanic.body))))))))))))))))) ?_
                        have hS11452 := hS11299.drew
                        revert hS11452
                        generalize World.drew w11298 = w11451
                        intro hS11452
                        refine ⟨⟨hS11452.cell 0 rfl 2 rfl, rowR.cell (rowO.rd (hS11452.own 9).1) 0 h11455.1 h11455.2 0 rfl, hS11452.cell 0 rfl 0 rfl, rowR.cell (rowO.rd (hS11452.own 10).1) 0 h11456.1 h11456.2 0 rfl, trivial⟩, forallC ?_ (forallN)⟩
                        refine segF 8 [.v (.int .i64 ((rdD t5823 x11284 z_Tile).S)), .v (.int .i64 (rdD t9717 x10904 0))] [2, 3, 4, 6, 8, 9, 10, 11, 13, 14, 15, 16, 17, 18, 19, 70] [(2, (.int .i64 p2)), (3, (.pointer (some ⟨g3187, 0, none⟩))), (4, (.pointer (some ⟨g3191, 0, none⟩))), (6, (.pointer (some ⟨g3195, 0, none⟩))), (8, (.slice A5828 t5823.length c5829)), (9, (.pointer (some ⟨g5830, 0, none⟩))), (10, (.int .i64 x9673)), (11, (.pointer (some ⟨g9691, 0, none⟩))), (13, (.slice A9722 t9717.length c9723)), (14, (.slice A9729 t9724.length c9730)), (15, (.int .i64 x10903)), (16, (.int .i64 x10904)), (17, (.int .i64 x11283)), (18, (.int .i64 x11284)), (19, (.pointer (some ⟨g11294, 0, none⟩))), (70, (.bool (((rdD t5823 x11284 z_Tile).S) == (rdD t9717 x10904 0))))] [.idx A9722 x10904 t9717.length] [0, 1] [(1, ⟨g11294, 2, none⟩, (.int .i64 ((rdD t5823 x11284 z_Tile).S))), (5, ((adr A9722).add ((x10904).toNat * 1)), (.int .i64 (rdD t9717 x10904 0)))] (fun fb => by kernel_rfl) rfl ⟨rowR.adr (rowO.rd (hS11452.own 9).1) h11455.1 h11455.2, trivial⟩ rfl ?_
                        refine WL.setB 70 h11384 rfl ?_
                        refine segF 17 [.v (.int .i64 ((rdD t5823 x11284 z_Tile).N)), .v (.int .i64 (rdD t9724 x10904 0))] [2, 3, 4, 6, 8, 9, 10, 11, 13, 14, 15, 16, 17, 18, 19, 79] [(2, (.int .i64 p2)), (3, (.pointer (some ⟨g3187, 0, none⟩))), (4, (.pointer (some ⟨g3191, 0, none⟩))), (6, (.pointer (some ⟨g3195, 0, none⟩))), (8, (.slice A5828 t5823.length c5829)), (9, (.pointer (some ⟨g5830, 0, none⟩))), (10, (.int .i64 x9673)), (11, (.pointer (some ⟨g9691, 0, none⟩))), (13, (.slice A9722 t9717.length c9723)), (14, (.slice A9729 t9724.length c9730)), (15, (.int .i64 x10903)), (16, (.int .i64 x10904)), (17, (.int .i64 x11283)), (18, (.int .i64 x11284)), (19, (.pointer (some ⟨g11294, 0, none⟩))), (79, (.bool (((rdD t5823 x11284 z_Tile).N) == (rdD t9724 x10904 0))))] [.idx A9729 x10904 t9724.length] [2, 3] [(9, ⟨g11294, 0, none⟩, (.int .i64 ((rdD t5823 x11284 z_Tile).N))), (13, ((adr A9729).add ((x10904).toNat * 1)), (.int .i64 (rdD t9724 x10904 0)))] (fun fb => by kernel_rfl) rfl ⟨rowR.adr (rowO.rd (hS11452.own 10).1) h11456.1 h11456.2, trivial⟩ rfl ?_
                        refine WL.setB 79 h11387 rfl ?_
                        refine seg 42 [] [2, 3, 4, 6, 8, 9, 10, 11, 13, 14, 15, 16, 17, 18, 104] [(2, (.int .i64 p2)), (3, (.pointer (some ⟨g3187, 0, none⟩))), (4, (.pointer (some ⟨g3191, 0, none⟩))), (6, (.pointer (some ⟨g3195, 0, none⟩))), (8, (.slice A5828 t5823.length c5829)), (9, (.pointer (some ⟨g5830, 0, none⟩))), (10, (.int .i64 x9673)), (11, (.pointer (some ⟨g9691, 0, none⟩))), (13, (.slice A9722 t9717.length c9723)), (14, (.slice A9729 t9724.length c9730)), (15, (.int .i64 x10903)), (16, (.int .i64 x10904)), (17, (.int .i64 x11283)), (18, (.int .i64 x11284)), (104, (.bool false))] [] (fun fb => by kernel_rfl) rfl trivial ?_
                        refine WL.done rfl ?_
                        injection hx11382 with hx11382
                        exact WX.to Kx11381 false [2, 3, 4, 6, 8, 9, 10, 11, 13, 14, 15, 16, 17, 18, 104] rfl ⟨(hS11452.subR [0, 1, 2]).sub [1, 2, 3, 4, 5, 6, 7, 8, 9, 10] (by decide), hx11382.symm⟩
                      obtain ⟨h11461, hx11382⟩ := as_some hx11382
                      refine WC.regionD ([(1, ⟨g11294, 2, none⟩, (.int .i64 ((rdD t5823 x11284 z_Tile).S))), (5, ((adr A9722).add ((x10904).toNat * 1)), (.int .i64 (rdD t9717 x10904 0)))], [0, 1, 2, 3, 4, 5, 6, 7, 8, 9, 10, 11, 12, 13, 14, 15, 16, 17, 18, 19, 20, 21, 22, 23, 24, 25, 26, 27, 28, 29, 30, 31, 32, 33, 34, 35, 36, 37, 38, 39, 41], [[], [0], [], [], [2, 3], [2, 3, 4], [0, 1, 2, 3, 4, 5], [0, 1, 2, 3, 4, 5, 6], [0, 1, 2, 3, 4, 5, 6, 7], [0, 1, 2, 3, 4, 5, 6, 7, 8], [0, 1, 2, 3, 4, 5, 6, 7], [0, 1, 2, 3, 4, 5, 6, 7], [0, 1, 2, 3, 4, 5, 6, 7, 10, 11], [0, 1, 2, 3, 4, 5, 6, 7, 10, 11, 12], [0, 1, 2, 3, 4, 5, 6, 7, 8, 9, 10, 11, 12, 13], [0, 1, 2, 3, 4, 5, 6, 7, 8, 9, 10, 11, 12, 13, 14], [0, 1, 2, 3, 4, 5, 6, 7, 8, 9, 10, 11, 12, 13, 14, 15], [0, 1, 2, 3, 4, 5, 6, 7, 8, 9, 10, 11, 12, 13, 14, 15, 16], [0, 1, 2, 3, 4, 5, 6, 7, 8, 9, 10, 11, 12, 13, 14, 15, 16, 17], [0, 1, 2, 3, 4, 5, 6, 7, 8, 9, 10, 11, 12, 13, 14, 15, 16], [0, 1, 2, 3, 4, 5, 6, 7, 8, 9, 10, 11, 12, 13, 14, 15, 16, 17, 18, 19], [0, 1, 2, 3, 4, 5, 6, 7, 8, 9, 10, 11, 12, 13, 14, 15, 16, 17, 18, 19, 20], [0, 1, 2, 3, 4, 5, 6, 7, 8, 9, 10, 11, 12, 13, 14, 15, 16, 17, 18, 19, 20, 21], [0, 1, 2, 3, 4, 5, 6, 7, 8, 9, 10, 11, 12, 13, 14, 15, 16, 17, 18, 19, 20, 21, 22], [0, 1, 2, 3, 4, 5, 6, 7, 8, 9, 10, 11, 12, 13, 14, 15, 16, 17, 18, 19, 20, 21, 22], [0, 1, 2, 3, 4, 5, 6, 7, 8, 9, 10, 11, 12, 13, 14, 15, 16, 17, 18, 19, 20, 21, 22, 24], [0, 1, 2, 3, 4, 5, 6, 7, 8, 9, 10, 11, 12, 13, 14, 15, 16, 17, 18, 19, 20, 21, 22, 24, 25], [0, 1, 2, 3, 4, 5, 6, 7, 8, 9, 10, 11, 12, 13, 14, 15, 16, 17, 18, 19, 20, 21, 22, 23, 24, 25, 26], [0, 1, 2, 3, 4, 5, 6, 7, 8, 9, 10, 11, 12, 13, 14, 15, 16, 17, 18, 19, 20, 21, 22, 23, 24, 25, 26, 27], [0, 1, 2, 3, 4, 5, 6, 7, 8, 9, 10, 11, 12, 13, 14, 15, 16, 17, 18, 19, 20, 21, 22, 23, 24, 25, 26, 27, 28], [0, 1, 2, 3, 4, 5, 6, 7, 8, 9, 10, 11, 12, 13, 14, 15, 16, 17, 18, 19, 20, 21, 22, 23, 24, 25, 26, 27, 28, 29], [0, 1, 2, 3, 4, 5, 6, 7, 8, 9, 10, 11, 12, 13, 14, 15, 16, 17, 18, 19, 20, 21, 22, 23, 24, 25, 26, 27, 28, 29, 30], [0, 1, 2, 3, 4, 5, 6, 7, 8, 9, 10, 11, 12, 13, 14, 15, 16, 17, 18, 19, 20, 21, 22, 23, 24, 25, 26, 27, 28, 29, 30, 31], [0, 1, 2, 3, 4, 5, 6, 7, 8, 9, 10, 11, 12, 13, 14, 15, 16, 17, 18, 19, 20, 21, 22, 23, 24, 25, 26, 27, 28, 29, 30, 31, 32], [0, 1, 2, 3, 4, 5, 6, 7, 8, 9, 10, 11, 12, 13, 14, 15, 16, 17, 18, 19, 20, 21, 22, 23, 24, 25, 26, 27, 28, 29, 30, 31, 32, 33], [0, 1, 2, 3, 4, 5, 6, 7, 8, 9, 10, 11, 12, 13, 14, 15, 16, 17, 18, 19, 20, 21, 22, 23, 24, 25, 26, 27, 28, 29, 30, 31, 32, 33, 34], [0, 1, 2, 3, 4, 5, 6, 7, 8, 9, 10, 11, 12, 13, 14, 15, 16, 17, 18, 19, 20, 21, 22, 23, 24, 25, 26, 27, 28, 29, 30, 31, 32, 33, 34], [0, 1, 2, 3, 4, 5, 6, 7, 8, 9, 10, 11, 12, 13, 14, 15, 16, 17, 18, 19, 20, 21, 22, 23, 24, 25, 26, 27, 28, 29, 30, 31, 32, 33, 34], [0, 1, 2, 3, 4, 5, 6, 7, 8, 9, 10, 11, 12, 13, 14, 15, 16, 17, 18, 19, 20, 21, 22, 23, 24, 25, 26, 27, 28, 29, 30, 31, 32, 33, 34], [0, 1, 2, 3, 4, 5, 6, 7, 8, 9, 10, 11, 12, 13, 14, 15, 16, 17, 18, 19, 20, 21, 22, 23, 24, 25, 26, 27, 28, 29, 30, 31, 32, 33, 34], [0, 1, 2, 3, 4, 5, 6, 7, 8, 9, 10, 11, 12, 13, 14, 15, 16, 17, 18, 19, 20, 21, 22, 23, 24, 25, 26, 27, 28, 29, 30, 31, 32, 33, 34, 35, 36, 37, 38, 39], [0, 1, 2, 3, 4, 5, 6, 7, 8, 9, 10, 11, 12, 13, 14, 15, 16, 17, 18, 19, 20, 21, 22, 23, 24, 25, 26, 27, 28, 29, 30, 31, 32, 33, 34, 35, 36, 37, 38, 39, 40]]) [[0, 1, 2, 3, 4, 5, 6, 7, 8, 9, 10, 11, 12, 13, 14, 15, 16, 17, 18, 19, 20, 21, 22, 23, 24, 25, 26, 27, 28, 29, 30, 31, 32, 33, 34, 35, 36, 37, 38, 39, 40, 41]] (by kernel_rfl) (by kernel_rfl) (NoPanic.seq (NoPanic.block (NoPanic.seq (NoPanic.seq (NoPanic.block (NoPanic.seq (NoPanic.block (NoPanic.seq (NoPanic.seq (NoPanic.block (NoPanic.seq (NoPanic.block (NoPanic.seq (NoPanic.seq (NoPanic.block (NoPanic.seq (NoPanic.body))))))))))))))))) ?_
                      have hS11459 := hS11299.drew
                      revert hS11459
                      generalize World.drew w11298 = w11458
                      intro hS11459
                      refine ⟨⟨hS11459.cell 0 rfl 2 rfl, rowR.cell (rowO.rd (hS11459.own 9).1) 0 h11461.1 h11461.2 0 rfl, trivial⟩, forallC ?_ (forallN)⟩
                      refine segF 8 [.v (.int .i64 ((rdD t5823 x11284 z_Tile).S)), .v (.int .i64 (rdD t9717 x10904 0))] [2, 3, 4, 6, 8, 9, 10, 11, 13, 14, 15, 16, 17, 18, 19, 70] [(2, (.int .i64 p2)), (3, (.pointer (some ⟨g3187, 0, none⟩))), (4, (.pointer (some ⟨g3191, 0, none⟩))), (6, (.pointer (some ⟨g3195, 0, none⟩))), (8, (.slice A5828 t5823.length c5829)), (9, (.pointer (some ⟨g5830, 0, none⟩))), (10, (.int .i64 x9673)), (11, (.pointer (some ⟨g9691, 0, none⟩))), (13, (.slice A9722 t9717.length c9723)), (14, (.slice A9729 t9724.length c9730)), (15, (.int .i64 x10903)), (16, (.int .i64 x10904)), (17, (.int .i64 x11283)), (18, (.int .i64 x11284)), (19, (.pointer (some ⟨g11294, 0, none⟩))), (70, (.bool (((rdD t5823 x11284 z_Tile).S) == (rdD t9717 x10904 0))))] [.idx A9722 x10904 t9717.length] [0, 1] [(1, ⟨g11294, 2, none⟩, (.int .i64 ((rdD t5823 x11284 z_Tile).S))), (5, ((adr A9722).add ((x10904).toNat * 1)), (.int .i64 (rdD t9717 x10904 0)))] (fun fb => by kernel_rfl) rfl ⟨rowR.adr (rowO.rd (hS11459.own 9).1) h11461.1 h11461.2, trivial⟩ rfl ?_
                      refine WL.setB 70 h11384 rfl ?_
                      refine seg 42 [] [2, 3, 4, 6, 8, 9, 10, 11, 13, 14, 15, 16, 17, 18, 104] [(2, (.int .i64 p2)), (3, (.pointer (some ⟨g3187, 0, none⟩))), (4, (.pointer (some ⟨g3191, 0, none⟩))), (6, (.pointer (some ⟨g3195, 0, none⟩))), (8, (.slice A5828 t5823.length c5829)), (9, (.pointer (some ⟨g5830, 0, none⟩))), (10, (.int .i64 x9673)), (11, (.pointer (some ⟨g9691, 0, none⟩))), (13, (.slice A9722 t9717.length c9723)), (14, (.slice A9729 t9724.length c9730)), (15, (.int .i64 x10903)), (16, (.int .i64 x10904)), (17, (.int .i64 x11283)), (18, (.int .i64 x11284)), (104, (.bool false))] [] (fun fb => by kernel_rfl) rfl trivial ?_
                      refine WL.done rfl ?_
                      injection hx11382 with hx11382
                      exact WX.to Kx11381 false [2, 3, 4, 6, 8, 9, 10, 11, 13, 14, 15, 16, 17, 18, 104] rfl ⟨(hS11459.subR [0, 1, 2]).sub [1, 2, 3, 4, 5, 6, 7, 8, 9, 10] (by decide), hx11382.symm⟩
                    rintro y11465 w11462 ⟨hS11463, hq11464⟩
                    subst hq11464
                    refine WX.next ?_
                    obtain ⟨x11468, hx11469, hl11291⟩ := bind_some hl11291
                    refine WC.cutN (T := Int) (fun t => [(2, (.int .i64 p2)), (3, (.pointer (some ⟨g3187, 0, none⟩))), (4, (.pointer (some ⟨g3191, 0, none⟩))), (6, (.pointer (some ⟨g3195, 0, none⟩))), (8, (.slice A5828 t5823.length c5829)), (9, (.pointer (some ⟨g5830, 0, none⟩))), (10, (.int .i64 x9673)), (11, (.pointer (some ⟨g9691, 0, none⟩))), (13, (.slice A9722 t9717.length c9723)), (14, (.slice A9729 t9724.length c9730)), (15, (.int .i64 x10903)), (16, (.int .i64 x10904)), (17, (.int .i64 t)), (18, (.int .i64 x11284))]) (fun t w1 => St NoS w w1 [rowR encInt A9667 c9668 l9669, rowR enc_Action A_p0_Actions c_p0_Actions p0.Actions, rowR encInt A_p1_Cells c_p1_Cells p1.Cells] [blk g3187 (.cells #[(.int .i64 p0.States), (.int .i64 p0.Symbols), (.slice A_p0_Actions p0.Actions.length c_p0_Actions)] 24 (0, 0)), blk g3191 (.cells #[(.int .i64 x9665), (.int .i64 x9666), (.slice A9667 l9669.length c9668)] 27 (0, 0)), blk g3195 (.cells #[(.int .i64 0), (.int .i64 0), (.slice none 0 0)] 31 (0, 0)), rowO 65 enc_Tile A5828 c5829 t5823, blk g5830 (.cells #[(.int .i64 (p1.Cells.length : Int)), (.int .i64 p2), (.slice A10900 l10902.length c10901)] 31 (0, 0)), rowO 3 encInt A10900 c10901 l10902, blk g9691 (.cells #[(.int .i64 t9684.1.State), (.int .i64 t9684.1.At), (.slice A9689 t9684.1.Cells.length c9690)] 27 (0, 0)), rowO 3 encInt A9689 c9690 t9684.1.Cells, rowO 3 encInt A9722 c9723 t9717, rowO 3 encInt A9729 c9730 t9724] ∧ x11468 = t) (fun Kx11468 => ?_) ?_
                    ·
                      rcases br_some hx11469 with ⟨h11470, hx11469⟩ | ⟨h11470, hx11469⟩
                      · refine WC.condT2 (fun fb => by kernel_rfl) h11470 ?_
                        refine WC.region ?_
                        refine seg 2 [] [2, 3, 4, 6, 8, 9, 10, 11, 13, 14, 15, 16, 17, 18] [(2, (.int .i64 p2)), (3, (.pointer (some ⟨g3187, 0, none⟩))), (4, (.pointer (some ⟨g3191, 0, none⟩))), (6, (.pointer (some ⟨g3195, 0, none⟩))), (8, (.slice A5828 t5823.length c5829)), (9, (.pointer (some ⟨g5830, 0, none⟩))), (10, (.int .i64 x9673)), (11, (.pointer (some ⟨g9691, 0, none⟩))), (13, (.slice A9722 t9717.length c9723)), (14, (.slice A9729 t9724.length c9730)), (15, (.int .i64 x10903)), (16, (.int .i64 x10904)), (17, (.int .i64 x11284)), (18, (.int .i64 x11284))] [] (fun fb => by kernel_rfl) rfl trivial ?_
                        refine WL.done rfl ?_
                        injection hx11469 with hx11469
                        exact WX.to Kx11468 x11284 [2, 3, 4, 6, 8, 9, 10, 11, 13, 14, 15, 16, 17, 18] rfl ⟨(hS11463.subR [0, 1, 2]).sub [0, 1, 2, 3, 4, 5, 6, 7, 8, 9] (by decide), hx11469.symm⟩
                      refine WC.condF2 (fun fb => by kernel_rfl) h11470 ?_
                      refine WC.skip ?_
                      injection hx11469 with hx11469
                      exact WX.to Kx11468 x11283 [2, 3, 4, 6, 8, 9, 10, 11, 13, 14, 15, 16, 17, 18] rfl ⟨(hS11463.subR [0, 1, 2]).sub [0, 1, 2, 3, 4, 5, 6, 7, 8, 9] (by decide), hx11469.symm⟩
                    rintro y11474 w11471 ⟨hS11472, hq11473⟩
                    subst hq11473
                    refine WX.blockN (WX.next ?_)
                    refine WC.region ?_
                    refine seg 3 [] [2, 3, 4, 6, 8, 9, 10, 11, 13, 14, 15, 16, 17, 18] [(2, (.int .i64 p2)), (3, (.pointer (some ⟨g3187, 0, none⟩))), (4, (.pointer (some ⟨g3191, 0, none⟩))), (6, (.pointer (some ⟨g3195, 0, none⟩))), (8, (.slice A5828 t5823.length c5829)), (9, (.pointer (some ⟨g5830, 0, none⟩))), (10, (.int .i64 x9673)), (11, (.pointer (some ⟨g9691, 0, none⟩))), (13, (.slice A9722 t9717.length c9723)), (14, (.slice A9729 t9724.length c9730)), (15, (.int .i64 x10903)), (16, (.int .i64 x10904)), (17, (.int .i64 x11468)), (18, (.int .i64 (w64 (x11284 + 1))))] [] (fun fb => by kernel_rfl) rfl trivial ?_
                    refine WL.done rfl ?_
                    exact WX.again k11288 (Nat.lt_succ_self _) (x11468, w64 (x11284 + 1)) [2, 3, 4, 6, 8, 9, 10, 11, 13, 14, 15, 16, 17, 18] rfl ⟨(hS11472.subR [0, 1, 2]).sub [0, 1, 2, 3, 4, 5, 6, 7, 8, 9] (by decide), hl11291⟩
                  refine WC.condF2 (fun fb => by kernel_rfl) h11292 ?_
                  refine WC.exit ?_
                  injection hl11291 with hl11291
                  exact WX.thenX (WX.thenX (WX.blockHere (WX.to Kx11286 x11283 [2, 3, 4, 6, 8, 9, 10, 11, 13, 14, 16, 17] rfl ⟨(hS11290.subR [0, 1, 2]).sub [0, 1, 2, 3, 4, 5, 6, 7, 8, 9] (by decide), hl11291.symm⟩)))
              rintro y11478 w11475 ⟨hS11476, hq11477⟩
              subst hq11477
              refine WX.next ?_
              refine WC.seq ?_
              refine WC.seq ?_
              refine WC.region ?_
              refine seg 2 [] [2, 3, 4, 6, 8, 9, 10, 11, 13, 14, 16, 17, 107] [(2, (.int .i64 p2)), (3, (.pointer (some ⟨g3187, 0, none⟩))), (4, (.pointer (some ⟨g3191, 0, none⟩))), (6, (.pointer (some ⟨g3195, 0, none⟩))), (8, (.slice A5828 t5823.length c5829)), (9, (.pointer (some ⟨g5830, 0, none⟩))), (10, (.int .i64 x9673)), (11, (.pointer (some ⟨g9691, 0, none⟩))), (13, (.slice A9722 t9717.length c9723)), (14, (.slice A9729 t9724.length c9730)), (16, (.int .i64 x10904)), (17, (.int .i64 x11286)), (107, (.bool (decide (x11286 < 0))))] [] (fun fb => by kernel_rfl) rfl trivial ?_
              refine WL.done rfl ?_
              refine WX.next ?_
              rcases br_some hl10913 with ⟨h11479, hl10913⟩ | ⟨h11479, hl10913⟩
              · refine WC.condT2 (fun fb => by kernel_rfl) h11479 ?_
                refine WC.seq ?_
                refine WC.region ?_
                refine seg 1 [] [6, 108] [(6, (.pointer (some ⟨g3195, 0, none⟩))), (108, (.agg #[(.int .i64 0), (.int .i64 0), (.slice none 0 0)]))] [] (fun fb => by kernel_rfl) rfl trivial ?_
                refine WL.store hS11476 2 rfl [(0, (.int .i64 0)), (1, (.int .i64 0)), (2, (.slice none 0 0))] #[(.int .i64 0), (.int .i64 0), (.slice none 0 0)] (fun fb => by kernel_rfl) (by kernel_rfl) rfl [0, 1, 3, 4, 5, 6, 7, 8, 9] (by decide) (by decide) (fun w11480 hS11481 => ?_)
                refine ⟨trivial, ?_⟩
                refine seg 3 [] [6, 7] [(6, (.pointer (some ⟨g3195, 0, none⟩))), (7, (.bool false))] [] (fun fb => by kernel_rfl) rfl trivial ?_
                refine WL.done rfl ?_
                refine WX.next ?_
                refine WC.ret ?_
                have hS11482 := hS11481.nilrow 3 encInt
                injection hl10913 with hl10913
                subst hl10913
                injection hl9682 with hl9682
                subst hl9682
                injection hf with hf
                subst hf
                exact WX.thenR (WX.blockR (WX.thenR (WX.thenR (WX.blockR (WX.thenR (WX.blockR (WX.thenR (WX.thenR (WX.blockR (WX.thenR (WX.ret_ [.v (.int .i64 0), .v (.int .i64 0), .v (.slice none 0 0)] (.tuple #[(.agg #[(.int .i64 0), (.int .i64 0), (.slice none ([] : List Int).length 0)]), (.bool false)]) [.cell ⟨g3195, 0, none⟩ (.int .i64 0), .cell ⟨g3195, 1, none⟩ (.int .i64 0), .cell ⟨g3195, 2, none⟩ (.slice none 0 0)] (fun fb => by kernel_rfl) ⟨hS11481.cell 0 rfl 0 rfl, hS11481.cell 0 rfl 1 rfl, hS11481.cell 0 rfl 2 rfl, trivial⟩ ⟨_, rfl, none, 0, rfl, (hS11482.sub [0] (by decide)).noR⟩)))))))))))
              refine WC.condF2 (fun fb => by kernel_rfl) h11479 ?_
              refine WC.skip ?_
              refine WX.next ?_
              refine WC.seq ?_
              refine WC.region ?_
              refine seg 2 [] [2, 3, 4, 6, 8, 9, 10, 11, 13, 14, 16, 17, 109, 110] [(2, (.int .i64 p2)), (3, (.pointer (some ⟨g3187, 0, none⟩))), (4, (.pointer (some ⟨g3191, 0, none⟩))), (6, (.pointer (some ⟨g3195, 0, none⟩))), (8, (.slice A5828 t5823.length c5829)), (9, (.pointer (some ⟨g5830, 0, none⟩))), (10, (.int .i64 x9673)), (11, (.pointer (some ⟨g9691, 0, none⟩))), (13, (.slice A9722 t9717.length c9723)), (14, (.slice A9729 t9724.length c9730)), (16, (.int .i64 x10904)), (17, (.int .i64 x11286)), (109, (.slice A5828 t5823.length c5829)), (110, (.int .i64 x11286))] [] (fun fb => by kernel_rfl) rfl trivial ?_
              obtain ⟨h11483, hl10913⟩ := as_some hl10913
              refine seg 6 [.v (.int .i64 ((rdD t5823 x11286 z_Tile).E))] [2, 3, 4, 6, 8, 9, 10, 11, 13, 14, 15, 16, 17] [(2, (.int .i64 p2)), (3, (.pointer (some ⟨g3187, 0, none⟩))), (4, (.pointer (some ⟨g3191, 0, none⟩))), (6, (.pointer (some ⟨g3195, 0, none⟩))), (8, (.slice A5828 t5823.length c5829)), (9, (.pointer (some ⟨g5830, 0, none⟩))), (10, (.int .i64 x9673)), (11, (.pointer (some ⟨g9691, 0, none⟩))), (13, (.slice A9722 t9717.length c9723)), (14, (.slice A9729 t9724.length c9730)), (15, (.int .i64 ((rdD t5823 x11286 z_Tile).E))), (16, (.int .i64 x10904)), (17, (.int .i64 x11286))] [.idx A5828 x11286 t5823.length, .cell (((adr A5828).add ((x11286).toNat * 4)).add 1) (.int .i64 ((rdD t5823 x11286 z_Tile).E))] (fun fb => by kernel_rfl) rfl ⟨rowR.adr (rowO.rd (hS11476.own 3).1) h11483.1 h11483.2, rowR.cell (rowO.rd (hS11476.own 3).1) z_Tile h11483.1 h11483.2 1 rfl, trivial⟩ ?_
              refine WL.done rfl ?_
              refine WX.next ?_
              refine WC.region ?_
              refine seg 3 [.v (.slice A10900 l10902.length c10901)] [2, 3, 4, 6, 8, 9, 10, 11, 13, 14, 15, 16, 115, 116] [(2, (.int .i64 p2)), (3, (.pointer (some ⟨g3187, 0, none⟩))), (4, (.pointer (some ⟨g3191, 0, none⟩))), (6, (.pointer (some ⟨g3195, 0, none⟩))), (8, (.slice A5828 t5823.length c5829)), (9, (.pointer (some ⟨g5830, 0, none⟩))), (10, (.int .i64 x9673)), (11, (.pointer (some ⟨g9691, 0, none⟩))), (13, (.slice A9722 t9717.length c9723)), (14, (.slice A9729 t9724.length c9730)), (15, (.int .i64 ((rdD t5823 x11286 z_Tile).E))), (16, (.int .i64 x10904)), (115, (.slice A10900 l10902.length c10901)), (116, (.int .i64 x11286))] [.cell ⟨g5830, 2, none⟩ (.slice A10900 l10902.length c10901)] (fun fb => by kernel_rfl) rfl ⟨hS11476.cell 4 rfl 2 rfl, trivial⟩ ?_
              refine WL.new hS11476 117 [] (fun g => (.slice (some ⟨g, 0, none⟩) 1 1)) (.cells #[(.int .i64 x11286)] 3 (0, 0)) [] (fun fb g => by kernel_rfl) trivial (fun g11484 w11485 hS11486 => ?_)
              refine ⟨trivial, ?_⟩
              have hS11488 : St NoS w w11485 [rowR encInt A9667 c9668 l9669, rowR enc_Action A_p0_Actions c_p0_Actions p0.Actions, rowR encInt A_p1_Cells c_p1_Cells p1.Cells] [rowO 3 encInt (some ⟨g11484, 0, none⟩) 1 [x11286], blk g3187 (.cells #[(.int .i64 p0.States), (.int .i64 p0.Symbols), (.slice A_p0_Actions p0.Actions.length c_p0_Actions)] 24 (0, 0)), blk g3191 (.cells #[(.int .i64 x9665), (.int .i64 x9666), (.slice A9667 l9669.length c9668)] 27 (0, 0)), blk g3195 (.cells #[(.int .i64 0), (.int .i64 0), (.slice none 0 0)] 31 (0, 0)), rowO 65 enc_Tile A5828 c5829 t5823, blk g5830 (.cells #[(.int .i64 (p1.Cells.length : Int)), (.int .i64 p2), (.slice A10900 l10902.length c10901)] 31 (0, 0)), rowO 3 encInt A10900 c10901 l10902, blk g9691 (.cells #[(.int .i64 t9684.1.State), (.int .i64 t9684.1.At), (.slice A9689 t9684.1.Cells.length c9690)] 27 (0, 0)), rowO 3 encInt A9689 c9690 t9684.1.Cells, rowO 3 encInt A9722 c9723 t9717, rowO 3 encInt A9729 c9730 t9724] := hS11486.map1 0 _ (fun h => rowO.ofBlk h rfl (Nat.le_of_ble_eq_true (by kernel_rfl))) (fun _ h => by obtain ⟨_, h1, h2⟩ := h; injection h1 with h1; subst h1; exact h2) [1, 2, 3, 4, 5, 6, 7, 8, 9, 10] (by decide) (by decide)
              obtain ⟨h11489, hl10913⟩ := as_some hl10913
              refine WL.append hS11488 6 (d := 118) (tS := 25) (z := (.int .i64 0)) (bytes := 8) (c2 := 1) rfl (fun fb => by kernel_rfl) (rowO.rd (hS11488.own 0).1) (by kernel_rfl) (by kernel_rfl) rfl (by decide) h11489 (by decide) [0, 1, 2, 3, 4, 5, 7, 8, 9, 10] (by decide) (by decide) (fun A11490 c11491 w11492 hS11493 => ?_)
              refine ⟨trivial, ?_⟩
              refine seg 6 [] [2, 3, 4, 6, 8, 9, 10, 11, 13, 14, 15, 16, 118, 119] [(2, (.int .i64 p2)), (3, (.pointer (some ⟨g3187, 0, none⟩))), (4, (.pointer (some ⟨g3191, 0, none⟩))), (6, (.pointer (some ⟨g3195, 0, none⟩))), (8, (.slice A5828 t5823.length c5829)), (9, (.pointer (some ⟨g5830, 0, none⟩))), (10, (.int .i64 x9673)), (11, (.pointer (some ⟨g9691, 0, none⟩))), (13, (.slice A9722 t9717.length c9723)), (14, (.slice A9729 t9724.length c9730)), (15, (.int .i64 ((rdD t5823 x11286 z_Tile).E))), (16, (.int .i64 x10904)), (118, (.slice A11490 (l10902 ++ [x11286]).length c11491)), (119, (.pointer (some ⟨g5830, 2, none⟩)))] [] (fun fb => by kernel_rfl) rfl trivial ?_
              refine WL.store hS11493 6 rfl [(2, (.slice A11490 (l10902 ++ [x11286]).length c11491))] #[(.int .i64 (p1.Cells.length : Int)), (.int .i64 p2), (.slice A11490 (l10902 ++ [x11286]).length c11491)] (fun fb => by kernel_rfl) (by kernel_rfl) rfl [0, 1, 2, 3, 4, 5, 7, 8, 9, 10] (by decide) (by decide) (fun w11494 hS11495 => ?_)
              refine ⟨trivial, ?_⟩
              refine WL.done rfl ?_
              refine WX.blockN (WX.next ?_)
              refine WC.region ?_
              refine seg 3 [] [2, 3, 4, 6, 8, 9, 10, 11, 13, 14, 15, 16] [(2, (.int .i64 p2)), (3, (.pointer (some ⟨g3187, 0, none⟩))), (4, (.pointer (some ⟨g3191, 0, none⟩))), (6, (.pointer (some ⟨g3195, 0, none⟩))), (8, (.slice A5828 t5823.length c5829)), (9, (.pointer (some ⟨g5830, 0, none⟩))), (10, (.int .i64 x9673)), (11, (.pointer (some ⟨g9691, 0, none⟩))), (13, (.slice A9722 t9717.length c9723)), (14, (.slice A9729 t9724.length c9730)), (15, (.int .i64 ((rdD t5823 x11286 z_Tile).E))), (16, (.int .i64 (w64 (x10904 + 1))))] [] (fun fb => by kernel_rfl) rfl trivial ?_
              refine WL.done rfl ?_
              exact WX.again k10910 (Nat.lt_succ_self _) ((l10902 ++ [x11286], (rdD t5823 x11286 z_Tile).E, w64 (x10904 + 1)), A11490, c11491) [2, 3, 4, 6, 8, 9, 10, 11, 13, 14, 15, 16] rfl ⟨(hS11495.subR [0, 1, 2]).sub [3, 4, 5, 6, 0, 1, 7, 8, 9, 10] (by decide), hl10913⟩
            refine WC.condF2 (fun fb => by kernel_rfl) h10914 ?_
            refine WC.exit ?_
            injection hl10913 with hl10913
            exact WX.thenX (WX.thenX (WX.blockHere (WX.to Kx10908 (l10902, A10900, c10901) [2, 3, 4, 6, 8, 9, 10, 11] rfl ⟨(hS10912.subR [0, 1, 2]).sub [0, 1, 2, 3, 4, 5, 6, 7] (by decide), hl10913.symm⟩)))
        rintro ⟨y11499, A10905, c10906⟩ w11496 ⟨hS11497, hq11498⟩
        subst hq11498
        have hl9682 := sum_inr hl9682
        refine WX.next ?_
        refine WC.region ?_
        refine seg 1 [.v (.int .i64 t9684.1.State), .v (.int .i64 t9684.1.At), .v (.slice A9689 t9684.1.Cells.length c9690)] [2, 3, 4, 6, 8, 9, 10, 120] [(2, (.int .i64 p2)), (3, (.pointer (some ⟨g3187, 0, none⟩))), (4, (.pointer (some ⟨g3191, 0, none⟩))), (6, (.pointer (some ⟨g3195, 0, none⟩))), (8, (.slice A5828 t5823.length c5829)), (9, (.pointer (some ⟨g5830, 0, none⟩))), (10, (.int .i64 x9673)), (120, (.agg #[(.int .i64 t9684.1.State), (.int .i64 t9684.1.At), (.slice A9689 t9684.1.Cells.length c9690)]))] [.cell ⟨g9691, 0, none⟩ (.int .i64 t9684.1.State), .cell ⟨g9691, 1, none⟩ (.int .i64 t9684.1.At), .cell ⟨g9691, 2, none⟩ (.slice A9689 t9684.1.Cells.length c9690)] (fun fb => by kernel_rfl) rfl ⟨hS11497.cell 6 rfl 0 rfl, hS11497.cell 6 rfl 1 rfl, hS11497.cell 6 rfl 2 rfl, trivial⟩ ?_
        refine WL.store hS11497 1 rfl [(0, (.int .i64 t9684.1.State)), (1, (.int .i64 t9684.1.At)), (2, (.slice A9689 t9684.1.Cells.length c9690))] #[(.int .i64 t9684.1.State), (.int .i64 t9684.1.At), (.slice A9689 t9684.1.Cells.length c9690)] (fun fb => by kernel_rfl) (by kernel_rfl) rfl [0, 2, 3, 4, 5, 6, 7] (by decide) (by decide) (fun w11501 hS11502 => ?_)
        refine ⟨trivial, ?_⟩
        refine WL.done rfl ?_
        refine WX.blockN (WX.next ?_)
        refine WC.region ?_
        refine seg 3 [] [2, 3, 4, 6, 8, 9, 10] [(2, (.int .i64 p2)), (3, (.pointer (some ⟨g3187, 0, none⟩))), (4, (.pointer (some ⟨g3191, 0, none⟩))), (6, (.pointer (some ⟨g3195, 0, none⟩))), (8, (.slice A5828 t5823.length c5829)), (9, (.pointer (some ⟨g5830, 0, none⟩))), (10, (.int .i64 (w64 (x9673 + 1))))] [] (fun fb => by kernel_rfl) rfl trivial ?_
        refine WL.done rfl ?_
        have hS11503 := hS11502.freezeRow 7 rfl [0, 1, 2, 3, 4, 5, 6] (by decide) (by decide)
        exact WX.again k9679 (Nat.lt_succ_self _) ((t9684.1.State, t9684.1.At, t9684.1.Cells, y11499, w64 (x9673 + 1)), A9689, c9690, A10905, c10906) [2, 3, 4, 6, 8, 9, 10] rfl ⟨(hS11503.subR [0, 2, 3]).sub [1, 0, 2, 3, 4, 5] (by decide), hl9682⟩
      refine WC.condF2 (fun fb => by kernel_rfl) h9683 ?_
      refine WC.exit ?_
      injection hl9682 with hl9682
      exact WX.thenX (WX.thenX (WX.blockHere (WX.to Kx9677 (l9672, A9670, c9671) [6, 9] rfl ⟨(hS9681.subR [1, 2]).sub [2, 4, 5] (by decide), hl9682.symm⟩)))
  rintro ⟨y11507, A9674, c9675⟩ w11504 ⟨hS11505, hq11506⟩
  subst hq11506
  have hf := sum_inr hf
  refine WX.next ?_
  refine WC.seq ?_
  refine WC.region ?_
  refine seg 1 [.v (.int .i64 (p1.Cells.length : Int)), .v (.int .i64 p2), .v (.slice A9674 y11507.length c9675)] [6, 121] [(6, (.pointer (some ⟨g3195, 0, none⟩))), (121, (.agg #[(.int .i64 (p1.Cells.length : Int)), (.int .i64 p2), (.slice A9674 y11507.length c9675)]))] [.cell ⟨g5830, 0, none⟩ (.int .i64 (p1.Cells.length : Int)), .cell ⟨g5830, 1, none⟩ (.int .i64 p2), .cell ⟨g5830, 2, none⟩ (.slice A9674 y11507.length c9675)] (fun fb => by kernel_rfl) rfl ⟨hS11505.cell 1 rfl 0 rfl, hS11505.cell 1 rfl 1 rfl, hS11505.cell 1 rfl 2 rfl, trivial⟩ ?_
  refine WL.store hS11505 0 rfl [(0, (.int .i64 (p1.Cells.length : Int))), (1, (.int .i64 p2)), (2, (.slice A9674 y11507.length c9675))] #[(.int .i64 (p1.Cells.length : Int)), (.int .i64 p2), (.slice A9674 y11507.length c9675)] (fun fb => by kernel_rfl) (by kernel_rfl) rfl [1, 2] (by decide) (by decide) (fun w11509 hS11510 => ?_)
  refine ⟨trivial, ?_⟩
  refine seg 3 [] [6, 7] [(6, (.pointer (some ⟨g3195, 0, none⟩))), (7, (.bool true))] [] (fun fb => by kernel_rfl) rfl trivial ?_
  refine WL.done rfl ?_
  refine WX.next ?_
  refine WC.ret ?_
  injection hf with hf
  subst hf
  exact WX.ret_ [.v (.int .i64 (p1.Cells.length : Int)), .v (.int .i64 p2), .v (.slice A9674 y11507.length c9675)] (.tuple #[(.agg #[(.int .i64 (p1.Cells.length : Int)), (.int .i64 p2), (.slice A9674 y11507.length c9675)]), (.bool true)]) [.cell ⟨g3195, 0, none⟩ (.int .i64 (p1.Cells.length : Int)), .cell ⟨g3195, 1, none⟩ (.int .i64 p2), .cell ⟨g3195, 2, none⟩ (.slice A9674 y11507.length c9675)] (fun fb => by kernel_rfl) ⟨hS11510.cell 0 rfl 0 rfl, hS11510.cell 0 rfl 1 rfl, hS11510.cell 0 rfl 2 rfl, trivial⟩ ⟨_, rfl, A9674, c9675, rfl, (hS11510.sub [2] (by decide)).noR⟩
theorem law08_MachinePictures_calls (k : Nat) (p0 : Machine) (p1 : Config) (p2 : Int) (A_p0_Actions : Option Addr) (c_p0_Actions : Nat) (A_p1_Cells : Option Addr) (c_p1_Cells : Nat) (r : Bool) (w : World) (hR0 : RO NoS w (rowR enc_Action A_p0_Actions c_p0_Actions p0.Actions)) (hR1 : RO NoS w (rowR encInt A_p1_Cells c_p1_Cells p1.Cells)) (hf : law08_MachinePictures k p0 p1 p2 = some r) :
    CallsR Try.prog 3 #[(.agg #[(.int .i64 p0.States), (.int .i64 p0.Symbols), (.slice A_p0_Actions p0.Actions.length c_p0_Actions)]), (.agg #[(.int .i64 p1.State), (.int .i64 p1.At), (.slice A_p1_Cells p1.Cells.length c_p1_Cells)]), (.int .i64 p2)] w (fun v w' => v = (.bool r) ∧ Keeps NoS w w') := by
  have hS : St NoS w w [rowR enc_Action A_p0_Actions c_p0_Actions p0.Actions, rowR encInt A_p1_Cells c_p1_Cells p1.Cells] [] := St.init (ro_cons hR0 (ro_cons hR1 (ro_nil _ _)))
  refine enter 102 Try.func3 rfl Try.ntmps3 rfl ?_
  unfold law08_MachinePictures at hf
  refine WC.seq ?_
  refine WC.region ?_
  refine WL.new hS 3 [] (fun g => (.pointer (some ⟨g, 0, none⟩))) (.cells #[(.int .i64 p0.States), (.int .i64 p0.Symbols), (.slice A_p0_Actions p0.Actions.length c_p0_Actions)] 24 (0, 0)) [] (fun fb g => by kernel_rfl) trivial (fun g1 w2 hS3 => ?_)
  refine ⟨trivial, ?_⟩
  refine WL.new hS3 4 [] (fun g => (.pointer (some ⟨g, 0, none⟩))) (.cells #[(.int .i64 p1.State), (.int .i64 p1.At), (.slice A_p1_Cells p1.Cells.length c_p1_Cells)] 27 (0, 0)) [] (fun fb g => by kernel_rfl) trivial (fun g5 w6 hS7 => ?_)
  refine ⟨trivial, ?_⟩
  refine seg 3 [] [2, 3, 4] [(2, (.int .i64 p2)), (3, (.pointer (some ⟨g1, 0, none⟩))), (4, (.pointer (some ⟨g5, 0, none⟩)))] [] (fun fb => by kernel_rfl) rfl trivial ?_
  refine WL.done rfl ?_
  refine WX.next ?_
  refine WC.seq ?_
  refine WC.region ?_
  refine seg 4 [.v (.slice A_p1_Cells p1.Cells.length c_p1_Cells)] [2, 3, 4, 7] [(2, (.int .i64 p2)), (3, (.pointer (some ⟨g1, 0, none⟩))), (4, (.pointer (some ⟨g5, 0, none⟩))), (7, (.int .i64 (p1.Cells.length : Int)))] [.cell ⟨g5, 2, none⟩ (.slice A_p1_Cells p1.Cells.length c_p1_Cells)] (fun fb => by kernel_rfl) rfl ⟨hS7.cell 0 rfl 2 rfl, trivial⟩ ?_
  refine WL.done rfl ?_
  refine WX.next ?_
  refine WC.seq ?_
  refine WC.region ?_
  refine seg 3 [] [2, 3, 4, 7, 19] [(2, (.int .i64 p2)), (3, (.pointer (some ⟨g1, 0, none⟩))), (4, (.pointer (some ⟨g5, 0, none⟩))), (7, (.int .i64 (p1.Cells.length : Int))), (19, (.bool (decide ((p1.Cells.length : Int) > 0))))] [] (fun fb => by kernel_rfl) rfl trivial ?_
  obtain ⟨b10, hv11, hf⟩ := bind_some hf
  refine WL.cutV (T := Unit) 8 (fun t => [(24, (.bool b10)), (2, (.int .i64 p2)), (3, (.pointer (some ⟨g1, 0, none⟩))), (4, (.pointer (some ⟨g5, 0, none⟩))), (7, (.int .i64 (p1.Cells.length : Int)))]) (fun t => True) (fun K => ?_) ?_
  ·
    rcases br_some hv11 with ⟨h12, hv11⟩ | ⟨h12, hv11⟩
    ·
      refine WL.setB 19 h12 rfl ?_
      refine seg 5 [] [2, 3, 4, 7, 19, 20, 21] [(2, (.int .i64 p2)), (3, (.pointer (some ⟨g1, 0, none⟩))), (4, (.pointer (some ⟨g5, 0, none⟩))), (7, (.int .i64 (p1.Cells.length : Int))), (19, (.bool true)), (20, (.int .i64 p2)), (21, (.int .i64 (p1.Cells.length : Int)))] [] (fun fb => by kernel_rfl) rfl trivial ?_
      obtain ⟨h13, hv11⟩ := as_some hv11
      refine seg 8 [] [2, 3, 4, 7, 24] [(2, (.int .i64 p2)), (3, (.pointer (some ⟨g1, 0, none⟩))), (4, (.pointer (some ⟨g5, 0, none⟩))), (7, (.int .i64 (p1.Cells.length : Int))), (24, (.bool (decide (p2 > w64 (Int.tdiv 40000 (p1.Cells.length : Int))))))] [.ne (p1.Cells.length : Int)] (fun fb => by kernel_rfl) rfl ⟨h13, trivial⟩ ?_
      injection hv11 with hv11
      subst hv11
      exact WL.toV K () [24, 2, 3, 4, 7] rfl trivial
    refine WL.setB 19 h12 rfl ?_
    refine seg 8 [] [2, 3, 4, 7, 24] [(2, (.int .i64 p2)), (3, (.pointer (some ⟨g1, 0, none⟩))), (4, (.pointer (some ⟨g5, 0, none⟩))), (7, (.int .i64 (p1.Cells.length : Int))), (24, (.bool false))] [] (fun fb => by kernel_rfl) rfl trivial ?_
    injection hv11 with hv11
    subst hv11
    exact WL.toV K () [24, 2, 3, 4, 7] rfl trivial
  rintro _ _
  refine seg 9 [] [2, 3, 4, 7, 8] [(2, (.int .i64 p2)), (3, (.pointer (some ⟨g1, 0, none⟩))), (4, (.pointer (some ⟨g5, 0, none⟩))), (7, (.int .i64 (p1.Cells.length : Int))), (8, (.bool b10))] [] (fun fb => by kernel_rfl) rfl trivial ?_
  refine WL.done rfl ?_
  refine WX.next ?_
  refine WC.seq ?_
  refine WC.seq ?_
  refine WC.region ?_
  refine seg 2 [.v (.int .i64 p0.States), .v (.int .i64 p0.Symbols), .v (.slice A_p0_Actions p0.Actions.length c_p0_Actions), .v (.int .i64 p1.State), .v (.int .i64 p1.At), .v (.slice A_p1_Cells p1.Cells.length c_p1_Cells)] [2, 3, 4, 7, 8, 25, 26] [(2, (.int .i64 p2)), (3, (.pointer (some ⟨g1, 0, none⟩))), (4, (.pointer (some ⟨g5, 0, none⟩))), (7, (.int .i64 (p1.Cells.length : Int))), (8, (.bool b10)), (25, (.agg #[(.int .i64 p0.States), (.int .i64 p0.Symbols), (.slice A_p0_Actions p0.Actions.length c_p0_Actions)])), (26, (.agg #[(.int .i64 p1.State), (.int .i64 p1.At), (.slice A_p1_Cells p1.Cells.length c_p1_Cells)]))] [.cell ⟨g1, 0, none⟩ (.int .i64 p0.States), .cell ⟨g1, 1, none⟩ (.int .i64 p0.Symbols), .cell ⟨g1, 2, none⟩ (.slice A_p0_Actions p0.Actions.length c_p0_Actions), .cell ⟨g5, 0, none⟩ (.int .i64 p1.State), .cell ⟨g5, 1, none⟩ (.int .i64 p1.At), .cell ⟨g5, 2, none⟩ (.slice A_p1_Cells p1.Cells.length c_p1_Cells)] (fun fb => by kernel_rfl) rfl ⟨hS7.cell 1 rfl 0 rfl, hS7.cell 1 rfl 1 rfl, hS7.cell 1 rfl 2 rfl, hS7.cell 0 rfl 0 rfl, hS7.cell 0 rfl 1 rfl, hS7.cell 0 rfl 2 rfl, trivial⟩ ?_
  obtain ⟨t24, ht25, hf⟩ := bind_some hf
  refine WL.call (some 27) 10 #[(.agg #[(.int .i64 p0.States), (.int .i64 p0.Symbols), (.slice A_p0_Actions p0.Actions.length c_p0_Actions)]), (.agg #[(.int .i64 p1.State), (.int .i64 p1.At), (.slice A_p1_Cells p1.Cells.length c_p1_Cells)])] (fun fb => by kernel_rfl) (law08_wide_calls p0 p1 A_p0_Actions c_p0_Actions A_p1_Cells c_p1_Cells t24 _ (hS7.rd 0) (hS7.rd 1) ht25) (fun v w26 hR27 => ?_)
  obtain ⟨rfl, hk_⟩ := hR27
  have hS28 := hS7.keepN hk_
  refine ⟨trivial, ?_⟩
  refine seg 4 [] [2, 3, 4, 7, 8, 28] [(2, (.int .i64 p2)), (3, (.pointer (some ⟨g1, 0, none⟩))), (4, (.pointer (some ⟨g5, 0, none⟩))), (7, (.int .i64 (p1.Cells.length : Int))), (8, (.bool b10)), (28, (.bool t24))] [] (fun fb => by kernel_rfl) rfl trivial ?_
  refine WL.cutV (T := Bool) 17 (fun t => [(41, (.bool t)), (2, (.int .i64 p2)), (3, (.pointer (some ⟨g1, 0, none⟩))), (4, (.pointer (some ⟨g5, 0, none⟩))), (8, (.bool b10))]) (fun t => t = (t24 || (((decide (p2 > 0)) && (!b10)) && (decide (w64 (p2 * (p1.Cells.length : Int)) > 6000))))) (fun K => ?_) ?_
  ·
    rcases Bool.eq_false_or_eq_true t24 with h33 | h33
    ·
      refine WL.setB 28 h33 rfl ?_
      refine seg 17 [] [2, 3, 4, 8, 41] [(2, (.int .i64 p2)), (3, (.pointer (some ⟨g1, 0, none⟩))), (4, (.pointer (some ⟨g5, 0, none⟩))), (8, (.bool b10)), (41, (.bool true))] [] (fun fb => by kernel_rfl) rfl trivial ?_
      exact WL.toV K true [41, 2, 3, 4, 8] rfl (by rw [h33]; rfl)
    refine WL.setB 28 h33 rfl ?_
    refine seg 7 [] [2, 3, 4, 7, 8, 28, 31] [(2, (.int .i64 p2)), (3, (.pointer (some ⟨g1, 0, none⟩))), (4, (.pointer (some ⟨g5, 0, none⟩))), (7, (.int .i64 (p1.Cells.length : Int))), (8, (.bool b10)), (28, (.bool false)), (31, (.bool (decide (p2 > 0))))] [] (fun fb => by kernel_rfl) rfl trivial ?_
    refine WL.cutV (T := Bool) 10 (fun t => [(34, (.bool t)), (2, (.int .i64 p2)), (3, (.pointer (some ⟨g1, 0, none⟩))), (4, (.pointer (some ⟨g5, 0, none⟩))), (7, (.int .i64 (p1.Cells.length : Int))), (8, (.bool b10)), (28, (.bool false))]) (fun t => t = ((decide (p2 > 0)) && (!b10))) (fun K => ?_) ?_
    ·
      rcases Bool.eq_false_or_eq_true (decide (p2 > 0)) with h34 | h34
      ·
        refine WL.setB 31 h34 rfl ?_
        refine seg 10 [] [2, 3, 4, 7, 8, 28, 34] [(2, (.int .i64 p2)), (3, (.pointer (some ⟨g1, 0, none⟩))), (4, (.pointer (some ⟨g5, 0, none⟩))), (7, (.int .i64 (p1.Cells.length : Int))), (8, (.bool b10)), (28, (.bool false)), (34, (.bool (!b10)))] [] (fun fb => by kernel_rfl) rfl trivial ?_
        exact WL.toV K (!b10) [34, 2, 3, 4, 7, 8, 28] rfl (by rw [h34]; rfl)
      refine WL.setB 31 h34 rfl ?_
      refine seg 10 [] [2, 3, 4, 7, 8, 28, 34] [(2, (.int .i64 p2)), (3, (.pointer (some ⟨g1, 0, none⟩))), (4, (.pointer (some ⟨g5, 0, none⟩))), (7, (.int .i64 (p1.Cells.length : Int))), (8, (.bool b10)), (28, (.bool false)), (34, (.bool false))] [] (fun fb => by kernel_rfl) rfl trivial ?_
      exact WL.toV K false [34, 2, 3, 4, 7, 8, 28] rfl (by rw [h34]; rfl)
    rintro b35 rfl
    refine seg 11 [] [2, 3, 4, 7, 8, 28, 35] [(2, (.int .i64 p2)), (3, (.pointer (some ⟨g1, 0, none⟩))), (4, (.pointer (some ⟨g5, 0, none⟩))), (7, (.int .i64 (p1.Cells.length : Int))), (8, (.bool b10)), (28, (.bool false)), (35, (.bool ((decide (p2 > 0)) && (!b10))))] [] (fun fb => by kernel_rfl) rfl trivial ?_
    refine WL.cutV (T := Bool) 16 (fun t => [(40, (.bool t)), (2, (.int .i64 p2)), (3, (.pointer (some ⟨g1, 0, none⟩))), (4, (.pointer (some ⟨g5, 0, none⟩))), (8, (.bool b10)), (28, (.bool false))]) (fun t => t = (((decide (p2 > 0)) && (!b10)) && (decide (w64 (p2 * (p1.Cells.length : Int)) > 6000)))) (fun K => ?_) ?_
    ·
      rcases Bool.eq_false_or_eq_true ((decide (p2 > 0)) && (!b10)) with h36 | h36
      ·
        refine WL.setB 35 h36 rfl ?_
        refine seg 16 [] [2, 3, 4, 8, 28, 40] [(2, (.int .i64 p2)), (3, (.pointer (some ⟨g1, 0, none⟩))), (4, (.pointer (some ⟨g5, 0, none⟩))), (8, (.bool b10)), (28, (.bool false)), (40, (.bool (decide (w64 (p2 * (p1.Cells.length : Int)) > 6000))))] [] (fun fb => by kernel_rfl) rfl trivial ?_
        exact WL.toV K (decide (w64 (p2 * (p1.Cells.length : Int)) > 6000)) [40, 2, 3, 4, 8, 28] rfl (by rw [h36]; rfl)
      refine WL.setB 35 h36 rfl ?_
      refine seg 16 [] [2, 3, 4, 8, 28, 40] [(2, (.int .i64 p2)), (3, (.pointer (some ⟨g1, 0, none⟩))), (4, (.pointer (some ⟨g5, 0, none⟩))), (8, (.bool b10)), (28, (.bool false)), (40, (.bool false))] [] (fun fb => by kernel_rfl) rfl trivial ?_
      exact WL.toV K false [40, 2, 3, 4, 8, 28] rfl (by rw [h36]; rfl)
    rintro b37 rfl
    refine seg 17 [] [2, 3, 4, 8, 41] [(2, (.int .i64 p2)), (3, (.pointer (some ⟨g1, 0, none⟩))), (4, (.pointer (some ⟨g5, 0, none⟩))), (8, (.bool b10)), (41, (.bool (((decide (p2 > 0)) && (!b10)) && (decide (w64 (p2 * (p1.Cells.length : Int)) > 6000)))))] [] (fun fb => by kernel_rfl) rfl trivial ?_
    exact WL.toV K (((decide (p2 > 0)) && (!b10)) && (decide (w64 (p2 * (p1.Cells.length : Int)) > 6000))) [41, 2, 3, 4, 8] rfl (by rw [h33]; rfl)
  rintro b38 rfl
  refine WL.done rfl ?_
  refine WX.next ?_
  rcases br_some hf with ⟨h39, hf⟩ | ⟨h39, hf⟩
  · refine WC.condT2 (fun fb => by kernel_rfl) h39 ?_
    refine WC.seq ?_
    refine WC.region ?_
    obtain ⟨t2738, ht2739, hf⟩ := bind_some hf
    refine WL.call (some 42) 11 #[] (fun fb => by kernel_rfl) (law08_awake_calls _ t2738 _ ht2739) (fun v w2740 hR2741 => ?_)
    obtain ⟨rfl, hk_⟩ := hR2741
    have hS2742 := hS28.keepN hk_
    refine ⟨trivial, ?_⟩
    refine seg 2 [] [6] [(6, (.bool t2738))] [] (fun fb => by kernel_rfl) rfl trivial ?_
    refine WL.done rfl ?_
    refine WX.next ?_
    refine WC.ret ?_
    injection hf with hf
    subst hf
    exact WX.thenR (WX.ret_ [] (.bool t2738) [] (fun fb => by kernel_rfl) trivial ⟨_, rfl, rfl, hS2742.keep⟩)
  refine WC.condF2 (fun fb => by kernel_rfl) h39 ?_
  refine WC.skip ?_
  refine WX.next ?_
  refine WC.seq ?_
  refine WC.region ?_
  refine seg 3 [.v (.int .i64 p0.States), .v (.int .i64 p0.Symbols), .v (.slice A_p0_Actions p0.Actions.length c_p0_Actions), .v (.int .i64 p1.State), .v (.int .i64 p1.At), .v (.slice A_p1_Cells p1.Cells.length c_p1_Cells)] [2, 3, 4, 8, 44, 45, 46] [(2, (.int .i64 p2)), (3, (.pointer (some ⟨g1, 0, none⟩))), (4, (.pointer (some ⟨g5, 0, none⟩))), (8, (.bool b10)), (44, (.agg #[(.int .i64 p0.States), (.int .i64 p0.Symbols), (.slice A_p0_Actions p0.Actions.length c_p0_Actions)])), (45, (.agg #[(.int .i64 p1.State), (.int .i64 p1.At), (.slice A_p1_Cells p1.Cells.length c_p1_Cells)])), (46, (.int .i64 p2))] [.cell ⟨g1, 0, none⟩ (.int .i64 p0.States), .cell ⟨g1, 1, none⟩ (.int .i64 p0.Symbols), .cell ⟨g1, 2, none⟩ (.slice A_p0_Actions p0.Actions.length c_p0_Actions), .cell ⟨g5, 0, none⟩ (.int .i64 p1.State), .cell ⟨g5, 1, none⟩ (.int .i64 p1.At), .cell ⟨g5, 2, none⟩ (.slice A_p1_Cells p1.Cells.length c_p1_Cells)] (fun fb => by kernel_rfl) rfl ⟨hS28.cell 1 rfl 0 rfl, hS28.cell 1 rfl 1 rfl, hS28.cell 1 rfl 2 rfl, hS28.cell 0 rfl 0 rfl, hS28.cell 0 rfl 1 rfl, hS28.cell 0 rfl 2 rfl, trivial⟩ ?_
  obtain ⟨t2743, ht2744, hf⟩ := bind_some hf
  refine WL.call (some 47) 12 #[(.agg #[(.int .i64 p0.States), (.int .i64 p0.Symbols), (.slice A_p0_Actions p0.Actions.length c_p0_Actions)]), (.agg #[(.int .i64 p1.State), (.int .i64 p1.At), (.slice A_p1_Cells p1.Cells.length c_p1_Cells)]), (.int .i64 p2)] (fun fb => by kernel_rfl) (machine_Picture_calls _ p0 p1 p2 A_p0_Actions c_p0_Actions A_p1_Cells c_p1_Cells t2743 _ (hS28.rd 0) (hS28.rd 1) ht2744) (fun v w2745 hR2746 => ?_)
  obtain ⟨A2748, c2749, rfl, hk_⟩ := hR2746
  have hS2747 : St NoS w w2745 [rowR enc_Action A_p0_Actions c_p0_Actions p0.Actions, rowR encInt A_p1_Cells c_p1_Cells p1.Cells] [rowO 3 encInt A2748 c2749 t2743.1.Cells, blk g5 (.cells #[(.int .i64 p1.State), (.int .i64 p1.At), (.slice A_p1_Cells p1.Cells.length c_p1_Cells)] 27 (0, 0)), blk g1 (.cells #[(.int .i64 p0.States), (.int .i64 p0.Symbols), (.slice A_p0_Actions p0.Actions.length c_p0_Actions)] 24 (0, 0))] := hS28.call hk_ [] [0, 1] (fun g hg => hg.elim) (by simp) (by decide)
  refine ⟨trivial, ?_⟩
  refine seg 7 [] [2, 3, 4, 8, 48, 49] [(2, (.int .i64 p2)), (3, (.pointer (some ⟨g1, 0, none⟩))), (4, (.pointer (some ⟨g5, 0, none⟩))), (8, (.bool b10)), (48, (.agg #[(.int .i64 t2743.1.Width), (.int .i64 t2743.1.Height), (.slice A2748 t2743.1.Cells.length c2749)])), (49, (.int .i64 t2743.2))] [] (fun fb => by kernel_rfl) rfl trivial ?_
  refine WL.new hS2747 9 [] (fun g => (.pointer (some ⟨g, 0, none⟩))) (.cells #[(.int .i64 0), (.int .i64 0), (.slice none 0 0)] 31 (0, 0)) [] (fun fb g => by kernel_rfl) trivial (fun g2750 w2751 hS2752 => ?_)
  refine ⟨trivial, ?_⟩
  refine WL.store hS2752 0 rfl [(0, (.int .i64 t2743.1.Width)), (1, (.int .i64 t2743.1.Height)), (2, (.slice A2748 t2743.1.Cells.length c2749))] #[(.int .i64 t2743.1.Width), (.int .i64 t2743.1.Height), (.slice A2748 t2743.1.Cells.length c2749)] (fun fb => by kernel_rfl) (by kernel_rfl) rfl [1, 2, 3] (by decide) (by decide) (fun w2754 hS2755 => ?_)
  refine ⟨trivial, ?_⟩
  refine seg 10 [] [2, 3, 4, 8, 9, 10] [(2, (.int .i64 p2)), (3, (.pointer (some ⟨g1, 0, none⟩))), (4, (.pointer (some ⟨g5, 0, none⟩))), (8, (.bool b10)), (9, (.pointer (some ⟨g2750, 0, none⟩))), (10, (.int .i64 t2743.2))] [] (fun fb => by kernel_rfl) rfl trivial ?_
  refine WL.done rfl ?_
  refine WX.next ?_
  refine WC.seq ?_
  refine WC.region ?_
  refine seg 1 [] [2, 3, 4, 8, 9, 10, 11] [(2, (.int .i64 p2)), (3, (.pointer (some ⟨g1, 0, none⟩))), (4, (.pointer (some ⟨g5, 0, none⟩))), (8, (.bool b10)), (9, (.pointer (some ⟨g2750, 0, none⟩))), (10, (.int .i64 t2743.2)), (11, (.int .i64 0))] [] (fun fb => by kernel_rfl) rfl trivial ?_
  refine WL.done rfl ?_
  refine WX.next ?_
  refine WC.seq ?_
  refine WC.block ?_
  refine WC.seq ?_
  refine WC.region ?_
  refine seg 2 [.v (.int .i64 p0.States), .v (.int .i64 p0.Symbols), .v (.slice A_p0_Actions p0.Actions.length c_p0_Actions), .v (.int .i64 p1.State), .v (.int .i64 p1.At), .v (.slice A_p1_Cells p1.Cells.length c_p1_Cells)] [2, 3, 4, 8, 9, 10, 11, 51, 52] [(2, (.int .i64 p2)), (3, (.pointer (some ⟨g1, 0, none⟩))), (4, (.pointer (some ⟨g5, 0, none⟩))), (8, (.bool b10)), (9, (.pointer (some ⟨g2750, 0, none⟩))), (10, (.int .i64 t2743.2)), (11, (.int .i64 0)), (51, (.agg #[(.int .i64 p0.States), (.int .i64 p0.Symbols), (.slice A_p0_Actions p0.Actions.length c_p0_Actions)])), (52, (.agg #[(.int .i64 p1.State), (.int .i64 p1.At), (.slice A_p1_Cells p1.Cells.length c_p1_Cells)]))] [.cell ⟨g1, 0, none⟩ (.int .i64 p0.States), .cell ⟨g1, 1, none⟩ (.int .i64 p0.Symbols), .cell ⟨g1, 2, none⟩ (.slice A_p0_Actions p0.Actions.length c_p0_Actions), .cell ⟨g5, 0, none⟩ (.int .i64 p1.State), .cell ⟨g5, 1, none⟩ (.int .i64 p1.At), .cell ⟨g5, 2, none⟩ (.slice A_p1_Cells p1.Cells.length c_p1_Cells)] (fun fb => by kernel_rfl) rfl ⟨hS2755.cell 3 rfl 0 rfl, hS2755.cell 3 rfl 1 rfl, hS2755.cell 3 rfl 2 rfl, hS2755.cell 2 rfl 0 rfl, hS2755.cell 2 rfl 1 rfl, hS2755.cell 2 rfl 2 rfl, trivial⟩ ?_
  obtain ⟨t3007, ht3008, hf⟩ := bind_some hf
  refine WL.call (some 53) 13 #[(.agg #[(.int .i64 p0.States), (.int .i64 p0.Symbols), (.slice A_p0_Actions p0.Actions.length c_p0_Actions)]), (.agg #[(.int .i64 p1.State), (.int .i64 p1.At), (.slice A_p1_Cells p1.Cells.length c_p1_Cells)])] (fun fb => by kernel_rfl) (ref08_Fits_calls _ p0 p1 A_p0_Actions c_p0_Actions A_p1_Cells c_p1_Cells t3007 _ (hS2755.rd 0) (hS2755.rd 1) ht3008) (fun v w3009 hR3010 => ?_)
  obtain ⟨rfl, hk_⟩ := hR3010
  have hS3011 := hS2755.keepN hk_
  refine ⟨trivial, ?_⟩
  refine seg 5 [] [2, 3, 4, 8, 9, 10, 11, 50] [(2, (.int .i64 p2)), (3, (.pointer (some ⟨g1, 0, none⟩))), (4, (.pointer (some ⟨g5, 0, none⟩))), (8, (.bool b10)), (9, (.pointer (some ⟨g2750, 0, none⟩))), (10, (.int .i64 t2743.2)), (11, (.int .i64 0)), (50, (.bool (!t3007)))] [] (fun fb => by kernel_rfl) rfl trivial ?_
  refine WL.done rfl ?_
  refine WX.next ?_
  obtain ⟨x3041, hx3042, hf⟩ := bind_some hf
  refine WC.cutN (T := Int) (fun t => [(2, (.int .i64 p2)), (3, (.pointer (some ⟨g1, 0, none⟩))), (4, (.pointer (some ⟨g5, 0, none⟩))), (9, (.pointer (some ⟨g2750, 0, none⟩))), (10, (.int .i64 t2743.2)), (11, (.int .i64 t))]) (fun t w1 => St NoS w w1 [rowR enc_Action A_p0_Actions c_p0_Actions p0.Actions, rowR encInt A_p1_Cells c_p1_Cells p1.Cells] [blk g1 (.cells #[(.int .i64 p0.States), (.int .i64 p0.Symbols), (.slice A_p0_Actions p0.Actions.length c_p0_Actions)] 24 (0, 0)), blk g5 (.cells #[(.int .i64 p1.State), (.int .i64 p1.At), (.slice A_p1_Cells p1.Cells.length c_p1_Cells)] 27 (0, 0)), blk g2750 (.cells #[(.int .i64 t2743.1.Width), (.int .i64 t2743.1.Height), (.slice A2748 t2743.1.Cells.length c2749)] 31 (0, 0)), rowO 3 encInt A2748 c2749 t2743.1.Cells] ∧ x3041 = t) (fun Kx3041 => ?_) ?_
  ·
    rcases br_some hx3042 with ⟨h3043, hx3042⟩ | ⟨h3043, hx3042⟩
    · refine WC.condT2 (fun fb => by kernel_rfl) h3043 ?_
      refine WC.region ?_
      refine seg 1 [] [2, 3, 4, 9, 10, 11] [(2, (.int .i64 p2)), (3, (.pointer (some ⟨g1, 0, none⟩))), (4, (.pointer (some ⟨g5, 0, none⟩))), (9, (.pointer (some ⟨g2750, 0, none⟩))), (10, (.int .i64 t2743.2)), (11, (.int .i64 1))] [] (fun fb => by kernel_rfl) rfl trivial ?_
      refine WL.done rfl ?_
      injection hx3042 with hx3042
      exact WX.to Kx3041 1 [2, 3, 4, 9, 10, 11] rfl ⟨(hS3011.subR [0, 1]).sub [3, 2, 0, 1] (by decide), hx3042.symm⟩
    refine WC.condF2 (fun fb => by kernel_rfl) h3043 ?_
    refine WC.seq ?_
    refine WC.region ?_
    refine seg 3 [] [2, 3, 4, 8, 9, 10, 11, 55] [(2, (.int .i64 p2)), (3, (.pointer (some ⟨g1, 0, none⟩))), (4, (.pointer (some ⟨g5, 0, none⟩))), (8, (.bool b10)), (9, (.pointer (some ⟨g2750, 0, none⟩))), (10, (.int .i64 t2743.2)), (11, (.int .i64 0)), (55, (.bool (decide (p2 < 1))))] [] (fun fb => by kernel_rfl) rfl trivial ?_
    refine WL.done rfl ?_
    refine WX.next ?_
    obtain ⟨x3055, hx3056, hx3042⟩ := bind_some hx3042
    refine WC.cutN (T := Int) (fun t => [(2, (.int .i64 p2)), (3, (.pointer (some ⟨g1, 0, none⟩))), (4, (.pointer (some ⟨g5, 0, none⟩))), (9, (.pointer (some ⟨g2750, 0, none⟩))), (10, (.int .i64 t2743.2)), (11, (.int .i64 t))]) (fun t w1 => St NoS w w1 [rowR enc_Action A_p0_Actions c_p0_Actions p0.Actions, rowR encInt A_p1_Cells c_p1_Cells p1.Cells] [blk g1 (.cells #[(.int .i64 p0.States), (.int .i64 p0.Symbols), (.slice A_p0_Actions p0.Actions.length c_p0_Actions)] 24 (0, 0)), blk g5 (.cells #[(.int .i64 p1.State), (.int .i64 p1.At), (.slice A_p1_Cells p1.Cells.length c_p1_Cells)] 27 (0, 0)), blk g2750 (.cells #[(.int .i64 t2743.1.Width), (.int .i64 t2743.1.Height), (.slice A2748 t2743.1.Cells.length c2749)] 31 (0, 0)), rowO 3 encInt A2748 c2749 t2743.1.Cells] ∧ x3055 = t) (fun Kx3055 => ?_) ?_
    ·
      rcases br_some hx3056 with ⟨h3057, hx3056⟩ | ⟨h3057, hx3056⟩
      · refine WC.condT2 (fun fb => by kernel_rfl) h3057 ?_
        refine WC.region ?_
        refine seg 1 [] [2, 3, 4, 9, 10, 11] [(2, (.int .i64 p2)), (3, (.pointer (some ⟨g1, 0, none⟩))), (4, (.pointer (some ⟨g5, 0, none⟩))), (9, (.pointer (some ⟨g2750, 0, none⟩))), (10, (.int .i64 t2743.2)), (11, (.int .i64 2))] [] (fun fb => by kernel_rfl) rfl trivial ?_
        refine WL.done rfl ?_
        injection hx3056 with hx3056
        exact WX.to Kx3055 2 [2, 3, 4, 9, 10, 11] rfl ⟨(hS3011.subR [0, 1]).sub [3, 2, 0, 1] (by decide), hx3056.symm⟩
      refine WC.condF2 (fun fb => by kernel_rfl) h3057 ?_
      refine WC.seq ?_
      refine WC.region ?_
      refine seg 2 [] [2, 3, 4, 9, 10, 11, 58] [(2, (.int .i64 p2)), (3, (.pointer (some ⟨g1, 0, none⟩))), (4, (.pointer (some ⟨g5, 0, none⟩))), (9, (.pointer (some ⟨g2750, 0, none⟩))), (10, (.int .i64 t2743.2)), (11, (.int .i64 0)), (58, (.bool b10))] [] (fun fb => by kernel_rfl) rfl trivial ?_
      refine WL.done rfl ?_
      refine WX.next ?_
      obtain ⟨x3060, hx3061, hx3056⟩ := bind_some hx3056
      refine WC.cutN (T := Int) (fun t => [(2, (.int .i64 p2)), (3, (.pointer (some ⟨g1, 0, none⟩))), (4, (.pointer (some ⟨g5, 0, none⟩))), (9, (.pointer (some ⟨g2750, 0, none⟩))), (10, (.int .i64 t2743.2)), (11, (.int .i64 t))]) (fun t w1 => St NoS w w1 [rowR enc_Action A_p0_Actions c_p0_Actions p0.Actions, rowR encInt A_p1_Cells c_p1_Cells p1.Cells] [blk g1 (.cells #[(.int .i64 p0.States), (.int .i64 p0.Symbols), (.slice A_p0_Actions p0.Actions.length c_p0_Actions)] 24 (0, 0)), blk g5 (.cells #[(.int .i64 p1.State), (.int .i64 p1.At), (.slice A_p1_Cells p1.Cells.length c_p1_Cells)] 27 (0, 0)), blk g2750 (.cells #[(.int .i64 t2743.1.Width), (.int .i64 t2743.1.Height), (.slice A2748 t2743.1.Cells.length c2749)] 31 (0, 0)), rowO 3 encInt A2748 c2749 t2743.1.Cells] ∧ x3060 = t) (fun Kx3060 => ?_) ?_
      ·
        rcases br_some hx3061 with ⟨h3062, hx3061⟩ | ⟨h3062, hx3061⟩
        · refine WC.condT2 (fun fb => by kernel_rfl) h3062 ?_
          refine WC.region ?_
          refine seg 1 [] [2, 3, 4, 9, 10, 11] [(2, (.int .i64 p2)), (3, (.pointer (some ⟨g1, 0, none⟩))), (4, (.pointer (some ⟨g5, 0, none⟩))), (9, (.pointer (some ⟨g2750, 0, none⟩))), (10, (.int .i64 t2743.2)), (11, (.int .i64 4))] [] (fun fb => by kernel_rfl) rfl trivial ?_
          refine WL.done rfl ?_
          injection hx3061 with hx3061
          exact WX.to Kx3060 4 [2, 3, 4, 9, 10, 11] rfl ⟨(hS3011.subR [0, 1]).sub [3, 2, 0, 1] (by decide), hx3061.symm⟩
        refine WC.condF2 (fun fb => by kernel_rfl) h3062 ?_
        refine WC.skip ?_
        injection hx3061 with hx3061
        exact WX.to Kx3060 0 [2, 3, 4, 9, 10, 11] rfl ⟨(hS3011.subR [0, 1]).sub [3, 2, 0, 1] (by decide), hx3061.symm⟩
      rintro y3066 w3063 ⟨hS3064, hq3065⟩
      subst hq3065
      injection hx3056 with hx3056
      exact WX.to Kx3055 x3060 [2, 3, 4, 9, 10, 11] rfl ⟨(hS3064.subR [0, 1]).sub [0, 1, 2, 3] (by decide), hx3056.symm⟩
    rintro y3070 w3067 ⟨hS3068, hq3069⟩
    subst hq3069
    injection hx3042 with hx3042
    exact WX.to Kx3041 x3055 [2, 3, 4, 9, 10, 11] rfl ⟨(hS3068.subR [0, 1]).sub [0, 1, 2, 3] (by decide), hx3042.symm⟩
  rintro y3074 w3071 ⟨hS3072, hq3073⟩
  subst hq3073
  refine WX.blockN (WX.next ?_)
  refine WC.seq ?_
  refine WC.seq ?_
  refine WC.region ?_
  refine seg 2 [] [2, 3, 4, 9, 10, 11, 61] [(2, (.int .i64 p2)), (3, (.pointer (some ⟨g1, 0, none⟩))), (4, (.pointer (some ⟨g5, 0, none⟩))), (9, (.pointer (some ⟨g2750, 0, none⟩))), (10, (.int .i64 t2743.2)), (11, (.int .i64 x3041)), (61, (.bool (x3041 != 0)))] [] (fun fb => by kernel_rfl) rfl trivial ?_
  refine WL.done rfl ?_
  refine WX.next ?_
  rcases br_some hf with ⟨h3075, hf⟩ | ⟨h3075, hf⟩
  · refine WC.condT2 (fun fb => by kernel_rfl) h3075 ?_
    refine WC.seq ?_
    refine WC.region ?_
    refine seg 4 [] [9, 65] [(9, (.pointer (some ⟨g2750, 0, none⟩))), (65, (.bool (t2743.2 == x3041)))] [] (fun fb => by kernel_rfl) rfl trivial ?_
    obtain ⟨x3155, hx3156, hf⟩ := bind_some hf
    refine WL.cutW (T := Bool) 8 (fun t => [(69, (.bool t))]) (fun t w1 => (St NoS w w1 [rowR enc_Action A_p0_Actions c_p0_Actions p0.Actions, rowR encInt A_p1_Cells c_p1_Cells p1.Cells] [] ∧ x3155 = t) ∧ CellsOK [] w1) (fun K => ?_) ?_
    ·
      rcases br_some hx3156 with ⟨h3157, hx3156⟩ | ⟨h3157, hx3156⟩
      ·
        refine WL.setB 65 h3157 rfl ?_
        refine seg 6 [.v (.int .i64 t2743.1.Width), .v (.int .i64 t2743.1.Height), .v (.slice A2748 t2743.1.Cells.length c2749)] [65, 66, 67] [(65, (.bool true)), (66, (.agg #[(.int .i64 t2743.1.Width), (.int .i64 t2743.1.Height), (.slice A2748 t2743.1.Cells.length c2749)])), (67, (.agg #[(.int .i64 0), (.int .i64 0), (.slice none 0 0)]))] [.cell ⟨g2750, 0, none⟩ (.int .i64 t2743.1.Width), .cell ⟨g2750, 1, none⟩ (.int .i64 t2743.1.Height), .cell ⟨g2750, 2, none⟩ (.slice A2748 t2743.1.Cells.length c2749)] (fun fb => by kernel_rfl) rfl ⟨hS3072.cell 2 rfl 0 rfl, hS3072.cell 2 rfl 1 rfl, hS3072.cell 2 rfl 2 rfl, trivial⟩ ?_
        obtain ⟨t3158, ht3159, hx3156⟩ := bind_some hx3156
        refine WL.call (some 68) 14 #[(.agg #[(.int .i64 t2743.1.Width), (.int .i64 t2743.1.Height), (.slice A2748 t2743.1.Cells.length c2749)]), (.agg #[(.int .i64 0), (.int .i64 0), (.slice none 0 0)])] (fun fb => by kernel_rfl) (ref01_SamePattern_calls _ t2743.1 (Pattern.mk 0 0 ([] : List Int)) A2748 c2749 none 0 t3158 _ (hS3072.ow 3).ofO (RO.nilR _ _ _) ht3159) (fun v w3160 hR3161 => ?_)
        obtain ⟨rfl, hk_⟩ := hR3161
        have hS3162 := hS3072.keepN hk_
        refine ⟨trivial, ?_⟩
        refine seg 8 [] [69] [(69, (.bool t3158))] [] (fun fb => by kernel_rfl) rfl trivial ?_
        injection hx3156 with hx3156
        exact WL.to K t3158 [69] rfl ⟨⟨(hS3162.subR [0, 1]).sub [] (by decide), hx3156.symm⟩, trivial⟩
      refine WL.setB 65 h3157 rfl ?_
      refine seg 8 [] [69] [(69, (.bool false))] [] (fun fb => by kernel_rfl) rfl trivial ?_
      injection hx3156 with hx3156
      exact WL.to K false [69] rfl ⟨⟨(hS3072.subR [0, 1]).sub [] (by decide), hx3156.symm⟩, trivial⟩
    rintro y3163 w3165 ⟨⟨hS3166, hq3164⟩, hF3167⟩
    subst hq3164
    refine seg 9 [] [70] [(70, (.bool x3155))] [] (fun fb => by kernel_rfl) rfl trivial ?_
    obtain ⟨x3174, hx3175, hf⟩ := bind_some hf
    refine WL.cutW (T := Bool) 11 (fun t => [(72, (.bool t))]) (fun t w1 => (St NoS w w1 [rowR enc_Action A_p0_Actions c_p0_Actions p0.Actions, rowR encInt A_p1_Cells c_p1_Cells p1.Cells] [] ∧ x3174 = t) ∧ CellsOK [] w1) (fun K => ?_) ?_
    ·
      rcases br_some hx3175 with ⟨h3176, hx3175⟩ | ⟨h3176, hx3175⟩
      ·
        refine WL.setB 70 h3176 rfl ?_
        obtain ⟨t3177, ht3178, hx3175⟩ := bind_some hx3175
        refine WL.call (some 71) 11 #[] (fun fb => by kernel_rfl) (law08_awake_calls _ t3177 _ ht3178) (fun v w3179 hR3180 => ?_)
        obtain ⟨rfl, hk_⟩ := hR3180
        have hS3181 := hS3166.keepN hk_
        refine ⟨trivial, ?_⟩
        refine seg 11 [] [72] [(72, (.bool t3177))] [] (fun fb => by kernel_rfl) rfl trivial ?_
        injection hx3175 with hx3175
        exact WL.to K t3177 [72] rfl ⟨⟨(hS3181.subR [0, 1]).sub [] (by decide), hx3175.symm⟩, trivial⟩
      refine WL.setB 70 h3176 rfl ?_
      refine seg 11 [] [72] [(72, (.bool false))] [] (fun fb => by kernel_rfl) rfl trivial ?_
      injection hx3175 with hx3175
      exact WL.to K false [72] rfl ⟨⟨(hS3166.subR [0, 1]).sub [] (by decide), hx3175.symm⟩, trivial⟩
    rintro y3182 w3184 ⟨⟨hS3185, hq3183⟩, hF3186⟩
    subst hq3183
    refine seg 12 [] [6] [(6, (.bool x3174))] [] (fun fb => by kernel_rfl) rfl trivial ?_
    refine WL.done rfl ?_
    refine WX.next ?_
    refine WC.ret ?_
    injection hf with hf
    subst hf
    exact WX.thenR (WX.ret_ [] (.bool x3174) [] (fun fb => by kernel_rfl) trivial ⟨_, rfl, rfl, hS3185.keep⟩)
  refine WC.condF2 (fun fb => by kernel_rfl) h3075 ?_
  refine WC.skip ?_
  refine WX.next ?_
  refine WC.seq ?_
  refine WC.region ?_
  refine seg 3 [.v (.int .i64 p0.States), .v (.int .i64 p0.Symbols), .v (.slice A_p0_Actions p0.Actions.length c_p0_Actions), .v (.int .i64 p1.State), .v (.int .i64 p1.At), .v (.slice A_p1_Cells p1.Cells.length c_p1_Cells)] [9, 10, 74, 75, 76] [(9, (.pointer (some ⟨g2750, 0, none⟩))), (10, (.int .i64 t2743.2)), (74, (.agg #[(.int .i64 p0.States), (.int .i64 p0.Symbols), (.slice A_p0_Actions p0.Actions.length c_p0_Actions)])), (75, (.agg #[(.int .i64 p1.State), (.int .i64 p1.At), (.slice A_p1_Cells p1.Cells.length c_p1_Cells)])), (76, (.int .i64 p2))] [.cell ⟨g1, 0, none⟩ (.int .i64 p0.States), .cell ⟨g1, 1, none⟩ (.int .i64 p0.Symbols), .cell ⟨g1, 2, none⟩ (.slice A_p0_Actions p0.Actions.length c_p0_Actions), .cell ⟨g5, 0, none⟩ (.int .i64 p1.State), .cell ⟨g5, 1, none⟩ (.int .i64 p1.At), .cell ⟨g5, 2, none⟩ (.slice A_p1_Cells p1.Cells.length c_p1_Cells)] (fun fb => by kernel_rfl) rfl ⟨hS3072.cell 0 rfl 0 rfl, hS3072.cell 0 rfl 1 rfl, hS3072.cell 0 rfl 2 rfl, hS3072.cell 1 rfl 0 rfl, hS3072.cell 1 rfl 1 rfl, hS3072.cell 1 rfl 2 rfl, trivial⟩ ?_
  obtain ⟨t11511, ht11512, hf⟩ := bind_some hf
  refine WL.call (some 77) 15 #[(.agg #[(.int .i64 p0.States), (.int .i64 p0.Symbols), (.slice A_p0_Actions p0.Actions.length c_p0_Actions)]), (.agg #[(.int .i64 p1.State), (.int .i64 p1.At), (.slice A_p1_Cells p1.Cells.length c_p1_Cells)]), (.int .i64 p2)] (fun fb => by kernel_rfl) (ref08_Picture_calls _ p0 p1 p2 A_p0_Actions c_p0_Actions A_p1_Cells c_p1_Cells t11511 _ (hS3072.rd 0) (hS3072.rd 1) ht11512) (fun v w11513 hR11514 => ?_)
  obtain ⟨A11516, c11517, rfl, hk_⟩ := hR11514
  have hS11515 : St NoS w w11513 [rowR enc_Action A_p0_Actions c_p0_Actions p0.Actions, rowR encInt A_p1_Cells c_p1_Cells p1.Cells] [rowO 3 encInt A11516 c11517 t11511.1.Cells, blk g1 (.cells #[(.int .i64 p0.States), (.int .i64 p0.Symbols), (.slice A_p0_Actions p0.Actions.length c_p0_Actions)] 24 (0, 0)), blk g5 (.cells #[(.int .i64 p1.State), (.int .i64 p1.At), (.slice A_p1_Cells p1.Cells.length c_p1_Cells)] 27 (0, 0)), blk g2750 (.cells #[(.int .i64 t2743.1.Width), (.int .i64 t2743.1.Height), (.slice A2748 t2743.1.Cells.length c2749)] 31 (0, 0)), rowO 3 encInt A2748 c2749 t2743.1.Cells] := hS3072.call hk_ [] [0, 1, 2, 3] (fun g hg => hg.elim) (by simp) (by decide)
  refine ⟨trivial, ?_⟩
  refine seg 7 [] [9, 10, 78, 79] [(9, (.pointer (some ⟨g2750, 0, none⟩))), (10, (.int .i64 t2743.2)), (78, (.agg #[(.int .i64 t11511.1.Width), (.int .i64 t11511.1.Height), (.slice A11516 t11511.1.Cells.length c11517)])), (79, (.bool t11511.2))] [] (fun fb => by kernel_rfl) rfl trivial ?_
  refine WL.new hS11515 12 [] (fun g => (.pointer (some ⟨g, 0, none⟩))) (.cells #[(.int .i64 0), (.int .i64 0), (.slice none 0 0)] 31 (0, 0)) [] (fun fb g => by kernel_rfl) trivial (fun g11518 w11519 hS11520 => ?_)
  refine ⟨trivial, ?_⟩
  refine WL.store hS11520 0 rfl [(0, (.int .i64 t11511.1.Width)), (1, (.int .i64 t11511.1.Height)), (2, (.slice A11516 t11511.1.Cells.length c11517))] #[(.int .i64 t11511.1.Width), (.int .i64 t11511.1.Height), (.slice A11516 t11511.1.Cells.length c11517)] (fun fb => by kernel_rfl) (by kernel_rfl) rfl [1, 2, 3, 4, 5] (by decide) (by decide) (fun w11522 hS11523 => ?_)
  refine ⟨trivial, ?_⟩
  refine seg 10 [] [9, 10, 12, 13] [(9, (.pointer (some ⟨g2750, 0, none⟩))), (10, (.int .i64 t2743.2)), (12, (.pointer (some ⟨g11518, 0, none⟩))), (13, (.bool t11511.2))] [] (fun fb => by kernel_rfl) rfl trivial ?_
  refine WL.done rfl ?_
  refine WX.next ?_
  refine WC.seq ?_
  refine WC.seq ?_
  refine WC.region ?_
  refine seg 2 [] [9, 10, 12, 81] [(9, (.pointer (some ⟨g2750, 0, none⟩))), (10, (.int .i64 t2743.2)), (12, (.pointer (some ⟨g11518, 0, none⟩))), (81, (.bool (!t11511.2)))] [] (fun fb => by kernel_rfl) rfl trivial ?_
  refine WL.done rfl ?_
  refine WX.next ?_
  rcases br_some hf with ⟨h11524, hf⟩ | ⟨h11524, hf⟩
  · refine WC.condT2 (fun fb => by kernel_rfl) h11524 ?_
    refine WC.seq ?_
    refine WC.region ?_
    refine seg 3 [] [9, 84] [(9, (.pointer (some ⟨g2750, 0, none⟩))), (84, (.bool (t2743.2 == 6)))] [] (fun fb => by kernel_rfl) rfl trivial ?_
    obtain ⟨x11531, hx11532, hf⟩ := bind_some hf
    refine WL.cutW (T := Bool) 7 (fun t => [(88, (.bool t))]) (fun t w1 => (St NoS w w1 [rowR enc_Action A_p0_Actions c_p0_Actions p0.Actions, rowR encInt A_p1_Cells c_p1_Cells p1.Cells] [] ∧ x11531 = t) ∧ CellsOK [] w1) (fun K => ?_) ?_
    ·
      rcases br_some hx11532 with ⟨h11533, hx11532⟩ | ⟨h11533, hx11532⟩
      ·
        refine WL.setB 84 h11533 rfl ?_
        refine seg 5 [.v (.int .i64 t2743.1.Width), .v (.int .i64 t2743.1.Height), .v (.slice A2748 t2743.1.Cells.length c2749)] [84, 85, 86] [(84, (.bool true)), (85, (.agg #[(.int .i64 t2743.1.Width), (.int .i64 t2743.1.Height), (.slice A2748 t2743.1.Cells.length c2749)])), (86, (.agg #[(.int .i64 0), (.int .i64 0), (.slice none 0 0)]))] [.cell ⟨g2750, 0, none⟩ (.int .i64 t2743.1.Width), .cell ⟨g2750, 1, none⟩ (.int .i64 t2743.1.Height), .cell ⟨g2750, 2, none⟩ (.slice A2748 t2743.1.Cells.length c2749)] (fun fb => by kernel_rfl) rfl ⟨hS11523.cell 4 rfl 0 rfl, hS11523.cell 4 rfl 1 rfl, hS11523.cell 4 rfl 2 rfl, trivial⟩ ?_
        obtain ⟨t11534, ht11535, hx11532⟩ := bind_some hx11532
        refine WL.call (some 87) 14 #[(.agg #[(.int .i64 t2743.1.Width), (.int .i64 t2743.1.Height), (.slice A2748 t2743.1.Cells.length c2749)]), (.agg #[(.int .i64 0), (.int .i64 0), (.slice none 0 0)])] (fun fb => by kernel_rfl) (ref01_SamePattern_calls _ t2743.1 (Pattern.mk 0 0 ([] : List Int)) A2748 c2749 none 0 t11534 _ (hS11523.ow 5).ofO (RO.nilR _ _ _) ht11535) (fun v w11536 hR11537 => ?_)
        obtain ⟨rfl, hk_⟩ := hR11537
        have hS11538 := hS11523.keepN hk_
        refine ⟨trivial, ?_⟩
        refine seg 7 [] [88] [(88, (.bool t11534))] [] (fun fb => by kernel_rfl) rfl trivial ?_
        injection hx11532 with hx11532
        exact WL.to K t11534 [88] rfl ⟨⟨(hS11538.subR [0, 1]).sub [] (by decide), hx11532.symm⟩, trivial⟩
      refine WL.setB 84 h11533 rfl ?_
      refine seg 7 [] [88] [(88, (.bool false))] [] (fun fb => by kernel_rfl) rfl trivial ?_
      injection hx11532 with hx11532
      exact WL.to K false [88] rfl ⟨⟨(hS11523.subR [0, 1]).sub [] (by decide), hx11532.symm⟩, trivial⟩
    rintro y11539 w11541 ⟨⟨hS11542, hq11540⟩, hF11543⟩
    subst hq11540
    refine seg 8 [] [89] [(89, (.bool x11531))] [] (fun fb => by kernel_rfl) rfl trivial ?_
    obtain ⟨x11550, hx11551, hf⟩ := bind_some hf
    refine WL.cutW (T := Bool) 10 (fun t => [(91, (.bool t))]) (fun t w1 => (St NoS w w1 [rowR enc_Action A_p0_Actions c_p0_Actions p0.Actions, rowR encInt A_p1_Cells c_p1_Cells p1.Cells] [] ∧ x11550 = t) ∧ CellsOK [] w1) (fun K => ?_) ?_
    ·
      rcases br_some hx11551 with ⟨h11552, hx11551⟩ | ⟨h11552, hx11551⟩
      ·
        refine WL.setB 89 h11552 rfl ?_
        obtain ⟨t11553, ht11554, hx11551⟩ := bind_some hx11551
        refine WL.call (some 90) 11 #[] (fun fb => by kernel_rfl) (law08_awake_calls _ t11553 _ ht11554) (fun v w11555 hR11556 => ?_)
        obtain ⟨rfl, hk_⟩ := hR11556
        have hS11557 := hS11542.keepN hk_
        refine ⟨trivial, ?_⟩
        refine seg 10 [] [91] [(91, (.bool t11553))] [] (fun fb => by kernel_rfl) rfl trivial ?_
        injection hx11551 with hx11551
        exact WL.to K t11553 [91] rfl ⟨⟨(hS11557.subR [0, 1]).sub [] (by decide), hx11551.symm⟩, trivial⟩
      refine WL.setB 89 h11552 rfl ?_
      refine seg 10 [] [91] [(91, (.bool false))] [] (fun fb => by kernel_rfl) rfl trivial ?_
      injection hx11551 with hx11551
      exact WL.to K false [91] rfl ⟨⟨(hS11542.subR [0, 1]).sub [] (by decide), hx11551.symm⟩, trivial⟩
    rintro y11558 w11560 ⟨⟨hS11561, hq11559⟩, hF11562⟩
    subst hq11559
    refine seg 11 [] [6] [(6, (.bool x11550))] [] (fun fb => by kernel_rfl) rfl trivial ?_
    refine WL.done rfl ?_
    refine WX.next ?_
    refine WC.ret ?_
    injection hf with hf
    subst hf
    exact WX.thenR (WX.ret_ [] (.bool x11550) [] (fun fb => by kernel_rfl) trivial ⟨_, rfl, rfl, hS11561.keep⟩)
  refine WC.condF2 (fun fb => by kernel_rfl) h11524 ?_
  refine WC.skip ?_
  refine WX.next ?_
  refine WC.seq ?_
  refine WC.region ?_
  refine seg 3 [] [9, 12, 94] [(9, (.pointer (some ⟨g2750, 0, none⟩))), (12, (.pointer (some ⟨g11518, 0, none⟩))), (94, (.bool (t2743.2 == 0)))] [] (fun fb => by kernel_rfl) rfl trivial ?_
  obtain ⟨x11569, hx11570, hf⟩ := bind_some hf
  refine WL.cutW (T := Bool) 7 (fun t => [(98, (.bool t))]) (fun t w1 => (St NoS w w1 [rowR enc_Action A_p0_Actions c_p0_Actions p0.Actions, rowR encInt A_p1_Cells c_p1_Cells p1.Cells] [] ∧ x11569 = t) ∧ CellsOK [] w1) (fun K => ?_) ?_
  ·
    rcases br_some hx11570 with ⟨h11571, hx11570⟩ | ⟨h11571, hx11570⟩
    ·
      refine WL.setB 94 h11571 rfl ?_
      refine seg 5 [.v (.int .i64 t2743.1.Width), .v (.int .i64 t2743.1.Height), .v (.slice A2748 t2743.1.Cells.length c2749), .v (.int .i64 t11511.1.Width), .v (.int .i64 t11511.1.Height), .v (.slice A11516 t11511.1.Cells.length c11517)] [94, 95, 96] [(94, (.bool true)), (95, (.agg #[(.int .i64 t2743.1.Width), (.int .i64 t2743.1.Height), (.slice A2748 t2743.1.Cells.length c2749)])), (96, (.agg #[(.int .i64 t11511.1.Width), (.int .i64 t11511.1.Height), (.slice A11516 t11511.1.Cells.length c11517)]))] [.cell ⟨g2750, 0, none⟩ (.int .i64 t2743.1.Width), .cell ⟨g2750, 1, none⟩ (.int .i64 t2743.1.Height), .cell ⟨g2750, 2, none⟩ (.slice A2748 t2743.1.Cells.length c2749), .cell ⟨g11518, 0, none⟩ (.int .i64 t11511.1.Width), .cell ⟨g11518, 1, none⟩ (.int .i64 t11511.1.Height), .cell ⟨g11518, 2, none⟩ (.slice A11516 t11511.1.Cells.length c11517)] (fun fb => by kernel_rfl) rfl ⟨hS11523.cell 4 rfl 0 rfl, hS11523.cell 4 rfl 1 rfl, hS11523.cell 4 rfl 2 rfl, hS11523.cell 0 rfl 0 rfl, hS11523.cell 0 rfl 1 rfl, hS11523.cell 0 rfl 2 rfl, trivial⟩ ?_
      obtain ⟨t11572, ht11573, hx11570⟩ := bind_some hx11570
      refine WL.call (some 97) 14 #[(.agg #[(.int .i64 t2743.1.Width), (.int .i64 t2743.1.Height), (.slice A2748 t2743.1.Cells.length c2749)]), (.agg #[(.int .i64 t11511.1.Width), (.int .i64 t11511.1.Height), (.slice A11516 t11511.1.Cells.length c11517)])] (fun fb => by kernel_rfl) (ref01_SamePattern_calls _ t2743.1 t11511.1 A2748 c2749 A11516 c11517 t11572 _ (hS11523.ow 5).ofO (hS11523.ow 1).ofO ht11573) (fun v w11574 hR11575 => ?_)
      obtain ⟨rfl, hk_⟩ := hR11575
      have hS11576 := hS11523.keepN hk_
      refine ⟨trivial, ?_⟩
      refine seg 7 [] [98] [(98, (.bool t11572))] [] (fun fb => by kernel_rfl) rfl trivial ?_
      injection hx11570 with hx11570
      exact WL.to K t11572 [98] rfl ⟨⟨(hS11576.subR [0, 1]).sub [] (by decide), hx11570.symm⟩, trivial⟩
    refine WL.setB 94 h11571 rfl ?_
    refine seg 7 [] [98] [(98, (.bool false))] [] (fun fb => by kernel_rfl) rfl trivial ?_
    injection hx11570 with hx11570
    exact WL.to K false [98] rfl ⟨⟨(hS11523.subR [0, 1]).sub [] (by decide), hx11570.symm⟩, trivial⟩
  rintro y11577 w11579 ⟨⟨hS11580, hq11578⟩, hF11581⟩
  subst hq11578
  refine seg 8 [] [99] [(99, (.bool x11569))] [] (fun fb => by kernel_rfl) rfl trivial ?_
  obtain ⟨x11588, hx11589, hf⟩ := bind_some hf
  refine WL.cutW (T := Bool) 10 (fun t => [(101, (.bool t))]) (fun t w1 => (St NoS w w1 [rowR enc_Action A_p0_Actions c_p0_Actions p0.Actions, rowR encInt A_p1_Cells c_p1_Cells p1.Cells] [] ∧ x11588 = t) ∧ CellsOK [] w1) (fun K => ?_) ?_
  ·
    rcases br_some hx11589 with ⟨h11590, hx11589⟩ | ⟨h11590, hx11589⟩
    ·
      refine WL.setB 99 h11590 rfl ?_
      obtain ⟨t11591, ht11592, hx11589⟩ := bind_some hx11589
      refine WL.call (some 100) 11 #[] (fun fb => by kernel_rfl) (law08_awake_calls _ t11591 _ ht11592) (fun v w11593 hR11594 => ?_)
      obtain ⟨rfl, hk_⟩ := hR11594
      have hS11595 := hS11580.keepN hk_
      refine ⟨trivial, ?_⟩
      refine seg 10 [] [101] [(101, (.bool t11591))] [] (fun fb => by kernel_rfl) rfl trivial ?_
      injection hx11589 with hx11589
      exact WL.to K t11591 [101] rfl ⟨⟨(hS11595.subR [0, 1]).sub [] (by decide), hx11589.symm⟩, trivial⟩
    refine WL.setB 99 h11590 rfl ?_
    refine seg 10 [] [101] [(101, (.bool false))] [] (fun fb => by kernel_rfl) rfl trivial ?_
    injection hx11589 with hx11589
    exact WL.to K false [101] rfl ⟨⟨(hS11580.subR [0, 1]).sub [] (by decide), hx11589.symm⟩, trivial⟩
  rintro y11596 w11598 ⟨⟨hS11599, hq11597⟩, hF11600⟩
  subst hq11597
  refine seg 11 [] [6] [(6, (.bool x11588))] [] (fun fb => by kernel_rfl) rfl trivial ?_
  refine WL.done rfl ?_
  refine WX.next ?_
  refine WC.ret ?_
  injection hf with hf
  subst hf
  exact WX.ret_ [] (.bool x11588) [] (fun fb => by kernel_rfl) trivial ⟨_, rfl, rfl, hS11599.keep⟩
end Gp
