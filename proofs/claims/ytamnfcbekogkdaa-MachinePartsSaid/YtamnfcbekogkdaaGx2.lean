/- Walks: each function of the program computes its plain function. -/
import Derived.Test.YtamnfcbekogkdaaGx1
set_option linter.unusedVariables false
set_option linter.unusedSimpArgs false
namespace Gp
open Go Gw Go.Proofs
theorem law08_MachineParts_calls (k : Nat) (p0 : Machine) (p1 : Config) (p2 : Int) (p3 : Int) (A_p0_Actions : Option Addr) (c_p0_Actions : Nat) (A_p1_Cells : Option Addr) (c_p1_Cells : Nat) (r : Bool) (w : World) (hR0 : RO NoS w (rowR enc_Action A_p0_Actions c_p0_Actions p0.Actions)) (hR1 : RO NoS w (rowR encInt A_p1_Cells c_p1_Cells p1.Cells)) (hf : law08_MachineParts k p0 p1 p2 p3 = some r) :
    CallsR Try.prog 5 #[(.agg #[(.int .i64 p0.States), (.int .i64 p0.Symbols), (.slice A_p0_Actions p0.Actions.length c_p0_Actions)]), (.agg #[(.int .i64 p1.State), (.int .i64 p1.At), (.slice A_p1_Cells p1.Cells.length c_p1_Cells)]), (.int .u16 p2), (.int .u16 p3)] w (fun v w' => v = (.bool r) ∧ Keeps NoS w w') := by
  have hS : St NoS w w [rowR enc_Action A_p0_Actions c_p0_Actions p0.Actions, rowR encInt A_p1_Cells c_p1_Cells p1.Cells] [] := St.init (ro_cons hR0 (ro_cons hR1 (ro_nil _ _)))
  refine enter 166 Try.func5 rfl Try.ntmps5 rfl ?_
  unfold law08_MachineParts at hf
  refine WC.seq ?_
  refine WC.region ?_
  refine WL.new hS 4 [] (fun g => (.pointer (some ⟨g, 0, none⟩))) (.cells #[(.int .i64 p0.States), (.int .i64 p0.Symbols), (.slice A_p0_Actions p0.Actions.length c_p0_Actions)] 24 (0, 0)) [] (fun fb g => by kernel_rfl) trivial (fun g1 w2 hS3 => ?_)
  refine ⟨trivial, ?_⟩
  refine WL.new hS3 5 [] (fun g => (.pointer (some ⟨g, 0, none⟩))) (.cells #[(.int .i64 p1.State), (.int .i64 p1.At), (.slice A_p1_Cells p1.Cells.length c_p1_Cells)] 27 (0, 0)) [] (fun fb g => by kernel_rfl) trivial (fun g5 w6 hS7 => ?_)
  refine ⟨trivial, ?_⟩
  refine seg 3 [] [2, 3, 4, 5] [(2, (.int .u16 p2)), (3, (.int .u16 p3)), (4, (.pointer (some ⟨g1, 0, none⟩))), (5, (.pointer (some ⟨g5, 0, none⟩)))] [] (fun fb => by kernel_rfl) rfl trivial ?_
  refine WL.done rfl ?_
  refine WX.next ?_
  refine WC.seq ?_
  refine WC.seq ?_
  refine WC.region ?_
  refine seg 2 [.v (.int .i64 p0.States), .v (.int .i64 p0.Symbols), .v (.slice A_p0_Actions p0.Actions.length c_p0_Actions), .v (.int .i64 p1.State), .v (.int .i64 p1.At), .v (.slice A_p1_Cells p1.Cells.length c_p1_Cells)] [2, 3, 4, 5, 28, 29] [(2, (.int .u16 p2)), (3, (.int .u16 p3)), (4, (.pointer (some ⟨g1, 0, none⟩))), (5, (.pointer (some ⟨g5, 0, none⟩))), (28, (.agg #[(.int .i64 p0.States), (.int .i64 p0.Symbols), (.slice A_p0_Actions p0.Actions.length c_p0_Actions)])), (29, (.agg #[(.int .i64 p1.State), (.int .i64 p1.At), (.slice A_p1_Cells p1.Cells.length c_p1_Cells)]))] [.cell ⟨g1, 0, none⟩ (.int .i64 p0.States), .cell ⟨g1, 1, none⟩ (.int .i64 p0.Symbols), .cell ⟨g1, 2, none⟩ (.slice A_p0_Actions p0.Actions.length c_p0_Actions), .cell ⟨g5, 0, none⟩ (.int .i64 p1.State), .cell ⟨g5, 1, none⟩ (.int .i64 p1.At), .cell ⟨g5, 2, none⟩ (.slice A_p1_Cells p1.Cells.length c_p1_Cells)] (fun fb => by kernel_rfl) rfl ⟨hS7.cell 1 rfl 0 rfl, hS7.cell 1 rfl 1 rfl, hS7.cell 1 rfl 2 rfl, hS7.cell 0 rfl 0 rfl, hS7.cell 0 rfl 1 rfl, hS7.cell 0 rfl 2 rfl, trivial⟩ ?_
  obtain ⟨t19, ht20, hf⟩ := bind_some hf
  refine WL.call (some 30) 10 #[(.agg #[(.int .i64 p0.States), (.int .i64 p0.Symbols), (.slice A_p0_Actions p0.Actions.length c_p0_Actions)]), (.agg #[(.int .i64 p1.State), (.int .i64 p1.At), (.slice A_p1_Cells p1.Cells.length c_p1_Cells)])] (fun fb => by kernel_rfl) (law08_wide_calls p0 p1 A_p0_Actions c_p0_Actions A_p1_Cells c_p1_Cells t19 _ (hS7.rd 0) (hS7.rd 1) ht20) (fun v w21 hR22 => ?_)
  obtain ⟨rfl, hk_⟩ := hR22
  have hS23 := hS7.keepN hk_
  refine ⟨trivial, ?_⟩
  refine seg 4 [] [2, 3, 4, 5, 31] [(2, (.int .u16 p2)), (3, (.int .u16 p3)), (4, (.pointer (some ⟨g1, 0, none⟩))), (5, (.pointer (some ⟨g5, 0, none⟩))), (31, (.bool t19))] [] (fun fb => by kernel_rfl) rfl trivial ?_
  obtain ⟨x281, hx282, hf⟩ := bind_some hf
  refine WL.cutW (T := Bool) 9 (fun t => [(2, (.int .u16 p2)), (3, (.int .u16 p3)), (4, (.pointer (some ⟨g1, 0, none⟩))), (5, (.pointer (some ⟨g5, 0, none⟩))), (36, (.bool t))]) (fun t w1 => (St NoS w w1 [rowR enc_Action A_p0_Actions c_p0_Actions p0.Actions, rowR encInt A_p1_Cells c_p1_Cells p1.Cells] [blk g1 (.cells #[(.int .i64 p0.States), (.int .i64 p0.Symbols), (.slice A_p0_Actions p0.Actions.length c_p0_Actions)] 24 (0, 0)), blk g5 (.cells #[(.int .i64 p1.State), (.int .i64 p1.At), (.slice A_p1_Cells p1.Cells.length c_p1_Cells)] 27 (0, 0))] ∧ x281 = t) ∧ CellsOK [] w1) (fun K => ?_) ?_
  ·
    rcases br_some hx282 with ⟨h283, hx282⟩ | ⟨h283, hx282⟩
    ·
      refine WL.setB 31 h283 rfl ?_
      refine seg 9 [] [2, 3, 4, 5, 36] [(2, (.int .u16 p2)), (3, (.int .u16 p3)), (4, (.pointer (some ⟨g1, 0, none⟩))), (5, (.pointer (some ⟨g5, 0, none⟩))), (36, (.bool true))] [] (fun fb => by kernel_rfl) rfl trivial ?_
      injection hx282 with hx282
      exact WL.to K true [2, 3, 4, 5, 36] rfl ⟨⟨(hS23.subR [0, 1]).sub [1, 0] (by decide), hx282.symm⟩, trivial⟩
    refine WL.setB 31 h283 rfl ?_
    refine seg 6 [.v (.int .i64 p0.States), .v (.int .i64 p0.Symbols), .v (.slice A_p0_Actions p0.Actions.length c_p0_Actions), .v (.int .i64 p1.State), .v (.int .i64 p1.At), .v (.slice A_p1_Cells p1.Cells.length c_p1_Cells)] [2, 3, 4, 5, 31, 32, 33] [(2, (.int .u16 p2)), (3, (.int .u16 p3)), (4, (.pointer (some ⟨g1, 0, none⟩))), (5, (.pointer (some ⟨g5, 0, none⟩))), (31, (.bool false)), (32, (.agg #[(.int .i64 p0.States), (.int .i64 p0.Symbols), (.slice A_p0_Actions p0.Actions.length c_p0_Actions)])), (33, (.agg #[(.int .i64 p1.State), (.int .i64 p1.At), (.slice A_p1_Cells p1.Cells.length c_p1_Cells)]))] [.cell ⟨g1, 0, none⟩ (.int .i64 p0.States), .cell ⟨g1, 1, none⟩ (.int .i64 p0.Symbols), .cell ⟨g1, 2, none⟩ (.slice A_p0_Actions p0.Actions.length c_p0_Actions), .cell ⟨g5, 0, none⟩ (.int .i64 p1.State), .cell ⟨g5, 1, none⟩ (.int .i64 p1.At), .cell ⟨g5, 2, none⟩ (.slice A_p1_Cells p1.Cells.length c_p1_Cells)] (fun fb => by kernel_rfl) rfl ⟨hS23.cell 1 rfl 0 rfl, hS23.cell 1 rfl 1 rfl, hS23.cell 1 rfl 2 rfl, hS23.cell 0 rfl 0 rfl, hS23.cell 0 rfl 1 rfl, hS23.cell 0 rfl 2 rfl, trivial⟩ ?_
    obtain ⟨t284, ht285, hx282⟩ := bind_some hx282
    refine WL.call (some 34) 13 #[(.agg #[(.int .i64 p0.States), (.int .i64 p0.Symbols), (.slice A_p0_Actions p0.Actions.length c_p0_Actions)]), (.agg #[(.int .i64 p1.State), (.int .i64 p1.At), (.slice A_p1_Cells p1.Cells.length c_p1_Cells)])] (fun fb => by kernel_rfl) (ref08_Fits_calls _ p0 p1 A_p0_Actions c_p0_Actions A_p1_Cells c_p1_Cells t284 _ (hS23.rd 0) (hS23.rd 1) ht285) (fun v w286 hR287 => ?_)
    obtain ⟨rfl, hk_⟩ := hR287
    have hS288 := hS23.keepN hk_
    refine ⟨trivial, ?_⟩
    refine seg 9 [] [2, 3, 4, 5, 36] [(2, (.int .u16 p2)), (3, (.int .u16 p3)), (4, (.pointer (some ⟨g1, 0, none⟩))), (5, (.pointer (some ⟨g5, 0, none⟩))), (36, (.bool (!t284)))] [] (fun fb => by kernel_rfl) rfl trivial ?_
    injection hx282 with hx282
    exact WL.to K (!t284) [2, 3, 4, 5, 36] rfl ⟨⟨(hS288.subR [0, 1]).sub [1, 0] (by decide), hx282.symm⟩, trivial⟩
  rintro y289 w291 ⟨⟨hS292, hq290⟩, hF293⟩
  subst hq290
  refine seg 10 [] [2, 3, 4, 5, 37] [(2, (.int .u16 p2)), (3, (.int .u16 p3)), (4, (.pointer (some ⟨g1, 0, none⟩))), (5, (.pointer (some ⟨g5, 0, none⟩))), (37, (.bool x281))] [] (fun fb => by kernel_rfl) rfl trivial ?_
  refine WL.cutV (T := Bool) 17 (fun t => [(44, (.bool t)), (2, (.int .u16 p2)), (3, (.int .u16 p3)), (4, (.pointer (some ⟨g1, 0, none⟩))), (5, (.pointer (some ⟨g5, 0, none⟩)))]) (fun t => t = (x281 || (decide (w64 ((w64 (p2)) + (w64 (p3))) > 3000)))) (fun K => ?_) ?_
  ·
    rcases Bool.eq_false_or_eq_true x281 with h294 | h294
    ·
      refine WL.setB 37 h294 rfl ?_
      refine seg 17 [] [2, 3, 4, 5, 44] [(2, (.int .u16 p2)), (3, (.int .u16 p3)), (4, (.pointer (some ⟨g1, 0, none⟩))), (5, (.pointer (some ⟨g5, 0, none⟩))), (44, (.bool true))] [] (fun fb => by kernel_rfl) rfl trivial ?_
      exact WL.toV K true [44, 2, 3, 4, 5] rfl (by rw [h294]; rfl)
    refine WL.setB 37 h294 rfl ?_
    refine seg 17 [] [2, 3, 4, 5, 44] [(2, (.int .u16 p2)), (3, (.int .u16 p3)), (4, (.pointer (some ⟨g1, 0, none⟩))), (5, (.pointer (some ⟨g5, 0, none⟩))), (44, (.bool (decide (w64 ((w64 (p2)) + (w64 (p3))) > 3000))))] [] (fun fb => by kernel_rfl) rfl trivial ?_
    exact WL.toV K (decide (w64 ((w64 (p2)) + (w64 (p3))) > 3000)) [44, 2, 3, 4, 5] rfl (by rw [h294]; rfl)
  rintro b295 rfl
  refine WL.done rfl ?_
  refine WX.next ?_
  rcases br_some hf with ⟨h296, hf⟩ | ⟨h296, hf⟩
  · refine WC.condT2 (fun fb => by kernel_rfl) h296 ?_
    refine WC.seq ?_
    refine WC.region ?_
    obtain ⟨t2995, ht2996, hf⟩ := bind_some hf
    refine WL.call (some 45) 11 #[] (fun fb => by kernel_rfl) (law08_awake_calls _ t2995 _ ht2996) (fun v w2997 hR2998 => ?_)
    obtain ⟨rfl, hk_⟩ := hR2998
    have hS2999 := hS292.keepN hk_
    refine ⟨trivial, ?_⟩
    refine seg 2 [] [8] [(8, (.bool t2995))] [] (fun fb => by kernel_rfl) rfl trivial ?_
    refine WL.done rfl ?_
    refine WX.next ?_
    refine WC.ret ?_
    injection hf with hf
    subst hf
    exact WX.thenR (WX.ret_ [] (.bool t2995) [] (fun fb => by kernel_rfl) trivial ⟨_, rfl, rfl, hS2999.keep⟩)
  refine WC.condF2 (fun fb => by kernel_rfl) h296 ?_
  refine WC.skip ?_
  refine WX.next ?_
  refine WC.seq ?_
  refine WC.region ?_
  refine seg 7 [.v (.int .i64 p0.States), .v (.int .i64 p0.Symbols), .v (.slice A_p0_Actions p0.Actions.length c_p0_Actions), .v (.int .i64 p1.State), .v (.int .i64 p1.At), .v (.slice A_p1_Cells p1.Cells.length c_p1_Cells)] [2, 3, 4, 5, 47, 48, 53] [(2, (.int .u16 p2)), (3, (.int .u16 p3)), (4, (.pointer (some ⟨g1, 0, none⟩))), (5, (.pointer (some ⟨g5, 0, none⟩))), (47, (.agg #[(.int .i64 p0.States), (.int .i64 p0.Symbols), (.slice A_p0_Actions p0.Actions.length c_p0_Actions)])), (48, (.agg #[(.int .i64 p1.State), (.int .i64 p1.At), (.slice A_p1_Cells p1.Cells.length c_p1_Cells)])), (53, (.int .i64 (w64 ((w64 (p2)) + (w64 (p3))))))] [.cell ⟨g1, 0, none⟩ (.int .i64 p0.States), .cell ⟨g1, 1, none⟩ (.int .i64 p0.Symbols), .cell ⟨g1, 2, none⟩ (.slice A_p0_Actions p0.Actions.length c_p0_Actions), .cell ⟨g5, 0, none⟩ (.int .i64 p1.State), .cell ⟨g5, 1, none⟩ (.int .i64 p1.At), .cell ⟨g5, 2, none⟩ (.slice A_p1_Cells p1.Cells.length c_p1_Cells)] (fun fb => by kernel_rfl) rfl ⟨hS292.cell 0 rfl 0 rfl, hS292.cell 0 rfl 1 rfl, hS292.cell 0 rfl 2 rfl, hS292.cell 1 rfl 0 rfl, hS292.cell 1 rfl 1 rfl, hS292.cell 1 rfl 2 rfl, trivial⟩ ?_
  obtain ⟨t3000, ht3001, hf⟩ := bind_some hf
  refine WL.call (some 54) 20 #[(.agg #[(.int .i64 p0.States), (.int .i64 p0.Symbols), (.slice A_p0_Actions p0.Actions.length c_p0_Actions)]), (.agg #[(.int .i64 p1.State), (.int .i64 p1.At), (.slice A_p1_Cells p1.Cells.length c_p1_Cells)]), (.int .i64 (w64 ((w64 (p2)) + (w64 (p3)))))] (fun fb => by kernel_rfl) (machine_Run_calls _ p0 p1 (w64 ((w64 (p2)) + (w64 (p3)))) A_p0_Actions c_p0_Actions A_p1_Cells c_p1_Cells t3000 _ (hS292.rd 0) (hS292.rd 1) ht3001) (fun v w3002 hR3003 => ?_)
  obtain ⟨A3005, c3006, rfl, hk_⟩ := hR3003
  have hS3004 : St NoS w w3002 [rowR enc_Action A_p0_Actions c_p0_Actions p0.Actions, rowR encInt A_p1_Cells c_p1_Cells p1.Cells] [rowO 3 encInt A3005 c3006 t3000.1.Cells, blk g1 (.cells #[(.int .i64 p0.States), (.int .i64 p0.Symbols), (.slice A_p0_Actions p0.Actions.length c_p0_Actions)] 24 (0, 0)), blk g5 (.cells #[(.int .i64 p1.State), (.int .i64 p1.At), (.slice A_p1_Cells p1.Cells.length c_p1_Cells)] 27 (0, 0))] := hS292.call hk_ [] [0, 1] (fun g hg => hg.elim) (by simp) (by decide)
  refine ⟨trivial, ?_⟩
  refine seg 12 [] [2, 3, 4, 5, 55, 56, 57] [(2, (.int .u16 p2)), (3, (.int .u16 p3)), (4, (.pointer (some ⟨g1, 0, none⟩))), (5, (.pointer (some ⟨g5, 0, none⟩))), (55, (.agg #[(.int .i64 t3000.1.State), (.int .i64 t3000.1.At), (.slice A3005 t3000.1.Cells.length c3006)])), (56, (.int .i64 t3000.2.1)), (57, (.int .i64 t3000.2.2))] [] (fun fb => by kernel_rfl) rfl trivial ?_
  refine WL.new hS3004 9 [] (fun g => (.pointer (some ⟨g, 0, none⟩))) (.cells #[(.int .i64 0), (.int .i64 0), (.slice none 0 0)] 27 (0, 0)) [] (fun fb g => by kernel_rfl) trivial (fun g3007 w3008 hS3009 => ?_)
  refine ⟨trivial, ?_⟩
  refine WL.store hS3009 0 rfl [(0, (.int .i64 t3000.1.State)), (1, (.int .i64 t3000.1.At)), (2, (.slice A3005 t3000.1.Cells.length c3006))] #[(.int .i64 t3000.1.State), (.int .i64 t3000.1.At), (.slice A3005 t3000.1.Cells.length c3006)] (fun fb => by kernel_rfl) (by kernel_rfl) rfl [1, 2, 3] (by decide) (by decide) (fun w3011 hS3012 => ?_)
  refine ⟨trivial, ?_⟩
  refine seg 16 [] [2, 3, 4, 5, 9, 10, 11] [(2, (.int .u16 p2)), (3, (.int .u16 p3)), (4, (.pointer (some ⟨g1, 0, none⟩))), (5, (.pointer (some ⟨g5, 0, none⟩))), (9, (.pointer (some ⟨g3007, 0, none⟩))), (10, (.int .i64 t3000.2.1)), (11, (.int .i64 t3000.2.2))] [] (fun fb => by kernel_rfl) rfl trivial ?_
  refine WL.done rfl ?_
  refine WX.next ?_
  refine WC.seq ?_
  refine WC.region ?_
  refine seg 4 [.v (.int .i64 p0.States), .v (.int .i64 p0.Symbols), .v (.slice A_p0_Actions p0.Actions.length c_p0_Actions), .v (.int .i64 p1.State), .v (.int .i64 p1.At), .v (.slice A_p1_Cells p1.Cells.length c_p1_Cells)] [2, 3, 4, 5, 9, 10, 11, 59, 60, 62] [(2, (.int .u16 p2)), (3, (.int .u16 p3)), (4, (.pointer (some ⟨g1, 0, none⟩))), (5, (.pointer (some ⟨g5, 0, none⟩))), (9, (.pointer (some ⟨g3007, 0, none⟩))), (10, (.int .i64 t3000.2.1)), (11, (.int .i64 t3000.2.2)), (59, (.agg #[(.int .i64 p0.States), (.int .i64 p0.Symbols), (.slice A_p0_Actions p0.Actions.length c_p0_Actions)])), (60, (.agg #[(.int .i64 p1.State), (.int .i64 p1.At), (.slice A_p1_Cells p1.Cells.length c_p1_Cells)])), (62, (.int .i64 (w64 (p2))))] [.cell ⟨g1, 0, none⟩ (.int .i64 p0.States), .cell ⟨g1, 1, none⟩ (.int .i64 p0.Symbols), .cell ⟨g1, 2, none⟩ (.slice A_p0_Actions p0.Actions.length c_p0_Actions), .cell ⟨g5, 0, none⟩ (.int .i64 p1.State), .cell ⟨g5, 1, none⟩ (.int .i64 p1.At), .cell ⟨g5, 2, none⟩ (.slice A_p1_Cells p1.Cells.length c_p1_Cells)] (fun fb => by kernel_rfl) rfl ⟨hS3012.cell 2 rfl 0 rfl, hS3012.cell 2 rfl 1 rfl, hS3012.cell 2 rfl 2 rfl, hS3012.cell 3 rfl 0 rfl, hS3012.cell 3 rfl 1 rfl, hS3012.cell 3 rfl 2 rfl, trivial⟩ ?_
  obtain ⟨t3013, ht3014, hf⟩ := bind_some hf
  refine WL.call (some 63) 20 #[(.agg #[(.int .i64 p0.States), (.int .i64 p0.Symbols), (.slice A_p0_Actions p0.Actions.length c_p0_Actions)]), (.agg #[(.int .i64 p1.State), (.int .i64 p1.At), (.slice A_p1_Cells p1.Cells.length c_p1_Cells)]), (.int .i64 (w64 (p2)))] (fun fb => by kernel_rfl) (machine_Run_calls _ p0 p1 (w64 (p2)) A_p0_Actions c_p0_Actions A_p1_Cells c_p1_Cells t3013 _ (hS3012.rd 0) (hS3012.rd 1) ht3014) (fun v w3015 hR3016 => ?_)
  obtain ⟨A3018, c3019, rfl, hk_⟩ := hR3016
  have hS3017 : St NoS w w3015 [rowR enc_Action A_p0_Actions c_p0_Actions p0.Actions, rowR encInt A_p1_Cells c_p1_Cells p1.Cells] [rowO 3 encInt A3018 c3019 t3013.1.Cells, blk g3007 (.cells #[(.int .i64 t3000.1.State), (.int .i64 t3000.1.At), (.slice A3005 t3000.1.Cells.length c3006)] 27 (0, 0)), rowO 3 encInt A3005 c3006 t3000.1.Cells, blk g1 (.cells #[(.int .i64 p0.States), (.int .i64 p0.Symbols), (.slice A_p0_Actions p0.Actions.length c_p0_Actions)] 24 (0, 0)), blk g5 (.cells #[(.int .i64 p1.State), (.int .i64 p1.At), (.slice A_p1_Cells p1.Cells.length c_p1_Cells)] 27 (0, 0))] := hS3012.call hk_ [] [0, 1, 2, 3] (fun g hg => hg.elim) (by simp) (by decide)
  refine ⟨trivial, ?_⟩
  refine seg 9 [] [2, 3, 4, 5, 9, 10, 11, 64, 65, 66] [(2, (.int .u16 p2)), (3, (.int .u16 p3)), (4, (.pointer (some ⟨g1, 0, none⟩))), (5, (.pointer (some ⟨g5, 0, none⟩))), (9, (.pointer (some ⟨g3007, 0, none⟩))), (10, (.int .i64 t3000.2.1)), (11, (.int .i64 t3000.2.2)), (64, (.agg #[(.int .i64 t3013.1.State), (.int .i64 t3013.1.At), (.slice A3018 t3013.1.Cells.length c3019)])), (65, (.int .i64 t3013.2.1)), (66, (.int .i64 t3013.2.2))] [] (fun fb => by kernel_rfl) rfl trivial ?_
  refine WL.new hS3017 12 [] (fun g => (.pointer (some ⟨g, 0, none⟩))) (.cells #[(.int .i64 0), (.int .i64 0), (.slice none 0 0)] 27 (0, 0)) [] (fun fb g => by kernel_rfl) trivial (fun g3020 w3021 hS3022 => ?_)
  refine ⟨trivial, ?_⟩
  refine WL.store hS3022 0 rfl [(0, (.int .i64 t3013.1.State)), (1, (.int .i64 t3013.1.At)), (2, (.slice A3018 t3013.1.Cells.length c3019))] #[(.int .i64 t3013.1.State), (.int .i64 t3013.1.At), (.slice A3018 t3013.1.Cells.length c3019)] (fun fb => by kernel_rfl) (by kernel_rfl) rfl [1, 2, 3, 4, 5] (by decide) (by decide) (fun w3024 hS3025 => ?_)
  refine ⟨trivial, ?_⟩
  refine seg 13 [] [2, 3, 4, 5, 9, 10, 11, 12, 13, 14] [(2, (.int .u16 p2)), (3, (.int .u16 p3)), (4, (.pointer (some ⟨g1, 0, none⟩))), (5, (.pointer (some ⟨g5, 0, none⟩))), (9, (.pointer (some ⟨g3007, 0, none⟩))), (10, (.int .i64 t3000.2.1)), (11, (.int .i64 t3000.2.2)), (12, (.pointer (some ⟨g3020, 0, none⟩))), (13, (.int .i64 t3013.2.1)), (14, (.int .i64 t3013.2.2))] [] (fun fb => by kernel_rfl) rfl trivial ?_
  refine WL.done rfl ?_
  refine WX.next ?_
  refine WC.seq ?_
  refine WC.seq ?_
  refine WC.region ?_
  refine seg 3 [] [2, 3, 4, 5, 9, 10, 12, 13, 14, 69] [(2, (.int .u16 p2)), (3, (.int .u16 p3)), (4, (.pointer (some ⟨g1, 0, none⟩))), (5, (.pointer (some ⟨g5, 0, none⟩))), (9, (.pointer (some ⟨g3007, 0, none⟩))), (10, (.int .i64 t3000.2.1)), (12, (.pointer (some ⟨g3020, 0, none⟩))), (13, (.int .i64 t3013.2.1)), (14, (.int .i64 t3013.2.2)), (69, (.bool (t3000.2.2 != 0)))] [] (fun fb => by kernel_rfl) rfl trivial ?_
  refine WL.cutV (T := Bool) 6 (fun t => [(72, (.bool t)), (2, (.int .u16 p2)), (3, (.int .u16 p3)), (4, (.pointer (some ⟨g1, 0, none⟩))), (5, (.pointer (some ⟨g5, 0, none⟩))), (9, (.pointer (some ⟨g3007, 0, none⟩))), (10, (.int .i64 t3000.2.1)), (12, (.pointer (some ⟨g3020, 0, none⟩))), (13, (.int .i64 t3013.2.1))]) (fun t => t = ((t3000.2.2 != 0) || (t3013.2.2 != 0))) (fun K => ?_) ?_
  ·
    rcases Bool.eq_false_or_eq_true (t3000.2.2 != 0) with h3026 | h3026
    ·
      refine WL.setB 69 h3026 rfl ?_
      refine seg 6 [] [2, 3, 4, 5, 9, 10, 12, 13, 72] [(2, (.int .u16 p2)), (3, (.int .u16 p3)), (4, (.pointer (some ⟨g1, 0, none⟩))), (5, (.pointer (some ⟨g5, 0, none⟩))), (9, (.pointer (some ⟨g3007, 0, none⟩))), (10, (.int .i64 t3000.2.1)), (12, (.pointer (some ⟨g3020, 0, none⟩))), (13, (.int .i64 t3013.2.1)), (72, (.bool true))] [] (fun fb => by kernel_rfl) rfl trivial ?_
      exact WL.toV K true [72, 2, 3, 4, 5, 9, 10, 12, 13] rfl (by rw [h3026]; rfl)
    refine WL.setB 69 h3026 rfl ?_
    refine seg 6 [] [2, 3, 4, 5, 9, 10, 12, 13, 72] [(2, (.int .u16 p2)), (3, (.int .u16 p3)), (4, (.pointer (some ⟨g1, 0, none⟩))), (5, (.pointer (some ⟨g5, 0, none⟩))), (9, (.pointer (some ⟨g3007, 0, none⟩))), (10, (.int .i64 t3000.2.1)), (12, (.pointer (some ⟨g3020, 0, none⟩))), (13, (.int .i64 t3013.2.1)), (72, (.bool (t3013.2.2 != 0)))] [] (fun fb => by kernel_rfl) rfl trivial ?_
    exact WL.toV K (t3013.2.2 != 0) [72, 2, 3, 4, 5, 9, 10, 12, 13] rfl (by rw [h3026]; rfl)
  rintro b3027 rfl
  refine seg 7 [] [2, 3, 4, 5, 9, 10, 12, 13, 73] [(2, (.int .u16 p2)), (3, (.int .u16 p3)), (4, (.pointer (some ⟨g1, 0, none⟩))), (5, (.pointer (some ⟨g5, 0, none⟩))), (9, (.pointer (some ⟨g3007, 0, none⟩))), (10, (.int .i64 t3000.2.1)), (12, (.pointer (some ⟨g3020, 0, none⟩))), (13, (.int .i64 t3013.2.1)), (73, (.bool ((t3000.2.2 != 0) || (t3013.2.2 != 0))))] [] (fun fb => by kernel_rfl) rfl trivial ?_
  obtain ⟨x3034, hx3035, hf⟩ := bind_some hf
  refine WL.cutW (T := Bool) 12 (fun t => [(2, (.int .u16 p2)), (3, (.int .u16 p3)), (4, (.pointer (some ⟨g1, 0, none⟩))), (5, (.pointer (some ⟨g5, 0, none⟩))), (9, (.pointer (some ⟨g3007, 0, none⟩))), (10, (.int .i64 t3000.2.1)), (12, (.pointer (some ⟨g3020, 0, none⟩))), (13, (.int .i64 t3013.2.1)), (78, (.bool t))]) (fun t w1 => (St NoS w w1 [rowR enc_Action A_p0_Actions c_p0_Actions p0.Actions, rowR encInt A_p1_Cells c_p1_Cells p1.Cells] [blk g1 (.cells #[(.int .i64 p0.States), (.int .i64 p0.Symbols), (.slice A_p0_Actions p0.Actions.length c_p0_Actions)] 24 (0, 0)), blk g5 (.cells #[(.int .i64 p1.State), (.int .i64 p1.At), (.slice A_p1_Cells p1.Cells.length c_p1_Cells)] 27 (0, 0)), blk g3007 (.cells #[(.int .i64 t3000.1.State), (.int .i64 t3000.1.At), (.slice A3005 t3000.1.Cells.length c3006)] 27 (0, 0)), rowO 3 encInt A3005 c3006 t3000.1.Cells, blk g3020 (.cells #[(.int .i64 t3013.1.State), (.int .i64 t3013.1.At), (.slice A3018 t3013.1.Cells.length c3019)] 27 (0, 0)), rowO 3 encInt A3018 c3019 t3013.1.Cells] ∧ x3034 = t) ∧ CellsOK [] w1) (fun K => ?_) ?_
  ·
    rcases br_some hx3035 with ⟨h3036, hx3035⟩ | ⟨h3036, hx3035⟩
    ·
      refine WL.setB 73 h3036 rfl ?_
      refine seg 12 [] [2, 3, 4, 5, 9, 10, 12, 13, 78] [(2, (.int .u16 p2)), (3, (.int .u16 p3)), (4, (.pointer (some ⟨g1, 0, none⟩))), (5, (.pointer (some ⟨g5, 0, none⟩))), (9, (.pointer (some ⟨g3007, 0, none⟩))), (10, (.int .i64 t3000.2.1)), (12, (.pointer (some ⟨g3020, 0, none⟩))), (13, (.int .i64 t3013.2.1)), (78, (.bool true))] [] (fun fb => by kernel_rfl) rfl trivial ?_
      injection hx3035 with hx3035
      exact WL.to K true [2, 3, 4, 5, 9, 10, 12, 13, 78] rfl ⟨⟨(hS3025.subR [0, 1]).sub [4, 5, 2, 3, 0, 1] (by decide), hx3035.symm⟩, trivial⟩
    refine WL.setB 73 h3036 rfl ?_
    refine seg 9 [.v (.int .i64 p0.States), .v (.int .i64 p0.Symbols), .v (.slice A_p0_Actions p0.Actions.length c_p0_Actions), .v (.int .i64 t3013.1.State), .v (.int .i64 t3013.1.At), .v (.slice A3018 t3013.1.Cells.length c3019)] [2, 3, 4, 5, 9, 10, 12, 13, 73, 74, 75] [(2, (.int .u16 p2)), (3, (.int .u16 p3)), (4, (.pointer (some ⟨g1, 0, none⟩))), (5, (.pointer (some ⟨g5, 0, none⟩))), (9, (.pointer (some ⟨g3007, 0, none⟩))), (10, (.int .i64 t3000.2.1)), (12, (.pointer (some ⟨g3020, 0, none⟩))), (13, (.int .i64 t3013.2.1)), (73, (.bool false)), (74, (.agg #[(.int .i64 p0.States), (.int .i64 p0.Symbols), (.slice A_p0_Actions p0.Actions.length c_p0_Actions)])), (75, (.agg #[(.int .i64 t3013.1.State), (.int .i64 t3013.1.At), (.slice A3018 t3013.1.Cells.length c3019)]))] [.cell ⟨g1, 0, none⟩ (.int .i64 p0.States), .cell ⟨g1, 1, none⟩ (.int .i64 p0.Symbols), .cell ⟨g1, 2, none⟩ (.slice A_p0_Actions p0.Actions.length c_p0_Actions), .cell ⟨g3020, 0, none⟩ (.int .i64 t3013.1.State), .cell ⟨g3020, 1, none⟩ (.int .i64 t3013.1.At), .cell ⟨g3020, 2, none⟩ (.slice A3018 t3013.1.Cells.length c3019)] (fun fb => by kernel_rfl) rfl ⟨hS3025.cell 4 rfl 0 rfl, hS3025.cell 4 rfl 1 rfl, hS3025.cell 4 rfl 2 rfl, hS3025.cell 0 rfl 0 rfl, hS3025.cell 0 rfl 1 rfl, hS3025.cell 0 rfl 2 rfl, trivial⟩ ?_
    obtain ⟨t3037, ht3038, hx3035⟩ := bind_some hx3035
    refine WL.call (some 76) 13 #[(.agg #[(.int .i64 p0.States), (.int .i64 p0.Symbols), (.slice A_p0_Actions p0.Actions.length c_p0_Actions)]), (.agg #[(.int .i64 t3013.1.State), (.int .i64 t3013.1.At), (.slice A3018 t3013.1.Cells.length c3019)])] (fun fb => by kernel_rfl) (ref08_Fits_calls _ p0 t3013.1 A_p0_Actions c_p0_Actions A3018 c3019 t3037 _ (hS3025.rd 0) (hS3025.ow 1).ofO ht3038) (fun v w3039 hR3040 => ?_)
    obtain ⟨rfl, hk_⟩ := hR3040
    have hS3041 := hS3025.keepN hk_
    refine ⟨trivial, ?_⟩
    refine seg 12 [] [2, 3, 4, 5, 9, 10, 12, 13, 78] [(2, (.int .u16 p2)), (3, (.int .u16 p3)), (4, (.pointer (some ⟨g1, 0, none⟩))), (5, (.pointer (some ⟨g5, 0, none⟩))), (9, (.pointer (some ⟨g3007, 0, none⟩))), (10, (.int .i64 t3000.2.1)), (12, (.pointer (some ⟨g3020, 0, none⟩))), (13, (.int .i64 t3013.2.1)), (78, (.bool (!t3037)))] [] (fun fb => by kernel_rfl) rfl trivial ?_
    injection hx3035 with hx3035
    exact WL.to K (!t3037) [2, 3, 4, 5, 9, 10, 12, 13, 78] rfl ⟨⟨(hS3041.subR [0, 1]).sub [4, 5, 2, 3, 0, 1] (by decide), hx3035.symm⟩, trivial⟩
  rintro y3042 w3044 ⟨⟨hS3045, hq3043⟩, hF3046⟩
  subst hq3043
  refine WL.done rfl ?_
  refine WX.next ?_
  rcases br_some hf with ⟨h3047, hf⟩ | ⟨h3047, hf⟩
  · refine WC.condT2 (fun fb => by kernel_rfl) h3047 ?_
    refine WC.seq ?_
    refine WC.region ?_
    refine seg 1 [] [8] [(8, (.bool false))] [] (fun fb => by kernel_rfl) rfl trivial ?_
    refine WL.done rfl ?_
    refine WX.next ?_
    refine WC.ret ?_
    injection hf with hf
    subst hf
    exact WX.thenR (WX.ret_ [] (.bool false) [] (fun fb => by kernel_rfl) trivial ⟨_, rfl, rfl, hS3045.keep⟩)
  refine WC.condF2 (fun fb => by kernel_rfl) h3047 ?_
  refine WC.skip ?_
  refine WX.next ?_
  refine WC.seq ?_
  refine WC.region ?_
  refine seg 4 [.v (.int .i64 p0.States), .v (.int .i64 p0.Symbols), .v (.slice A_p0_Actions p0.Actions.length c_p0_Actions), .v (.int .i64 t3013.1.State), .v (.int .i64 t3013.1.At), .v (.slice A3018 t3013.1.Cells.length c3019)] [2, 4, 5, 9, 10, 13, 80, 81, 83] [(2, (.int .u16 p2)), (4, (.pointer (some ⟨g1, 0, none⟩))), (5, (.pointer (some ⟨g5, 0, none⟩))), (9, (.pointer (some ⟨g3007, 0, none⟩))), (10, (.int .i64 t3000.2.1)), (13, (.int .i64 t3013.2.1)), (80, (.agg #[(.int .i64 p0.States), (.int .i64 p0.Symbols), (.slice A_p0_Actions p0.Actions.length c_p0_Actions)])), (81, (.agg #[(.int .i64 t3013.1.State), (.int .i64 t3013.1.At), (.slice A3018 t3013.1.Cells.length c3019)])), (83, (.int .i64 (w64 (p3))))] [.cell ⟨g1, 0, none⟩ (.int .i64 p0.States), .cell ⟨g1, 1, none⟩ (.int .i64 p0.Symbols), .cell ⟨g1, 2, none⟩ (.slice A_p0_Actions p0.Actions.length c_p0_Actions), .cell ⟨g3020, 0, none⟩ (.int .i64 t3013.1.State), .cell ⟨g3020, 1, none⟩ (.int .i64 t3013.1.At), .cell ⟨g3020, 2, none⟩ (.slice A3018 t3013.1.Cells.length c3019)] (fun fb => by kernel_rfl) rfl ⟨hS3045.cell 0 rfl 0 rfl, hS3045.cell 0 rfl 1 rfl, hS3045.cell 0 rfl 2 rfl, hS3045.cell 4 rfl 0 rfl, hS3045.cell 4 rfl 1 rfl, hS3045.cell 4 rfl 2 rfl, trivial⟩ ?_
  obtain ⟨t3048, ht3049, hf⟩ := bind_some hf
  refine WL.call (some 84) 20 #[(.agg #[(.int .i64 p0.States), (.int .i64 p0.Symbols), (.slice A_p0_Actions p0.Actions.length c_p0_Actions)]), (.agg #[(.int .i64 t3013.1.State), (.int .i64 t3013.1.At), (.slice A3018 t3013.1.Cells.length c3019)]), (.int .i64 (w64 (p3)))] (fun fb => by kernel_rfl) (machine_Run_calls _ p0 t3013.1 (w64 (p3)) A_p0_Actions c_p0_Actions A3018 c3019 t3048 _ (hS3045.rd 0) (hS3045.ow 5).ofO ht3049) (fun v w3050 hR3051 => ?_)
  obtain ⟨A3053, c3054, rfl, hk_⟩ := hR3051
  have hS3052 : St NoS w w3050 [rowR enc_Action A_p0_Actions c_p0_Actions p0.Actions, rowR encInt A_p1_Cells c_p1_Cells p1.Cells] [rowO 3 encInt A3053 c3054 t3048.1.Cells, blk g1 (.cells #[(.int .i64 p0.States), (.int .i64 p0.Symbols), (.slice A_p0_Actions p0.Actions.length c_p0_Actions)] 24 (0, 0)), blk g5 (.cells #[(.int .i64 p1.State), (.int .i64 p1.At), (.slice A_p1_Cells p1.Cells.length c_p1_Cells)] 27 (0, 0)), blk g3007 (.cells #[(.int .i64 t3000.1.State), (.int .i64 t3000.1.At), (.slice A3005 t3000.1.Cells.length c3006)] 27 (0, 0)), rowO 3 encInt A3005 c3006 t3000.1.Cells, blk g3020 (.cells #[(.int .i64 t3013.1.State), (.int .i64 t3013.1.At), (.slice A3018 t3013.1.Cells.length c3019)] 27 (0, 0)), rowO 3 encInt A3018 c3019 t3013.1.Cells] := hS3045.call hk_ [] [0, 1, 2, 3, 4, 5] (fun g hg => hg.elim) (by simp) (by decide)
  refine ⟨trivial, ?_⟩
  refine seg 9 [] [2, 4, 5, 9, 10, 13, 85, 86, 87] [(2, (.int .u16 p2)), (4, (.pointer (some ⟨g1, 0, none⟩))), (5, (.pointer (some ⟨g5, 0, none⟩))), (9, (.pointer (some ⟨g3007, 0, none⟩))), (10, (.int .i64 t3000.2.1)), (13, (.int .i64 t3013.2.1)), (85, (.agg #[(.int .i64 t3048.1.State), (.int .i64 t3048.1.At), (.slice A3053 t3048.1.Cells.length c3054)])), (86, (.int .i64 t3048.2.1)), (87, (.int .i64 t3048.2.2))] [] (fun fb => by kernel_rfl) rfl trivial ?_
  refine WL.new hS3052 15 [] (fun g => (.pointer (some ⟨g, 0, none⟩))) (.cells #[(.int .i64 0), (.int .i64 0), (.slice none 0 0)] 27 (0, 0)) [] (fun fb g => by kernel_rfl) trivial (fun g3055 w3056 hS3057 => ?_)
  refine ⟨trivial, ?_⟩
  refine WL.store hS3057 0 rfl [(0, (.int .i64 t3048.1.State)), (1, (.int .i64 t3048.1.At)), (2, (.slice A3053 t3048.1.Cells.length c3054))] #[(.int .i64 t3048.1.State), (.int .i64 t3048.1.At), (.slice A3053 t3048.1.Cells.length c3054)] (fun fb => by kernel_rfl) (by kernel_rfl) rfl [1, 2, 3, 4, 5, 6, 7] (by decide) (by decide) (fun w3059 hS3060 => ?_)
  refine ⟨trivial, ?_⟩
  refine seg 13 [] [2, 4, 5, 9, 10, 13, 15, 16, 17] [(2, (.int .u16 p2)), (4, (.pointer (some ⟨g1, 0, none⟩))), (5, (.pointer (some ⟨g5, 0, none⟩))), (9, (.pointer (some ⟨g3007, 0, none⟩))), (10, (.int .i64 t3000.2.1)), (13, (.int .i64 t3013.2.1)), (15, (.pointer (some ⟨g3055, 0, none⟩))), (16, (.int .i64 t3048.2.1)), (17, (.int .i64 t3048.2.2))] [] (fun fb => by kernel_rfl) rfl trivial ?_
  refine WL.done rfl ?_
  refine WX.next ?_
  refine WC.seq ?_
  refine WC.seq ?_
  refine WC.region ?_
  refine seg 3 [] [2, 4, 5, 9, 10, 13, 15, 16, 90] [(2, (.int .u16 p2)), (4, (.pointer (some ⟨g1, 0, none⟩))), (5, (.pointer (some ⟨g5, 0, none⟩))), (9, (.pointer (some ⟨g3007, 0, none⟩))), (10, (.int .i64 t3000.2.1)), (13, (.int .i64 t3013.2.1)), (15, (.pointer (some ⟨g3055, 0, none⟩))), (16, (.int .i64 t3048.2.1)), (90, (.bool (t3048.2.2 != 0)))] [] (fun fb => by kernel_rfl) rfl trivial ?_
  obtain ⟨x3123, hx3124, hf⟩ := bind_some hf
  refine WL.cutW (T := Bool) 8 (fun t => [(2, (.int .u16 p2)), (4, (.pointer (some ⟨g1, 0, none⟩))), (5, (.pointer (some ⟨g5, 0, none⟩))), (10, (.int .i64 t3000.2.1)), (13, (.int .i64 t3013.2.1)), (16, (.int .i64 t3048.2.1)), (95, (.bool t))]) (fun t w1 => (St NoS w w1 [rowR enc_Action A_p0_Actions c_p0_Actions p0.Actions, rowR encInt A_p1_Cells c_p1_Cells p1.Cells] [blk g1 (.cells #[(.int .i64 p0.States), (.int .i64 p0.Symbols), (.slice A_p0_Actions p0.Actions.length c_p0_Actions)] 24 (0, 0)), blk g5 (.cells #[(.int .i64 p1.State), (.int .i64 p1.At), (.slice A_p1_Cells p1.Cells.length c_p1_Cells)] 27 (0, 0))] ∧ x3123 = t) ∧ CellsOK [] w1) (fun K => ?_) ?_
  ·
    rcases br_some hx3124 with ⟨h3125, hx3124⟩ | ⟨h3125, hx3124⟩
    ·
      refine WL.setB 90 h3125 rfl ?_
      refine seg 8 [] [2, 4, 5, 10, 13, 16, 95] [(2, (.int .u16 p2)), (4, (.pointer (some ⟨g1, 0, none⟩))), (5, (.pointer (some ⟨g5, 0, none⟩))), (10, (.int .i64 t3000.2.1)), (13, (.int .i64 t3013.2.1)), (16, (.int .i64 t3048.2.1)), (95, (.bool true))] [] (fun fb => by kernel_rfl) rfl trivial ?_
      injection hx3124 with hx3124
      exact WL.to K true [2, 4, 5, 10, 13, 16, 95] rfl ⟨⟨(hS3060.subR [0, 1]).sub [2, 3] (by decide), hx3124.symm⟩, trivial⟩
    refine WL.setB 90 h3125 rfl ?_
    refine seg 5 [.v (.int .i64 t3000.1.State), .v (.int .i64 t3000.1.At), .v (.slice A3005 t3000.1.Cells.length c3006), .v (.int .i64 t3048.1.State), .v (.int .i64 t3048.1.At), .v (.slice A3053 t3048.1.Cells.length c3054)] [2, 4, 5, 10, 13, 16, 90, 91, 92] [(2, (.int .u16 p2)), (4, (.pointer (some ⟨g1, 0, none⟩))), (5, (.pointer (some ⟨g5, 0, none⟩))), (10, (.int .i64 t3000.2.1)), (13, (.int .i64 t3013.2.1)), (16, (.int .i64 t3048.2.1)), (90, (.bool false)), (91, (.agg #[(.int .i64 t3000.1.State), (.int .i64 t3000.1.At), (.slice A3005 t3000.1.Cells.length c3006)])), (92, (.agg #[(.int .i64 t3048.1.State), (.int .i64 t3048.1.At), (.slice A3053 t3048.1.Cells.length c3054)]))] [.cell ⟨g3007, 0, none⟩ (.int .i64 t3000.1.State), .cell ⟨g3007, 1, none⟩ (.int .i64 t3000.1.At), .cell ⟨g3007, 2, none⟩ (.slice A3005 t3000.1.Cells.length c3006), .cell ⟨g3055, 0, none⟩ (.int .i64 t3048.1.State), .cell ⟨g3055, 1, none⟩ (.int .i64 t3048.1.At), .cell ⟨g3055, 2, none⟩ (.slice A3053 t3048.1.Cells.length c3054)] (fun fb => by kernel_rfl) rfl ⟨hS3060.cell 4 rfl 0 rfl, hS3060.cell 4 rfl 1 rfl, hS3060.cell 4 rfl 2 rfl, hS3060.cell 0 rfl 0 rfl, hS3060.cell 0 rfl 1 rfl, hS3060.cell 0 rfl 2 rfl, trivial⟩ ?_
    obtain ⟨t3126, ht3127, hx3124⟩ := bind_some hx3124
    refine WL.call (some 93) 21 #[(.agg #[(.int .i64 t3000.1.State), (.int .i64 t3000.1.At), (.slice A3005 t3000.1.Cells.length c3006)]), (.agg #[(.int .i64 t3048.1.State), (.int .i64 t3048.1.At), (.slice A3053 t3048.1.Cells.length c3054)])] (fun fb => by kernel_rfl) (ref08_SameConfig_calls _ t3000.1 t3048.1 A3005 c3006 A3053 c3054 t3126 _ (hS3060.ow 5).ofO (hS3060.ow 1).ofO ht3127) (fun v w3128 hR3129 => ?_)
    obtain ⟨rfl, hk_⟩ := hR3129
    have hS3130 := hS3060.keepN hk_
    refine ⟨trivial, ?_⟩
    refine seg 8 [] [2, 4, 5, 10, 13, 16, 95] [(2, (.int .u16 p2)), (4, (.pointer (some ⟨g1, 0, none⟩))), (5, (.pointer (some ⟨g5, 0, none⟩))), (10, (.int .i64 t3000.2.1)), (13, (.int .i64 t3013.2.1)), (16, (.int .i64 t3048.2.1)), (95, (.bool (!t3126)))] [] (fun fb => by kernel_rfl) rfl trivial ?_
    injection hx3124 with hx3124
    exact WL.to K (!t3126) [2, 4, 5, 10, 13, 16, 95] rfl ⟨⟨(hS3130.subR [0, 1]).sub [2, 3] (by decide), hx3124.symm⟩, trivial⟩
  rintro y3131 w3133 ⟨⟨hS3134, hq3132⟩, hF3135⟩
  subst hq3132
  refine seg 9 [] [2, 4, 5, 10, 13, 16, 96] [(2, (.int .u16 p2)), (4, (.pointer (some ⟨g1, 0, none⟩))), (5, (.pointer (some ⟨g5, 0, none⟩))), (10, (.int .i64 t3000.2.1)), (13, (.int .i64 t3013.2.1)), (16, (.int .i64 t3048.2.1)), (96, (.bool x3123))] [] (fun fb => by kernel_rfl) rfl trivial ?_
  refine WL.cutV (T := Bool) 15 (fun t => [(102, (.bool t)), (2, (.int .u16 p2)), (4, (.pointer (some ⟨g1, 0, none⟩))), (5, (.pointer (some ⟨g5, 0, none⟩)))]) (fun t => t = (x3123 || (t3000.2.1 != (w64 (t3013.2.1 + t3048.2.1))))) (fun K => ?_) ?_
  ·
    rcases Bool.eq_false_or_eq_true x3123 with h3136 | h3136
    ·
      refine WL.setB 96 h3136 rfl ?_
      refine seg 15 [] [2, 4, 5, 102] [(2, (.int .u16 p2)), (4, (.pointer (some ⟨g1, 0, none⟩))), (5, (.pointer (some ⟨g5, 0, none⟩))), (102, (.bool true))] [] (fun fb => by kernel_rfl) rfl trivial ?_
      exact WL.toV K true [102, 2, 4, 5] rfl (by rw [h3136]; rfl)
    refine WL.setB 96 h3136 rfl ?_
    refine seg 15 [] [2, 4, 5, 102] [(2, (.int .u16 p2)), (4, (.pointer (some ⟨g1, 0, none⟩))), (5, (.pointer (some ⟨g5, 0, none⟩))), (102, (.bool (t3000.2.1 != (w64 (t3013.2.1 + t3048.2.1)))))] [] (fun fb => by kernel_rfl) rfl trivial ?_
    exact WL.toV K (t3000.2.1 != (w64 (t3013.2.1 + t3048.2.1))) [102, 2, 4, 5] rfl (by rw [h3136]; rfl)
  rintro b3137 rfl
  refine WL.done rfl ?_
  refine WX.next ?_
  rcases br_some hf with ⟨h3138, hf⟩ | ⟨h3138, hf⟩
  · refine WC.condT2 (fun fb => by kernel_rfl) h3138 ?_
    refine WC.seq ?_
    refine WC.region ?_
    refine seg 1 [] [8] [(8, (.bool false))] [] (fun fb => by kernel_rfl) rfl trivial ?_
    refine WL.done rfl ?_
    refine WX.next ?_
    refine WC.ret ?_
    injection hf with hf
    subst hf
    exact WX.thenR (WX.ret_ [] (.bool false) [] (fun fb => by kernel_rfl) trivial ⟨_, rfl, rfl, hS3134.keep⟩)
  refine WC.condF2 (fun fb => by kernel_rfl) h3138 ?_
  refine WC.skip ?_
  refine WX.next ?_
  refine WC.seq ?_
  refine WC.regionD ([(5, ⟨g5, 2, none⟩, (.slice A_p1_Cells p1.Cells.length c_p1_Cells))], [0, 1, 2, 3, 4, 5, 6, 7, 8], [[], [0], [0, 1], [0, 1, 2], [], [4], [4, 5], [0, 1, 2, 3], [0, 1, 2, 3, 4, 5, 6, 7]]) [[0, 1, 2, 3, 4, 5, 6, 7, 8]] (by kernel_rfl) (by kernel_rfl) (NoPanic.seq (NoPanic.body)) ?_
  have hS3140 := hS3134.drew
  revert hS3140
  generalize World.drew w3133 = w3139
  intro hS3140
  refine ⟨⟨hS3140.cell 1 rfl 2 rfl, trivial⟩, forallC ?_ (forallN)⟩
  refine segF 9 [.v (.slice A_p1_Cells p1.Cells.length c_p1_Cells)] [4, 5, 18, 19] [(4, (.pointer (some ⟨g1, 0, none⟩))), (5, (.pointer (some ⟨g5, 0, none⟩))), (18, (.int .i64 (w64 (1 + (Int.tmod (w64 (p2)) 40))))), (19, (.int .i64 (p1.Cells.length : Int)))] [.ne 40] [0] [(5, ⟨g5, 2, none⟩, (.slice A_p1_Cells p1.Cells.length c_p1_Cells))] (fun fb => by kernel_rfl) rfl ⟨(by decide), trivial⟩ rfl ?_
  refine WL.done rfl ?_
  refine WX.next ?_
  refine WC.seq ?_
  refine WC.region ?_
  refine seg 4 [.v (.int .i64 p0.States), .v (.int .i64 p0.Symbols), .v (.slice A_p0_Actions p0.Actions.length c_p0_Actions), .v (.int .i64 p1.State), .v (.int .i64 p1.At), .v (.slice A_p1_Cells p1.Cells.length c_p1_Cells)] [4, 5, 18, 19, 111, 112, 114] [(4, (.pointer (some ⟨g1, 0, none⟩))), (5, (.pointer (some ⟨g5, 0, none⟩))), (18, (.int .i64 (w64 (1 + (Int.tmod (w64 (p2)) 40))))), (19, (.int .i64 (p1.Cells.length : Int))), (111, (.agg #[(.int .i64 p0.States), (.int .i64 p0.Symbols), (.slice A_p0_Actions p0.Actions.length c_p0_Actions)])), (112, (.agg #[(.int .i64 p1.State), (.int .i64 p1.At), (.slice A_p1_Cells p1.Cells.length c_p1_Cells)])), (114, (.int .i64 (w64 ((w64 (1 + (Int.tmod (w64 (p2)) 40))) + 1))))] [.cell ⟨g1, 0, none⟩ (.int .i64 p0.States), .cell ⟨g1, 1, none⟩ (.int .i64 p0.Symbols), .cell ⟨g1, 2, none⟩ (.slice A_p0_Actions p0.Actions.length c_p0_Actions), .cell ⟨g5, 0, none⟩ (.int .i64 p1.State), .cell ⟨g5, 1, none⟩ (.int .i64 p1.At), .cell ⟨g5, 2, none⟩ (.slice A_p1_Cells p1.Cells.length c_p1_Cells)] (fun fb => by kernel_rfl) rfl ⟨hS3140.cell 0 rfl 0 rfl, hS3140.cell 0 rfl 1 rfl, hS3140.cell 0 rfl 2 rfl, hS3140.cell 1 rfl 0 rfl, hS3140.cell 1 rfl 1 rfl, hS3140.cell 1 rfl 2 rfl, trivial⟩ ?_
  obtain ⟨t3141, ht3142, hf⟩ := bind_some hf
  refine WL.call (some 115) 12 #[(.agg #[(.int .i64 p0.States), (.int .i64 p0.Symbols), (.slice A_p0_Actions p0.Actions.length c_p0_Actions)]), (.agg #[(.int .i64 p1.State), (.int .i64 p1.At), (.slice A_p1_Cells p1.Cells.length c_p1_Cells)]), (.int .i64 (w64 ((w64 (1 + (Int.tmod (w64 (p2)) 40))) + 1)))] (fun fb => by kernel_rfl) (machine_Picture_calls _ p0 p1 (w64 ((w64 (1 + (Int.tmod (w64 (p2)) 40))) + 1)) A_p0_Actions c_p0_Actions A_p1_Cells c_p1_Cells t3141 _ (hS3140.rd 0) (hS3140.rd 1) ht3142) (fun v w3143 hR3144 => ?_)
  obtain ⟨A3146, c3147, rfl, hk_⟩ := hR3144
  have hS3145 : St NoS w w3143 [rowR enc_Action A_p0_Actions c_p0_Actions p0.Actions, rowR encInt A_p1_Cells c_p1_Cells p1.Cells] [rowO 3 encInt A3146 c3147 t3141.1.Cells, blk g1 (.cells #[(.int .i64 p0.States), (.int .i64 p0.Symbols), (.slice A_p0_Actions p0.Actions.length c_p0_Actions)] 24 (0, 0)), blk g5 (.cells #[(.int .i64 p1.State), (.int .i64 p1.At), (.slice A_p1_Cells p1.Cells.length c_p1_Cells)] 27 (0, 0))] := hS3140.call hk_ [] [0, 1] (fun g hg => hg.elim) (by simp) (by decide)
  refine ⟨trivial, ?_⟩
  refine seg 8 [] [4, 5, 18, 19, 116, 117] [(4, (.pointer (some ⟨g1, 0, none⟩))), (5, (.pointer (some ⟨g5, 0, none⟩))), (18, (.int .i64 (w64 (1 + (Int.tmod (w64 (p2)) 40))))), (19, (.int .i64 (p1.Cells.length : Int))), (116, (.agg #[(.int .i64 t3141.1.Width), (.int .i64 t3141.1.Height), (.slice A3146 t3141.1.Cells.length c3147)])), (117, (.int .i64 t3141.2))] [] (fun fb => by kernel_rfl) rfl trivial ?_
  refine WL.new hS3145 20 [] (fun g => (.pointer (some ⟨g, 0, none⟩))) (.cells #[(.int .i64 0), (.int .i64 0), (.slice none 0 0)] 31 (0, 0)) [] (fun fb g => by kernel_rfl) trivial (fun g3148 w3149 hS3150 => ?_)
  refine ⟨trivial, ?_⟩
  refine WL.store hS3150 0 rfl [(0, (.int .i64 t3141.1.Width)), (1, (.int .i64 t3141.1.Height)), (2, (.slice A3146 t3141.1.Cells.length c3147))] #[(.int .i64 t3141.1.Width), (.int .i64 t3141.1.Height), (.slice A3146 t3141.1.Cells.length c3147)] (fun fb => by kernel_rfl) (by kernel_rfl) rfl [1, 2, 3] (by decide) (by decide) (fun w3152 hS3153 => ?_)
  refine ⟨trivial, ?_⟩
  refine seg 11 [] [4, 5, 18, 19, 20, 21] [(4, (.pointer (some ⟨g1, 0, none⟩))), (5, (.pointer (some ⟨g5, 0, none⟩))), (18, (.int .i64 (w64 (1 + (Int.tmod (w64 (p2)) 40))))), (19, (.int .i64 (p1.Cells.length : Int))), (20, (.pointer (some ⟨g3148, 0, none⟩))), (21, (.int .i64 t3141.2))] [] (fun fb => by kernel_rfl) rfl trivial ?_
  refine WL.done rfl ?_
  refine WX.next ?_
  refine WC.seq ?_
  refine WC.region ?_
  refine seg 2 [.v (.int .i64 p0.States), .v (.int .i64 p0.Symbols), .v (.slice A_p0_Actions p0.Actions.length c_p0_Actions), .v (.int .i64 p1.State), .v (.int .i64 p1.At), .v (.slice A_p1_Cells p1.Cells.length c_p1_Cells)] [4, 18, 19, 20, 21, 119, 120] [(4, (.pointer (some ⟨g1, 0, none⟩))), (18, (.int .i64 (w64 (1 + (Int.tmod (w64 (p2)) 40))))), (19, (.int .i64 (p1.Cells.length : Int))), (20, (.pointer (some ⟨g3148, 0, none⟩))), (21, (.int .i64 t3141.2)), (119, (.agg #[(.int .i64 p0.States), (.int .i64 p0.Symbols), (.slice A_p0_Actions p0.Actions.length c_p0_Actions)])), (120, (.agg #[(.int .i64 p1.State), (.int .i64 p1.At), (.slice A_p1_Cells p1.Cells.length c_p1_Cells)]))] [.cell ⟨g1, 0, none⟩ (.int .i64 p0.States), .cell ⟨g1, 1, none⟩ (.int .i64 p0.Symbols), .cell ⟨g1, 2, none⟩ (.slice A_p0_Actions p0.Actions.length c_p0_Actions), .cell ⟨g5, 0, none⟩ (.int .i64 p1.State), .cell ⟨g5, 1, none⟩ (.int .i64 p1.At), .cell ⟨g5, 2, none⟩ (.slice A_p1_Cells p1.Cells.length c_p1_Cells)] (fun fb => by kernel_rfl) rfl ⟨hS3153.cell 2 rfl 0 rfl, hS3153.cell 2 rfl 1 rfl, hS3153.cell 2 rfl 2 rfl, hS3153.cell 3 rfl 0 rfl, hS3153.cell 3 rfl 1 rfl, hS3153.cell 3 rfl 2 rfl, trivial⟩ ?_
  obtain ⟨t3196, ht3197, hf⟩ := bind_some hf
  refine WL.call (some 121) 19 #[(.agg #[(.int .i64 p0.States), (.int .i64 p0.Symbols), (.slice A_p0_Actions p0.Actions.length c_p0_Actions)]), (.agg #[(.int .i64 p1.State), (.int .i64 p1.At), (.slice A_p1_Cells p1.Cells.length c_p1_Cells)])] (fun fb => by kernel_rfl) (machine_Step_calls _ p0 p1 A_p0_Actions c_p0_Actions A_p1_Cells c_p1_Cells t3196 _ (hS3153.rd 0) (hS3153.rd 1) ht3197) (fun v w3198 hR3199 => ?_)
  obtain ⟨A3201, c3202, rfl, hk_⟩ := hR3199
  have hS3200 : St NoS w w3198 [rowR enc_Action A_p0_Actions c_p0_Actions p0.Actions, rowR encInt A_p1_Cells c_p1_Cells p1.Cells] [rowO 3 encInt A3201 c3202 t3196.1.Cells, blk g3148 (.cells #[(.int .i64 t3141.1.Width), (.int .i64 t3141.1.Height), (.slice A3146 t3141.1.Cells.length c3147)] 31 (0, 0)), rowO 3 encInt A3146 c3147 t3141.1.Cells, blk g1 (.cells #[(.int .i64 p0.States), (.int .i64 p0.Symbols), (.slice A_p0_Actions p0.Actions.length c_p0_Actions)] 24 (0, 0)), blk g5 (.cells #[(.int .i64 p1.State), (.int .i64 p1.At), (.slice A_p1_Cells p1.Cells.length c_p1_Cells)] 27 (0, 0))] := hS3153.call hk_ [] [0, 1, 2, 3] (fun g hg => hg.elim) (by simp) (by decide)
  refine ⟨trivial, ?_⟩
  refine seg 6 [] [4, 18, 19, 20, 21, 122, 123] [(4, (.pointer (some ⟨g1, 0, none⟩))), (18, (.int .i64 (w64 (1 + (Int.tmod (w64 (p2)) 40))))), (19, (.int .i64 (p1.Cells.length : Int))), (20, (.pointer (some ⟨g3148, 0, none⟩))), (21, (.int .i64 t3141.2)), (122, (.agg #[(.int .i64 t3196.1.State), (.int .i64 t3196.1.At), (.slice A3201 t3196.1.Cells.length c3202)])), (123, (.int .i64 t3196.2))] [] (fun fb => by kernel_rfl) rfl trivial ?_
  refine WL.new hS3200 22 [] (fun g => (.pointer (some ⟨g, 0, none⟩))) (.cells #[(.int .i64 0), (.int .i64 0), (.slice none 0 0)] 27 (0, 0)) [] (fun fb g => by kernel_rfl) trivial (fun g3203 w3204 hS3205 => ?_)
  refine ⟨trivial, ?_⟩
  refine WL.store hS3205 0 rfl [(0, (.int .i64 t3196.1.State)), (1, (.int .i64 t3196.1.At)), (2, (.slice A3201 t3196.1.Cells.length c3202))] #[(.int .i64 t3196.1.State), (.int .i64 t3196.1.At), (.slice A3201 t3196.1.Cells.length c3202)] (fun fb => by kernel_rfl) (by kernel_rfl) rfl [1, 2, 3, 4, 5] (by decide) (by decide) (fun w3207 hS3208 => ?_)
  refine ⟨trivial, ?_⟩
  refine seg 9 [] [4, 18, 19, 20, 21, 22, 23] [(4, (.pointer (some ⟨g1, 0, none⟩))), (18, (.int .i64 (w64 (1 + (Int.tmod (w64 (p2)) 40))))), (19, (.int .i64 (p1.Cells.length : Int))), (20, (.pointer (some ⟨g3148, 0, none⟩))), (21, (.int .i64 t3141.2)), (22, (.pointer (some ⟨g3203, 0, none⟩))), (23, (.int .i64 t3196.2))] [] (fun fb => by kernel_rfl) rfl trivial ?_
  refine WL.done rfl ?_
  refine WX.next ?_
  refine WC.seq ?_
  refine WC.seq ?_
  refine WC.region ?_
  refine seg 6 [] [4, 18, 19, 20, 21, 22, 23, 129] [(4, (.pointer (some ⟨g1, 0, none⟩))), (18, (.int .i64 (w64 (1 + (Int.tmod (w64 (p2)) 40))))), (19, (.int .i64 (p1.Cells.length : Int))), (20, (.pointer (some ⟨g3148, 0, none⟩))), (21, (.int .i64 t3141.2)), (22, (.pointer (some ⟨g3203, 0, none⟩))), (23, (.int .i64 t3196.2)), (129, (.bool (decide (w64 ((p1.Cells.length : Int) * (w64 ((w64 (1 + (Int.tmod (w64 (p2)) 40))) + 1))) > 6000))))] [] (fun fb => by kernel_rfl) rfl trivial ?_
  refine WL.cutV (T := Bool) 9 (fun t => [(132, (.bool t)), (4, (.pointer (some ⟨g1, 0, none⟩))), (18, (.int .i64 (w64 (1 + (Int.tmod (w64 (p2)) 40))))), (19, (.int .i64 (p1.Cells.length : Int))), (20, (.pointer (some ⟨g3148, 0, none⟩))), (22, (.pointer (some ⟨g3203, 0, none⟩))), (23, (.int .i64 t3196.2))]) (fun t => t = ((decide (w64 ((p1.Cells.length : Int) * (w64 ((w64 (1 + (Int.tmod (w64 (p2)) 40))) + 1))) > 6000)) || (t3141.2 != 0))) (fun K => ?_) ?_
  ·
    rcases Bool.eq_false_or_eq_true (decide (w64 ((p1.Cells.length : Int) * (w64 ((w64 (1 + (Int.tmod (w64 (p2)) 40))) + 1))) > 6000)) with h3209 | h3209
    ·
      refine WL.setB 129 h3209 rfl ?_
      refine seg 9 [] [4, 18, 19, 20, 22, 23, 132] [(4, (.pointer (some ⟨g1, 0, none⟩))), (18, (.int .i64 (w64 (1 + (Int.tmod (w64 (p2)) 40))))), (19, (.int .i64 (p1.Cells.length : Int))), (20, (.pointer (some ⟨g3148, 0, none⟩))), (22, (.pointer (some ⟨g3203, 0, none⟩))), (23, (.int .i64 t3196.2)), (132, (.bool true))] [] (fun fb => by kernel_rfl) rfl trivial ?_
      exact WL.toV K true [132, 4, 18, 19, 20, 22, 23] rfl (by rw [h3209]; rfl)
    refine WL.setB 129 h3209 rfl ?_
    refine seg 9 [] [4, 18, 19, 20, 22, 23, 132] [(4, (.pointer (some ⟨g1, 0, none⟩))), (18, (.int .i64 (w64 (1 + (Int.tmod (w64 (p2)) 40))))), (19, (.int .i64 (p1.Cells.length : Int))), (20, (.pointer (some ⟨g3148, 0, none⟩))), (22, (.pointer (some ⟨g3203, 0, none⟩))), (23, (.int .i64 t3196.2)), (132, (.bool (t3141.2 != 0)))] [] (fun fb => by kernel_rfl) rfl trivial ?_
    exact WL.toV K (t3141.2 != 0) [132, 4, 18, 19, 20, 22, 23] rfl (by rw [h3209]; rfl)
  rintro b3210 rfl
  refine seg 10 [] [4, 18, 19, 20, 22, 23, 133] [(4, (.pointer (some ⟨g1, 0, none⟩))), (18, (.int .i64 (w64 (1 + (Int.tmod (w64 (p2)) 40))))), (19, (.int .i64 (p1.Cells.length : Int))), (20, (.pointer (some ⟨g3148, 0, none⟩))), (22, (.pointer (some ⟨g3203, 0, none⟩))), (23, (.int .i64 t3196.2)), (133, (.bool ((decide (w64 ((p1.Cells.length : Int) * (w64 ((w64 (1 + (Int.tmod (w64 (p2)) 40))) + 1))) > 6000)) || (t3141.2 != 0))))] [] (fun fb => by kernel_rfl) rfl trivial ?_
  refine WL.cutV (T := Bool) 13 (fun t => [(136, (.bool t)), (4, (.pointer (some ⟨g1, 0, none⟩))), (18, (.int .i64 (w64 (1 + (Int.tmod (w64 (p2)) 40))))), (19, (.int .i64 (p1.Cells.length : Int))), (20, (.pointer (some ⟨g3148, 0, none⟩))), (22, (.pointer (some ⟨g3203, 0, none⟩)))]) (fun t => t = (((decide (w64 ((p1.Cells.length : Int) * (w64 ((w64 (1 + (Int.tmod (w64 (p2)) 40))) + 1))) > 6000)) || (t3141.2 != 0)) || (t3196.2 != 0))) (fun K => ?_) ?_
  ·
    rcases Bool.eq_false_or_eq_true ((decide (w64 ((p1.Cells.length : Int) * (w64 ((w64 (1 + (Int.tmod (w64 (p2)) 40))) + 1))) > 6000)) || (t3141.2 != 0)) with h3211 | h3211
    ·
      refine WL.setB 133 h3211 rfl ?_
      refine seg 13 [] [4, 18, 19, 20, 22, 136] [(4, (.pointer (some ⟨g1, 0, none⟩))), (18, (.int .i64 (w64 (1 + (Int.tmod (w64 (p2)) 40))))), (19, (.int .i64 (p1.Cells.length : Int))), (20, (.pointer (some ⟨g3148, 0, none⟩))), (22, (.pointer (some ⟨g3203, 0, none⟩))), (136, (.bool true))] [] (fun fb => by kernel_rfl) rfl trivial ?_
      exact WL.toV K true [136, 4, 18, 19, 20, 22] rfl (by rw [h3211]; rfl)
    refine WL.setB 133 h3211 rfl ?_
    refine seg 13 [] [4, 18, 19, 20, 22, 136] [(4, (.pointer (some ⟨g1, 0, none⟩))), (18, (.int .i64 (w64 (1 + (Int.tmod (w64 (p2)) 40))))), (19, (.int .i64 (p1.Cells.length : Int))), (20, (.pointer (some ⟨g3148, 0, none⟩))), (22, (.pointer (some ⟨g3203, 0, none⟩))), (136, (.bool (t3196.2 != 0)))] [] (fun fb => by kernel_rfl) rfl trivial ?_
    exact WL.toV K (t3196.2 != 0) [136, 4, 18, 19, 20, 22] rfl (by rw [h3211]; rfl)
  rintro b3212 rfl
  refine WL.done rfl ?_
  refine WX.next ?_
  rcases br_some hf with ⟨h3213, hf⟩ | ⟨h3213, hf⟩
  · refine WC.condT2 (fun fb => by kernel_rfl) h3213 ?_
    refine WC.seq ?_
    refine WC.region ?_
    obtain ⟨t3214, ht3215, hf⟩ := bind_some hf
    refine WL.call (some 137) 11 #[] (fun fb => by kernel_rfl) (law08_awake_calls _ t3214 _ ht3215) (fun v w3216 hR3217 => ?_)
    obtain ⟨rfl, hk_⟩ := hR3217
    have hS3218 := hS3208.keepN hk_
    refine ⟨trivial, ?_⟩
    refine seg 2 [] [8] [(8, (.bool t3214))] [] (fun fb => by kernel_rfl) rfl trivial ?_
    refine WL.done rfl ?_
    refine WX.next ?_
    refine WC.ret ?_
    injection hf with hf
    subst hf
    exact WX.thenR (WX.ret_ [] (.bool t3214) [] (fun fb => by kernel_rfl) trivial ⟨_, rfl, rfl, hS3218.keep⟩)
  refine WC.condF2 (fun fb => by kernel_rfl) h3213 ?_
  refine WC.skip ?_
  refine WX.next ?_
  refine WC.seq ?_
  refine WC.region ?_
  refine seg 3 [.v (.int .i64 p0.States), .v (.int .i64 p0.Symbols), .v (.slice A_p0_Actions p0.Actions.length c_p0_Actions), .v (.int .i64 t3196.1.State), .v (.int .i64 t3196.1.At), .v (.slice A3201 t3196.1.Cells.length c3202)] [18, 19, 20, 139, 140, 141] [(18, (.int .i64 (w64 (1 + (Int.tmod (w64 (p2)) 40))))), (19, (.int .i64 (p1.Cells.length : Int))), (20, (.pointer (some ⟨g3148, 0, none⟩))), (139, (.agg #[(.int .i64 p0.States), (.int .i64 p0.Symbols), (.slice A_p0_Actions p0.Actions.length c_p0_Actions)])), (140, (.agg #[(.int .i64 t3196.1.State), (.int .i64 t3196.1.At), (.slice A3201 t3196.1.Cells.length c3202)])), (141, (.int .i64 (w64 (1 + (Int.tmod (w64 (p2)) 40)))))] [.cell ⟨g1, 0, none⟩ (.int .i64 p0.States), .cell ⟨g1, 1, none⟩ (.int .i64 p0.Symbols), .cell ⟨g1, 2, none⟩ (.slice A_p0_Actions p0.Actions.length c_p0_Actions), .cell ⟨g3203, 0, none⟩ (.int .i64 t3196.1.State), .cell ⟨g3203, 1, none⟩ (.int .i64 t3196.1.At), .cell ⟨g3203, 2, none⟩ (.slice A3201 t3196.1.Cells.length c3202)] (fun fb => by kernel_rfl) rfl ⟨hS3208.cell 4 rfl 0 rfl, hS3208.cell 4 rfl 1 rfl, hS3208.cell 4 rfl 2 rfl, hS3208.cell 0 rfl 0 rfl, hS3208.cell 0 rfl 1 rfl, hS3208.cell 0 rfl 2 rfl, trivial⟩ ?_
  obtain ⟨t3219, ht3220, hf⟩ := bind_some hf
  refine WL.call (some 142) 12 #[(.agg #[(.int .i64 p0.States), (.int .i64 p0.Symbols), (.slice A_p0_Actions p0.Actions.length c_p0_Actions)]), (.agg #[(.int .i64 t3196.1.State), (.int .i64 t3196.1.At), (.slice A3201 t3196.1.Cells.length c3202)]), (.int .i64 (w64 (1 + (Int.tmod (w64 (p2)) 40))))] (fun fb => by kernel_rfl) (machine_Picture_calls _ p0 t3196.1 (w64 (1 + (Int.tmod (w64 (p2)) 40))) A_p0_Actions c_p0_Actions A3201 c3202 t3219 _ (hS3208.rd 0) (hS3208.ow 1).ofO ht3220) (fun v w3221 hR3222 => ?_)
  obtain ⟨A3224, c3225, rfl, hk_⟩ := hR3222
  have hS3223 : St NoS w w3221 [rowR enc_Action A_p0_Actions c_p0_Actions p0.Actions, rowR encInt A_p1_Cells c_p1_Cells p1.Cells] [rowO 3 encInt A3224 c3225 t3219.1.Cells, blk g3203 (.cells #[(.int .i64 t3196.1.State), (.int .i64 t3196.1.At), (.slice A3201 t3196.1.Cells.length c3202)] 27 (0, 0)), rowO 3 encInt A3201 c3202 t3196.1.Cells, blk g3148 (.cells #[(.int .i64 t3141.1.Width), (.int .i64 t3141.1.Height), (.slice A3146 t3141.1.Cells.length c3147)] 31 (0, 0)), rowO 3 encInt A3146 c3147 t3141.1.Cells, blk g1 (.cells #[(.int .i64 p0.States), (.int .i64 p0.Symbols), (.slice A_p0_Actions p0.Actions.length c_p0_Actions)] 24 (0, 0)), blk g5 (.cells #[(.int .i64 p1.State), (.int .i64 p1.At), (.slice A_p1_Cells p1.Cells.length c_p1_Cells)] 27 (0, 0))] := hS3208.call hk_ [] [0, 1, 2, 3, 4, 5] (fun g hg => hg.elim) (by simp) (by decide)
  refine ⟨trivial, ?_⟩
  refine seg 7 [] [18, 19, 20, 143, 144] [(18, (.int .i64 (w64 (1 + (Int.tmod (w64 (p2)) 40))))), (19, (.int .i64 (p1.Cells.length : Int))), (20, (.pointer (some ⟨g3148, 0, none⟩))), (143, (.agg #[(.int .i64 t3219.1.Width), (.int .i64 t3219.1.Height), (.slice A3224 t3219.1.Cells.length c3225)])), (144, (.int .i64 t3219.2))] [] (fun fb => by kernel_rfl) rfl trivial ?_
  refine WL.new hS3223 24 [] (fun g => (.pointer (some ⟨g, 0, none⟩))) (.cells #[(.int .i64 0), (.int .i64 0), (.slice none 0 0)] 31 (0, 0)) [] (fun fb g => by kernel_rfl) trivial (fun g3226 w3227 hS3228 => ?_)
  refine ⟨trivial, ?_⟩
  refine WL.store hS3228 0 rfl [(0, (.int .i64 t3219.1.Width)), (1, (.int .i64 t3219.1.Height)), (2, (.slice A3224 t3219.1.Cells.length c3225))] #[(.int .i64 t3219.1.Width), (.int .i64 t3219.1.Height), (.slice A3224 t3219.1.Cells.length c3225)] (fun fb => by kernel_rfl) (by kernel_rfl) rfl [1, 2, 3, 4, 5, 6, 7] (by decide) (by decide) (fun w3230 hS3231 => ?_)
  refine ⟨trivial, ?_⟩
  refine seg 10 [] [18, 19, 20, 24, 25] [(18, (.int .i64 (w64 (1 + (Int.tmod (w64 (p2)) 40))))), (19, (.int .i64 (p1.Cells.length : Int))), (20, (.pointer (some ⟨g3148, 0, none⟩))), (24, (.pointer (some ⟨g3226, 0, none⟩))), (25, (.int .i64 t3219.2))] [] (fun fb => by kernel_rfl) rfl trivial ?_
  refine WL.done rfl ?_
  refine WX.next ?_
  refine WC.seq ?_
  refine WC.region ?_
  refine seg 3 [.v (.int .i64 t3141.1.Width), .v (.int .i64 t3141.1.Height), .v (.slice A3146 t3141.1.Cells.length c3147)] [24, 25, 146, 147, 148] [(24, (.pointer (some ⟨g3226, 0, none⟩))), (25, (.int .i64 t3219.2)), (146, (.agg #[(.int .i64 t3141.1.Width), (.int .i64 t3141.1.Height), (.slice A3146 t3141.1.Cells.length c3147)])), (147, (.int .i64 (p1.Cells.length : Int))), (148, (.int .i64 (w64 (1 + (Int.tmod (w64 (p2)) 40)))))] [.cell ⟨g3148, 0, none⟩ (.int .i64 t3141.1.Width), .cell ⟨g3148, 1, none⟩ (.int .i64 t3141.1.Height), .cell ⟨g3148, 2, none⟩ (.slice A3146 t3141.1.Cells.length c3147)] (fun fb => by kernel_rfl) rfl ⟨hS3231.cell 4 rfl 0 rfl, hS3231.cell 4 rfl 1 rfl, hS3231.cell 4 rfl 2 rfl, trivial⟩ ?_
  obtain ⟨t3377, ht3378, hf⟩ := bind_some hf
  refine WL.call (some 149) 24 #[(.agg #[(.int .i64 t3141.1.Width), (.int .i64 t3141.1.Height), (.slice A3146 t3141.1.Cells.length c3147)]), (.int .i64 0), (.int .i64 1), (.int .i64 (p1.Cells.length : Int)), (.int .i64 (w64 (1 + (Int.tmod (w64 (p2)) 40))))] (fun fb => by kernel_rfl) (tile_Cut_calls _ t3141.1 0 1 (p1.Cells.length : Int) (w64 (1 + (Int.tmod (w64 (p2)) 40))) A3146 c3147 t3377 _ (hS3231.ow 5).ofO ht3378) (fun v w3379 hR3380 => ?_)
  obtain ⟨A3382, c3383, rfl, hk_⟩ := hR3380
  have hS3381 : St NoS w w3379 [rowR enc_Action A_p0_Actions c_p0_Actions p0.Actions, rowR encInt A_p1_Cells c_p1_Cells p1.Cells] [rowO 3 encInt A3382 c3383 t3377.1.Cells, blk g3226 (.cells #[(.int .i64 t3219.1.Width), (.int .i64 t3219.1.Height), (.slice A3224 t3219.1.Cells.length c3225)] 31 (0, 0)), rowO 3 encInt A3224 c3225 t3219.1.Cells, blk g3203 (.cells #[(.int .i64 t3196.1.State), (.int .i64 t3196.1.At), (.slice A3201 t3196.1.Cells.length c3202)] 27 (0, 0)), rowO 3 encInt A3201 c3202 t3196.1.Cells, blk g3148 (.cells #[(.int .i64 t3141.1.Width), (.int .i64 t3141.1.Height), (.slice A3146 t3141.1.Cells.length c3147)] 31 (0, 0)), rowO 3 encInt A3146 c3147 t3141.1.Cells, blk g1 (.cells #[(.int .i64 p0.States), (.int .i64 p0.Symbols), (.slice A_p0_Actions p0.Actions.length c_p0_Actions)] 24 (0, 0)), blk g5 (.cells #[(.int .i64 p1.State), (.int .i64 p1.At), (.slice A_p1_Cells p1.Cells.length c_p1_Cells)] 27 (0, 0))] := hS3231.call hk_ [] [0, 1, 2, 3, 4, 5, 6, 7] (fun g hg => hg.elim) (by simp) (by decide)
  refine ⟨trivial, ?_⟩
  refine seg 7 [] [24, 25, 150, 151] [(24, (.pointer (some ⟨g3226, 0, none⟩))), (25, (.int .i64 t3219.2)), (150, (.agg #[(.int .i64 t3377.1.Width), (.int .i64 t3377.1.Height), (.slice A3382 t3377.1.Cells.length c3383)])), (151, (.int .i64 t3377.2))] [] (fun fb => by kernel_rfl) rfl trivial ?_
  refine WL.new hS3381 26 [] (fun g => (.pointer (some ⟨g, 0, none⟩))) (.cells #[(.int .i64 0), (.int .i64 0), (.slice none 0 0)] 31 (0, 0)) [] (fun fb g => by kernel_rfl) trivial (fun g3384 w3385 hS3386 => ?_)
  refine ⟨trivial, ?_⟩
  refine WL.store hS3386 0 rfl [(0, (.int .i64 t3377.1.Width)), (1, (.int .i64 t3377.1.Height)), (2, (.slice A3382 t3377.1.Cells.length c3383))] #[(.int .i64 t3377.1.Width), (.int .i64 t3377.1.Height), (.slice A3382 t3377.1.Cells.length c3383)] (fun fb => by kernel_rfl) (by kernel_rfl) rfl [1, 2, 3, 4, 5, 6, 7, 8, 9] (by decide) (by decide) (fun w3388 hS3389 => ?_)
  refine ⟨trivial, ?_⟩
  refine seg 10 [] [24, 25, 26, 27] [(24, (.pointer (some ⟨g3226, 0, none⟩))), (25, (.int .i64 t3219.2)), (26, (.pointer (some ⟨g3384, 0, none⟩))), (27, (.int .i64 t3377.2))] [] (fun fb => by kernel_rfl) rfl trivial ?_
  refine WL.done rfl ?_
  refine WX.next ?_
  refine WC.seq ?_
  refine WC.region ?_
  refine seg 3 [] [24, 26, 27, 154] [(24, (.pointer (some ⟨g3226, 0, none⟩))), (26, (.pointer (some ⟨g3384, 0, none⟩))), (27, (.int .i64 t3377.2)), (154, (.bool (t3219.2 == 0)))] [] (fun fb => by kernel_rfl) rfl trivial ?_
  refine WL.cutV (T := Bool) 6 (fun t => [(157, (.bool t)), (24, (.pointer (some ⟨g3226, 0, none⟩))), (26, (.pointer (some ⟨g3384, 0, none⟩)))]) (fun t => t = ((t3219.2 == 0) && (t3377.2 == 0))) (fun K => ?_) ?_
  ·
    rcases Bool.eq_false_or_eq_true (t3219.2 == 0) with h3390 | h3390
    ·
      refine WL.setB 154 h3390 rfl ?_
      refine seg 6 [] [24, 26, 157] [(24, (.pointer (some ⟨g3226, 0, none⟩))), (26, (.pointer (some ⟨g3384, 0, none⟩))), (157, (.bool (t3377.2 == 0)))] [] (fun fb => by kernel_rfl) rfl trivial ?_
      exact WL.toV K (t3377.2 == 0) [157, 24, 26] rfl (by rw [h3390]; rfl)
    refine WL.setB 154 h3390 rfl ?_
    refine seg 6 [] [24, 26, 157] [(24, (.pointer (some ⟨g3226, 0, none⟩))), (26, (.pointer (some ⟨g3384, 0, none⟩))), (157, (.bool false))] [] (fun fb => by kernel_rfl) rfl trivial ?_
    exact WL.toV K false [157, 24, 26] rfl (by rw [h3390]; rfl)
  rintro b3391 rfl
  refine seg 7 [] [24, 26, 158] [(24, (.pointer (some ⟨g3226, 0, none⟩))), (26, (.pointer (some ⟨g3384, 0, none⟩))), (158, (.bool ((t3219.2 == 0) && (t3377.2 == 0))))] [] (fun fb => by kernel_rfl) rfl trivial ?_
  obtain ⟨x3471, hx3472, hf⟩ := bind_some hf
  refine WL.cutW (T := Bool) 11 (fun t => [(162, (.bool t))]) (fun t w1 => (St NoS w w1 [rowR enc_Action A_p0_Actions c_p0_Actions p0.Actions, rowR encInt A_p1_Cells c_p1_Cells p1.Cells] [] ∧ x3471 = t) ∧ CellsOK [] w1) (fun K => ?_) ?_
  ·
    rcases br_some hx3472 with ⟨h3473, hx3472⟩ | ⟨h3473, hx3472⟩
    ·
      refine WL.setB 158 h3473 rfl ?_
      refine seg 9 [.v (.int .i64 t3219.1.Width), .v (.int .i64 t3219.1.Height), .v (.slice A3224 t3219.1.Cells.length c3225), .v (.int .i64 t3377.1.Width), .v (.int .i64 t3377.1.Height), .v (.slice A3382 t3377.1.Cells.length c3383)] [158, 159, 160] [(158, (.bool true)), (159, (.agg #[(.int .i64 t3219.1.Width), (.int .i64 t3219.1.Height), (.slice A3224 t3219.1.Cells.length c3225)])), (160, (.agg #[(.int .i64 t3377.1.Width), (.int .i64 t3377.1.Height), (.slice A3382 t3377.1.Cells.length c3383)]))] [.cell ⟨g3226, 0, none⟩ (.int .i64 t3219.1.Width), .cell ⟨g3226, 1, none⟩ (.int .i64 t3219.1.Height), .cell ⟨g3226, 2, none⟩ (.slice A3224 t3219.1.Cells.length c3225), .cell ⟨g3384, 0, none⟩ (.int .i64 t3377.1.Width), .cell ⟨g3384, 1, none⟩ (.int .i64 t3377.1.Height), .cell ⟨g3384, 2, none⟩ (.slice A3382 t3377.1.Cells.length c3383)] (fun fb => by kernel_rfl) rfl ⟨hS3389.cell 2 rfl 0 rfl, hS3389.cell 2 rfl 1 rfl, hS3389.cell 2 rfl 2 rfl, hS3389.cell 0 rfl 0 rfl, hS3389.cell 0 rfl 1 rfl, hS3389.cell 0 rfl 2 rfl, trivial⟩ ?_
      obtain ⟨t3474, ht3475, hx3472⟩ := bind_some hx3472
      refine WL.call (some 161) 14 #[(.agg #[(.int .i64 t3219.1.Width), (.int .i64 t3219.1.Height), (.slice A3224 t3219.1.Cells.length c3225)]), (.agg #[(.int .i64 t3377.1.Width), (.int .i64 t3377.1.Height), (.slice A3382 t3377.1.Cells.length c3383)])] (fun fb => by kernel_rfl) (ref01_SamePattern_calls _ t3219.1 t3377.1 A3224 c3225 A3382 c3383 t3474 _ (hS3389.ow 3).ofO (hS3389.ow 1).ofO ht3475) (fun v w3476 hR3477 => ?_)
      obtain ⟨rfl, hk_⟩ := hR3477
      have hS3478 := hS3389.keepN hk_
      refine ⟨trivial, ?_⟩
      refine seg 11 [] [162] [(162, (.bool t3474))] [] (fun fb => by kernel_rfl) rfl trivial ?_
      injection hx3472 with hx3472
      exact WL.to K t3474 [162] rfl ⟨⟨(hS3478.subR [0, 1]).sub [] (by decide), hx3472.symm⟩, trivial⟩
    refine WL.setB 158 h3473 rfl ?_
    refine seg 11 [] [162] [(162, (.bool false))] [] (fun fb => by kernel_rfl) rfl trivial ?_
    injection hx3472 with hx3472
    exact WL.to K false [162] rfl ⟨⟨(hS3389.subR [0, 1]).sub [] (by decide), hx3472.symm⟩, trivial⟩
  rintro y3479 w3481 ⟨⟨hS3482, hq3480⟩, hF3483⟩
  subst hq3480
  refine seg 12 [] [163] [(163, (.bool x3471))] [] (fun fb => by kernel_rfl) rfl trivial ?_
  obtain ⟨x3490, hx3491, hf⟩ := bind_some hf
  refine WL.cutW (T := Bool) 14 (fun t => [(165, (.bool t))]) (fun t w1 => (St NoS w w1 [rowR enc_Action A_p0_Actions c_p0_Actions p0.Actions, rowR encInt A_p1_Cells c_p1_Cells p1.Cells] [] ∧ x3490 = t) ∧ CellsOK [] w1) (fun K => ?_) ?_
  ·
    rcases br_some hx3491 with ⟨h3492, hx3491⟩ | ⟨h3492, hx3491⟩
    ·
      refine WL.setB 163 h3492 rfl ?_
      obtain ⟨t3493, ht3494, hx3491⟩ := bind_some hx3491
      refine WL.call (some 164) 11 #[] (fun fb => by kernel_rfl) (law08_awake_calls _ t3493 _ ht3494) (fun v w3495 hR3496 => ?_)
      obtain ⟨rfl, hk_⟩ := hR3496
      have hS3497 := hS3482.keepN hk_
      refine ⟨trivial, ?_⟩
      refine seg 14 [] [165] [(165, (.bool t3493))] [] (fun fb => by kernel_rfl) rfl trivial ?_
      injection hx3491 with hx3491
      exact WL.to K t3493 [165] rfl ⟨⟨(hS3497.subR [0, 1]).sub [] (by decide), hx3491.symm⟩, trivial⟩
    refine WL.setB 163 h3492 rfl ?_
    refine seg 14 [] [165] [(165, (.bool false))] [] (fun fb => by kernel_rfl) rfl trivial ?_
    injection hx3491 with hx3491
    exact WL.to K false [165] rfl ⟨⟨(hS3482.subR [0, 1]).sub [] (by decide), hx3491.symm⟩, trivial⟩
  rintro y3498 w3500 ⟨⟨hS3501, hq3499⟩, hF3502⟩
  subst hq3499
  refine seg 15 [] [8] [(8, (.bool x3490))] [] (fun fb => by kernel_rfl) rfl trivial ?_
  refine WL.done rfl ?_
  refine WX.next ?_
  refine WC.ret ?_
  injection hf with hf
  subst hf
  exact WX.ret_ [] (.bool x3490) [] (fun fb => by kernel_rfl) trivial ⟨_, rfl, rfl, hS3501.keep⟩
end Gp
